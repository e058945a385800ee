/-
  Part 15 of the proof: how the calls of this program run, over values instead of memory, and what each function computes.
-/
import Derived.Test.YtjcbhpmmngfmeaaGreatKn
set_option maxRecDepth 100000
set_option linter.unusedVariables false
set_option linter.unusedSimpArgs false
set_option linter.unnecessarySimpa false
set_option linter.unusedSectionVars false
open And renaming intro→Wa
open Bool renaming and_self→Wc,and_eq_true→Wi
open List renaming all_cons→Wd,all_nil→We,getElem_mem→Wg,mem_singleton→Wh,getElem?_eq_getElem→Wj,drop_of_length_le→Wl,drop_eq_getElem_cons→Wm,eq_nil_of_length_eq_zero→Wn,getD_eq_getElem?_getD→Wp
open Nat renaming zero_le→Wf
open Option renaming getD_some→Wk
open Int renaming toNat_natCast→Wo
namespace Go.Ab
open Go.RowKit Go.Proofs
theorem zuJ {g:G} (hg:OkG g) {p:List Int} (hp:p.length≠0) (hr:∀b∈p,0≤b∧b < (g.blocks.length:Int)):∃(x:Nat) (hx:x < g.blocks.length),p.getD (p.length - 1) 0=(x:Int)∧zbX g p=zH g.blocks[x].stmts:=by
 have hl:p.length - 1 < p.length:=by omega
 have h1:=hr _ (Wg hl);refine⟨p[p.length - 1].toNat,by omega,?_,?_⟩
 · simp only[List.getD,Wj hl,Wk];omega
 ·
  unfold zbX;rw[List.getLast?_eq_getElem?,Wj hl,Wk]
  have h2:p[p.length - 1].toNat < g.blocks.length:=by omega
  simp[blkG,h2]
theorem zrM (g:G) (hg:OkG g) (hcl:∀b∈g.blocks,(zH b.stmts).length≤1000) (l:List (List Int)) (hl:l.length≤1024) (hm:∀x∈l,x.length≤1000∧∀b∈x,0≤b∧b < (g.blocks.length:Int)):zr Tryz.prog zjq [.agg g.cells,zae l] (·=zae (zhD g l)):=by
 refine fn_x zrD rfl ?_;unfold zme zhD;have hB:=hBig;generalize hR:(l.flatMap (extU g)).foldl zam []=R
 have hnx:=fun p hp hr=>zuJ (g:=g) hg (p:=p) hp hr
 have hstm:=hg.stmts;obtain⟨ad,bl⟩:=g;simp only[G.cells] at hcl hnx hstm hm ⊢
 (refine Ql ?_;intros)
 refine zq (fun s:Nat × List (List Int)=>([(1,zae l),(2,encP 2 [.int .u32 ad,encL 2 Bl.cells bl]),(5,zae s.2),(6,.int .i64 s.1)],[])) 0 (fun s=>s.1≤l.length∧s.2.length≤s.1 * 1001∧(∀x∈s.2,x.length≤1001)∧((l.drop s.1).flatMap (extU ⟨ad,bl⟩)).foldl zam s.2=R) (fun s=>l.length - s.1) (0,[]) ⟨Wf _,by simp,by simp,by simpa using hR⟩ ?_ ?_
 · exact(Ent.tab [] [1] rfl (by((try simp only[evWB,Nat.reduceBEq,Nat.reduceAdd,Nat.reduceSub,Nat.reduceLeDiff,Nat.reduceLT,implies_true])<;>((repeat' with_reducible apply Wa)<;>first|omega|rfl | (first|exact zhq (l:=[]) rfl rfl (Wf _)|exact zah rfl;done) | (refine zl zo (by decide) ⟨rfl,rfl⟩ ?_;(try simp only[evWB,Nat.reduceBEq,Nat.reduceAdd,Nat.reduceSub,Nat.reduceLeDiff,Nat.reduceLT,implies_true])<;>((repeat' with_reducible apply Wa)<;>first|omega|rfl | (refine zl zo (by decide) ⟨rfl,rfl⟩ ?_;(try simp only[evWB,Nat.reduceBEq,Nat.reduceAdd,Nat.reduceSub,Nat.reduceLeDiff,Nat.reduceLT,implies_true])<;>((repeat' with_reducible apply Wa)<;>first|omega|rfl|exact rowV_mps (fun _=>rfl)|exact Vw.it _ _ rfl|exact Vw.mp _ _ _ _ rfl|exact zl zo (by decide) ⟨rfl,rfl⟩ trivial|exact zl zo (by decide) (fun _ _=>⟨rfl,rfl⟩) trivial | (refine zcB rfl ?_;(repeat' (first|exact zc zo|exact rowI_flat|exact zc (fun _=>rfl)|exact zc (fun _=>zd)|exact zc (fun _=>zb)|exact zg zd|exact zg zb|exact zF rfl|exact zG|exact zg rfl|refine zx ?_ ?_|refine ze rfl ?_|refine ze zd ?_|refine ze zb ?_));done)|exact zbt rfl | (refine RowV.of_flat ?_;(repeat' (first|exact zc zo|exact rowI_flat|exact zc (fun _=>rfl)|exact zc (fun _=>zd)|exact zc (fun _=>zb)|exact zg zd|exact zg zb|exact zF rfl|exact zG|exact zg rfl|refine zx ?_ ?_|refine ze rfl ?_|refine ze zd ?_|refine ze zb ?_));done) | ((repeat' (first|exact zc zo|exact rowI_flat|exact zc (fun _=>rfl)|exact zc (fun _=>zd)|exact zc (fun _=>zb)|exact zg zd|exact zg zb|exact zF rfl|exact zG|exact zg rfl|refine zx ?_ ?_|refine ze rfl ?_|refine ze zd ?_|refine ze zb ?_));done)|exact zbJ rfl rfl (by omega)|exact z6 rfl rfl (by omega)|exact zaZ rfl rfl (by omega)|exact zbY (fun _=>rfl)|exact zl (fun _=>rfl) (by decide) ⟨rfl,rfl⟩ trivial|exact zl (fun _=>rfl) (by decide) (fun _ _=>⟨rfl,rfl⟩) trivial | (simp;done));done)|exact rowV_mps (fun _=>rfl)|exact Vw.it _ _ rfl|exact Vw.mp _ _ _ _ rfl|exact zl zo (by decide) ⟨rfl,rfl⟩ trivial|exact zl zo (by decide) (fun _ _=>⟨rfl,rfl⟩) trivial | (refine zcB rfl ?_;(repeat' (first|exact zc zo|exact rowI_flat|exact zc (fun _=>rfl)|exact zc (fun _=>zd)|exact zc (fun _=>zb)|exact zg zd|exact zg zb|exact zF rfl|exact zG|exact zg rfl|refine zx ?_ ?_|refine ze rfl ?_|refine ze zd ?_|refine ze zb ?_));done)|exact zbt rfl | (refine RowV.of_flat ?_;(repeat' (first|exact zc zo|exact rowI_flat|exact zc (fun _=>rfl)|exact zc (fun _=>zd)|exact zc (fun _=>zb)|exact zg zd|exact zg zb|exact zF rfl|exact zG|exact zg rfl|refine zx ?_ ?_|refine ze rfl ?_|refine ze zd ?_|refine ze zb ?_));done) | ((repeat' (first|exact zc zo|exact rowI_flat|exact zc (fun _=>rfl)|exact zc (fun _=>zd)|exact zc (fun _=>zb)|exact zg zd|exact zg zb|exact zF rfl|exact zG|exact zg rfl|refine zx ?_ ?_|refine ze rfl ?_|refine ze zd ?_|refine ze zb ?_));done)|exact zbJ rfl rfl (by omega)|exact z6 rfl rfl (by omega)|exact zaZ rfl rfl (by omega)|exact zbY (fun _=>rfl)|exact zl (fun _=>rfl) (by decide) ⟨rfl,rfl⟩ trivial|exact zl (fun _=>rfl) (by decide) (fun _ _=>⟨rfl,rfl⟩) trivial | (simp;done));done)|exact rowV_mps (fun _=>rfl)|exact Vw.it _ _ rfl|exact Vw.mp _ _ _ _ rfl|exact zl zo (by decide) ⟨rfl,rfl⟩ trivial|exact zl zo (by decide) (fun _ _=>⟨rfl,rfl⟩) trivial | (refine zcB rfl ?_;(repeat' (first|exact zc zo|exact rowI_flat|exact zc (fun _=>rfl)|exact zc (fun _=>zd)|exact zc (fun _=>zb)|exact zg zd|exact zg zb|exact zF rfl|exact zG|exact zg rfl|refine zx ?_ ?_|refine ze rfl ?_|refine ze zd ?_|refine ze zb ?_));done)|exact zbt rfl | (refine RowV.of_flat ?_;(repeat' (first|exact zc zo|exact rowI_flat|exact zc (fun _=>rfl)|exact zc (fun _=>zd)|exact zc (fun _=>zb)|exact zg zd|exact zg zb|exact zF rfl|exact zG|exact zg rfl|refine zx ?_ ?_|refine ze rfl ?_|refine ze zd ?_|refine ze zb ?_));done) | ((repeat' (first|exact zc zo|exact rowI_flat|exact zc (fun _=>rfl)|exact zc (fun _=>zd)|exact zc (fun _=>zb)|exact zg zd|exact zg zb|exact zF rfl|exact zG|exact zg rfl|refine zx ?_ ?_|refine ze rfl ?_|refine ze zd ?_|refine ze zb ?_));done)|exact zbJ rfl rfl (by omega)|exact z6 rfl rfl (by omega)|exact zaZ rfl rfl (by omega)|exact zbY (fun _=>rfl)|exact zl (fun _=>rfl) (by decide) ⟨rfl,rfl⟩ trivial|exact zl (fun _=>rfl) (by decide) (fun _ _=>⟨rfl,rfl⟩) trivial | (simp;done)))) (by((try simp only[evWB,Nat.reduceBEq,Nat.reduceAdd,Nat.reduceSub,Nat.reduceLeDiff,Nat.reduceLT,implies_true])<;>((repeat' with_reducible apply Wa)<;>first|omega|rfl | (first|exact zhq (l:=[]) rfl rfl (Wf _)|exact zah rfl;done) | (refine zl zo (by decide) ⟨rfl,rfl⟩ ?_;(try simp only[evWB,Nat.reduceBEq,Nat.reduceAdd,Nat.reduceSub,Nat.reduceLeDiff,Nat.reduceLT,implies_true])<;>((repeat' with_reducible apply Wa)<;>first|omega|rfl | (refine zl zo (by decide) ⟨rfl,rfl⟩ ?_;(try simp only[evWB,Nat.reduceBEq,Nat.reduceAdd,Nat.reduceSub,Nat.reduceLeDiff,Nat.reduceLT,implies_true])<;>((repeat' with_reducible apply Wa)<;>first|omega|rfl|exact rowV_mps (fun _=>rfl)|exact Vw.it _ _ rfl|exact Vw.mp _ _ _ _ rfl|exact zl zo (by decide) ⟨rfl,rfl⟩ trivial|exact zl zo (by decide) (fun _ _=>⟨rfl,rfl⟩) trivial | (refine zcB rfl ?_;(repeat' (first|exact zc zo|exact rowI_flat|exact zc (fun _=>rfl)|exact zc (fun _=>zd)|exact zc (fun _=>zb)|exact zg zd|exact zg zb|exact zF rfl|exact zG|exact zg rfl|refine zx ?_ ?_|refine ze rfl ?_|refine ze zd ?_|refine ze zb ?_));done)|exact zbt rfl | (refine RowV.of_flat ?_;(repeat' (first|exact zc zo|exact rowI_flat|exact zc (fun _=>rfl)|exact zc (fun _=>zd)|exact zc (fun _=>zb)|exact zg zd|exact zg zb|exact zF rfl|exact zG|exact zg rfl|refine zx ?_ ?_|refine ze rfl ?_|refine ze zd ?_|refine ze zb ?_));done) | ((repeat' (first|exact zc zo|exact rowI_flat|exact zc (fun _=>rfl)|exact zc (fun _=>zd)|exact zc (fun _=>zb)|exact zg zd|exact zg zb|exact zF rfl|exact zG|exact zg rfl|refine zx ?_ ?_|refine ze rfl ?_|refine ze zd ?_|refine ze zb ?_));done)|exact zbJ rfl rfl (by omega)|exact z6 rfl rfl (by omega)|exact zaZ rfl rfl (by omega)|exact zbY (fun _=>rfl)|exact zl (fun _=>rfl) (by decide) ⟨rfl,rfl⟩ trivial|exact zl (fun _=>rfl) (by decide) (fun _ _=>⟨rfl,rfl⟩) trivial | (simp;done));done)|exact rowV_mps (fun _=>rfl)|exact Vw.it _ _ rfl|exact Vw.mp _ _ _ _ rfl|exact zl zo (by decide) ⟨rfl,rfl⟩ trivial|exact zl zo (by decide) (fun _ _=>⟨rfl,rfl⟩) trivial | (refine zcB rfl ?_;(repeat' (first|exact zc zo|exact rowI_flat|exact zc (fun _=>rfl)|exact zc (fun _=>zd)|exact zc (fun _=>zb)|exact zg zd|exact zg zb|exact zF rfl|exact zG|exact zg rfl|refine zx ?_ ?_|refine ze rfl ?_|refine ze zd ?_|refine ze zb ?_));done)|exact zbt rfl | (refine RowV.of_flat ?_;(repeat' (first|exact zc zo|exact rowI_flat|exact zc (fun _=>rfl)|exact zc (fun _=>zd)|exact zc (fun _=>zb)|exact zg zd|exact zg zb|exact zF rfl|exact zG|exact zg rfl|refine zx ?_ ?_|refine ze rfl ?_|refine ze zd ?_|refine ze zb ?_));done) | ((repeat' (first|exact zc zo|exact rowI_flat|exact zc (fun _=>rfl)|exact zc (fun _=>zd)|exact zc (fun _=>zb)|exact zg zd|exact zg zb|exact zF rfl|exact zG|exact zg rfl|refine zx ?_ ?_|refine ze rfl ?_|refine ze zd ?_|refine ze zb ?_));done)|exact zbJ rfl rfl (by omega)|exact z6 rfl rfl (by omega)|exact zaZ rfl rfl (by omega)|exact zbY (fun _=>rfl)|exact zl (fun _=>rfl) (by decide) ⟨rfl,rfl⟩ trivial|exact zl (fun _=>rfl) (by decide) (fun _ _=>⟨rfl,rfl⟩) trivial | (simp;done));done)|exact rowV_mps (fun _=>rfl)|exact Vw.it _ _ rfl|exact Vw.mp _ _ _ _ rfl|exact zl zo (by decide) ⟨rfl,rfl⟩ trivial|exact zl zo (by decide) (fun _ _=>⟨rfl,rfl⟩) trivial | (refine zcB rfl ?_;(repeat' (first|exact zc zo|exact rowI_flat|exact zc (fun _=>rfl)|exact zc (fun _=>zd)|exact zc (fun _=>zb)|exact zg zd|exact zg zb|exact zF rfl|exact zG|exact zg rfl|refine zx ?_ ?_|refine ze rfl ?_|refine ze zd ?_|refine ze zb ?_));done)|exact zbt rfl | (refine RowV.of_flat ?_;(repeat' (first|exact zc zo|exact rowI_flat|exact zc (fun _=>rfl)|exact zc (fun _=>zd)|exact zc (fun _=>zb)|exact zg zd|exact zg zb|exact zF rfl|exact zG|exact zg rfl|refine zx ?_ ?_|refine ze rfl ?_|refine ze zd ?_|refine ze zb ?_));done) | ((repeat' (first|exact zc zo|exact rowI_flat|exact zc (fun _=>rfl)|exact zc (fun _=>zd)|exact zc (fun _=>zb)|exact zg zd|exact zg zb|exact zF rfl|exact zG|exact zg rfl|refine zx ?_ ?_|refine ze rfl ?_|refine ze zd ?_|refine ze zb ?_));done)|exact zbJ rfl rfl (by omega)|exact z6 rfl rfl (by omega)|exact zaZ rfl rfl (by omega)|exact zbY (fun _=>rfl)|exact zl (fun _=>rfl) (by decide) ⟨rfl,rfl⟩ trivial|exact zl (fun _=>rfl) (by decide) (fun _ _=>⟨rfl,rfl⟩) trivial | (simp;done)))))
 rintro⟨i,out⟩ ⟨hi,ho,hoe,hgo⟩ wf;simp only at hi ho hoe hgo;clear wf;unfold zi8
 by_cases hil:i < l.length
 case neg =>
  rw[Wl (by omega),List.flatMap_nil,List.foldl_nil] at hgo;subst hgo
  (refine Qu ?_;intros)
  unfold ziO
  (repeat first|simp(disch:=try exact dis1) only[evD,Nat.reduceBEq,Nat.reduceAdd,Nat.reduceLeDiff,zae,zml]|with_reducible first|intro _|refine aJ ?_)
  exact⟨_,zah rfl,rfl⟩
 rw[Wm hil,List.flatMap_cons,List.foldl_append] at hgo;have gp:(l.map cP).getD i []=[za l[i]]:=zp (f:=cP) (d:=[]) hil;have hp:=hm _ (Wg hil);generalize l[i]=p at hgo gp hp
 have hgi:∀(N:List Int) (k:Nat),k < N.length→(N.map fun n=>[AV.int .i64 n]).getD k []=[.int .i64 (N.getD k 0)]:=fun N k h=>by rw[zp (f:=fun n=>[AV.int .i64 n]) h];simp[List.getD,h]
 have hN:∃(N:List Int) (out1:List (List Int)),out1.length≤out.length+1∧(∀x∈out1,x.length≤1001)∧N.length≤1000∧List.foldl zam (List.foldl zam out1 (N.map fun b=>p++[b])) (List.flatMap (extU ⟨ad,bl⟩) (List.drop (i+1) l))=R ∧
   ((p.length=0∧N=[0]∧out1=out)∨(p.length≠0∧N=zbX ⟨ad,bl⟩ p∧(N.length=0∧out1=zam out p∨N.length≠0∧out1=out))):=by
  by_cases hp0:p.length=0
  · obtain rfl:p=[]:=Wn hp0;exact⟨[0],out,by omega,hoe,by simp,hgo,.inl ⟨rfl,rfl,rfl⟩⟩
  ·
   obtain⟨x,hx,hx1,hx2⟩:=hnx p hp0 hp.2
   have hle:(zbX ⟨ad,bl⟩ p).length≤1000:=by rw[hx2];exact hcl _ (Wg hx)
   unfold extU at hgo;rw[if_neg hp0] at hgo
   by_cases hn:(zbX ⟨ad,bl⟩ p).length=0
   ·
    rw[if_pos hn] at hgo;refine⟨zbX ⟨ad,bl⟩ p,zam out p,zjA _ _,fun y hy=>?_,hle,?_,.inr ⟨hp0,rfl,.inl ⟨hn,rfl⟩⟩⟩
    ·
     rcases zfh.1 hy with h|rfl
     · exact hoe y h
     · have:=hp.1;omega
    · rw[Wn hn];exact hgo
   · rw[if_neg hn] at hgo;exact⟨zbX ⟨ad,bl⟩ p,out,by omega,hoe,hle,hgo,.inr ⟨hp0,rfl,.inr ⟨hn,rfl⟩⟩⟩
 obtain⟨N,out1,ho1,hoe1,hNl,hgo1,hcase⟩:=hN
 rcases hcase with ⟨hp0,hN0,ho0⟩ | ⟨hp0,hN0,hcase⟩
 case' inl =>
  have hN1:N.length=1:=by rw[hN0];rfl
  subst ho0
  (repeat first|simp(disch:=try exact dis1) only[evD,Nat.reduceBEq,Nat.reduceAdd,Nat.reduceLeDiff,dT,dF,zae,gp,za]|with_reducible first|intro _|refine aJ ?_)
 case' inr =>
  obtain⟨x,hx,hx1,hx2⟩:=hnx p hp0 hp.2
  have hgx:(p.map fun n=>[AV.int .i64 n]).getD (p.length - 1) []=[.int .i64 (x:Int)]:=by rw[hgi p _ (by omega),hx1]
  have hgb:(bl.map Bl.cells).getD x []=Bl.cells bl[x]:=zp hx;have hsu:=zmy bl[x] (hstm _ (Wg hx));rw[←hx2,←hN0] at hsu;have hw1:IntKind.i64.wrap ((p.length:Int) - 1)=(p.length:Int) - 1:=zpu (by omega) (by omega)
  have hto:((p.length:Int) - 1).toNat=p.length - 1:=by omega
  generalize bl[x]=bb at hgb hsu;obtain⟨bad,bst⟩:=bb;simp only[Bl.cells] at hgb hsu
  (repeat first|simp(disch:=try exact dis1) only[evD,Nat.reduceBEq,Nat.reduceAdd,Nat.reduceLeDiff,dT,dF,zae,gp,za,hgx,hgb,hw1,hto,fldP,Wo]|with_reducible first|intro _|refine aJ ?_)
  refine za4 (zm hsu rfl) ?_
  rcases hcase with ⟨hn,ho0⟩ | ⟨hn,ho0⟩
  case' inl =>
   have hinc:=zk2 out p (by omega) (by have:=hp.1;omega) (fun x hx=>by have:=hoe x hx;omega);rw[←ho0] at hinc
   (repeat first|simp(disch:=try exact dis1) only[evD,Nat.reduceBEq,Nat.reduceAdd,Nat.reduceLeDiff,dT,zae,gp,za]|with_reducible first|intro _|refine aJ ?_)
   refine zh (zm hinc rfl) ?_
   (repeat first|simp(disch:=try exact dis1) only[evD,Nat.reduceBEq,Nat.reduceAdd,Nat.reduceLeDiff,dT,zae,gp,za]|with_reducible first|intro _|refine aJ ?_)
  case' inr =>
   subst ho0
   (repeat first|simp(disch:=try exact dis1) only[evD,Nat.reduceBEq,Nat.reduceAdd,Nat.reduceLeDiff,dF,zae,gp,za]|with_reducible first|intro _|refine aJ ?_)
 all_goals
  refine zq (fun s:Nat × List (List Int)=>([(1,zae l),(2,encP 2 [.int .u32 ad,encL 2 Bl.cells bl]),(5,zae s.2),(6,.int .i64 i),(7,za N),(8,.int .i64 s.1)],[])) 0 (fun s=>s.1≤N.length∧s.2.length≤out1.length+s.1∧(∀x∈s.2,x.length≤1001)∧List.foldl zam (List.foldl zam s.2 ((N.drop s.1).map fun b=>p++[b])) (List.flatMap (extU ⟨ad,bl⟩) (List.drop (i+1) l))=R) (fun s=>N.length - s.1) (0,out1) ⟨Wf _,Nat.le_refl _,hoe1,by simpa using hgo1⟩ ?_ ?_
  · first
    | (have hq:=hN1;subst hN0;exact(Ent.tab [] [0] rfl (by((try simp only[evWB,Nat.reduceBEq,Nat.reduceAdd,Nat.reduceSub,Nat.reduceLeDiff,Nat.reduceLT,implies_true,zae])<;>((repeat' with_reducible apply Wa)<;>first|omega|rfl | (exact z6 (l:=[0]) rfl rfl (by decide);done) | (refine zl zo (by decide) ⟨rfl,rfl⟩ ?_;(try simp only[evWB,Nat.reduceBEq,Nat.reduceAdd,Nat.reduceSub,Nat.reduceLeDiff,Nat.reduceLT,implies_true,zae])<;>((repeat' with_reducible apply Wa)<;>first|omega|rfl | (refine zl zo (by decide) ⟨rfl,rfl⟩ ?_;(try simp only[evWB,Nat.reduceBEq,Nat.reduceAdd,Nat.reduceSub,Nat.reduceLeDiff,Nat.reduceLT,implies_true,zae])<;>((repeat' with_reducible apply Wa)<;>first|omega|rfl|exact rowV_mps (fun _=>rfl)|exact Vw.it _ _ rfl|exact Vw.mp _ _ _ _ rfl|exact zl zo (by decide) ⟨rfl,rfl⟩ trivial|exact zl zo (by decide) (fun _ _=>⟨rfl,rfl⟩) trivial | (refine zcB rfl ?_;(repeat' (first|exact zc zo|exact rowI_flat|exact zc (fun _=>rfl)|exact zc (fun _=>zd)|exact zc (fun _=>zb)|exact zg zd|exact zg zb|exact zF rfl|exact zG|exact zg rfl|refine zx ?_ ?_|refine ze rfl ?_|refine ze zd ?_|refine ze zb ?_));done)|exact zbt rfl | (refine RowV.of_flat ?_;(repeat' (first|exact zc zo|exact rowI_flat|exact zc (fun _=>rfl)|exact zc (fun _=>zd)|exact zc (fun _=>zb)|exact zg zd|exact zg zb|exact zF rfl|exact zG|exact zg rfl|refine zx ?_ ?_|refine ze rfl ?_|refine ze zd ?_|refine ze zb ?_));done) | ((repeat' (first|exact zc zo|exact rowI_flat|exact zc (fun _=>rfl)|exact zc (fun _=>zd)|exact zc (fun _=>zb)|exact zg zd|exact zg zb|exact zF rfl|exact zG|exact zg rfl|refine zx ?_ ?_|refine ze rfl ?_|refine ze zd ?_|refine ze zb ?_));done)|exact zbJ rfl rfl (by omega)|exact z6 rfl rfl (by omega)|exact zaZ rfl rfl (by omega)|exact zbY (fun _=>rfl)|exact zl (fun _=>rfl) (by decide) ⟨rfl,rfl⟩ trivial|exact zl (fun _=>rfl) (by decide) (fun _ _=>⟨rfl,rfl⟩) trivial | (simp;done));done)|exact rowV_mps (fun _=>rfl)|exact Vw.it _ _ rfl|exact Vw.mp _ _ _ _ rfl|exact zl zo (by decide) ⟨rfl,rfl⟩ trivial|exact zl zo (by decide) (fun _ _=>⟨rfl,rfl⟩) trivial | (refine zcB rfl ?_;(repeat' (first|exact zc zo|exact rowI_flat|exact zc (fun _=>rfl)|exact zc (fun _=>zd)|exact zc (fun _=>zb)|exact zg zd|exact zg zb|exact zF rfl|exact zG|exact zg rfl|refine zx ?_ ?_|refine ze rfl ?_|refine ze zd ?_|refine ze zb ?_));done)|exact zbt rfl | (refine RowV.of_flat ?_;(repeat' (first|exact zc zo|exact rowI_flat|exact zc (fun _=>rfl)|exact zc (fun _=>zd)|exact zc (fun _=>zb)|exact zg zd|exact zg zb|exact zF rfl|exact zG|exact zg rfl|refine zx ?_ ?_|refine ze rfl ?_|refine ze zd ?_|refine ze zb ?_));done) | ((repeat' (first|exact zc zo|exact rowI_flat|exact zc (fun _=>rfl)|exact zc (fun _=>zd)|exact zc (fun _=>zb)|exact zg zd|exact zg zb|exact zF rfl|exact zG|exact zg rfl|refine zx ?_ ?_|refine ze rfl ?_|refine ze zd ?_|refine ze zb ?_));done)|exact zbJ rfl rfl (by omega)|exact z6 rfl rfl (by omega)|exact zaZ rfl rfl (by omega)|exact zbY (fun _=>rfl)|exact zl (fun _=>rfl) (by decide) ⟨rfl,rfl⟩ trivial|exact zl (fun _=>rfl) (by decide) (fun _ _=>⟨rfl,rfl⟩) trivial | (simp;done));done)|exact rowV_mps (fun _=>rfl)|exact Vw.it _ _ rfl|exact Vw.mp _ _ _ _ rfl|exact zl zo (by decide) ⟨rfl,rfl⟩ trivial|exact zl zo (by decide) (fun _ _=>⟨rfl,rfl⟩) trivial | (refine zcB rfl ?_;(repeat' (first|exact zc zo|exact rowI_flat|exact zc (fun _=>rfl)|exact zc (fun _=>zd)|exact zc (fun _=>zb)|exact zg zd|exact zg zb|exact zF rfl|exact zG|exact zg rfl|refine zx ?_ ?_|refine ze rfl ?_|refine ze zd ?_|refine ze zb ?_));done)|exact zbt rfl | (refine RowV.of_flat ?_;(repeat' (first|exact zc zo|exact rowI_flat|exact zc (fun _=>rfl)|exact zc (fun _=>zd)|exact zc (fun _=>zb)|exact zg zd|exact zg zb|exact zF rfl|exact zG|exact zg rfl|refine zx ?_ ?_|refine ze rfl ?_|refine ze zd ?_|refine ze zb ?_));done) | ((repeat' (first|exact zc zo|exact rowI_flat|exact zc (fun _=>rfl)|exact zc (fun _=>zd)|exact zc (fun _=>zb)|exact zg zd|exact zg zb|exact zF rfl|exact zG|exact zg rfl|refine zx ?_ ?_|refine ze rfl ?_|refine ze zd ?_|refine ze zb ?_));done)|exact zbJ rfl rfl (by omega)|exact z6 rfl rfl (by omega)|exact zaZ rfl rfl (by omega)|exact zbY (fun _=>rfl)|exact zl (fun _=>rfl) (by decide) ⟨rfl,rfl⟩ trivial|exact zl (fun _=>rfl) (by decide) (fun _ _=>⟨rfl,rfl⟩) trivial | (simp;done)))) (by((try simp only[evWB,Nat.reduceBEq,Nat.reduceAdd,Nat.reduceSub,Nat.reduceLeDiff,Nat.reduceLT,implies_true,zae])<;>((repeat' with_reducible apply Wa)<;>first|omega|rfl | (exact z6 (l:=[0]) rfl rfl (by decide);done) | (refine zl zo (by decide) ⟨rfl,rfl⟩ ?_;(try simp only[evWB,Nat.reduceBEq,Nat.reduceAdd,Nat.reduceSub,Nat.reduceLeDiff,Nat.reduceLT,implies_true,zae])<;>((repeat' with_reducible apply Wa)<;>first|omega|rfl | (refine zl zo (by decide) ⟨rfl,rfl⟩ ?_;(try simp only[evWB,Nat.reduceBEq,Nat.reduceAdd,Nat.reduceSub,Nat.reduceLeDiff,Nat.reduceLT,implies_true,zae])<;>((repeat' with_reducible apply Wa)<;>first|omega|rfl|exact rowV_mps (fun _=>rfl)|exact Vw.it _ _ rfl|exact Vw.mp _ _ _ _ rfl|exact zl zo (by decide) ⟨rfl,rfl⟩ trivial|exact zl zo (by decide) (fun _ _=>⟨rfl,rfl⟩) trivial | (refine zcB rfl ?_;(repeat' (first|exact zc zo|exact rowI_flat|exact zc (fun _=>rfl)|exact zc (fun _=>zd)|exact zc (fun _=>zb)|exact zg zd|exact zg zb|exact zF rfl|exact zG|exact zg rfl|refine zx ?_ ?_|refine ze rfl ?_|refine ze zd ?_|refine ze zb ?_));done)|exact zbt rfl | (refine RowV.of_flat ?_;(repeat' (first|exact zc zo|exact rowI_flat|exact zc (fun _=>rfl)|exact zc (fun _=>zd)|exact zc (fun _=>zb)|exact zg zd|exact zg zb|exact zF rfl|exact zG|exact zg rfl|refine zx ?_ ?_|refine ze rfl ?_|refine ze zd ?_|refine ze zb ?_));done) | ((repeat' (first|exact zc zo|exact rowI_flat|exact zc (fun _=>rfl)|exact zc (fun _=>zd)|exact zc (fun _=>zb)|exact zg zd|exact zg zb|exact zF rfl|exact zG|exact zg rfl|refine zx ?_ ?_|refine ze rfl ?_|refine ze zd ?_|refine ze zb ?_));done)|exact zbJ rfl rfl (by omega)|exact z6 rfl rfl (by omega)|exact zaZ rfl rfl (by omega)|exact zbY (fun _=>rfl)|exact zl (fun _=>rfl) (by decide) ⟨rfl,rfl⟩ trivial|exact zl (fun _=>rfl) (by decide) (fun _ _=>⟨rfl,rfl⟩) trivial | (simp;done));done)|exact rowV_mps (fun _=>rfl)|exact Vw.it _ _ rfl|exact Vw.mp _ _ _ _ rfl|exact zl zo (by decide) ⟨rfl,rfl⟩ trivial|exact zl zo (by decide) (fun _ _=>⟨rfl,rfl⟩) trivial | (refine zcB rfl ?_;(repeat' (first|exact zc zo|exact rowI_flat|exact zc (fun _=>rfl)|exact zc (fun _=>zd)|exact zc (fun _=>zb)|exact zg zd|exact zg zb|exact zF rfl|exact zG|exact zg rfl|refine zx ?_ ?_|refine ze rfl ?_|refine ze zd ?_|refine ze zb ?_));done)|exact zbt rfl | (refine RowV.of_flat ?_;(repeat' (first|exact zc zo|exact rowI_flat|exact zc (fun _=>rfl)|exact zc (fun _=>zd)|exact zc (fun _=>zb)|exact zg zd|exact zg zb|exact zF rfl|exact zG|exact zg rfl|refine zx ?_ ?_|refine ze rfl ?_|refine ze zd ?_|refine ze zb ?_));done) | ((repeat' (first|exact zc zo|exact rowI_flat|exact zc (fun _=>rfl)|exact zc (fun _=>zd)|exact zc (fun _=>zb)|exact zg zd|exact zg zb|exact zF rfl|exact zG|exact zg rfl|refine zx ?_ ?_|refine ze rfl ?_|refine ze zd ?_|refine ze zb ?_));done)|exact zbJ rfl rfl (by omega)|exact z6 rfl rfl (by omega)|exact zaZ rfl rfl (by omega)|exact zbY (fun _=>rfl)|exact zl (fun _=>rfl) (by decide) ⟨rfl,rfl⟩ trivial|exact zl (fun _=>rfl) (by decide) (fun _ _=>⟨rfl,rfl⟩) trivial | (simp;done));done)|exact rowV_mps (fun _=>rfl)|exact Vw.it _ _ rfl|exact Vw.mp _ _ _ _ rfl|exact zl zo (by decide) ⟨rfl,rfl⟩ trivial|exact zl zo (by decide) (fun _ _=>⟨rfl,rfl⟩) trivial | (refine zcB rfl ?_;(repeat' (first|exact zc zo|exact rowI_flat|exact zc (fun _=>rfl)|exact zc (fun _=>zd)|exact zc (fun _=>zb)|exact zg zd|exact zg zb|exact zF rfl|exact zG|exact zg rfl|refine zx ?_ ?_|refine ze rfl ?_|refine ze zd ?_|refine ze zb ?_));done)|exact zbt rfl | (refine RowV.of_flat ?_;(repeat' (first|exact zc zo|exact rowI_flat|exact zc (fun _=>rfl)|exact zc (fun _=>zd)|exact zc (fun _=>zb)|exact zg zd|exact zg zb|exact zF rfl|exact zG|exact zg rfl|refine zx ?_ ?_|refine ze rfl ?_|refine ze zd ?_|refine ze zb ?_));done) | ((repeat' (first|exact zc zo|exact rowI_flat|exact zc (fun _=>rfl)|exact zc (fun _=>zd)|exact zc (fun _=>zb)|exact zg zd|exact zg zb|exact zF rfl|exact zG|exact zg rfl|refine zx ?_ ?_|refine ze rfl ?_|refine ze zd ?_|refine ze zb ?_));done)|exact zbJ rfl rfl (by omega)|exact z6 rfl rfl (by omega)|exact zaZ rfl rfl (by omega)|exact zbY (fun _=>rfl)|exact zl (fun _=>rfl) (by decide) ⟨rfl,rfl⟩ trivial|exact zl (fun _=>rfl) (by decide) (fun _ _=>⟨rfl,rfl⟩) trivial | (simp;done))))))
    | exact(Ent.tab [] [] rfl Qar Qar)
  rintro⟨k,o⟩ ⟨hk,hol,hoe2,hg2⟩ wf;simp only at hk hol hoe2 hg2;clear wf;unfold zjb
  by_cases hkl:k < N.length
  case neg =>
   rw[Wl (by omega),List.map_nil,List.foldl_nil] at hg2
   (repeat first|simp(disch:=try exact dis1) only[evD,Nat.reduceBEq,Nat.reduceAdd,Nat.reduceLeDiff,dF,za,zae]|with_reducible first|intro _|refine aJ ?_)
   unfold zi7
   (refine Qa ?_;intros)
   exact⟨(i+1,o),⟨hil,by simp only;omega,hoe2,hg2⟩,by simp only;omega,(Ent.tab [] [] rfl Qar Qar)⟩
  rw[Wm hkl,List.map_cons,List.foldl_cons] at hg2;have hgk:(N.map fun n=>[AV.int .i64 n]).getD k []=[.int .i64 N[k]]:=zp (f:=fun n=>[AV.int .i64 n]) hkl;have hinc:=zk2 o (p++[N[k]]) (by omega) (by have:=hp.1;simp;omega) (fun x hx=>by have:=hoe2 x hx;omega);have hio:=zjA o (p++[N[k]])
  have hie:∀x∈zam o (p++[N[k]]),x.length≤1001:=fun y hy=>by
   rcases zfh.1 hy with h|rfl
   · exact hoe2 y h
   · have:=hp.1;simp;omega
  generalize zam o (p++[N[k]])=o2 at hinc hio hie hg2
  (repeat first|simp(disch:=try exact dis1) only[evD,Nat.reduceBEq,Nat.reduceAdd,Nat.reduceLeDiff,dT,za,zae,gp,hgk,zp6]|with_reducible first|intro _|refine aJ ?_)
  have em:List.map cI p++[[AV.int .i64 N[k]]]=(p++[N[k]]).map fun n=>[AV.int .i64 n]:=by simp[cI]
  have el:p.length+1=(p++[N[k]]).length:=by simp
  rw[em,el];refine zxI hinc (.cons (zah rfl) (.cons (z6 trivial rfl (by simp;omega)) .nil)) ?_
  (refine Qa ?_;intros)
  exact⟨(k+1,o2),⟨hkl,by simp only;omega,hie,hg2⟩,by simp only;omega,(Ent.tab [] [] rfl Qar Qar)⟩
def zCb (g:G) (n:Nat) (l:List (List Int)):Prop:=l.length≤1024∧∀x∈l,x.length≤n∧∀b∈x,0≤b∧b < (g.blocks.length:Int)
theorem zuO {g:G} (hg:OkG g) (p:List Int):∀x∈zbX g p,0≤x∧x < (g.blocks.length:Int):=by
 unfold zbX;generalize (p.getLast?.getD 0).toNat=k
 by_cases hk:k < g.blocks.length
 ·
  have:blkG g k=g.blocks[k]:=by simp[blkG,hk]
  rw[this];exact hg.tgt _ (Wg hk)
 ·
  intro x hx
  have:(blkG g k).stmts=[]:=by simp[blkG,hk]
  rw[this] at hx;simp[zH] at hx
theorem zwr {g:G} (hg:OkG g) {n:Nat} {l:List (List Int)} (h:zCb g n l) (hl:(zhD g l).length≤1024):zCb g (n+1) (zhD g l):=by
 refine⟨hl,fun x hx=>?_⟩;have h1:=(ziL (l.flatMap (extU g)) [] (by simp[Asc])).2 x
 rcases(h1.1 hx) with h2|h2
 · cases h2
 ·
  obtain⟨p,hp,hx2⟩:=List.mem_flatMap.1 h2;obtain⟨hp1,hp2⟩:=h.2 p hp;unfold extU at hx2;split at hx2
  · rw[Wh] at hx2;subst hx2;refine⟨by simp,fun b hb=>?_⟩;rw[Wh] at hb;subst hb;have:=hg.pos;omega
  ·
   split at hx2
   · rw[Wh] at hx2;subst hx2;exact⟨by omega,hp2⟩
   ·
    obtain⟨b,hb,rfl⟩:=List.mem_map.1 hx2;refine⟨by simp;omega,fun c hc=>?_⟩
    rcases List.mem_append.1 hc with hc|hc
    · exact hp2 c hc
    · rw[Wh] at hc;subst hc;exact zuO hg p c hb
theorem zye {H H2:AH} {σ:Nat→Nat→Option (Nat × Nat × Nat)} {D:Nat→Nat→Prop} {t:Bool} {r q g:Nat} (hD:D r q) (hg:H.get r q=some (.row 1 [[.nilsl]] g)):Vw H H2 σ D t (.own r q g 0 1) (zae [[]]):=by
 refine .frz t r q g 0 1 1 _ _ hD hg (by decide) (by decide) fun i j hi hj=>?_
 obtain rfl:i=0:=by omega
 obtain rfl:j=0:=by omega
 exact .nil0 _ _ _
theorem QJ {p q:Prop}(k:q)(h:Im q p:=by(repeat first|simp(disch:=try exact dis1) only[evD,Nat.reduceBEq,Nat.reduceAdd,Nat.reduceLeDiff,fldP,zjw] | ((with_reducible apply Im.i);intro _) | ((with_reducible apply Im.a);omega));exact Im.r):p:=h k
theorem Qan {p q:Prop}(k:q)(h:Im q p:=by(repeat first|simp(disch:=try exact dis1) only[evD,Nat.reduceBEq,Nat.reduceAdd,Nat.reduceLeDiff,dF,fldP,zjw] | ((with_reducible apply Im.i);intro _) | ((with_reducible apply Im.a);omega));exact Im.r):p:=h k
theorem Qao {p q:Prop}(k:q)(h:Im q p:=by(repeat first|simp(disch:=try exact dis1) only[evD,Nat.reduceBEq,Nat.reduceAdd,Nat.reduceLeDiff,zdK] | ((with_reducible apply Im.i);intro _) | ((with_reducible apply Im.a);omega));exact Im.r):p:=h k
theorem zs1 (g:G) (hmid:midG g) (most:Int) (hmo:most≤1000∨65536 < most):zr Tryz.prog zle [.agg g.cells,.int .i64 most] (·=zae (znm g most)):=by
 refine fn_x ztk rfl ?_;unfold znf;rw[zv2];have hB:=hBig;have hck:=zlQ g (zj3 hmid);have hG:=zy7 hmid
 have retN:∀(H:AH) (r γ:Nat),H.get r 0=some (.row 1 [] γ)→∃a,Frz H (.own r 0 γ 0 0) a∧a=zae []:=fun H r γ h=>⟨_,zhq (l:=[]) trivial h (by simp only[List.length_nil];omega),rfl⟩
 generalize zbA g=c at hck hG ⊢
 have hlo:=fun hg l hl hm=>zrM g hg (fun b hb=>Nat.le_trans (zee (by decide) (hmid.stmts b hb).2) (by decide)) l hl hm
 have hgn:=fun hg n l hl hl2=>zwr (g:=g) hg (n:=n) (l:=l) hl hl2
 have hpos:=fun hg:OkG g=>hg.pos
 obtain⟨ad,bl⟩:=g;simp only[G.cells] at hck hlo ⊢
 (refine QJ ?_;intros)
 refine zh (zm hck rfl) ?_
 by_cases h0:c=0
 case neg =>
  rw[if_pos h0]
  (repeat first|simp(disch:=try exact dis1) only[evD,Nat.reduceBEq,Nat.reduceAdd,Nat.reduceLeDiff,dT,zdK]|with_reducible first|intro _|refine aJ ?_)
  exact retN _ _ _ rfl
 rw[if_neg (fun h=>h h0)]
 by_cases h1:65536 < most
 ·
  rw[if_pos h1]
  (repeat first|simp(disch:=try exact dis1) only[evD,Nat.reduceBEq,Nat.reduceAdd,Nat.reduceLeDiff,dT,dF,zdK]|with_reducible first|intro _|refine aJ ?_)
  exact retN _ _ _ rfl
 rw[if_neg h1];have hg:=hG h0;generalize hR:zge ⟨ad,bl⟩ most.toNat [[]]=R
 (refine Qan ?_;intros)
 refine zq (fun s:Nat × List (List Int)=>([(1,.int .i64 most),(2,encP 2 [.int .u32 ad,encL 2 Bl.cells bl]),(5,zae s.2),(6,.int .i64 s.1)],[])) 0 (fun s=>s.1≤most.toNat∧zCb ⟨ad,bl⟩ s.1 s.2∧zge ⟨ad,bl⟩ (most.toNat - s.1) s.2=R) (fun s=>most.toNat - s.1) (0,[[]]) ⟨Wf _,⟨by simp,fun x hx=>by
  rw[Wh] at hx;subst hx
  exact⟨Nat.le_refl _,fun b hb=>by cases hb⟩⟩,hR⟩ ?_ ?_
 · exact(Ent.tab [] [1] rfl (by((try simp only[evWB,Nat.reduceBEq,Nat.reduceAdd,Nat.reduceSub,Nat.reduceLeDiff,Nat.reduceLT,implies_true])<;>((repeat' with_reducible apply Wa)<;>first|omega|rfl | (exact zye rfl rfl;done) | (refine zl zo (by decide) ⟨rfl,rfl⟩ ?_;(try simp only[evWB,Nat.reduceBEq,Nat.reduceAdd,Nat.reduceSub,Nat.reduceLeDiff,Nat.reduceLT,implies_true])<;>((repeat' with_reducible apply Wa)<;>first|omega|rfl | (refine zl zo (by decide) ⟨rfl,rfl⟩ ?_;(try simp only[evWB,Nat.reduceBEq,Nat.reduceAdd,Nat.reduceSub,Nat.reduceLeDiff,Nat.reduceLT,implies_true])<;>((repeat' with_reducible apply Wa)<;>first|omega|rfl|exact rowV_mps (fun _=>rfl)|exact Vw.it _ _ rfl|exact Vw.mp _ _ _ _ rfl|exact zl zo (by decide) ⟨rfl,rfl⟩ trivial|exact zl zo (by decide) (fun _ _=>⟨rfl,rfl⟩) trivial | (refine zcB rfl ?_;(repeat' (first|exact zc zo|exact rowI_flat|exact zc (fun _=>rfl)|exact zc (fun _=>zd)|exact zc (fun _=>zb)|exact zg zd|exact zg zb|exact zF rfl|exact zG|exact zg rfl|refine zx ?_ ?_|refine ze rfl ?_|refine ze zd ?_|refine ze zb ?_));done)|exact zbt rfl | (refine RowV.of_flat ?_;(repeat' (first|exact zc zo|exact rowI_flat|exact zc (fun _=>rfl)|exact zc (fun _=>zd)|exact zc (fun _=>zb)|exact zg zd|exact zg zb|exact zF rfl|exact zG|exact zg rfl|refine zx ?_ ?_|refine ze rfl ?_|refine ze zd ?_|refine ze zb ?_));done) | ((repeat' (first|exact zc zo|exact rowI_flat|exact zc (fun _=>rfl)|exact zc (fun _=>zd)|exact zc (fun _=>zb)|exact zg zd|exact zg zb|exact zF rfl|exact zG|exact zg rfl|refine zx ?_ ?_|refine ze rfl ?_|refine ze zd ?_|refine ze zb ?_));done)|exact zbJ rfl rfl (by omega)|exact z6 rfl rfl (by omega)|exact zaZ rfl rfl (by omega)|exact zbY (fun _=>rfl)|exact zl (fun _=>rfl) (by decide) ⟨rfl,rfl⟩ trivial|exact zl (fun _=>rfl) (by decide) (fun _ _=>⟨rfl,rfl⟩) trivial | (simp;done));done)|exact rowV_mps (fun _=>rfl)|exact Vw.it _ _ rfl|exact Vw.mp _ _ _ _ rfl|exact zl zo (by decide) ⟨rfl,rfl⟩ trivial|exact zl zo (by decide) (fun _ _=>⟨rfl,rfl⟩) trivial | (refine zcB rfl ?_;(repeat' (first|exact zc zo|exact rowI_flat|exact zc (fun _=>rfl)|exact zc (fun _=>zd)|exact zc (fun _=>zb)|exact zg zd|exact zg zb|exact zF rfl|exact zG|exact zg rfl|refine zx ?_ ?_|refine ze rfl ?_|refine ze zd ?_|refine ze zb ?_));done)|exact zbt rfl | (refine RowV.of_flat ?_;(repeat' (first|exact zc zo|exact rowI_flat|exact zc (fun _=>rfl)|exact zc (fun _=>zd)|exact zc (fun _=>zb)|exact zg zd|exact zg zb|exact zF rfl|exact zG|exact zg rfl|refine zx ?_ ?_|refine ze rfl ?_|refine ze zd ?_|refine ze zb ?_));done) | ((repeat' (first|exact zc zo|exact rowI_flat|exact zc (fun _=>rfl)|exact zc (fun _=>zd)|exact zc (fun _=>zb)|exact zg zd|exact zg zb|exact zF rfl|exact zG|exact zg rfl|refine zx ?_ ?_|refine ze rfl ?_|refine ze zd ?_|refine ze zb ?_));done)|exact zbJ rfl rfl (by omega)|exact z6 rfl rfl (by omega)|exact zaZ rfl rfl (by omega)|exact zbY (fun _=>rfl)|exact zl (fun _=>rfl) (by decide) ⟨rfl,rfl⟩ trivial|exact zl (fun _=>rfl) (by decide) (fun _ _=>⟨rfl,rfl⟩) trivial | (simp;done));done)|exact rowV_mps (fun _=>rfl)|exact Vw.it _ _ rfl|exact Vw.mp _ _ _ _ rfl|exact zl zo (by decide) ⟨rfl,rfl⟩ trivial|exact zl zo (by decide) (fun _ _=>⟨rfl,rfl⟩) trivial | (refine zcB rfl ?_;(repeat' (first|exact zc zo|exact rowI_flat|exact zc (fun _=>rfl)|exact zc (fun _=>zd)|exact zc (fun _=>zb)|exact zg zd|exact zg zb|exact zF rfl|exact zG|exact zg rfl|refine zx ?_ ?_|refine ze rfl ?_|refine ze zd ?_|refine ze zb ?_));done)|exact zbt rfl | (refine RowV.of_flat ?_;(repeat' (first|exact zc zo|exact rowI_flat|exact zc (fun _=>rfl)|exact zc (fun _=>zd)|exact zc (fun _=>zb)|exact zg zd|exact zg zb|exact zF rfl|exact zG|exact zg rfl|refine zx ?_ ?_|refine ze rfl ?_|refine ze zd ?_|refine ze zb ?_));done) | ((repeat' (first|exact zc zo|exact rowI_flat|exact zc (fun _=>rfl)|exact zc (fun _=>zd)|exact zc (fun _=>zb)|exact zg zd|exact zg zb|exact zF rfl|exact zG|exact zg rfl|refine zx ?_ ?_|refine ze rfl ?_|refine ze zd ?_|refine ze zb ?_));done)|exact zbJ rfl rfl (by omega)|exact z6 rfl rfl (by omega)|exact zaZ rfl rfl (by omega)|exact zbY (fun _=>rfl)|exact zl (fun _=>rfl) (by decide) ⟨rfl,rfl⟩ trivial|exact zl (fun _=>rfl) (by decide) (fun _ _=>⟨rfl,rfl⟩) trivial | (simp;done)))) (by((try simp only[evWB,Nat.reduceBEq,Nat.reduceAdd,Nat.reduceSub,Nat.reduceLeDiff,Nat.reduceLT,implies_true])<;>((repeat' with_reducible apply Wa)<;>first|omega|rfl | (exact zye rfl rfl;done) | (refine zl zo (by decide) ⟨rfl,rfl⟩ ?_;(try simp only[evWB,Nat.reduceBEq,Nat.reduceAdd,Nat.reduceSub,Nat.reduceLeDiff,Nat.reduceLT,implies_true])<;>((repeat' with_reducible apply Wa)<;>first|omega|rfl | (refine zl zo (by decide) ⟨rfl,rfl⟩ ?_;(try simp only[evWB,Nat.reduceBEq,Nat.reduceAdd,Nat.reduceSub,Nat.reduceLeDiff,Nat.reduceLT,implies_true])<;>((repeat' with_reducible apply Wa)<;>first|omega|rfl|exact rowV_mps (fun _=>rfl)|exact Vw.it _ _ rfl|exact Vw.mp _ _ _ _ rfl|exact zl zo (by decide) ⟨rfl,rfl⟩ trivial|exact zl zo (by decide) (fun _ _=>⟨rfl,rfl⟩) trivial | (refine zcB rfl ?_;(repeat' (first|exact zc zo|exact rowI_flat|exact zc (fun _=>rfl)|exact zc (fun _=>zd)|exact zc (fun _=>zb)|exact zg zd|exact zg zb|exact zF rfl|exact zG|exact zg rfl|refine zx ?_ ?_|refine ze rfl ?_|refine ze zd ?_|refine ze zb ?_));done)|exact zbt rfl | (refine RowV.of_flat ?_;(repeat' (first|exact zc zo|exact rowI_flat|exact zc (fun _=>rfl)|exact zc (fun _=>zd)|exact zc (fun _=>zb)|exact zg zd|exact zg zb|exact zF rfl|exact zG|exact zg rfl|refine zx ?_ ?_|refine ze rfl ?_|refine ze zd ?_|refine ze zb ?_));done) | ((repeat' (first|exact zc zo|exact rowI_flat|exact zc (fun _=>rfl)|exact zc (fun _=>zd)|exact zc (fun _=>zb)|exact zg zd|exact zg zb|exact zF rfl|exact zG|exact zg rfl|refine zx ?_ ?_|refine ze rfl ?_|refine ze zd ?_|refine ze zb ?_));done)|exact zbJ rfl rfl (by omega)|exact z6 rfl rfl (by omega)|exact zaZ rfl rfl (by omega)|exact zbY (fun _=>rfl)|exact zl (fun _=>rfl) (by decide) ⟨rfl,rfl⟩ trivial|exact zl (fun _=>rfl) (by decide) (fun _ _=>⟨rfl,rfl⟩) trivial | (simp;done));done)|exact rowV_mps (fun _=>rfl)|exact Vw.it _ _ rfl|exact Vw.mp _ _ _ _ rfl|exact zl zo (by decide) ⟨rfl,rfl⟩ trivial|exact zl zo (by decide) (fun _ _=>⟨rfl,rfl⟩) trivial | (refine zcB rfl ?_;(repeat' (first|exact zc zo|exact rowI_flat|exact zc (fun _=>rfl)|exact zc (fun _=>zd)|exact zc (fun _=>zb)|exact zg zd|exact zg zb|exact zF rfl|exact zG|exact zg rfl|refine zx ?_ ?_|refine ze rfl ?_|refine ze zd ?_|refine ze zb ?_));done)|exact zbt rfl | (refine RowV.of_flat ?_;(repeat' (first|exact zc zo|exact rowI_flat|exact zc (fun _=>rfl)|exact zc (fun _=>zd)|exact zc (fun _=>zb)|exact zg zd|exact zg zb|exact zF rfl|exact zG|exact zg rfl|refine zx ?_ ?_|refine ze rfl ?_|refine ze zd ?_|refine ze zb ?_));done) | ((repeat' (first|exact zc zo|exact rowI_flat|exact zc (fun _=>rfl)|exact zc (fun _=>zd)|exact zc (fun _=>zb)|exact zg zd|exact zg zb|exact zF rfl|exact zG|exact zg rfl|refine zx ?_ ?_|refine ze rfl ?_|refine ze zd ?_|refine ze zb ?_));done)|exact zbJ rfl rfl (by omega)|exact z6 rfl rfl (by omega)|exact zaZ rfl rfl (by omega)|exact zbY (fun _=>rfl)|exact zl (fun _=>rfl) (by decide) ⟨rfl,rfl⟩ trivial|exact zl (fun _=>rfl) (by decide) (fun _ _=>⟨rfl,rfl⟩) trivial | (simp;done));done)|exact rowV_mps (fun _=>rfl)|exact Vw.it _ _ rfl|exact Vw.mp _ _ _ _ rfl|exact zl zo (by decide) ⟨rfl,rfl⟩ trivial|exact zl zo (by decide) (fun _ _=>⟨rfl,rfl⟩) trivial | (refine zcB rfl ?_;(repeat' (first|exact zc zo|exact rowI_flat|exact zc (fun _=>rfl)|exact zc (fun _=>zd)|exact zc (fun _=>zb)|exact zg zd|exact zg zb|exact zF rfl|exact zG|exact zg rfl|refine zx ?_ ?_|refine ze rfl ?_|refine ze zd ?_|refine ze zb ?_));done)|exact zbt rfl | (refine RowV.of_flat ?_;(repeat' (first|exact zc zo|exact rowI_flat|exact zc (fun _=>rfl)|exact zc (fun _=>zd)|exact zc (fun _=>zb)|exact zg zd|exact zg zb|exact zF rfl|exact zG|exact zg rfl|refine zx ?_ ?_|refine ze rfl ?_|refine ze zd ?_|refine ze zb ?_));done) | ((repeat' (first|exact zc zo|exact rowI_flat|exact zc (fun _=>rfl)|exact zc (fun _=>zd)|exact zc (fun _=>zb)|exact zg zd|exact zg zb|exact zF rfl|exact zG|exact zg rfl|refine zx ?_ ?_|refine ze rfl ?_|refine ze zd ?_|refine ze zb ?_));done)|exact zbJ rfl rfl (by omega)|exact z6 rfl rfl (by omega)|exact zaZ rfl rfl (by omega)|exact zbY (fun _=>rfl)|exact zl (fun _=>rfl) (by decide) ⟨rfl,rfl⟩ trivial|exact zl (fun _=>rfl) (by decide) (fun _ _=>⟨rfl,rfl⟩) trivial | (simp;done)))))
 rintro⟨n,L⟩ ⟨hn,hL,hgo⟩ wf;simp only at hn hL hgo;clear wf;unfold zjl
 have retL:∀(H:AH) (l:List (List Int)),∃a,Frz H (zae l) a∧a=zae l:=fun H l=>⟨_,zah rfl,rfl⟩
 by_cases hnm:(n:Int) < most
 case neg =>
  rw[show most.toNat - n=0 by omega,zge] at hgo;subst hgo
  (refine Qk ?_;intros)
  unfold zjU
  (refine Qao ?_;intros)
  exact retL _ _
 obtain⟨m,hm⟩:∃m,most.toNat - n=m+1:=⟨most.toNat - n - 1,by omega⟩;rw[hm,zge] at hgo;have hlo1:=hlo hg L hL.1 (fun x hx=>⟨by have:=(hL.2 x hx).1;omega,(hL.2 x hx).2⟩);have hgn1:=hgn hg n L hL;have hsm:=ztL L (zhD ⟨ad,bl⟩ L);generalize zhD ⟨ad,bl⟩ L=M at hgo hlo1 hgn1 hsm
 (repeat first|simp(disch:=try exact dis1) only[evD,Nat.reduceBEq,Nat.reduceAdd,Nat.reduceLeDiff,dT,zjw,fldP]|with_reducible first|intro _|refine aJ ?_)
 refine zh (zm hlo1 rfl) ?_
 by_cases hM:1024 < M.length
 ·
  rw[if_pos hM] at hgo;subst hgo
  (repeat first|simp(disch:=try exact dis1) only[evD,Nat.reduceBEq,Nat.reduceAdd,Nat.reduceLeDiff,dT,zae,zdK]|with_reducible first|intro _|refine aJ ?_)
  exact retN _ _ _ rfl
 rw[if_neg hM] at hgo
 (refine Qu ?_;intros)
 refine zh (zm hsm rfl) ?_
 by_cases he:L=M
 ·
  rw[if_pos he] at hgo;subst hgo;rw[decide_eq_true he]
  (refine Qao ?_;intros)
  exact retL _ _
 ·
  rw[if_neg he] at hgo;rw[decide_eq_false he]
  (refine Qa ?_;intros)
  exact⟨(n+1,M),⟨by simp only;omega,hgn1 (by omega),by simp only;rw[show most.toNat - (n+1)=m by omega];exact hgo⟩,by simp only;omega,(Ent.tab [] [] rfl Qar Qar)⟩
theorem znP {g:G} {cs:List Int} {most:Int} {l:List Int} (hm:ziY g 8=true) (h0:zbA g=0) (hcs:cs.length≤1000000) (hmo:most≤65536) (hw:∀c∈cs,0≤c∧c < 4294967296) (ht:zkF g cs most=l) :
  zr Tryz.prog zbE [.agg g.cells,encL 1 cW cs,.int .i64 most] (·=.tup [za l,.int .i64 0]):=by
 have:=zzF g cs most (zxZ hm) hcs (.inl (by omega)) hw;rw[if_neg (fun h=>h h0),if_neg (by omega),ht] at this;exact this
theorem lend3 {H:AH} {a:AV} {n:Int} (h:a.flat=true):Lend H noR [a,.nilsl,.int .i64 n] [a,encL 1 cW [],.int .i64 n]:=.cons (zah h) (.cons (.nil0 _ _ _) (.cons (.int _ _ _) .nil))
theorem ztX {H:AH} {op next els:Int}:Lend H noR [.agg [.int .i64 op,.int .i64 0,.int .i64 0,.int .i64 next,.int .i64 els,.int .u32 0,.nilsl,.nilsl]] [.agg (St.cells (stX op next els []))]:=by
 refine .cons (.agg _ _ _ rfl fun i a b h1 h2=>?_) .nil
 match i with
 | 0=>cases h1;cases h2;exact .int _ _ _
 | 1=>cases h1;cases h2;exact .int _ _ _
 | 2=>cases h1;cases h2;exact .int _ _ _
 | 3=>cases h1;cases h2;exact .int _ _ _
 | 4=>cases h1;cases h2;exact .int _ _ _
 | 5=>cases h1;cases h2;exact .int _ _ _
 | 6=>cases h1;cases h2;exact .nil0 _ _ _
 | 7=>cases h1;cases h2;exact .nil0 _ _ _
 | i+8=>cases h1
theorem zlu (A:List Int):zr Tryz.prog zav [za A,za A] (·=.bool true):=by have:=zgo A A;rw[decide_eq_true rfl] at this;exact this
theorem zyh {g:G} {e:Nd} {most:Int} {v:AV} (hm:ziY g 8=true) (hs:zaJ e≤1000) (ht:zrW g e [] most=v):zr Tryz.prog zfl [.agg (encN e),.agg g.cells,encL 1 cW [],.int .i64 most] (·=v):=by have:=zq3 g (zxZ hm) e hs [] most (by simp) (fun c hc=>by cases hc);rw[ht] at this;exact this
theorem zz8 {H:AH} {D:Nat→Nat→Prop} {t:Bool} {kd bl lb:Int} {x:AV} {L:List Nd} (hx:Vw H [] nos D t x (encL 5 encN L)) (j:Nat) (hj:j < 5):Vw H [] nos D t ([AV.int .i64 kd,.int .i64 bl,.int .i64 lb,.nilsl,x].getD j .undef) ((encN (.mk ⟨kd,bl,lb⟩ [] L)).getD j .undef):=by
 rw[zeT]
 match j with
 | 0=>exact .int _ _ _
 | 1=>exact .int _ _ _
 | 2=>exact .int _ _ _
 | 3=>exact .nil0 _ _ _
 | 4=>exact hx
 | j+5=>omega
theorem aggN {H:AH} {D:Nat→Nat→Prop} {t:Bool} {kd bl lb:Int} {x:AV} {L:List Nd} (hx:Vw H [] nos D t x (encL 5 encN L)):Vw H [] nos D t (.agg [AV.int .i64 kd,.int .i64 bl,.int .i64 lb,.nilsl,x]) (.agg (encN (.mk ⟨kd,bl,lb⟩ [] L))):=by
 refine .agg _ _ _ (by rw[zb1];rfl) fun i a b h1 h2=>?_
 have hi:i < 5:=(List.getElem?_eq_some_iff.1 h1).1;have h3:=zz8 (kd:=kd) (bl:=bl) (lb:=lb) hx i hi;rw[Wp,Wp,h1,h2] at h3;exact h3
theorem lendI {H:AH} {f1 f2:Nat→Nat→AV} (h1:∀j,f1 0 j=[AV.int .i64 1,.int .i64 0,.int .i64 0,.nilsl,.nilsl].getD j .undef) (h20:∀j,f2 0 j=[AV.int .i64 4,.int .i64 0,.int .i64 0,.nilsl,.sl 5 1 f1].getD j .undef) (h21:∀j,f2 1 j=[AV.int .i64 2,.int .i64 0,.int .i64 0,.nilsl,.nilsl].getD j .undef) {g:AV} (hg:g.flat=true) {n:Int} :
  Lend H noR [.agg [AV.int .i64 1,.int .i64 0,.int .i64 0,.nilsl,.sl 5 2 f2],g,.nilsl,.int .i64 n] [.agg (encN zAh),g,encL 1 cW [],.int .i64 n]:=by
 refine .cons (aggN (.slf _ _ _ _ _ fun i j hi hj=>?_)) (.cons (zah hg) (.cons (.nil0 _ _ _) (.cons (.int _ _ _) .nil)))
 match i with
 |
  0 =>
  rw[h20];refine zz8 (kd:=4) (bl:=0) (lb:=0) (L:=[ndX 1 []]) (.slf _ _ _ _ _ fun i j hi hj=>?_) j hj
  obtain rfl:i=0:=by have:i < 1:=hi;omega
  rw[h1];exact zz8 (kd:=1) (bl:=0) (lb:=0) (L:=[]) (.nil0 _ _ _) j hj
 |
  1 =>
  rw[h21];exact zz8 (kd:=2) (bl:=0) (lb:=0) (L:=[]) (.nil0 _ _ _) j hj
 | i+2=>omega
theorem Qp {p q:Prop}(k:q)(h:Im q p:=by(repeat first|simp(disch:=try exact dis1) only[evD,Nat.reduceBEq,Nat.reduceAdd,Nat.reduceLeDiff,Bl.cells,zai,zA,zaD,za2,za0,zbP,Bool.and_self,List.all_cons,List.all_nil] | ((with_reducible apply Im.i);intro _) | ((with_reducible apply Im.a);omega));exact Im.r):p:=h k
theorem zla:zr Tryz.prog zcG [] (·=.bool true):=by
 refine fn_x zlh rfl ?_;unfold zgn;have hB:=hBig;have e1:=zgj (zmJ 1 2);have e2:=zgj (stX 6 3 0 []);have e3:=zgj (stX 9 0 0 []);have e4:=zgj (stX 6 1 0 []);have e5:=zgj (zmJ 2 3);have e6:=zgj (stX 10 0 0 [])
 have d2:decide (((2:Nat):Int)=2)=true:=by decide
 have no:∀r q,¬noR r q:=fun _ _ h=>h
 (refine Qa ?_;intros)
 refine zh (zm (zl2 1 2) rfl) ?_
 (refine Qa ?_;intros)
 refine zh (zm e1 rfl) ?_
 (refine Qa ?_;intros)
 refine zh (zV e2 ztX (.inr no)) ?_
 (refine Qa ?_;intros)
 refine zh (zV e2 ztX (.inr no)) ?_
 (refine Qa ?_;intros)
 refine zh (zV e3 ztX (.inr no)) ?_
 (refine Qp ?_;intros)
 refine zh (zV e4 ztX (.inr no)) ?_
 (refine Qa ?_;intros)
 refine zh (zm (zl2 2 3) rfl) ?_
 (refine Qa ?_;intros)
 refine zh (zm e5 rfl) ?_
 (refine Qa ?_;intros)
 refine zh (zV e4 ztX (.inr no)) ?_
 (refine Qa ?_;intros)
 refine zh (zV e6 ztX (.inr no)) ?_
 (refine Qp ?_;intros)
 have hw0:∀c∈([]:List Int),0≤c∧c < 4294967296:=fun c hc=>by cases hc
 have g1:=znP (g:=gA) (cs:=[]) (most:=9) midA.1 zt1.1 (by decide) (by decide) hw0 zt1.2.1;have g2:=znP (g:=gA) (cs:=[3]) (most:=9) midA.1 zt1.1 (by decide) (by decide) (by simp) zt1.2.2.1;have g3:=znP (g:=gA) (cs:=[]) (most:=2) midA.1 zt1.1 (by decide) (by decide) hw0 zt1.2.2.2.1;have g4:=znP (g:=hA) (cs:=[0,0,1]) (most:=20) midA.2.1 hA_ok.1 (by decide) (by decide) (by simp) hA_ok.2;refine zh (zV g1 (lend3 rfl) (.inr no)) ?_
 (refine Qp ?_;intros)
 refine zh (zm g2 rfl) ?_
 (refine Qp ?_;intros)
 refine zh (zV g3 (lend3 rfl) (.inr no)) ?_
 (refine Qp ?_;intros)
 refine zh (zm g4 rfl) ?_
 (refine Qp ?_;intros)
 have p1:=zvx gA 9 (zxZ midA.1) (by decide);rw[zt1.2.2.2.2] at p1;refine zh (zm p1 rfl) ?_
 (refine Qp ?_;intros)
 refine zh (zV e6 ztX (.inr no)) ?_
 (refine Qp ?_;intros)
 have n1:=zyh (g:=oneA) (e:=zAh) (most:=5) (v:=.tup [za [],.int .i64 15]) midA.2.2 (by decide +kernel) (by unfold zrW;rw[if_neg (fun h=>h zsY.1),if_neg (by decide),show Int.toNat 5=5 from rfl,zsY.2.1];rfl);have n2:=zyh (g:=oneA) (e:=ndX 2 []) (most:=5) (v:=.tup [za [0],.int .i64 0]) midA.2.2 (by decide +kernel) (by unfold zrW;rw[if_neg (fun h=>h zsY.2.2.1),if_neg (by decide),show Int.toNat 5=5 from rfl,zsY.2.2.2.1,zsY.2.2.2.2];rfl);refine zh (zV n1 (lendI (fun _=>rfl) (fun _=>rfl) (fun _=>rfl) rfl) (.inr no)) ?_
 (refine Qp ?_;intros)
 refine zh (zV n2 (.cons (aggN (.nil0 _ _ _)) (.cons (zah rfl) (.cons (.nil0 _ _ _) (.cons (.int _ _ _) .nil)))) (.inr no)) ?_
 (refine Qp ?_;intros)
 refine zh (zm (zlu [0,1,3]) rfl) ?_
 (repeat first|simp(disch:=try exact dis1) only[evD,Nat.reduceBEq,Nat.reduceAdd,Nat.reduceLeDiff,Bl.cells,zai,zA,zaD,za2,za0,zbP,Wc,Wd,We,zae,za,d2,zaL]|with_reducible first|intro _|refine aJ ?_)
 refine zh (zm (zlu [0,2,3]) rfl) ?_
 (repeat first|simp(disch:=try exact dis1) only[evD,Nat.reduceBEq,Nat.reduceAdd,Nat.reduceLeDiff,Bl.cells,zai,zA,zaD,za2,za0,zbP,Wc,Wd,We,zae,za,d2,zaL]|with_reducible first|intro _|refine aJ ?_)
 refine zh (zm (zlu [0,1]) rfl) ?_
 (repeat first|simp(disch:=try exact dis1) only[evD,Nat.reduceBEq,Nat.reduceAdd,Nat.reduceLeDiff,Bl.cells,zai,zA,zaD,za2,za0,zbP,Wc,Wd,We,zae,za,d2,zaL]|with_reducible first|intro _|refine aJ ?_)
 refine zh (zm (zlu [0,1,2,1,2,1,3]) rfl) ?_
 (repeat first|simp(disch:=try exact dis1) only[evD,Nat.reduceBEq,Nat.reduceAdd,Nat.reduceLeDiff,Bl.cells,zai,zA,zaD,za2,za0,zbP,Wc,Wd,We,zae,za,d2,zaL]|with_reducible first|intro _|refine aJ ?_)
 refine zh (zm (zlu [0,2,3]) rfl) ?_
 (repeat first|simp(disch:=try exact dis1) only[evD,Nat.reduceBEq,Nat.reduceAdd,Nat.reduceLeDiff,Bl.cells,zai,zA,zaD,za2,za0,zbP,Wc,Wd,We,zae,za,d2,zaL]|with_reducible first|intro _|refine aJ ?_)
 refine zh (zm (zlu [0]) rfl) ?_
 (repeat first|simp(disch:=try exact dis1) only[evD,Nat.reduceBEq,Nat.reduceAdd,Nat.reduceLeDiff,Bl.cells,zai,zA,zaD,za2,za0,zbP,Wc,Wd,We,zae,za,d2,zaL]|with_reducible first|intro _|refine aJ ?_)
 exact⟨_,.bool _ _,rfl⟩
theorem zuB {g:G} {cs:List Int} {most:Int} (h:zob g cs most=true):midG g∧g.blocks.length≤20∧cs.length≤40∧most≤60:=by unfold zob at h;rw[Wi,Wi,Wi,decide_eq_true_eq,decide_eq_true_eq,decide_eq_true_eq] at h;exact⟨zqF h.2.1,h.1,h.2.2.1,h.2.2.2⟩
theorem QK {p q:Prop}(k:q)(h:Im q p:=by(repeat first|simp(disch:=try exact dis1) only[evD,Nat.reduceBEq,Nat.reduceAdd,Nat.reduceLeDiff,zc0] | ((with_reducible apply Im.i);intro _) | ((with_reducible apply Im.a);omega));exact Im.r):p:=h k
theorem L37_TracePaths_ok (g:G) (most:Int) (hmo:InR .i64 most):zr Tryz.prog ziW [.agg g.cells,.int .i64 most] (·=.bool true):=by
 refine fn_x zmX rfl ?_;unfold zih;have hB:=hBig;have hsm:=zsU g [] most;have hex:=zla;have hmid:=zuB (g:=g) (cs:=[]) (most:=most)
 have ha:=fun hm hc=>zvx g most hm hc
 have hb:=fun hm hc=>zs1 g hm most hc
 have retT:∀H:AH,∃a,Frz H (.bool true) a∧a=.bool true:=fun H=>⟨_,.bool _ _,rfl⟩
 generalize zob g [] most=sm at hsm hmid;generalize znm g most=P at ha hb
 have hlend:∀H:AH,Lend H noR [.agg g.cells,.nilsl,.int .i64 most] [.agg g.cells,encL 1 cW [],.int .i64 most]:=fun H=>.cons (zah rfl) (.cons (.nil0 _ _ _) (.cons (.int _ _ _) .nil))
 simp only[G.cells] at hsm ha hb hlend ⊢
 (refine QJ ?_;intros)
 refine zh (zV hsm (hlend _) (.inr fun _ _ h=>h)) ?_
 cases sm with
 |
  false =>
  (refine Qa ?_;intros)
  refine zh (zm hex rfl) ?_
  (refine QK ?_;intros)
  exact retT _
 | true =>
 obtain⟨hm,-,-,-⟩:=hmid rfl
 by_cases h8:8 < most
 ·
  (refine QW ?_;intros)
  refine zh (zm hex rfl) ?_
  (refine QK ?_;intros)
  exact retT _
 have h1:=ha hm (.inl (by omega));have h2:=hb hm (.inl (by omega))
 (refine Qan ?_;intros)
 refine za4 (zm h1 rfl) ?_
 (refine QJ ?_;intros)
 refine za4 (zm h2 rfl) ?_
 have dl:decide ((P.length:Int)≠(P.length:Int))=false:=by simp
 (repeat first|simp(disch:=try exact dis1) only[evD,Nat.reduceBEq,Nat.reduceAdd,Nat.reduceLeDiff,dl,zae]|with_reducible first|intro _|refine aJ ?_)
 refine zq (fun i:Nat=>([(5,zae P),(6,zae P),(7,.int .i64 i)],[])) 0 (fun i=>i≤P.length) (fun i=>P.length - i) 0 (Wf _) (Ent.tab [] [] rfl Qar Qar) ?_;intro i hi wf;clear wf;unfold zfS
 by_cases hil:i < P.length
 case neg =>
  (refine Qu ?_;intros)
  unfold zfZ
  (refine Qa ?_;intros)
  refine zh (zm hex rfl) ?_
  (refine QK ?_;intros)
  exact retT _
 have gp:(P.map cP).getD i []=[za P[i]]:=zp (f:=cP) (d:=[]) hil
 (repeat first|simp(disch:=try exact dis1) only[evD,Nat.reduceBEq,Nat.reduceAdd,Nat.reduceLeDiff,dT,zae,gp,Wo]|with_reducible first|intro _|refine aJ ?_)
 refine za4 (zm (zlu P[i]) rfl) ?_
 (refine Qa ?_;intros)
 exact⟨i+1,hil,by omega,(Ent.tab [] [] rfl Qar Qar)⟩
end Go.Ab
