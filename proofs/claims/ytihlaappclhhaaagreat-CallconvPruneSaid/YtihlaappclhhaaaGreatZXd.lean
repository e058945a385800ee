/-
  Proved: the call of CallconvPrune returns true for every graph, all signatures and addresses, and what came in reads afterwards as it read before.
-/
import Derived.Test.YtihlaappclhhaaaGreatJr
set_option maxRecDepth 100000
set_option linter.unusedVariables false
set_option linter.unusedSimpArgs false
set_option linter.unnecessarySimpa false
set_option linter.unusedSectionVars false
namespace Go.Proofs.YtihlaappclhhaaaGreat.callconvPruneDone
open Go.ChangeShapes Go.WideShapes Go.ChangeAt Go.RowKit
theorem own:ownKnob Tryz.prog.godebug=none:=by kernel_rfl
theorem laidOut:laidOutB Tryz.prog=true:=by kernel_rfl
set_option maxRecDepth 100000 in
theorem lifted(T:Os)(g:T.Started)(H:Type)(enc:TypeId×Value->H):
  ReturnsInHanded {} Tryz.checked T 8 .any (Rows.callconvPruneSpec.pre6 enc Tryz.prog Tryz.f8 Rows.callconvPruneRow.domain false) (Rows.callconvPruneSpec.post enc Tryz.prog Tryz.f8 false true false false):=by
 refine returnsInHanded_of_change (C:=Tryz.checked) own g (by kernel_rfl) Tryz.func8
  (ChangeSpec.witness6 (enc:=enc) (C:=Tryz.checked) false ⟨#[],#[.agg #[.int .u32 0,.slice none 0 0],.slice none 0 0,.slice none 0 0],[]⟩ 8 (by kernel_rfl) (by kernel_rfl) (by kernel_rfl) (by kernel_rfl)) ?_
 intro W base args Z gs s d R S _;have c:∀(j:Nat) t v,Tryz.f8.params[j]?=some t->args[j]?=some v->Value.okWide Tryz.prog W .any base t v:=d;have y:=R;obtain⟨p,q,n,hV,rfl,hfz,hnd⟩:=R;have Q:DataW.TrodAll enc Tryz.prog W 0 (λ_=>true) true Tryz.f8.params.toList args.toList Z p:=n;rw[Tryz.params8]at Q c;obtain⟨v0,vs0,d0,ds0,p0,q0,A,rfl,rfl,N,r0⟩:=trodAll_cons Q;obtain⟨v1,vs1,d1,ds1,p1,q1,rfl,rfl,rfl,O,r1⟩:=trodAll_cons r0;obtain⟨M,vs2,d2,ds2,p2,q2,rfl,rfl,rfl,P,r2⟩:=trodAll_cons r1;obtain⟨rfl,rfl,rfl⟩:=trodAll_nil r2;obtain rfl:args=#[v0,v1,M]:=by cases args;simp_all
 obtain⟨rfl,rfl⟩:=trodVars_none hV;have t0:=N;have I:∀x∈p0,x.block<W.heap.size:=by obtain⟨m,o⟩:=t0;exact DataW.trod_lt m _ _ _ o
 obtain⟨a0,k0,B⟩:=Go.Ab.open_graph (L:=λ_=>False) (λ_ h=>h) (c 0 48 v0 rfl rfl) N;have U:=O;have J:∀x∈p1,x.block<W.heap.size:=by obtain⟨m,o⟩:=U;exact DataW.trod_lt m _ _ _ o
 obtain⟨X,k1,D⟩:=Go.Ab.open_sigs (L:=λ_=>False) (λ_ h=>h) (c 1 49 v1 rfl rfl) O;have V:=P;have K:∀x∈p2,x.block<W.heap.size:=by obtain⟨m,o⟩:=V;exact DataW.trod_lt m _ _ _ o
 obtain⟨Y,k2,F⟩:=Go.Ab.open_words (L:=λ_=>False) (λ_ h=>h) (c 2 25 M rfl rfl) P;clear n d;refine(Go.Ab.row_true (Go.Ab.L30_CallconvPrune_ok a0 X Y k1) (w:=W) (vs:=#[v0,v1,M]) λL u=>?_).mono λe W' ⟨he,k⟩=>?_
 .exact(.cons ((B _).mono (λb _ _=>⟨rfl,u b⟩) (λ_ _ _ _ h=>h)) (.cons ((D _).mono (λb _ _=>⟨rfl,u b⟩) (λ_ _ _ _ h=>h)) (.cons ((F _).mono (λb _ _=>⟨rfl,u b⟩) (λ_ _ _ _ h=>h)) .nil)))
 subst he;exact⟨_,rfl,_,_,_,[],_,[],y,trodAll_mk1 (shut_bool Tryz.underlying4 _),(trodAll_cons_mk (Below.trod laidOut (by kernel_rfl) (of_decide_eq_true (by kernel_rfl)) t0 k I) (trodAll_cons_mk (Below.trod laidOut (by kernel_rfl) (of_decide_eq_true (by kernel_rfl)) U k J) (trodAll_cons_mk (Below.trod laidOut (by kernel_rfl) (of_decide_eq_true (by kernel_rfl)) V k K) trodAll_mk0))),rfl,k.frame _,λh=>by cases h⟩
theorem over:Rows.callconvPruneRow.holds Tryz.pinned (OpenSpec.ofChange Rows.callconvPruneSpec) :=
 OpenClaim.holds_of_wide 8 Tryz.f8 rfl rfl rfl rfl rfl rfl rfl ⟨rfl,rfl,rfl,rfl,rfl⟩ rfl rfl rfl rfl rfl (by kernel_rfl) Tryz.func8 (by kernel_rfl)
  (of_decide_eq_true (by kernel_rfl)) (by unfold Func.isWrapper;rw[if_neg (of_decide_eq_false (by kernel_rfl))];exact⟨rfl,rfl⟩)
  (λd b H c _=>lifted d b H c)
theorem proved:Rows.CallconvPruneSaid :=
 over
end Go.Proofs.YtihlaappclhhaaaGreat.callconvPruneDone
