/-
  Proved: the call of CallconvClobbers returns true for every signature, and what came in reads afterwards as it read before.
-/
import Derived.Test.YtihlaappclhhaaaGreatKq
set_option maxRecDepth 100000
set_option linter.unusedVariables false
set_option linter.unusedSimpArgs false
set_option linter.unnecessarySimpa false
set_option linter.unusedSectionVars false
namespace Go.Proofs.YtihlaappclhhaaaGreat.callconvClobbersDone
open Go.ChangeShapes Go.WideShapes Go.ChangeAt Go.RowKit
theorem own:ownKnob Tryz.prog.godebug=none:=by kernel_rfl
theorem laidOut:laidOutB Tryz.prog=true:=by kernel_rfl
set_option maxRecDepth 100000 in
theorem lifted(J:Os)(d:J.Started)(H:Type)(enc:TypeId×Value->H):
  ReturnsInHanded {} Tryz.checked J 7 .any (Rows.callconvClobbersSpec.pre6 enc Tryz.prog Tryz.f7 Rows.callconvClobbersRow.domain false) (Rows.callconvClobbersSpec.post enc Tryz.prog Tryz.f7 false true false false):=by
 refine returnsInHanded_of_change (C:=Tryz.checked) own d (by kernel_rfl) Tryz.func7
  (ChangeSpec.witness6 (enc:=enc) (C:=Tryz.checked) false ⟨#[],#[.agg #[.slice none 0 0,.slice none 0 0,.slice none 0 0]],[]⟩ 8 (by kernel_rfl) (by kernel_rfl) (by kernel_rfl) (by kernel_rfl)) ?_
 intro W base args K Z o c F I _;have g:∀(j:Nat) t v,Tryz.f7.params[j]?=some t->args[j]?=some v->Value.okWide Tryz.prog W .any base t v:=c;have s:=F;obtain⟨p,q,n,O,rfl,Q,S⟩:=F;have D:DataW.TrodAll enc Tryz.prog W 0 (λ_=>true) true Tryz.f7.params.toList args.toList K p:=n;rw[Tryz.params7]at D g;obtain⟨v0,V,Y,M,T,q0,u,rfl,rfl,B,U⟩:=trodAll_cons D;obtain⟨rfl,rfl,rfl⟩:=trodAll_nil U;obtain rfl:args=#[v0]:=by cases args;simp_all
 obtain⟨rfl,rfl⟩:=trodVars_none O;have t0:=B;have A:∀x∈T,x.block<W.heap.size:=by obtain⟨m,R⟩:=t0;exact DataW.trod_lt m _ _ _ R
 obtain⟨a0,k0,y⟩:=Go.Ab.open_sig (L:=λ_=>False) (λ_ h=>h) (g 0 55 v0 rfl rfl) B;clear n c;refine(Go.Ab.row_true (Go.Ab.L30_CallconvClobbers_ok a0) (w:=W) (vs:=#[v0]) λL N=>?_).mono λe X ⟨P,k⟩=>?_
 .exact(.cons ((y _).mono (λb _ _=>⟨rfl,N b⟩) (λ_ _ _ _ h=>h)) .nil)
 subst P;exact⟨_,rfl,_,_,_,[],_,[],s,trodAll_mk1 (shut_bool Tryz.underlying4 _),(trodAll_cons_mk (Below.trod laidOut (by kernel_rfl) (of_decide_eq_true (by kernel_rfl)) t0 k A) trodAll_mk0),rfl,k.frame _,λh=>by cases h⟩
theorem over:Rows.callconvClobbersRow.holds Tryz.pinned (OpenSpec.ofChange Rows.callconvClobbersSpec) :=
 OpenClaim.holds_of_wide 7 Tryz.f7 rfl rfl rfl rfl rfl rfl rfl ⟨rfl,rfl,rfl,rfl,rfl⟩ rfl rfl rfl rfl rfl (by kernel_rfl) Tryz.func7 (by kernel_rfl)
  (of_decide_eq_true (by kernel_rfl)) (by unfold Func.isWrapper;rw[if_neg (of_decide_eq_false (by kernel_rfl))];exact⟨rfl,rfl⟩)
  (λd b H c _=>lifted d b H c)
theorem proved:Rows.CallconvClobbersSaid :=
 over
end Go.Proofs.YtihlaappclhhaaaGreat.callconvClobbersDone
