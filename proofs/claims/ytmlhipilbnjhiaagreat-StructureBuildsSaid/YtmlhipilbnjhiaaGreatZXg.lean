/-
  Proved: the call of StructureBuilds returns true for every graph, and what came in reads afterwards as it read before.
-/
import Derived.Test.YtmlhipilbnjhiaaGreatQz
set_option maxRecDepth 100000
set_option linter.unusedVariables false
set_option linter.unusedSimpArgs false
set_option linter.unnecessarySimpa false
set_option linter.unusedSectionVars false
namespace Go.Proofs.YtmlhipilbnjhiaaGreat.structureBuildsDone
open Go.ChangeShapes Go.WideShapes Go.ChangeAt Go.RowKit
theorem own:ownKnob Tryz.prog.godebug=none:=by kernel_rfl
theorem laidOut:laidOutB Tryz.prog=true:=by kernel_rfl
set_option maxRecDepth 100000 in
theorem lifted(F:Os)(d:F.Started)(H:Type)(enc:TypeId×Value->H):
  ReturnsInHanded {} Tryz.checked F 4 .any (Rows.structureBuildsSpec.pre6 enc Tryz.prog Tryz.f4 Rows.structureBuildsRow.domain false) (Rows.structureBuildsSpec.post enc Tryz.prog Tryz.f4 false true false false):=by
 refine returnsInHanded_of_change (C:=Tryz.checked) own d (by kernel_rfl) Tryz.func4
  (ChangeSpec.witness6 (enc:=enc) (C:=Tryz.checked) false ⟨#[],#[.agg #[.int .u32 0,.slice none 0 0]],[]⟩ 8 (by kernel_rfl) (by kernel_rfl) (by kernel_rfl) (by kernel_rfl)) ?_
 intro W base args I V o c B D _;have g:∀(j:Nat) t v,Tryz.f4.params[j]?=some t->args[j]?=some v->Value.okWide Tryz.prog W .any base t v:=c;have s:=B;obtain⟨p,q,n,M,rfl,O,Q⟩:=B;have A:DataW.TrodAll enc Tryz.prog W 0 (λ_=>true) true Tryz.f4.params.toList args.toList I p:=n;rw[Tryz.params4]at A g;obtain⟨v0,S,U,J,p0,Y,u,rfl,rfl,z,R⟩:=trodAll_cons A;obtain⟨rfl,rfl,rfl⟩:=trodAll_nil R;obtain rfl:args=#[v0]:=by cases args;simp_all
 obtain⟨rfl,rfl⟩:=trodVars_none M;have t0:=z;have lt0:∀x∈p0,x.block<W.heap.size:=by obtain⟨m,P⟩:=t0;exact DataW.trod_lt m _ _ _ P
 obtain⟨a0,X,y⟩:=Go.Ab.open_graph (L:=λ_=>False) (λ_ h=>h) (g 0 25 v0 rfl rfl) z;clear n c;refine(Go.Ab.row_true (Go.Ab.L36_StructureBuilds_ok a0) (w:=W) (vs:=#[v0]) λL K=>?_).mono λe T ⟨N,k⟩=>?_
 .exact(.cons ((y _).mono (λb _ _=>⟨rfl,K b⟩) (λ_ _ _ _ h=>h)) .nil)
 subst N;exact⟨_,rfl,_,_,_,[],_,[],s,trodAll_mk1 (shut_bool Tryz.underlying4 _),(trodAll_cons_mk (Below.trod laidOut (by kernel_rfl) (of_decide_eq_true (by kernel_rfl)) t0 k lt0) trodAll_mk0),rfl,k.frame _,λh=>by cases h⟩
theorem over:Rows.structureBuildsRow.holds Tryz.pinned (OpenSpec.ofChange Rows.structureBuildsSpec) :=
 OpenClaim.holds_of_wide 4 Tryz.f4 rfl rfl rfl rfl rfl rfl rfl ⟨rfl,rfl,rfl,rfl,rfl⟩ rfl rfl rfl rfl rfl (by kernel_rfl) Tryz.func4 (by kernel_rfl)
  (of_decide_eq_true (by kernel_rfl)) (by unfold Func.isWrapper;rw[if_neg (of_decide_eq_false (by kernel_rfl))];exact⟨rfl,rfl⟩)
  (λd b H c _=>lifted d b H c)
theorem proved:Rows.StructureBuildsSaid :=
 over
end Go.Proofs.YtmlhipilbnjhiaaGreat.structureBuildsDone
