/-
  Part 13 of the proof: how the calls of this program run, over values instead of memory, and what each function computes.
-/
import Derived.Test.YtdhlfajcofgpkaaGreatKl
set_option maxRecDepth 100000
set_option linter.unusedVariables false
set_option linter.unusedSimpArgs false
set_option linter.unnecessarySimpa false
set_option linter.unusedSectionVars false
open Nat renaming le_succ→Wa,le_refl→Wd,lt_succ_self→Wi,zero_le→Wr,le_trans→WJ,add_sub_cancel_left→W0
open Int renaming toNat_natCast→Wb,toNat→Wn,le_refl→Wz
open Option renaming bind_some→Wc,getD_some→Wh,map_eq_some_iff→Wj
open List renaming getElem_mem→We,getD_eq_getElem?_getD→Wf,getElem?_eq_getElem→Wg,mem_of_getElem?→Wk,getD_cons_succ→Wl,length_map→Wm,length_nil→Wo,length_append→Wq,getD_cons_zero→Ws,length_cons→Wx,mem_singleton→Wy,getElem_map→WA,length_take→WB,length_pos_iff→WC,length_mapIdx→WD,getElem?_mapIdx→WE,drop_eq_getElem_cons→WF,length_singleton→WG,getElem?_of_mem→WH,getElem?_eq_some_iff→WI,mem_append_left→WK,map_append→WL,nodup_append→WM,mem_append→WN,map_cons→WO,replicate→WP,mem_of_mem_drop→WQ,mem_cons_self→WR,getElem?_append→WS,map_singleton→WT,mem_map_of_mem→WU,take_of_length_le→WV,drop_of_length_le→WW,length_drop→WX,mem_cons_of_mem→WY,pairwise_iff_getElem→WZ
open And renaming intro→Wp
open Bool renaming and_true→Wt,true_and→Wu,and_false→Wv,false_and→Ww
namespace Go.Ab
open Go.RowKit Go.Proofs
section
variable {exit:List Int} {x y:List Bl} {v n n2 ga:Int} {k:Nat} {p q:Pg} {inp:List Int}
theorem zBa (hp:Progs y x v n n2 ga exit p q) (b:Nat):zht p 1 b=(y.getD b ⟨0,[]⟩).stmts:=by unfold zht zrw;rw[hp.p];rfl
theorem zAZ (hp:Progs y x v n n2 ga exit p q) (b:Nat):zht q 1 b=(x.getD b ⟨0,[]⟩).stmts:=by unfold zht zrw;rw[hp.q];rfl
theorem zCn (hp:Progs y x v n n2 ga exit p q):zht p 0 0=zjo v n ga exit:=by unfold zht zrw;rw[hp.p];rfl
theorem zzZ (hp:Progs y x v n n2 ga exit p q):zht q 0 0=zjo v n2 ga exit:=by unfold zht zrw;rw[hp.q];rfl
theorem zAE (h:SimP exit x y v n n2 ga) (hp:Progs y x v n n2 ga exit p q) (hk:2 < k) {r t:Rn} (hb:Base exit x y r t) (hov:r.ov=false) {b a a2:Nat} (pos:r.g=1∧r.b=b∧r.a=a∧t.g=1∧t.b=b∧t.a=a2) (hbl:b < y.length)
  {s:St} {xs ys:List St} (hx:((x.getD b ⟨0,[]⟩).stmts).drop a2=s::xs) (hy:((y.getD b ⟨0,[]⟩).stmts).drop a=s::ys) (hs:SubD exit (zaD exit x b) xs ys) (hv:AgL (·∈zk9 exit x b a2) r.vs t.vs) :
  Rel exit x y k (zhw p inp 301 r s) (zhw q inp 301 t s):=by
 obtain⟨p1,p2,p3,p4,p5,p6⟩:=pos;have hlen:=h.rel.len
 have hyb:y.getD b ⟨0,[]⟩=y[b]:=by rw[Wf,Wg hbl,Wh]
 have hmem:y[b]∈y:=We hbl
 have hsy:s∈y[b].stmts:=by rw[hyb] at hy;exact WQ (by rw[hy];exact WR)
 obtain⟨e1,e2,e3⟩:=h.ok.closed _ hmem;have hchk:=h.ok.chk _ hmem s hsy;obtain⟨f1,f2,f3,f4⟩:=zau hchk
 have hend:zcg s=ys.isEmpty:=by rw[hyb] at hy;exact zh9 e2 hy
 have hL:zk9 exit x b a2=zfd exit s (zfn exit xs (zaD exit x b)):=by unfold zk9;rw[hx];rfl
 have hag:∀w,(w∈zfn exit xs (zaD exit x b)∧w∉zlF s)∨w∈zfj s∨(zgx s=true∧w∈exit)→zaL r.vs w=zaL t.vs w:=fun w hw=>hv w (by rw[hL];exact zgD.2 hw)
 have hvals:zaf r.m r.vs s.e []=zaf t.m t.vs s.e []:=by
  rw[←hb.m]
  exact ziR _ _ fun w hw=>hag w (.inr (.inl ((zqI [] s.e).2 (.inr hw))))
 have hdx:=zjw hx;have hdy:=zjw hy
 have hnext:zk9 exit x b (a2+1)=zfn exit xs (zaD exit x b):=by unfold zk9;rw[hdx.1]
 have htick:=hb.tick;have hovt:(z7 r).ov=false:=hov
 have hat:zcg s=false→AtG exit x y b (a+1) (a2+1):=fun he=>by refine⟨hbl,by rw[hdx.1,hdy.1];exact hs,?_⟩;rw[hdy.1];rw[hend] at he;intro h0;rw[h0] at he;cases he
 have hpos1:(z7 r).g=1∧(z7 r).b=b∧(z7 r).a=(a+1:Nat)∧(z7 t).g=1∧(z7 t).b=b∧(z7 t).a=(a2+1:Nat) :=
  ⟨p1,p2,by show r.a+1=_;rw[p3];rfl,p4,p5,by show t.a+1=_;rw[p6];rfl⟩
 unfold zhw;rw[←hvals,←hb.out];split
 · exact htick.ended _
 split
 · exact htick.ended _
 rename_i hz;have hz0:(zaf r.m r.vs s.e []).2=0:=Classical.byContradiction hz;have hvl:=zns _ _ hz0;have hvr:=zkK (m:=r.m) (vs:=r.vs) s.e [] (by simp);generalize (zaf r.m r.vs s.e []).1=vv at hvl hvr ⊢
 have hnd:s.op≠1→s.op≠3→AgL (·∈zfn exit xs (zaD exit x b)) r.vs t.vs:=fun h1 h3 w hw=>hag w (.inl ⟨hw,by unfold zlF;rw[if_neg (by omega)];simp⟩)
 have hsame:zcg s=false→s.op≠1→s.op≠3→∀ {r2 t2:Rn},Base exit x y r2 t2→r2.vs=r.vs→t2.vs=t.vs→r2.g=(z7 r).g→r2.b=(z7 r).b→r2.a=(z7 r).a→t2.g=(z7 t).g→t2.b=(z7 t).b→t2.a=(z7 t).a→Rel exit x y k r2 t2:=by
  intro he h1 h3 r2 t2 hb2 v1 v2 c1 c2 c3 c4 c5 c6;refine⟨hb2,fun _=>.inr ⟨b,a+1,a2+1,?_,hat he,?_⟩⟩
  · rw[c1,c2,c3,c4,c5,c6];exact hpos1
  · rw[v1,v2,hnext];exact hnd h1 h3
 have hset:∀(w1 w2:Int) (c:s.op=1∨s.op=3),w1=w2→∀ {r2 t2:Rn},Base exit x y r2 t2→r2.vs=setR r.vs s.var w1→t2.vs=setR t.vs s.var w2→r2.g=(z7 r).g→r2.b=(z7 r).b→r2.a=(z7 r).a→t2.g=(z7 t).g→t2.b=(z7 t).b→t2.a=(z7 t).a→Rel exit x y k r2 t2:=by
  intro w1 w2 c hw r2 t2 hb2 v1 v2 c1 c2 c3 c4 c5 c6
  have he:zcg s=false:=by unfold zcg;rw[decide_eq_false_iff_not];omega
  refine⟨hb2,fun _=>.inr ⟨b,a+1,a2+1,?_,hat he,?_⟩⟩
  · rw[c1,c2,c3,c4,c5,c6];exact hpos1
  ·
   rw[v1,v2,hnext]
   refine AgL.setR f2.1 (fun w hw=>hag w (.inl ⟨hw.1,?_⟩)) fun _=>hw
   unfold zlF;rw[if_pos c,Wy];exact hw.2
 have hjump:∀c:Int,c∈zan s→6≤s.op→Rel exit x y k (zhg (z7 r) c) (zhg (z7 t) c):=by
  intro c hc h6
  have hnil:ys=[]:=by
   have:zcg s=true:=by unfold zcg;rw[decide_eq_true_iff];omega
   rw[hend] at this;exact List.isEmpty_iff.1 this
  have hxn:xs=[]:=by rw[hnil] at hs;cases hs;rfl
  rw[hnil,hyb] at hy;have hlt:=zgB hy;have hct:=e3 c (by rw[hlt];exact hc);obtain⟨c',rfl⟩:∃c':Nat,c=c':=⟨c.toNat,by omega⟩
  have hcl:c' < y.length:=by have:=hct.2;simp only at this;omega
  refine Base.jump h htick p1 p4 hcl fun w hw=>?_
  have hx1:x.getD b ⟨0,[]⟩=x[b]'(by omega):=by rw[Wf,Wg (by omega:b < x.length),Wh]
  have hxs:=hx;rw[hxn,hx1] at hxs;have hltx:=zgB hxs
  have:w∈zaD exit x b:=by rw[zpT (by omega),zfP];refine⟨c',by rw[hltx];exact hc,?_,by simpa using hw⟩;rw[zrR];omega
  refine hnd (by omega) (by omega) w ?_;rw[hxn];exact this
 unfold zej
 by_cases h1:s.op=1
 · rw[if_pos h1,if_pos h1];exact hset _ _ (.inl h1) rfl (htick.set s.var _ _) rfl rfl rfl rfl rfl rfl rfl rfl
 rw[if_neg h1,if_neg h1]
 by_cases h2:s.op=2
 ·
  rw[if_pos h2,if_pos h2];have hm:(z7 r).m=(z7 t).m:=hb.m;rw[←hm];split
  · exact htick.ended _
  · exact hsame (by unfold zcg;rw[decide_eq_false_iff_not];omega) h1 (by omega) ⟨rfl,htick.tk,htick.out,htick.err,htick.ov,htick.st,htick.lr,htick.lt,htick.fl,htick.fr⟩ rfl rfl rfl rfl rfl rfl rfl rfl
 rw[if_neg h2,if_neg h2]
 by_cases h3:s.op=3
 ·
  rw[if_pos h3,if_pos h3];have ht:(z7 r).tk=(z7 t).tk:=hb.tk;rw[←ht];split
  · exact htick.ended _
  · have hbs:=htick.set s.var (inp.getD (z7 r).tk.toNat 0) (inp.getD (z7 r).tk.toNat 0);exact hset _ _ (.inr h3) rfl ⟨hbs.m,rfl,hbs.out,hbs.err,hbs.ov,hbs.st,hbs.lr,hbs.lt,hbs.fl,hbs.fr⟩ rfl rfl rfl rfl rfl rfl rfl rfl
 rw[if_neg h3,if_neg h3]
 by_cases h4:s.op=4
 · rw[if_pos h4,if_pos h4];have ho:(z7 r).out=(z7 t).out:=hb.out;exact hsame (by unfold zcg;rw[decide_eq_false_iff_not];omega) h1 h3 ⟨htick.m,htick.tk,by simp only;rw[ho],htick.err,htick.ov,htick.st,htick.lr,htick.lt,htick.fl,htick.fr⟩ rfl rfl rfl rfl rfl rfl rfl rfl
 rw[if_neg h4,if_neg h4]
 by_cases h5:s.op=5
 ·
  rw[if_pos h5,if_pos h5]
  have hall:∀w:Int,0≤w→w < 12→w∈exit:=by
   rcases h.calls with hc|hc
   · exact hc
   · exact absurd h5 (hc _ hmem s hsy)
  have hlv:zgx s=true:=by unfold zgx;rw[decide_eq_true_iff];omega
  have hlow:∀w:Int,w < 12→zaL r.vs w=zaL t.vs w:=fun w hw=>by
   rcases Int.lt_or_le w 0 with h0|h0
   · unfold zaL;rw[if_pos (.inl h0),if_pos (.inl h0)]
   · exact hag w (.inr (.inr ⟨hlv,hall w h0 hw⟩))
  have he:zcg s=false:=by unfold zcg;rw[decide_eq_false_iff_not];omega
  refine Base.call h hp htick (by omega) s.tgt ⟨hb.lr,hb.lt,.inr ⟨hall,b,a+1,a2+1,hpos1.1,hpos1.2.1,hpos1.2.2.1,hpos1.2.2.2.1,hpos1.2.2.2.2.1,hpos1.2.2.2.2.2,hat he,?_⟩⟩ (fun _=>hlow) (fun w hw _=>hlow w hw);rw[hnext];exact hnd h1 h3
 rw[if_neg h5,if_neg h5]
 by_cases h6:s.op=6
 · rw[if_pos h6,if_pos h6];exact hjump _ (by unfold zan;rw[if_pos h6];simp) (by omega)
 rw[if_neg h6,if_neg h6]
 by_cases h7:s.op=7
 ·
  rw[if_pos h7,if_pos h7];split
  · exact hjump _ (by unfold zan;rw[if_neg h6,if_pos h7];simp) (by omega)
  · exact hjump _ (by unfold zan;rw[if_neg h6,if_pos h7];simp) (by omega)
 rw[if_neg h7,if_neg h7]
 by_cases h8:s.op=8
 ·
  rw[if_pos h8,if_pos h8];split
  · exact htick.ended _
  ·
   rename_i hlt
   have hv0:0≤vv.getD 0 0:=by
    rw[Wf]
    cases hh:vv[0]? with
    | none=>exact Wz 0
    | some z=>exact(hvr z (Wk hh)).1
   have hi:(vv.getD 0 0).toNat < s.cases.length:=by omega
   refine hjump _ ?_ (by omega);unfold zan;rw[if_neg h6,if_neg h7,if_pos h8,Wf,Wg hi];exact We hi
 rw[if_neg h8,if_neg h8]
 by_cases h9:s.op=9
 ·
  rw[if_pos h9,if_pos h9]
  exact htick.back hk hov fun w hw=>hag w (.inr (.inr ⟨by unfold zgx;rw[decide_eq_true_iff];omega,hw⟩))
 rw[if_neg h9,if_neg h9]
 have h10:s.op=10:=by omega
 rw[if_pos h10,if_pos h10];exact htick.ended _
theorem zkI {N:Nat} {r:Rn} {s:St} {vv:List Int} (h4:s.op≠4) (hv:zaf r.m r.vs s.e []=(vv,0)):zhw p inp N r s=zej p inp N (z7 r) s vv:=by unfold zhw;rw[if_neg (fun h=>h4 h.1),hv,if_neg (fun h=>h rfl)]
theorem Base.canL {r t:Rn} (h:Base exit x y r t):Base exit x y (canR r) t:=by
 refine⟨h.m,h.tk,h.out,h.err,h.ov,h.st,h.lr,h.lt,?_,fun i f g hf hg=>?_⟩
 · show (r.fr.mapIdx _).length=_;rw[WD,h.fl]
 · have hf':(r.fr.mapIdx fun i f=>{ f with id:=5+i })[i]? = some f:=hf;rw[WE] at hf';obtain⟨f1,e1,rfl⟩:=Wj.1 hf';have:=h.fr i f1 g e1 hg;exact⟨this.lf,this.lg,this.pos⟩
theorem Rel.canL {r t:Rn} (h:Rel exit x y k r t):Rel exit x y k (canR r) t:=⟨h.base.canL,h.pos⟩
theorem zFg (h:SimP exit x y v n n2 ga) {r t:Rn} (hb:Base exit x y r t) (hk:1 < k) (pos:r.g=0∧r.b=0∧r.a=(0:Nat)∧t.g=0∧t.b=0∧t.a=(0:Nat)) (hv:AgL (zq2 exit x 0) r.vs t.vs) :
  Rel exit x y k (zhw p inp 301 r (zrl v n)) (zhw q inp 301 t (zrl v n2)):=by
 obtain⟨p1,p2,p3,p4,p5,p6⟩:=pos
 have hval:∀(m:Mem) (vs:List Int) (c:Int),zaf m vs [.mk 1 c 0 0 []] []=([IntKind.u32.wrap c],0):=fun m vs c=>by
  have hc:zcj (.mk 1 c 0 0 [])=0:=by simp[zcj,zmq,zja,zdr,zcc,zw]
  have he:zkO m vs (.mk 1 c 0 0 [])=(IntKind.u32.wrap c,0):=by unfold zkO;rw[if_neg (fun h=>h hc),zhD];rfl
  unfold zaf;rw[he,if_neg (fun h=>h rfl)];rfl
 have ho:∀c,(zrl v c).op=1:=fun _=>rfl
 rw[zkI (by rw[ho];decide) (hval _ _ n),zkI (by rw[ho];decide) (hval _ _ n2)];unfold zej;rw[if_pos (ho n),if_pos (ho n2)]
 have hvar:∀c,(zrl v c).var=v:=fun _=>rfl
 rw[hvar,hvar];refine⟨hb.tick.set v _ _,fun _=>.inl ⟨1,hk,⟨p1,p2,by show r.a+1=_;rw[p3];rfl,p4,p5,by show t.a+1=_;rw[p6];rfl⟩,?_⟩⟩
 refine AgL.setR h.v0 (fun w _=>hv w (by unfold zq2;rw[if_pos rfl];trivial)) fun hl=>?_
 rcases h.set with hn|hn
 · rw[hn]
 · unfold zq2 at hl;rw[if_neg (by decide),if_pos rfl] at hl;exact absurd hl hn
theorem zDp (h:SimP exit x y v n n2 ga) (hp:Progs y x v n n2 ga exit p q) {r t:Rn} (hb:Base exit x y r t) (hk:2 < k) (pos:r.g=0∧r.b=0∧r.a=(1:Nat)∧t.g=0∧t.b=0∧t.a=(1:Nat)) (hv:AgL (zq2 exit x 1) r.vs t.vs) :
  Rel exit x y k (zhw p inp 301 r (zk4 ga)) (zhw q inp 301 t (zk4 ga)):=by
 obtain⟨p1,p2,p3,p4,p5,p6⟩:=pos;have ho:(zk4 ga).op=5:=rfl;rw[zkI (vv:=[]) (by rw[ho];decide) rfl,zkI (vv:=[]) (by rw[ho];decide) rfl];show Rel exit x y k (zrm p 301 (z7 r) ga) (zrm q 301 (z7 t) ga);refine Base.call h hp hb.tick (by omega) ga ⟨hb.lr,hb.lt,.inl ⟨p1,p2,by show r.a+1=_;rw[p3];rfl,p4,p5,by show t.a+1=_;rw[p6];rfl⟩⟩ (fun hf=>?_) (fun w _ hw=>hv w (by unfold zq2;rw[if_neg (by decide),if_pos rfl];exact hw));rw[hp.findga] at hf;cases hf
theorem zDy {r t:Rn} (hb:Base exit x y r t) {a:Nat} (hak:a+1 < k) (ha:2≤a) (pos:r.g=0∧r.b=0∧r.a=a∧t.g=0∧t.b=0∧t.a=a) (hv:AgL (zq2 exit x a) r.vs t.vs) {w:Int} (hw:w∈lowG exit) :
  Rel exit x y k (zhw p inp 301 r (zjB w)) (zhw q inp 301 t (zjB w)):=by
 obtain⟨p1,p2,p3,p4,p5,p6⟩:=pos
 have hvals:zaf r.m r.vs (zjB w).e []=zaf t.m t.vs (zjB w).e []:=by
  rw[←hb.m]
  refine ziR _ _ fun z hz=>hv z ?_
  have:z=w:=by
   unfold zjB at hz;simp only at hz
   simpa [zb0,occX] using hz
  rw[this];unfold zq2;rw[if_neg (by omega),if_neg (by omega)];exact zyc.1 hw
 have ho:(zjB w).op=4:=rfl;unfold zhw;rw[←hvals,←hb.out];split
 · exact hb.tick.ended _
 split
 · exact hb.tick.ended _
 show Rel exit x y k { z7 r with out:=(z7 r).out++[(zaf r.m r.vs (zjB w).e []).1.getD 0 0] } { z7 t with out:=(z7 t).out++[(zaf r.m r.vs (zjB w).e []).1.getD 0 0] };have hoo:(z7 r).out=(z7 t).out:=hb.out;have htick:=hb.tick;refine⟨⟨htick.m,htick.tk,by simp only;rw[hoo],htick.err,htick.ov,htick.st,htick.lr,htick.lt,htick.fl,htick.fr⟩,fun _=>.inl ⟨a+1,hak,⟨p1,p2,by show r.a+1=_;rw[p3];rfl,p4,p5,by show t.a+1=_;rw[p6];rfl⟩,fun z hz=>hv z ?_⟩⟩;unfold zq2 at hz ⊢;rw[if_neg (by omega),if_neg (by omega)] at hz ⊢;exact hz
theorem zB4 {r t:Rn} (hb:Base exit x y r t):Rel exit x y k (zhw p inp 301 r zjV) (zhw q inp 301 t zjV):=by have ho:zjV.op=10:=rfl;rw[zkI (vv:=[]) (by rw[ho];decide) rfl,zkI (vv:=[]) (by rw[ho];decide) rfl];show Rel exit x y k (endR (z7 r) 0) (endR (z7 t) 0);exact hb.tick.ended _
theorem zms (c:Int):(zjo v c ga exit).length=(lowG exit).length+3:=by unfold zjo;simp
theorem sim (h:SimP exit x y v n n2 ga) (hp:Progs y x v n n2 ga exit p q) {st:Int} {r r2:Rn} (hr:RunTo p inp st r r2):r2.err≠15→∀ {t t2:Rn},Rel exit x y ((lowG exit).length+3) r t→RunTo q inp st t t2→t2.err=r2.err∧t2.out=r2.out:=by
 induction hr with
 |
  @done r hov =>
  intro _ t t2 hrel ht;have hb:=hrel.base
  cases ht with
  | done _=>exact⟨hb.err.symm,hb.out.symm⟩
  | out ho _=>rw[←hb.ov,hov] at ho;cases ho
  | step ho _ _=>rw[←hb.ov,hov] at ho;cases ho
 | out _ _=>intro h15;exact absurd rfl h15
 |
  @step r r2 hov hst hrun ih =>
  intro h15 t t2 hrel ht;have hb:=hrel.base
  have both:Rel exit x y ((lowG exit).length+3) (zu0 p inp r) (zu0 q inp t)→t2.err=r2.err∧t2.out=r2.out:=fun hn=>by
   cases ht with
   | done ho=>rw[←hb.ov,hov] at ho;cases ho
   | out _ hs=>have:=hb.st;omega
   | step _ _ hrun2=>exact ih h15 hn hrun2
  rcases hrel.pos hov with ⟨a,ha,pos,hv⟩ | ⟨b,a,a2,pos,hat,hv⟩
  ·
   refine both (Rel.can ?_);obtain⟨p1,p2,p3,p4,p5,p6⟩:=pos
   have e1:stAt p r=(zjo v n ga exit).getD a zSt:=by unfold stAt;rw[p1,p2,p3,zCn hp];rfl
   have e2:stAt q t=(zjo v n2 ga exit).getD a zSt:=by unfold stAt;rw[p4,p5,p6,zzZ hp];rfl
   unfold znj;rw[e1,e2]
   match a,ha,p3,p6,hv with
   | 0,ha,p3,p6,hv=>exact zFg h hb (by omega) ⟨p1,p2,p3,p4,p5,p6⟩ hv
   | 1,ha,p3,p6,hv=>exact zDp h hp hb (by omega) ⟨p1,p2,p3,p4,p5,p6⟩ hv
   |
    a+2,ha,p3,p6,hv =>
    have hg:∀c,(zjo v c ga exit).getD (a+2) zSt=((lowG exit).map zjB++[zjV]).getD a zSt:=fun c=>by unfold zjo;rw[Wl,Wl]
    rw[hg,hg,Wf,WS];split
    · rename_i hi;rw[Wm] at hi;rw[Wg (by rw[Wm];exact hi),Wh,WA];exact zDy hb (by omega) (by omega) ⟨p1,p2,p3,p4,p5,p6⟩ hv (We hi)
    ·
     rename_i hi;rw[Wm] at hi
     have:a - ((lowG exit).map zjB).length=0:=by rw[Wm];omega
     rw[this];exact zB4 hb
  ·
   have hyc:∃s ys,((y.getD b ⟨0,[]⟩).stmts).drop a=s::ys:=by
    cases hh:((y.getD b ⟨0,[]⟩).stmts).drop a with
    | nil=>exact absurd hh hat.ne
    | cons s ys=>exact⟨s,ys,rfl⟩
   obtain⟨s,ys,hy⟩:=hyc;obtain⟨p1,p2,p3,p4,p5,p6⟩:=pos
   have e1:stAt p r=s:=by unfold stAt;rw[p1,p2,p3,zBa hp,Wb];exact(zjw hy).2 _
   have hsub:=hat.sub;rw[hy] at hsub;generalize hxd:((x.getD b ⟨0,[]⟩).stmts).drop a2=X at hsub
   have hyb:y.getD b ⟨0,[]⟩=y[b]'hat.hb:=by rw[Wf,Wg hat.hb,Wh]
   have hmem:y[b]'hat.hb∈y:=We hat.hb
   have hsy:s∈(y[b]'hat.hb).stmts:=by have hy2:=hy;rw[hyb] at hy2;exact WQ (by rw[hy2];exact WR)
   cases hsub with
   |
    @keep _ xs _ hs =>
    refine both (Rel.can ?_)
    have e2:stAt q t=s:=by unfold stAt;rw[p4,p5,p6,zAZ hp,Wb];exact(zjw hxd).2 _
    unfold znj;rw[e1,e2];exact zAE h hp (by omega) hb hov ⟨p1,p2,p3,p4,p5,p6⟩ hat.hb hxd hy hs hv
   |
    drop hs hrem =>
    have hchk:=h.ok.chk _ hmem s hsy;obtain⟨hz,ho,hnl⟩:=zz8 (m:=r.m) (vs:=r.vs) hrem hchk;obtain⟨f1,f2,f3,f4⟩:=zau hchk;refine ih h15 (t:=t) ?_ ht
    have hstep:zu0 p inp r=canR { z7 r with vs:=setR r.vs s.var ((zaf r.m r.vs s.e []).1.getD 0 0) }:=by unfold zu0 znj zhw;rw[e1,if_neg (by omega),if_neg (fun h=>h hz)];unfold zej;rw[if_pos ho];rfl
    rw[hstep]
    have hend:zcg s=ys.isEmpty:=by have hy2:=hy;rw[hyb] at hy2;exact zh9 (h.ok.closed _ hmem).2.1 hy2
    have hyn:ys≠[]:=by intro h0;rw[h0] at hend;unfold zcg at hend;have:=of_decide_eq_true hend;omega
    have hdy:=zjw hy
    have hb1:Base exit x y { z7 r with vs:=setR r.vs s.var ((zaf r.m r.vs s.e []).1.getD 0 0) } t :=
     ⟨hb.m,hb.tk,hb.out,hb.err,hb.ov,by show t.st≤r.st+1;have:=hb.st;omega,WJ hb.lr zmF,hb.lt,hb.fl,hb.fr⟩
    have hcan:Rel exit x y ((lowG exit).length+3) { z7 r with vs:=setR r.vs s.var ((zaf r.m r.vs s.e []).1.getD 0 0) } t:=by refine⟨hb1,fun _=>.inr ⟨b,a+1,a2,⟨p1,p2,by show r.a+1=_;rw[p3];rfl,p4,p5,p6⟩,⟨hat.hb,by rw[hxd,hdy.1];exact hs,by rw[hdy.1];exact hyn⟩,?_⟩⟩;refine AgL.setL f2.1 hv ?_;unfold zk9;rw[hxd];exact hnl
    exact hcan.canL
end
theorem QC {p q:Prop}(k:q)(h:Im q p:=by(repeat first|simp(disch:=try exact dis1) only[evD,Nat.reduceBEq,Nat.reduceAdd,Nat.reduceLeDiff,dT] | ((with_reducible apply Im.i);intro _) | ((with_reducible apply Im.a);omega));exact Im.r):p:=h k
theorem zw5 (p:Pg) (inp:List Int) (r:Rn) (h:Hd) (T:AH) (N:Nat) (hT:TOk N T) (hF:FOk T r.fr) (hst:zy h.stale) (hv:12≤r.vs.length) (hfv:∀f∈r.fr,12≤f.vs.length∧f.vs.length≤100000) (hn:r.fr.length≤1000):zab Tryz.prog zev [.ptr 0 0 0 0 0] (rnH p inp r h T) N
  (fun v H nx=>v=.tup []∧nx=N∧∃h2 T2,H=rnH p inp (zrc r) h2 T2∧TOk N T2∧FOk T2 (zrc r).fr∧zy h2.stale∧h2.tr=h.tr∧∀x,(∀f∈r.fr,f.id≠x)→T2.look x=T.look x):=by
 refine zbc (fn_x zmB rfl ?_);unfold zg4;have hB:=hBig;have h4:=hT.four;have n0:(0 == N)=false:=beq_false_of_ne (by omega);have n1:(1 == N)=false:=beq_false_of_ne (by omega);have n2:(2 == N)=false:=beq_false_of_ne (by omega);have n3:(3 == N)=false:=beq_false_of_ne (by omega);have tn:=hT.none;have tN:=tn N (Wd _);obtain⟨vs,m,tk,g,b,a,fr,err,out,st,ov⟩:=r;simp only at hF hv hfv hn
 rcases List.eq_nil_or_concat fr with rfl | ⟨fs,f,rfl⟩
 ·
  have hend:=zcV p inp ⟨vs,m,tk,g,b,a,[],err,out,st,ov⟩ h T N 0;unfold rnH rnC at hend ⊢;simp only[Wo] at hend ⊢
  (refine QC ?_;intros)
  refine zZ hend ?_;rintro v H nx ⟨rfl,rfl,rfl⟩
  (repeat first|simp(disch:=try exact dis1) only[evD,Nat.reduceBEq,Nat.reduceAdd,Nat.reduceLeDiff,zef]|with_reducible first|intro _|refine aJ ?_)
  exact⟨_,_,_,Ent.keepN (Wd _) ⟨rfl,trivial⟩,rfl,rfl,h,T,rfl,hT,hF,hst,rfl,fun _ _=>rfl⟩
 rw[List.concat_eq_append] at hF hfv hn ⊢
 have hfm:f∈fs++[f]:=by simp
 have hfr:=hF.row f hfm;obtain⟨hid4,hidN⟩:=hT.num _ _ hfr;obtain⟨hf12,hfl⟩:=hfv f hfm
 have hidF:∀f2∈fs,f2.id < N+1:=fun f2 h2=>by have:=(hT.num _ _ (hF.row f2 (WK _ h2))).2;omega
 have i0:(0 == f.id)=false:=beq_false_of_ne (by omega);have i1:(1 == f.id)=false:=beq_false_of_ne (by omega);have i2:(2 == f.id)=false:=beq_false_of_ne (by omega);have i3:(3 == f.id)=false:=beq_false_of_ne (by omega);have iN:(N == f.id)=false:=beq_false_of_ne (by omega);have iM:(f.id == N)=false:=beq_false_of_ne (by omega)
 have e1:(fs++[f]).length=fs.length+1:=by simp
 have e2:(fs++[f]).map Fr.cells++h.stale=fs.map Fr.cells++(Fr.cells f::h.stale):=by simp
 have e3:(fs.map Fr.cells++([AV.int .i64 f.g,.int .i64 f.b,.int .i64 f.a,.own f.id 0 0 0 f.vs.length]::h.stale)).getD fs.length []=[AV.int .i64 f.g,.int .i64 f.b,.int .i64 f.a,.own f.id 0 0 0 f.vs.length]:=by simp[Wf]
 have e4:fs.length < (fs.map Fr.cells++([AV.int .i64 f.g,.int .i64 f.b,.int .i64 f.a,.own f.id 0 0 0 f.vs.length]::h.stale)).length:=by simp
 have e5:((fs.length+1:Nat):Int) - 1=(fs.length:Int):=by omega
 unfold rnH rnC;simp only[e1,e2]
 (repeat first|simp(disch:=try exact dis1) only[evD,Nat.reduceBEq,Nat.reduceAdd,Nat.reduceLeDiff,dF,dT,e5,e3,Fr.cells,n0,n1,n2,n3,tN,Wb,zE,Wc,AObj.part]|with_reducible first|intro _|refine aJ ?_)
 refine zk (fun i:Nat=>([(0,.ptr 0 0 0 0 0),(3,.ptr N 0 0 0 0),(4,.int .i64 i)],rnH p inp ⟨vs,m,tk,g,b,a,fs,err,out,st,ov⟩ { h with stale:=Fr.cells f::h.stale } ((T.put N (.row 4 [Fr.cells f] 0)).put f.id (.row 1 ((vs.take i++f.vs.drop i).map cU) 0)))) (N+1) (fun i=>i≤12) (fun i=>12 - i) 0 (by decide) (Ent.low (by omega:N≤N+1) ?_ ?_ ?_) ?_
 ·
  refine zG (zG (zG (zG fun x o hx=>?_)));simp only[AH.look_put] at hx ⊢
  by_cases x1:x=f.id
  · subst x1;rw[if_pos rfl] at hx;rw[if_neg (by omega),if_neg (by omega),hfr];exact hx
  ·
   rw[if_neg x1] at hx
   by_cases x2:x=N
   · rw[if_pos x2] at hx ⊢;exact hx
   · rw[if_neg x2] at hx;rw[if_neg x2,if_neg x2];exact hx
 · exact zAN (by omega) (zeH (by omega) (zbV zjj) (zeH (by omega) (zkG (N:=N+1) (by omega) zuV) (zX (Wa N) hT.low))) hidF (zkG (by omega) (zkw (Wa N) (zbV hst)))
 · exact⟨⟨rfl,rfl⟩,⟨rfl,by simp[AV.lt1,AV.lt0,Nat.blt_eq]⟩,⟨rfl,rfl⟩,trivial⟩
 rintro i hi wf;unfold ze0;simp only[rnH,rnC,Fr.cells]
 have hlen:(vs.take i++f.vs.drop i).length=f.vs.length:=by simp;omega
 have hlen2:((vs.take i++f.vs.drop i).map cU).length=f.vs.length:=by rw[Wm,hlen]
 by_cases hi12:i < 12
 ·
  have hg:(vs.map cU).getD i []=[.int .u32 (vs[i]'(by omega))]:=zq (f:=cU) (d:=[]) (by omega)
  have hset:((vs.take i++f.vs.drop i).map cU).set i [.int .u32 (vs[i]'(by omega))]=(vs.take (i+1)++f.vs.drop (i+1)).map cU:=by
   rw[show [AV.int .u32 (vs[i]'(by omega))]=cU (vs[i]'(by omega)) from rfl,←List.map_set]
   congr 1
   rw[List.set_append,if_neg (by simp;omega),List.take_add_one,Wg (by omega)]
   have:i - (vs.take i).length=0:=by simp;omega
   rw[this,WF (by omega:i < f.vs.length),List.set_cons_zero,Option.toList_some,List.append_assoc,List.singleton_append]
  (repeat first|simp(disch:=try exact dis1) only[evD,Nat.reduceBEq,Nat.reduceAdd,Nat.reduceLeDiff,dT,dF,hg,hlen2,hset,i0,i1,i2,i3,iN,iM,n0,n1,n2,n3,Wb,zE,zr,Wc,AObj.part,AObj.upd]|with_reducible first|intro _|refine aJ ?_)
  refine⟨i+1,by omega,by omega,Ent.low (H2:=rnH p inp ⟨vs,m,tk,g,b,a,fs,err,out,st,ov⟩ { h with stale:=Fr.cells f::h.stale } ((T.put N (.row 4 [Fr.cells f] 0)).put f.id (.row 1 ((vs.take (i+1)++f.vs.drop (i+1)).map cU) 0))) (by omega:N≤N+1) ?_ ?_ ?_⟩
  ·
   refine zG (zG (zG (zG fun x o hx=>?_)));simp only[AH.look_put] at hx ⊢
   by_cases x1:x=f.id
   · rw[if_pos x1] at hx ⊢;exact hx
   · rw[if_neg x1] at hx ⊢;rw[if_neg x1];exact hx
  · exact zAN (by omega) (zeH (by omega) (zbV zjj) (zeH (by omega) (zkG (N:=N+1) (by omega) zuV) (zX (Wa N) hT.low))) hidF (zkG (by omega) (zkw (Wa N) (zbV hst)))
  · exact⟨⟨rfl,rfl⟩,⟨rfl,by simp[AV.lt1,AV.lt0,Nat.blt_eq]⟩,⟨rfl,rfl⟩,trivial⟩
 ·
  obtain rfl:i=12:=by omega
  (repeat first|simp(disch:=try exact dis1) only[evD,Nat.reduceBEq,Nat.reduceAdd,Nat.reduceLeDiff,dF,hlen2,i0,i1,i2,i3,iN,iM,n0,n1,n2,n3,Wb,zE,zr,Wc,AObj.part]|with_reducible first|intro _|refine aJ ?_)
  unfold zeY
  (repeat first|simp(disch:=try exact dis1) only[evD,Nat.reduceBEq,Nat.reduceAdd,Nat.reduceLeDiff,zef,hlen2,i0,i1,i2,i3,iN,iM,n0,n1,n2,n3,Wb,zE,zr,Wc,AObj.part]|with_reducible first|intro _|refine aJ ?_)
  have hbr:zrc ⟨vs,m,tk,g,b,a,fs++[f],err,out,st,ov⟩=⟨vs.take 12++f.vs.drop 12,m,tk,f.g,f.b,f.a,fs,err,out,st,ov⟩:=by unfold zrc;simp
  have hnd:=hF.dis;rw[WL,WT] at hnd
  have hne:∀f2∈fs,f2.id≠f.id:=fun f2 h2 he=>(WM.1 hnd).2.2 _ (WU h2) _ (List.mem_singleton_self _) he
  refine⟨.tup [],rnH p inp ⟨vs.take 12++f.vs.drop 12,m,tk,f.g,f.b,f.a,fs,err,out,st,ov⟩ { h with stale:=[.int .i64 f.g,.int .i64 f.b,.int .i64 f.a,encU (vs.take 12++f.vs.drop 12)]::h.stale } (T.cutL [f.id]),N,
   Ent.vs (fun r=>if r < N∧r≠f.id then some r else none) (fun r=>r=f.id∨N≤r) (Wd _) ?_ ?_ ?_ ?_ (zGT (if_pos ⟨by omega,by omega⟩) (if_pos ⟨by omega,by omega⟩) (if_pos ⟨by omega,by omega⟩) (if_pos ⟨by omega,by omega⟩) rfl rfl rfl rfl ?_ ?_ ?_) ⟨.tup _ _ _ rfl (fun _ _ _ h=>by simp at h),trivial⟩,rfl,rfl,{ h with stale:=[.int .i64 f.g,.int .i64 f.b,.int .i64 f.a,encU (vs.take 12++f.vs.drop 12)]::h.stale },T.cutL [f.id],by rw[hbr];rfl,hT.cut _,?_,?_,rfl,fun x hx=>by rw[zhO,if_neg (fun e=>hx f hfm e.symm)]⟩
  ·
   intro r hr
   by_cases e:r=f.id
   · subst e;refine .inr ⟨if_neg (fun h=>h.2 rfl),?_⟩;unfold rnH;rw[zcz hid4,zhO,if_pos rfl]
   · exact .inl (if_pos ⟨hr,e⟩)
  ·
   intro r1 r2 x h1 h2;split at h1
   ·
    split at h2
    · cases h1;cases h2;rfl
    · cases h2
   · cases h1
  ·
   intro r x h1;split at h1
   · cases h1;omega
   · cases h1
  ·
   intro r x h1;split at h1
   · cases h1;omega
   · cases h1
  ·
   have hin:∀a,a < N→a≠f.id→sg (fun r=>if r < N∧r≠f.id then some r else none) a 0=some (a,0,0):=fun a h1 h2=>zcM (if_pos ⟨h1,h2⟩) 0
   unfold rnC;simp only[VwL];refine⟨zO rfl,zO rfl,.int _ _ _,?_,.bool _ _,zO rfl,zO rfl,zO rfl,.int _ _ _,.int _ _ _,.int _ _ _,.int _ _ _,.own _ _ _ _ _ _ _ _ _ (hin _ (by omega) (by omega)) rfl,.own _ _ _ _ _ _ _ _ _ (hin _ (by omega) (by omega)) rfl,.int _ _ _,.own _ _ _ _ _ _ _ _ _ (hin _ (by omega) (by omega)) rfl,.int _ _ _,.bool _ _,trivial⟩;rw[←hlen];exact vw_U (.inl rfl) (zmv hid4 zE) (by omega)
  ·
   refine zoO (zgm ?_ (.of_flat hst)) rfl fun i f1 f2 e1 e2=>?_
   · simp only[VwL];refine⟨.int _ _ _,.int _ _ _,.int _ _ _,?_,trivial⟩;rw[←hlen];exact vw_U (.inl rfl) (zmv hid4 zE) (by omega)
   · rw[e1] at e2;cases e2;have hm:=Wk e1;have:=(hT.num _ _ (hF.row f1 (WK _ hm))).2;exact⟨zcM (if_pos ⟨this,hne _ hm⟩) 0,rfl⟩
  ·
   intro r o hr;rw[zhO] at hr;split at hr
   · cases hr
   · rename_i hne2;obtain⟨h1,h2⟩:=hT.num _ _ hr;obtain⟨sz,els,g0,h3,h4⟩:=hT.flt _ _ hr;refine⟨r,sz,els,g0,if_pos ⟨h2,hne2⟩,?_,h3,h4⟩;rw[zcz h1,AH.look_put,if_neg hne2,AH.look_put,if_neg (by omega),hr,h3]
  · rw[hbr];refine⟨fun f2 h2=>?_,(WM.1 hnd).1⟩;rw[zhO,if_neg (hne f2 h2)];exact hF.row f2 (WK _ h2)
  · exact zm rfl hst
theorem QP {p q:Prop}(k:q)(h:Im q p:=by(repeat first|simp(disch:=try exact dis1) only[evD,Nat.reduceBEq,Nat.reduceAdd,Nat.reduceLeDiff,zbb] | ((with_reducible apply Im.i);intro _) | ((with_reducible apply Im.a);omega));exact Im.r):p:=h k
theorem zwh (p:Pg) (inp:List Int) (r:Rn) (h:Hd) (T:AH) (N:Nat) (t:Int) (hT:TOk N T) (hF:FOk T r.fr) (hst:zy h.stale) (hv:12≤r.vs.length∧r.vs.length≤100000) (hn:r.fr.length≤1000) (hp:p.gs.length≤100000)
  (hbl:∀g∈p.gs,g.blocks≠[]) (htr:h.tr.length≤100000):zab Tryz.prog zeI [.ptr 0 0 0 0 0,.int .u32 t] (rnH p inp r h T) N (zkP p inp h T r.fr N (zrm p N r t)):=by
 refine zbc (fn_x zm2 rfl ?_);unfold zg3;have hB:=hBig;have h4:=hT.four;have n0:(0 == N)=false:=beq_false_of_ne (by omega);have n1:(1 == N)=false:=beq_false_of_ne (by omega);have n2:(2 == N)=false:=beq_false_of_ne (by omega);have n3:(3 == N)=false:=beq_false_of_ne (by omega)
 have q0:∀k,(0 == N+k)=false:=fun k=>beq_false_of_ne (by omega)
 have q1:∀k,(1 == N+k)=false:=fun k=>beq_false_of_ne (by omega)
 have q2:∀k,(2 == N+k)=false:=fun k=>beq_false_of_ne (by omega)
 have q3:∀k,(3 == N+k)=false:=fun k=>beq_false_of_ne (by omega)
 have tn:=hT.none;have tN:=tn N (Wd _);have hfind:=zlw p t hp;unfold zrm;have hspec:=zh1 t p.gs 0;generalize za6 t p.gs 0=F at hfind hspec ⊢;unfold rnH rnC;simp only[Pg.cells] at hfind
 (repeat first|simp(disch:=try exact dis1) only[evD,Nat.reduceBEq,Nat.reduceAdd,Nat.reduceLeDiff,n0,n1,n2,n3,tN]|with_reducible first|intro _|refine aJ ?_)
 refine ze (zd hfind rfl) ?_
 by_cases hF0:F < 0
 ·
  rw[if_pos hF0];have hend:=zcV p inp r h T N 17;unfold rnH rnC at hend
  (refine QC ?_;intros)
  refine zZ hend ?_;rintro v H nx ⟨rfl,rfl,rfl⟩
  (refine QP ?_;intros)
  exact⟨_,_,_,Ent.keepN (Wd _) ⟨rfl,trivial⟩,rfl,Wd _,h,T,rfl,hT,hF,hst,Wa _,fun _ _ _=>rfl⟩
 rw[if_neg hF0]
 by_cases hd:256≤r.fr.length
 ·
  rw[if_pos hd];have hend:=zcV p inp r h T N 20;unfold rnH rnC at hend
  (refine Qj ?_;intros)
  refine zZ hend ?_;rintro v H nx ⟨rfl,rfl,rfl⟩
  (refine QP ?_;intros)
  exact⟨_,_,_,Ent.keepN (Wd _) ⟨rfl,trivial⟩,rfl,Wd _,h,T,rfl,hT,hF,hst,Wa _,fun _ _ _=>rfl⟩
 rw[if_neg hd]
 have e1:(r.fr.map Fr.cells++h.stale).take r.fr.length=r.fr.map Fr.cells:=by rw[List.take_append_of_le_length (by simp),WV (by simp)]
 (repeat first|simp(disch:=try exact dis1) only[evD,Nat.reduceBEq,Nat.reduceAdd,Nat.reduceLeDiff,dT,dF,n0,n1,n2,n3,tN,e1,Wb,zE,zr,zar,q0,q1,q2,q3,tn,Wc,AObj.part,AObj.upd]|with_reducible first|intro _|refine aJ ?_)
 have hrg:0≤F:=by omega
 suffices hk8:wpX Tryz.prog N zcF (retK zbb (zgg N (zkP p inp h T r.fr N (zhg { r with fr:=r.fr++[⟨N,r.g,r.b,r.a,r.vs⟩],vs:=r.vs.take 12,g:=F } 0))))
   [(0,.ptr 0 0 0 0 0),(4,.int .i64 F),(5,.ptr N 0 0 0 0)] (rnH p inp r h (T.put N (.row 4 [[.int .i64 r.g,.int .i64 r.b,.int .i64 r.a,.nilsl]] 0))) (N+1) by
  (repeat' with_reducible apply Wp)<;>exact hk8
 unfold zcF rnH rnC
 have e2:∀H,zdU 1 (encL 1 cU r.vs) H=some (r.vs.map cU):=fun H=>zB5
 have tM:∀k x,(T.put N x).look (N+1+k)=none:=fun k x=>by rw[zr (by omega)];exact tn _ (by omega)
 (repeat first|simp(disch:=try exact dis1) only[evD,Nat.reduceBEq,Nat.reduceAdd,Nat.reduceLeDiff,dT,dF,e2,n0,n1,n2,n3,tN,e1,Wb,zE,zr,zar,zba,tn,Wc,AObj.part,AObj.upd]|with_reducible first|intro _|refine aJ ?_)
 suffices hk10:∀T':AH,T'.look (N+1)=some (.row 1 (r.vs.map cU) 0)→(∀x,x < N→T'.look x=T.look x)→(∀x,N+3≤x→T'.look x=none)→wpX Tryz.prog N zci (retK zbb (zgg N (zkP p inp h T r.fr N (zhg { r with fr:=r.fr++[⟨N,r.g,r.b,r.a,r.vs⟩],vs:=r.vs.take 12,g:=F } 0))))
   [(0,.ptr 0 0 0 0 0),(4,.int .i64 F)] ((0,.row 18 [[encL 2 G.cells p.gs,encL 5 Sct.cells p.secs,.int .u32 p.entry,encL 1 cU r.vs,.bool true,encL 5 Sct.cells r.m.l,encL 2 celV r.m.c,encL 1 cU inp,.int .i64 r.tk,.int .i64 r.g,.int .i64 r.b,.int .i64 r.a,.own 3 0 (h.gc+1) 0 (r.fr.length+1),.own 1 0 h.gt 0 h.tr.length,.int .i64 r.err,.own 2 0 h.go 0 r.out.length,.int .i64 r.st,.bool r.ov]] 0)::(1,.row 1 (h.tr.map cU) h.gt)::(2,.row 1 (r.out.map cU) h.go)::(3,.row 4 (r.fr.map Fr.cells++[[.int .i64 r.g,.int .i64 r.b,.int .i64 r.a,.own (N+1) 0 0 0 r.vs.length]]) (h.gc+1))::T') (N+3) by
  have e3:r.fr.length≤(r.fr.map Fr.cells++h.stale).length:=by simp
  (repeat' with_reducible apply Wp)
  all_goals first
   | exact e3
   | omega
   | (refine hk10 _ ?_ ?_ ?_<;>intros<;>simp only[AH.look_put]<;>(repeat rw[if_neg (by omega)])<;>first
     | rfl
     | exact if_pos rfl
     | (refine tn _ ?_;omega))
 intro T' hl1 hl2 hl3;unfold zci
 have e5:=fun H=>ziG (f:=cU) (sz:=1) (H:=H) hv.1 (fun _=>rfl)
 have h12:((12:Int) - 0).toNat=12:=rfl;have t0:=hl3 (N+3) (Wd _);have t1:=hl3 (N+3+1) (by omega)
 (repeat first|simp(disch:=try exact dis1) only[evD,Nat.reduceBEq,Nat.reduceAdd,Nat.reduceLeDiff,dT,dF,n0,n1,n2,n3,e5,zgv,zni,znJ,h12,Wb,zE,zr,zar,zba,t0,t1,Wc,AObj.part,AObj.upd]|with_reducible first|intro _|refine aJ ?_)
 have hln:(r.vs.take 12).length=12:=by rw[WB];omega
 have hnew:=hF.ne hT (Wd N);have hT2:TOk (N+1) (T.put N (.row 1 (r.vs.map cU) 0)):=hT.put (zX (Wa N) hT.low) (by omega) h4 (by omega) zjj
 have hF2:FOk (T.put N (.row 1 (r.vs.map cU) 0)) (r.fr++[⟨N,r.g,r.b,r.a,r.vs⟩]):=by
  have hp2:=hF.put (r:=N) (o:=.row 1 (r.vs.map cU) 0) hnew;refine⟨fun f hf=>?_,?_⟩
  ·
   rcases WN.1 hf with hf|hf
   · exact hp2.row f hf
   · rw[Wy.1 hf];exact zE
  · rw[WL,WT];refine WM.2 ⟨hF.dis,by simp,fun a ha b hb=>?_⟩;obtain⟨f,hf,rfl⟩:=List.mem_map.1 ha;rw[Wy.1 hb];exact hnew f hf
 refine zqR [(0,.ptr 0 0 0 0 0)] (rnH p inp { r with fr:=r.fr++[⟨N,r.g,r.b,r.a,r.vs⟩],vs:=r.vs.take 12,g:=F } { h with gc:=h.gc+1,stale:=[] } (T.put N (.row 1 (r.vs.map cU) 0))) (N+1) fun _ =>
  ⟨Ent.vs (fun x=>if x < N then some x else if x=N then some (N+1) else none) (fun x=>x=N+3) (Wa N) ?_ ?_ ?_ ?_ (zGT (if_pos (by omega)) (if_pos (by omega)) (if_pos (by omega)) (if_pos (by omega)) rfl rfl rfl rfl ?_ ?_ ?_) ⟨.ptr _ _ _ _ _ _ _ _ _ (zcM (if_pos (by omega)) 0) rfl,trivial⟩,?_⟩
 · intro x hx;exact .inl (if_pos hx)
 ·
  intro x1 x2 y h1 h2
  repeat' split at h1
  all_goals repeat' split at h2
  all_goals first
   | (cases h1;done)
   | (cases h2;done)
   | (cases h1;cases h2;omega)
   | (cases h1;injection h2;omega)
 ·
  intro x y h1
  repeat' split at h1
  all_goals first
   | (cases h1;done)
   | (cases h1;omega)
 ·
  intro x y h1
  repeat' split at h1
  all_goals first
   | (cases h1;done)
   | (cases h1;omega)
 ·
  unfold rnC;simp only[VwL];refine⟨zO rfl,zO rfl,.int _ _ _,?_,.bool _ _,zO rfl,zO rfl,zO rfl,.int _ _ _,.int _ _ _,.int _ _ _,.int _ _ _,?_,.own _ _ _ _ _ _ _ _ _ (zcM (if_pos (by omega)) 0) rfl,.int _ _ _,.own _ _ _ _ _ _ _ _ _ (zcM (if_pos (by omega)) 0) rfl,.int _ _ _,.bool _ _,trivial⟩
  ·
   have hv12:=fun(H H2:AH) σ (D:Nat→Nat→Prop) hD hg=>vw_U (H:=H) (H2:=H2) (σ:=σ) (D:=D) (t:=true) (r:=N+3) (q:=0) (g:=1) (l:=r.vs.take 12) hD hg (by omega)
   rw[hln] at hv12;exact hv12 _ _ _ _ rfl (zmv (by omega) zE)
  · rw[Wq,WG];exact .own _ _ _ _ _ _ _ _ _ (zcM (if_pos (by omega)) 0) rfl
 ·
  rw[show r.fr.map Fr.cells++[[AV.int .i64 r.g,.int .i64 r.b,.int .i64 r.a,.own (N+1) 0 0 0 r.vs.length]]=(r.fr++[(⟨N+1,r.g,r.b,r.a,r.vs⟩:Fr)]).map Fr.cells++[] by simp[Fr.cells]]
  refine zoO zin (by simp) fun i f1 f2 e1 e2=>?_
  simp only at e2;rw[WS] at e1 e2;split at e1
  · rename_i hi;rw[if_pos hi,e1] at e2;cases e2;have:=(hT.num _ _ (hF.row f1 (Wk e1))).2;exact⟨zcM (if_pos this) 0,rfl⟩
  ·
   rename_i hi;rw[if_neg hi] at e2;rw[List.getElem?_singleton] at e1 e2;split at e1
   · rename_i h0;rw[if_pos h0] at e2;cases e1;cases e2;refine⟨zcM ?_ 0,rfl⟩;simp only;rw[if_neg (Nat.lt_irrefl N),if_pos trivial]
   · cases e1
 ·
  intro x o hx;rw[AH.look_put] at hx;split at hx
  · rename_i he;subst he;cases hx;refine⟨x+1,_,_,_,by rw[if_neg (Nat.lt_irrefl x),if_pos rfl],?_,rfl,zjj⟩;rw[zcz (by omega),AH.look_put,if_neg (by omega),hl1]
  · obtain⟨h1,h2⟩:=hT.num _ _ hx;obtain⟨sz,els,g0,h3,h5⟩:=hT.flt _ _ hx;refine⟨x,sz,els,g0,if_pos h2,?_,h3,h5⟩;rw[zcz h1,AH.look_put,if_neg (by omega),hl2 x h2,hx,h3]
 ·
  obtain⟨k,hk,hFk,_⟩:∃k:Nat,∃hk:k < p.gs.length,F=k∧p.gs[k].addr=t:=by
   rcases hspec with h1 | ⟨k,hk,h1,h2⟩
   · omega
   · exact⟨k,hk,by omega,h2⟩
  have hb0:0 < p.gs[k].blocks.length:=WC.2 (hbl _ (We hk));have hen:=zdO p inp { r with fr:=r.fr++[⟨N,r.g,r.b,r.a,r.vs⟩],vs:=r.vs.take 12,g:=F } { h with gc:=h.gc+1,stale:=[] } (T.put N (.row 1 (r.vs.map cU) 0)) (N+1) 0 k 0 hk hFk hb0 rfl htr hT2 hF2 zaj
  (refine Qa ?_;intros)
  refine zZ hen ?_;rintro v H nx ⟨rfl,rfl,rfl⟩
  (refine QP ?_;intros)
  refine⟨_,_,_,Ent.keepN (Wa N) ⟨rfl,trivial⟩,rfl,Wa N,_,_,rfl,hT2,hF2,zaj,?_,fun x hx _=>zr (by omega)⟩;simp
structure SOk (p:Pg) (inp:List Int) (r:Rn) (h:Hd) (T:AH) (N:Nat) (s:St) (v:List Int) (g:Nat):Prop where
 hT:TOk N T
 hF:FOk T r.fr
 hst:zy h.stale
 vs:12≤r.vs.length∧r.vs.length≤100000
 fr:r.fr.length≤300
 frv:∀f∈r.fr,12≤f.vs.length∧f.vs.length≤100000
 pg:p.gs.length≤1000
 bl:∀g∈p.gs,g.blocks≠[]
 tr:h.tr.length≤90000
 mok:r.m.ok
 mc:r.m.c.length≤900000
 out:r.out.length≤5000
 il:inp.length≤100000
 tk:0≤r.tk
 chk:s.check=0
 vl:v.length=s.e.length
 vr:∀z∈v,R32 z
 hg:g < p.gs.length
 rg:r.g=g
 tg:∀t∈zan s,0≤t∧t < p.gs[g].blocks.length
theorem zDN (o:Int) (ho:o=1∨o=4∨o=7∨o=8) {n:Nat} (h:zR o=n):n=1:=by
 have:zR o=1:=by rcases ho with rfl|rfl|rfl|rfl<;>rfl
 omega
theorem zER {p:Pg} {inp:List Int} {r:Rn} {h:Hd} {T:AH} {N:Nat} {s:St} {v:List Int} {g:Nat} (k:SOk p inp r h T N s v g) (ho:s.op=1):wpX Tryz.prog N zt (retK zo (zgg N (zkP p inp h T r.fr N (zej p inp (N+1) r s v))))
  [(0,.ptr 0 0 0 0 0),(2,.ptr N 0 0 0 0),(3,encU v)] (rnH p inp r h (T.put N (.row 8 [s.cells] 0))) (N+1):=by
 obtain⟨hT,hF,hst,⟨hv1,hv2⟩,hfr,hfrv,hpg,hbl,htr,hmok,hmc,hout,hil,htk,hchk,hvl,hvr,hg,hrg,htg⟩:=k;have hB:=hBig;have h4:=hT.four;have tn:=hT.none;have hT1:TOk (N+1) (T.put N (.row 8 [s.cells] 0)):=hT.put (zX (Wa N) hT.low) (Wa N) h4 (Wi N) (by simp[St.flat]);have hF1:FOk (T.put N (.row 8 [s.cells] 0)) r.fr:=hF.put (hF.ne hT (Wd N))
 have keep:∀x,x < N→(∀f∈r.fr,f.id≠x)→(T.put N (.row 8 [s.cells] 0)).look x=T.look x:=fun x hx _=>zr (by omega)
 obtain⟨c1,c2,c3,c4⟩:=zau hchk;unfold zej
 have hOp:∀n:Int,decide (s.op=n)=decide ((1:Int)=n):=fun n=>by rw[ho]
 rw[if_pos ho];unfold zt encU rnH rnC;obtain⟨op,var,width,next,els,tgt,e,cs⟩:=s;simp only at ho hOp c1 c2 c3 c4 hvl htg;subst ho
 have hv0:0 < v.length:=by have:=zDN _ (by decide) c4;omega
 have hg0:(v.map cU).getD (Wn 0) []=[.int .u32 v[0]]:=zq (f:=cU) (d:=[]) hv0
 have hd0:v.getD 0 0=v[0]:=by rw[Wf,Wg hv0,Wh]
 rw[hd0];have hset:=zrZ r.vs var v[0] hv2 c2;simp only[stV] at hset
 (repeat first|simp(disch:=try exact dis1) only[evD,Nat.reduceBEq,Nat.reduceAdd,Nat.reduceLeDiff,dT,dF,hg0,zad,fldP,Wb,zE,zr,zar,zba,tn,Wc,AObj.part,AObj.upd,St.cells,hOp]|with_reducible first|intro _|refine aJ ?_)
 refine zai (zd hset rfl) ?_
 (repeat first|simp(disch:=try exact dis1) only[evD,Nat.reduceBEq,Nat.reduceAdd,Nat.reduceLeDiff,dT,dF,zo,Wb,zE,zr,zar,zba,tn,Wc,AObj.part,AObj.upd,St.cells,hOp]|with_reducible first|intro _|refine aJ ?_)
 exact⟨_,_,_,Ent.keepN (by omega) ⟨rfl,trivial⟩,rfl,by omega,h,_,rfl,hT1,hF1,hst,Wa _,keep⟩
theorem Qk {p q:Prop}(k:q)(h:Im q p:=by(repeat first|simp(disch:=try exact dis1) only[evD,Nat.reduceBEq,Nat.reduceAdd,Nat.reduceLeDiff,zo] | ((with_reducible apply Im.i);intro _) | ((with_reducible apply Im.a);omega));exact Im.r):p:=h k
theorem zB3 {p:Pg} {inp:List Int} {r:Rn} {h:Hd} {T:AH} {N:Nat} {s:St} {v:List Int} {g:Nat} (k:SOk p inp r h T N s v g) (ho:s.op=10):wpX Tryz.prog N zt (retK zo (zgg N (zkP p inp h T r.fr N (zej p inp (N+1) r s v))))
  [(0,.ptr 0 0 0 0 0),(2,.ptr N 0 0 0 0),(3,encU v)] (rnH p inp r h (T.put N (.row 8 [s.cells] 0))) (N+1):=by
 obtain⟨hT,hF,hst,⟨hv1,hv2⟩,hfr,hfrv,hpg,hbl,htr,hmok,hmc,hout,hil,htk,hchk,hvl,hvr,hg,hrg,htg⟩:=k;have hB:=hBig;have h4:=hT.four;have tn:=hT.none;have hT1:TOk (N+1) (T.put N (.row 8 [s.cells] 0)):=hT.put (zX (Wa N) hT.low) (Wa N) h4 (Wi N) (by simp[St.flat]);have hF1:FOk (T.put N (.row 8 [s.cells] 0)) r.fr:=hF.put (hF.ne hT (Wd N))
 have keep:∀x,x < N→(∀f∈r.fr,f.id≠x)→(T.put N (.row 8 [s.cells] 0)).look x=T.look x:=fun x hx _=>zr (by omega)
 obtain⟨c1,c2,c3,c4⟩:=zau hchk;unfold zej
 have hOp:∀n:Int,decide (s.op=n)=decide ((10:Int)=n):=fun n=>by rw[ho]
 rw[if_neg (by omega:¬s.op=1),if_neg (by omega:¬s.op=2),if_neg (by omega:¬s.op=3),if_neg (by omega:¬s.op=4),if_neg (by omega:¬s.op=5),if_neg (by omega:¬s.op=6),if_neg (by omega:¬s.op=7),if_neg (by omega:¬s.op=8),if_neg (by omega:¬s.op=9),if_pos ho];unfold zt encU rnH rnC;obtain⟨op,var,width,next,els,tgt,e,cs⟩:=s;simp only at ho hOp c1 c2 c3 c4 hvl htg;subst ho;have hend:=zcV p inp r h (T.put N (.row 8 [St.cells ⟨10,var,width,next,els,tgt,e,cs⟩] 0)) (N+1) 0;unfold rnH rnC at hend
 (repeat first|simp(disch:=try exact dis1) only[evD,Nat.reduceBEq,Nat.reduceAdd,Nat.reduceLeDiff,dT,dF,Wb,zE,zr,zar,zba,tn,Wc,AObj.part,AObj.upd,St.cells,hOp]|with_reducible first|intro _|refine aJ ?_)
 refine zZ hend ?_;rintro v H nx ⟨rfl,rfl,rfl⟩
 (refine Qk ?_;intros)
 exact⟨_,_,_,Ent.keepN (by omega) ⟨rfl,trivial⟩,rfl,by omega,h,_,rfl,hT1,hF1,hst,Wa _,keep⟩
theorem zDD {p:Pg} {inp:List Int} {r:Rn} {h:Hd} {T:AH} {N:Nat} {s:St} {v:List Int} {g:Nat} (k:SOk p inp r h T N s v g) (ho:s.op=5):wpX Tryz.prog N zt (retK zo (zgg N (zkP p inp h T r.fr N (zej p inp (N+1) r s v))))
  [(0,.ptr 0 0 0 0 0),(2,.ptr N 0 0 0 0),(3,encU v)] (rnH p inp r h (T.put N (.row 8 [s.cells] 0))) (N+1):=by
 obtain⟨hT,hF,hst,⟨hv1,hv2⟩,hfr,hfrv,hpg,hbl,htr,hmok,hmc,hout,hil,htk,hchk,hvl,hvr,hg,hrg,htg⟩:=k;have hB:=hBig;have h4:=hT.four;have tn:=hT.none;have hT1:TOk (N+1) (T.put N (.row 8 [s.cells] 0)):=hT.put (zX (Wa N) hT.low) (Wa N) h4 (Wi N) (by simp[St.flat]);have hF1:FOk (T.put N (.row 8 [s.cells] 0)) r.fr:=hF.put (hF.ne hT (Wd N))
 have keep:∀x,x < N→(∀f∈r.fr,f.id≠x)→(T.put N (.row 8 [s.cells] 0)).look x=T.look x:=fun x hx _=>zr (by omega)
 obtain⟨c1,c2,c3,c4⟩:=zau hchk;unfold zej
 have hOp:∀n:Int,decide (s.op=n)=decide ((5:Int)=n):=fun n=>by rw[ho]
 rw[if_neg (by omega:¬s.op=1),if_neg (by omega:¬s.op=2),if_neg (by omega:¬s.op=3),if_neg (by omega:¬s.op=4),if_pos ho];unfold zt encU rnH rnC;obtain⟨op,var,width,next,els,tgt,e,cs⟩:=s;simp only at ho hOp c1 c2 c3 c4 hvl htg;subst ho;have hcall:=zwh p inp r h (T.put N (.row 8 [St.cells ⟨5,var,width,next,els,tgt,e,cs⟩] 0)) (N+1) tgt hT1 hF1 hst ⟨hv1,hv2⟩ (by omega) (by omega) hbl (by omega);unfold rnH rnC at hcall
 (repeat first|simp(disch:=try exact dis1) only[evD,Nat.reduceBEq,Nat.reduceAdd,Nat.reduceLeDiff,dT,dF,Wb,zE,zr,zar,zba,tn,Wc,AObj.part,AObj.upd,St.cells,hOp]|with_reducible first|intro _|refine aJ ?_)
 refine zZ hcall ?_;rintro v H nx ⟨rfl,k0,h2,T2,rfl,k1,k2,k3,k4,k5⟩
 (refine Qk ?_;intros)
 exact⟨_,_,_,Ent.keepN (by omega) ⟨rfl,trivial⟩,rfl,by omega,h2,_,rfl,k1,k2,k3,k4,fun x hx hf=>(k5 x (by omega) hf).trans (keep x hx hf)⟩
theorem zFd {p:Pg} {inp:List Int} {r:Rn} {h:Hd} {T:AH} {N:Nat} {s:St} {v:List Int} {g:Nat} (k:SOk p inp r h T N s v g) (ho:s.op=9):wpX Tryz.prog N zt (retK zo (zgg N (zkP p inp h T r.fr N (zej p inp (N+1) r s v))))
  [(0,.ptr 0 0 0 0 0),(2,.ptr N 0 0 0 0),(3,encU v)] (rnH p inp r h (T.put N (.row 8 [s.cells] 0))) (N+1):=by
 obtain⟨hT,hF,hst,⟨hv1,hv2⟩,hfr,hfrv,hpg,hbl,htr,hmok,hmc,hout,hil,htk,hchk,hvl,hvr,hg,hrg,htg⟩:=k;have hB:=hBig;have h4:=hT.four;have tn:=hT.none;have hT1:TOk (N+1) (T.put N (.row 8 [s.cells] 0)):=hT.put (zX (Wa N) hT.low) (Wa N) h4 (Wi N) (by simp[St.flat]);have hF1:FOk (T.put N (.row 8 [s.cells] 0)) r.fr:=hF.put (hF.ne hT (Wd N))
 have keep:∀x,x < N→(∀f∈r.fr,f.id≠x)→(T.put N (.row 8 [s.cells] 0)).look x=T.look x:=fun x hx _=>zr (by omega)
 obtain⟨c1,c2,c3,c4⟩:=zau hchk;unfold zej
 have hOp:∀n:Int,decide (s.op=n)=decide ((9:Int)=n):=fun n=>by rw[ho]
 rw[if_neg (by omega:¬s.op=1),if_neg (by omega:¬s.op=2),if_neg (by omega:¬s.op=3),if_neg (by omega:¬s.op=4),if_neg (by omega:¬s.op=5),if_neg (by omega:¬s.op=6),if_neg (by omega:¬s.op=7),if_neg (by omega:¬s.op=8),if_pos ho];unfold zt encU rnH rnC;obtain⟨op,var,width,next,els,tgt,e,cs⟩:=s;simp only at ho hOp c1 c2 c3 c4 hvl htg;subst ho;have hback:=zw5 p inp r h (T.put N (.row 8 [St.cells ⟨9,var,width,next,els,tgt,e,cs⟩] 0)) (N+1) hT1 hF1 hst hv1 hfrv (by omega);unfold rnH rnC at hback
 (repeat first|simp(disch:=try exact dis1) only[evD,Nat.reduceBEq,Nat.reduceAdd,Nat.reduceLeDiff,dT,dF,Wb,zE,zr,zar,zba,tn,Wc,AObj.part,AObj.upd,St.cells,hOp]|with_reducible first|intro _|refine aJ ?_)
 refine zZ hback ?_;rintro v H nx ⟨rfl,rfl,h2,T2,rfl,k1,k2,k3,k4,k5⟩
 (refine Qk ?_;intros)
 exact⟨_,_,_,Ent.keepN (by omega) ⟨rfl,trivial⟩,rfl,by omega,h2,_,rfl,k1,k2,k3,by rw[k4];exact Wa _,fun x hx hf=>(k5 x hf).trans (keep x hx hf)⟩
theorem zEJ {p:Pg} {inp:List Int} {r:Rn} {h:Hd} {T:AH} {N:Nat} {s:St} {v:List Int} {g:Nat} (k:SOk p inp r h T N s v g) (ho:s.op=6):wpX Tryz.prog N zt (retK zo (zgg N (zkP p inp h T r.fr N (zej p inp (N+1) r s v))))
  [(0,.ptr 0 0 0 0 0),(2,.ptr N 0 0 0 0),(3,encU v)] (rnH p inp r h (T.put N (.row 8 [s.cells] 0))) (N+1):=by
 obtain⟨hT,hF,hst,⟨hv1,hv2⟩,hfr,hfrv,hpg,hbl,htr,hmok,hmc,hout,hil,htk,hchk,hvl,hvr,hg,hrg,htg⟩:=k;have hB:=hBig;have h4:=hT.four;have tn:=hT.none;have hT1:TOk (N+1) (T.put N (.row 8 [s.cells] 0)):=hT.put (zX (Wa N) hT.low) (Wa N) h4 (Wi N) (by simp[St.flat]);have hF1:FOk (T.put N (.row 8 [s.cells] 0)) r.fr:=hF.put (hF.ne hT (Wd N))
 have keep:∀x,x < N→(∀f∈r.fr,f.id≠x)→(T.put N (.row 8 [s.cells] 0)).look x=T.look x:=fun x hx _=>zr (by omega)
 obtain⟨c1,c2,c3,c4⟩:=zau hchk;unfold zej
 have hOp:∀n:Int,decide (s.op=n)=decide ((6:Int)=n):=fun n=>by rw[ho]
 rw[if_neg (by omega:¬s.op=1),if_neg (by omega:¬s.op=2),if_neg (by omega:¬s.op=3),if_neg (by omega:¬s.op=4),if_neg (by omega:¬s.op=5),if_pos ho];unfold zt encU rnH rnC;obtain⟨op,var,width,next,els,tgt,e,cs⟩:=s;simp only at ho hOp c1 c2 c3 c4 hvl htg;subst ho
 have hen:∀(hk:0≤next∧next < p.gs[g].blocks.length),_:=fun hk=>zdO p inp r h (T.put N (.row 8 [St.cells ⟨6,var,width,next,els,tgt,e,cs⟩] 0)) (N+1) next g (next).toNat hg hrg (by omega) (by omega) (by omega) hT1 hF1 hst
 have hen:=hen (htg next (by simp[zan]));unfold rnH rnC at hen
 (repeat first|simp(disch:=try exact dis1) only[evD,Nat.reduceBEq,Nat.reduceAdd,Nat.reduceLeDiff,dT,dF,Wb,zE,zr,zar,zba,tn,Wc,AObj.part,AObj.upd,St.cells,hOp]|with_reducible first|intro _|refine aJ ?_)
 refine zZ hen ?_;rintro v H nx ⟨rfl,rfl,rfl⟩
 (refine Qk ?_;intros)
 exact⟨_,_,_,Ent.keepN (by omega) ⟨rfl,trivial⟩,rfl,by omega,⟨h.tr++[_],h.gt+1,h.go,h.gc,h.stale⟩,_,rfl,hT1,hF1,hst,by simp,keep⟩
theorem zE6 {p:Pg} {inp:List Int} {r:Rn} {h:Hd} {T:AH} {N:Nat} {s:St} {v:List Int} {g:Nat} (k:SOk p inp r h T N s v g) (ho:s.op=7):wpX Tryz.prog N zt (retK zo (zgg N (zkP p inp h T r.fr N (zej p inp (N+1) r s v))))
  [(0,.ptr 0 0 0 0 0),(2,.ptr N 0 0 0 0),(3,encU v)] (rnH p inp r h (T.put N (.row 8 [s.cells] 0))) (N+1):=by
 obtain⟨hT,hF,hst,⟨hv1,hv2⟩,hfr,hfrv,hpg,hbl,htr,hmok,hmc,hout,hil,htk,hchk,hvl,hvr,hg,hrg,htg⟩:=k;have hB:=hBig;have h4:=hT.four;have tn:=hT.none;have hT1:TOk (N+1) (T.put N (.row 8 [s.cells] 0)):=hT.put (zX (Wa N) hT.low) (Wa N) h4 (Wi N) (by simp[St.flat]);have hF1:FOk (T.put N (.row 8 [s.cells] 0)) r.fr:=hF.put (hF.ne hT (Wd N))
 have keep:∀x,x < N→(∀f∈r.fr,f.id≠x)→(T.put N (.row 8 [s.cells] 0)).look x=T.look x:=fun x hx _=>zr (by omega)
 obtain⟨c1,c2,c3,c4⟩:=zau hchk;unfold zej
 have hOp:∀n:Int,decide (s.op=n)=decide ((7:Int)=n):=fun n=>by rw[ho]
 rw[if_neg (by omega:¬s.op=1),if_neg (by omega:¬s.op=2),if_neg (by omega:¬s.op=3),if_neg (by omega:¬s.op=4),if_neg (by omega:¬s.op=5),if_neg (by omega:¬s.op=6),if_pos ho];unfold zt encU rnH rnC;obtain⟨op,var,width,next,els,tgt,e,cs⟩:=s;simp only at ho hOp c1 c2 c3 c4 hvl htg;subst ho
 have hv0:0 < v.length:=by have:=zDN _ (by decide) c4;omega
 have hg0:(v.map cU).getD (Wn 0) []=[.int .u32 v[0]]:=zq (f:=cU) (d:=[]) hv0
 have hd0:v.getD 0 0=v[0]:=by rw[Wf,Wg hv0,Wh]
 rw[hd0]
 have hen1:∀(hk:0≤next∧next < p.gs[g].blocks.length),_:=fun hk=>zdO p inp r h (T.put N (.row 8 [St.cells ⟨7,var,width,next,els,tgt,e,cs⟩] 0)) (N+1) next g (next).toNat hg hrg (by omega) (by omega) (by omega) hT1 hF1 hst
 have hen2:∀(hk:0≤els∧els < p.gs[g].blocks.length),_:=fun hk=>zdO p inp r h (T.put N (.row 8 [St.cells ⟨7,var,width,next,els,tgt,e,cs⟩] 0)) (N+1) els g (els).toNat hg hrg (by omega) (by omega) (by omega) hT1 hF1 hst
 (repeat first|simp(disch:=try exact dis1) only[evD,Nat.reduceBEq,Nat.reduceAdd,Nat.reduceLeDiff,dT,dF,hg0,Wb,zE,zr,zar,zba,tn,Wc,AObj.part,AObj.upd,St.cells,hOp]|with_reducible first|intro _|refine aJ ?_)
 by_cases hz:v[0]=0
 ·
  rw[if_neg (show ¬v[0]≠0 from fun h=>h hz)];have hen:=hen2 (htg els (by simp[zan]));unfold rnH rnC at hen
  (repeat first|simp(disch:=try exact dis1) only[evD,Nat.reduceBEq,Nat.reduceAdd,Nat.reduceLeDiff,dT,dF,Wb,zE,zr,zar,zba,tn,Wc,AObj.part,AObj.upd,St.cells,hOp]|with_reducible first|intro _|refine aJ ?_)
  refine zZ hen ?_;rintro v H nx ⟨rfl,rfl,rfl⟩
  (refine Qk ?_;intros)
  exact⟨_,_,_,Ent.keepN (by omega) ⟨rfl,trivial⟩,rfl,by omega,⟨h.tr++[_],h.gt+1,h.go,h.gc,h.stale⟩,_,rfl,hT1,hF1,hst,by simp,keep⟩
 ·
  rw[if_pos hz];have hen:=hen1 (htg next (by simp[zan]));unfold rnH rnC at hen
  (repeat first|simp(disch:=try exact dis1) only[evD,Nat.reduceBEq,Nat.reduceAdd,Nat.reduceLeDiff,dT,dF,Wb,zE,zr,zar,zba,tn,Wc,AObj.part,AObj.upd,St.cells,hOp]|with_reducible first|intro _|refine aJ ?_)
  refine zZ hen ?_;rintro v H nx ⟨rfl,rfl,rfl⟩
  (refine Qk ?_;intros)
  exact⟨_,_,_,Ent.keepN (by omega) ⟨rfl,trivial⟩,rfl,by omega,⟨h.tr++[_],h.gt+1,h.go,h.gc,h.stale⟩,_,rfl,hT1,hF1,hst,by simp,keep⟩
theorem zFu {p:Pg} {inp:List Int} {r:Rn} {h:Hd} {T:AH} {N:Nat} {s:St} {v:List Int} {g:Nat} (k:SOk p inp r h T N s v g) (ho:s.op=8):wpX Tryz.prog N zt (retK zo (zgg N (zkP p inp h T r.fr N (zej p inp (N+1) r s v))))
  [(0,.ptr 0 0 0 0 0),(2,.ptr N 0 0 0 0),(3,encU v)] (rnH p inp r h (T.put N (.row 8 [s.cells] 0))) (N+1):=by
 obtain⟨hT,hF,hst,⟨hv1,hv2⟩,hfr,hfrv,hpg,hbl,htr,hmok,hmc,hout,hil,htk,hchk,hvl,hvr,hg,hrg,htg⟩:=k;have hB:=hBig;have h4:=hT.four;have tn:=hT.none;have hT1:TOk (N+1) (T.put N (.row 8 [s.cells] 0)):=hT.put (zX (Wa N) hT.low) (Wa N) h4 (Wi N) (by simp[St.flat]);have hF1:FOk (T.put N (.row 8 [s.cells] 0)) r.fr:=hF.put (hF.ne hT (Wd N))
 have keep:∀x,x < N→(∀f∈r.fr,f.id≠x)→(T.put N (.row 8 [s.cells] 0)).look x=T.look x:=fun x hx _=>zr (by omega)
 obtain⟨c1,c2,c3,c4⟩:=zau hchk;unfold zej
 have hOp:∀n:Int,decide (s.op=n)=decide ((8:Int)=n):=fun n=>by rw[ho]
 rw[if_neg (by omega:¬s.op=1),if_neg (by omega:¬s.op=2),if_neg (by omega:¬s.op=3),if_neg (by omega:¬s.op=4),if_neg (by omega:¬s.op=5),if_neg (by omega:¬s.op=6),if_neg (by omega:¬s.op=7),if_pos ho];unfold zt encU rnH rnC;obtain⟨op,var,width,next,els,tgt,e,cs⟩:=s;simp only at ho hOp c1 c2 c3 c4 hvl htg;subst ho
 have hv0:0 < v.length:=by have:=zDN _ (by decide) c4;omega
 have hg0:(v.map cU).getD (Wn 0) []=[.int .u32 v[0]]:=zq (f:=cU) (d:=[]) hv0
 have hd0:v.getD 0 0=v[0]:=by rw[Wf,Wg hv0,Wh]
 rw[hd0];have hr0:0≤v[0]:=(hvr _ (We hv0)).1;have hr1:v[0]≤4294967295:=(hvr _ (We hv0)).2
 by_cases hz:(cs.length:Int)≤v[0]
 ·
  rw[if_pos hz];have hend:=zcV p inp r h (T.put N (.row 8 [St.cells ⟨8,var,width,next,els,tgt,e,cs⟩] 0)) (N+1) 7;unfold rnH rnC at hend
  (repeat first|simp(disch:=try exact dis1) only[evD,Nat.reduceBEq,Nat.reduceAdd,Nat.reduceLeDiff,dT,dF,hg0,zmk,za,Wb,zE,zr,zar,zba,tn,Wc,AObj.part,AObj.upd,St.cells,hOp]|with_reducible first|intro _|refine aJ ?_)
  refine zZ hend ?_;rintro v H nx ⟨rfl,rfl,rfl⟩
  (refine Qk ?_;intros)
  exact⟨_,_,_,Ent.keepN (by omega) ⟨rfl,trivial⟩,rfl,by omega,h,_,rfl,hT1,hF1,hst,Wa _,keep⟩
 ·
  rw[if_neg hz]
  have hzl:v[0].toNat < cs.length:=by omega
  have hgc:(cs.map fun n=>[AV.int .i64 n]).getD v[0].toNat []=[.int .i64 cs[v[0].toNat]]:=zq (d:=[]) hzl
  have hcd:cs.getD v[0].toNat 0=cs[v[0].toNat]:=by rw[Wf,Wg hzl,Wh]
  rw[hcd];have htt:=htg cs[v[0].toNat] (by show _∈zan _;unfold zan;simp only;exact We hzl);have hen:=zdO p inp r h (T.put N (.row 8 [St.cells ⟨8,var,width,next,els,tgt,e,cs⟩] 0)) (N+1) cs[v[0].toNat] g (cs[v[0].toNat]).toNat hg hrg (by omega) (by omega) (by omega) hT1 hF1 hst;unfold rnH rnC at hen
  (repeat first|simp(disch:=try exact dis1) only[evD,Nat.reduceBEq,Nat.reduceAdd,Nat.reduceLeDiff,dT,dF,hg0,hgc,zmk,za,Wb,zE,zr,zar,zba,tn,Wc,AObj.part,AObj.upd,St.cells,hOp]|with_reducible first|intro _|refine aJ ?_)
  (repeat' with_reducible apply Wp)
  all_goals try omega
  all_goals (refine zZ hen ?_;rintro v H nx ⟨rfl,rfl,rfl⟩;(refine Qk ?_;intros);exact⟨_,_,_,Ent.keepN (by omega) ⟨rfl,trivial⟩,rfl,by omega,⟨h.tr++[_],h.gt+1,h.go,h.gc,h.stale⟩,_,rfl,hT1,hF1,hst,by simp,keep⟩)
theorem zFy {p:Pg} {inp:List Int} {r:Rn} {h:Hd} {T:AH} {N:Nat} {s:St} {v:List Int} {g:Nat} (k:SOk p inp r h T N s v g) (ho:s.op=4):wpX Tryz.prog N zt (retK zo (zgg N (zkP p inp h T r.fr N (zej p inp (N+1) r s v))))
  [(0,.ptr 0 0 0 0 0),(2,.ptr N 0 0 0 0),(3,encU v)] (rnH p inp r h (T.put N (.row 8 [s.cells] 0))) (N+1):=by
 obtain⟨hT,hF,hst,⟨hv1,hv2⟩,hfr,hfrv,hpg,hbl,htr,hmok,hmc,hout,hil,htk,hchk,hvl,hvr,hg,hrg,htg⟩:=k;have hB:=hBig;have h4:=hT.four;have tn:=hT.none;have hT1:TOk (N+1) (T.put N (.row 8 [s.cells] 0)):=hT.put (zX (Wa N) hT.low) (Wa N) h4 (Wi N) (by simp[St.flat]);have hF1:FOk (T.put N (.row 8 [s.cells] 0)) r.fr:=hF.put (hF.ne hT (Wd N))
 have keep:∀x,x < N→(∀f∈r.fr,f.id≠x)→(T.put N (.row 8 [s.cells] 0)).look x=T.look x:=fun x hx _=>zr (by omega)
 obtain⟨c1,c2,c3,c4⟩:=zau hchk;unfold zej
 have hOp:∀n:Int,decide (s.op=n)=decide ((4:Int)=n):=fun n=>by rw[ho]
 rw[if_neg (by omega:¬s.op=1),if_neg (by omega:¬s.op=2),if_neg (by omega:¬s.op=3),if_pos ho];unfold zt encU rnH rnC;obtain⟨op,var,width,next,els,tgt,e,cs⟩:=s;simp only at ho hOp c1 c2 c3 c4 hvl htg;subst ho
 have hv0:0 < v.length:=by have:=zDN _ (by decide) c4;omega
 have hg0:(v.map cU).getD (Wn 0) []=[.int .u32 v[0]]:=zq (f:=cU) (d:=[]) hv0
 have hd0:v.getD 0 0=v[0]:=by rw[Wf,Wg hv0,Wh]
 rw[hd0];have e1:(r.out.map cU).take r.out.length=r.out.map cU:=WV (by simp);have hT2:TOk (N+1+1) ((T.put N (.row 8 [St.cells ⟨4,var,width,next,els,tgt,e,cs⟩] 0)).put (N+1) (.row 1 [[.int .u32 v[0]]] 0)):=hT1.put (zX (Wa _) hT1.low) (Wa _) (by omega) (Wi _) (by simp[zM,AV.flat0]);have hF2:FOk ((T.put N (.row 8 [St.cells ⟨4,var,width,next,els,tgt,e,cs⟩] 0)).put (N+1) (.row 1 [[.int .u32 v[0]]] 0)) r.fr:=hF1.put (hF1.ne hT1 (Wd _))
 (repeat first|simp(disch:=try exact dis1) only[evD,Nat.reduceBEq,Nat.reduceAdd,Nat.reduceLeDiff,dT,dF,hg0,e1,Wb,zE,zr,zar,zba,tn,Wc,AObj.part,AObj.upd,St.cells,hOp]|with_reducible first|intro _|refine aJ ?_)
 (repeat' with_reducible apply Wp)
 all_goals try omega
 all_goals try (simp;omega)
 all_goals (refine Qk ?_;intros;try with_reducible exact trivial)
 all_goals refine⟨_,_,_,Ent.keepN (by omega) ⟨rfl,trivial⟩,rfl,by omega,⟨h.tr,h.gt,h.go+1,h.gc,h.stale⟩,_,?_,hT2,hF2,hst,Wa _,fun x hx hf=>(zr (by omega)).trans (keep x hx hf)⟩
 all_goals (unfold rnH rnC;simp only[WL,WO,List.map_nil,Wq,WG];rfl)
theorem zFp {p:Pg} {inp:List Int} {r:Rn} {h:Hd} {T:AH} {N:Nat} {s:St} {v:List Int} {g:Nat} (k:SOk p inp r h T N s v g) (ho:s.op=3):wpX Tryz.prog N zt (retK zo (zgg N (zkP p inp h T r.fr N (zej p inp (N+1) r s v))))
  [(0,.ptr 0 0 0 0 0),(2,.ptr N 0 0 0 0),(3,encU v)] (rnH p inp r h (T.put N (.row 8 [s.cells] 0))) (N+1):=by
 obtain⟨hT,hF,hst,⟨hv1,hv2⟩,hfr,hfrv,hpg,hbl,htr,hmok,hmc,hout,hil,htk,hchk,hvl,hvr,hg,hrg,htg⟩:=k;have hB:=hBig;have h4:=hT.four;have tn:=hT.none;have hT1:TOk (N+1) (T.put N (.row 8 [s.cells] 0)):=hT.put (zX (Wa N) hT.low) (Wa N) h4 (Wi N) (by simp[St.flat]);have hF1:FOk (T.put N (.row 8 [s.cells] 0)) r.fr:=hF.put (hF.ne hT (Wd N))
 have keep:∀x,x < N→(∀f∈r.fr,f.id≠x)→(T.put N (.row 8 [s.cells] 0)).look x=T.look x:=fun x hx _=>zr (by omega)
 obtain⟨c1,c2,c3,c4⟩:=zau hchk;unfold zej
 have hOp:∀n:Int,decide (s.op=n)=decide ((3:Int)=n):=fun n=>by rw[ho]
 rw[if_neg (by omega:¬s.op=1),if_neg (by omega:¬s.op=2),if_pos ho];unfold zt encU rnH rnC;obtain⟨op,var,width,next,els,tgt,e,cs⟩:=s;simp only at ho hOp c1 c2 c3 c4 hvl htg;subst ho
 by_cases hz:(inp.length:Int)≤r.tk
 ·
  rw[if_pos hz];have hend:=zcV p inp r h (T.put N (.row 8 [St.cells ⟨3,var,width,next,els,tgt,e,cs⟩] 0)) (N+1) 14;unfold rnH rnC at hend
  (repeat first|simp(disch:=try exact dis1) only[evD,Nat.reduceBEq,Nat.reduceAdd,Nat.reduceLeDiff,dT,dF,Wb,zE,zr,zar,zba,tn,Wc,AObj.part,AObj.upd,St.cells,hOp]|with_reducible first|intro _|refine aJ ?_)
  refine zZ hend ?_;rintro v H nx ⟨rfl,rfl,rfl⟩
  (refine Qk ?_;intros)
  exact⟨_,_,_,Ent.keepN (by omega) ⟨rfl,trivial⟩,rfl,by omega,h,_,rfl,hT1,hF1,hst,Wa _,keep⟩
 ·
  rw[if_neg hz]
  have hzl:r.tk.toNat < inp.length:=by omega
  have hgi:(inp.map cU).getD r.tk.toNat []=[.int .u32 inp[r.tk.toNat]]:=zq (f:=cU) (d:=[]) hzl
  have hdi:inp.getD r.tk.toNat 0=inp[r.tk.toNat]:=by rw[Wf,Wg hzl,Wh]
  rw[hdi];have hset:=zrZ r.vs var inp[r.tk.toNat] hv2 c2;simp only[stV] at hset
  (repeat first|simp(disch:=try exact dis1) only[evD,Nat.reduceBEq,Nat.reduceAdd,Nat.reduceLeDiff,dT,dF,hgi,zad,fldP,Wb,zE,zr,zar,zba,tn,Wc,AObj.part,AObj.upd,St.cells,hOp]|with_reducible first|intro _|refine aJ ?_)
  refine zai (zd hset rfl) ?_
  (repeat first|simp(disch:=try exact dis1) only[evD,Nat.reduceBEq,Nat.reduceAdd,Nat.reduceLeDiff,dT,dF,zo,Wb,zE,zr,zar,zba,tn,Wc,AObj.part,AObj.upd,St.cells,hOp]|with_reducible first|intro _|refine aJ ?_)
  exact⟨_,_,_,Ent.keepN (by omega) ⟨rfl,trivial⟩,rfl,by omega,h,_,rfl,hT1,hF1,hst,Wa _,keep⟩
theorem zDs {p:Pg} {inp:List Int} {r:Rn} {h:Hd} {T:AH} {N:Nat} {s:St} {v:List Int} {g:Nat} (k:SOk p inp r h T N s v g) (ho:s.op=2):wpX Tryz.prog N zt (retK zo (zgg N (zkP p inp h T r.fr N (zej p inp (N+1) r s v))))
  [(0,.ptr 0 0 0 0 0),(2,.ptr N 0 0 0 0),(3,encU v)] (rnH p inp r h (T.put N (.row 8 [s.cells] 0))) (N+1):=by
 obtain⟨hT,hF,hst,⟨hv1,hv2⟩,hfr,hfrv,hpg,hbl,htr,hmok,hmc,hout,hil,htk,hchk,hvl,hvr,hg,hrg,htg⟩:=k;have hB:=hBig;have h4:=hT.four;have tn:=hT.none;have hT1:TOk (N+1) (T.put N (.row 8 [s.cells] 0)):=hT.put (zX (Wa N) hT.low) (Wa N) h4 (Wi N) (by simp[St.flat]);have hF1:FOk (T.put N (.row 8 [s.cells] 0)) r.fr:=hF.put (hF.ne hT (Wd N))
 have keep:∀x,x < N→(∀f∈r.fr,f.id≠x)→(T.put N (.row 8 [s.cells] 0)).look x=T.look x:=fun x hx _=>zr (by omega)
 obtain⟨c1,c2,c3,c4⟩:=zau hchk;unfold zej
 have hOp:∀n:Int,decide (s.op=n)=decide ((2:Int)=n):=fun n=>by rw[ho]
 rw[if_neg (by omega:¬s.op=1),if_pos ho];unfold zt encU rnH rnC;obtain⟨op,var,width,next,els,tgt,e,cs⟩:=s;simp only at ho hOp c1 c2 c3 c4 hvl htg;subst ho
 have hv1':v.length=2:=by have:zR 2=2:=rfl;omega
 have hg0:(v.map cU).getD (Wn 0) []=[.int .u32 v[0]]:=zq (f:=cU) (d:=[]) (by omega);have hg1:(v.map cU).getD (Wn 1) []=[.int .u32 v[1]]:=zq (f:=cU) (d:=[]) (by omega)
 have hd0:v.getD 0 0=v[0]:=by rw[Wf,Wg (by omega),Wh]
 have hd1:v.getD 1 0=v[1]:=by rw[Wf,Wg (by omega),Wh]
 rw[hd0,hd1];have hst2:=zob r.m v[0] width v[1] (hvr _ (We _)) (hvr _ (We _)) hmok (by omega);simp only[memV] at hst2;generalize zfl r.m v[0] width v[1]=W at hst2 ⊢;obtain⟨⟨wl,wc⟩,we⟩:=W;simp only at hst2 ⊢
 (repeat first|simp(disch:=try exact dis1) only[evD,Nat.reduceBEq,Nat.reduceAdd,Nat.reduceLeDiff,dT,dF,hg0,hg1,Wb,zE,zr,zar,zba,tn,Wc,AObj.part,AObj.upd,St.cells,hOp]|with_reducible first|intro _|refine aJ ?_)
 refine zoR zeg zjn zio zdf [(93,.ptr 0 0 0 0 0),(94,.ptr 0 0 0 0 0),(95,.ptr 0 0 0 0 4),(96,.agg [.bool true,encL 5 Sct.cells r.m.l,encL 2 celV r.m.c]),(97,encL 1 cU v),(98,.iptr 1 fun j=>[AV.int .u32 v[0]].getD j .undef),(99,.int .u32 v[0]),(100,.ptr N 0 0 0 2),(101,.int .i64 width),(102,encL 1 cU v),(103,.iptr 1 fun j=>[AV.int .u32 v[1]].getD j .undef),(104,.int .u32 v[1]),(105,.tup [.agg [.bool true,encL 5 Sct.cells wl,encL 2 celV wc],.int .i64 we]),(92,.tup [.agg [.bool true,encL 5 Sct.cells wl,encL 2 celV wc],.int .i64 we]),(106,.agg [.bool true,encL 5 Sct.cells wl,encL 2 celV wc]),(107,.int .i64 we),(5,.ptr (N+1) 0 0 0 0),(6,.int .i64 we)] (hsOf [((0,.row 18 [[encL 2 G.cells p.gs,encL 5 Sct.cells p.secs,.int .u32 p.entry,encL 1 cU r.vs,.bool true,encL 5 Sct.cells r.m.l,encL 2 celV r.m.c,encL 1 cU inp,.int .i64 r.tk,.int .i64 r.g,.int .i64 r.b,.int .i64 r.a,.own 3 0 h.gc 0 r.fr.length,.own 1 0 h.gt 0 h.tr.length,.int .i64 r.err,.own 2 0 h.go 0 r.out.length,.int .i64 r.st,.bool r.ov]] 0)::(1,.row 1 (h.tr.map cU) h.gt)::(2,.row 1 (r.out.map cU) h.go)::(3,.row 4 (r.fr.map Fr.cells++h.stale) h.gc)::(T.put N (.row 8 [[.int .i64 2,.int .i64 var,.int .i64 width,.int .i64 next,.int .i64 els,.int .u32 tgt,encL 5 encX e,za cs]] 0)),N+1),((0,.row 18 [[encL 2 G.cells p.gs,encL 5 Sct.cells p.secs,.int .u32 p.entry,encL 1 cU r.vs,.bool true,encL 5 Sct.cells r.m.l,encL 2 celV r.m.c,encL 1 cU inp,.int .i64 r.tk,.int .i64 r.g,.int .i64 r.b,.int .i64 r.a,.own 3 0 h.gc 0 r.fr.length,.own 1 0 h.gt 0 h.tr.length,.int .i64 r.err,.own 2 0 h.go 0 r.out.length,.int .i64 r.st,.bool r.ov]] 0)::(1,.row 1 (h.tr.map cU) h.gt)::(2,.row 1 (r.out.map cU) h.go)::(3,.row 4 (r.fr.map Fr.cells++h.stale) h.gc)::(T.put N (.row 8 [[.int .i64 2,.int .i64 var,.int .i64 width,.int .i64 next,.int .i64 els,.int .u32 tgt,encL 5 encX e,za cs]] 0)).put (N+1) (.row 3 [[.bool false,.nilsl,.nilsl]] 0),N+1+1),((0,.row 18 [[encL 2 G.cells p.gs,encL 5 Sct.cells p.secs,.int .u32 p.entry,encL 1 cU r.vs,.bool true,encL 5 Sct.cells r.m.l,encL 2 celV r.m.c,encL 1 cU inp,.int .i64 r.tk,.int .i64 r.g,.int .i64 r.b,.int .i64 r.a,.own 3 0 h.gc 0 r.fr.length,.own 1 0 h.gt 0 h.tr.length,.int .i64 r.err,.own 2 0 h.go 0 r.out.length,.int .i64 r.st,.bool r.ov]] 0)::(1,.row 1 (h.tr.map cU) h.gt)::(2,.row 1 (r.out.map cU) h.go)::(3,.row 4 (r.fr.map Fr.cells++h.stale) h.gc)::(T.put N (.row 8 [[.int .i64 2,.int .i64 var,.int .i64 width,.int .i64 next,.int .i64 els,.int .u32 tgt,encL 5 encX e,za cs]] 0)).put (N+1) (.row 3 [[.bool true,encL 5 Sct.cells wl,encL 2 celV wc]] 0),N+1+1)]) (by kernel_rfl) (by rfl) (by rfl) (by repeat' first|exact QExt.retK|apply QExt.seq|apply QExt.block|apply QExt.loop|apply QExt.join|assumption) ?plan [(5,.ptr (N+1) 0 0 0 0),(6,.int .i64 we)] (by rfl) ?fin
 case' plan =>
  intro Kf hs hK hH
  have kf93:Kf.get 93=.ptr 0 0 0 0 0:=by rw[hK,zc];rfl
  have kf94:Kf.get 94=.ptr 0 0 0 0 0:=by rw[hK,zc];rfl
  have kf95:Kf.get 95=.ptr 0 0 0 0 4:=by rw[hK,zc];rfl
  have kf96:Kf.get 96=.agg [.bool true,encL 5 Sct.cells r.m.l,encL 2 celV r.m.c]:=by rw[hK,zc];rfl
  have kf97:Kf.get 97=encL 1 cU v:=by rw[hK,zc];rfl
  have kf98:Kf.get 98=.iptr 1 fun j=>[AV.int .u32 v[0]].getD j .undef:=by rw[hK,zc];rfl
  have kf99:Kf.get 99=.int .u32 v[0]:=by rw[hK,zc];rfl
  have kf100:Kf.get 100=.ptr N 0 0 0 2:=by rw[hK,zc];rfl
  have kf101:Kf.get 101=.int .i64 width:=by rw[hK,zc];rfl
  have kf102:Kf.get 102=encL 1 cU v:=by rw[hK,zc];rfl
  have kf103:Kf.get 103=.iptr 1 fun j=>[AV.int .u32 v[1]].getD j .undef:=by rw[hK,zc];rfl
  have kf104:Kf.get 104=.int .u32 v[1]:=by rw[hK,zc];rfl
  have kf105:Kf.get 105=.tup [.agg [.bool true,encL 5 Sct.cells wl,encL 2 celV wc],.int .i64 we]:=by rw[hK,zc];rfl
  have kf92:Kf.get 92=.tup [.agg [.bool true,encL 5 Sct.cells wl,encL 2 celV wc],.int .i64 we]:=by rw[hK,zc];rfl
  have kf106:Kf.get 106=.agg [.bool true,encL 5 Sct.cells wl,encL 2 celV wc]:=by rw[hK,zc];rfl
  have kf107:Kf.get 107=.int .i64 we:=by rw[hK,zc];rfl
  have kf5:Kf.get 5=.ptr (N+1) 0 0 0 0:=by rw[hK,zc];rfl
  have kf6:Kf.get 6=.int .i64 we:=by rw[hK,zc];rfl
  have kf0:Kf.get 0=.ptr 0 0 0 0 0:=by rw[hK,zc];rfl
  have kf2:Kf.get 2=.ptr N 0 0 0 0:=by rw[hK,zc];rfl
  have kf3:Kf.get 3=encL 1 cU v:=by rw[hK,zc];rfl
  simp only[zdf,zkB,zmO,and_true]
  (repeat' with_reducible apply Wp)
  all_goals (rw[hH];simp only[zm5,zdK,Wl,Ws,hsOf,hsAt,beqL,zeV,Nat.reduceBEq,Wt,Wu,Wv,Ww,cond_true,cond_false,Wx,Wo,Nat.reduceAdd])
  all_goals try (simp(disch:=try exact dis1) only[evD,Nat.reduceBEq,Nat.reduceAdd,Nat.reduceLeDiff,zdd,zcR,kf93,kf94,kf95,kf96,kf97,kf98,kf99,kf100,kf101,kf102,kf103,kf104,kf105,kf92,kf106,kf107,kf5,kf6,kf0,kf2,kf3,hg0,hg1,zad,fldP,Wb,zE,zr,zar,zba,tn,Wc,AObj.part,AObj.upd,St.cells,hOp];done)
 case' fin=>simp only[zeg,hsOf,hsAt,beqL,zeV,Nat.reduceBEq,Wt,Wu,Wv,Ww,cond_true,cond_false,Wx,Wo,Nat.reduceAdd,Wl,Ws,zap]
 ·
  by_cases hz:we=0
  ·
   rw[if_neg (show ¬we≠0 from fun h=>h hz)]
   (repeat first|simp(disch:=try exact dis1) only[evD,Nat.reduceBEq,Nat.reduceAdd,Nat.reduceLeDiff,dT,dF,zad,fldP,zo,Wb,zE,zr,zar,zba,tn,Wc,AObj.part,AObj.upd,St.cells,hOp]|with_reducible first|intro _|refine aJ ?_)
   have hT2:TOk (N+1+1) ((T.put N (.row 8 [St.cells ⟨2,var,width,next,els,tgt,e,cs⟩] 0)).put (N+1) (.row 3 [[.bool true,encL 5 Sct.cells wl,encL 2 celV wc]] 0)):=hT1.put (zX (Wa _) hT1.low) (Wa _) (by omega) (Wi _) (by simp[zM,AV.flat0,encL]);have hF2:FOk ((T.put N (.row 8 [St.cells ⟨2,var,width,next,els,tgt,e,cs⟩] 0)).put (N+1) (.row 3 [[.bool true,encL 5 Sct.cells wl,encL 2 celV wc]] 0)) r.fr:=hF1.put (hF1.ne hT1 (Wd _));exact⟨_,_,_,Ent.keepN (by omega) ⟨rfl,trivial⟩,rfl,by omega,h,_,rfl,hT2,hF2,hst,Wa _,fun x hx hf=>(zr (by omega)).trans (keep x hx hf)⟩
  ·
   rw[if_pos hz];have hend:=zcV p inp r h ((T.put N (.row 8 [St.cells ⟨2,var,width,next,els,tgt,e,cs⟩] 0)).put (N+1) (.row 3 [[.bool true,encL 5 Sct.cells wl,encL 2 celV wc]] 0)) (N+1+1) we;unfold rnH rnC at hend;have hT2:TOk (N+1+1) ((T.put N (.row 8 [St.cells ⟨2,var,width,next,els,tgt,e,cs⟩] 0)).put (N+1) (.row 3 [[.bool true,encL 5 Sct.cells wl,encL 2 celV wc]] 0)):=hT1.put (zX (Wa _) hT1.low) (Wa _) (by omega) (Wi _) (by simp[zM,AV.flat0,encL]);have hF2:FOk ((T.put N (.row 8 [St.cells ⟨2,var,width,next,els,tgt,e,cs⟩] 0)).put (N+1) (.row 3 [[.bool true,encL 5 Sct.cells wl,encL 2 celV wc]] 0)) r.fr:=hF1.put (hF1.ne hT1 (Wd _))
   (repeat first|simp(disch:=try exact dis1) only[evD,Nat.reduceBEq,Nat.reduceAdd,Nat.reduceLeDiff,dT,dF,Wb,zE,zr,zar,zba,tn,Wc,AObj.part,AObj.upd,St.cells,hOp]|with_reducible first|intro _|refine aJ ?_)
   refine zZ hend ?_;rintro v H nx ⟨rfl,rfl,rfl⟩
   (refine Qk ?_;intros)
   exact⟨_,_,_,Ent.keepN (by omega) ⟨rfl,trivial⟩,rfl,by omega,h,_,rfl,hT2,hF2,hst,Wa _,fun x hx hf=>(zr (by omega)).trans (keep x hx hf)⟩
 all_goals (repeat first|simp(disch:=try exact dis1) only[evD,Nat.reduceBEq,Nat.reduceAdd,Nat.reduceLeDiff,kf93,kf94,kf95,kf96,kf97,kf98,kf99,kf100,kf101,kf102,kf103,kf104,kf105,kf92,kf106,kf107,kf5,kf6,hg0,hg1,sub,zad,zdd,zcR,fldP,Wb,zE,zr,zar,zba,tn,Wc,AObj.part,AObj.upd,St.cells,hOp]|with_reducible first|intro _|refine aJ ?_)
 all_goals try (refine zai (zd hst2 rfl) ?_)
 all_goals try (repeat first|simp(disch:=try exact dis1) only[evD,Nat.reduceBEq,Nat.reduceAdd,Nat.reduceLeDiff,kf105,zdd,zcR,Wb,zE,zr,zar,zba,tn,Wc,AObj.part,AObj.upd,St.cells,hOp]|with_reducible first|intro _|refine aJ ?_)
 all_goals omega
structure ROk (p:Pg) (inp:List Int) (r:Rn) (h:Hd) (T:AH) (N:Nat) (g b a:Nat):Prop where
 hT:TOk N T
 hF:FOk T r.fr
 hst:zy h.stale
 vs:12≤r.vs.length∧r.vs.length≤100000
 fr:r.fr.length≤300
 frv:∀f∈r.fr,12≤f.vs.length∧f.vs.length≤100000
 pg:p.gs.length≤1000
 bl:∀g∈p.gs,g.blocks≠[]
 tr:h.tr.length≤90000
 mok:r.m.ok
 mc:r.m.c.length≤900000
 out:r.out.length≤5000
 il:inp.length≤100000
 tk:0≤r.tk∧r.tk≤1000000
 st:0≤r.st∧r.st≤1000000
 hg:g < p.gs.length
 rg:r.g=g
 hb:b < p.gs[g].blocks.length
 rb:r.b=b
 ha:a < p.gs[g].blocks[b].stmts.length
 ra:r.a=a
 al:a≤1000000
 chk:p.gs[g].blocks[b].stmts[a].check=0
 tg:∀t∈zan p.gs[g].blocks[b].stmts[a],0≤t∧t < p.gs[g].blocks.length
theorem zF4 {p:Pg} {inp:List Int} {r:Rn} {h:Hd} {T:AH} {N:Nat} {s:St} {g:Nat} (k:∀v,v.length=s.e.length→(∀z∈v,R32 z)→SOk p inp (z7 r) h T N s v g) (hout:r.out.length≤5000) (hmok:r.m.ok) :
  wpX Tryz.prog N zcA (retK zo (zgg N (zkP p inp h T r.fr N (zhw p inp (N+1) r s)))) [(0,.ptr 0 0 0 0 0),(2,.ptr N 0 0 0 0)] (rnH p inp (z7 r) h (T.put N (.row 8 [s.cells] 0))) (N+1):=by
 have k0:=k (WP s.e.length 0) (by simp) (fun z hz=>by rw[List.eq_of_mem_replicate hz];exact⟨by decide,by decide⟩);obtain⟨hT,hF,hst,⟨hv1,hv2⟩,hfr,hfrv,hpg,hbl,htr,-,hmc,-,hil,htk,hchk,-,-,hg,hrg,htg⟩:=k0;have hB:=hBig;have h4:=hT.four;have tn:=hT.none;have hT1:TOk (N+1) (T.put N (.row 8 [s.cells] 0)):=hT.put (zX (Wa N) hT.low) (Wa N) h4 (Wi N) (by simp[St.flat]);have hF1:FOk (T.put N (.row 8 [s.cells] 0)) (z7 r).fr:=hF.put (hF.ne hT (Wd N))
 have keep:∀x,x < N→(∀f∈r.fr,f.id≠x)→(T.put N (.row 8 [s.cells] 0)).look x=T.look x:=fun x hx _=>zr (by omega)
 obtain⟨c1,c2,c3,c4⟩:=zau hchk
 have hel:s.e.length≤1000:=by
  have h1:zR s.op≤2:=by unfold zR;(repeat' split);all_goals omega
  omega
 have hend:=fun e=>zcV p inp (z7 r) h (T.put N (.row 8 [s.cells] 0)) (N+1) e
 have hvals:=zsY p inp (z7 r) h (T.put N (.row 8 [s.cells] 0)) (N+1) s hmok hT1 hF1 hst hel;have hvl:=zns (m:=r.m) (vs:=r.vs) s.e [];have hvr:=zkK (m:=r.m) (vs:=r.vs) s.e [] (by simp);unfold zhw;have em:(z7 r).m=r.m:=rfl;have ev:(z7 r).vs=r.vs:=rfl;rw[em,ev] at hvals;generalize zaf r.m r.vs s.e []=W at hvals hvl hvr ⊢;obtain⟨v,we⟩:=W;simp only at hvals hvl hvr ⊢;unfold zcA rnH rnC St.cells;unfold rnH rnC St.cells at hend hvals
 by_cases h6:s.op=4∧4096≤r.out.length
 ·
  rw[if_pos h6];have hlo:4096≤(z7 r).out.length:=h6.2;have hlo2:(z7 r).out.length≤5000:=hout;have hd:decide (s.op=4)=true:=decide_eq_true h6.1
  (repeat first|simp(disch:=try exact dis1) only[evD,Nat.reduceBEq,Nat.reduceAdd,Nat.reduceLeDiff,dT,dF,hd,Wb,zE,zr,zar,zba,tn,Wc,AObj.part,AObj.upd]|with_reducible first|intro _|refine aJ ?_)
  refine zZ (hend 6) ?_;rintro v H nx ⟨rfl,rfl,rfl⟩
  (refine Qk ?_;intros)
  exact⟨_,_,_,Ent.keepN (by omega) ⟨rfl,trivial⟩,rfl,by omega,h,_,rfl,hT1,hF1,hst,Wa _,keep⟩
 rw[if_neg h6];have hlo2:(z7 r).out.length≤5000:=hout
 have hfin:∀K,K=[(0,AV.ptr 0 0 0 0 0),(2,.ptr N 0 0 0 0),(3,encU v),(4,.int .i64 we)]→wpX Tryz.prog N zcG (retK zo (zgg N (zkP p inp h T r.fr N (if we≠0 then endR (z7 r) we else zej p inp (N+1) (z7 r) s v)))) K (rnH p inp (z7 r) h (T.put N (.row 8 [s.cells] 0))) (N+1):=by
  rintro K rfl;unfold zcG rnH rnC St.cells encU
  by_cases hz:we=0
  ·
   rw[if_neg (show ¬we≠0 from fun h=>h hz)];have hvl:=hvl hz
   (repeat first|simp(disch:=try exact dis1) only[evD,Nat.reduceBEq,Nat.reduceAdd,Nat.reduceLeDiff,dT,dF,Wb,zE,zr,zar,zba,tn,Wc,AObj.part,AObj.upd]|with_reducible first|intro _|refine aJ ?_)
   have kk:=k v (by simpa using hvl) hvr
   have:s.op=1∨s.op=2∨s.op=3∨s.op=4∨s.op=5∨s.op=6∨s.op=7∨s.op=8∨s.op=9∨s.op=10:=by omega
   rcases this with ho|ho|ho|ho|ho|ho|ho|ho|ho|ho
   · exact zER kk ho
   · exact zDs kk ho
   · exact zFp kk ho
   · exact zFy kk ho
   · exact zDD kk ho
   · exact zEJ kk ho
   · exact zE6 kk ho
   · exact zFu kk ho
   · exact zFd kk ho
   · exact zB3 kk ho
  ·
   rw[if_pos hz]
   (repeat first|simp(disch:=try exact dis1) only[evD,Nat.reduceBEq,Nat.reduceAdd,Nat.reduceLeDiff,dT,dF,Wb,zE,zr,zar,zba,tn,Wc,AObj.part,AObj.upd]|with_reducible first|intro _|refine aJ ?_)
   refine zZ (hend we) ?_;rintro v H nx ⟨rfl,rfl,rfl⟩
   (refine Qk ?_;intros)
   exact⟨_,_,_,Ent.keepN (by omega) ⟨rfl,trivial⟩,rfl,by omega,h,_,rfl,hT1,hF1,hst,Wa _,keep⟩
 unfold rnH rnC St.cells at hfin
 by_cases ho:s.op=4
 ·
  have hd:decide (s.op=4)=true:=decide_eq_true ho
  have hlo:¬4096≤(z7 r).out.length:=fun h=>h6 ⟨ho,h⟩
  (repeat first|simp(disch:=try exact dis1) only[evD,Nat.reduceBEq,Nat.reduceAdd,Nat.reduceLeDiff,dT,dF,hd,zad,fldP,Wb,zE,zr,zar,zba,tn,Wc,AObj.part,AObj.upd]|with_reducible first|intro _|refine aJ ?_)
  refine zZ hvals ?_;rintro v1 H nx ⟨rfl,rfl,rfl⟩
  (refine Qa ?_;intros)
  exact hfin _ rfl
 ·
  (repeat first|simp(disch:=try exact dis1) only[evD,Nat.reduceBEq,Nat.reduceAdd,Nat.reduceLeDiff,dF,zad,fldP,Wb,zE,zr,zar,zba,tn,Wc,AObj.part,AObj.upd]|with_reducible first|intro _|refine aJ ?_)
  refine zZ hvals ?_;rintro v1 H nx ⟨rfl,rfl,rfl⟩
  (refine Qa ?_;intros)
  exact hfin _ rfl
theorem zBO {p:Pg} {r:Rn} {g b a:Nat} (hg:g < p.gs.length) (rg:r.g=g) (hb:b < p.gs[g].blocks.length) (rb:r.b=b) (ha:a < p.gs[g].blocks[b].stmts.length) (ra:r.a=a):stAt p r=p.gs[g].blocks[b].stmts[a]:=by
 unfold stAt zht zrw;rw[rg,rb,ra,Wb,Wb,Wb]
 have e1:p.gs.getD g ⟨0,[]⟩=p.gs[g]:=by rw[Wf,Wg hg,Wh]
 rw[e1]
 have e2:p.gs[g].blocks.getD b ⟨0,[]⟩=p.gs[g].blocks[b]:=by rw[Wf,Wg hb,Wh]
 rw[e2,Wf,Wg ha,Wh]
theorem zwX {p:Pg} {inp:List Int} {r:Rn} {h:Hd} {T:AH} {N g b a:Nat} (k:ROk p inp r h T N g b a):zab Tryz.prog zet [.ptr 0 0 0 0 0] (rnH p inp r h T) N (zkP p inp h T r.fr N (znj p inp (N+1) r)):=by
 refine zbc (fn_x zmG rfl ?_);obtain⟨hT,hF,hst,⟨hv1,hv2⟩,hfr,hfrv,hpg,hbl,htr,hmok,hmc,hout,hil,htk,hstp,hg,hrg,hb,hrb,ha,hra,hal,hchk,htg⟩:=k;unfold znj;rw[zBO hg hrg hb hrb ha hra];have hB:=hBig;have h4:=hT.four;have tn:=hT.none;have tN:=tn N (Wd _);have n0:(0 == N)=false:=beq_false_of_ne (by omega);have n1:(1 == N)=false:=beq_false_of_ne (by omega);have n2:(2 == N)=false:=beq_false_of_ne (by omega);have n3:(3 == N)=false:=beq_false_of_ne (by omega);have hg1:(p.gs.map G.cells).getD g []=[AV.int .u32 p.gs[g].addr,encL 2 Bl.cells p.gs[g].blocks]:=zq (f:=G.cells) (d:=[]) hg;have hg2:(p.gs[g].blocks.map Bl.cells).getD b []=[AV.int .u32 p.gs[g].blocks[b].addr,encL 8 St.cells p.gs[g].blocks[b].stmts]:=zq (f:=Bl.cells) (d:=[]) hb;have hk3:=zF4 (p:=p) (inp:=inp) (r:=r) (h:=h) (T:=T) (N:=N) (s:=p.gs[g].blocks[b].stmts[a]) (g:=g) (fun v hvl hvr=>⟨hT,hF,hst,⟨hv1,hv2⟩,hfr,hfrv,hpg,hbl,htr,hmok,hmc,hout,hil,htk.1,hchk,hvl,hvr,hg,hrg,htg⟩) hout hmok;have hg3:(p.gs[g].blocks[b].stmts.map St.cells).getD a []=p.gs[g].blocks[b].stmts[a].cells:=zq (f:=St.cells) (d:=[]) ha;generalize p.gs[g].blocks[b].stmts[a]=s at hg3 hk3 ⊢;unfold zg2 rnH rnC;unfold rnH rnC St.cells at hk3;replace hg3:(p.gs[g].blocks[b].stmts.map St.cells).getD a []=[.int .i64 s.op,.int .i64 s.var,.int .i64 s.width,.int .i64 s.next,.int .i64 s.els,.int .u32 s.tgt,encL 5 encX s.e,za s.cases]:=hg3;rw[hrg,hrb,hra]
 have e1:(z7 r).a=(a:Int)+1:=by show r.a+1=_;rw[hra]
 have e2:(z7 r).st=r.st+1:=rfl;have e3:(z7 r).g=g:=hrg;have e4:(z7 r).b=b:=hrb;rw[e1,e2,e3,e4] at hk3
 (refine Qa ?_;intros)
 refine zoR zd6 zjm zix zdb [(7,.ptr 0 0 0 0 0),(8,.ptr 0 0 0 0 0),(9,.ptr 0 0 0 0 0),(10,.ptr 0 0 0 0 0),(11,encL 2 G.cells p.gs),(12,.ptr 0 0 0 0 0),(13,.ptr 0 0 0 0 0),(14,.ptr 0 0 0 0 9),(15,.int .i64 g),(16,.iptr 2 fun j=>[AV.int .u32 p.gs[g].addr,encL 2 Bl.cells p.gs[g].blocks].getD j .undef),(17,.iptr 1 fun j=>[AV.int .u32 p.gs[g].addr,encL 2 Bl.cells p.gs[g].blocks].getD (1+j) .undef),(18,encL 2 Bl.cells p.gs[g].blocks),(19,.ptr 0 0 0 0 0),(20,.ptr 0 0 0 0 0),(21,.ptr 0 0 0 0 10),(22,.int .i64 b),(23,.iptr 2 fun j=>[AV.int .u32 p.gs[g].blocks[b].addr,encL 8 St.cells p.gs[g].blocks[b].stmts].getD j .undef),(24,.iptr 1 fun j=>[AV.int .u32 p.gs[g].blocks[b].addr,encL 8 St.cells p.gs[g].blocks[b].stmts].getD (1+j) .undef),(25,encL 8 St.cells p.gs[g].blocks[b].stmts),(26,.ptr 0 0 0 0 0),(27,.ptr 0 0 0 0 0),(28,.ptr 0 0 0 0 11),(29,.int .i64 a),(30,.iptr 8 fun j=>[AV.int .i64 s.op,.int .i64 s.var,.int .i64 s.width,.int .i64 s.next,.int .i64 s.els,.int .u32 s.tgt,encL 5 encX s.e,za s.cases].getD j .undef),(31,.agg [.int .i64 s.op,.int .i64 s.var,.int .i64 s.width,.int .i64 s.next,.int .i64 s.els,.int .u32 s.tgt,encL 5 encX s.e,za s.cases]),(2,.ptr N 0 0 0 0)] (hsOf [((0,.row 18 [[encL 2 G.cells p.gs,encL 5 Sct.cells p.secs,.int .u32 p.entry,encL 1 cU r.vs,.bool true,encL 5 Sct.cells r.m.l,encL 2 celV r.m.c,encL 1 cU inp,.int .i64 r.tk,.int .i64 g,.int .i64 b,.int .i64 a,.own 3 0 h.gc 0 r.fr.length,.own 1 0 h.gt 0 h.tr.length,.int .i64 r.err,.own 2 0 h.go 0 r.out.length,.int .i64 r.st,.bool r.ov]] 0)::(1,.row 1 (h.tr.map cU) h.gt)::(2,.row 1 (r.out.map cU) h.go)::(3,.row 4 (r.fr.map Fr.cells++h.stale) h.gc)::T,N),((0,.row 18 [[encL 2 G.cells p.gs,encL 5 Sct.cells p.secs,.int .u32 p.entry,encL 1 cU r.vs,.bool true,encL 5 Sct.cells r.m.l,encL 2 celV r.m.c,encL 1 cU inp,.int .i64 r.tk,.int .i64 g,.int .i64 b,.int .i64 a,.own 3 0 h.gc 0 r.fr.length,.own 1 0 h.gt 0 h.tr.length,.int .i64 r.err,.own 2 0 h.go 0 r.out.length,.int .i64 r.st,.bool r.ov]] 0)::(1,.row 1 (h.tr.map cU) h.gt)::(2,.row 1 (r.out.map cU) h.go)::(3,.row 4 (r.fr.map Fr.cells++h.stale) h.gc)::T.put N (.row 8 [[.int .i64 0,.int .i64 0,.int .i64 0,.int .i64 0,.int .i64 0,.int .u32 0,.nilsl,.nilsl]] 0),N+1),((0,.row 18 [[encL 2 G.cells p.gs,encL 5 Sct.cells p.secs,.int .u32 p.entry,encL 1 cU r.vs,.bool true,encL 5 Sct.cells r.m.l,encL 2 celV r.m.c,encL 1 cU inp,.int .i64 r.tk,.int .i64 g,.int .i64 b,.int .i64 a,.own 3 0 h.gc 0 r.fr.length,.own 1 0 h.gt 0 h.tr.length,.int .i64 r.err,.own 2 0 h.go 0 r.out.length,.int .i64 r.st,.bool r.ov]] 0)::(1,.row 1 (h.tr.map cU) h.gt)::(2,.row 1 (r.out.map cU) h.go)::(3,.row 4 (r.fr.map Fr.cells++h.stale) h.gc)::T.put N (.row 8 [[.int .i64 s.op,.int .i64 s.var,.int .i64 s.width,.int .i64 s.next,.int .i64 s.els,.int .u32 s.tgt,encL 5 encX s.e,za s.cases]] 0),N+1)]) (by kernel_rfl) (by rfl) (by rfl) (by repeat' first|exact QExt.retK|apply QExt.seq|apply QExt.block|apply QExt.loop|apply QExt.join|assumption) ?plan [(2,.ptr N 0 0 0 0)] (by rfl) ?fin
 case' plan =>
  intro Kf hs hK hH
  have kf7:Kf.get 7=.ptr 0 0 0 0 0:=by rw[hK,zc];rfl
  have kf8:Kf.get 8=.ptr 0 0 0 0 0:=by rw[hK,zc];rfl
  have kf9:Kf.get 9=.ptr 0 0 0 0 0:=by rw[hK,zc];rfl
  have kf10:Kf.get 10=.ptr 0 0 0 0 0:=by rw[hK,zc];rfl
  have kf11:Kf.get 11=encL 2 G.cells p.gs:=by rw[hK,zc];rfl
  have kf12:Kf.get 12=.ptr 0 0 0 0 0:=by rw[hK,zc];rfl
  have kf13:Kf.get 13=.ptr 0 0 0 0 0:=by rw[hK,zc];rfl
  have kf14:Kf.get 14=.ptr 0 0 0 0 9:=by rw[hK,zc];rfl
  have kf15:Kf.get 15=.int .i64 g:=by rw[hK,zc];rfl
  have kf16:Kf.get 16=.iptr 2 fun j=>[AV.int .u32 p.gs[g].addr,encL 2 Bl.cells p.gs[g].blocks].getD j .undef:=by rw[hK,zc];rfl
  have kf17:Kf.get 17=.iptr 1 fun j=>[AV.int .u32 p.gs[g].addr,encL 2 Bl.cells p.gs[g].blocks].getD (1+j) .undef:=by rw[hK,zc];rfl
  have kf18:Kf.get 18=encL 2 Bl.cells p.gs[g].blocks:=by rw[hK,zc];rfl
  have kf19:Kf.get 19=.ptr 0 0 0 0 0:=by rw[hK,zc];rfl
  have kf20:Kf.get 20=.ptr 0 0 0 0 0:=by rw[hK,zc];rfl
  have kf21:Kf.get 21=.ptr 0 0 0 0 10:=by rw[hK,zc];rfl
  have kf22:Kf.get 22=.int .i64 b:=by rw[hK,zc];rfl
  have kf23:Kf.get 23=.iptr 2 fun j=>[AV.int .u32 p.gs[g].blocks[b].addr,encL 8 St.cells p.gs[g].blocks[b].stmts].getD j .undef:=by rw[hK,zc];rfl
  have kf24:Kf.get 24=.iptr 1 fun j=>[AV.int .u32 p.gs[g].blocks[b].addr,encL 8 St.cells p.gs[g].blocks[b].stmts].getD (1+j) .undef:=by rw[hK,zc];rfl
  have kf25:Kf.get 25=encL 8 St.cells p.gs[g].blocks[b].stmts:=by rw[hK,zc];rfl
  have kf26:Kf.get 26=.ptr 0 0 0 0 0:=by rw[hK,zc];rfl
  have kf27:Kf.get 27=.ptr 0 0 0 0 0:=by rw[hK,zc];rfl
  have kf28:Kf.get 28=.ptr 0 0 0 0 11:=by rw[hK,zc];rfl
  have kf29:Kf.get 29=.int .i64 a:=by rw[hK,zc];rfl
  have kf30:Kf.get 30=.iptr 8 fun j=>[AV.int .i64 s.op,.int .i64 s.var,.int .i64 s.width,.int .i64 s.next,.int .i64 s.els,.int .u32 s.tgt,encL 5 encX s.e,za s.cases].getD j .undef:=by rw[hK,zc];rfl
  have kf31:Kf.get 31=.agg [.int .i64 s.op,.int .i64 s.var,.int .i64 s.width,.int .i64 s.next,.int .i64 s.els,.int .u32 s.tgt,encL 5 encX s.e,za s.cases]:=by rw[hK,zc];rfl
  have kf2:Kf.get 2=.ptr N 0 0 0 0:=by rw[hK,zc];rfl
  have kf0:Kf.get 0=.ptr 0 0 0 0 0:=by rw[hK,zc];rfl
  simp only[zdb,zkB,zmO,and_true]
  (repeat' with_reducible apply Wp)
  all_goals (rw[hH];simp only[zm5,zdP,Wl,Ws,hsOf,hsAt,beqL,zeV,Nat.reduceBEq,Wt,Wu,Wv,Ww,cond_true,cond_false,Wx,Wo,Nat.reduceAdd])
  all_goals try (simp(disch:=try exact dis1) only[evD,Nat.reduceBEq,Nat.reduceAdd,Nat.reduceLeDiff,zdd,zcR,kf7,kf8,kf9,kf10,kf11,kf12,kf13,kf14,kf15,kf16,kf17,kf18,kf19,kf20,kf21,kf22,kf23,kf24,kf25,kf26,kf27,kf28,kf29,kf30,kf31,kf2,kf0,Wb,hrg,hrb,hra,n0,n1,n2,n3,tN,zaG,zE,zar,zad,fldP,zba];done)
 case' fin=>simp only[zd6,hsOf,hsAt,beqL,zeV,Nat.reduceBEq,Wt,Wu,Wv,Ww,cond_true,cond_false,Wx,Wo,Nat.reduceAdd,Wl,Ws,zap]
 ·
  (repeat first|simp(disch:=try exact dis1) only[evD,Nat.reduceBEq,Nat.reduceAdd,Nat.reduceLeDiff,dT,dF,Wb,zE,zr,zar,zba,tn,Wc,AObj.part,AObj.upd]|with_reducible first|intro _|refine aJ ?_)
  exact hk3
 all_goals (repeat first|simp(disch:=try exact dis1) only[evD,Nat.reduceBEq,Nat.reduceAdd,Nat.reduceLeDiff,kf7,kf8,kf9,kf10,kf11,kf12,kf13,kf14,kf15,kf16,kf17,kf18,kf19,kf20,kf21,kf22,kf23,kf24,kf25,kf26,kf27,kf28,kf29,kf30,kf31,kf2,sub,zad,zdd,zcR,fldP,n0,n1,n2,n3,tN,zaG,zar,Wb,zE,zr,zar,zba,tn,Wc,AObj.part,AObj.upd]|with_reducible first|intro _|refine aJ ?_)
 all_goals first
  | omega
  | rw[hg1]
  | rw[hg2]
  | rw[hg3]
  | trace_state
def zmI:List Int:=(WP 12 0).set 7 983036
theorem zqV:zu Tryz.prog ziP [] (·=stV zmI):=by
 refine fn_x zqZ rfl ?_;unfold zk7;have hB:=hBig
 (refine Qj ?_;intros)
 refine⟨by decide,?_⟩
 (repeat first|simp(disch:=try exact dis1) only[evD,Nat.reduceBEq,Nat.reduceAdd,Nat.reduceLeDiff,zln]|with_reducible first|intro _|refine aJ ?_)
 have e:((WP (Wn 12) [AV.int .u32 0]).set (Wn 7) [AV.int .u32 983036])=zmI.map cU:=rfl;rw[e];exact⟨_,vw_st (l:=zmI) trivial rfl (by decide),rfl⟩
def zjv (p:Pg):List G→Int→Int
 | [],_=>if za6 p.entry p.gs 0 < 0 then 17 else 0
 | g::l,i=>if zfE g≠0 then zfE g else if za6 g.addr p.gs 0≠i then 8 else zjv p l (i+1)
def zcC (p:Pg):Int:=if 64 < p.gs.length then 6 else zjv p p.gs 0
theorem zu5 (p:Pg) (hsec:zu Tryz.prog zcL [encL 5 Sct.cells p.secs] (·=.int .i64 0)) (hf:∀g∈p.gs,fewB g) (hn:p.gs.length≤1000):zu Tryz.prog zlH [.agg p.cells] (·=.int .i64 (zcC p)):=by
 refine fn_x zt4 rfl ?_;unfold znU;have hB:=hBig
 have hfind:=fun a=>zlw p a (by omega)
 generalize hR:zcC p=R;unfold zcC at hR;unfold Pg.cells at hfind ⊢
 (refine Ql ?_;intros)
 refine ze (zd hsec rfl) ?_
 by_cases h64:64 < p.gs.length
 ·
  rw[if_pos h64] at hR
  (repeat first|simp(disch:=try exact dis1) only[evD,Nat.reduceBEq,Nat.reduceAdd,Nat.reduceLeDiff,fldP,dT,dF,zdT]|with_reducible first|intro _|refine aJ ?_)
  exact⟨_,.int _ _ _,by rw[hR]⟩
 rw[if_neg h64] at hR
 (refine Qt ?_;intros)
 refine zk (fun i:Nat=>([(1,encP 3 [encL 2 G.cells p.gs,encL 5 Sct.cells p.secs,.int .u32 p.entry]),(4,.int .i64 i)],[])) 0 (fun i=>i≤p.gs.length∧zjv p (p.gs.drop i) i=R) (fun i=>p.gs.length - i) 0 ⟨Wr _,hR⟩ (Ent.keep rfl fin5) ?_;rintro i ⟨hi,hgo⟩ wf;unfold zkd
 by_cases hil:i < p.gs.length
 ·
  have hg:(p.gs.map G.cells).getD i []=[.int .u32 p.gs[i].addr,encL 2 Bl.cells p.gs[i].blocks]:=zq (f:=G.cells) (d:=[]) hil;have hch:=zhL p.gs[i] (hf _ (We hil));rw[WF hil,zjv] at hgo;unfold G.cells at hch
  (repeat first|simp(disch:=try exact dis1) only[evD,Nat.reduceBEq,Nat.reduceAdd,Nat.reduceLeDiff,fldP,zad,dT,hg]|with_reducible first|intro _|refine aJ ?_)
  refine ze (zd hch rfl) ?_
  by_cases h0:zfE p.gs[i]=0
  ·
   rw[if_neg (show ¬zfE p.gs[i]≠0 from fun h=>h h0)] at hgo
   (repeat first|simp(disch:=try exact dis1) only[evD,Nat.reduceBEq,Nat.reduceAdd,Nat.reduceLeDiff,fldP,zad,dT,dF,hg]|with_reducible first|intro _|refine aJ ?_)
   refine zai (zd (hfind _) rfl) ?_
   by_cases h1:za6 p.gs[i].addr p.gs 0=i
   ·
    rw[if_neg (show ¬za6 p.gs[i].addr p.gs 0≠i from fun h=>h h1)] at hgo
    (repeat first|simp(disch:=try exact dis1) only[evD,Nat.reduceBEq,Nat.reduceAdd,Nat.reduceLeDiff,fldP,zad,dT,dF,hg]|with_reducible first|intro _|refine aJ ?_)
    exact⟨i+1,⟨by omega,hgo⟩,by omega,Ent.keep rfl fin5⟩
   ·
    rw[if_pos h1] at hgo
    (repeat first|simp(disch:=try exact dis1) only[evD,Nat.reduceBEq,Nat.reduceAdd,Nat.reduceLeDiff,fldP,zad,dT,dF,hg,zdT]|with_reducible first|intro _|refine aJ ?_)
    exact⟨_,.int _ _ _,by rw[hgo]⟩
  ·
   rw[if_pos h0] at hgo
   (repeat first|simp(disch:=try exact dis1) only[evD,Nat.reduceBEq,Nat.reduceAdd,Nat.reduceLeDiff,fldP,zad,dT,dF,hg,zdT]|with_reducible first|intro _|refine aJ ?_)
   exact⟨_,.int _ _ _,by rw[hgo]⟩
 ·
  rw[WW (by omega),zjv] at hgo
  (refine Qh ?_;intros)
  unfold zju
  (repeat first|simp(disch:=try exact dis1) only[evD,Nat.reduceBEq,Nat.reduceAdd,Nat.reduceLeDiff,fldP,zad,dF]|with_reducible first|intro _|refine aJ ?_)
  refine ze (zd (hfind _) rfl) ?_
  by_cases h0:za6 p.entry p.gs 0 < 0
  ·
   rw[if_pos h0] at hgo
   (repeat first|simp(disch:=try exact dis1) only[evD,Nat.reduceBEq,Nat.reduceAdd,Nat.reduceLeDiff,fldP,dT,zdT]|with_reducible first|intro _|refine aJ ?_)
   exact⟨_,.int _ _ _,by rw[hgo]⟩
  ·
   rw[if_neg h0] at hgo
   (repeat first|simp(disch:=try exact dis1) only[evD,Nat.reduceBEq,Nat.reduceAdd,Nat.reduceLeDiff,fldP,dF,zdT]|with_reducible first|intro _|refine aJ ?_)
   exact⟨_,.int _ _ _,by rw[hgo]⟩
theorem zze (l:List Sct) (hsec:zu Tryz.prog zcL [encL 5 Sct.cells l] (·=.int .i64 0)) (hcp:zu Tryz.prog zdJ [encL 5 Sct.cells l] (·=encL 5 Sct.cells l)):zu Tryz.prog zqs [encL 5 Sct.cells l] (·=.tup [memV ⟨l,[]⟩,.int .i64 0]):=by
 refine fn_x zyQ rfl ?_;unfold zsy;have hB:=hBig
 (refine Qa ?_;intros)
 refine ze (zd hsec rfl) ?_
 (refine Qj ?_;intros)
 refine ze (zd hcp rfl) ?_
 (repeat first|simp(disch:=try exact dis1) only[evD,Nat.reduceBEq,Nat.reduceAdd,Nat.reduceLeDiff,dT,dF,zrL]|with_reducible first|intro _|refine aJ ?_)
 refine⟨_,zjS (.agg _ _ [.bool true,encL 5 Sct.cells l,encL 2 celV []] rfl (zgI ?_).2),rfl⟩;simp only[VwL];exact⟨.bool _ _,zO rfl,.nil0 _ _ _,trivial⟩
def zCG (p:Pg):Mem:=(zfl ⟨p.secs,[]⟩ 983036 4 4294967295).1
def zc7 (p:Pg):Rn:=⟨zmI,zCG p,0,za6 p.entry p.gs 0,0,0,[],0,[],0,false⟩
theorem tok4:TOk 4 []:=⟨Wd 4,fun r o h=>by simp[AH.look] at h,trivial,fun r o h=>by simp[AH.look] at h⟩
theorem fok0:FOk [] []:=⟨fun f hf=>(by cases hf),List.nodup_nil⟩
theorem Qu {p q:Prop}(k:q)(h:Im q p:=by(repeat first|simp(disch:=try exact dis1) only[evD,Nat.reduceBEq,Nat.reduceAdd,Nat.reduceLeDiff,fldP,zad] | ((with_reducible apply Im.i);intro _) | ((with_reducible apply Im.a);omega));exact Im.r):p:=h k
theorem ztK (p:Pg) (inp:List Int) (hsec:zu Tryz.prog zcL [encL 5 Sct.cells p.secs] (·=.int .i64 0)) (hcp:zu Tryz.prog zdJ [encL 5 Sct.cells p.secs] (·=encL 5 Sct.cells p.secs))
  (hf:∀g∈p.gs,fewB g) (hn:p.gs.length≤1000) (hil:inp.length≤4096) (hm:Mem.ok ⟨p.secs,[]⟩) (hbl:zcC p=0→∀g∈p.gs,g.blocks≠[]) (hen:zcC p=0→0≤za6 p.entry p.gs 0) :
  zab Tryz.prog zlR [.agg p.cells,encL 1 cU inp] [] 0 (fun v H nx=>(zcC p≠0∧v=.tup [.nilp,.int .i64 (zcC p)]∧H=[]∧nx=0) ∨
   (zcC p=0∧v=.tup [.ptr 0 0 0 0 0,.int .i64 0]∧nx=4∧∃h2,H=rnH p inp (zc7 p) h2 []∧h2.stale=[]∧h2.tr.length=1)):=by
 refine zbc (fn_x zuF rfl ?_);unfold znT;have hB:=hBig;have hch:=zu5 p hsec hf hn;have hnew:=zze p.secs hsec hcp;have hsto:=zob ⟨p.secs,[]⟩ 983036 4 4294967295 (by decide) (by decide) hm (by simp);have hini:=zqV;have hfind:=zlw p p.entry (by omega);have hM:(zfl ⟨p.secs,[]⟩ 983036 4 4294967295).1=zCG p:=rfl;generalize hR:zCG p=M at hM;rw[hM] at hsto;generalize (zfl ⟨p.secs,[]⟩ 983036 4 4294967295).2=me at hsto;obtain⟨ml,mc⟩:=M;generalize hF:za6 p.entry p.gs 0=F at hfind hen;generalize zcC p=C at hch hbl hen ⊢;unfold Pg.cells at hch hfind ⊢;simp only[memV,stV] at hnew hsto hini
 (refine Qu ?_;intros)
 refine ze (zd hch rfl) ?_
 by_cases hC:C=0
 case neg =>
  (repeat first|simp(disch:=try exact dis1) only[evD,Nat.reduceBEq,Nat.reduceAdd,Nat.reduceLeDiff,fldP,dT,dF,zkh]|with_reducible first|intro _|refine aJ ?_)
  refine⟨_,[],0,Ent.tab [] [] rfl trivial ⟨?_,trivial⟩,.inl ⟨hC,rfl,rfl,rfl⟩⟩;exact zaq rfl
 (refine Qm ?_;intros)
 refine ze (zd hnew rfl) ?_
 (refine Qm ?_;intros)
 refine ze (zd hsto rfl) ?_
 (refine Qm ?_;intros)
 refine zoR zhZ zov znL zf5 [(29,.agg [encL 2 G.cells p.gs,encL 5 Sct.cells p.secs,.int .u32 p.entry]),(30,.agg [encL 1 cU zmI]),(31,.agg [.bool true,encL 5 Sct.cells ml,encL 2 celV mc]),(32,encL 1 cU inp),(33,.agg [encL 2 G.cells p.gs,encL 5 Sct.cells p.secs,.int .u32 p.entry]),(34,.iptr 1 fun j=>[encL 2 G.cells p.gs,encL 5 Sct.cells p.secs,.int .u32 p.entry].getD (2+j) .undef),(35,.int .u32 p.entry),(36,.int .i64 F),(37,.agg [encL 2 G.cells p.gs,encL 5 Sct.cells p.secs,.int .u32 p.entry,encL 1 cU zmI,.bool true,encL 5 Sct.cells ml,encL 2 celV mc,encL 1 cU inp,.int .i64 0,.int .i64 F,.int .i64 0,.int .i64 0,.nilsl,.nilsl,.int .i64 0,.nilsl,.int .i64 0,.bool false]),(38,.ptr 1 0 0 0 0),(9,.ptr 1 0 0 0 0)] (hsOf [([(0,.row 3 [[.bool true,encL 5 Sct.cells ml,encL 2 celV mc]] 0)],1),([(0,.row 3 [[.bool true,encL 5 Sct.cells ml,encL 2 celV mc]] 0),(1,.row 18 [[encL 2 G.cells p.gs,encL 5 Sct.cells p.secs,.int .u32 p.entry,encL 1 cU zmI,.bool true,encL 5 Sct.cells ml,encL 2 celV mc,encL 1 cU inp,.int .i64 0,.int .i64 F,.int .i64 0,.int .i64 0,.nilsl,.nilsl,.int .i64 0,.nilsl,.int .i64 0,.bool false]] 0)],2)]) (by kernel_rfl) (by rfl) (by rfl) (by repeat' first|exact QExt.retK|apply QExt.seq|apply QExt.block|apply QExt.loop|apply QExt.join|assumption) ?plan [(9,.ptr 1 0 0 0 0)] (by rfl) ?fin
 case' plan =>
  intro Kf hs hK hH
  have kf29:Kf.get 29=.agg [encL 2 G.cells p.gs,encL 5 Sct.cells p.secs,.int .u32 p.entry]:=by rw[hK,zc];rfl
  have kf30:Kf.get 30=.agg [encL 1 cU zmI]:=by rw[hK,zc];rfl
  have kf31:Kf.get 31=.agg [.bool true,encL 5 Sct.cells ml,encL 2 celV mc]:=by rw[hK,zc];rfl
  have kf32:Kf.get 32=encL 1 cU inp:=by rw[hK,zc];rfl
  have kf33:Kf.get 33=.agg [encL 2 G.cells p.gs,encL 5 Sct.cells p.secs,.int .u32 p.entry]:=by rw[hK,zc];rfl
  have kf34:Kf.get 34=.iptr 1 fun j=>[encL 2 G.cells p.gs,encL 5 Sct.cells p.secs,.int .u32 p.entry].getD (2+j) .undef:=by rw[hK,zc];rfl
  have kf35:Kf.get 35=.int .u32 p.entry:=by rw[hK,zc];rfl
  have kf36:Kf.get 36=.int .i64 F:=by rw[hK,zc];rfl
  have kf37:Kf.get 37=.agg [encL 2 G.cells p.gs,encL 5 Sct.cells p.secs,.int .u32 p.entry,encL 1 cU zmI,.bool true,encL 5 Sct.cells ml,encL 2 celV mc,encL 1 cU inp,.int .i64 0,.int .i64 F,.int .i64 0,.int .i64 0,.nilsl,.nilsl,.int .i64 0,.nilsl,.int .i64 0,.bool false]:=by rw[hK,zc];rfl
  have kf38:Kf.get 38=.ptr 1 0 0 0 0:=by rw[hK,zc];rfl
  have kf9:Kf.get 9=.ptr 1 0 0 0 0:=by rw[hK,zc];rfl
  have kf1:Kf.get 1=encL 1 cU inp:=by rw[hK,zc];rfl
  have kf2:Kf.get 2=.iptr 3 fun j=>[encL 2 G.cells p.gs,encL 5 Sct.cells p.secs,.int .u32 p.entry].getD j .undef:=by rw[hK,zc];rfl
  have kf7:Kf.get 7=.ptr 0 0 0 0 0:=by rw[hK,zc];rfl
  simp only[zf5,zkB,zmO,and_true]
  (repeat' with_reducible apply Wp)
  all_goals (rw[hH];simp only[zm5,zgX,Wl,Ws,hsOf,hsAt,beqL,zeV,Nat.reduceBEq,Wt,Wu,Wv,Ww,cond_true,cond_false,Wx,Wo,Nat.reduceAdd])
  all_goals try (simp(disch:=try exact dis1) only[evD,Nat.reduceBEq,Nat.reduceAdd,Nat.reduceLeDiff,zdd,zcR,kf29,kf30,kf31,kf32,kf33,kf34,kf35,kf36,kf37,kf38,kf9,kf1,kf2,kf7,zad,fldP];done)
 case' fin=>simp only[zhZ,hsOf,hsAt,beqL,zeV,Nat.reduceBEq,Wt,Wu,Wv,Ww,cond_true,cond_false,Wx,Wo,Nat.reduceAdd,Wl,Ws,zap]
 ·
  (refine Qj ?_;intros)
  have hgF:∃k:Nat,∃hk:k < p.gs.length,F=k:=by
   have h0:=hen hC
   rcases zh1 p.entry p.gs 0 with h1 | ⟨k,hk,h1,_⟩
   · rw[hF] at h1;omega
   · exact⟨k,hk,by rw[hF] at h1;omega⟩
  obtain⟨k,hk,hFk⟩:=hgF
  have hst0:zc7 p=⟨zmI,⟨ml,mc⟩,0,F,0,0,[],0,[],0,false⟩:=by unfold zc7;rw[hR,hF]
  refine zqR [(9,.ptr 0 0 0 0 0)] (rnH p inp (zc7 p) ⟨[],0,0,0,[]⟩ []) 4 fun _=>⟨Ent.view (fun r q=>if r=0∧q=0 then some (1,0,0) else none) (fun _ _=>False) ⟨Wr _,fun r q h=>absurd h (by omega),?_,fun _ _ _ _ _ _ h=>h,?_,?_,?_⟩ (zh5 ⟨.ptr _ _ _ _ _ _ _ _ _ (if_pos ⟨rfl,rfl⟩) rfl,trivial⟩),?_⟩
  ·
   intro r1 q1 r2 q2 r q d1 d2 h1 h2;split at h1
   ·
    split at h2
    · rename_i a b;exact⟨by rw[a.1,b.1],by rw[a.2,b.2]⟩
    · cases h2
   · cases h1
  ·
   intro r q x h1;split at h1
   · omega
   · cases h1
  ·
   intro r o h1
   match r with
   | 0|1|2|3=>decide
   | r+4=>unfold rnH at h1;rw[zcz (by omega)] at h1;simp[AH.look] at h1
  ·
   intro r q sz els2 g2 h1;rw[hst0] at h1
   match r,q with
   |
    0,0 =>
    cases h1;refine .inl ⟨1,0,0,_,if_pos ⟨rfl,rfl⟩,rfl,zgm ?_ zin⟩;rw[hst0];unfold rnC;simp only[VwL];refine⟨zO rfl,zO rfl,.int _ _ _,zO rfl,.bool _ _,zO rfl,zO rfl,zO rfl,.int _ _ _,.int _ _ _,.int _ _ _,.int _ _ _,.new _ _ _ rfl rfl,.new _ _ _ rfl rfl,.int _ _ _,.new _ _ _ rfl rfl,.int _ _ _,.bool _ _,trivial⟩
   | 1,0=>cases h1;exact .inr ⟨rfl,rfl,rfl⟩
   | 2,0=>cases h1;exact .inr ⟨rfl,rfl,rfl⟩
   | 3,0=>cases h1;exact .inr ⟨rfl,rfl,rfl⟩
   | 0,q+1|1,q+1|2,q+1|3,q+1=>cases h1
   | r+4,q=>unfold rnH AH.get at h1;rw[zcz (by omega)] at h1;simp[AH.look] at h1
  ·
   have hbp:0 < p.gs[k].blocks.length:=WC.2 (hbl hC _ (We hk));have hent:=zdO p inp (zc7 p) ⟨[],0,0,0,[]⟩ [] 4 0 k 0 hk (by rw[hst0];exact hFk) hbp rfl (by simp) tok4 (by rw[hst0];exact fok0) zaj
   (refine Qa ?_;intros)
   refine zZ hent ?_;rintro v H nx ⟨rfl,rfl,rfl⟩
   (repeat first|simp(disch:=try exact dis1) only[evD,Nat.reduceBEq,Nat.reduceAdd,Nat.reduceLeDiff,zkh]|with_reducible first|intro _|refine aJ ?_)
   refine⟨_,_,_,Ent.keepN (Wr _) ⟨rfl,trivial⟩,.inr ⟨hC,rfl,rfl,⟨[p.gs[k].blocks[0].addr],1,0,0,[]⟩,?_,rfl,rfl⟩⟩;rw[hst0]
 all_goals try (repeat first|simp(disch:=try exact dis1) only[evD,Nat.reduceBEq,Nat.reduceAdd,Nat.reduceLeDiff,kf29,kf30,kf31,kf32,kf33,kf34,kf35,kf36,kf37,kf38,kf9,zad,fldP,sub,zdd,zcR]|with_reducible first|intro _|refine aJ ?_)
 all_goals try (refine zai (zd hini rfl) ?_)
 all_goals try (refine zai (zd hfind rfl) ?_)
 all_goals try (repeat first|simp(disch:=try exact dis1) only[evD,Nat.reduceBEq,Nat.reduceAdd,Nat.reduceLeDiff,kf29,kf30,kf31,kf32,kf33,kf34,kf35,kf36,kf37,kf38,kf9,zad,fldP,sub,zdd,zcR]|with_reducible first|intro _|refine aJ ?_)
 all_goals trace_state
def zzF (p:Pg) (g b a:Int):Prop:=∃g' b' a':Nat,g=g'∧b=b'∧a=a'∧∃(h1:g' < p.gs.length) (h2:b' < p.gs[g'].blocks.length),a' < p.gs[g'].blocks[b'].stmts.length
structure RInv (p:Pg) (inp:List Int) (r:Rn):Prop where
 vs:12≤r.vs.length∧r.vs.length≤65536
 fr:r.fr.length≤256
 frv:∀f∈r.fr,12≤f.vs.length∧f.vs.length≤65536
 frp:∀f∈r.fr,zzF p f.g f.b f.a
 mok:r.m.ok
 mc:(r.m.c.length:Int)≤4+4 * r.st
 out:r.out.length≤4096
 tk:0≤r.tk∧r.tk≤inp.length
 st:0≤r.st
 pos:r.ov=false→zzF p r.g r.b r.a
 ids:∀(i:Nat) (f:Fr),r.fr[i]? = some f→f.id=5+i
section
variable {p:Pg} {inp:List Int}
theorem OkG.tg {g:G} (h:OkG g) {b a:Nat} (hb:b < g.blocks.length) (ha:a < g.blocks[b].stmts.length):∀t∈zan g.blocks[b].stmts[a],0≤t∧t < g.blocks.length:=by
 intro t ht;obtain⟨e1,e2,e3⟩:=h.closed _ (We hb);have hd:=WF ha;have he:=zh9 e2 hd
 cases hr:g.blocks[b].stmts.drop (a+1) with
 |
  nil =>
  rw[hr] at hd;have:=e3 t (by rw[zgB hd];exact ht);exact this
 |
  cons s l =>
  rw[hr] at he;unfold zcg at he;have h6:¬(6≤(g.blocks[b].stmts[a]).op∧(g.blocks[b].stmts[a]).op≤10):=of_decide_eq_false he;unfold zan at ht;rw[if_neg (by omega),if_neg (by omega),if_neg (by omega)] at ht;cases ht
theorem OkG.next {g:G} (h:OkG g) {b a:Nat} (hb:b < g.blocks.length) (ha:a < g.blocks[b].stmts.length) (hop:(g.blocks[b].stmts[a]).op < 6):a+1 < g.blocks[b].stmts.length:=by
 obtain⟨e1,e2,e3⟩:=h.closed _ (We hb);have hd:=WF ha;have he:=zh9 e2 hd
 rcases Nat.lt_or_ge (a+1) g.blocks[b].stmts.length with h1|h1
 · exact h1
 · rw[WW h1] at he;unfold zcg at he;have:=of_decide_eq_true he;omega
theorem OkG.start {g:G} (h:OkG g) {b:Nat} (hb:b < g.blocks.length):0 < g.blocks[b].stmts.length:=WC.2 (h.closed _ (We hb)).1
structure RInv0 (p:Pg) (inp:List Int) (r:Rn):Prop where
 vs:12≤r.vs.length∧r.vs.length≤65536
 fr:r.fr.length≤256
 frv:∀f∈r.fr,12≤f.vs.length∧f.vs.length≤65536
 frp:∀f∈r.fr,zzF p f.g f.b f.a
 mok:r.m.ok
 mc:(r.m.c.length:Int)≤4+4 * r.st
 out:r.out.length≤4096
 tk:0≤r.tk∧r.tk≤inp.length
 st:0≤r.st
 pos:r.ov=false→zzF p r.g r.b r.a
theorem RInv0.can {r:Rn} (h:RInv0 p inp r):RInv p inp (canR r):=by
 have hm:∀f∈(canR r).fr,∃f0∈r.fr,f.g=f0.g∧f.b=f0.b∧f.a=f0.a∧f.vs=f0.vs:=fun f hf=>by obtain⟨i,hi⟩:=WH hf;have hi':(r.fr.mapIdx fun i f=>{ f with id:=5+i })[i]? = some f:=hi;rw[WE] at hi';obtain⟨f0,e1,rfl⟩:=Wj.1 hi';exact⟨f0,Wk e1,rfl,rfl,rfl,rfl⟩
 refine⟨h.vs,?_,fun f hf=>?_,fun f hf=>?_,h.mok,h.mc,h.out,h.tk,h.st,h.pos,fun i f hi=>?_⟩
 · show (r.fr.mapIdx _).length≤256;rw[WD];exact h.fr
 · obtain⟨f0,h0,_,_,_,e⟩:=hm f hf;rw[e];exact h.frv f0 h0
 · obtain⟨f0,h0,e1,e2,e3,_⟩:=hm f hf;rw[e1,e2,e3];exact h.frp f0 h0
 · have hi':(r.fr.mapIdx fun i f=>{ f with id:=5+i })[i]? = some f:=hi;rw[WE] at hi';obtain⟨f0,e1,rfl⟩:=Wj.1 hi';rfl
theorem zvf {s:List Int} {v n:Int} (hs:s.length≤65536) (hv:0≤v∧v < 65536):(setR s v n).length≤65536:=by unfold setR;rw[List.length_set,Wq,List.length_replicate];omega
theorem RInv.next {r:Rn} (hk:∀g∈p.gs,OkG g) (h:RInv p inp r) (hov:r.ov=false) (hst2:r.st≤100000):RInv p inp (zu0 p inp r):=by
 refine RInv0.can ?_;obtain⟨g,b,a,q1,q2,q3,hg,hb,ha⟩:=h.pos hov;unfold znj;rw[zBO hg q1 hb q2 ha q3];have hok:=hk _ (We hg);have hchk:=hok.chk _ (We hb) _ (We ha);have htg:=hok.tg hb ha;have hnx:=hok.next hb ha;generalize p.gs[g].blocks[b].stmts[a]=s at hchk htg hnx ⊢;obtain⟨c1,c2,c3,c4⟩:=zau hchk;have hst:=h.st;have hmc:=h.mc
 have base:∀ {r2:Rn},r2.vs=r.vs→r2.fr=r.fr→r2.m=r.m→r2.out=r.out→r2.tk=r.tk→r2.st=r.st+1→(r2.ov=false→zzF p r2.g r2.b r2.a)→RInv0 p inp r2:=by intro r2 e1 e2 e3 e4 e5 e6 e7;refine⟨by rw[e1];exact h.vs,by rw[e2];exact h.fr,by rw[e2];exact h.frv,by rw[e2];exact h.frp,by rw[e3];exact h.mok,by rw[e3,e6];omega,by rw[e4];exact h.out,by rw[e5];exact h.tk,by omega,e7⟩
 have hend:∀e,RInv0 p inp (endR (z7 r) e):=fun e=>base (r2:=endR (z7 r) e) rfl rfl rfl rfl rfl rfl (fun h=>Bool.noConfusion h)
 have hpn:s.op < 6→zzF p (z7 r).g (z7 r).b (z7 r).a:=fun ho=>⟨g,b,a+1,q1,q2,by show r.a+1=_;rw[q3];rfl,hg,hb,hnx ho⟩
 have hjump:∀c∈zan s,RInv0 p inp (zhg (z7 r) c):=fun c hc=>by
  obtain⟨t1,t2⟩:=htg c hc
  refine base rfl rfl rfl rfl rfl rfl fun _=>⟨g,c.toNat,0,q1,by show c=_;omega,rfl,hg,by omega,hok.start (by omega)⟩
 unfold zhw
 by_cases ho4:s.op=4∧4096≤r.out.length
 · rw[if_pos ho4];exact hend _
 rw[if_neg ho4]
 by_cases hz:(zaf r.m r.vs s.e []).2≠0
 · rw[if_pos hz];exact hend _
 rw[if_neg hz];unfold zej
 by_cases h1:s.op=1
 · rw[if_pos h1];have hb0:=base (r2:=z7 r) rfl rfl rfl rfl rfl rfl (fun _=>hpn (by omega));exact⟨⟨WJ hb0.vs.1 zmF,zvf hb0.vs.2 c2⟩,hb0.fr,hb0.frv,hb0.frp,hb0.mok,hb0.mc,hb0.out,hb0.tk,hb0.st,hb0.pos⟩
 rw[if_neg h1]
 by_cases h2:s.op=2
 ·
  rw[if_pos h2];split
  · exact hend _
  · have hb0:=base (r2:=z7 r) rfl rfl rfl rfl rfl rfl (fun _=>hpn (by omega));have hs:=zvF (a:=(zaf r.m r.vs s.e []).1.getD 0 0) (w:=s.width) (n:=(zaf r.m r.vs s.e []).1.getD 1 0) (b:=r.m.c.length) h.mok (Wd _) (by omega);have em:(z7 r).m=r.m:=rfl;rw[em];refine⟨hb0.vs,hb0.fr,hb0.frv,hb0.frp,hs.1,?_,hb0.out,hb0.tk,hb0.st,hb0.pos⟩;show ((zfl r.m _ s.width _).1.c.length:Int)≤4+4 * (r.st+1);have:=hs.2;omega
 rw[if_neg h2]
 by_cases h3:s.op=3
 ·
  rw[if_pos h3];split
  · exact hend _
  · rename_i ht;have hb0:=base (r2:=z7 r) rfl rfl rfl rfl rfl rfl (fun _=>hpn (by omega));have htk:(z7 r).tk=r.tk:=rfl;have:=h.tk;exact⟨⟨WJ hb0.vs.1 zmF,zvf hb0.vs.2 c2⟩,hb0.fr,hb0.frv,hb0.frp,hb0.mok,hb0.mc,hb0.out,⟨by simp only;omega,by simp only;omega⟩,hb0.st,hb0.pos⟩
 rw[if_neg h3]
 by_cases h4:s.op=4
 ·
  rw[if_pos h4];have hb0:=base (r2:=z7 r) rfl rfl rfl rfl rfl rfl (fun _=>hpn (by omega))
  have ho:r.out.length < 4096:=Nat.lt_of_not_le fun hh=>ho4 ⟨h4,hh⟩
  refine⟨hb0.vs,hb0.fr,hb0.frv,hb0.frp,hb0.mok,hb0.mc,?_,hb0.tk,hb0.st,hb0.pos⟩;simp only[Wq,WG];show r.out.length+1≤4096;omega
 rw[if_neg h4]
 by_cases h5:s.op=5
 ·
  rw[if_pos h5];unfold zrm;split
  · exact hend _
  split
  · exact hend _
  ·
   rename_i hf hd;have hb0:=base (r2:=z7 r) rfl rfl rfl rfl rfl rfl (fun _=>hpn (by omega));have hl:(z7 r).fr.length=r.fr.length:=rfl
   obtain⟨k,hkk,hfk,_⟩:∃k:Nat,∃hk:k < p.gs.length,za6 s.tgt p.gs 0=k∧True:=by
    rcases zh1 s.tgt p.gs 0 with e | ⟨k,hk,e,_⟩
    · omega
    · exact⟨k,hk,by omega,trivial⟩
   have hbk:=(hk _ (We hkk)).ne;have hbl:0 < p.gs[k].blocks.length:=WC.2 hbk;refine⟨⟨?_,?_⟩,?_,fun f hf=>?_,fun f hf=>?_,hb0.mok,hb0.mc,hb0.out,hb0.tk,hb0.st,fun _=>⟨k,0,0,hfk,rfl,rfl,hkk,hbl,(hk _ (We hkk)).start hbl⟩⟩
   · show 12≤((z7 r).vs.take 12).length;rw[WB];have:=hb0.vs;omega
   · show ((z7 r).vs.take 12).length≤65536;rw[WB];omega
   · show ((z7 r).fr++[_]).length≤256;rw[Wq,WG];omega
   ·
    rcases WN.1 hf with hf|hf
    · exact hb0.frv f hf
    · rw[Wy.1 hf];exact hb0.vs
   ·
    rcases WN.1 hf with hf|hf
    · exact hb0.frp f hf
    · rw[Wy.1 hf];exact hpn (by omega)
 rw[if_neg h5]
 by_cases h6:s.op=6
 · rw[if_pos h6];exact hjump _ (by unfold zan;rw[if_pos h6];simp)
 rw[if_neg h6]
 by_cases h7:s.op=7
 ·
  rw[if_pos h7];split
  · exact hjump _ (by unfold zan;rw[if_neg h6,if_pos h7];simp)
  · exact hjump _ (by unfold zan;rw[if_neg h6,if_pos h7];simp)
 rw[if_neg h7]
 by_cases h8:s.op=8
 ·
  rw[if_pos h8];split
  · exact hend _
  ·
   rename_i hlt;refine hjump _ ?_;have:=c3 h8;unfold zan;rw[if_neg h6,if_neg h7,if_pos h8];have hvr:=zkK (m:=r.m) (vs:=r.vs) s.e [] (by simp);generalize (zaf r.m r.vs s.e []).1=vv at hvr hlt ⊢
   have hv0:0≤vv.getD 0 0:=by
    rw[Wf]
    cases hh:vv[0]? with
    | none=>exact Wz 0
    | some z=>exact(hvr z (Wk hh)).1
   have hi:(vv.getD 0 0).toNat < s.cases.length:=by omega
   rw[Wf,Wg hi];exact We hi
 rw[if_neg h8]
 by_cases h9:s.op=9
 ·
  rw[if_pos h9];unfold zrc;split
  · exact hend 0
  ·
   rename_i f hf;have hmf:f∈r.fr:=List.mem_of_getLast? hf
   have hsub:∀f2∈(z7 r).fr.dropLast,f2∈r.fr:=fun f2 h2=>(List.dropLast_sublist _).subset h2
   have hvf:=h.frv f hmf;have hv:=h.vs;refine⟨⟨?_,?_⟩,?_,fun f2 h2=>h.frv f2 (hsub f2 h2),fun f2 h2=>h.frp f2 (hsub f2 h2),h.mok,by show (r.m.c.length:Int)≤4+4 * (r.st+1);omega,h.out,h.tk,by show 0≤r.st+1;omega,fun _=>h.frp f hmf⟩
   · show 12≤(r.vs.take 12++f.vs.drop 12).length;rw[Wq,WB,WX];omega
   · show (r.vs.take 12++f.vs.drop 12).length≤65536;rw[Wq,WB,WX];omega
   · show r.fr.dropLast.length≤256;rw[List.length_dropLast];have:=h.fr;omega
 rw[if_neg h9]
 have h10:s.op=10:=by omega
 rw[if_pos h10];exact hend 0
end
structure PgOk (p:Pg) (inp:List Int):Prop where
 sec:zu Tryz.prog zcL [encL 5 Sct.cells p.secs] (·=.int .i64 0)
 cp:zu Tryz.prog zdJ [encL 5 Sct.cells p.secs] (·=encL 5 Sct.cells p.secs)
 few:∀g∈p.gs,fewB g
 pn:p.gs.length≤1000
 il:inp.length≤4096
 mok:Mem.ok ⟨p.secs,[]⟩
 ok:zcC p=0→∀g∈p.gs,OkG g
 en:zcC p=0→0≤za6 p.entry p.gs 0
def frT (fr:List Fr):AH:=fr.map fun f=>(f.id,.row 1 (f.vs.map cU) 0)
def boxT:AH:=[(4,.row 3 [[.int .i64 0,.nilsl,.int .i64 0]] 0)]
theorem zB7 {ρ:Nat→Nat} {sz g:Nat} {els:List (List AV)} (h:zy els):AObj.ren ρ (.row sz els g)=.row sz els g:=by show AObj.row sz (els.map fun c=>c.map (AV.ren ρ)) g=_;rw[zg0 h]
theorem rnRow2 {p:Pg} {inp:List Int} {r2:Rn} {h2:Hd} {H T2:AH} {s:Nat→Option Nat} {D:Nat→Prop} {c0:List AV} {e3:List (List AV)} {x0 x1 x2 x3:Nat} (s0:s 0=some x0) (s1:s 1=some x1) (s2:s 2=some x2) (s3:s 3=some x3)
  (l0:H.look x0=some (.row 18 [c0] 0)) (l1:H.look x1=some (.row 1 (h2.tr.map cU) h2.gt)) (l2:H.look x2=some (.row 1 (r2.out.map cU) h2.go)) (l3:H.look x3=some (.row 4 e3 h2.gc))
  (v0:VwL H (rnH p inp r2 h2 T2) (sg s) (fun r _=>D r) true c0 (rnC p inp r2 h2)) (v3:RowV H (rnH p inp r2 h2 T2) (sg s) (fun r _=>D r) e3 (r2.fr.map Fr.cells++h2.stale))
  (hT:∀r o,T2.look r=some o→∃x sz els g,s r=some x∧H.look x=some (.row sz els g)∧o=.row sz els g∧zy els) :
  ∀r o2,(rnH p inp r2 h2 T2).look r=some o2→∃x sz els els2 g,s r=some x∧H.look x=some (.row sz els g)∧o2=.row sz els2 g∧RowV H (rnH p inp r2 h2 T2) (sg s) (fun r _=>D r) els els2:=by
 intro r o2 ho
 match r with
 | 0=>cases ho;exact⟨x0,_,_,_,_,s0,l0,rfl,zgm v0 zin⟩
 | 1=>cases ho;exact⟨x1,_,_,_,_,s1,l1,rfl,.of_flat zjj⟩
 | 2=>cases ho;exact⟨x2,_,_,_,_,s2,l2,rfl,.of_flat zjj⟩
 | 3=>cases ho;exact⟨x3,_,_,_,_,s3,l3,rfl,v3⟩
 |
  r+4 =>
  unfold rnH at ho;rw[zcz (by omega)] at ho;obtain⟨x,sz,els,g,h1,h2,h3,h4⟩:=hT _ _ ho;exact⟨x,sz,els,els,g,h1,h2,h3,.of_flat h4⟩
def sg5:Nat→Option Nat
 | 0=>some 2|1=>some 3|2=>some 4|3=>some 5|4=>some 1|_=>none
theorem zBz {x y:Nat} (h:sg5 x=some y):x < 5:=by
 match x with
 | 0|1|2|3|4=>decide
 | x+5=>cases h
theorem zF3 {x y z:Nat} (h:sg5 x=some z) (k:sg5 y=some z):x=y:=by
 have h1:=zBz h;have h2:=zBz k
 match x,y with
 | 0,0|1,1|2,2|3,3|4,4=>rfl
 | 0,1|0,2|0,3|0,4|1,0|1,2|1,3|1,4|2,0|2,1|2,3|2,4|3,0|3,1|3,2|3,4|4,0|4,1|4,2|4,3=>cases h;cases k
 | x+5,_=>omega
 | _,y+5=>omega
theorem zFt (p:Pg) (inp:List Int) (N:Nat) (r:Rn) (s:St):(zhw p inp N r s).st=r.st+1:=by
 unfold zhw;split
 · rfl
 split
 · rfl
 unfold zej zrm zrc
 repeat' split
 all_goals rfl
theorem zs0 {fr:List Fr}:∀ {x:Nat} {o:AObj},(frT fr).look x=some o→∃f∈fr,f.id=x∧o=.row 1 (f.vs.map cU) 0:=by
 induction fr with
 | nil=>intro x o h;cases h
 |
  cons f l ih =>
  intro x o h;unfold frT at h;rw[WO] at h;simp only[AH.look] at h
  cases hb:Nat.beq f.id x with
  | true=>rw[hb] at h;cases h;exact⟨f,by simp,zl hb,rfl⟩
  |
   false =>
   rw[hb] at h;obtain⟨f2,h1,h2⟩:=ih h;exact⟨f2,WY _ h1,h2⟩
theorem zt7 {fr:List Fr}:(fr.map Fr.id).Nodup→∀f∈fr,(frT fr).look f.id=some (.row 1 (f.vs.map cU) 0):=by
 induction fr with
 | nil=>intro _ f hf;cases hf
 |
  cons a l ih =>
  intro hn f hf;rw[WO,List.nodup_cons] at hn;show AH.look ((a.id,_)::frT l) f.id=_;simp only[AH.look]
  rcases List.mem_cons.1 hf with rfl|hf
  · rw[show Nat.beq f.id f.id=true from Nat.beq_refl _];rfl
  · rw[zbJ (show a.id≠f.id from fun e=>hn.1 (by rw[e];exact WU hf))];exact ih hn.2 f hf
theorem zm8 {fr:List Fr} {x:Nat}:AH.look (boxT++frT fr) x=if x=4 then some (.row 3 [[.int .i64 0,.nilsl,.int .i64 0]] 0) else (frT fr).look x:=by
 show AH.look ((4,_)::frT fr) x=_;simp only[AH.look]
 by_cases h:x=4
 · subst h;rfl
 · rw[zbJ (Ne.symm h),if_neg h];rfl
theorem zrH {N:Nat}:∀ {fr:List Fr},(∀f∈fr,f.id < N)→zem N (frT fr)
 | [],_=>trivial
 | f::l,h=>⟨⟨h f (by simp),zbV zjj⟩,zrH fun f2 h2=>h f2 (WY _ h2)⟩
theorem zur {fr:List Fr} (h:∀(i:Nat) (f:Fr),fr[i]? = some f→f.id=5+i):(fr.map Fr.id).Nodup:=by unfold List.Nodup;rw[WZ];intro i j hi hj hij;rw[Wm] at hi hj;rw[WA,WA,h i _ (Wg hi),h j _ (Wg hj)];omega
theorem zGD {fr:List Fr} (h:∀(i:Nat) (f:Fr),fr[i]? = some f→f.id=5+i) (hl:fr.length≤256):TOk 300 (boxT++frT fr)∧FOk (boxT++frT fr) fr:=by
 have hid:∀f∈fr,5≤f.id∧f.id < 300:=fun f hf=>by obtain⟨i,hi⟩:=WH hf;have:=h i f hi;obtain⟨hil,_⟩:=WI.1 hi;omega
 refine⟨⟨by decide,fun x o hx=>?_,⟨⟨by decide,zbV (zx rfl)⟩,zrH fun f hf=>(hid f hf).2⟩,fun x o hx=>?_⟩,⟨fun f hf=>?_,zur h⟩⟩
 ·
  rw[zm8] at hx;split at hx
  · omega
  · obtain⟨f,hf,e,_⟩:=zs0 hx;have:=hid f hf;omega
 ·
  rw[zm8] at hx;split at hx
  · cases hx;exact⟨_,_,_,rfl,zx rfl⟩
  · obtain⟨f,hf,e,e2⟩:=zs0 hx;exact⟨_,_,_,e2,zjj⟩
 · rw[zm8,if_neg (by have:=hid f hf;omega)];exact zt7 (zur h) f hf
theorem Ent.can {p:Pg} {inp:List Int} {n:Int} {R:Rn} {h3:Hd} {T3:AH} {nx:Nat} (hT3:TOk nx T3) (hF3:FOk T3 R.fr) (hst:zy h3.stale) (h4:T3.look 4=some (.row 3 [[.int .i64 0,.nilsl,.int .i64 0]] 0)) (hl:R.fr.length≤256) {K:Kn} (k2:K.get 2=.int .i64 n) (k7:K.get 7=.ptr 4 0 0 0 0) (k8:K.get 8=.ptr 0 0 0 0 0) :
  Ent 0 K (rnH p inp R h3 T3) nx [(2,.int .i64 n),(7,.ptr 4 0 0 0 0),(8,.ptr 0 0 0 0 0)] (rnH p inp (canR R) h3 (boxT++frT (canR R).fr)) 300:=by
 have hne4:∀f∈R.fr,f.id≠4∧4≤f.id:=fun f hf=>by have h1:=hF3.row f hf;refine⟨fun e=>?_,(hT3.num _ _ h1).1⟩;rw[e,h4] at h1;cases h1
 have hcl:(canR R).fr.length=R.fr.length:=WD
 have hcg:∀i:Nat,(canR R).fr[i]? = (R.fr[i]?).map fun f=>{ f with id:=5+i }:=fun i=>WE
 have s5:∀x,5≤x→(fun x=>if x < 5 then some x else (R.fr[x - 5]?).map Fr.id:Nat→Option Nat) x=(R.fr[x - 5]?).map Fr.id:=fun x hx=>if_neg (by omega)
 refine Ent.vs (fun x=>if x < 5 then some x else (R.fr[x - 5]?).map Fr.id) (fun _=>False) (Wr _) (fun r hr=>absurd hr (by omega)) ?_ (fun _ _ _ h=>h) ?_ (zGT (if_pos (by decide)) (if_pos (by decide)) (if_pos (by decide)) (if_pos (by decide)) rfl rfl rfl rfl ?_ ?_ ?_) ⟨?_,?_,?_,trivial⟩
 ·
  intro x1 x2 z h1 h2;split at h1
  ·
   split at h2
   · cases h1;cases h2;rfl
   · cases h1;obtain⟨f,e1,e2⟩:=Wj.1 h2;have:=hne4 f (Wk e1);omega
  ·
   split at h2
   · cases h2;obtain⟨f,e1,e2⟩:=Wj.1 h1;have:=hne4 f (Wk e1);omega
   ·
    obtain⟨f,e1,e2⟩:=Wj.1 h1;obtain⟨f',e1',e2'⟩:=Wj.1 h2;have hd:=hF3.dis;unfold List.Nodup at hd;rw[WZ] at hd;obtain⟨i1,j1⟩:=WI.1 e1;obtain⟨i2,j2⟩:=WI.1 e1'
    have q:∀i j (hi:i < R.fr.length) (hj:j < R.fr.length),i < j→R.fr[i].id≠R.fr[j].id:=fun i j hi hj hij=>by have:=hd i j (by rw[Wm];exact hi) (by rw[Wm];exact hj) hij;rw[WA,WA] at this;exact this
    rcases Nat.lt_trichotomy (x1 - 5) (x2 - 5) with hh|hh|hh
    · exact absurd (by rw[j1,j2,e2,e2']) (q _ _ i1 i2 hh)
    · omega
    · exact absurd (by rw[j1,j2,e2,e2']) (q _ _ i2 i1 hh)
 ·
  intro x z h1;split at h1
  · omega
  · obtain⟨f,e1,e2⟩:=Wj.1 h1;obtain⟨i1,j1⟩:=WI.1 e1;omega
 · unfold rnC;simp only[VwL];rw[hcl];refine⟨zO rfl,zO rfl,.int _ _ _,zO rfl,.bool _ _,zO rfl,zO rfl,zO rfl,.int _ _ _,.int _ _ _,.int _ _ _,.int _ _ _,.own _ _ _ _ _ _ _ _ _ (zcM (if_pos (by decide)) 0) rfl,.own _ _ _ _ _ _ _ _ _ (zcM (if_pos (by decide)) 0) rfl,.int _ _ _,.own _ _ _ _ _ _ _ _ _ (zcM (if_pos (by decide)) 0) rfl,.int _ _ _,.bool _ _,trivial⟩
 ·
  refine zoO (.of_flat hst) hcl.symm fun i f f2 e1 e2=>?_
  rw[hcg,e1] at e2;cases e2;refine⟨zcM ?_ 0,rfl⟩;simp only;rw[if_neg (by omega),W0,e1];rfl
 ·
  intro x o hx;rw[zm8] at hx;split at hx
  · rename_i e;subst e;cases hx;refine⟨4,_,_,_,if_pos (by decide),?_,rfl,zx rfl⟩;unfold rnH;rw[zcz (Wd 4)];exact h4
  ·
   obtain⟨f,hf,e,e2⟩:=zs0 hx;obtain⟨i,hi⟩:=WH hf;rw[hcg] at hi;obtain⟨f0,e3,rfl⟩:=Wj.1 hi;simp only at e e2;have hm:=Wk e3;refine⟨f0.id,1,_,0,?_,?_,e2,zjj⟩
   · rw[←e,if_neg (by omega),W0,e3];rfl
   · unfold rnH;rw[zcz (hne4 f0 hm).2];exact hF3.row f0 hm
 · rw[k2];exact .int _ _ _
 · rw[k7];exact .ptr _ _ _ _ _ _ _ _ _ (zcM (if_pos (by decide)) 0) rfl
 · rw[k8];exact .ptr _ _ _ _ _ _ _ _ _ (zcM (if_pos (by decide)) 0) rfl
theorem zuv (p:Pg) (inp:List Int) (n:Int) (k:PgOk p inp) (hn:0≤n∧n≤60000):zu Tryz.prog zlI [.agg p.cells,encL 1 cU inp,.int .i64 n] (fun v=>∃tr,(zcC p≠0∧v=.tup [tr,.agg [.int .i64 (zcC p),encL 1 cU [],.int .i64 0]]) ∨
  (zcC p=0∧∃r2,RunTo p inp n (zc7 p) r2∧v=.tup [tr,.agg [.int .i64 r2.err,encL 1 cU r2.out,.int .i64 r2.st]])):=by
 refine fn_x zu1 rfl ?_;unfold znW;obtain⟨hsec,hcp,hfew,hpn,hil,hmok,hok,hen⟩:=k;have hB:=hBig;have hbeg:=ztK p inp hsec hcp hfew hpn hil hmok (fun h g hg=>(hok h g hg).ne) hen;unfold Pg.cells at hbeg ⊢
 (refine Qu ?_;intros)
 refine z6 [] 0 _ (hbeg) rfl rfl Qax Qax ?_;rintro v H' nx' (⟨hC,rfl,rfl,rfl⟩ | ⟨hC,rfl,rfl,h2,rfl,hs,ht⟩)
 ·
  (repeat first|simp(disch:=try exact dis1) only[evD,Nat.reduceBEq,Nat.reduceAdd,Nat.reduceLeDiff,fldP,zad,dT,dF,zgN]|with_reducible first|intro _|refine aJ ?_)
  refine⟨.tup [encL 1 cU [],.agg [.int .i64 (zcC p),encL 1 cU [],.int .i64 0]],?_,_,.inl ⟨hC,rfl⟩⟩;refine .tup _ _ _ rfl (zgI (m:=[_,_]) ?_).2;simp only[VwL];refine⟨vw_U (l:=[]) trivial rfl (by decide),.agg _ _ _ rfl (zgI (m:=[_,_,_]) ?_).2,trivial⟩;simp only[VwL];exact⟨.int _ _ _,.nil0 _ _ _,.int _ _ _,trivial⟩
 ·
  unfold rnH rnC
  (refine Qm ?_;intros)
  have hk1:∀(r:Rn) (h:Hd) (T:AH),RunTo p inp n (zc7 p) r→T.look 4=some (.row 3 [[.int .i64 0,.nilsl,.int .i64 0]] 0)→h.tr.length≤100000→r.out.length≤5000→wpX Tryz.prog 0 zf6 (retK zgN fun v H' _=>∃a,Frz H' v a∧∃tr,(zcC p≠0∧a=.tup [tr,.agg [.int .i64 (zcC p),encL 1 cU [],.int .i64 0]]) ∨
    (zcC p=0∧∃r2,RunTo p inp n (zc7 p) r2∧a=.tup [tr,.agg [.int .i64 r2.err,encL 1 cU r2.out,.int .i64 r2.st]])) [(7,.ptr 4 0 0 0 0),(8,.ptr 0 0 0 0 0)] (rnH p inp r h T) 300:=by
   intro r h T hrun hb4 htl hol;unfold zf6 rnH rnC
   (repeat first|simp(disch:=try exact dis1) only[evD,Nat.reduceBEq,Nat.reduceAdd,Nat.reduceLeDiff,fldP,zad,dT,dF,hb4,Wc,AObj.part,AObj.upd,zE,zgN]|with_reducible first|intro _|refine aJ ?_)
   refine⟨rfl,.tup [encL 1 cU h.tr,.agg [.int .i64 r.err,encL 1 cU r.out,.int .i64 r.st]],?_,_,.inr ⟨hC,r,hrun,rfl⟩⟩;refine .tup _ _ _ rfl (zgI (m:=[_,_]) ?_).2;simp only[VwL];refine⟨vw_U trivial rfl (by omega),.agg _ _ _ rfl (zgI (l:=[.int .i64 r.err,.own 2 0 h.go 0 r.out.length,.int .i64 r.st]) (m:=[_,_,_]) ?_).2,trivial⟩;simp only[VwL];exact⟨.int _ _ _,vw_U trivial rfl (by omega),.int _ _ _,trivial⟩
  have hC':=hok hC;have hst0:(zc7 p).fr=[]:=rfl;refine zk (fun x:Rn × Hd=>([(2,.int .i64 n),(7,.ptr 4 0 0 0 0),(8,.ptr 0 0 0 0 0)],rnH p inp x.1 x.2 (boxT++frT x.1.fr))) 300 (fun x=>RInv p inp x.1∧zy x.2.stale∧(x.2.tr.length:Int)≤x.1.st+1∧x.1.st≤n∧∀r2,RunTo p inp n x.1 r2→RunTo p inp n (zc7 p) r2) (fun x=>(n - x.1.st).toNat) (zc7 p,h2) ⟨?_,by rw[hs];exact zaj,by rw[ht];exact Wz _,hn.1,fun _ h=>h⟩ ?_ ?_
  ·
   obtain⟨k,hk,hfk,_⟩:∃k:Nat,∃hk:k < p.gs.length,za6 p.entry p.gs 0=k∧True:=by
    have h0:=hen hC
    rcases zh1 p.entry p.gs 0 with e | ⟨k,hk,e,_⟩
    · omega
    · exact⟨k,hk,by omega,trivial⟩
   have hgk:=hC' _ (We hk);have hbl:0 < p.gs[k].blocks.length:=WC.2 hgk.ne;have hsp:=zvF (m:=⟨p.secs,[]⟩) (a:=983036) (w:=4) (n:=4294967295) (b:=0) hmok (Wd 0) (by decide);refine⟨⟨(by show 12≤zmI.length;decide),(by show zmI.length≤65536;decide)⟩,Wr _,fun f hf=>(by cases hf),fun f hf=>(by cases hf),hsp.1,?_,Wr _,⟨Wz 0,by show (0:Int)≤_;omega⟩,Wz 0,fun _=>⟨k,0,0,hfk,rfl,rfl,hk,hbl,hgk.start hbl⟩,fun i f hi=>by simp[hst0] at hi⟩;have:=hsp.2;show ((zfl ⟨p.secs,[]⟩ 983036 4 4294967295).1.c.length:Int)≤4+4 * 0;omega
  ·
   have hout0:(zc7 p).out=[]:=rfl;rw[zB7 zjj,zB7 zjj,hst0,hs];refine Ent.vs sg5 (fun _=>False) (Wr _) (fun r hr=>absurd hr (by omega)) (fun _ _ _=>zF3) (fun _ _ _ h=>h) (fun _ _ h=>by have:=zBz h;omega) (rnRow2 (x0:=2) (x1:=3) (x2:=4) (x3:=5) rfl rfl rfl rfl rfl rfl rfl rfl ?_ ?_ ?_) ⟨.int _ _ _,.ptr _ _ _ _ _ _ _ _ _ rfl rfl,.ptr _ _ _ _ _ _ _ _ _ rfl rfl,trivial⟩
   · unfold rnC;simp only[VwL];refine⟨zO rfl,zO rfl,.int _ _ _,zO rfl,.bool _ _,zO rfl,zO rfl,zO rfl,.int _ _ _,.int _ _ _,.int _ _ _,.int _ _ _,.own _ _ _ _ _ _ _ _ _ rfl rfl,.own _ _ _ _ _ _ _ _ _ rfl rfl,.int _ _ _,.own _ _ _ _ _ _ _ _ _ rfl rfl,.int _ _ _,.bool _ _,trivial⟩
   · show RowV _ _ _ _ [] ((zc7 p).fr.map Fr.cells++h2.stale);rw[hst0,hs];exact zin
   ·
    intro x o hx;rw[zm8] at hx;split at hx
    · rename_i e;subst e;cases hx;exact⟨1,_,_,_,rfl,rfl,rfl,zx rfl⟩
    · cases hx
  rintro⟨r,h⟩ ⟨hinv,hfl,htl,hstn,hrun⟩ wf;simp only at hinv hfl htl hstn hrun;have hbt:=zGD hinv.ids hinv.fr;have hb4:AH.look (boxT++frT r.fr) 4=some (.row 3 [[.int .i64 0,.nilsl,.int .i64 0]] 0):=rfl;have hst:=hinv.st;have hol:=hinv.out;unfold zkq;simp only[rnH,rnC]
  cases hov:r.ov with
  |
   true =>
   (refine Qm ?_;intros)
   have hh:=hk1 r h (boxT++frT r.fr) (hrun _ (.done hov)) hb4 (by omega) (by omega);unfold rnH rnC at hh;rw[hov] at hh;exact hh
  |
   false =>
   by_cases hlt:r.st < n
   ·
    obtain⟨g,b,a,q1,q2,q3,hg,hb,ha⟩:=hinv.pos hov;have hgo:=hC' _ (We hg)
    have hal:a≤1000000:=by have h1:=zkF (We hb);have h2:=hgo.cnt;omega
    have hmc:=hinv.mc;have htk:=hinv.tk;have hstep:=zwX (p:=p) (inp:=inp) (r:=r) (h:=h) (T:=boxT++frT r.fr) (N:=300) (g:=g) (b:=b) (a:=a) ⟨hbt.1,hbt.2,hfl,⟨hinv.vs.1,by have:=hinv.vs.2;omega⟩,by have:=hinv.fr;omega,fun f hf=>⟨(hinv.frv f hf).1,by have:=(hinv.frv f hf).2;omega⟩,hpn,fun g hg=>(hC' g hg).ne,by omega,hinv.mok,by omega,by omega,by omega,⟨htk.1,by omega⟩,⟨hst,by omega⟩,hg,q1,hb,q2,ha,q3,hal,hgo.chk _ (We hb) _ (We ha),hgo.tg hb ha⟩;unfold rnH rnC at hstep;rw[hov] at hstep
    (refine Qm ?_;intros)
    refine zZ hstep ?_;rintro v H nx ⟨rfl,hnx,h3,T3,rfl,hT3,hF3,hst3,htr3,hkeep⟩
    (refine Qa ?_;intros)
    have hnst:(znj p inp 301 r).st=r.st+1:=zFt _ _ _ _ _;have hne:=hinv.next hC' hov (by omega);refine⟨(zu0 p inp r,h3),⟨hne,hst3,?_,?_,fun r2 h2=>hrun _ (.step hov hlt h2)⟩,?_,Ent.can hT3 hF3 hst3 ?_ ?_ rfl rfl rfl⟩
    · show (h3.tr.length:Int)≤(znj p inp 301 r).st+1;rw[hnst];omega
    · show (znj p inp 301 r).st≤n;rw[hnst];omega
    · show (n - (znj p inp 301 r).st).toNat < (n - r.st).toNat;rw[hnst];omega
    ·
     rw[hkeep 4 (by decide) (fun f hf=>by
      obtain⟨i,hi⟩:=WH hf;have:=hinv.ids i f hi
      omega)]
     exact hb4
    · have:=hne.fr;have e:(zu0 p inp r).fr.length=(znj p inp 301 r).fr.length:=WD;show (znj p inp 301 r).fr.length≤256;omega
   ·
    have hend:=zcV p inp r h (boxT++frT r.fr) 300 15;unfold rnH rnC at hend;rw[hov] at hend
    (refine Qm ?_;intros)
    refine zZ hend ?_;rintro v H nx ⟨rfl,rfl,rfl⟩
    (refine Qa ?_;intros)
    have hh:=hk1 (endR r 15) h (boxT++frT r.fr) (hrun _ (.out hov (by omega))) hb4 (by omega) (by show r.out.length≤5000;omega);unfold rnH rnC endR at hh;exact hh
theorem Vw.up {H H2:AH} {σ:Nat→Nat→Option (Nat × Nat × Nat)} {D:Nat→Nat→Prop} {t:Bool} {a b:AV} (h:Vw H H2 σ D t a b):Vw H H2 σ D true a b:=by
 induction h with
 | undef=>exact .undef _ _
 | int=>exact .int _ _ _
 | bool=>exact .bool _ _
 | str=>exact .str _ _
 | nilp=>exact .nilp _
 | nilfn=>exact .nilfn _
 | cut=>exact .cut _
 | nilsl=>exact .nilsl _
 | iptr=>exact .iptr _ _ _
 | sl=>exact .sl _ _ _ _
 | nil0=>exact .nil0 _ _ _
 | slf _ _ _ _ _ h _=>exact .slf _ _ _ _ _ h
 | iptrf _ _ _ _ h _=>exact .iptrf _ _ _ _ h
 | mp _ _ _ _ hs=>exact .mp _ _ _ _ hs
 | nilmp=>exact .nilmp _
 | it _ _ hs=>exact .it _ _ hs
 | own _ _ _ _ _ _ _ _ _ hs hg=>exact .own _ _ _ _ _ _ _ _ _ hs hg
 | ptr _ _ _ _ _ _ _ _ _ hs hg=>exact .ptr _ _ _ _ _ _ _ _ _ hs hg
 | new _ _ _ hs hg=>exact .new _ _ _ hs hg
 | frz _ _ _ _ _ _ _ _ _ hD hg hb hl h _=>exact .frz _ _ _ _ _ _ _ _ _ hD hg hb hl h
 | frzp _ _ _ _ _ _ _ _ _ _ hD hg hi hl h _=>exact .frzp _ _ _ _ _ _ _ _ _ _ hD hg hi hl h
 | fn _ _ _ _ hl _ ih=>exact .fn _ _ _ _ hl ih
 | agg _ _ _ hl _ ih=>exact .agg _ _ _ hl ih
 | tup _ _ _ hl _ ih=>exact .tup _ _ _ hl ih
theorem zu.ent {P:Program} {f:FuncId} {args:List AV} {Q:AV→Prop} (h:zu P f args Q):zab P f args [] 0 (fun v H nx=>Q v∧H=[]∧nx=0):=by
 refine zbc (zab.mono h fun v H nx hv=>?_);obtain⟨a,h1,h2⟩:=hv
 have hv0:View 0 H [] 0 nos allR:=by
  constructor
  · exact Wd _
  · intro r q h;omega
  · intro r1 q1 r2 q2 r q d1 d2 h;cases h
  · intro r1 q1 r q d h;cases h
  · intro r q x h;cases h
  · intro r o h;cases h
  · intro r q sz els g h;cases h
 exact⟨a,[],0,Ent.view nos allR hv0 (zh5 (K2:=[(0,a)]) ⟨h1.up,trivial⟩),h2,rfl,rfl⟩
def resV (e:Int) (out:List Int) (st:Int):AV:=.agg [.int .i64 e,encL 1 cU out,.int .i64 st]
def RunQ (p:Pg) (inp:List Int) (n e:Int) (out:List Int):Prop:=(zcC p≠0∧e=zcC p∧out=[])∨(zcC p=0∧∃r2,RunTo p inp n (zc7 p) r2∧e=r2.err∧out=r2.out)
theorem Qas {p q:Prop}(k:q)(h:Im q p:=by(repeat first|simp(disch:=try exact dis1) only[evD,Nat.reduceBEq,Nat.reduceAdd,Nat.reduceLeDiff,fldP,zad,dT,dF,znD] | ((with_reducible apply Im.i);intro _) | ((with_reducible apply Im.a);omega));exact Im.r):p:=h k
theorem zr5 (p:Pg) (inp:List Int) (n:Int) (k:PgOk p inp) (hn:0≤n∧n≤60000):zu Tryz.prog zm7 [.agg p.cells,encL 1 cU inp,.int .i64 n] (fun v=>∃e out st,RunQ p inp n e out∧v=resV e out st):=by
 refine fn_x zyV rfl ?_;unfold zrr;have hB:=hBig;have htr:=(zuv p inp n k hn).ent;unfold Pg.cells at htr ⊢
 (refine Qu ?_;intros)
 refine z6 [] 0 _ (htr) rfl rfl Qax Qax ?_;rintro v H' nx' ⟨⟨tr,hq⟩,rfl,rfl⟩
 rcases hq with ⟨hC,rfl⟩ | ⟨hC,r2,hrun,rfl⟩
 ·
  (refine Qas ?_;intros)
  exact⟨_,zaq rfl,_,_,_,.inl ⟨hC,rfl,rfl⟩,rfl⟩
 ·
  (refine Qas ?_;intros)
  exact⟨_,zaq rfl,_,_,_,.inr ⟨hC,r2,hrun,rfl,rfl⟩,rfl⟩
end Go.Ab
