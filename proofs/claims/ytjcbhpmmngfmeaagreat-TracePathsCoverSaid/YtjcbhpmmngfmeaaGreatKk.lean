/-
  Part 11 of the proof: how the calls of this program run, over values instead of memory, and what each function computes.
-/
import Derived.Test.YtjcbhpmmngfmeaaGreatKj
set_option maxRecDepth 100000
set_option linter.unusedVariables false
set_option linter.unusedSimpArgs false
set_option linter.unnecessarySimpa false
set_option linter.unusedSectionVars false
open List renaming mem_append→Wa,eq_nil_of_length_eq_zero→Wc,getElem_mem→We,getD_eq_getElem?_getD→Wf,map_map→Wg,length_nil→Wh,drop_of_length_le→Wi,mem_cons→Wj,length_eq_one_iff→Wk,mem_reverse→Wl,getElem?_eq_getElem→Wm,drop_eq_getElem_cons→Wn,mem_singleton→Wo,findIdx?_eq_some_iff_getElem→Wp,findIdx?_eq_none_iff→Wq,mem_iff_getElem→Wr,append_assoc→Ws,nodup_append→Wt,getElem?_map→Wu,map_congr_left→Wv,ext_getElem?→Ww
open Nat renaming zero_le→Wd
namespace Go.Ab
open Go.RowKit Go.Proofs
theorem Qy {p q:Prop}(k:q)(h:Im q p:=by(repeat first|simp(disch:=try exact dis1) only[evD,Nat.reduceBEq,Nat.reduceAdd,Nat.reduceLeDiff,zcC] | ((with_reducible apply Im.i);intro _) | ((with_reducible apply Im.a);omega));exact Im.r):p:=h k
theorem zp6 (g:G) (hf:manyB g) (hc:∀b∈g.blocks,∀s∈b.stmts,s.cases.length≤100000000):zk Tryz.prog zkI [.agg g.cells] (·=.bool (!g.blocks.isEmpty&&g.blocks.all fun b=>zdx b.stmts g.blocks.length)):=by
 refine fn_x zrK rfl ?_;unfold zmQ;have hB:=hBig;obtain⟨hb,hs⟩:=hf;obtain⟨ad,l⟩:=g;simp only at hb hs hc;simp only[G.cells]
 by_cases h0:l.length=0
 ·
  obtain rfl:l=[]:=Wc h0
  (repeat first|simp(disch:=try exact dis1) only[evD,Nat.reduceBEq,Nat.reduceAdd,Nat.reduceLeDiff,fldP,dT,Wh,zcC]|with_reducible first|intro _|refine aJ ?_)
  exact⟨_,.bool _ _,rfl⟩
 have he:l.isEmpty=false:=by cases l with|nil=>simp at h0|cons a l=>rfl
 rw[he];generalize hR:(l.all fun b=>zdx b.stmts l.length)=R
 (refine Qi ?_;intros)
 refine zm (fun i:Nat=>([(1,encP 2 [.int .u32 ad,encL 2 Bl.cells l]),(11,encL 2 Bl.cells l),(12,.int .i64 l.length),(13,.int .i64 i)],[])) 0 (fun i=>i≤l.length∧((l.drop i).all fun b=>zdx b.stmts l.length)=R) (fun i=>l.length - i) 0 ⟨Wd _,hR⟩ (Ent.keep rfl fin5) ?_;rintro i ⟨hi,hgo⟩ wf;unfold zjn
 by_cases hl:i < l.length
 ·
  have hg:(l.map Bl.cells).getD i []=[.int .u32 l[i].addr,encL 8 St.cells l[i].stmts]:=zo hl;have hss:=zm5 l[i] (hc _ (We hl));rw[Wn hl,List.all_cons] at hgo;simp only[Bl.cells] at hss;generalize l[i].stmts=m at hg hgo hss;generalize l[i].addr=ad' at hg hss
  by_cases hm0:m.length=0
  ·
   obtain rfl:m=[]:=Wc hm0
   replace hgo:R=false:=by rw[←hgo];rfl
   subst hgo
   (repeat first|simp(disch:=try exact dis1) only[evD,Nat.reduceBEq,Nat.reduceAdd,Nat.reduceLeDiff,fldP,dT,hg,Wh,zcC]|with_reducible first|intro _|refine aJ ?_)
   exact⟨_,.bool _ _,rfl⟩
  have hlast:m.length - 1 < m.length:=by omega
  have hidx:(((m.length:Nat):Int) - 1).toNat=m.length - 1:=by omega
  have hme:m.isEmpty=false:=by cases m with|nil=>simp at hm0|cons a l=>rfl
  unfold zdx at hgo;rw[hme,zmN m hlast] at hgo
  (repeat first|simp(disch:=try exact dis1) only[evD,Nat.reduceBEq,Nat.reduceAdd,Nat.reduceLeDiff,fldP,dT,dF,hg,hidx,zo hlast,St.len,St.eight]|with_reducible first|intro _|refine aJ ?_)
  refine zc (zg (ziI m[m.length - 1]) rfl) ?_;generalize zlQ m[m.length - 1]=q at hgo
  cases q with
  |
   false =>
   replace hgo:R=false:=by rw[←hgo];rfl
   subst hgo
   (refine Qy ?_;intros)
   exact⟨_,.bool _ _,rfl⟩
  |
   true =>
   (repeat first|simp(disch:=try exact dis1) only[evD,Nat.reduceBEq,Nat.reduceAdd,Nat.reduceLeDiff,fldP,zyd,hidx]|with_reducible first|intro _|refine aJ ?_)
   refine zc (zM (D:=noR) (zib (m.take (m.length - 1)) _ _ (zpE _)) (.cons (zzy (by omega) (by omega) rfl (fun _=>rfl)) (.cons (zuP (zpE (m.take (m.length - 1)))) .nil)) (.inl rfl)) ?_;generalize (m.take (m.length - 1)).any zlQ=q at hgo
   cases q with
   |
    true =>
    replace hgo:R=false:=by rw[←hgo];rfl
    subst hgo
    (refine Qy ?_;intros)
    exact⟨_,.bool _ _,rfl⟩
   |
    false =>
    (refine Ql ?_;intros)
    refine zc (zg hss rfl) ?_
    (refine Ql ?_;intros)
    refine zc (zM (D:=noR) (zic (zy m) _ _ (zmM ad l _)) (.cons (zao rfl) (.cons (zvb (zmM ad l (zy m))) .nil)) (.inl rfl)) ?_;rw[List.all_eq_not_any_not] at hgo;generalize ((zy m).any fun t => !inN l.length t)=q at hgo
    cases q with
    |
     true =>
     replace hgo:R=false:=by rw[←hgo];rfl
     subst hgo
     (refine Qy ?_;intros)
     exact⟨_,.bool _ _,rfl⟩
    |
     false =>
     replace hgo:((l.drop (i+1)).all fun b=>zdx b.stmts l.length)=R:=by rw[←hgo];rfl
     (refine Qa ?_;intros)
     exact⟨i+1,⟨by omega,hgo⟩,by omega,(Ent.tab [] [] rfl Qan Qan)⟩
 ·
  rw[Wi (by omega)] at hgo
  replace hgo:R=true:=by rw[←hgo];rfl
  subst hgo
  (refine Qi ?_;intros)
  unfold zi8
  (refine Qy ?_;intros)
  exact⟨_,.bool _ _,rfl⟩
theorem Qaa {p q:Prop}(k:q)(h:Im q p:=by(repeat first|simp(disch:=try exact dis1) only[evD,Nat.reduceBEq,Nat.reduceAdd,Nat.reduceLeDiff,zbF] | ((with_reducible apply Im.i);intro _) | ((with_reducible apply Im.a);omega));exact Im.r):p:=h k
theorem zhI (g:G) (hf:manyB g) (hc:∀b∈g.blocks,∀s∈b.stmts,s.cases.length≤100000000):zk Tryz.prog zdW [.agg g.cells] (·=.int .i64 (zbi g)):=by
 refine fn_x zmV rfl ?_;unfold ziN;have hB:=hBig;have hsh:=zp6 g hf hc;obtain⟨hb,hs⟩:=hf;obtain⟨ad,l⟩:=g;simp only at hb hs hsh;simp only[G.cells,zbi,zmv] at hsh ⊢
 (refine Ql ?_;intros)
 refine zm (fun s:Nat × Nat=>([(1,encP 2 [.int .u32 ad,encL 2 Bl.cells l]),(3,.int .i64 s.2),(12,encL 2 Bl.cells l),(13,.int .i64 l.length),(14,.int .i64 s.1)],[])) 0 (fun s=>s.1≤l.length∧s.2=cntB (l.take s.1)∧s.2≤1000000 * s.1) (fun s=>l.length - s.1) (0,0) ⟨Wd _,rfl,Nat.le_refl _⟩ (Ent.keep rfl fin5) ?_;rintro⟨i,n⟩ ⟨hi,hn0,hn⟩ wf;simp only at hi hn0 hn;unfold zgF
 by_cases hl:i < l.length
 ·
  have hg:(l.map Bl.cells).getD i []=[.int .u32 l[i].addr,encL 8 St.cells l[i].stmts]:=zo hl;have hsl:=hs l[i] (We hl)
  (repeat first|simp(disch:=try exact dis1) only[evD,Nat.reduceBEq,Nat.reduceAdd,Nat.reduceLeDiff,fldP,dT,hg]|with_reducible first|intro _|refine aJ ?_)
  exact⟨(i+1,n+l[i].stmts.length),⟨by simp only;omega,by simp only;rw[zrz hl];omega,by simp only;omega⟩,by simp only;omega,(Ent.tab [] [] rfl Qan Qan)⟩
 obtain rfl:i=l.length:=by omega
 rw[List.take_length] at hn0
 (refine Qi ?_;intros)
 unfold zgv
 by_cases h256:256 < l.length
 ·
  rw[if_pos (.inl h256)]
  (repeat first|simp(disch:=try exact dis1) only[evD,Nat.reduceBEq,Nat.reduceAdd,Nat.reduceLeDiff,fldP,dT,zbF]|with_reducible first|intro _|refine aJ ?_)
  exact⟨_,.int _ _ _,rfl⟩
 by_cases h1024:1024 < cntB l
 ·
  rw[if_pos (.inr h1024)]
  (repeat first|simp(disch:=try exact dis1) only[evD,Nat.reduceBEq,Nat.reduceAdd,Nat.reduceLeDiff,fldP,dT,dF,zbF]|with_reducible first|intro _|refine aJ ?_)
  exact⟨_,.int _ _ _,rfl⟩
 rw[if_neg (by omega)]
 (repeat first|simp(disch:=try exact dis1) only[evD,Nat.reduceBEq,Nat.reduceAdd,Nat.reduceLeDiff,fldP,dF,zk6,tab,List.getD_cons_zero,List.getD_cons_succ]|with_reducible first|intro _|refine aJ ?_)
 refine zc (zg hsh rfl) ?_;generalize (!l.isEmpty&&l.all fun b=>zdx b.stmts l.length)=q
 cases q with
 |
  false =>
  (refine Qaa ?_;intros)
  exact⟨_,.int _ _ _,rfl⟩
 | true =>
 rw[if_pos rfl]
 (refine Ql ?_;intros)
 refine zm (fun i:Nat=>([(36,encL 2 Bl.cells l),(37,.int .i64 l.length),(38,.int .i64 i)],[])) 0 (fun i=>i≤l.length∧zjl (l.drop i)=zjl l) (fun i=>l.length - i) 0 ⟨Wd _,rfl⟩ (Ent.keep rfl fin5) ?_;rintro i ⟨hi,hgo⟩ wf;unfold zgn
 by_cases hl:i < l.length
 ·
  have hg:(l.map Bl.cells).getD i []=[.int .u32 l[i].addr,encL 8 St.cells l[i].stmts]:=zo hl;have hsl:=hs l[i] (We hl);rw[zor hl] at hgo
  (repeat first|simp(disch:=try exact dis1) only[evD,Nat.reduceBEq,Nat.reduceAdd,Nat.reduceLeDiff,fldP,dT,hg]|with_reducible first|intro _|refine aJ ?_)
  generalize l[i].stmts=m at hg hgo hsl;generalize l[i].addr=ad' at hg;refine zm (fun j:Nat=>([(36,encL 2 Bl.cells l),(37,.int .i64 l.length),(38,.int .i64 i),(43,encL 8 St.cells m),(44,.int .i64 m.length),(45,.int .i64 j)],[])) 0 (fun j=>j≤m.length∧zgZ (m.drop j)=zgZ m) (fun j=>m.length - j) 0 ⟨Wd _,rfl⟩ (Ent.tab [] [] rfl Qan Qan) ?_;rintro j ⟨hj,hgo2⟩ wf2;unfold zgM
  by_cases hm:j < m.length
  ·
   rw[zoU hm] at hgo2
   (repeat first|simp(disch:=try exact dis1) only[evD,Nat.reduceBEq,Nat.reduceAdd,Nat.reduceLeDiff,fldP,dT,zo hm,St.len,St.eight,St.flat]|with_reducible first|intro _|refine aJ ?_)
   refine zc (zg (znx m[j]) rfl) ?_
   by_cases hx:m[j].check=0
   ·
    rw[if_neg (by omega)] at hgo2
    (refine Qk ?_;intros)
    exact⟨j+1,⟨by omega,hgo2⟩,by omega,(Ent.tab [] [] rfl Qan Qan)⟩
   ·
    rw[if_pos hx] at hgo2;rw[←hgo2,if_pos hx] at hgo;rw[←hgo]
    (repeat first|simp(disch:=try exact dis1) only[evD,Nat.reduceBEq,Nat.reduceAdd,Nat.reduceLeDiff,dT,zbF]|with_reducible first|intro _|refine aJ ?_)
    exact⟨_,.int _ _ _,rfl⟩
  ·
   rw[Wi (by omega),zgZ] at hgo2;rw[←hgo2,if_neg (by omega)] at hgo
   (refine Qi ?_;intros)
   unfold zgH
   (refine Qa ?_;intros)
   exact⟨i+1,⟨by omega,hgo⟩,by omega,Ent.keep rfl fin5⟩
 rw[Wi (by omega),zjl] at hgo;rw[←hgo]
 (refine Qi ?_;intros)
 unfold zgm
 (refine Qaa ?_;intros)
 exact⟨_,.int _ _ _,rfl⟩
def valW (s:Nat × Option Nat × Nat):Int:=((s.2.1.getD 0:Nat):Int)
def zgV (g:G) (cs:List Int) (most:Int):List Int:=itv (zos g cs) valW most.toNat (most.toNat,some 0,0)
theorem zuD {g:G} {cs:List Int}:∀ {k:Nat} {s0 s:Nat × Option Nat × Nat},itn (zos g cs) k s0=some s→s.1=s0.1 - k
 | 0,s0,s,h=>by cases h;rfl
 |
  k+1,(f,some b,j),s,h=>by
  simp only[itn,zos] at h;have:=zuD h;simp only at this ⊢;omega
 | k+1,(f,none,j),s,h=>by simp[itn,zos] at h
theorem zkt (g:G) (cs:List Int) (most:Int) (hf:manyB g) (hc:∀b∈g.blocks,∀s∈b.stmts,s.cases.length≤100000000) (hcs:cs.length≤1000000) (hm:most≤1000000∨65536 < most) (hw:∀c∈cs,0≤c∧c < 4294967296) (hG:zbi g=0→OkG g) :
  zk Tryz.prog zba [.agg g.cells,encL 1 cW cs,.int .i64 most] (·=if zbi g≠0 then .tup [za [],.int .i64 (zbi g)] else if 65536 < most then .tup [za [],.int .i64 6] else .tup [za (zgV g cs most),.int .i64 0]):=by
 refine fn_x zo6 rfl ?_;unfold zj7;have hB:=hBig;have hck:=zhI g hf hc
 have hwk:=fun h1 h2=>zqw (.int .u32 g.addr) (encL 2 Bl.cells g.blocks) cs h1 h2
 have hit:=fun h n hn=>zoT g cs (hG h) hcs hw n hn
 generalize hE:zbi g=e at hck hit ⊢;simp only[G.cells] at hck hit ⊢
 (refine Ql ?_;intros)
 refine zc (zg hck rfl) ?_
 by_cases h0:e=0
 ·
  subst h0;have hOK:=hG hE
  by_cases h1:65536 < most
  ·
   (repeat first|simp(disch:=try exact dis1) only[evD,Nat.reduceBEq,Nat.reduceAdd,Nat.reduceLeDiff,dT,dF,zeR]|with_reducible first|intro _|refine aJ ?_)
   refine⟨.tup [za [],.int .i64 6],.tup _ _ _ rfl (fun j x y h1 h2=>match j with
    | 0=>by cases h1;cases h2;exact zaV (l:=[]) trivial rfl (by simp only[Wh];omega)
    | 1=>by cases h1;cases h2;exact .int _ _ _
    | j+2=>by cases h1),?_⟩
   rw[if_neg (by simp),if_pos h1]
  ·
   (refine Qk ?_;intros)
   refine zwz (hwk rfl rfl) (zoP rfl) ?_;rintro v H' nx' ⟨rfl,rfl,rfl⟩;simp only[AV.ren,List.map_cons,List.map_nil,AH.plus,Nat.add_zero]
   (refine Qa ?_;intros)
   have hlend:∀H:AH,Lend H noR [AV.fn (.func zbt) [.iptr 1 fun j=>[encL 1 cW cs].getD j .undef,.iptr 2 fun j=>[.int .u32 g.addr,encL 2 Bl.cells g.blocks].getD j .undef],.int .i64 most] [AV.fn (.func zbt) [.iptr 1 fun j=>[encL 1 cW cs].getD j .undef,.iptr 2 fun j=>[.int .u32 g.addr,encL 2 Bl.cells g.blocks].getD j .undef],.int .i64 most]:=fun H=>by
    refine .cons (.fn _ _ _ _ rfl fun i a b h1 h2=>?_) (.cons (.int _ _ _) .nil);rw[h1] at h2;cases h2
    match i with
    | 0=>cases h1;exact .iptr _ _ _
    | 1=>cases h1;exact .iptr _ _ _
    | i+2=>simp at h1
   have hcaps:∀c∈[AV.iptr 1 fun j=>[encL 1 cW cs].getD j .undef,.iptr 2 fun j=>[AV.int .u32 g.addr,encL 2 Bl.cells g.blocks].getD j .undef],AV.Below 0 c:=fun c hc=>by
    rcases Wj.1 hc with h|hc
    · rw[h];exact .iptr _ _
    · rw[Wo.1 hc];exact .iptr _ _
   have hgood:zcW Tryz.prog zbt=true:=by kernel_rfl
   have hval:∀s x s',zos g cs s=some (x,s')→x=[.int .i64 (valW s)]:=by
    rintro⟨k,b,j⟩ x s' h
    cases b with
    | none=>simp[zos] at h
    | some b=>simp only[zos,Option.some.injEq,Prod.mk.injEq] at h;rw[←h.1];rfl
   have hfirst:zk Tryz.prog zcQ [AV.fn (.func zbt) [.iptr 1 fun j=>[encL 1 cW cs].getD j .undef,.iptr 2 fun j=>[.int .u32 g.addr,encL 2 Bl.cells g.blocks].getD j .undef],.int .i64 most] (·=za (zgV g cs most)):=by
    by_cases hp:0 < most.toNat
    · exact zkw hgood hcaps (hit rfl _ hp) valW hval most (by omega) fun k s hk hs=>by have e:=zuD hs;exact .inr (by rw[e];simp only;omega)
    ·
     have e0:most.toNat=0:=by omega
     have:=zkw hgood hcaps (hit rfl 1 (by omega)) valW hval most (by omega) fun k s hk hs=>by omega
     unfold zgV;rw[e0] at this ⊢;exact this
   refine zc (zM hfirst (hlend _) (.inr fun _ _ h=>h)) ?_
   (repeat first|simp(disch:=try exact dis1) only[evD,Nat.reduceBEq,Nat.reduceAdd,Nat.reduceLeDiff,zeR]|with_reducible first|intro _|refine aJ ?_)
   refine⟨.tup [za (zgV g cs most),.int .i64 0],.tup _ _ _ rfl (fun j x y h1 h2=>match j with
    | 0=>by cases h1;cases h2;exact .sl _ _ _ _
    | 1=>by cases h1;cases h2;exact .int _ _ _
    | j+2=>by cases h1),?_⟩
   rw[if_neg (by simp),if_neg h1]
 ·
  (repeat first|simp(disch:=try exact dis1) only[evD,Nat.reduceBEq,Nat.reduceAdd,Nat.reduceLeDiff,dT,zeR]|with_reducible first|intro _|refine aJ ?_)
  refine⟨.tup [za [],.int .i64 e],.tup _ _ _ rfl (fun j x y h1 h2=>match j with
   | 0=>by cases h1;cases h2;exact zaV (l:=[]) trivial rfl (by simp only[Wh];omega)
   | 1=>by cases h1;cases h2;exact .int _ _ _
   | j+2=>by cases h1),?_⟩
  rw[if_pos h0]
mutual
def zkv:Nd→Bool→Bool
 | .mk f _ l,b=>if (f.kind=7∨f.kind=8)∧b=false then true else zdP l (b||zhq f.kind)
def zdP:List Nd→Bool→Bool
 | [],_=>false
 | x::l,b=>zkv x b||zdP l b
end
theorem zol:∀(l:List Nd) (b:Bool),zdP l b=l.any (zkv · b)
 | [],b=>by rw[zdP];rfl
 | x::l,b=>by rw[zdP,zol l b];rfl
theorem flNB {b:Bool} {e:Nd}:([AV.agg (encN e),.bool b]).all AV.flat=true:=flN (r:=[.bool b]) rfl
structure PredN (fv:AV) (l:List Nd) (p:Nd→Bool):Prop where
 ex:∃f caps,fv=.fn (.func f) caps∧zcW Tryz.prog f=true∧zt caps=true∧∀s∈l,zk Tryz.prog f ([.agg (encN s)]++caps) (·=.bool (p s))
theorem ztx {fv:AV} {l:List Nd} {p:Nd→Bool} (hp:PredN fv l p) {s:Nd} (hs:s∈l) {H:AH} {nx:Nat} {k:AV→AH→Nat→Prop} (hk:k (.bool (p s)) H nx):zko Tryz.prog fv [.agg (encN s)] H nx k:=by obtain⟨f,caps,rfl,hg,hf,hx⟩:=hp.ex;rw[zhG];refine⟨hg,zc (zg (hx s hs) ?_) hk⟩;simp only[List.cons_append,List.nil_append,List.all_cons,Bool.and_eq_true];exact⟨by have:=flN (r:=[]) rfl (e:=s);simpa using this,zcI hf⟩
theorem zuA {fv:AV} {l:List Nd} {p:Nd→Bool} (hp:PredN fv l p) {H H2:AH} {σ:Nat→Nat→Option (Nat × Nat × Nat)} {D:Nat→Nat→Prop} {t:Bool}:Vw H H2 σ D t fv fv:=by
 obtain⟨f,caps,rfl,hg,hf,hx⟩:=hp.ex
 refine .fn _ _ _ _ rfl fun i a b h1 h2=>?_
 rw[h1] at h2;cases h2;exact zco (zby hf h1)
theorem Qab {p q:Prop}(k:q)(h:Im q p:=by(repeat first|simp(disch:=try exact dis1) only[evD,Nat.reduceBEq,Nat.reduceAdd,Nat.reduceLeDiff,zal] | ((with_reducible apply Im.i);intro _) | ((with_reducible apply Im.a);omega));exact Im.r):p:=h k
theorem zj2 (l:List Nd) (fv:AV) (p:Nd→Bool) (hp:PredN fv l p):zk Tryz.prog zar [encL 5 encN l,fv] (·=.int .i64 (idxI (l.findIdx? p))):=by
 refine fn_x zc4 rfl ?_;unfold zbo;have hB:=hBig
 (refine Qa ?_;intros)
 refine zm (fun i:Nat=>([(0,encL 5 encN l),(1,fv),(7,.int .i64 l.length),(8,.int .i64 i)],[])) 0 (fun i=>i≤l.length∧∀j (h:j < l.length),j < i→p l[j]=false) (fun i=>l.length - i) 0 ⟨Wd _,fun j _ h=>by omega⟩ (Ent.keep rfl fin5) ?_;intro i ⟨hi,hno⟩ wf;unfold za6
 (refine Qa ?_;intros)
 (refine zx (fun h=>?_) (fun h=>?_))<;>(try simp only[dcd] at h)
 ·
  have hi':i < l.length:=by omega
  (repeat first|simp(disch:=try exact dis1) only[evD,Nat.reduceBEq,Nat.reduceAdd,Nat.reduceLeDiff,zo hi',zbM,zbe]|with_reducible first|intro _|refine aJ ?_)
  refine ztx hp (We hi') ?_
  (refine Qa ?_;intros)
  (refine zx (fun h2=>?_) (fun h2=>?_))<;>(try simp only[dcd] at h2)
  ·
   (refine Qab ?_;intros)
   have e:l.findIdx? p=some i:=by rw[Wp];exact⟨hi',h2,fun j hj=>by rw[hno j (by omega) hj];simp⟩
   rw[e];exact⟨_,.int _ _ _,rfl⟩
  ·
   (refine Qa ?_;intros)
   refine⟨i+1,⟨by omega,fun j hj hji=>?_⟩,by omega,Ent.keep rfl fin5⟩
   by_cases hje:j=i
   · subst hje;simpa using h2
   · exact hno j hj (by omega)
 ·
  unfold za3
  (refine Qab ?_;intros)
  have e:l.findIdx? p=none:=by rw[Wq];intro x hx;obtain⟨j,hj,rfl⟩:=Wr.1 hx;exact hno j hj (by omega)
  rw[e];exact⟨_,.int _ _ _,rfl⟩
theorem zA0 {l:List Nd} {p:Nd→Bool}:decide (idxI (l.findIdx? p) ≥ 0)=l.any p:=by
 cases h:l.findIdx? p with
 |
  none =>
  have:=Wq.1 h;rw[decide_eq_false (by simp[idxI])];symm;rw[List.any_eq_false];intro x hx;rw[this x hx];simp
 |
  some i =>
  obtain⟨h1,h2,_⟩:=Wp.1 h;rw[decide_eq_true (by simp[idxI])];exact(zq3 h1 h2).symm
theorem zb5 (l:List Nd) (fv:AV) (p:Nd→Bool) (hp:PredN fv l p):zk Tryz.prog zC [encL 5 encN l,fv] (·=.bool (l.any p)):=by
 refine fn_x zcx rfl ?_;unfold za0
 (refine Qa ?_;intros)
 refine zc (zM (D:=noR) (zj2 l fv p hp) (.cons (zao rfl) (.cons (zuA hp) .nil)) (.inl rfl)) ?_
 (repeat first|simp(disch:=try exact dis1) only[evD,Nat.reduceBEq,Nat.reduceAdd,Nat.reduceLeDiff,za1]|with_reducible first|intro _|refine aJ ?_)
 refine⟨_,.bool _ _,?_⟩;rw[←zA0]
theorem zjE {H:AH} {f r g n:Nat} {c:List AV} (hg:H.get r 0=some (.row n [c] g)) (hc:c.all AV.flat0=true) (hn:c.length=n):Vw H [] nos allR false (.fn (.func f) [.ptr r 0 g 0 0]) (.fn (.func f) [encP n c]):=by
 refine .fn _ _ _ _ rfl fun i a b h1 h2=>?_
 match i with
 | 0=>cases h1;cases h2;exact zAU trivial hg hc hn
 | i+1=>cases h1
theorem Qac {p q:Prop}(k:q)(h:Im q p:=by(repeat first|simp(disch:=try exact dis1) only[evD,Nat.reduceBEq,Nat.reduceAdd,Nat.reduceLeDiff,zbM,zaK,zbe,encP] | ((with_reducible apply Im.i);intro _) | ((with_reducible apply Im.a);omega));exact Im.r):p:=h k
theorem Qm {p q:Prop}(k:q)(h:Im q p:=by(repeat first|simp(disch:=try exact dis1) only[evD,Nat.reduceBEq,Nat.reduceAdd,Nat.reduceLeDiff,fldP,dT,dF,zA] | ((with_reducible apply Im.i);intro _) | ((with_reducible apply Im.a);omega));exact Im.r):p:=h k
theorem zj6:∀(k:Nat) (e:Nd) (b:Bool),zax e≤k→zk Tryz.prog zcb [.agg (encN e),.bool b] (·=.bool (!zkv e b)):=by
 intro k
 induction k with
 | zero=>intro e b h;obtain⟨_,_,l⟩:=e;rw[zax] at h;omega
 | succ k ih =>
 intro e b hk;obtain⟨⟨kd,bl,lb⟩,c,l⟩:=e;refine fn_x zj5 rfl ?_;unfold zfJ;have hB:=hBig;rw[zax] at hk;have hE:=zeC ⟨kd,bl,lb⟩ c l;simp only at hE;rw[hE,zkv];simp only
 have hp:∀q:Bool,PredN (.fn (.func zbH) [encP 1 [.bool q]]) l (zkv · q):=by
  intro q;refine⟨_,_,rfl,by kernel_rfl,rfl,fun s hs=>?_⟩;have hm:=zsE hs;refine fn_x ziS rfl ?_;unfold zei
  (refine Qac ?_;intros)
  refine zc (zg (ih s q (by omega)) flNB) ?_
  (repeat first|simp(disch:=try exact dis1) only[evD,Nat.reduceBEq,Nat.reduceAdd,Nat.reduceLeDiff,zef]|with_reducible first|intro _|refine aJ ?_)
  exact⟨_,.bool _ _,rfl⟩
 have stop:(kd=7∨kd=8)→b=false→(if (kd=7∨kd=8)∧b=false then true else zdP l (b||zhq kd))=true:=fun h1 h2=>if_pos ⟨h1,h2⟩
 have go:¬((kd=7∨kd=8)∧b=false)→(if (kd=7∨kd=8)∧b=false then true else zdP l (b||zhq kd))=zdP l (b||zhq kd):=fun h=>if_neg h
 have e0:kd≠4→kd≠5→zhq kd=false:=fun h4 h5=>by unfold zhq;exact decide_eq_false (by omega)
 have fin:∀(q:Bool),zk Tryz.prog zC [encL 5 encN l,.fn (.func zbH) [encP 1 [.bool q]]] (·=.bool (zdP l q)):=by intro q;rw[zol];exact zb5 l _ _ (hp q)
 cases b with
 |
  true =>
  rw[go (by simp),Bool.true_or];have fin1:=fin true;generalize zdP l true=R at fin1
  by_cases h7:kd=7
  ·
   (refine Qm ?_;intros)
   refine zc (zM (D:=allR) fin1 (.cons (zao rfl) (.cons (zjE rfl rfl rfl) .nil)) (.inl rfl)) ?_
   (refine Qm ?_;intros)
   exact⟨_,.bool _ _,rfl⟩
  by_cases h8:kd=8
  ·
   (refine Qm ?_;intros)
   refine zc (zM (D:=allR) fin1 (.cons (zao rfl) (.cons (zjE rfl rfl rfl) .nil)) (.inl rfl)) ?_
   (refine Qm ?_;intros)
   exact⟨_,.bool _ _,rfl⟩
  (refine Qm ?_;intros)
  refine zc (zM (D:=allR) fin1 (.cons (zao rfl) (.cons (zjE rfl rfl rfl) .nil)) (.inl rfl)) ?_
  (refine Qm ?_;intros)
  exact⟨_,.bool _ _,rfl⟩
 |
  false =>
  by_cases h7:kd=7
  ·
   rw[stop (.inl h7) rfl]
   (refine Qm ?_;intros)
   exact⟨_,.bool _ _,rfl⟩
  by_cases h8:kd=8
  ·
   rw[stop (.inr h8) rfl]
   (refine Qm ?_;intros)
   exact⟨_,.bool _ _,rfl⟩
  rw[go (by omega),Bool.false_or];have finq:=fin (zhq kd);generalize zdP l (zhq kd)=R at finq;have hq:zhq kd=decide (kd=4∨kd=5):=rfl
  by_cases h4:kd=4
  ·
   rw[hq,decide_eq_true (.inl h4)] at finq
   (refine Qm ?_;intros)
   refine zc (zM (D:=allR) finq (.cons (zao rfl) (.cons (zjE rfl rfl rfl) .nil)) (.inl rfl)) ?_
   (refine Qm ?_;intros)
   exact⟨_,.bool _ _,rfl⟩
  by_cases h5:kd=5
  ·
   rw[hq,decide_eq_true (.inr h5)] at finq
   (refine Qm ?_;intros)
   refine zc (zM (D:=allR) finq (.cons (zao rfl) (.cons (zjE rfl rfl rfl) .nil)) (.inl rfl)) ?_
   (refine Qm ?_;intros)
   exact⟨_,.bool _ _,rfl⟩
  rw[e0 h4 h5] at finq
  (refine Qm ?_;intros)
  refine zc (zM (D:=allR) finq (.cons (zao rfl) (.cons (zjE rfl rfl rfl) .nil)) (.inl rfl)) ?_
  (refine Qm ?_;intros)
  exact⟨_,.bool _ _,rfl⟩
def hasI (l:List Int) (t:Int):Bool:=l.any fun x=>decide (x=t)
mutual
def zlb:Nd→List Int
 | .mk f _ l=>if f.kind=9 then [f.label] else zhY l
def zhY:List Nd→List Int
 | []=>[]
 | x::l=>zlb x++zhY l
end
theorem QH {p q:Prop}(k:q)(h:Im q p:=by(repeat first|simp(disch:=try exact dis1) only[evD,Nat.reduceBEq,Nat.reduceAdd,Nat.reduceLeDiff,dF,za] | ((with_reducible apply Im.i);intro _) | ((with_reducible apply Im.a);omega));exact Im.r):p:=h k
theorem zkJ (l:List Int) (t:Int):zk Tryz.prog zcm [za l,.int .i64 t] (fun a=>∃n:Int,a=.int .i64 n∧decide (n ≥ 0)=hasI l t):=by
 refine fn_x zif rfl ?_;unfold zd1 hasI;have hB:=hBig;generalize hR:(l.any fun x=>decide (x=t))=R
 (refine Qo ?_;intros)
 refine zm (fun i:Nat=>([(0,za l),(1,.int .i64 t),(7,.int .i64 l.length),(8,.int .i64 i)],[])) 0 (fun i=>i≤l.length∧((l.drop i).any fun x=>decide (x=t))=R) (fun i=>l.length - i) 0 ⟨Wd _,hR⟩ (Ent.keep rfl fin5) ?_;rintro i ⟨hi,hgo⟩ wf;unfold zcU
 by_cases hl:i < l.length
 ·
  rw[Wn hl,List.any_cons] at hgo
  by_cases hx:l[i]=t
  ·
   rw[decide_eq_true hx,Bool.true_or] at hgo;subst hgo;have hx2:decide (t=l[i])=true:=decide_eq_true hx.symm
   (repeat first|simp(disch:=try exact dis1) only[evD,Nat.reduceBEq,Nat.reduceAdd,Nat.reduceLeDiff,dT,hx2,za,zo hl,zcd]|with_reducible first|intro _|refine aJ ?_)
   exact⟨_,.int _ _ _,i,rfl,decide_eq_true (by omega)⟩
  ·
   rw[decide_eq_false hx,Bool.false_or] at hgo;have hx2:decide (t=l[i])=false:=decide_eq_false (fun h=>hx h.symm)
   (repeat first|simp(disch:=try exact dis1) only[evD,Nat.reduceBEq,Nat.reduceAdd,Nat.reduceLeDiff,dT,hx2,za,zo hl]|with_reducible first|intro _|refine aJ ?_)
   exact⟨i+1,⟨by omega,hgo⟩,by omega,Ent.keep rfl fin5⟩
 ·
  rw[Wi (by omega)] at hgo
  replace hgo:R=false:=by rw[←hgo];rfl
  subst hgo
  (refine QH ?_;intros)
  unfold zcY
  (repeat first|simp(disch:=try exact dis1) only[evD,Nat.reduceBEq,Nat.reduceAdd,Nat.reduceLeDiff,zcd]|with_reducible first|intro _|refine aJ ?_)
  exact⟨_,.int _ _ _,-1,rfl,rfl⟩
theorem ziV (l:List Int) (t:Int):zk Tryz.prog zbK [za l,.int .i64 t] (·=.bool (hasI l t)):=by
 refine fn_x zgP rfl ?_;unfold zcV;have hB:=hBig
 (refine Qa ?_;intros)
 refine zyS (D:=noR) (zkJ l t) (.cons (zao rfl) (.cons (zao rfl) .nil)) (fun a ⟨n,h,_⟩=>.inl (by rw[h];rfl)) ?_;rintro _ ⟨n,rfl,hn⟩
 (repeat first|simp(disch:=try exact dis1) only[evD,Nat.reduceBEq,Nat.reduceAdd,Nat.reduceLeDiff,hn,zcX]|with_reducible first|intro _|refine aJ ?_)
 exact⟨_,.bool _ _,rfl⟩
def wOk (l:List Bl) (b:Int):Bool:=if b < 0 then false else match l[b.toNat]? with
 | none=>false
 | some x=>decide (x.stmts.length=1)
mutual
def zqF (g:List Bl):Nd→Bool
 | .mk f _ l=>if f.kind=5∧wOk g f.block=false then false else zjC g l
def zjC (g:List Bl):List Nd→Bool
 | []=>true
 | x::l=>zqF g x&&zjC g l
end
def zJ (kd bl lb:Int) (cn ln:Nat):Prop :=
 1≤kd∧kd≤12∧((kd=3∨kd=5∨kd=6)→cn=1)∧(kd=3∨kd=5∨kd=6∨cn=0) ∧
 (kd=1∨(kd=3∧ln=2)∨((kd=4∨kd=5)∧ln=1)∨(kd=6∧1≤ln∧ln≤64)∨((kd=2∨7≤kd)∧ln=0)) ∧
 (kd=2∨kd=5∨bl=0)∧(kd=9∨kd=10∨lb=0)∧0≤lb
instance (kd bl lb:Int) (cn ln:Nat):Decidable (zJ kd bl lb cn ln):=by unfold zJ;infer_instance
def zbE (kd bl lb:Int) (c:List Ex) (ln:Nat):Bool:=decide (zJ kd bl lb c.length ln)&&c.all fun e=>decide (ziL e=0)
theorem noF {kd bl lb:Int} {c:List Ex} {n:Nat} (h:¬zJ kd bl lb c.length n):false=zbE kd bl lb c n:=by unfold zbE;rw[dF h];rfl
theorem yesF {kd bl lb:Int} {n:Nat} (h:zJ kd bl lb 0 n):zbE kd bl lb [] n=true:=by unfold zbE;rw[dT (show zJ kd bl lb ([]:List Ex).length n from h)];rfl
theorem yesX {kd bl lb:Int} {e:Ex} {n:Nat} (h:zJ kd bl lb 1 n):zbE kd bl lb [e] n=decide (ziL e=0):=by unfold zbE;rw[dT (show zJ kd bl lb [e].length n from h)];simp
theorem hgX {e:Ex}:[encX e].getD (Int.toNat 0) []=encX e:=rfl
theorem Qe {p q:Prop}(k:q)(h:Im q p:=by(repeat first|simp(disch:=try exact dis1) only[evD,Nat.reduceBEq,Nat.reduceAdd,Nat.reduceLeDiff,dT,dF,fldP,zb] | ((with_reducible apply Im.i);intro _) | ((with_reducible apply Im.a);omega));exact Im.r):p:=h k
theorem zAH {kd bl lb:Int} {c:List Ex} {l:List Nd} (h:kd=7∨kd=8∨kd=11∨kd=12):zk Tryz.prog zE [.agg [.int .i64 kd,.int .i64 bl,.int .i64 lb,encL 5 encX c,encL 5 encN l]] (·=.bool (zbE kd bl lb c l.length)):=by
 refine fn_x zS rfl ?_;unfold zP;have hB:=hBig
 (refine Qe ?_;intros)
 by_cases q0:c.length=0<;>(refine Qe ?_;intros)
 case neg=>exact⟨_,.bool _ _,congrArg AV.bool (noF (by unfold zJ;omega))⟩
 by_cases q1:l.length=0<;>(refine Qe ?_;intros)
 case neg=>exact⟨_,.bool _ _,congrArg AV.bool (noF (by unfold zJ;omega))⟩
 by_cases q2:bl=0<;>(refine Qe ?_;intros)
 case neg=>exact⟨_,.bool _ _,congrArg AV.bool (noF (by unfold zJ;omega))⟩
 by_cases q3:lb=0<;>(refine Qe ?_;intros)
 case neg=>exact⟨_,.bool _ _,congrArg AV.bool (noF (by unfold zJ;omega))⟩
 obtain rfl:c=[]:=Wc q0;exact⟨_,.bool _ _,congrArg AV.bool (yesF (by unfold zJ;omega)).symm⟩
theorem zAa {kd bl lb:Int} {c:List Ex} {l:List Nd} (h:kd=2):zk Tryz.prog zE [.agg [.int .i64 kd,.int .i64 bl,.int .i64 lb,encL 5 encX c,encL 5 encN l]] (·=.bool (zbE kd bl lb c l.length)):=by
 refine fn_x zS rfl ?_;unfold zP;have hB:=hBig
 (refine Qe ?_;intros)
 by_cases q0:c.length=0<;>(refine Qe ?_;intros)
 case neg=>exact⟨_,.bool _ _,congrArg AV.bool (noF (by unfold zJ;omega))⟩
 by_cases q1:l.length=0<;>(refine Qe ?_;intros)
 case neg=>exact⟨_,.bool _ _,congrArg AV.bool (noF (by unfold zJ;omega))⟩
 by_cases q2:lb=0<;>(refine Qe ?_;intros)
 case neg=>exact⟨_,.bool _ _,congrArg AV.bool (noF (by unfold zJ;omega))⟩
 obtain rfl:c=[]:=Wc q0;exact⟨_,.bool _ _,congrArg AV.bool (yesF (by unfold zJ;omega)).symm⟩
theorem zzx {kd bl lb:Int} {c:List Ex} {l:List Nd} (h:kd=9):zk Tryz.prog zE [.agg [.int .i64 kd,.int .i64 bl,.int .i64 lb,encL 5 encX c,encL 5 encN l]] (·=.bool (zbE kd bl lb c l.length)):=by
 refine fn_x zS rfl ?_;unfold zP;have hB:=hBig
 (refine Qe ?_;intros)
 by_cases q0:c.length=0<;>(refine Qe ?_;intros)
 case neg=>exact⟨_,.bool _ _,congrArg AV.bool (noF (by unfold zJ;omega))⟩
 by_cases q1:l.length=0<;>(refine Qe ?_;intros)
 case neg=>exact⟨_,.bool _ _,congrArg AV.bool (noF (by unfold zJ;omega))⟩
 by_cases q2:bl=0<;>(refine Qe ?_;intros)
 case neg=>exact⟨_,.bool _ _,congrArg AV.bool (noF (by unfold zJ;omega))⟩
 by_cases q3:0≤lb<;>(refine Qe ?_;intros)
 case neg=>exact⟨_,.bool _ _,congrArg AV.bool (noF (by unfold zJ;omega))⟩
 obtain rfl:c=[]:=Wc q0;exact⟨_,.bool _ _,congrArg AV.bool (yesF (by unfold zJ;omega)).symm⟩
theorem zyh {kd bl lb:Int} {c:List Ex} {l:List Nd} (h:kd=10):zk Tryz.prog zE [.agg [.int .i64 kd,.int .i64 bl,.int .i64 lb,encL 5 encX c,encL 5 encN l]] (·=.bool (zbE kd bl lb c l.length)):=by
 refine fn_x zS rfl ?_;unfold zP;have hB:=hBig
 (refine Qe ?_;intros)
 by_cases q0:c.length=0<;>(refine Qe ?_;intros)
 case neg=>exact⟨_,.bool _ _,congrArg AV.bool (noF (by unfold zJ;omega))⟩
 by_cases q1:l.length=0<;>(refine Qe ?_;intros)
 case neg=>exact⟨_,.bool _ _,congrArg AV.bool (noF (by unfold zJ;omega))⟩
 by_cases q2:bl=0<;>(refine Qe ?_;intros)
 case neg=>exact⟨_,.bool _ _,congrArg AV.bool (noF (by unfold zJ;omega))⟩
 by_cases q3:0≤lb<;>(refine Qe ?_;intros)
 case neg=>exact⟨_,.bool _ _,congrArg AV.bool (noF (by unfold zJ;omega))⟩
 obtain rfl:c=[]:=Wc q0;exact⟨_,.bool _ _,congrArg AV.bool (yesF (by unfold zJ;omega)).symm⟩
theorem zz2 {kd bl lb:Int} {c:List Ex} {l:List Nd} (h:kd=1):zk Tryz.prog zE [.agg [.int .i64 kd,.int .i64 bl,.int .i64 lb,encL 5 encX c,encL 5 encN l]] (·=.bool (zbE kd bl lb c l.length)):=by
 refine fn_x zS rfl ?_;unfold zP;have hB:=hBig
 (refine Qe ?_;intros)
 by_cases q0:c.length=0<;>(refine Qe ?_;intros)
 case neg=>exact⟨_,.bool _ _,congrArg AV.bool (noF (by unfold zJ;omega))⟩
 by_cases q1:bl=0<;>(refine Qe ?_;intros)
 case neg=>exact⟨_,.bool _ _,congrArg AV.bool (noF (by unfold zJ;omega))⟩
 by_cases q2:lb=0<;>(refine Qe ?_;intros)
 case neg=>exact⟨_,.bool _ _,congrArg AV.bool (noF (by unfold zJ;omega))⟩
 obtain rfl:c=[]:=Wc q0;exact⟨_,.bool _ _,congrArg AV.bool (yesF (by unfold zJ;omega)).symm⟩
theorem zzd {kd bl lb:Int} {c:List Ex} {l:List Nd} (h:kd=4):zk Tryz.prog zE [.agg [.int .i64 kd,.int .i64 bl,.int .i64 lb,encL 5 encX c,encL 5 encN l]] (·=.bool (zbE kd bl lb c l.length)):=by
 refine fn_x zS rfl ?_;unfold zP;have hB:=hBig
 (refine Qe ?_;intros)
 by_cases q0:c.length=0<;>(refine Qe ?_;intros)
 case neg=>exact⟨_,.bool _ _,congrArg AV.bool (noF (by unfold zJ;omega))⟩
 by_cases q1:l.length=1<;>(refine Qe ?_;intros)
 case neg=>exact⟨_,.bool _ _,congrArg AV.bool (noF (by unfold zJ;omega))⟩
 by_cases q2:bl=0<;>(refine Qe ?_;intros)
 case neg=>exact⟨_,.bool _ _,congrArg AV.bool (noF (by unfold zJ;omega))⟩
 by_cases q3:lb=0<;>(refine Qe ?_;intros)
 case neg=>exact⟨_,.bool _ _,congrArg AV.bool (noF (by unfold zJ;omega))⟩
 obtain rfl:c=[]:=Wc q0;exact⟨_,.bool _ _,congrArg AV.bool (yesF (by unfold zJ;omega)).symm⟩
theorem QI {p q:Prop}(k:q)(h:Im q p:=by(repeat first|simp(disch:=try exact dis1) only[evD,Nat.reduceBEq,Nat.reduceAdd,Nat.reduceLeDiff,hgX,zbO,zbn,zb] | ((with_reducible apply Im.i);intro _) | ((with_reducible apply Im.a);omega));exact Im.r):p:=h k
theorem zy0 {kd bl lb:Int} {c:List Ex} {l:List Nd} (h:kd=3):zk Tryz.prog zE [.agg [.int .i64 kd,.int .i64 bl,.int .i64 lb,encL 5 encX c,encL 5 encN l]] (·=.bool (zbE kd bl lb c l.length)):=by
 refine fn_x zS rfl ?_;unfold zP;have hB:=hBig
 (refine Qe ?_;intros)
 by_cases q0:c.length=1
 case neg =>
  (refine Qe ?_;intros)
  exact⟨_,.bool _ _,congrArg AV.bool (noF (by unfold zJ;omega))⟩
 obtain⟨e,rfl⟩:∃e,c=[e]:=Wk.1 q0
 (refine Qe ?_;intros)
 by_cases q1:l.length=2<;>(refine Qe ?_;intros)
 case neg=>exact⟨_,.bool _ _,congrArg AV.bool (noF (by unfold zJ;omega))⟩
 by_cases q2:bl=0<;>(refine Qe ?_;intros)
 case neg=>exact⟨_,.bool _ _,congrArg AV.bool (noF (by unfold zJ;omega))⟩
 by_cases q3:lb=0<;>(refine Qe ?_;intros)
 case neg=>exact⟨_,.bool _ _,congrArg AV.bool (noF (by unfold zJ;omega))⟩
 (refine QI ?_;intros)
 refine zc (zg (zdX e) (flX rfl)) ?_
 (refine Qe ?_;intros)
 exact⟨_,.bool _ _,congrArg AV.bool (yesX (by unfold zJ;omega)).symm⟩
theorem zAh {kd bl lb:Int} {c:List Ex} {l:List Nd} (h:kd=5):zk Tryz.prog zE [.agg [.int .i64 kd,.int .i64 bl,.int .i64 lb,encL 5 encX c,encL 5 encN l]] (·=.bool (zbE kd bl lb c l.length)):=by
 refine fn_x zS rfl ?_;unfold zP;have hB:=hBig
 (refine Qe ?_;intros)
 by_cases q0:c.length=1
 case neg =>
  (refine Qe ?_;intros)
  exact⟨_,.bool _ _,congrArg AV.bool (noF (by unfold zJ;omega))⟩
 obtain⟨e,rfl⟩:∃e,c=[e]:=Wk.1 q0
 (refine Qe ?_;intros)
 by_cases q1:l.length=1<;>(refine Qe ?_;intros)
 case neg=>exact⟨_,.bool _ _,congrArg AV.bool (noF (by unfold zJ;omega))⟩
 by_cases q2:lb=0<;>(refine Qe ?_;intros)
 case neg=>exact⟨_,.bool _ _,congrArg AV.bool (noF (by unfold zJ;omega))⟩
 (refine QI ?_;intros)
 refine zc (zg (zdX e) (flX rfl)) ?_
 (refine Qe ?_;intros)
 exact⟨_,.bool _ _,congrArg AV.bool (yesX (by unfold zJ;omega)).symm⟩
theorem zzb {kd bl lb:Int} {c:List Ex} {l:List Nd} (h:kd=6):zk Tryz.prog zE [.agg [.int .i64 kd,.int .i64 bl,.int .i64 lb,encL 5 encX c,encL 5 encN l]] (·=.bool (zbE kd bl lb c l.length)):=by
 refine fn_x zS rfl ?_;unfold zP;have hB:=hBig
 (refine Qe ?_;intros)
 by_cases q0:c.length=1
 case neg =>
  (refine Qe ?_;intros)
  exact⟨_,.bool _ _,congrArg AV.bool (noF (by unfold zJ;omega))⟩
 obtain⟨e,rfl⟩:∃e,c=[e]:=Wk.1 q0
 (refine Qe ?_;intros)
 by_cases q1:1≤l.length<;>(refine Qe ?_;intros)
 case neg=>exact⟨_,.bool _ _,congrArg AV.bool (noF (by unfold zJ;omega))⟩
 by_cases q2:l.length≤64<;>(refine Qe ?_;intros)
 case neg=>exact⟨_,.bool _ _,congrArg AV.bool (noF (by unfold zJ;omega))⟩
 by_cases q3:bl=0<;>(refine Qe ?_;intros)
 case neg=>exact⟨_,.bool _ _,congrArg AV.bool (noF (by unfold zJ;omega))⟩
 by_cases q4:lb=0<;>(refine Qe ?_;intros)
 case neg=>exact⟨_,.bool _ _,congrArg AV.bool (noF (by unfold zJ;omega))⟩
 (refine QI ?_;intros)
 refine zc (zg (zdX e) (flX rfl)) ?_
 (refine Qe ?_;intros)
 exact⟨_,.bool _ _,congrArg AV.bool (yesX (by unfold zJ;omega)).symm⟩
theorem zyt {kd bl lb:Int} {c:List Ex} {l:List Nd} (h:kd < 1):zk Tryz.prog zE [.agg [.int .i64 kd,.int .i64 bl,.int .i64 lb,encL 5 encX c,encL 5 encN l]] (·=.bool (zbE kd bl lb c l.length)):=by
 refine fn_x zS rfl ?_;unfold zP;have hB:=hBig
 (refine Qe ?_;intros)
 exact⟨_,.bool _ _,congrArg AV.bool (noF (by unfold zJ;omega))⟩
theorem zyp {kd bl lb:Int} {c:List Ex} {l:List Nd} (h:12 < kd):zk Tryz.prog zE [.agg [.int .i64 kd,.int .i64 bl,.int .i64 lb,encL 5 encX c,encL 5 encN l]] (·=.bool (zbE kd bl lb c l.length)):=by
 refine fn_x zS rfl ?_;unfold zP;have hB:=hBig
 (refine Qe ?_;intros)
 exact⟨_,.bool _ _,congrArg AV.bool (noF (by unfold zJ;omega))⟩
theorem zkz (kd bl lb:Int) (c:List Ex) (l:List Nd):zk Tryz.prog zE [.agg [.int .i64 kd,.int .i64 bl,.int .i64 lb,encL 5 encX c,encL 5 encN l]] (·=.bool (zbE kd bl lb c l.length)):=by
 rcases Int.lt_or_le kd 1 with h|h
 · exact zyt h
 rcases Int.lt_or_le 12 kd with h2|h2
 · exact zyp h2
 by_cases ha:kd=7∨kd=8∨kd=11∨kd=12
 · exact zAH ha
 by_cases hb:kd=2
 · exact zAa hb
 by_cases hc:kd=9
 · exact zzx hc
 by_cases hc2:kd=10
 · exact zyh hc2
 by_cases hd:kd=1
 · exact zz2 hd
 by_cases he:kd=4
 · exact zzd he
 by_cases hf:kd=3
 · exact zy0 hf
 by_cases hg:kd=5
 · exact zAh hg
 exact zzb (by omega)
end Go.Ab
namespace Go.Ab.Dm
def zoY (P:List Nat) (m p:Nat):Prop:=∃A B,P=A++m::B∧p∈B
theorem zoY.left {P:List Nat} {m p:Nat} (h:zoY P m p) (L:List Nat):zoY (L++P) m p:=by obtain⟨A,B,rfl,hp⟩:=h;exact⟨L++A,B,by simp,hp⟩
theorem zoY.right {P:List Nat} {m p:Nat} (h:zoY P m p) (R:List Nat):zoY (P++R) m p:=by obtain⟨A,B,rfl,hp⟩:=h;exact⟨A,B++R,by simp,by simp[hp]⟩
theorem zoY.last {P:List Nat} {m k:Nat} (h:m∈P):zoY (P++[k]) m k:=by obtain⟨A,B,rfl⟩:=List.append_of_mem h;exact⟨A,B++[k],by simp,by simp⟩
structure Grew (E:Adj) (cs:List Nat) (s s':List Nat × List Nat) (P Q:List Nat):Prop where
 post:s'.2=s.2++P
 seen:s'.1=s.1++Q
 same:∀x,x∈P↔x∈Q
 nd:P.Nodup
 new:∀x∈P,x∉s.1
 closed:∀p∈P,∀c∈suc E p,c∈s'.1
 got:∀c∈cs,c∈s'.1
 reach:∀x∈P,∃c∈cs,RA E (fun _=>False) c x
 from':∀m∈P,m∈cs∨∃p,m∈suc E p∧zoY P m p
theorem RA.trans {E:Adj} {X:Nat→Prop} {a b c:Nat} (h1:RA E X a b) (h2:RA E X b c):RA E X a c:=by
 induction h2 with
 | refl=>exact h1
 | step _ h3 h4 ih=>exact ih.step h3 h4
theorem Grew.append {E:Adj} {cs ds:List Nat} {s s' s'':List Nat × List Nat} {P Q P2 Q2:List Nat} (h1:Grew E cs s s' P Q) (h2:Grew E ds s' s'' P2 Q2):Grew E (cs++ds) s s'' (P++P2) (Q++Q2):=by
 have sub:∀x,x∈s'.1→x∈s''.1:=fun x hx=>by rw[h2.seen];exact Wa.2 (.inl hx)
 refine⟨by rw[h2.post,h1.post,Ws],by rw[h2.seen,h1.seen,Ws],fun x=>by simp only[Wa,h1.same,h2.same],?_,fun x hx=>?_,fun p hp c hc=>?_,fun c hc=>?_,fun x hx=>?_,fun m hm=>?_⟩
 · rw[Wt];refine⟨h1.nd,h2.nd,fun a ha b hb e=>?_⟩;subst e;exact h2.new a hb (by rw[h1.seen];exact Wa.2 (.inr ((h1.same a).1 ha)))
 ·
  rcases Wa.1 hx with hx|hx
  · exact h1.new x hx
  · exact fun h=>h2.new x hx (by rw[h1.seen];exact Wa.2 (.inl h))
 ·
  rcases Wa.1 hp with hp|hp
  · exact sub c (h1.closed p hp c hc)
  · exact h2.closed p hp c hc
 ·
  rcases Wa.1 hc with hc|hc
  · exact sub c (h1.got c hc)
  · exact h2.got c hc
 ·
  rcases Wa.1 hx with hx|hx
  · obtain⟨c,hc,hr⟩:=h1.reach x hx;exact⟨c,by simp[hc],hr⟩
  · obtain⟨c,hc,hr⟩:=h2.reach x hx;exact⟨c,by simp[hc],hr⟩
 ·
  rcases Wa.1 hm with hm|hm
  ·
   rcases h1.from' m hm with h | ⟨p,hp,ha⟩
   · exact .inl (by simp[h])
   · exact .inr ⟨p,hp,ha.right _⟩
  ·
   rcases h2.from' m hm with h | ⟨p,hp,ha⟩
   · exact .inl (by simp[h])
   · exact .inr ⟨p,hp,ha.left _⟩
theorem zrY {E:Adj} {f m d:Nat} (hok:E.ok) (ih:∀(k:Nat) (s:List Nat × List Nat),DfsI E.length m d s→k < E.length→k∉s.1→∃P Q,Grew E [k] s (dfs E f k s) P Q) :
  ∀(cs:List Nat) (t:List Nat × List Nat),(∀c∈cs,c < E.length)→DfsI E.length m d t→∃P Q,Grew E cs t (cs.foldl (zcl E f) t) P Q
 | [],t,_,_=>⟨[],[],by simp,by simp,by simp,by simp,by simp,by simp,by simp,by simp,by simp⟩
 |
  c::cs,t,hc,ht=>by
  have hstep:DfsI E.length m d (zcl E f t c):=by
   unfold zcl;split
   · exact ht
   · exact zon hok f m d c t ht (hc c (by simp)) ‹_›
  obtain⟨P2,Q2,h2⟩:=zrY hok ih cs (zcl E f t c) (fun d hd=>hc d (by simp[hd])) hstep
  have h1:∃P Q,Grew E [c] t (zcl E f t c) P Q:=by
   unfold zcl;split
   · exact⟨[],[],by simp,by simp,by simp,by simp,by simp,by simp,by simpa,by simp,by simp⟩
   · exact ih c t ht (hc c (by simp)) ‹_›
  obtain⟨P,Q,h1⟩:=h1;exact⟨P++P2,Q++Q2,h1.append h2⟩
theorem zuI {E:Adj} (hok:E.ok):∀(f m d k:Nat) (s:List Nat × List Nat),DfsI E.length m d s→k < E.length→k∉s.1→E.length≤f+m→∃P Q,Grew E [k] s (dfs E f k s) (P++[k]) (k::Q)∧∀x,x∈P↔x∈Q
 |
  0,m,d,k,s,h,hk,hn,hf=>by
  have:=(h.nd.snoc hk hn).len;have:=h.le;simp at *;omega
 |
  f+1,m,d,k,s,h,hk,hn,hf=>by
  have hstart:DfsI E.length (m+1) (d+1) (s.1++[k],s.2):=⟨h.nd.snoc hk hn,by have:=h.le;simp;omega,by have:=h.post;simp;omega⟩
  obtain⟨P,Q,g⟩:=zrY (f:=f) (m:=m+1) (d:=d+1) hok (fun c t ht hc hn=>by
   obtain⟨P,Q,h,_⟩:=zuI hok f (m+1) (d+1) c t ht hc hn (by omega)
   exact⟨_,_,h⟩) (suc E k) (s.1++[k],s.2) (hok k) hstart
  refine⟨P,Q,?_,g.same⟩;rw[zqi]
  have hkP:k∉P:=fun hh=>g.new k hh (by simp)
  refine⟨by simp[g.post],by simp[g.seen],fun x=>?_,?_,fun x hx=>?_,fun p hp c hc=>?_,fun c hc=>?_,fun x hx=>?_,fun x hx=>?_⟩
  · simp only[Wa,Wj,List.not_mem_nil,or_false,g.same];exact Or.comm
  · rw[Wt];exact⟨g.nd,by simp,fun a ha b hb e=>by simp at hb;subst hb;subst e;exact hkP ha⟩
  ·
   rcases Wa.1 hx with hx|hx
   · exact fun hh=>g.new x hx (by simp[hh])
   · simp at hx;subst hx;exact hn
  ·
   rcases Wa.1 hp with hp|hp
   · exact g.closed p hp c hc
   · simp at hp;subst hp;exact g.got c hc
  · simp at hc;subst hc;show c∈_;rw[g.seen];simp
  ·
   rcases Wa.1 hx with hx|hx
   · obtain⟨c,hc,hr⟩:=g.reach x hx;exact⟨k,by simp,((RA.refl id).step hc id).trans hr⟩
   · simp at hx;subst hx;exact⟨x,by simp,.refl id⟩
  ·
   rcases Wa.1 hx with hx|hx
   ·
    rcases g.from' x hx with hh | ⟨p,hp,ha⟩
    · exact .inr ⟨k,hh,zoY.last hx⟩
    · exact .inr ⟨p,hp,ha.right _⟩
   · exact .inl hx
theorem zxI {l:List Nat} (h:l.Nodup):l.reverse.Nodup:=by
 unfold List.Nodup at *;rw[List.pairwise_reverse]
 exact h.imp fun h e=>h e.symm
structure Rpo (E:Adj) (r:Nat) (l:List Nat):Prop where
 head:∃t,l=r::t
 nd:l.Nodup
 lt:∀x∈l,x < E.length
 mem:∀x,x∈l↔RA E (fun _=>False) r x
 pred:∀x∈l,x≠r→∃p A B,l=A++x::B∧p∈A∧x∈suc E p
theorem rpo {E:Adj} (hok:E.ok) {r:Nat} (hr:r < E.length):Rpo E r (dfs E E.length r ([],[])).2.reverse:=by
 have h0:DfsI E.length 0 0 ([],[]):=⟨⟨by simp,by simp⟩,by simp,by simp⟩;obtain⟨P,Q,g,hs⟩:=zuI hok E.length 0 0 r ([],[]) h0 hr (by simp) (by omega);have hp:=g.post;have hq:=g.seen;simp only[List.nil_append] at hp hq;have hd:=zon hok E.length 0 0 r _ h0 hr (by simp)
 have hmem:∀x,x∈P++[r]↔RA E (fun _=>False) r x:=by
  intro x;constructor
  · intro hx;obtain⟨c,hc,hh⟩:=g.reach x hx;simp at hc;subst hc;exact hh
  ·
   intro hx
   induction hx with
   | refl=>simp
   |
    step _ h3 _ ih =>
    have:=g.closed _ ih _ h3;rw[hq] at this;exact(g.same _).2 this
 rw[hp];refine⟨⟨P.reverse,by simp⟩,zxI g.nd,fun x hx=>?_,fun x=>by rw[Wl];exact hmem x,fun x hx hxr=>?_⟩
 · rw[Wl] at hx;exact hd.nd.lt x (by rw[hq];exact(g.same x).1 hx)
 ·
  rw[Wl] at hx
  rcases g.from' x hx with hh | ⟨p,hp,A,B,he,hpB⟩
  · simp at hh;exact absurd hh hxr
  · exact⟨p,B.reverse,A.reverse,by rw[he];simp,by simpa using hpB,hp⟩
inductive Ch (T:Nat→Option Nat):Nat→Nat→Prop
 | refl (k:Nat):Ch T k k
 | up {k j x:Nat}:T k=some j→Ch T j x→Ch T k x
structure Lay (A:Adj) (r:Nat) (l:List Nat) (f:Nat→Nat):Prop where
 nd:l.Nodup
 root:r∈l
 pl0:l.idxOf r=0
 mem:∀x,x∈l↔RA A (fun _=>False) r x
 fm:∀k∈l,k≠r→f k∈l∧k∈suc A (f k)∧l.idxOf (f k) < l.idxOf k
section
variable {A:Adj} {r:Nat} {l:List Nat} {f:Nat→Nat} {T U:Nat→Option Nat}
def Pr (A:Adj) (l:List Nat) (p k:Nat):Prop:=p∈l∧k∈suc A p
structure WT (r:Nat) (l:List Nat) (T:Nat→Option Nat):Prop where
 root:T r=none
 up:∀k j,T k=some j→k∈l∧j∈l∧l.idxOf j < l.idxOf k∧(j=r∨T j≠none)
def Hd (r:Nat) (T:Nat→Option Nat) (k:Nat):Prop:=k=r∨T k≠none
def Fst (l:List Nat) (T:Nat→Option Nat) (j p q:Nat):Prop:=Ch T p q∧l.idxOf q < j∧∀q2,Ch T p q2→l.idxOf q2 < j→Ch T q q2
structure PassTo (A:Adj) (r:Nat) (l:List Nat) (T:Nat→Option Nat) (j:Nat) (U:Nat→Option Nat):Prop where
 wt:WT r l U
 old:∀v,(v∉l∨j≤l.idxOf v)→U v=T v
 new:∀k∈l,k≠r→l.idxOf k < j→∃c,U k=some c ∧
  ∀x,Ch U c x↔(∀p,Pr A l p k→l.idxOf p < l.idxOf k→Ch U p x)∧(∀p,Pr A l p k→l.idxOf k≤l.idxOf p→Hd r T p→∃q,Fst l T (l.idxOf k) p q∧Ch U q x)
end
section
variable {A:Adj} {r:Nat} {l:List Nat} {f:Nat→Nat} {T U V:Nat→Option Nat}
abbrev Pass (A:Adj) (r:Nat) (l:List Nat) (T U:Nat→Option Nat):Prop:=PassTo A r l T l.length U
inductive SA (r:Nat) (l:List Nat) (f:Nat→Nat) (a:Nat):Nat→Prop
 | refl:SA r l f a a
 | step {b:Nat}:b∈l→b≠r→SA r l f a (f b)→SA r l f a b
structure Gd (A:Adj) (r:Nat) (l:List Nat) (f:Nat→Nat) (T U:Nat→Option Nat):Prop where
 wt:WT r l T
 pass:Pass A r l T U
 anc:∀v y,v∈l→Hd r T v→Ch T v y→SA r l f y v
 mono:∀v y,v∈l→Hd r T v→Ch U v y→Ch T v y
def Dm (A:Adj) (r x k:Nat):Prop:=¬RA A (·=x) r k
def Sd (A:Adj) (r:Nat) (l:List Nat) (T:Nat→Option Nat):Prop:=∀k∈l,Hd r T k→∀x∈l,Dm A r x k→Ch T k x
structure DTree' (A:Adj) (r:Nat) (l:List Nat) (T:Nat→Option Nat):Prop where
 wt:WT r l T
 held:∀k∈l,k≠r→T k≠none
 ch:∀k∈l,∀x∈l,Ch T k x↔Dm A r x k
end
def IsN (x:Int):Nat→Prop:=fun y=>(y:Int)=x
structure FromI (E:Adj) (x:Int) (a i:Nat) (out:List Nat):Prop where
 nd:NdL E.length out
 root:a∈out
 sound:∀b∈out,RA E (IsN x) a b
 closed:∀j (h:j < out.length),j < i→∀c∈suc E out[j],(c:Int)≠x→c∈out
theorem ztT {x:Int} {out:List Nat} {c b:Nat}:b∈zeE x out c↔b∈out∨(b=c∧(c:Int)≠x):=by
 unfold zeE;split
 · rename_i h;simp only[Wa,Wo];exact⟨fun h2=>h2.imp id (fun h3=>⟨h3,h.1⟩),fun h2=>h2.imp id (fun h3=>h3.1)⟩
 ·
  rename_i h;constructor
  · exact .inl
  ·
   rintro(h2 | ⟨rfl,h2⟩)
   · exact h2
   · exact Classical.byContradiction fun h3=>h ⟨h2,h3⟩
theorem zlj {x:Int} {b:Nat}:∀ {cs out:List Nat},b∈cs.foldl (zeE x) out↔b∈out∨(b∈cs∧(b:Int)≠x)
 | [],out=>by simp
 |
  c::cs,out=>by
  rw[List.foldl_cons,zlj (cs:=cs),ztT];constructor
  ·
   rintro((h | ⟨rfl,h⟩) | ⟨h,h2⟩)
   · exact .inl h
   · exact .inr ⟨by simp,h⟩
   · exact .inr ⟨by simp[h],h2⟩
  ·
   rintro(h | ⟨h,h2⟩)
   · exact .inl (.inl h)
   ·
    rcases Wj.1 h with rfl|h
    · exact .inl (.inr ⟨rfl,h2⟩)
    · exact .inr ⟨h,h2⟩
theorem zuH {x:Int}:∀(cs out:List Nat),∃t,cs.foldl (zeE x) out=out++t
 | [],out=>⟨[],by simp⟩
 |
  c::cs,out=>by
  obtain⟨t,ht⟩:=zuH (x:=x) cs (zeE x out c);rw[List.foldl_cons,ht];unfold zeE;split
  · exact⟨c::t,by simp⟩
  · exact⟨t,rfl⟩
theorem zvi {E:Adj} (hE:E.ok) {x:Int} {a:Nat}:∀(f i:Nat) (out:List Nat),FromI E x a i out→E.length≤f+i→∀b,b∈zu9 E x f i out↔RA E (IsN x) a b:=by
 have fin:∀(i:Nat) (out:List Nat),FromI E x a i out→out.length≤i→∀b,b∈out↔RA E (IsN x) a b:=by
  intro i out h hl b;refine⟨h.sound b,fun hb=>?_⟩
  induction hb with
  | refl=>exact h.root
  |
   step _ h2 h3 ih =>
   obtain⟨j,hj,he⟩:=Wr.1 ih;exact h.closed j hj (by omega) _ (by rw[he];exact h2) h3
 intro f
 induction f with
 |
  zero =>
  intro i out h hf b;exact fin i out h (by have:=h.nd.len;omega) b
 |
  succ f ih =>
  intro i out h hf b;simp only[zu9]
  by_cases hi:i < out.length
  ·
   rw[Wm hi];simp only;refine ih (i+1) _ ⟨h.nd.fold (fun c hc=>hE _ c hc),zlj.2 (.inl h.root),fun b hb=>?_,fun j hj hji c hc hcx=>?_⟩ (by omega) b
   ·
    rcases zlj.1 hb with hb | ⟨hb,hbx⟩
    · exact h.sound b hb
    · exact(h.sound _ (We hi)).step hb hbx
   ·
    obtain⟨t,ht⟩:=zuH (x:=x) (suc E out[i]) out
    have hjl:j < out.length:=by omega
    have e:((suc E out[i]).foldl (zeE x) out)[j]=out[j]:=by simp only[ht];exact List.getElem_append_left hjl
    rw[e] at hc
    by_cases hje:j=i
    · subst hje;exact zlj.2 (.inr ⟨hc,hcx⟩)
    · exact zlj.2 (.inl (h.closed j hjl (by omega) c hc hcx))
  · rw[List.getElem?_eq_none (by omega)];exact fin i out h (by omega) b
theorem zyx {E:Adj} (hE:E.ok) {a:Nat} (ha:a < E.length) {x:Int} {b:Nat}:b∈zxk E a x↔RA E (IsN x) a b:=by
 unfold zxk
 by_cases hx:(a:Int)=x
 ·
  rw[if_pos (.inl hx)];constructor
  · intro h;cases h
  ·
   intro h;exfalso
   induction h with
   | refl h=>exact h hx
   | step _ _ _ ih=>exact ih
 ·
  rw[if_neg (by omega)];refine zvi hE _ _ _ ⟨⟨by simp,fun b hb=>?_⟩,by simp,fun b hb=>?_,fun j _ h=>absurd h (Nat.not_lt_zero _)⟩ (by omega) b
  · simp at hb;omega
  · simp at hb;subst hb;exact .refl hx
theorem zwT {E:Adj} (hE:E.ok) {a:Nat} (ha:a < E.length) {b:Nat}:b∈zxk E a (-1)↔RA E (fun _=>False) a b:=by
 rw[zyx hE ha]
 have:IsN (-1)=fun _=>False:=by
  funext y
  refine eq_false fun h=>?_
  unfold IsN at h;omega
 rw[this]
end Go.Ab.Dm
namespace Go.Ab.Dm
open Go.RowKit Go.Proofs
theorem _root_.Go.Ab.Gr.E_small {g:Gr} (hg:g.small):g.E.small:=by
 refine⟨by rw[g.E_len];have:=hg.1;omega,fun k=>?_⟩;unfold suc Gr.E;rw[Wf,Wu]
 cases hb:g.blocks[k]? with
 | none=>simp
 |
  some b =>
  simp only[Option.map_some,Option.getD_some,List.length_map];have h1:=List.length_filter_le (ziE g.blocks.length) b.targets;have h2:=hg.2 b (List.mem_of_getElem? hb);omega
def inB (n:Nat) (l:List Nat):List Bool:=mapR (fun i=>decide (i∈l)) n
theorem zqr {n:Nat} {l:List Nat}:(inB n l).length=n:=zzW
theorem zCs {n i:Nat} {l:List Nat} (h:i < n):((inB n l).map cB).getD i []=[.bool (decide (i∈l))]:=by simp[inB,mapR,Wf,h]
theorem zxq {n k:Nat} {l:List Nat}:((inB n l).map cB).set k [.bool true]=(inB n (l++[k])).map cB:=by
 unfold inB mapR;rw[Wg,Wg,zdV]
 refine Wv fun i hi=>?_
 unfold updF;split
 · rename_i h;subst h;simp
 · rename_i h;simp[h]
theorem zp5 {n:Nat}:(inB n []).map cB=List.replicate n [.bool false]:=by
 unfold inB mapR;rw[Wg]
 have:(cB ∘ fun i=>decide (i∈([]:List Nat)))=fun _=>[AV.bool false]:=by funext i;simp
 rw[this,List.map_const',List.length_range]
def zck (A:Adj):List AV:=[.ptr 1 0 0 0 0,.iptr 1 fun j=>[zmR A].getD j .undef,.ptr 3 0 0 0 0,.ptr 2 0 0 0 0]
def ordH (A:Adj) (s:List Nat × List Nat) (g:Nat):AH:=[(0,.row 1 ((inB A.length s.1).map cB) 0),(1,.row 1 [[.own 0 0 0 0 A.length]] 0),(2,.row 1 [[.own 4 0 g 0 s.2.length]] 0),
 (3,.row 1 [[.fn (.func zb6) (zck A)]] 0),(4,.row 1 (s.2.map cN) g)]
theorem zfr (A:Adj) (hA:A.small) (hok:A.ok):∀(f:Nat) (k g:Nat) (s:List Nat × List Nat) (m d:Nat),DfsI A.length m d s→k < A.length→k∉s.1→A.length≤f+m →
  z7 Tryz.prog zb6 ([.int .i64 k]++zck A) (ordH A s g) 5 (fun v H nx=>∃g',v=.tup []∧H=ordH A (dfs A f k s) g'∧nx=5)
 |
  0,k,g,s,m,d,hs,hk,hn,hf=>by
  have:=(hs.nd.snoc hk hn).len;have:=hs.le;simp at *;omega
 |
  f+1,k,g,s,m,d,hs,hk,hn,hf=>by
  have ih:=zfr A hA hok f;have hB:=hBig;have hsl:=hs.nd.len;have hsp:=hs.post;have hAl:=hA.len;refine z8 (fn_x zjQ rfl ?_);unfold zfE;have hE:∀c∈suc A k,c < A.length:=hok k;have hstart:DfsI A.length (m+1) (d+1) (s.1++[k],s.2):=⟨hs.nd.snoc hk hn,by have:=hs.le;simp;omega,by simp;omega⟩;have hdfs:=zqi A f k s;have hrow:=hA.row k;rw[zB6 hk] at hE hdfs hrow
  (repeat first|simp(disch:=try exact dis1) only[evD,Nat.reduceBEq,Nat.reduceAdd,Nat.reduceLeDiff,zck,ordH,zqr,zmR,zbD,zo hk,zxq]|with_reducible first|intro _|refine aJ ?_)
  generalize hcs:A[k]=cs at hE hdfs hrow ⊢
  let S:=fun i:Nat=>(cs.take i).foldl (zcl A f) (s.1++[k],s.2)
  refine zm (fun a:Nat × Nat=>([(0,.int .i64 k),(1,.ptr 1 0 0 0 0),(3,.ptr 3 0 0 0 0),(4,.ptr 2 0 0 0 0),(14,zbD cs),(15,.int .i64 cs.length),(16,.int .i64 a.1)],ordH A (S a.1) a.2)) 5
   (fun a=>a.1≤cs.length) (fun a=>cs.length - a.1) (0,g) (Wd _) (Ent.tabB [(0,0,0),(1,1,0),(2,2,0),(3,3,0),(4,4,0)] [] rfl rfl rfl (by(try simp only[evWB,Nat.reduceBEq,Nat.reduceAdd,Nat.reduceSub,Nat.reduceLeDiff,Nat.reduceLT,implies_true,S,List.foldl_nil,ordH,zck,zmR])<;>exact fin4) (by(try simp only[evWB,Nat.reduceBEq,Nat.reduceAdd,Nat.reduceSub,Nat.reduceLeDiff,Nat.reduceLT,implies_true,S,List.foldl_nil,ordH,zck,zmR])<;>exact fin4)) ?_
  rintro⟨i,a0⟩ hi wf;simp only at hi;unfold zdM
  (repeat first|simp(disch:=try exact dis1) only[evD,Nat.reduceBEq,Nat.reduceAdd,Nat.reduceLeDiff,ordH,zbD]|with_reducible first|intro _|refine aJ ?_)
  have hS:DfsI A.length (m+1) (d+1) (S i):=zkC (zon hok f (m+1) (d+1)) (cs.take i) _ (fun c hc=>hE c (List.mem_of_mem_take hc)) hstart;have hSl:=hS.nd.len
  (refine zx (fun h=>?_) (fun h=>?_))<;>(try simp only[dcd] at h)
  ·
   have hi':i < cs.length:=by omega
   have hst:S (i+1)=zcl A f (S i) cs[i]:=zi4 hi';have hc:=hE cs[i] (We hi');generalize S i=s1 at hS hSl hst ⊢
   (repeat first|simp(disch:=try exact dis1) only[evD,Nat.reduceBEq,Nat.reduceAdd,Nat.reduceLeDiff,zo hi']|with_reducible first|intro _|refine aJ ?_)
   generalize cs[i]=c at hst hc ⊢
   (repeat first|simp(disch:=try exact dis1) only[evD,Nat.reduceBEq,Nat.reduceAdd,Nat.reduceLeDiff,zqr,zCs hc]|with_reducible first|intro _|refine aJ ?_)
   (refine zx (fun h2=>?_) (fun h2=>?_))<;>(try simp only[dcd] at h2)
   ·
    have e:zcl A f s1 c=dfs A f c s1:=by unfold zcl;rw[if_neg h2]
    rw[e] at hst
    (repeat first|simp(disch:=try exact dis1) only[evD,Nat.reduceBEq,Nat.reduceAdd,Nat.reduceLeDiff,zck]|with_reducible first|intro _|refine aJ ?_)
    refine⟨by kernel_rfl,?_⟩;refine zbq [(0,0,0),(1,1,0),(2,2,0),(3,3,0),(4,4,0)] 5 _ (ih c a0 s1 (m+1) (d+1) hS hc h2 (by omega)) rfl rfl (by(try simp only[evWB,Nat.reduceBEq,Nat.reduceAdd,Nat.reduceSub,Nat.reduceLeDiff,Nat.reduceLT,implies_true,ordH,zck])<;>exact fin4) (by(try simp only[evWB,Nat.reduceBEq,Nat.reduceAdd,Nat.reduceSub,Nat.reduceLeDiff,Nat.reduceLT,implies_true,ordH,zck])<;>exact fin4) ?_;rintro v H' nx' ⟨g',rfl,rfl,rfl⟩
    (repeat first|simp(disch:=try exact dis1) only[evD,Nat.reduceBEq,Nat.reduceAdd,Nat.reduceLeDiff,ordH,zck]|with_reducible first|intro _|refine aJ ?_)
    exact⟨(i+1,g'),by simp only;omega,by simp only;omega,(Ent.tabB [(0,0,0),(1,1,0),(2,2,0),(3,3,0),(4,4,0)] [] rfl rfl rfl (by(try simp only[evWB,Nat.reduceBEq,Nat.reduceAdd,Nat.reduceSub,Nat.reduceLeDiff,Nat.reduceLT,implies_true,hst,ordH,zck])<;>exact fin4) (by(try simp only[evWB,Nat.reduceBEq,Nat.reduceAdd,Nat.reduceSub,Nat.reduceLeDiff,Nat.reduceLT,implies_true,hst,ordH,zck])<;>exact fin4))⟩
   ·
    have e:zcl A f s1 c=s1:=by unfold zcl;rw[if_pos h2]
    rw[e] at hst
    (repeat first|simp(disch:=try exact dis1) only[evD,Nat.reduceBEq,Nat.reduceAdd,Nat.reduceLeDiff]|with_reducible first|intro _|refine aJ ?_)
    exact⟨(i+1,a0),by simp only;omega,by simp only;omega,(Ent.tabB [(0,0,0),(1,1,0),(2,2,0),(3,3,0),(4,4,0)] [] rfl rfl rfl (by(try simp only[evWB,Nat.reduceBEq,Nat.reduceAdd,Nat.reduceSub,Nat.reduceLeDiff,Nat.reduceLT,implies_true,hst,ordH,zck])<;>exact fin4) (by(try simp only[evWB,Nat.reduceBEq,Nat.reduceAdd,Nat.reduceSub,Nat.reduceLeDiff,Nat.reduceLT,implies_true,hst,ordH,zck])<;>exact fin4))⟩
  ·
   unfold zdY
   have hi':cs.length≤i:=by omega
   have hSe:S i=cs.foldl (zcl A f) (s.1++[k],s.2):=by simp only[S];rw[List.take_of_length_le hi']
   have:=hS.post
   (repeat first|simp(disch:=try exact dis1) only[evD,Nat.reduceBEq,Nat.reduceAdd,Nat.reduceLeDiff,zfp]|with_reducible first|intro _|refine aJ ?_)
   refine⟨.tup [],ordH A (dfs A (f+1) k s) (a0+1),5,?_,a0+1,rfl,rfl,rfl⟩;rw[hSe,hdfs];exact(Ent.tabB [(0,0,0),(1,1,0),(2,2,0),(3,3,0),(4,4,0)] [] rfl rfl rfl (by(try simp only[evWB,Nat.reduceBEq,Nat.reduceAdd,Nat.reduceSub,Nat.reduceLeDiff,Nat.reduceLT,implies_true,ordH,zck])<;>exact fin4) (by(try simp only[evWB,Nat.reduceBEq,Nat.reduceAdd,Nat.reduceSub,Nat.reduceLeDiff,Nat.reduceLT,implies_true,ordH,zck])<;>exact fin4))
def revP (l:List Nat) (i x:Nat):Nat:=if x < i∨l.length - i≤x then l.getD (l.length - 1 - x) 0 else l.getD x 0
def revL (l:List Nat) (i:Nat):List Nat:=(List.range l.length).map (revP l i)
theorem zAs {l:List Nat} {i:Nat}:(revL l i).length=l.length:=by simp[revL]
theorem zrf {l:List Nat}:revL l 0=l:=by
 apply Ww;intro x;unfold revL revP
 by_cases hx:x < l.length
 ·
  have:¬l.length≤x:=by omega
  simp[hx,Wf,this]
 · simp[hx]
theorem zzo {l:List Nat} {i:Nat} (h:l.length≤2 * i+1):revL l i=l.reverse:=by
 apply Ww;intro x;unfold revL revP
 by_cases hx:x < l.length
 ·
  rw[List.getElem?_reverse hx];simp only[Wu,List.getElem?_range hx,Option.map_some]
  by_cases hc:x < i∨l.length - i≤x
  · rw[if_pos hc];rw[Wf,Wm (show l.length - 1 - x < l.length by omega)];rfl
  · rw[if_neg hc,show l.length - 1 - x=x by omega,Wf,Wm hx];rfl
 · simp[hx]
theorem zuG {l:List Nat} {i x:Nat} (hx:x < l.length):((revL l i).map cN).getD x []=[.int .i64 (revP l i x:Int)]:=by simp[revL,Wf,hx]
theorem zxd {l:List Nat} {i:Nat} (h:2 * i+1 < l.length) :
  (((revL l i).map cN).set i [.int .i64 (revP l i (l.length - 1 - i):Int)]).set (l.length - 1 - i) [.int .i64 (revP l i i:Int)]=(revL l (i+1)).map cN:=by
 unfold revL;rw[Wg,Wg,zdV,zdV]
 refine Wv fun x hx=>?_
 have hx':=List.mem_range.1 hx;unfold updF;simp only[Function.comp]
 by_cases h1:x=l.length - 1 - i
 · rw[if_pos h1];unfold revP;rw[if_neg (by omega),if_pos (by omega),show l.length - 1 - x=i by omega]
 ·
  rw[if_neg h1]
  by_cases h2:x=i
  · rw[if_pos h2];unfold revP;rw[if_neg (by omega),if_pos (by omega),h2]
  ·
   rw[if_neg h2];unfold revP
   by_cases h3:x < i∨l.length - i≤x
   · rw[if_pos h3,if_pos (by omega)]
   · rw[if_neg h3,if_neg (by omega)]
theorem zlX (l:List Nat) (g:Nat) (hl:l.length≤1000000):z7 Tryz.prog zbW [.own 0 0 g 0 l.length] [(0,.row 1 (l.map cN) g)] 1
  (fun v H nx=>v=.tup []∧H=[(0,.row 1 (l.reverse.map cN) g)]∧nx=1):=by
 refine z8 (fn_x zhr rfl ?_);unfold zdh;have hB:=hBig
 (repeat first|simp(disch:=try exact dis1) only[evD,Nat.reduceBEq,Nat.reduceAdd,Nat.reduceLeDiff]|with_reducible first|intro _|refine aJ ?_)
 refine zm (fun i:Nat=>([(0,.own 0 0 g 0 l.length),(2,.int .i64 i),(3,.int .i64 ((l.length:Int) - 1 - i))],[(0,.row 1 ((revL l i).map cN) g)])) 1 (fun i=>2 * i≤l.length+1) (fun i=>l.length+1 - i) 0 (by omega) (Ent.tabB [(0,0,0)] [] rfl rfl rfl (by(try simp only[evWB,Nat.reduceBEq,Nat.reduceAdd,Nat.reduceSub,Nat.reduceLeDiff,Nat.reduceLT,implies_true,zrf])<;>exact fin4) (by(try simp only[evWB,Nat.reduceBEq,Nat.reduceAdd,Nat.reduceSub,Nat.reduceLeDiff,Nat.reduceLT,implies_true,zrf])<;>exact fin4)) ?_;intro i hi wf;unfold zcq
 (repeat first|simp(disch:=try exact dis1) only[evD,Nat.reduceBEq,Nat.reduceAdd,Nat.reduceLeDiff]|with_reducible first|intro _|refine aJ ?_)
 (refine zx (fun h=>?_) (fun h=>?_))<;>(try simp only[dcd] at h)
 ·
  have e:((l.length:Int) - 1 - i).toNat=l.length - 1 - i:=by omega
  (repeat first|simp(disch:=try exact dis1) only[evD,Nat.reduceBEq,Nat.reduceAdd,Nat.reduceLeDiff,e,zAs,zuG (l:=l) (i:=i) (show l.length - 1 - i < l.length by omega),zuG (l:=l) (i:=i) (show i < l.length by omega),List.length_set]|with_reducible first|intro _|refine aJ ?_)
  rw[zxd (by omega)];exact⟨i+1,by omega,by omega,(Ent.tabB [(0,0,0)] [] rfl rfl rfl (by(try simp only[evWB,Nat.reduceBEq,Nat.reduceAdd,Nat.reduceSub,Nat.reduceLeDiff,Nat.reduceLT,implies_true])<;>exact fin4) (by(try simp only[evWB,Nat.reduceBEq,Nat.reduceAdd,Nat.reduceSub,Nat.reduceLeDiff,Nat.reduceLT,implies_true])<;>exact fin4))⟩
 ·
  (repeat first|simp(disch:=try exact dis1) only[evD,Nat.reduceBEq,Nat.reduceAdd,Nat.reduceLeDiff,zdb]|with_reducible first|intro _|refine aJ ?_)
  refine⟨.tup [],[(0,.row 1 (l.reverse.map cN) g)],1,?_,rfl,rfl,rfl⟩;rw[zzo (by omega)];exact(Ent.tabB [(0,0,0)] [] rfl rfl rfl (by(try simp only[evWB,Nat.reduceBEq,Nat.reduceAdd,Nat.reduceSub,Nat.reduceLeDiff,Nat.reduceLT,implies_true])<;>exact fin4) (by(try simp only[evWB,Nat.reduceBEq,Nat.reduceAdd,Nat.reduceSub,Nat.reduceLeDiff,Nat.reduceLT,implies_true])<;>exact fin4))
def ordL (A:Adj) (r:Nat):List Nat:=(dfs A A.length r ([],[])).2.reverse
theorem zB4 {A:Adj} (hok:A.ok) {r:Nat} (hr:r < A.length):DfsI A.length 0 0 (dfs A A.length r ([],[])) :=
 zon hok A.length 0 0 r _ ⟨⟨by simp,by simp⟩,by simp,by simp⟩ hr (by simp)
theorem zlK (A:Adj) (hA:A.small) (hok:A.ok) (r:Nat) (hr:r < A.length):zk Tryz.prog zcM [zmR A,.int .i64 r] (·=zbD (ordL A r)):=by
 refine fn_x zhe rfl ?_;unfold zd7;have hB:=hBig;have hn:=hA.len;have hd:=zB4 hok hr;have hdl:=hd.nd.len;have hdp:=hd.post;have h0:DfsI A.length 0 0 ([],[]):=⟨⟨by simp,by simp⟩,by simp,by simp⟩
 (repeat first|simp(disch:=try exact dis1) only[evD,Nat.reduceBEq,Nat.reduceAdd,Nat.reduceLeDiff,zmR]|with_reducible first|intro _|refine aJ ?_)
 (refine zx (fun h=>?_) (fun h=>?_))<;>(try simp only[dcd] at h)
 · omega
 (repeat first|simp(disch:=try exact dis1) only[evD,Nat.reduceBEq,Nat.reduceAdd,Nat.reduceLeDiff]|with_reducible first|intro _|refine aJ ?_)
 refine⟨by kernel_rfl,?_⟩;refine zbq [(0,1,0),(1,2,0),(2,3,0),(3,4,0)] 5 _ (zfr A hA hok A.length r 0 ([],[]) 0 0 h0 hr (by simp) (by omega)) rfl rfl (by(try simp only[evWB,Nat.reduceBEq,Nat.reduceAdd,Nat.reduceSub,Nat.reduceLeDiff,Nat.reduceLT,implies_true,ordH,zck,zp5,zmR])<;>exact fin4) (by(try simp only[evWB,Nat.reduceBEq,Nat.reduceAdd,Nat.reduceSub,Nat.reduceLeDiff,Nat.reduceLT,implies_true,ordH,zck,zp5,zmR])<;>exact fin4) ?_;rintro v H' nx' ⟨g',rfl,rfl,rfl⟩;unfold ordL;generalize dfs A A.length r ([],[])=s at hdl hdp ⊢
 (repeat first|simp(disch:=try exact dis1) only[evD,Nat.reduceBEq,Nat.reduceAdd,Nat.reduceLeDiff,ordH,zck]|with_reducible first|intro _|refine aJ ?_)
 refine zbq [(0,9,0)] 1 _ (zlX s.2 g' (by omega)) rfl rfl (by(try simp only[evWB,Nat.reduceBEq,Nat.reduceAdd,Nat.reduceSub,Nat.reduceLeDiff,Nat.reduceLT,implies_true])<;>exact fin4) (by(try simp only[evWB,Nat.reduceBEq,Nat.reduceAdd,Nat.reduceSub,Nat.reduceLeDiff,Nat.reduceLT,implies_true])<;>exact fin4) ?_;rintro v H' nx' ⟨rfl,rfl,rfl⟩
 (repeat first|simp(disch:=try exact dis1) only[evD,Nat.reduceBEq,Nat.reduceAdd,Nat.reduceLeDiff,zd4]|with_reducible first|intro _|refine aJ ?_)
 refine⟨_,?_,rfl⟩;rw[show s.2.length=s.2.reverse.length by simp];exact znJ trivial rfl (by simp;omega)
theorem zjO (A:Adj) (r:Nat) (hr:A.length≤r):zk Tryz.prog zcM [zmR A,.int .i64 r] (·=zbD []):=by
 refine fn_x zhe rfl ?_;unfold zd7
 (repeat first|simp(disch:=try exact dis1) only[evD,Nat.reduceBEq,Nat.reduceAdd,Nat.reduceLeDiff,zmR]|with_reducible first|intro _|refine aJ ?_)
 (refine zx (fun h=>?_) (fun h=>?_))<;>(try simp only[dcd] at h)
 ·
  (repeat first|simp(disch:=try exact dis1) only[evD,Nat.reduceBEq,Nat.reduceAdd,Nat.reduceLeDiff,zd4]|with_reducible first|intro _|refine aJ ?_)
  refine⟨_,?_,rfl⟩;exact znJ (l:=[]) trivial rfl (Wd _)
 · omega
theorem zly (g:Gr) (hg:g.small):zk Tryz.prog zeH [.agg g.cells] (·=zbD (orderL g.E)):=by
 refine fn_x zlF rfl ?_;unfold zg1
 (repeat first|simp(disch:=try exact dis1) only[evD,Nat.reduceBEq,Nat.reduceAdd,Nat.reduceLeDiff,Gr.cells,Gr.two]|with_reducible first|intro _|refine aJ ?_)
 refine zc (zg (zm1 g hg) rfl) ?_
 (repeat first|simp(disch:=try exact dis1) only[evD,Nat.reduceBEq,Nat.reduceAdd,Nat.reduceLeDiff]|with_reducible first|intro _|refine aJ ?_)
 by_cases h0:0 < g.E.length
 ·
  refine zc (zg (zlK g.E (Gr.E_small hg) g.E_ok 0 h0) rfl) ?_
  (repeat first|simp(disch:=try exact dis1) only[evD,Nat.reduceBEq,Nat.reduceAdd,Nat.reduceLeDiff,zdS]|with_reducible first|intro _|refine aJ ?_)
  refine⟨_,.sl _ _ _ _,?_⟩
  have:orderL g.E=ordL g.E 0:=by unfold orderL ordL;rw[if_neg (by omega)]
  rw[this];rfl
 ·
  refine zc (zg (zjO g.E 0 (by omega)) rfl) ?_
  (repeat first|simp(disch:=try exact dis1) only[evD,Nat.reduceBEq,Nat.reduceAdd,Nat.reduceLeDiff,zdS]|with_reducible first|intro _|refine aJ ?_)
  refine⟨_,.sl _ _ _ _,?_⟩
  have:orderL g.E=[]:=by unfold orderL;rw[if_pos (by omega)]
  rw[this];rfl
end Go.Ab.Dm
