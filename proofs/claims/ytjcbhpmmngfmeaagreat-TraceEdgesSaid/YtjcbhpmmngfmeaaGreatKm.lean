/-
  Part 13 of the proof: how the calls of this program run, over values instead of memory, and what each function computes.
-/
import Derived.Test.YtjcbhpmmngfmeaaGreatKl
set_option maxRecDepth 100000
set_option linter.unusedVariables false
set_option linter.unusedSimpArgs false
set_option linter.unnecessarySimpa false
set_option linter.unusedSectionVars false
open Nat renaming le_refl→Wa,zero_le→Wn,lt_or_ge→WG,zero_add→WK,le_trans→WV,min_eq_left→W3,add_sub_cancel→Wak,lt_succ_self→WaJ
open List renaming getElem?_eq_getElem→Wc,length_map→Wd,mem_singleton→We,getElem_mem→Wf,getD→Wh,mem_cons→Wi,mem_map→Wj,mem_append→Wo,getD_cons_succ→Wp,getD_cons_zero→Wq,length_take→Wv,map_append→Ww,take_length→Wx,length_append→Wy,append_nil→Wz,pairwise_iff_getElem→WA,length_cons→WB,getElem?_eq_some_iff→WC,map_nil→WE,length_singleton→WF,mem_iff_getElem→WI,getD_eq_getElem?_getD→WJ,take_of_length_le→WL,map_cons→WM,mem_range→WO,getElem?_modify→WQ,getElem?_mapIdx→WR,replicate→WW,eq_nil_of_length_eq_zero→WX,count_eq_zero→WY,pairwise_cons→WZ,take_zero→W0,mem_mapIdx→W6,getElem?_eq_none→W7,any_append→W9,nodup_nil→Waa,range→Wab,take_add_one→Wac,all_eq_true→Wad,nodup_cons→Wae,nodup_iff_pairwise_ne→Waf,getElem?_map→Wag,mem_or_eq_of_mem_set→Wah,getElem_append_left→Wai,map_singleton→Waj,getLast?_eq_getElem?→Wal,take_append_of_le_length→Wam,any_eq_true→Wan,findIdx?_eq_none_iff→Wao,nodup_append→Wap,findIdx?_eq_some_iff_getElem→Waq,ext_getElem?→War,getElem?_concat_length→Was,not_mem_nil→Wat,ext_getElem→Wau,getElem_range→Wav,flatMap_append→Waw,length_range→Wax,take_append_drop→Waz,all_eq_false→WaA,mem_cons_of_mem→WaB,mem_erase_of_ne→WaC,getElem_take→WaD,getElem?_append_right→WaG,mem_of_getLast?→WaH,dropLast_subset→WaI
open Int renaming toNat_natCast→Wg,le_refl→Wk,toNat_zero→WN,toNat_of_nonneg→W5
open Bool renaming and_eq_true→Wl,false_and→Wt,true_and→Wu,eq_iff_iff→WP,not_eq_true'→WaE
open Option renaming bind_some→Wm,map_some→Ws,map_eq_map→WS,map_eq_some_iff→WU
open Prod renaming fst→Wr
open And renaming intro→WD
open Option.some renaming injEq→WH
open Prod.mk renaming injEq→W8
open Array renaming getElem?_modify→WaF
namespace Go.Ab
open Go.RowKit Go.Proofs
theorem zzV {p:PC} {k n:Nat} (h:tlen p k=some n):∃s l,p.st[k]? = some s∧s.to=some l∧l.length=n:=by
 unfold tlen at h
 cases hs:p.st[k]? with
 | none=>rw[hs] at h;cases h
 |
  some s =>
  rw[hs] at h;simp only[Wm] at h
  cases ht:s.to with
  | none=>rw[ht] at h;cases h
  | some l=>rw[ht] at h;cases h;exact⟨s,l,rfl,ht,rfl⟩
theorem zlf:∀l:List Nd,l.length≤z6 l
 | []=>Wn _
 |
  e::l=>by
  have:=zlf l;have:=znb e;rw[z6,WB];omega
def zpm (p:PC) (ends:List Int):Prop:=∀k∈ends,0≤k∧zjV p k.toNat 1
theorem zpm.keep {p q:PC} {ends:List Int} (h:zpm p ends) (k:Keep p q):zpm q ends:=fun x hx=>⟨(h x hx).1,k.to _ _ (h x hx).2⟩
theorem zt0 (at':Nat):∀(l:List Nd) (p:PC) (ends:List Int),zpm p ends→zpm (brP at' l p ends).1 (brP at' l p ends).2∧(brP at' l p ends).2.length=ends.length+l.length
 | [],p,ends,h=>by rw[brP];exact⟨h,by simp⟩
 |
  n::l,p,ends,h=>by
  rw[brP];have h1:Keep p (zaC n (appTo p at' p.st.length)):=(zjC p at' p.st.length).trans (zbW n _).keep
  have h2:zpm (zaA (zaC n (appTo p at' p.st.length)) 0) (ends++[((zaC n (appTo p at' p.st.length)).st.length:Int)]):=fun k hk=>by
   rcases Wo.1 hk with hk|hk
   · exact(h.keep (h1.trans (zbO _ _))) k hk
   · rw[We.1 hk];exact⟨by omega,by rw[Wg];exact zmg _ _⟩
  obtain⟨a,b⟩:=zt0 at' l _ _ h2;refine⟨a,?_⟩;rw[b];simp;omega
theorem zud (at':Nat):∀(l:List Nd) (p:PC) (ends:List Int) (n:Nat),at' < p.st.length→tlen p at'=some n→tlen (brP at' l p ends).1 at'=some (n+l.length)
 | [],p,ends,n,h1,h2=>by rw[brP];simpa using h2
 |
  e::l,p,ends,n,h1,h2=>by
  rw[brP]
  have e1:at' < (appTo p at' p.st.length).st.length:=by simpa [appTo] using h1
  have e2:=(zbW e (appTo p at' p.st.length)).keep.len
  have h3:tlen (zaA (zaC e (appTo p at' p.st.length)) 0) at'=some (n+1):=by rw[show tlen (zaA (zaC e (appTo p at' p.st.length)) 0) at'=tlen (zaC e (appTo p at' p.st.length)) at' from zbC (b:=at'+1) (by omega) at' (by omega),zes e _ (at'+1) (by omega) at' (by omega)];exact zm6 h2
  have:=zud at' l (zaA (zaC e (appTo p at' p.st.length)) 0) (ends++[((zaC e (appTo p at' p.st.length)).st.length:Int)]) (n+1) (by simp[zaA,addP];omega) h3;rw[this,WB]
  congr 1
  omega
theorem znV {q:PC} {ks:List Int} {v:Int} {j:Nat} (h:j < ks.length):putAll q (ks.take (j+1)) v=setTo (putAll q (ks.take j) v) ks[j].toNat 0 v:=by unfold putAll;rw[List.take_succ_eq_append_getElem h,List.foldl_append];rfl
theorem zxa {p:PC} {k n:Nat} (h:zjV p k n):∃(hk:k < p.st.length) (l:List Int),p.st[k].to=some l∧n≤l.length:=by obtain⟨s,l,h1,h2,h3⟩:=h;have hk:=(WC.1 h1).1;refine⟨hk,l,?_,h3⟩;rw[Wc hk] at h1;rw[Option.some.inj h1];exact h2
theorem zh0 {M:Nat} {p:PC} {γ:Gn} (hok:OkC p γ) {k n:Nat} (h:zjV p k n) (hM:p.st.length≤M):∃(hk:k < p.st.length) (l:List Int),γ.tl k=l∧n≤l.length∧(stC γ.gt p.st).getD k []=[.int .i64 p.st[k].kind,.int .i64 p.st[k].block,.own 5 (k+1) (γ.gt k) 0 l.length]∧(fi cI M γ.tl γ.gt)[k]? = some ((γ.tl k).map cI,γ.gt k):=by obtain⟨hk,l,h1,h2⟩:=zxa h;refine⟨hk,l,hok.to k hk l h1,h2,?_,zkp (by omega)⟩;rw[zqi hk,cS,h1,toV]
theorem zkZ (
       M:Nat) (hM:M≤1000000) (l:List Nd) (hn:∀e∈l,zec M e):BrOk M l:=by
 intro p γ T N hok hlp hT hl1 hl2 hgot hst;refine z8 (fn_x ziN rfl ?_);unfold zd5 zqb;have hB:=hBig;have h8:=hT.eight
 (refine Qa ?_;intros)
 refine(zcR M p γ T N 1 (-1) hok hT (by omega)).mono ?_;rintro x H N1 ⟨hN1,rfl,ok1,rfl⟩
 have sx0:zjR p.lp.length γ (addG γ):=fun _ _=>rfl
 generalize addG γ=γ1 at *;have hT1:=hT.up hN1;obtain⟨n0,n1,n2,n3,n4,n5,n6,n7⟩:=ne8 hT1.eight;have tN:T.look N1=none:=hT1.none (Wa _);simp only[cH]
 (repeat first|simp(disch:=try exact dis1) only[evD,Nat.reduceBEq,Nat.reduceAdd,Nat.reduceLeDiff,n0,n1,n2,n3,n4,n5,n6,n7,tN]|with_reducible first|intro _|refine aJ ?_)
 have e0:brP p.st.length (l.take 0) (zaQ p) []=(zaQ p,[]):=by rw[W0,brP]
 have hlt:∀(g:Nat) (e:List Int),TailOk (N1+1) (T.put N1 (.row 1 (e.map cI) g)):=fun g e=>hT1.put 1 (e.map cI) (zn5 fun _=>rfl) g
 refine zk (fun s:Nat × Gn=>([(0,.ptr 0 0 0 0 0),(4,.int .i64 p.st.length),(5,.own N1 0 s.1 0 s.1),(13,encL 5 encN l),(14,.int .i64 l.length),(15,.int .i64 s.1)],cH M (brP p.st.length (l.take s.1) (zaQ p) []).1 s.2 (T.put N1 (.row 1 ((brP p.st.length (l.take s.1) (zaQ p) []).2.map cI) s.1)))) (N1+1)
  (fun s=>s.1≤l.length∧OkC (brP p.st.length (l.take s.1) (zaQ p) []).1 s.2∧zjR p.lp.length γ s.2) (fun s=>l.length - s.1) (0,zpI γ1 p.st.length) ⟨Wn _,?_,sx0⟩ ?_ ?_
 · rw[e0];exact zuf 1 (-1) ok1
 ·
  have ok2:=zuf 1 (-1) ok1;simp only[e0];refine Ent.trans (zxI (k:=1) (b := -1) (γ:=γ1) (K2:=[(0,.ptr 0 0 0 0 0),(4,.int .i64 p.st.length),(5,.own N1 0 0 0 0),(13,encL 5 encN l),(14,.int .i64 l.length),(15,.int .i64 0)]) (by omega) (by omega) (fun r o h=>((hlt 0 []).num r o h).1) ⟨.same _,.same _,.same _,.same _,.same _,.same _,trivial⟩) ?_;refine Ent.low (by omega) (fun _ _ h=>h) (zk0 ok2 (hlt 0 [])) ?_
  refine⟨⟨rfl,?_⟩,⟨rfl,?_⟩,⟨rfl,?_⟩,⟨rfl,?_⟩,⟨rfl,?_⟩,⟨rfl,?_⟩,trivial⟩<;>simp[AV.lt1,AV.lt0,encL]
 ·
  rintro⟨i,γ2⟩ ⟨hi,ok2,sx2⟩ wf;simp only at hi ok2 sx2 ⊢;clear wf;unfold zdf;have hs0:PostP 1 p (zaQ p):=PostP.add p _;have hq:=hs0.trans (zp4 p.st.length (l.take i) (zaQ p) [])
  have hst0:(zaQ p).st.length=p.st.length+1:=by simp[zaQ,addP]
  have htl:=zud p.st.length (l.take i) (zaQ p) [] 0 (by omega) (by unfold tlen zaQ addP;simp);have hen:=zt0 p.st.length (l.take i) (zaQ p) [] (fun k hk=>by cases hk);rw[Wv,W3 hi,WK] at htl;rw[Wv,W3 hi,List.length_nil,WK] at hen
  by_cases hl:i < l.length
  ·
   have hbt:=zyO (at':=p.st.length) (p:=zaQ p) (ends:=[]) hl;generalize brP p.st.length (l.take i) (zaQ p) []=R at *;obtain⟨q,ends⟩:=R;simp only at hq htl hen ok2 hbt ⊢;obtain⟨s,lst,hs,hto,hll⟩:=zzV htl;have hat:=(WC.1 hs).1;have hsz:=zkX hl;have hszl:=zlf l;have hpos:=znb l[i];have hlen:=hq.len;have hg2:=hq.got;have hlp2:=hq.lp.1;have hlk:=hq.keep.len
   have hstg:(stC γ2.gt q.st).getD p.st.length []=[.int .i64 s.kind,.int .i64 s.block,.own 5 (p.st.length+1) (γ2.gt p.st.length) 0 i]:=by
    have e:q.st[p.st.length]=s:=by rw[Wc hat] at hs;exact Option.some.inj hs
    rw[zqi hat,e,cS,hto,toV,hll]
   have htl2:γ2.tl p.st.length=lst:=ok2.to _ hat _ (by rw[Wc hat] at hs;rw[Option.some.inj hs];exact hto)
   have hfi:(fi cI M γ2.tl γ2.gt)[p.st.length]? = some (lst.map cI,γ2.gt p.st.length):=by rw[zkp (by omega),htl2]
   have htk:(lst.map cI).take i=lst.map cI:=WL (by simp;omega);have hslen:(stC γ2.gt q.st).length=q.st.length:=zco;have hT2:=(hlt i ends).put 5 [encN l[i]] (zhP (fun c hc=>by rw[We.1 hc];exact zaH));obtain⟨m0,m1,m2,m3,m4,m5,m6,m7⟩:=ne8 (show 8≤N1+1 by omega);obtain⟨v0,v1,v2,v3,v4,v5,v6,v7⟩:=ne8 (show 8≤N1+1+1 by omega);have t1:=hT1.put1 (show N1 < N1+1 by omega);have t2:=hT1.put2 (show N1 < N1+1 by omega) (show N1+1 < N1+1+1 by omega);simp only[cH]
   (repeat first|simp(disch:=try exact dis1) only[evD,Nat.reduceBEq,Nat.reduceAdd,Nat.reduceLeDiff,dT,dF,fldP,n0,n1,n2,n3,n4,n5,n6,n7,m0,m1,m2,m3,m4,m5,m6,m7,v0,v1,v2,v3,v4,v5,v6,v7,t1,t2,tN,zC,zK,znS,zm hl,zbR,zbe,hstg,hfi,htk,hslen,Wg]|with_reducible first|intro _|refine aJ ?_)
   refine zgc (fun _:Unit=>([(0,.ptr 0 0 0 0 0),(4,.int .i64 p.st.length),(5,.own N1 0 i 0 i),(7,.ptr (N1+1) 0 0 0 0),(13,encL 5 encN l),(14,.int .i64 l.length),(15,.int .i64 i)],cH M (appTo q p.st.length q.st.length) (appG γ2 p.st.length lst q.st.length) ((T.put N1 (.row 1 (ends.map cI) i)).put (N1+1) (.row 5 [encN l[i]] 0)))) (N1+1+1) (fun _=>True) ?_ ?_
   ·
    (refine Qa ?_;intros)
    refine zbT (zgn (by rfl) (by rfl) (by simp[zco]) (by omega)) ?_
    (repeat first|simp(disch:=try exact dis1) only[evD,Nat.reduceBEq,Nat.reduceAdd,Nat.reduceLeDiff,dT,dF,fldP,n0,n1,n2,n3,n4,n5,n6,n7,m0,m1,m2,m3,m4,m5,m6,m7,v0,v1,v2,v3,v4,v5,v6,v7,t1,t2,tN,zC,zK,znS,zm hl,zbR,zbe,hstg,hfi,htk,hslen,Wg,zyl]|with_reducible first|intro _|refine aJ ?_)
    (repeat' apply WD)
    all_goals try omega
    all_goals (refine⟨(),Ent.low (by omega) ?_ (zk0 (zr3 ok2 _ hs hto) hT2) ?_⟩)
    all_goals first
     | (
       rw[zBK hs hto,hll]
       exact zj (zj (zj (zj (zj (zj (zj (zj (fun x o h=>by
       have:=hT2.num x o h;rw[AH.look_put,if_neg (by omega)]
       exact h))))))))
       done)
     | (refine⟨⟨rfl,?_⟩,⟨rfl,?_⟩,⟨rfl,?_⟩,⟨rfl,?_⟩,⟨rfl,?_⟩,⟨rfl,?_⟩,⟨rfl,?_⟩,trivial⟩<;>simp[AV.lt1,AV.lt0,encL]<;>omega)
   ·
    rintro⟨⟩ _ wf;clear wf;simp only;unfold zdg;have ok3:=zr3 ok2 (q.st.length:Int) hs hto;have hpa:=PostP.appTo q p.st.length q.st.length;have hlen3:=hpa.len;have hg3:=hpa.got;have hlp3:=hpa.lp.1;have hlq:LpOk (appTo q p.st.length q.st.length):=hpa.ok (hq.ok hlp);have hs1:=zkO hst l[i] (Wf hl);rw[zoB (hlp3.trans hlp2).symm] at hs1;have sx3:zjR p.lp.length γ (appG γ2 p.st.length lst q.st.length):=sx2
    have hst3:(appTo q p.st.length q.st.length).st.length=q.st.length:=by simp[appTo]
    generalize appTo q p.st.length q.st.length=q3 at *;generalize appG γ2 p.st.length lst q.st.length=γ3 at *;simp only[cH]
    (repeat first|simp(disch:=try exact dis1) only[evD,Nat.reduceBEq,Nat.reduceAdd,Nat.reduceLeDiff,dT,dF,fldP,n0,n1,n2,n3,n4,n5,n6,n7,m0,m1,m2,m3,m4,m5,m6,m7,t1,t2,tN,zC,zK,znS,zm hl,zbR,zbe,Wg]|with_reducible first|intro _|refine aJ ?_)
    refine(hn l[i] (Wf hl) q3 γ3 ((T.put N1 (.row 1 (ends.map cI) i)).put (N1+1) (.row 5 [encN l[i]] 0)) (N1+1+1) ok3 hlq hT2 (by omega) (by omega) (by omega) hs1).mono ?_;rintro x H N3 ⟨hN3,γ4,ok4,sx4,rfl⟩
    (refine Qa ?_;intros)
    have hlp4:=(zbW l[i] q3).len;refine(zcT M (zaC l[i] q3) γ4 ((T.put N1 (.row 1 (ends.map cI) i)).put (N1+1) (.row 5 [encN l[i]] 0)) N3 0 ok4 (hT2.up hN3) (by omega) hM).mono ?_;rintro x H N4 ⟨hN4,rfl,ok5,rfl⟩;obtain⟨w0,w1,w2,w3,w4,w5,w6,w7⟩:=ne8 (show 8≤N4 by omega);have y1:((T.put N1 (.row 1 (ends.map cI) i)).put (N1+1) (.row 5 [encN l[i]] 0)).look N4=none:=hT2.none (by omega)
    have y2:∀o,(((T.put N1 (.row 1 (ends.map cI) i)).put (N1+1) (.row 5 [encN l[i]] 0)).put N4 o).look N1=some (.row 1 (ends.map cI) i):=fun o=>by rw[AH.look_put,if_neg (by omega),AH.look_put,if_neg (by omega),zK]
    have hel:(ends.map cI).take i=ends.map cI:=WL (by simp;omega)
    have hell:(ends.map cI).length=i:=by simp;omega
    simp only[cH]
    (repeat first|simp(disch:=try exact dis1) only[evD,Nat.reduceBEq,Nat.reduceAdd,Nat.reduceLeDiff,dT,dF,n0,n1,n2,n3,n4,n5,n6,n7,w0,w1,w2,w3,w4,w5,w6,w7,y1,y2,zC,zK,hel,hell]|with_reducible first|intro _|refine aJ ?_)
    have ok6:OkC (brP p.st.length (l.take (i+1)) (zaQ p) []).1 (zhX γ4 (zaC l[i] q3).st.length [0]):=by rw[hbt];exact ok5
    refine⟨(i+1,zhX γ4 (zaC l[i] q3).st.length [0]),⟨hl,ok6,sx3.trans sx4 (by omega)⟩,by omega,Ent.low (by omega) ?_ (zk0 ok6 (hlt _ _)) ?_⟩
    ·
     simp only;rw[hbt];simp only[Ww,WM,WE,cH]
     exact zj (zj (zj (zj (zj (zj (zj (zj (fun x o h=>by
      rw[AH.look_put] at h ⊢
      by_cases hx:x=N1
      · rw[if_pos hx] at h ⊢;exact h
      ·
       rw[if_neg hx] at h ⊢;have:=hT1.num x o h;rw[AH.look_put,if_neg (by omega),AH.look_put,if_neg (by omega),AH.look_put,if_neg hx]
       exact h))))))))
    · refine⟨⟨rfl,?_⟩,⟨rfl,?_⟩,⟨rfl,?_⟩,⟨rfl,?_⟩,⟨rfl,?_⟩,⟨rfl,?_⟩,trivial⟩<;>simp[AV.lt1,AV.lt0,encL]
  ·
   have hi2:i=l.length:=by omega
   subst hi2;rw[Wx] at hq htl hen ok2 ⊢;generalize brP p.st.length l (zaQ p) []=R at *;obtain⟨q,ends⟩:=R;simp only at hq htl hen ok2 ⊢;have hszl:=zlf l;have hlen:=hq.len;simp only[cH]
   (refine Qk ?_;intros)
   unfold zc8
   (refine Qa ?_;intros)
   refine zk (fun s:Nat × Gn=>([(0,.ptr 0 0 0 0 0),(47,.own N1 0 l.length 0 l.length),(48,.int .i64 l.length),(49,.int .i64 s.1)],cH M (putAll q (ends.take s.1) q.st.length) s.2 (T.put N1 (.row 1 (ends.map cI) l.length)))) (N1+1)
    (fun s=>s.1≤l.length∧OkC (putAll q (ends.take s.1) q.st.length) s.2∧zjR p.lp.length γ s.2) (fun s=>l.length - s.1) (0,γ2) ⟨Wn _,ok2,sx2⟩ ?_ ?_
   ·
    refine Ent.low (by omega) (fun _ _ h=>h) (zk0 ok2 (hlt _ _)) ?_
    refine⟨⟨rfl,?_⟩,⟨rfl,?_⟩,⟨rfl,?_⟩,⟨rfl,?_⟩,trivial⟩<;>simp[AV.lt1,AV.lt0,encL]
   ·
    rintro⟨j,γ3⟩ ⟨hj,ok3,sx3⟩ wf;simp only at hj ok3 sx3 ⊢;clear wf;unfold zde;have hkp:=zb8 (ends.take j) q q.st.length;have hkl:=zey (ends.take j) q q.st.length
    by_cases hl:j < l.length
    ·
     have hje:j < ends.length:=by omega
     have hpt:=znV (q:=q) (v:=q.st.length) hje;have hek:=hen.1 ends[j] (Wf hje);generalize putAll q (ends.take j) q.st.length=r at *;obtain⟨hk,lst,h1,h2,h3,h4⟩:=zh0 (M:=M) ok3 (hkp.to _ _ hek.2) (by omega);have hge:(ends.map cI).getD j []=[.int .i64 ends[j]]:=zm (f:=cI) hje;have hnn:(ends[j].toNat:Int)=ends[j]:=W5 hek.1;generalize ends[j].toNat=k at *;rw[←hnn] at hge;clear hnn hek;have hslen:(stC γ3.gt r.st).length=r.st.length:=zco
     have hell:(ends.map cI).length=l.length:=by simp;omega
     have htll:((γ3.tl k).map cI).length=lst.length:=by rw[Wd,h1]
     simp only[cH]
     (repeat first|simp(disch:=try exact dis1) only[evD,Nat.reduceBEq,Nat.reduceAdd,Nat.reduceLeDiff,dT,dF,n0,n1,n2,n3,n4,n5,n6,n7,zC,zK,hge,hell,h3,h4,hslen,htll,Wg]|with_reducible first|intro _|refine aJ ?_)
     refine zbT (zgn (by rfl) (by rfl) (by simp[zco]) (by omega)) ?_
     have hpos:0 < lst.length:=by omega
     (repeat first|simp(disch:=try exact dis1) only[evD,Nat.reduceBEq,Nat.reduceAdd,Nat.reduceLeDiff,dT,dF,n0,n1,n2,n3,n4,n5,n6,n7,zC,zK,hge,hell,h3,h4,hslen,htll,Wg,WN,zqx]|with_reducible first|intro _|refine aJ ?_)
     have ok4:=zlm ok3 k 0 (q.st.length:Int);refine⟨(j+1,setG γ3 k 0 q.st.length),⟨hl,by rw[hpt];exact ok4,sx3⟩,by omega,Ent.low (by omega) ?_ (zk0 (by rw[hpt];exact ok4) (hlt _ _)) ?_⟩
     · intro x o hx;have hx2:(cH M (putAll q (ends.take (j+1)) q.st.length) (setG γ3 k 0 q.st.length) (T.put N1 (.row 1 (ends.map cI) l.length))).look x=some o:=hx;rw[hpt,zqM] at hx2;rw[hkl];rw[hkl] at hx2;exact hx2
     · refine⟨⟨rfl,?_⟩,⟨rfl,?_⟩,⟨rfl,?_⟩,⟨rfl,?_⟩,trivial⟩<;>simp[AV.lt1,AV.lt0,encL]
    ·
     have hj2:j=ends.length:=by omega
     subst hj2;rw[Wx] at ok3 ⊢;simp only[cH]
     (repeat first|simp(disch:=try exact dis1) only[evD,Nat.reduceBEq,Nat.reduceAdd,Nat.reduceLeDiff,dF,zed]|with_reducible first|intro _|refine aJ ?_)
     exact⟨_,_,N1+1,zcQ (p:=putAll q ends q.st.length) (by omega) hT1 rfl,by omega,γ3,ok3,sx3,rfl⟩
def zsu (γ:Gn) (n:Nat) (top:Int):Gn:={ γ with gl:=γ.gl+1,s2:=[],gx:=updF γ.gx n (γ.gx n+1),xl:=updF γ.xl n [(top,.nilsl)] }
theorem zBy {p:PC} {γ:Gn} (hok:OkC p γ) (top:Int):OkC (zbl p top) (zsu γ p.lp.length top):=by
 refine⟨hok.to,fun d hd=>?_,fun c hc=>(by cases hc),fun d x hx=>?_⟩
 ·
  have hd':d < p.lp.length+1:=by simpa [zbl] using hd
  have e:(zbl p top).lp[d]=(p.lp++[(top,[])])[d]'(by simpa using hd'):=rfl;rw[e];simp only[zsu]
  by_cases h:d=p.lp.length
  · subst h;rw[zbh];simp
  · rw[zdm h];simp only[Wai (show d < p.lp.length by omega)];exact hok.lp d (by omega)
 ·
  simp only[zsu] at hx
  by_cases h:d=p.lp.length
  · subst h;rw[zbh] at hx;rw[We.1 hx];rfl
  · rw[zdm h] at hx;exact hok.xl d x hx
theorem zt9 {gx:Nat→Nat} {n g:Nat}:lpC (updF gx n g) (n+1)=lpC gx n++[[.ptr 6 (n+1) g 0 0]]:=by
 unfold lpC;rw[List.range_succ,Ww,Waj,zbh]
 congr 1
 refine List.map_congr_left fun d hd=>?_
 rw[zdm (by have:=WO.1 hd;omega)]
theorem zxE {gx:Nat→Nat} {n:Nat}:lpC gx (n+1)=lpC gx n++[[.ptr 6 (n+1) (gx n) 0 0]]:=by
 have:=zt9 (gx:=gx) (n:=n) (g:=gx n)
 rwa [zni] at this
theorem zyP {B nx M:Nat} {p:PC} {γ:Gn} {T:AH} {N N2:Nat} {top:Int} {o:AObj} {K K2:Kn} (hB:B≤nx) (hT:TailOk N T) (hN:N < N2) (hl:p.lp.length < M) (hK:zo9 (some N) 6 (p.lp.length+1) (γ.gx p.lp.length+1) K2 K) :
  Ent B K ((0,.row 4 [[.own 1 0 γ.gs 0 p.st.length,.own 2 0 (γ.gl+1) 0 (p.lp.length+1),.mp 3 0,.mp 4 0]] 0)::(1,.row 3 (stC γ.gt p.st) γ.gs)::(2,.row 1 (lpC γ.gx p.lp.length++[[.ptr N 0 0 0 0]]) (γ.gl+1))::(3,.row 3 (mpC p.lab) 0)::(4,.row 3 (mpC p.got) 0) ::
   (5,.fam 1 (fi cI M γ.tl γ.gt))::(6,.fam 2 (fi cX M γ.xl γ.gx))::(7,.fam 1 (fi cI M γ.bl γ.gb))::(T.put N (.row 2 [[.int .i64 top,.nilsl]] 0)).put N2 o) nx K2 (cH M (zbl p top) (zsu γ p.lp.length top) T) nx:=by
 have h8:=hT.eight;refine Ent.adoptF (c:=cX) (F:=6) (k:=p.lp.length) (m:=M) (sz:=2) (ll:=γ.xl) (gs:=γ.gx) (l:=[(top,.nilsl)]) (some N) hB hl rfl ?_ (by simp) ?_ hK
 · rintro x ⟨rfl⟩;refine⟨by omega,?_⟩;rw[zhv (by omega),AH.look_put,if_neg (by omega)];exact zK
 ·
  intro x o2 h
  match x with
  | 0=>cases h;exact⟨fun m e=>by cases e;omega,.inr ⟨by omega,_,rfl,by simp only[zbl,zsu,Wy,WF];exact .same _⟩⟩
  | 1=>cases h;exact⟨fun m e=>by cases e;omega,.inr ⟨by omega,_,rfl,.same _⟩⟩
  |
   2 =>
   cases h;refine⟨fun m e=>by cases e;omega,.inr ⟨by omega,_,rfl,?_⟩⟩;simp only[zbl,zsu,Wy,WF,zt9,Wz];refine .row 1 (lpC γ.gx p.lp.length++[[.ptr N 0 0 0 0]]) _ _ (RowA.app (RowA.cons ?_ (RowA.refl _)) _);exact⟨.ptr _ _ _ rfl,trivial⟩
  | 3=>cases h;exact⟨fun m e=>by cases e;omega,.inr ⟨by omega,_,rfl,.same _⟩⟩
  | 4=>cases h;exact⟨fun m e=>by cases e;omega,.inr ⟨by omega,_,rfl,.same _⟩⟩
  | 5=>cases h;exact⟨fun m e=>by cases e;omega,.inr ⟨by omega,_,rfl,.same _⟩⟩
  | 6=>cases h;exact⟨fun m e=>by cases e;omega,.inl ⟨rfl,rfl⟩⟩
  | 7=>cases h;exact⟨fun m e=>by cases e;omega,.inr ⟨by omega,_,rfl,.same _⟩⟩
  |
   x+8 =>
   rw[zjo (by omega)] at h;have hx:=hT.num _ _ h;refine⟨fun m e=>by cases e;omega,.inr ⟨by omega,o2,?_,.same _⟩⟩;rw[zhv (by omega),AH.look_put,if_neg (by omega),AH.look_put,if_neg (by omega)];exact h
def befP (b:Option Int) (p:PC):PC:=match b with
 | none=>p
 | some b=>zeG p b
def zpA (b:Option Int) (p:PC):Int:=match b with
 | none => -1
 | some _=>((p.st.length+1:Nat):Int)
theorem ztz {M:Nat} {p:PC} {γ:Gn} {T:AH} {N:Nat} {b:Option Int} {fv:AV} {k:AV→AH→Nat→Prop} (hok:OkC p γ) (hT:TailOk N T) (hl:p.st.length+2≤M) (hM:M≤1000000)
  (hfv:match b with|none=>fv=.fn (.func zbA) []|some b=>∃rc c,fv=.fn (.func zbB) [.ptr rc 0 0 0 0,.iptr 5 c]∧T.look rc=some (.row 1 [[.ptr 0 0 0 0 0]] 0)∧c 1=.int .i64 b)
  (hk:∀γ' nx,N≤nx→OkC (befP b p) γ'→γ'.gx=γ.gx→k (.int .i64 (zpA b p)) (cH M (befP b p) γ' T) nx):zkr Tryz.prog fv [] (cH M p γ T) N k:=by
 cases b with
 |
  none =>
  simp only at hfv;subst hfv;refine⟨by kernel_rfl,(zoa _ _).mono ?_⟩;rintro v H nx ⟨rfl,rfl,rfl⟩;exact hk γ _ (Wa _) hok rfl
 |
  some b =>
  obtain⟨rc,c,rfl,h1,h2⟩:=hfv;refine⟨by kernel_rfl,(zn8 M p γ T N rc b c hok hT hl hM h1 h2).mono ?_⟩;rintro v H nx ⟨h3,rfl,γ',h4,h5,rfl⟩;exact hk γ' nx h3 h4 h5
theorem zxt (b:Option Int) (l:List Nd) (p:PC):zrc b l p=match b with
  | none=>zdZ (zay l (zbl (befP b p) p.st.length)) p.st.length
  | some _=>setTo (zdZ (zay l (zbl (befP b p) p.st.length)) p.st.length) (p.st.length+1) 1 ((zdZ (zay l (zbl (befP b p) p.st.length)) p.st.length).st.length:Int):=by
 cases b<;>rfl
def popG (γ:Gn) (n:Nat):Gn:={ γ with s2:=[.ptr 6 (n+1) (γ.gx n) 0 0]::γ.s2 }
theorem pop_H {M:Nat} {q:PC} {γ:Gn} {T:AH} {n:Nat} (hn:q.lp.length=n+1):cH M { q with lp:=q.lp.dropLast } (popG γ n) T =
  (0,.row 4 [[.own 1 0 γ.gs 0 q.st.length,.own 2 0 γ.gl 0 n,.mp 3 0,.mp 4 0]] 0)::(1,.row 3 (stC γ.gt q.st) γ.gs)::(2,.row 1 (lpC γ.gx q.lp.length++γ.s2) γ.gl)::(3,.row 3 (mpC q.lab) 0)::(4,.row 3 (mpC q.got) 0) ::
   (5,.fam 1 (fi cI M γ.tl γ.gt))::(6,.fam 2 (fi cX M γ.xl γ.gx))::(7,.fam 1 (fi cI M γ.bl γ.gb))::T:=by
 unfold cH popG;simp only[List.length_dropLast,hn,Wak,zxE,List.append_assoc,List.singleton_append]
theorem pop_ok {q:PC} {γ:Gn} {n:Nat} (hok:OkC q γ) (hn:q.lp.length=n+1):OkC { q with lp:=q.lp.dropLast } (popG γ n):=by
 refine⟨hok.to,fun d hd=>?_,fun c hc=>?_,hok.xl⟩
 ·
  have hd':d < n:=by simpa [hn] using hd
  have h:=hok.lp d (by omega)
  have e:({ q with lp:=q.lp.dropLast }:PC).lp[d]=q.lp[d]:=by simp[List.getElem_dropLast]
  rw[e];exact h
 ·
  rcases Wi.1 hc with rfl|hc
  · rfl
  · exact hok.s2 c hc
theorem zzT {l:List (Int × List Int)} {n:Nat} (hn:l.length=n+1):topL l=l[n].1:=by unfold topL;rw[Wal,show l.length - 1=n by omega,Wc (by omega)]
theorem zun {l:List (Int × List Int)} {n:Nat} (hn:l.length=n+1):brkL l=l[n].2:=by unfold brkL;rw[Wal,show l.length - 1=n by omega,Wc (by omega)]
theorem zno (M:Nat) (hM:M≤1000000) (l:List Nd) (hall:zqK M l):zqs M l:=by
 intro p γ T N b fv hok hlp hT hl1 hl2 hgot hst hfv;refine z8 (fn_x zlL rfl ?_);unfold zhc;have hB:=hBig;have h8:=hT.eight;obtain⟨n0,n1,n2,n3,n4,n5,n6,n7⟩:=ne8 hT.eight;have tN:T.look N=none:=hT.none (Wa _);simp only[cH]
 (refine Qa ?_;intros)
 refine zc (zgn (by rfl) (by rfl) (by simp[zco]) (by omega)) ?_
 (repeat first|simp(disch:=try exact dis1) only[evD,Nat.reduceBEq,Nat.reduceAdd,Nat.reduceLeDiff,n0,n1,n2,n3,n4,n5,n6,n7,tN]|with_reducible first|intro _|refine aJ ?_)
 have hT1:=hT.put 2 [[.int .i64 p.st.length,.nilsl]] (zhP (by simp[zr,AV.flat0]));refine ztz (b:=b) hok hT1 (by omega) hM ?_ ?_
 ·
  cases b with
  | none=>exact hfv
  |
   some b =>
   obtain⟨rc,c,h1,h2,h3⟩:=hfv;refine⟨rc,c,h1,?_,h3⟩;rw[AH.look_put,if_neg (by have:=(hT.num _ _ h2).2;omega)];exact h2
 intro γ1 N2 hN2 ok1 gx1
 have hb1:PostP 2 p (befP b p):=by
  cases b with
  | none=>exact(PostP.refl p).mono (by omega)
  | some b=>exact(PostP.add p _).trans (PostP.add _ _)
 rw[zxt]
 have hlv:∀x,b=some x→zjV (befP b p) (p.st.length+1) 2:=fun x hx=>by subst hx;exact⟨⟨1,0,some [((p.st.length+2:Nat):Int),0]⟩,[((p.st.length+2:Nat):Int),0],by simp[befP,zeG,addP,List.getElem?_append],rfl,by simp⟩
 have hlen1:=hb1.len;have hgot1:=hb1.got;have hkl1:=hb1.keep.len;have hsl1:=hb1.lp.1;have hlp1:=hb1.ok hlp;generalize hp1:befP b p=p1 at *;obtain⟨m0,m1,m2,m3,m4,m5,m6,m7⟩:=ne8 (show 8≤N2 by omega);have t2:=hT.put1 (show N < N2 by omega)
 have htk:(lpC γ1.gx p1.lp.length++γ1.s2).take p1.lp.length=lpC γ1.gx p1.lp.length:=by rw[Wam (by simp[lpC])];exact WL (by simp[lpC])
 have hll:p1.lp.length≤(lpC γ1.gx p1.lp.length++γ1.s2).length:=by simp[lpC]
 simp only[cH]
 (repeat first|simp(disch:=try exact dis1) only[evD,Nat.reduceBEq,Nat.reduceAdd,Nat.reduceLeDiff,dT,dF,m0,m1,m2,m3,m4,m5,m6,m7,t2,zC,zK,htk,hll]|with_reducible first|intro _|refine aJ ?_)
 have hlT:TailOk N T:=hT;have okp:=zBy ok1 (p.st.length:Int)
 refine znl [(0,.ptr 0 0 0 0 0),(1,encL 5 encN l),(6,.ptr 6 (p1.lp.length+1) (γ1.gx p1.lp.length+1) 0 0),(7,.int .i64 (zpA b p))] (cH M (zbl p1 p.st.length) (zsu γ1 p1.lp.length p.st.length) T) N fun _=>⟨Ent.trans (zyP (K2:=[(0,.ptr 0 0 0 0 0),(1,encL 5 encN l),(6,.ptr 6 (p1.lp.length+1) (γ1.gx p1.lp.length+1) 0 0),(7,.int .i64 (zpA b p))]) (by omega) hT (by omega) (by omega) ⟨.same _,.same _,.ptr _ _ _ rfl,.same _,trivial⟩) (Ent.low (Wa _) (fun _ _ h=>h) (zk0 okp hT) ?_),?_⟩
 · refine⟨⟨rfl,?_⟩,⟨rfl,?_⟩,⟨rfl,?_⟩,⟨rfl,?_⟩,trivial⟩<;>simp[AV.lt1,AV.lt0,encL]<;>omega
 unfold zeT;simp only[cH]
 (refine Qa ?_;intros)
 have hpl:(zbl p1 p.st.length).lp.length=p1.lp.length+1:=by simp[zbl]
 have hne:(!(zbl p1 p.st.length).lp.isEmpty)=true:=by simp[zbl]
 have hps:(zbl p1 p.st.length).st.length=p1.st.length:=rfl;have hpb:(zbl p1 p.st.length).lab.length=p1.lab.length:=rfl;have hpg:(zbl p1 p.st.length).got.length=p1.got.length:=rfl;refine(hall (zbl p1 p.st.length) _ T N okp (zrI hlp1 _) hT (by omega) (by omega) (by omega) (by rw[hne];exact hst)).mono ?_;rintro x H N3 ⟨hN3,γ3,ok3,sx3,rfl⟩;have hq:=zbN l (zbl p1 p.st.length);have hcl:=PostP.loop (top:=(p.st.length:Int)) hq;generalize hqd:zay l (zbl p1 p.st.length)=q at *;have hgn:γ3.gx p1.lp.length=γ1.gx p1.lp.length+1:=(sx3 p1.lp.length (by omega)).trans zbh
 have hqn:q.lp.length=p1.lp.length+1:=by rw[hq.lp.1,hpl]
 obtain⟨hclp,hdrop,hqne⟩:=hcl;have hxl:=(ok3.lp p1.lp.length (by omega)).1;have hbl:=(ok3.lp p1.lp.length (by omega)).2
 have htop:q.lp[p1.lp.length].1=(p.st.length:Int):=by rw[←zzT hqn,hq.lp.2.2];simp[topL,zbl]
 rw[htop,←zun hqn] at hxl;rw[←zun hqn] at hbl;have hfi:(fi cX M γ3.xl γ3.gx)[p1.lp.length]? = some ((γ3.xl p1.lp.length).map cX,γ3.gx p1.lp.length):=zkp (by omega);rw[hxl,hgn] at hfi;have hbrk:=hq.ok (zrI hlp1 _) _ (zAz hqne)
 have e1:((q.lp.length:Int) - 1).toNat=p1.lp.length:=by omega
 have e2:(0:Int)≤(q.lp.length:Int) - 1:=by omega
 simp only[cH]
 have e3:((q.lp.length:Int) - 1 - 0).toNat=p1.lp.length:=by omega
 (repeat first|simp(disch:=try exact dis1) only[evD,Nat.reduceBEq,Nat.reduceAdd,Nat.reduceLeDiff,dT,dF,hfi,e1,e2,e3,WN,cX,WM,WE]|with_reducible first|intro _|refine aJ ?_)
 rw[←pop_H hqn];have hqs:=hq.len;refine(zcT M { q with lp:=q.lp.dropLast } (popG γ3 p1.lp.length) T N3 p.st.length (pop_ok ok3 hqn) (hT.up hN3) (by simp only;omega) hM).mono ?_;rintro x H N4 ⟨hN4,rfl,ok4,rfl⟩;have hcd:zdZ q p.st.length=putAll (zaA { q with lp:=q.lp.dropLast } p.st.length) (brkL q.lp) ((zaA { q with lp:=q.lp.dropLast } p.st.length).st.length:Int):=rfl;have kq:Keep q (zaA { q with lp:=q.lp.dropLast } p.st.length):=Keep.trans (Keep.of_st (q:={ q with lp:=q.lp.dropLast }) rfl) (zbO _ _)
 have kql:(zaA { q with lp:=q.lp.dropLast } p.st.length).st.length=q.st.length+1:=by simp[zaA,addP]
 have sx4:zjR p.lp.length γ (zhX (popG γ3 p1.lp.length) q.st.length [(p.st.length:Int)]):=fun d hd=>by have h1:=sx3 d (by omega);show γ3.gx d=γ.gx d;rw[h1];simp only[zsu];rw[zdm (by omega),gx1]
 have h4x:(zhX (popG γ3 p1.lp.length) q.st.length [(p.st.length:Int)]).xl=γ3.xl:=rfl;have h4g:(zhX (popG γ3 p1.lp.length) q.st.length [(p.st.length:Int)]).gx=γ3.gx:=rfl;have h4b:(zhX (popG γ3 p1.lp.length) q.st.length [(p.st.length:Int)]).bl=γ3.bl:=rfl;have h4c:(zhX (popG γ3 p1.lp.length) q.st.length [(p.st.length:Int)]).gb=γ3.gb:=rfl;simp only at ok4 ⊢;generalize zhX (popG γ3 p1.lp.length) q.st.length [(p.st.length:Int)]=γ4 at *;rw[hcd] at hclp ⊢;rw[←h4x,←h4g] at hfi;generalize zaA { q with lp:=q.lp.dropLast } p.st.length=q1 at *;generalize hbk:brkL q.lp=brk at *;generalize hW:(if brk=[] then AV.nilsl else .own 7 (p1.lp.length+1) (γ3.gb p1.lp.length) 0 brk.length)=W at *;have hbrk1:brk.length≤q.st.length:=hbrk.1;have hbrk2:∀k∈brk,0≤k∧zjV q k.toNat 1:=hbrk.2;clear hbrk
 have hlenW:∀H nx,lenR W H nx=⟨True,True,.int .i64 brk.length,H,nx⟩:=fun H nx=>by
  rw[←hW];split
  · rename_i e;rw[e];rfl
  · have:(brk.length≤9223372036854775807)=True:=eq_true (by omega);simp only[lenR,this]
 simp only[cH]
 (repeat first|simp(disch:=try exact dis1) only[evD,Nat.reduceBEq,Nat.reduceAdd,Nat.reduceLeDiff,dT,dF,hfi,hlenW,cX,WM,WE]|with_reducible first|intro _|refine aJ ?_)
 have hWlt:W.lt1 N=true:=by
  rw[←hW];split
  · rfl
  · simp[AV.lt1,AV.lt0];omega
 refine zk (fun s:Nat × Gn=>([(0,.ptr 0 0 0 0 0),(7,.int .i64 (zpA b p)),(52,W),(53,.int .i64 brk.length),(54,.int .i64 s.1)],cH M (putAll q1 (brk.take s.1) q1.st.length) s.2 T)) N
  (fun s=>s.1≤brk.length∧OkC (putAll q1 (brk.take s.1) q1.st.length) s.2∧zjR p.lp.length γ s.2∧s.2.bl=γ3.bl∧s.2.gb=γ3.gb) (fun s=>brk.length - s.1) (0,γ4) ⟨Wn _,ok4,sx4,h4b,h4c⟩ ?_ ?_
 ·
  refine Ent.low (by omega) (fun _ _ h=>h) (zk0 ok4 hT) ?_
  refine⟨⟨rfl,?_⟩,⟨rfl,?_⟩,⟨rfl,hWlt⟩,⟨rfl,?_⟩,⟨rfl,?_⟩,trivial⟩<;>simp[AV.lt1,AV.lt0]
  omega
 ·
  rintro⟨j,γ5⟩ ⟨hj,ok5,sx5,h5b,h5c⟩ wf;simp only at hj ok5 sx5 h5b h5c ⊢;clear wf;unfold zeV;have hkp:=zb8 (brk.take j) q1 q1.st.length;have hkl:=zey (brk.take j) q1 q1.st.length
  by_cases hl:j < brk.length
  ·
   have hne':brk≠[]:=fun e=>by rw[e] at hl;simp at hl
   rw[if_neg hne'] at hW;have hpt:=znV (q:=q1) (v:=q1.st.length) hl;have hek:=hbrk2 brk[j] (Wf hl);generalize putAll q1 (brk.take j) q1.st.length=r at *;obtain⟨hk,lst,h1,h2,h3,h4⟩:=zh0 (M:=M) ok5 (hkp.to _ _ (kq.to _ _ hek.2)) (by omega)
   have hfb:(fi cI M γ5.bl γ5.gb)[p1.lp.length]? = some (brk.map cI,γ5.gb p1.lp.length):=by rw[zkp (by omega),h5b,hbl hne']
   have hge:(brk.map cI).getD j []=[.int .i64 brk[j]]:=zm (f:=cI) hl;have hnn:(brk[j].toNat:Int)=brk[j]:=W5 hek.1;generalize brk[j].toNat=k at *;rw[←hnn] at hge;clear hnn hek;have hslen:(stC γ5.gt r.st).length=r.st.length:=zco
   have hell:(brk.map cI).length=brk.length:=by simp
   have htll:((γ5.tl k).map cI).length=lst.length:=by rw[Wd,h1]
   have hpos:0 < lst.length:=by omega
   rw[←hW,←h5c];simp only[cH]
   (repeat first|simp(disch:=try exact dis1) only[evD,Nat.reduceBEq,Nat.reduceAdd,Nat.reduceLeDiff,dT,dF,hge,hell,h3,h4,hfb,hslen,htll,Wg]|with_reducible first|intro _|refine aJ ?_)
   refine zbT (zgn (by rfl) (by rfl) (by simp[zco]) (by omega)) ?_
   (repeat first|simp(disch:=try exact dis1) only[evD,Nat.reduceBEq,Nat.reduceAdd,Nat.reduceLeDiff,dT,dF,hge,hell,h3,h4,hfb,hslen,htll,Wg,WN,zqx]|with_reducible first|intro _|refine aJ ?_)
   have ok6:=zlm ok5 k 0 (q1.st.length:Int);refine⟨(j+1,setG γ5 k 0 q1.st.length),⟨hl,(by rw[hpt];exact ok6),sx5,h5b,rfl⟩,by omega,Ent.low (by omega) ?_ (zk0 (by rw[hpt];exact ok6) hT) ?_⟩
   · intro x o hx;have hx2:(cH M (putAll q1 (brk.take (j+1)) q1.st.length) (setG γ5 k 0 q1.st.length) T).look x=some o:=hx;rw[hpt,zqM] at hx2;rw[hkl];rw[hkl] at hx2;exact hx2
   · refine⟨⟨rfl,?_⟩,⟨rfl,?_⟩,⟨rfl,?_⟩,⟨rfl,?_⟩,⟨rfl,?_⟩,trivial⟩<;>simp[AV.lt1,AV.lt0]<;>omega
  ·
   have hj2:j=brk.length:=by omega
   subst hj2;rw[Wx] at ok5 hkp hkl ⊢;simp only[cH]
   (refine Qk ?_;intros)
   unfold zeW
   cases b with
   |
    none =>
    simp only[zpA]
    (repeat first|simp(disch:=try exact dis1) only[evD,Nat.reduceBEq,Nat.reduceAdd,Nat.reduceLeDiff,dF,zdD]|with_reducible first|intro _|refine aJ ?_)
    exact⟨_,_,N,Ent.low (Wa _) (fun _ _ h=>h) (zk0 ok5 hT) (K2:=[(0,.tup [])]) ⟨⟨rfl,rfl⟩,trivial⟩,by omega,γ5,ok5,sx5,rfl⟩
   |
    some b0 =>
    have hlv2:=hclp.keep.to _ _ (hlv b0 rfl);have hlen2:=hclp.len;generalize putAll q1 brk q1.st.length=r at *;obtain⟨hk,lst,h1,h2,h3,h4⟩:=zh0 (M:=M) ok5 hlv2 (by omega);have hslen:(stC γ5.gt r.st).length=r.st.length:=zco
    have htll:((γ5.tl (p.st.length+1)).map cI).length=lst.length:=by rw[Wd,h1]
    have hpos:1 < lst.length:=by omega
    have hki:(((p.st.length+1:Nat):Int)).toNat=p.st.length+1:=Wg _;simp only[zpA]
    (repeat first|simp(disch:=try exact dis1) only[evD,Nat.reduceBEq,Nat.reduceAdd,Nat.reduceLeDiff,dT,dF,h3,h4,hslen,htll,hki,Wg]|with_reducible first|intro _|refine aJ ?_)
    refine zbT (zgn (by rfl) (by rfl) (by simp[zco]) (by omega)) ?_
    (repeat first|simp(disch:=try exact dis1) only[evD,Nat.reduceBEq,Nat.reduceAdd,Nat.reduceLeDiff,dT,dF,h3,h4,hslen,htll,Wg,Int.toNat_one,zqx,zdD]|with_reducible first|intro _|refine aJ ?_)
    have ok6:=zlm ok5 (p.st.length+1) 1 (r.st.length:Int);refine⟨.tup [],cH M (setTo r (p.st.length+1) 1 r.st.length) (setG γ5 (p.st.length+1) 1 r.st.length) T,N,Ent.low (Wa _) ?_ (zk0 ok6 hT) (K2:=[(0,.tup [])]) ⟨⟨rfl,rfl⟩,trivial⟩,by omega,_,ok6,sx5,rfl⟩;rw[zqM]
    exact fun _ _ h=>h
theorem zpJ:∀ {l:List Nd} {e:Nd},e∈l→zav e≤z6 l
 | [],e,h=>by cases h
 |
  a::l,e,h=>by
  rw[z6]
  rcases Wi.1 h with rfl|h
  · omega
  · have:=zpJ h;omega
theorem zqt (M:Nat) (hM:M≤1000000):∀(k:Nat) (e:Nd),zav e≤k→zec M e:=by
 intro k
 induction k with
 | zero=>intro e h;have:=znb e;omega
 |
  succ k ih =>
  rintro⟨f,c,l⟩ h;rw[zav] at h
  have hn:∀e∈l,zec M e:=fun e he=>ih e (by have:=zpJ he;omega)
  exact zor M hM f c l (zkg M hM l hn) (zkZ M hM l hn) (zno M hM l (zkg M hM l hn))
theorem zsr {i:Nat} {sel:List Nat}:zre (.int .i64 i) (sel.map fun j:Nat=>[AV.int .i64 (j:Int)])=decide (i∈sel):=by
 unfold zre;rw[WP,Wan,decide_eq_true_eq];constructor
 ·
  rintro⟨s,hs1,hs2⟩;obtain⟨j,hj,rfl⟩:=Wj.1 hs1;simp only[decide_eq_true_eq] at hs2
  have:j=i:=by omega
  rw[←this];exact hj
 · intro h;exact⟨_,Wj.2 ⟨i,h,rfl⟩,by simp⟩
theorem zBE {P:Program} {d:Option Nat} {rst:Rest} {drop:List Nat} {Q:QT} {K:Kn} {H:AH} {nx r rm qm:Nat} {since st:Int} {l:List (Int × Int)} {sel:List Nat}
  (hr:H.get r 0=some (.row 1 ([.mp rm qm]::[.int .i64 since]::[.int .i64 st]::sel.map fun i:Nat=>[.int .i64 (i:Int)]) 0)) (hm:H.get rm qm=some (.row 3 (mpC l) 0))
  (h1:since≤st) (h2:since=l.length)
  (h4:(∀i,i < l.length→i∈sel)→zaG P rst drop Q (setO K d (.tup [.bool false])) H nx)
  (h5:∀i (hi:i < l.length),i∉sel→zaG P rst drop Q (setO K d (.tup [.bool true,.int .i64 l[i].1,.int .i64 l[i].2])) (H.set r 0 (.row 1 ([.mp rm qm]::[.int .i64 since]::[.int .i64 l.length]::(sel++[i]).map fun i:Nat=>[.int .i64 (i:Int)]) 0)) nx) :
  zzX P (.it r) d rst drop Q K H nx:=by
 have mem:∀e,e∈ztN (sel.map fun i:Nat=>[.int .i64 (i:Int)]) (l.mapIdx cMp)↔∃i,∃hi:i < l.length,e=cMp i l[i]∧i∉sel:=fun e=>by
  unfold ztN;rw[List.mem_filter];constructor
  ·
   rintro⟨he,hb⟩;obtain⟨i,hi,rfl⟩:=W6.1 he;refine⟨i,hi,rfl,?_⟩;simp only[cMp,Wp,Wq,zsr] at hb
   simpa using hb
  ·
   rintro⟨i,hi,rfl,hb⟩;refine⟨W6.2 ⟨i,hi,rfl⟩,?_⟩;simp only[cMp,Wp,Wq,zsr]
   simpa using hb
 unfold zzX zkm;simp only;rw[hr];simp only;rw[hm];unfold mpC;simp only;refine⟨⟨trivial,trivial,trivial,trivial,h1,fun e he=>?_,fun s hs'=>?_⟩,fun hn=>h4 fun i hi=>?_,fun e he=>?_⟩
 · obtain⟨i,hi,rfl⟩:=W6.1 he;exact⟨i,rfl,by omega⟩
 · obtain⟨i,_,rfl⟩:=Wj.1 hs';exact⟨i,rfl⟩
 ·
  refine Classical.byContradiction fun hc=>?_
  have:=(mem (cMp i l[i])).2 ⟨i,hi,rfl,hc⟩;rw[hn] at this;cases this
 ·
  obtain⟨i,hi,rfl,hb⟩:=(mem e).1 he;have:=h5 i hi hb
  simpa [cMp,zwH] using this
theorem zAv {l:List (Int × Int)}:∀ {o i:Nat} (hi:i < l.length),zrl ((i+o:Nat):Int) (l.mapIdx fun j e=>cMp (j+o) e)=some (.int .i64 l[i].1,.int .i64 l[i].2):=by
 induction l with
 | nil=>intro o i hi;simp at hi
 |
  cons e l ih =>
  intro o i hi;rw[List.mapIdx_cons]
  cases i with
  |
   zero =>
   simp only[cMp,zrl,List.getElem_cons_zero,if_true]
  |
   succ i =>
   have h:=ih (o:=o+1) (i:=i) (by simpa using hi);simp only[cMp,zrl,List.getElem_cons_succ] at h ⊢;rw[if_neg (by omega)];rw[show ((i+1+o:Nat):Int)=((i+(o+1):Nat):Int) by omega];rw[←h]
   congr 1
   congr 1
   funext j e
   rw[show j+1+o=j+(o+1) by omega]
theorem zwo {l:List (Int × Int)} {i:Nat} (hi:i < l.length):zrl (i:Int) (l.mapIdx cMp)=some (.int .i64 l[i].1,.int .i64 l[i].2):=by
 have h:=zAv (o:=0) hi
 simpa using h
theorem zBq {H:AH} {nx r rm qm:Nat} {since:Int} {l:List (Int × Int)} {sel:List Nat} {i:Nat} (hr:H.get r 0=some (.row 1 ([.mp rm qm]::[.int .i64 since]::[.int .i64 l.length]::(sel++[i]).map fun i:Nat=>[.int .i64 (i:Int)]) 0))
  (hm:H.get rm qm=some (.row 3 (mpC l) 0)) (hi:i < l.length):xopR .ment [.it r] H nx=⟨True,True,.tup [.int .i64 l[i].1,.int .i64 l[i].2],H,nx⟩:=by
 show zqc (.it r) H nx=_;unfold zqc;simp only;rw[hr];simp only[Ww,WM,WE,List.getLast?_append,List.getLast?_singleton,Option.some_or];rw[hm];unfold mpC;simp only[zwo hi];simp
def zop (l:List (Int × Int)) (k:Int):Int:=match l.findIdx? (fun e=>decide (e.1=k)) with
 | some i=>(l.getD i (0,0)).2
 | none=>0
theorem zw9 {l:List (Int × Int)} {k:Int} {H:AH} {nx:Nat}:zvX (some .i64) false (.int .i64 0) (.int .i64 k) (some (.row 3 (mpC l) 0)) H nx=⟨True,(AV.int .i64 (zop l k)).wf,.int .i64 (zop l k),H,nx⟩:=by
 unfold mpC zvX;simp only;rw[zr6];unfold zop
 cases hf:l.findIdx? fun e=>decide (e.1=k) with
 | none=>simp[mlTo,zfa,mgot,mval]
 | some j=>simp[mlTo,zfa,mgot,mval]
def zhU (p:PC):Prop:=(p.got.map Wr).Nodup∧∀e∈p.got,0≤e.1∧zjV p e.1.toNat 1
theorem zhU.keep {p q:PC} (h:zhU p) (k:Keep p q) (e:q.got=p.got):zhU q:=by unfold zhU;rw[e];exact⟨h.1,fun x hx=>⟨(h.2 x hx).1,k.to _ _ (h.2 x hx).2⟩⟩
theorem zzp {l:List (Int × Int)} {k v:Int} (h:∀e∈l,e.1≠k):setL l k v=l++[(k,v)]:=by unfold setL;rw[Wao.2 fun e he=>by simpa using h e he]
theorem zvO {p:PC} {lb:Int} (h:zhU p):zhU { zaA p 0 with got:=setL p.got p.st.length lb }:=by
 have hlt:∀e∈p.got,e.1≠(p.st.length:Int):=fun e he hk=>by obtain⟨h1,s,l,h2,_⟩:=h.2 e he;have:=(WC.1 h2).1;omega
 unfold zhU;simp only;rw[zzp hlt];refine⟨?_,fun e he=>?_⟩
 · rw[Ww,Waj,Wap];refine⟨h.1,by simp,fun a ha b hb=>?_⟩;obtain⟨e,he,rfl⟩:=Wj.1 ha;rw[We.1 hb];exact hlt e he
 ·
  rcases Wo.1 he with he|he
  · exact⟨(h.2 e he).1,(zbO p ⟨1,0,some [0]⟩).to _ _ (h.2 e he).2⟩
  · rw[We.1 he];exact⟨Int.natCast_nonneg _,(zmg p 0:zjV (zaA p 0) ((p.st.length:Int)).toNat 1)⟩
theorem znv {q:PC} {top:Int} (h:zhU q):zhU (zdZ q top):=by have h1:Keep q { q with lp:=q.lp.dropLast }:=Keep.of_st rfl;have h2:Keep q (zaA { q with lp:=q.lp.dropLast } top):=h1.trans (zbO _ _);exact h.keep (h2.trans (zb8 _ _ _)) ((zeA _ _ _).2)
mutual
theorem zol:∀(n:Nd) (p:PC),zhU p→zhU (zaC n p)
 |
  .mk f c l,p,h=>by
  rw[zaC];split
  · exact zjy l p h
  split
  · exact h.keep (zbO p _) rfl
  split
  · simp only;have h1:zhU (zaQ p):=h.keep (zbO p _) rfl;exact(zwM p.st.length l (zaQ p) [] h1).keep (zb8 _ _ _) (zeA _ _ _).2
  split
  · exact znv (zjy l (zbl p p.st.length) (h.keep (Keep.of_st rfl) rfl))
  split
  · simp only;have h1:zhU (zeG p f.block):=h.keep ((zbO p _).trans (zbO _ _)) rfl;exact(znv (zjy l (zbl (zeG p f.block) p.st.length) (h1.keep (Keep.of_st rfl) rfl))).keep (zjB _ _ _ _) rfl
  split
  · exact h.keep ((zbO p ⟨1,0,some [0]⟩).trans (Keep.of_st rfl)) rfl
  split
  · exact h.keep (zbO p _) rfl
  split
  · exact zvO h
  split
  · exact h.keep (Keep.of_st rfl) rfl
  split
  · exact h.keep (zbO p _) rfl
  · exact h
theorem zjy:∀(l:List Nd) (p:PC),zhU p→zhU (zay l p)
 | [],p,h=>by rw[zay];exact h
 |
  n::l,p,h=>by
  rw[zay];exact zjy l _ (zol n p h)
theorem zwM (at':Nat):∀(l:List Nd) (p:PC) (ends:List Int),zhU p→zhU (brP at' l p ends).1
 | [],p,ends,h=>by rw[brP];exact h
 |
  n::l,p,ends,h=>by
  rw[brP];have h1:zhU (appTo p at' p.st.length):=h.keep (zjC p at' p.st.length) rfl;have h2:zhU (zaA (zaC n (appTo p at' p.st.length)) 0):=(zol n _ h1).keep (zbO _ _) rfl;exact zwM at' l _ _ h2
end
def zli (p:PC) (k:Nat):Int:=zop p.lab (zop p.got (k:Int))
def fixK (p:PC) (done:Nat→Bool):PC:={ p with st:=p.st.mapIdx fun k s=>if done k then { s with to:=s.to.map fun l=>l.set 0 (zli p k) } else s }
theorem zw0 {l:List (Int × Int)} (hn:(l.map Wr).Nodup) {i:Nat} (hi:i < l.length):zop l l[i].1=l[i].2:=by
 unfold zop
 cases hf:l.findIdx? (fun e=>decide (e.1=l[i].1)) with
 |
  none =>
  have:=Wao.1 hf l[i] (Wf hi);simp at this
 |
  some j =>
  obtain⟨h1,h2,_⟩:=Waq.1 hf;have h3:l[j].1=l[i].1:=of_decide_eq_true h2
  have h4:j=i:=by
   have h5:=WA.1 hn
   refine Classical.byContradiction fun hne=>?_
   rcases WG j i with hlt|hge
   · exact h5 j i (by simpa using h1) (by simpa using hi) hlt (by simpa using h3)
   · exact h5 i j (by simpa using hi) (by simpa using h1) (by omega) (by simpa using h3.symm)
  subst h4;simp[Wh,h1]
theorem zxN {p:PC} {done:Nat→Bool} {k:Nat} (hk:done k=false):setTo (fixK p done) k 0 (zli p k)=fixK p (fun j=>done j||(j == k)):=by
 unfold setTo fixK;simp only[PC.mk.injEq,and_true];apply War;intro j;simp only[WQ,WR]
 cases p.st[j]? with
 | none=>rfl
 |
  some s =>
  simp only[WS,Ws,WH]
  by_cases h:k=j
  · subst h;simp[hk]
  · rw[if_neg h];simp only[show (j == k)=false from by simpa using Ne.symm h,Bool.or_false]
theorem zyC {p:PC} {done:Nat→Bool}:Keep p (fixK p done):=by
 refine⟨by simp[fixK],fun k n ⟨s,l,h1,h2,h3⟩=>?_⟩;unfold zjV fixK;simp only[WR,h1,Ws,WH]
 by_cases hd:done k=true
 · exact⟨_,l.set 0 (zli p k),rfl,by simp[hd,h2],by simpa using h3⟩
 · exact⟨_,l,rfl,by simp[hd,h2],h3⟩
def StB (b:Nat) (p:PC):Prop:=∀k m,tlen p k=some m→m≤b
theorem StB.of_st {b:Nat} {p q:PC} (h:StB b p) (e:q.st=p.st):StB b q:=fun k m hm=>h k m (by unfold tlen at hm ⊢;rw[←e];exact hm)
theorem zgv {b:Nat} {p:PC} {s:PSt} (h:StB b p) (hs:∀l,s.to=some l→l.length≤b):StB b (addP p s):=fun k m hm=>by
 by_cases hk:k < p.st.length
 · exact h k m (by rw[←zbC (p:=p) (s:=s) (Wa _) k hk];exact hm)
 ·
  unfold tlen addP at hm;simp only at hm
  by_cases hk2:k=p.st.length
  · subst hk2;simp only[Was,Wm] at hm;obtain⟨l,h1,h2⟩:=WU.1 hm;rw[←h2];exact hs l h1
  · rw[W7 (by simp;omega)] at hm;cases hm
theorem zxK {b:Nat} {p:PC} {k i:Nat} {v:Int} (h:StB b p):StB b (setTo p k i v):=fun j m hm=>h j m (by rw[←zij (b:=j+1) (p:=p) (k:=k) (i:=i) (v:=v) j (by omega)];exact hm)
theorem zpB {b:Nat} {p:PC} {ks:List Int} {v:Int} (h:StB b p):StB b (putAll p ks v):=fun j m hm=>h j m (by rw[←ze1 (b:=j+1) (p:=p) (ks:=ks) (v:=v) j (by omega)];exact hm)
theorem zA2 {b:Nat} {p:PC} {k n:Nat} {v:Int} (h:StB b p) (hk:tlen p k=some n) (hn:n+1≤b):StB b (appTo p k v):=fun j m hm=>by
 by_cases hj:j=k
 · subst hj;rw[zm6 hk] at hm;cases hm;exact hn
 ·
  refine h j m ?_;rw[←hm];unfold tlen appTo;simp only[WQ]
  cases p.st[j]? with
  | none=>rfl
  |
   some s =>
   simp only[WS,Ws,Wm];rw[if_neg (Ne.symm hj)]
theorem zsm {b:Nat} {q:PC} {top:Int} (h:StB b q) (hb:1≤b):StB b (zdZ q top):=by unfold zdZ;refine zpB (zgv (h.of_st rfl) fun l e=>?_);cases e;exact hb
mutual
theorem zlh:∀(n:Nd) (p:PC) (b:Nat),StB b p→zav n+2≤b→StB b (zaC n p)
 |
  .mk f c l,p,b,h,hb=>by
  rw[zav] at hb;rw[zaC];split
  · exact zjw l p b h (by omega)
  split
  · exact zgv h fun l e=>by cases e
  split
  ·
   simp only
   have h1:StB b (zaQ p):=zgv h fun l e=>by cases e;simp
   have h2:tlen (zaQ p) p.st.length=some 0:=by unfold tlen zaQ addP;simp
   have h3:=zlf l;exact zpB (zxY p.st.length l (zaQ p) [] b 0 h1 (by omega) h2 (by simp[zaQ,addP]) (by omega))
  split
  · exact zsm (zjw l (zbl p p.st.length) b (h.of_st rfl) (by omega)) (by omega)
  split
  ·
   simp only
   have h1:StB b (zeG p f.block):=zgv (zgv h fun l e=>by cases e) fun l e=>by cases e;simp;omega
   exact zxK (zsm (zjw l (zbl (zeG p f.block) p.st.length) b (h1.of_st rfl) (by omega)) (by omega))
  split
  · exact StB.of_st (p:=zaA p 0) (zgv h fun l e=>by cases e;simp;omega) rfl
  split
  · exact zgv h fun l e=>by cases e;simp;omega
  split
  · exact StB.of_st (p:=zaA p 0) (zgv h fun l e=>by cases e;simp;omega) rfl
  split
  · exact h.of_st rfl
  split
  · exact zgv h fun l e=>by cases e
  · exact h
theorem zjw:∀(l:List Nd) (p:PC) (b:Nat),StB b p→z6 l+2≤b→StB b (zay l p)
 | [],p,b,h,hb=>by rw[zay];exact h
 |
  n::l,p,b,h,hb=>by
  rw[z6] at hb;rw[zay];exact zjw l _ b (zlh n p b h (by omega)) (by omega)
theorem zxY (at':Nat):∀(l:List Nd) (p:PC) (ends:List Int) (b m:Nat),StB b p→z6 l+2≤b→tlen p at'=some m→at' < p.st.length→m+l.length≤b→StB b (brP at' l p ends).1
 | [],p,ends,b,m,h,hb,ht,hl,hm=>by rw[brP];exact h
 |
  n::l,p,ends,b,m,h,hb,ht,hl,hm=>by
  rw[z6] at hb;rw[brP];rw[WB] at hm
  have e1:at' < (appTo p at' p.st.length).st.length:=by simpa [appTo] using hl
  have e2:=(zbW n (appTo p at' p.st.length)).keep.len;have h1:=zlh n _ b (zA2 h ht (v:=(p.st.length:Int)) (by omega)) (by omega)
  have h2:StB b (zaA (zaC n (appTo p at' p.st.length)) 0):=zgv h1 fun l e=>by cases e;simp;omega
  have h3:tlen (zaA (zaC n (appTo p at' p.st.length)) 0) at'=some (m+1):=by rw[show tlen (zaA (zaC n (appTo p at' p.st.length)) 0) at'=tlen (zaC n (appTo p at' p.st.length)) at' from zbC (b:=at'+1) (by omega) at' (by omega),zes n _ (at'+1) (by omega) at' (by omega)];exact zm6 ht
  exact zxY at' l _ _ b (m+1) h2 (by omega) h3 (by simp[zaA,addP];omega) (by omega)
end
def p0:PC:=⟨[],[],[],[]⟩
def g0:Gn:=⟨0,0,[],fun _=>0,fun _=>[],fun _=>0,fun _=>[],fun _=>0,fun _=>[]⟩
theorem ok0:OkC p0 g0:=⟨fun k h=>(by cases h),fun d h=>(by cases h),fun c hc=>(by cases hc),fun d x hx=>(by cases hx)⟩
theorem zBD:TailOk 8 []:=⟨Wa _,fun r o h=>(by cases h),trivial⟩
def zeU (e:Nd):PC:=addP (zaC e p0) ⟨2,0,none⟩
def zfp (got:List (Int × Int)) (sel:List Nat) (k:Nat):Bool:=sel.any fun i=>decide ((got.getD i (0,0)).1=(k:Int))
def zch (e:Nd):PC:=fixK (zeU e) fun k:Nat=>decide ((k:Int)∈(zeU e).got.map Wr)
def zBG:Option (List Int)→AV
 | none=>.nilsl
 | some l=>za l
def cPs (s:PSt):List AV:=[.int .i64 s.kind,.int .i64 s.block,zBG s.to]
def zpW (l:List PSt):AV:=encP 4 [encL 3 cPs l,.undef,.undef,.undef]
theorem zAl {M b:Nat} {p:PC} {γ:Gn} {T:AH} (hok:OkC p γ) (hM:p.st.length≤M) (hM2:M≤1000000) (hb:StB b p) (hb2:b≤1000000):Frz (cH M p γ T) (.ptr 0 0 0 0 0) (zpW p.st):=by
 have hB:=hBig
 refine .frzp _ 0 0 0 0 0 4 4 _ _ trivial rfl (by simp) (by simp) fun j hj=>?_
 match j with
 |
  0 =>
  refine .frz _ 1 0 γ.gs 0 p.st.length 3 (stC γ.gt p.st) _ trivial rfl (by omega) (by simp[zco]) fun i j hi hj=>?_
  rw[WK,zqi hi];have e:(p.st.map cPs).getD i []=cPs p.st[i]:=zm (f:=cPs) hi;show Vw _ _ _ _ _ _ (((p.st.map cPs).getD i []).getD j .undef);rw[e];unfold cS cPs
  match j with
  | 0=>exact .int _ _ _
  | 1=>exact .int _ _ _
  |
   2 =>
   show Vw _ _ _ _ _ (toV γ.gt i p.st[i].to) (zBG p.st[i].to)
   cases ht:p.st[i].to with
   | none=>exact .nilsl _
   |
    some l =>
    have htl:=hok.to i hi l ht;have hlb:=hb i l.length (by unfold tlen;rw[Wc hi,Wm,ht];rfl)
    refine .frz _ 5 (i+1) (γ.gt i) 0 l.length 1 ((γ.tl i).map cI) _ trivial (zok rfl (by omega)) (by omega) (by rw[htl];simp) fun a c ha hc=>?_
    rw[WK,htl,zm (f:=cI) ha]
    match c with
    | 0=>exact .int _ _ _
    | c+1=>exact absurd (show c+1 < 1 from hc) (by omega)
  | j+3=>omega
 | 1=>exact .undef _ _
 | 2=>exact .undef _ _
 | 3=>exact .undef _ _
 | j+4=>omega
theorem zqH:∀(n:Nat) (l:List Nat),l.Nodup→(∀i∈l,i < n)→l.length≤n
 | 0,[],_,_=>Wa _
 | 0,a::l,_,h=>by have:=h a (by simp);omega
 |
  n+1,l,hn,h=>by
  have h1:=zqH n (l.erase n) (hn.erase n) fun i hi=>by
   have h2:=h i (List.mem_of_mem_erase hi)
   have h3:i≠n:=fun e=>by subst e;exact(List.Nodup.not_mem_erase hn) hi
   omega
  have h4:=List.length_erase (a:=n) (l:=l)
  split at h4<;>omega
def sig0:Nat→Nat→Option (Nat × Nat × Nat):=fun r q=>if r=0 then some (2,q,0) else if r=3 then some (0,q,0) else if r=4 then some (1,q,0) else none
theorem ent0 {M:Nat} {K:Kn} {c:Nat→AV} (h1:K.get 1=.iptr 5 c) (h3:K.get 3=.ptr 2 0 0 0 0) :
  Ent 0 K [(0,.row 3 [[.int .i64 0,.undef,.undef]] 0),(1,.row 3 [[.int .i64 0,.undef,.undef]] 0),(2,.row 4 [[.nilsl,.nilsl,.mp 0 0,.mp 1 0]] 0)] 3 [(1,.iptr 5 c),(3,.ptr 0 0 0 0 0)] (cH M p0 g0 []) 8:=by
 refine Ent.view sig0 (fun _ _=>False) ⟨Wn _,fun r q h=>absurd h (by omega),?_,fun _ _ _ _ _ _ h=>h,?_,?_,?_⟩ ?_
 ·
  intro r1 q1 r2 q2 r q d1 d2 h1 h2;unfold sig0 at h1 h2
  (repeat' split at h1)<;>(repeat' split at h2)<;>first | (cases h1;done) | (cases h2;done) | (simp only[WH,W8] at h1 h2;omega)
 ·
  intro r q x h;unfold sig0 at h
  (repeat' split at h)<;>first|omega|cases h
 ·
  intro r o h
  rcases WG r 8 with h1|h1
  · exact h1
  · rw[zjo h1] at h;cases h
 ·
  intro r q sz els g h;unfold AH.get at h;obtain⟨o,ho,hp⟩:=Option.bind_eq_some_iff.1 h;have flat:∀ {c n:List (List AV)},True:=trivial
  match r with
  |
   0 =>
   cases ho
   cases q with
   |
    zero =>
    cases hp;refine .inl ⟨2,0,0,[[.nilsl,.nilsl,.mp 0 0,.mp 1 0]],rfl,rfl,⟨rfl,fun i c hi=>?_⟩⟩
    cases i with
    | succ i=>simp at hi
    |
     zero =>
     cases hi;refine⟨_,rfl,rfl,fun j a b ha hb=>?_⟩
     match j with
     | 0=>cases ha;cases hb;exact .new 1 0 3 rfl rfl
     | 1=>cases ha;cases hb;exact .new 2 0 1 rfl rfl
     | 2=>cases ha;cases hb;exact .mp 0 0 3 0 rfl
     | 3=>cases ha;cases hb;exact .mp 1 0 4 0 rfl
     | j+4=>simp at ha
   | succ q=>cases hp
  |
   1 =>
   cases ho
   cases q with
   | zero=>cases hp;exact .inr ⟨rfl,rfl,rfl⟩
   | succ q=>cases hp
  |
   2 =>
   cases ho
   cases q with
   | zero=>cases hp;exact .inr ⟨rfl,rfl,rfl⟩
   | succ q=>cases hp
  |
   3 =>
   cases ho
   cases q with
   | zero=>cases hp;exact .inl ⟨0,0,0,_,rfl,rfl,RowV.of_flat (by intro c hc;rw[We.1 hc];rfl)⟩
   | succ q=>cases hp
  |
   4 =>
   cases ho
   cases q with
   | zero=>cases hp;exact .inl ⟨1,0,0,_,rfl,rfl,RowV.of_flat (by intro c hc;rw[We.1 hc];rfl)⟩
   | succ q=>cases hp
  |
   5 =>
   cases ho
   cases q with
   | zero=>cases hp
   |
    succ q =>
    simp only[AObj.part,zkz] at hp;split at hp
    · cases hp;exact .inr ⟨rfl,rfl,rfl⟩
    · cases hp
  |
   6 =>
   cases ho
   cases q with
   | zero=>cases hp
   |
    succ q =>
    simp only[AObj.part,zkz] at hp;split at hp
    · cases hp;exact .inr ⟨rfl,rfl,rfl⟩
    · cases hp
  |
   7 =>
   cases ho
   cases q with
   | zero=>cases hp
   |
    succ q =>
    simp only[AObj.part,zkz] at hp;split at hp
    · cases hp;exact .inr ⟨rfl,rfl,rfl⟩
    · cases hp
  |
   r+8 =>
   rw[zjo (by omega)] at ho;cases ho
 ·
  intro i;simp only[Kn.get]
  cases hb:Nat.beq 1 i with
  | true=>rw[←zL hb,h1];exact .iptr _ _ _
  |
   false =>
   simp only[cond_false]
   cases hb2:Nat.beq 3 i with
   | true=>rw[←zL hb2,h3];exact .ptr 2 0 0 0 0 0 0 0 0 rfl rfl
   | false=>exact .undef _ _
theorem zxl {r q:Nat} {l:List (Int × Int)} {H:AH} {nx:Nat}:zAw r q (some (.row 3 (mpC l) 0)) H nx=⟨True,True,.it nx,H.set nx 0 (.row 1 [[.mp r q],[.int .i64 l.length],[.int .i64 l.length]] 0),nx+1⟩:=by unfold mpC zAw;simp
theorem znt {M:Nat} {p:PC} {γ:Gn} {N sz g:Nat} {els:List (List AV)} (hN:8≤N):(cH M p γ [(N,.row sz els g)]).get N 0=some (.row sz els g):=by unfold AH.get;rw[zjo hN];simp only[AH.look,zC,cond_true];rfl
theorem zs5 {M:Nat} {p:PC} {γ:Gn} {N sz g sz2 g2:Nat} {els els2:List (List AV)} (hN:8≤N):(cH M p γ [(N,.row sz els g)]).set N 0 (.row sz2 els2 g2)=cH M p γ [(N,.row sz2 els2 g2)]:=by unfold AH.set;rw[zjo hN];simp only[AH.look,zC,cond_true];unfold cH;simp only[AH.put,zH (show 0≠N by omega),zH (show 1≠N by omega),zH (show 2≠N by omega),zH (show 3≠N by omega),zH (show 4≠N by omega),zH (show 5≠N by omega),zH (show 6≠N by omega),zH (show 7≠N by omega),cond_false,zC,cond_true,AObj.upd]
theorem zxW {p:PC} {done:Nat→Bool} (h:∀k,done k=false):fixK p done=p:=by
 obtain⟨st,lp,lab,got⟩:=p;unfold fixK;simp only[PC.mk.injEq,and_true];apply War;intro j;simp only[WR,h]
 cases st[j]? <;> rfl
theorem zxF {l:List (Int × Int)} (hn:(l.map Wr).Nodup) {i j:Nat} (hi:i < l.length) (hj:j < l.length) (h:l[i].1=l[j].1):i=j:=by
 have h5:=WA.1 hn
 refine Classical.byContradiction fun hne=>?_
 rcases WG j i with hlt|hge
 · exact h5 j i (by simpa using hj) (by simpa using hi) hlt (by simpa using h.symm)
 · exact h5 i j (by simpa using hi) (by simpa using hj) (by omega) (by simpa using h)
theorem zsP {got:List (Int × Int)} {sel:List Nat} {i k:Nat} (hi:i < got.length) (hk:(k:Int)=got[i].1):zfp got (sel++[i])=fun j=>zfp got sel j||(j == k):=by
 funext j
 unfold zfp;rw[W9]
 congr 1
 simp only[List.any_cons,List.any_nil,Bool.or_false]
 have e:got.getD i (0,0)=got[i]:=by simp[Wh,hi]
 rw[e,←hk]
 by_cases h:j=k
 · subst h;simp
 ·
  have h2:¬(k:Int)=(j:Int):=by omega
  simp[h,h2]
theorem zv9 {got:List (Int × Int)} (hn:(got.map Wr).Nodup) {sel:List Nat} (hs:∀i∈sel,i < got.length) {i k:Nat} (hi:i < got.length) (hk:(k:Int)=got[i].1) (hns:i∉sel):zfp got sel k=false:=by
 unfold zfp;rw[List.any_eq_false];intro x hx;have hxl:=hs x hx
 have e:got.getD x (0,0)=got[x]:=by simp[Wh,hxl]
 rw[e,hk];simp only[decide_eq_true_eq];intro h;exact hns (zxF hn hxl hi h▸hx)
theorem zv1 {got:List (Int × Int)} {sel:List Nat} (h:∀i,i < got.length→i∈sel) (hs:∀i∈sel,i < got.length):zfp got sel=fun k:Nat=>decide ((k:Int)∈got.map Wr):=by
 funext k
 unfold zfp;rw[WP,Wan,decide_eq_true_eq];constructor
 ·
  rintro⟨i,hi,h2⟩;have hil:=hs i hi
  have e:got.getD i (0,0)=got[i]:=by simp[Wh,hil]
  rw[e,decide_eq_true_eq] at h2;rw[←h2];exact Wj.2 ⟨_,Wf hil,rfl⟩
 ·
  intro hk;obtain⟨x,hx,h2⟩:=Wj.1 hk;obtain⟨i,hi,rfl⟩:=WI.1 hx;refine⟨i,h i hi,?_⟩
  have e:got.getD i (0,0)=got[i]:=by simp[Wh,hi]
  rw[e,decide_eq_true_eq];exact h2
theorem zAV {b:Nat} {p:PC} {done:Nat→Bool} (h:StB b p):StB b (fixK p done):=fun k m hm=>h k m (by
 rw[←hm];unfold tlen fixK;simp only[WR]
 cases p.st[k]? with
 | none=>rfl
 |
  some s =>
  simp only[Ws,Wm];split
  ·
   simp only
   cases s.to with
   | none=>rfl
   | some l=>simp
  · rfl)
theorem zkH (e:Nd) (hs:zav e≤1000) (hst:zdy e false=false):zl Tryz.prog zdz [.agg (encN e)] (·=zpW (zch e).st):=by
 refine fn_x zkW rfl ?_;unfold zf9;have hB:=hBig
 (refine Qv ?_;intros)
 have hM:4 * zav e+10≤1000000:=by omega
 have h1:=zbW e p0;have hlen:=h1.len;have hgl:=h1.got;have hp0:p0.st.length=0∧p0.lab.length=0∧p0.got.length=0∧p0.lp.length=0:=⟨rfl,rfl,rfl,rfl⟩;obtain⟨z1,z2,z3,z4⟩:=hp0
 refine znl [(1,.iptr 5 fun j=>(encN e).getD j .undef),(3,.ptr 0 0 0 0 0)] (cH (4 * zav e+10) p0 g0 []) 8 fun _=>⟨ent0 rfl rfl,?_⟩
 unfold zei
 (refine Qv ?_;intros)
 refine(zqt (4 * zav e+10) hM _ e (Wa _) p0 g0 [] 8 ok0 (fun x hx=>by cases hx) zBD (by omega) (by omega) (by omega) hst).mono ?_;rintro v H N1 ⟨hN1,γ1,ok1,sx1,rfl⟩
 (refine Qa ?_;intros)
 have hT1:=zBD.up hN1;refine(zcR (4 * zav e+10) (zaC e p0) γ1 [] N1 2 0 ok1 hT1 (by omega)).mono ?_;rintro v H N2 ⟨hN2,rfl,ok2,rfl⟩;have hT2:=zBD.up (WV hN1 hN2);have hgo:zhU (zeU e):=(zol e p0 ⟨Waa,fun x hx=>by cases hx⟩).keep (zbO _ _) rfl
 have hbb:StB (zav e+2) (zeU e):=zgv (zlh e p0 (zav e+2) (fun k m hm=>by unfold tlen p0 at hm;simp at hm) (Wa _)) fun l e=>by cases e
 have hsl:(zeU e).st.length≤4 * zav e+10:=by simp[zeU,addP];omega
 have hgl2:(zeU e).got.length≤1000000:=by have:(zeU e).got.length=(zaC e p0).got.length:=rfl;omega
 unfold zch
 change OkC (zeU e) (addG γ1) at ok2
 show zoX _ _ _ _ _ _ _ (cH (4 * zav e+10) (zeU e) (addG γ1) []) N2;generalize zeU e=q at *;generalize addG γ1=γ2 at *;obtain⟨n0,n1,n2,n3,n4,n5,n6,n7⟩:=ne8 hT2.eight;simp only[cH]
 (repeat first|simp(disch:=try exact dis1) only[evD,Nat.reduceBEq,Nat.reduceAdd,Nat.reduceLeDiff,evM,zxl,n0,n1,n2,n3,n4,n5,n6,n7,AH.look]|with_reducible first|intro _|refine aJ ?_)
 have ez:fixK q (zfp q.got [])=q:=zxW (fun _=>rfl)
 refine zk (fun s:List Nat × Gn=>([(3,.ptr 0 0 0 0 0),(20,.it N2)],cH (4 * zav e+10) (fixK q (zfp q.got s.1)) s.2 [(N2,.row 1 ([.mp 4 0]::[.int .i64 q.got.length]::[.int .i64 q.got.length]::s.1.map fun i:Nat=>[.int .i64 (i:Int)]) 0)])) (N2+1)
  (fun s=>s.1.Nodup∧(∀i∈s.1,i < q.got.length)∧OkC (fixK q (zfp q.got s.1)) s.2) (fun s=>q.got.length - s.1.length) ([],γ2) ⟨Waa,fun i hi=>(by cases hi),?_⟩ ?_ ?_
 · simp only[ez];exact ok2
 ·
  have hT3:TailOk (N2+1) [(N2,.row 1 ([.mp 4 0]::[.int .i64 q.got.length]::[.int .i64 q.got.length]::([]:List Nat).map fun i:Nat=>[.int .i64 (i:Int)]) 0)]:=hT2.put 1 _ (by
   intro c hc
   have h4:Nat.blt 4 (N2+1)=true:=by rw[Nat.blt_eq];omega
   simp only[WE,Wi,Wat,or_false] at hc
   rcases hc with rfl|rfl|rfl<;>simp[AV.lt0,h4])
  refine Ent.low (by omega) ?_ (zk0 (by simp only[ez];exact ok2) hT3) ?_
  ·
   simp only[ez]
   exact fun _ _ h=>h
  · refine⟨⟨rfl,?_⟩,⟨rfl,?_⟩,trivial⟩<;>simp[AV.lt1,AV.lt0]
 ·
  rintro⟨sel,γ3⟩ ⟨hnd,hsl2,ok3⟩ wf;simp only at hnd hsl2 ok3 ⊢;clear wf;unfold zej;have hcnt:=zqH q.got.length sel hnd hsl2
  (refine Qa ?_;intros)
  refine zBE (l:=q.got) (sel:=sel) (znt hT2.eight) rfl (Wk _) rfl ?_ ?_
  ·
   intro hall
   (refine Qa ?_;intros)
   unfold zea
   (repeat first|simp(disch:=try exact dis1) only[evD,Nat.reduceBEq,Nat.reduceAdd,Nat.reduceLeDiff,zgz]|with_reducible first|intro _|refine aJ ?_)
   rw[←zv1 hall hsl2];exact⟨_,zAl ok3 (by simp[fixK];omega) hM (zAV hbb) (by omega),rfl⟩
  ·
   intro i hi hns;rw[zs5 hT2.eight]
   have hment:∀nx,xopR .ment [.it N2] (cH (4 * zav e+10) (fixK q (zfp q.got sel)) γ3 [(N2,.row 1 ([.mp 4 0]::[.int .i64 q.got.length]::[.int .i64 q.got.length]::(sel++[i]).map fun i:Nat=>[.int .i64 (i:Int)]) 0)]) nx=_:=fun nx=>zBq (znt hT2.eight) rfl hi
   (repeat first|simp(disch:=try exact dis1) only[evD,Nat.reduceBEq,Nat.reduceAdd,Nat.reduceLeDiff,hment]|with_reducible first|intro _|refine aJ ?_)
   obtain⟨k,hkk,hto⟩:∃k:Nat,(k:Int)=q.got[i].1∧zjV q k 1:=⟨q.got[i].1.toNat,W5 (hgo.2 q.got[i] (Wf hi)).1,(hgo.2 q.got[i] (Wf hi)).2⟩
   have hlk:zop q.lab q.got[i].2=zli q k:=by rw[zli,hkk,zw0 hgo.1 hi]
   have hdn:=zv9 hgo.1 hsl2 hi hkk hns;have hds:=zsP (sel:=sel) hi hkk
   have hfl:(fixK q (zfp q.got sel)).st.length=q.st.length:=by simp[fixK]
   obtain⟨hk,lst,h1',h2',h3',h4'⟩:=zh0 (M:=4 * zav e+10) ok3 (zyC.to _ _ hto) (by omega)
   have hslen:(stC γ3.gt (fixK q (zfp q.got sel)).st).length=q.st.length:=by rw[zco,hfl]
   have htll:((γ3.tl k).map cI).length=lst.length:=by rw[Wd,h1']
   have hlab:(fixK q (zfp q.got sel)).lab=q.lab:=rfl
   have hpos:0 < lst.length:=by omega
   have hst2:=zxN (p:=q) hdn;rw[←hds] at hst2;rw[←hkk];simp only[cH]
   (repeat first|simp(disch:=try exact dis1) only[evD,Nat.reduceBEq,Nat.reduceAdd,Nat.reduceLeDiff,dT,dF,h3',h4',hslen,htll,hfl,hlk,hlab,zw9,Wg,WN,zqx]|with_reducible first|intro _|refine aJ ?_)
   have ok4:OkC (fixK q (zfp q.got (sel++[i]))) (setG γ3 k 0 (zli q k)):=by rw[←hst2];exact zlm ok3 k 0 (zli q k)
   have hnd2:(sel++[i]).Nodup:=by rw[Wap];exact⟨hnd,by simp,fun a ha b hb=>by rw[We.1 hb];exact fun e=>hns (e▸ha)⟩
   have hsl3:∀j∈sel++[i],j < q.got.length:=fun j hj=>by
    rcases Wo.1 hj with hj|hj
    · exact hsl2 j hj
    · rw[We.1 hj];exact hi
   have hcnt2:=zqH q.got.length (sel++[i]) hnd2 hsl3;rw[Wy,WF] at hcnt2
   have hT3:TailOk (N2+1) [(N2,.row 1 ([.mp 4 0]::[.int .i64 q.got.length]::[.int .i64 q.got.length]::(sel++[i]).map fun i:Nat=>[.int .i64 (i:Int)]) 0)]:=hT2.put 1 _ (by
    intro c hc
    have h4:Nat.blt 4 (N2+1)=true:=by rw[Nat.blt_eq];omega
    rcases Wi.1 hc with rfl|hc
    · simp[AV.lt0,h4]
    rcases Wi.1 hc with rfl|hc
    · rfl
    rcases Wi.1 hc with rfl|hc
    · rfl
    obtain⟨j,_,rfl⟩:=Wj.1 hc
    rfl)
   refine⟨(sel++[i],setG γ3 k 0 (zli q k)),⟨hnd2,hsl3,ok4⟩,by rw[Wy,WF];omega,Ent.low (by omega) ?_ (zk0 ok4 hT3) ?_⟩
   · intro x o hx;have hx2:(cH (4 * zav e+10) (fixK q (zfp q.got (sel++[i]))) (setG γ3 k 0 (zli q k)) [(N2,.row 1 ([.mp 4 0]::[.int .i64 q.got.length]::[.int .i64 q.got.length]::(sel++[i]).map fun i:Nat=>[.int .i64 (i:Int)]) 0)]).look x=some o:=hx;rw[←hst2,zqM,hfl] at hx2;exact hx2
   · refine⟨⟨rfl,?_⟩,⟨rfl,?_⟩,trivial⟩<;>simp[AV.lt1,AV.lt0]
inductive RR where
 | visit (b:Int) (a j:Nat)
 | stop
 | endless
def goR (st:List PSt) (cs:List Int):Nat→Nat→Nat→Nat→RR
 | 0,_,_,_=>.endless
 |
  f+1,a,i,j =>
  if st.length < i then .endless else
  if (st.getD a ⟨2,0,none⟩).kind=2 then .stop else
  if (st.getD a ⟨2,0,none⟩).kind=0 then .visit (st.getD a ⟨2,0,none⟩).block (a+1) j else
  let l:=(st.getD a ⟨2,0,none⟩).to.getD []
  if l.length=1∧(st.getD a ⟨2,0,none⟩).block ≠ -1 then goR st cs f (l.getD 0 0).toNat (i+1) j
  else goR st cs f (l.getD (zgi cs j l.length).1.toNat 0).toNat (if (zgi cs j l.length).2 then 0 else i+1) (zkB cs j)
def muR (st:List PSt) (cs:List Int) (i j:Nat):Nat:=(cs.length - j) * (st.length+2)+(st.length+2 - i)
def zo1 (st:List PSt) (cs:List Int):Nat:=(cs.length+1) * (st.length+2)
def ziZ (st:List PSt) (cs:List Int) (s:Nat × Nat × Nat):Option (List AV × (Nat × Nat × Nat)) :=
 match goR st cs (zo1 st cs) s.2.1 0 s.2.2 with
 | .visit b a j=>some ([.int .i64 b],(s.1 - 1,a,j))
 | _=>none
def endR (st:List PSt) (cs:List Int) (s:Nat × Nat × Nat):Int :=
 match goR st cs (zo1 st cs) s.2.1 0 s.2.2 with
 | .endless=>15
 | _=>0
def valR (st:List PSt) (cs:List Int) (s:Nat × Nat × Nat):Int :=
 match goR st cs (zo1 st cs) s.2.1 0 s.2.2 with
 | .visit b _ _=>b
 | _=>0
structure OkR (st:List PSt):Prop where
 len:st.length≤1000000
 pos:0 < st.length
 kind:∀k (h:k < st.length),st[k].kind=0∨st[k].kind=1∨st[k].kind=2
 last:∀k (h:k < st.length),st[k].kind=0→k+1 < st.length
 to:∀k (h:k < st.length),st[k].kind=1→∃l,st[k].to=some l∧0 < l.length∧l.length≤1000000∧∀t∈l,0≤t∧t < st.length
theorem zzS {st:List PSt} {cs:List Int} {i j:Nat} (hj:j≤cs.length) (hi:i≤st.length) {n:Int}:muR st cs (if (zgi cs j n).2 then 0 else i+1) (zkB cs j) < muR st cs i j:=by
 unfold muR zgi zkB
 by_cases h:j < cs.length
 · rw[dif_pos h,if_pos h];simp only[if_true];obtain⟨d,hd⟩:∃d,cs.length - j=d+1:=⟨cs.length - j - 1,by omega⟩;rw[show cs.length - (j+1)=d by omega,hd,Nat.succ_mul];omega
 · rw[dif_neg h,if_neg h];simp only[Bool.false_eq_true,if_false];omega
theorem zy9 {st:List PSt} {cs:List Int} {i j:Nat} (hi:i≤st.length):muR st cs (i+1) j < muR st cs i j:=by unfold muR;omega
theorem zue {st:List PSt} {cs:List Int} {j:Nat}:muR st cs 0 j≤zo1 st cs:=by unfold muR zo1;rw[Nat.succ_mul];have:=Nat.mul_le_mul_right (st.length+2) (Nat.sub_le cs.length j);omega
def ctF (rs:List Bool) (gl:List Bl) (kd bl:Int):Bool :=
 if kd=2∨kd=5 then decide (0≤bl∧bl < rs.length)&&(rs.getD bl.toNat false && !(decide (kd=5)&&decide (1 < ((gl.map (·.stmts)).getD bl.toNat []).length))) else true
def ctP (rs:List Bool) (gl:List Bl):Nd→Bool
 | .mk f _ _=>ctF rs gl f.kind f.block
def covA (rs:List Bool) (gl:List Bl) (L:List Nd):Bool :=
 L.all (ctP rs gl)&&(Wab rs.length).all fun k => !(rs.getD k false)||decide (((fm blkP L).count (k:Int):Int)=1)
def cnt (n:Nat) (l:List Int):List Int:=(Wab n).map fun(k:Nat)=>((l.count (k:Int):Nat):Int)
theorem zkV {n:Nat} {l:List Int}:(cnt n l).length=n:=by simp[cnt]
theorem ztY {n:Nat}:(cnt n []).map cI=WW n [AV.int .i64 0]:=by
 unfold cnt;rw[List.map_map];apply Wau
 · simp
 · intro i h1 h2;simp
theorem zw5 {n k:Nat} {l:List Int} (h:k < n):((cnt n l).map cI).getD k []=[.int .i64 ((l.count (k:Int):Nat):Int)]:=by rw[zm (by rw[zkV];exact h)];simp[cnt]
theorem zBC {n k:Nat} {l:List Int} (h:k < n):((cnt n l).map cI).set k [.int .i64 (((l.count (k:Int):Nat):Int)+1)]=(cnt n (l++[(k:Int)])).map cI:=by
 apply Wau
 · simp[zkV]
 ·
  intro i h1 h2;simp only[Wd,zkV] at h2;rw[List.getElem_set];simp only[cnt,List.map_map,List.getElem_map,Wav,Function.comp];rw[List.count_append,List.count_singleton]
  by_cases hik:k=i
  · subst hik;simp
  ·
   have hne:((k:Int) == (i:Int))=false:=by simp;omega
   rw[if_neg hik,hne];simp
theorem zA4 {p:NdF→List Int} {l:List Nd} {i:Nat} (h:i < l.length):fm p (l.take (i+1))=fm p (l.take i)++p l[i].f:=by rw[Wac,Wc h];unfold fm;rw[Waw];simp only[Option.toList,List.flatMap_cons,List.flatMap_nil,Wz]
theorem zAm {p:Nd→Bool} {l:List Nd} {i:Nat} (h:i < l.length):(l.take (i+1)).all p=((l.take i).all p&&p l[i]):=by rw[Wac,Wc h,List.all_append];simp only[Option.toList,List.all_cons,List.all_nil,Bool.and_true]
theorem zkP (g:G) (hf:midG g) (L:List Nd) (hL:L.length≤1000) (hc:(fm blkP L).length≤1000) :
  zl Tryz.prog zdL [encL 5 encN L,.agg g.cells] (·=.bool (covA (Dm.reachL g.toG.E) g.blocks L)):=by
 refine fn_x zkE rfl ?_;unfold zf3;have hB:=hBig;have hR:=Dm.dominator_Reachable_ok g.toG (zvj hf)
 have hrl:(Dm.reachL g.toG.E).length=g.blocks.length:=by unfold Dm.reachL;rw[Wd,Wax,Gr.E_len];simp[G.toG]
 have hgb:=hf.blocks;have hgs:=hf.stmts;rw[G.toG_cells] at hR;generalize Dm.reachL g.toG.E=rs at hR hrl;obtain⟨ad,gl⟩:=g;simp only[G.cells] at hR hrl hgb hgs ⊢;generalize hn:gl.length=n at *
 (repeat first|simp(disch:=try exact dis1) only[evD,Nat.reduceBEq,Nat.reduceAdd,Nat.reduceLeDiff,fldP,zlA,tab,Wq,Wp]|with_reducible first|intro _|refine aJ ?_)
 refine zc (zg hR rfl) ?_
 (repeat first|simp(disch:=try exact dis1) only[evD,Nat.reduceBEq,Nat.reduceAdd,Nat.reduceLeDiff,zaa,hrl]|with_reducible first|intro _|refine aJ ?_)
 refine zk (fun i:Nat=>([(3,encP 2 [.int .u32 ad,encL 2 Bl.cells gl]),(5,zaa rs),(6,.own 0 0 0 0 n),(16,encL 5 encN L),(17,.int .i64 L.length),(18,.int .i64 i)],[(0,.row 1 ((cnt n (fm blkP (L.take i))).map cI) 0)])) 1
  (fun i=>i≤L.length∧(L.take i).all (ctP rs gl)=true) (fun i=>L.length - i) 0 ⟨Wn _,rfl⟩ (Ent.tab [(0,0,0)] [] rfl (by(try simp only[evWB,Nat.reduceBEq,Nat.reduceAdd,Nat.reduceSub,Nat.reduceLeDiff,Nat.reduceLT,implies_true,W0,zwX,ztY,hrl,zaa])<;>exact fin2) (by(try simp only[evWB,Nat.reduceBEq,Nat.reduceAdd,Nat.reduceSub,Nat.reduceLeDiff,Nat.reduceLT,implies_true,W0,zwX,ztY,hrl,zaa])<;>exact fin2)) ?_
 rintro i ⟨hi,hall⟩ wf;unfold zeh
 by_cases hl:i < L.length
 case pos =>
  have hgd:=zm (f:=encN) (d:=[]) hl;have hft:=zA4 (p:=blkP) hl;have hat:=zAm (p:=ctP rs gl) hl
  have hcl:(fm blkP (L.take i)).length≤1000:=by
   have:(fm blkP L).length=(fm blkP (L.take i)).length+(fm blkP (L.drop i)).length:=by
    conv=>lhs;rw[←Waz i L]
    unfold fm;rw[Waw,Wy]
   omega
  have hbad:ctP rs gl L[i]=false→covA rs gl L=false:=fun h=>by unfold covA;rw[WaA.2 ⟨L[i],Wf hl,by rw[h];simp⟩,Wt]
  rw[hall,Wu] at hat;generalize L[i]=y at hgd hft hat hbad;generalize fm blkP (L.take i)=K at hft hcl;obtain⟨⟨kd,bl,lb⟩,c,m⟩:=y;rw[zex] at hgd;simp only at hgd
  have hbk:blkP (Nd.mk ⟨kd,bl,lb⟩ c m).f=if kd=2∨kd=5 then [bl] else []:=rfl
  have hct:ctP rs gl (Nd.mk ⟨kd,bl,lb⟩ c m)=if kd=2∨kd=5 then decide (0≤bl∧bl < rs.length)&&(rs.getD bl.toNat false && !(decide (kd=5)&&decide (1 < ((gl.map (·.stmts)).getD bl.toNat []).length))) else true:=rfl
  rw[hbk] at hft;rw[hct] at hat hbad
  have skip:¬(kd=2∨kd=5)→cnt n (fm blkP (L.take (i+1)))=cnt n K∧(L.take (i+1)).all (ctP rs gl)=true:=fun h=>by rw[if_neg h] at hft hat;rw[Wz] at hft;exact⟨by rw[hft],hat⟩
  by_cases h25:kd=2∨kd=5
  case neg =>
   obtain⟨s1,s2⟩:=skip h25
   (repeat first|simp(disch:=try exact dis1) only[evD,Nat.reduceBEq,Nat.reduceAdd,Nat.reduceLeDiff,dT,dF,hgd]|with_reducible first|intro _|refine aJ ?_)
   exact⟨i+1,⟨by omega,s2⟩,by omega,(Ent.tab [(0,0,0)] [] rfl (by(try simp only[evWB,Nat.reduceBEq,Nat.reduceAdd,Nat.reduceSub,Nat.reduceLeDiff,Nat.reduceLT,implies_true,s1])<;>exact fin2) (by(try simp only[evWB,Nat.reduceBEq,Nat.reduceAdd,Nat.reduceSub,Nat.reduceLeDiff,Nat.reduceLT,implies_true,s1])<;>exact fin2))⟩
  rw[if_pos h25] at hft hat hbad
  have tail:∀(b1:0≤bl) (b2:bl < n) (hr:rs.getD bl.toNat false=true),True:=fun _ _ _=>trivial
  have hcount:K.count bl≤1000:=WV List.count_le_length hcl
  by_cases b1:0≤bl
  case neg =>
   have hb:=hbad (by rw[dF (fun h=>b1 h.1),Wt]);rw[hb]
   rcases h25 with rfl|rfl
   ·
    (repeat first|simp(disch:=try exact dis1) only[evD,Nat.reduceBEq,Nat.reduceAdd,Nat.reduceLeDiff,dT,dF,hgd,zW]|with_reducible first|intro _|refine aJ ?_)
    exact⟨_,.bool _ _,rfl⟩
   ·
    (repeat first|simp(disch:=try exact dis1) only[evD,Nat.reduceBEq,Nat.reduceAdd,Nat.reduceLeDiff,dT,dF,hgd,zW]|with_reducible first|intro _|refine aJ ?_)
    exact⟨_,.bool _ _,rfl⟩
  by_cases b2:bl < n
  case neg =>
   have hb:=hbad (by rw[dF (fun h=>by have:=h.2;omega),Wt]);rw[hb]
   rcases h25 with rfl|rfl
   ·
    (repeat first|simp(disch:=try exact dis1) only[evD,Nat.reduceBEq,Nat.reduceAdd,Nat.reduceLeDiff,dT,dF,hgd,zaa,hrl,zW]|with_reducible first|intro _|refine aJ ?_)
    exact⟨_,.bool _ _,rfl⟩
   ·
    (repeat first|simp(disch:=try exact dis1) only[evD,Nat.reduceBEq,Nat.reduceAdd,Nat.reduceLeDiff,dT,dF,hgd,zaa,hrl,zW]|with_reducible first|intro _|refine aJ ?_)
    exact⟨_,.bool _ _,rfl⟩
  have hbl:bl.toNat < rs.length:=by omega
  have hbl2:bl.toNat < gl.length:=by omega
  have hrg:(rs.map fun b=>[AV.bool b]).getD bl.toNat []=[.bool (rs.getD bl.toNat false)]:=by rw[zm hbl];simp[Wh,hbl]
  have hgg:(gl.map Bl.cells).getD bl.toNat []=[.int .u32 gl[bl.toNat].addr,encL 8 St.cells gl[bl.toNat].stmts]:=zm hbl2;have hgst:(gl.map (·.stmts)).getD bl.toNat []=gl[bl.toNat].stmts:=zm hbl2;rw[hgst] at hat hbad;rw[dT ⟨b1,by omega⟩,Wu] at hat hbad;have hst8:=(hgs _ (Wf hbl2)).1;generalize gl[bl.toNat].stmts=sm at hat hbad hgg hst8
  have hcg:((cnt n K).map cI).getD bl.toNat []=[.int .i64 ((K.count bl:Nat):Int)]:=by rw[zw5 (by omega),show ((bl.toNat:Nat):Int)=bl by omega]
  have hcs:((cnt n K).map cI).set bl.toNat [.int .i64 (((K.count bl:Nat):Int)+1)]=(cnt n (fm blkP (L.take (i+1)))).map cI:=by have:=zBC (n:=n) (k:=bl.toNat) (l:=K) (by omega);rw[show ((bl.toNat:Nat):Int)=bl by omega] at this;rw[this,hft]
  cases hr:rs.getD bl.toNat false with
  |
   false =>
   rw[hr] at hbad hrg;have hb:=hbad (by rw[Wt]);rw[hb]
   rcases h25 with rfl|rfl
   ·
    (repeat first|simp(disch:=try exact dis1) only[evD,Nat.reduceBEq,Nat.reduceAdd,Nat.reduceLeDiff,dT,dF,hgd,zaa,hrl,hrg,zW]|with_reducible first|intro _|refine aJ ?_)
    exact⟨_,.bool _ _,rfl⟩
   ·
    (repeat first|simp(disch:=try exact dis1) only[evD,Nat.reduceBEq,Nat.reduceAdd,Nat.reduceLeDiff,dT,dF,hgd,zaa,hrl,hrg,zW]|with_reducible first|intro _|refine aJ ?_)
    exact⟨_,.bool _ _,rfl⟩
  |
   true =>
   rw[hr,Wu] at hbad hat;rw[hr] at hrg
   rcases h25 with rfl|rfl
   ·
    rw[dF (by omega),Wt] at hat
    (repeat first|simp(disch:=try exact dis1) only[evD,Nat.reduceBEq,Nat.reduceAdd,Nat.reduceLeDiff,dT,dF,hgd,zaa,hrl,hrg,hcg,hcs,zkV,Wd]|with_reducible first|intro _|refine aJ ?_)
    exact⟨i+1,⟨by omega,hat⟩,by omega,(Ent.tab [(0,0,0)] [] rfl (by(try simp only[evWB,Nat.reduceBEq,Nat.reduceAdd,Nat.reduceSub,Nat.reduceLeDiff,Nat.reduceLT,implies_true,zaa,hrl])<;>exact fin2) (by(try simp only[evWB,Nat.reduceBEq,Nat.reduceAdd,Nat.reduceSub,Nat.reduceLeDiff,Nat.reduceLT,implies_true,zaa,hrl])<;>exact fin2))⟩
   ·
    by_cases h1:1 < sm.length
    ·
     have hb:=hbad (by rw[dT h1];rfl);rw[hb]
     (repeat first|simp(disch:=try exact dis1) only[evD,Nat.reduceBEq,Nat.reduceAdd,Nat.reduceLeDiff,dT,dF,hgd,zaa,hrl,hrg,fldP,hgg,hn,zW]|with_reducible first|intro _|refine aJ ?_)
     exact⟨_,.bool _ _,rfl⟩
    ·
     rw[dF h1,Bool.and_false] at hat
     (repeat first|simp(disch:=try exact dis1) only[evD,Nat.reduceBEq,Nat.reduceAdd,Nat.reduceLeDiff,dT,dF,hgd,zaa,hrl,hrg,fldP,hgg,hn,hcg,hcs,zkV,Wd]|with_reducible first|intro _|refine aJ ?_)
     exact⟨i+1,⟨by omega,hat⟩,by omega,(Ent.tab [(0,0,0)] [] rfl (by(try simp only[evWB,Nat.reduceBEq,Nat.reduceAdd,Nat.reduceSub,Nat.reduceLeDiff,Nat.reduceLT,implies_true,zaa,hrl])<;>exact fin2) (by(try simp only[evWB,Nat.reduceBEq,Nat.reduceAdd,Nat.reduceSub,Nat.reduceLeDiff,Nat.reduceLT,implies_true,zaa,hrl])<;>exact fin2))⟩
 rw[WL (by omega)] at hall ⊢;unfold covA;rw[hall,Wu];generalize fm blkP L=K at hc ⊢
 (refine Qk ?_;intros)
 unfold zeg
 (repeat first|simp(disch:=try exact dis1) only[evD,Nat.reduceBEq,Nat.reduceAdd,Nat.reduceLeDiff,zaa,hrl]|with_reducible first|intro _|refine aJ ?_)
 generalize hR2:((Wab n).all fun k => !(rs.getD k false)||decide (((K.count (k:Int):Nat):Int)=1))=R
 refine zk (fun k:Nat=>([(6,.own 0 0 0 0 n),(70,zaa rs),(71,.int .i64 n),(72,.int .i64 k)],[(0,.row 1 ((cnt n K).map cI) 0)])) 1
  (fun k=>k≤n∧∀j,j < k→(!(rs.getD j false)||decide (((K.count (j:Int):Nat):Int)=1))=true) (fun k=>n - k) 0 ⟨Wn _,fun j hj=>by omega⟩ (Ent.tab [(0,0,0)] [] rfl (by(try simp only[evWB,Nat.reduceBEq,Nat.reduceAdd,Nat.reduceSub,Nat.reduceLeDiff,Nat.reduceLT,implies_true,zaa,hrl])<;>exact fin2) (by(try simp only[evWB,Nat.reduceBEq,Nat.reduceAdd,Nat.reduceSub,Nat.reduceLeDiff,Nat.reduceLT,implies_true,zaa,hrl])<;>exact fin2)) ?_
 rintro k ⟨hk,hgo⟩ wf2;unfold zeo
 by_cases hkn:k < n
 case neg =>
  have:R=true:=by rw[←hR2,Wad];intro j hj;have:=WO.1 hj;exact hgo j (by omega)
  subst this
  (refine Qk ?_;intros)
  unfold zel
  (repeat first|simp(disch:=try exact dis1) only[evD,Nat.reduceBEq,Nat.reduceAdd,Nat.reduceLeDiff,zW]|with_reducible first|intro _|refine aJ ?_)
  exact⟨_,.bool _ _,rfl⟩
 have hrg:(rs.map fun b=>[AV.bool b]).getD k []=[.bool (rs.getD k false)]:=by rw[zm (by omega)];simp[Wh,show k < rs.length by omega]
 have hcg:=zw5 (n:=n) (l:=K) hkn
 have hstep:(!(rs.getD k false)||decide (((K.count (k:Int):Nat):Int)=1))=true→∀j,j < k+1→(!(rs.getD j false)||decide (((K.count (j:Int):Nat):Int)=1))=true:=fun h j hj=>by
  by_cases hjk:j=k
  · subst hjk;exact h
  · exact hgo j (by omega)
 have hstop:(!(rs.getD k false)||decide (((K.count (k:Int):Nat):Int)=1))=false→R=false:=fun h=>by rw[←hR2,WaA];exact⟨k,WO.2 (by omega),by rw[h];simp⟩
 cases hr:rs.getD k false with
 |
  false =>
  rw[hr] at hrg hstep
  (repeat first|simp(disch:=try exact dis1) only[evD,Nat.reduceBEq,Nat.reduceAdd,Nat.reduceLeDiff,dT,zaa,hrl,hrg]|with_reducible first|intro _|refine aJ ?_)
  exact⟨k+1,⟨by omega,hstep (by simp)⟩,by omega,(Ent.tab [(0,0,0)] [] rfl (by(try simp only[evWB,Nat.reduceBEq,Nat.reduceAdd,Nat.reduceSub,Nat.reduceLeDiff,Nat.reduceLT,implies_true,zaa,hrl])<;>exact fin2) (by(try simp only[evWB,Nat.reduceBEq,Nat.reduceAdd,Nat.reduceSub,Nat.reduceLeDiff,Nat.reduceLT,implies_true,zaa,hrl])<;>exact fin2))⟩
 |
  true =>
  rw[hr] at hrg hstep hstop
  by_cases h1:((K.count (k:Int):Nat):Int)=1
  ·
   (repeat first|simp(disch:=try exact dis1) only[evD,Nat.reduceBEq,Nat.reduceAdd,Nat.reduceLeDiff,dT,dF,zaa,hrl,hrg,hcg,zkV,Wd]|with_reducible first|intro _|refine aJ ?_)
   exact⟨k+1,⟨by omega,hstep (by rw[dT h1];rfl)⟩,by omega,(Ent.tab [(0,0,0)] [] rfl (by(try simp only[evWB,Nat.reduceBEq,Nat.reduceAdd,Nat.reduceSub,Nat.reduceLeDiff,Nat.reduceLT,implies_true,zaa,hrl])<;>exact fin2) (by(try simp only[evWB,Nat.reduceBEq,Nat.reduceAdd,Nat.reduceSub,Nat.reduceLeDiff,Nat.reduceLT,implies_true,zaa,hrl])<;>exact fin2))⟩
  ·
   have:=hstop (by rw[dF h1];rfl);subst this
   (repeat first|simp(disch:=try exact dis1) only[evD,Nat.reduceBEq,Nat.reduceAdd,Nat.reduceLeDiff,dT,dF,zaa,hrl,hrg,hcg,zkV,Wd,zW]|with_reducible first|intro _|refine aJ ?_)
   exact⟨_,.bool _ _,rfl⟩
def ordI (g:G):List Int:=(Dm.orderL g.toG.E).map fun(n:Nat)=>(n:Int)
def covB (g:G) (e:Nd):Bool:=(decide (∀k,(h:k < (coll blkP e).length)→(coll blkP e)[k]∈ordI g∧(coll blkP e)[k]∉(coll blkP e).take k)&&decide ((coll blkP e).length=(ordI g).length))&&zpS g.blocks e
def whP (gl:List Bl):Nd→Bool
 | .mk f _ _ => !(decide (f.kind=5) && !wOk gl f.block)
mutual
theorem zn6 (gl:List Bl):∀n:Nd,(allN n).all (whP gl)=zpS gl n
 |
  .mk f c l=>by
  rw[allN,List.all_cons,zml gl l,zpS];show (!(decide (f.kind=5) && !wOk gl f.block)&&zjA gl l)=_
  by_cases h:f.kind=5
  ·
   cases hw:wOk gl f.block with
   | true=>rw[if_neg (by simp)];simp[h]
   | false=>rw[if_pos ⟨h,rfl⟩];simp[h]
  · rw[if_neg (fun hc=>h hc.1)];simp[h]
theorem zml (gl:List Bl):∀l:List Nd,(zd4 l).all (whP gl)=zjA gl l
 | []=>by rw[zd4,zjA];rfl
 | x::l=>by rw[zd4,List.all_append,zn6 gl x,zml gl l,zjA]
end
theorem zoq {g:G} (h:zmC g=0):∀b∈g.blocks,1≤b.stmts.length:=by
 intro b hb;unfold zmC at h;split at h
 ·
  rename_i h1;rw[Wl,Wad] at h1;have h2:=h1.2 b hb;unfold zdq at h2
  cases hs:b.stmts with
  | nil=>rw[hs] at h2;simp at h2
  | cons a l=>simp
 · omega
theorem zpb:∀(l m:List Int),l.Nodup→(∀a∈l,a∈m)→m.length≤l.length→∀a∈m,a∈l
 |
  [],m,_,_,h,a,ha=>by
  have:m=[]:=WX (by simpa using h);rw[this] at ha;cases ha
 |
  x::l,m,hn,hs,h,a,ha=>by
  rw[Wae] at hn;have hx:=hs x (by simp)
  by_cases hax:a=x
  · rw[hax];simp
  ·
   refine WaB _ (zpb l (m.erase x) hn.2 (fun b hb=>?_) ?_ a ((WaC hax).2 ha))
   ·
    have hbx:b≠x:=fun e=>hn.1 (e▸hb)
    exact(WaC hbx).2 (hs b (WaB _ hb))
   · rw[List.length_erase_of_mem hx];simp only[WB] at h;omega
theorem zsE {l:List Int} (h:∀a,l.count a≤1):l.Nodup:=by
 induction l with
 | nil=>exact Waa
 |
  cons x l ih =>
  rw[Wae];refine⟨fun hx=>?_,ih fun a=>?_⟩
  · have:=h x;rw[List.count_cons_self] at this;have:=List.count_pos_iff.2 hx;omega
  · have:=h a;rw[List.count_cons] at this;omega
theorem znh {l:List Int} (h:l.Nodup) {a:Int} (ha:a∈l):l.count a=1:=by
 induction l with
 | nil=>cases ha
 |
  cons x l ih =>
  rw[Wae] at h;rw[List.count_cons]
  by_cases hx:x=a
  · subst hx;rw[WY.2 h.1];simp
  ·
   have h2:a∈l:=by
    rcases Wi.1 ha with rfl|h2
    · exact absurd rfl hx
    · exact h2
   rw[ih h.2 h2];simp[hx]
theorem zpw {l:List Int}:(∀k,(h:k < l.length)→l[k]∉l.take k)↔l.Nodup:=by
 rw[Waf,WA];constructor
 · intro h i j hi hj hij e;refine h j hj ?_;rw[←e,WI];exact⟨i,by rw[Wv];omega,by rw[WaD]⟩
 · intro h k hk hm;obtain⟨i,hi,he⟩:=WI.1 hm;rw[Wv] at hi;rw[WaD] at he;exact h i k (by omega) hk (by omega) he
theorem zvT (g:G) (e:Nd) (h0:zmC g=0):covA (Dm.reachL g.toG.E) g.blocks (allN e)=covB g e:=by
 have hE:=g.toG.E_ok
 have hlen:g.toG.E.length=g.blocks.length:=by rw[Gr.E_len];simp[G.toG]
 have hin:=Dm.inB_order hE;have hnd:=Dm.orderL_nd hE
 have hond:(ordI g).Nodup:=by unfold ordI;refine List.Pairwise.map _ (fun a b hab=>?_) hnd.nd;intro e;exact hab (by exact_mod_cast e)
 have hrs:∀k:Nat,k < g.blocks.length→(Dm.reachL g.toG.E).getD k false=decide ((k:Int)∈ordI g):=by
  intro k hk;rw[←hin,hlen];unfold Dm.inB Dm.mapR;rw[zm (by simpa using hk),Wav];unfold ordI;refine decide_eq_decide.2 ⟨fun h=>Wj.2 ⟨k,h,rfl⟩,fun h=>?_⟩;obtain⟨k2,h2,h3⟩:=Wj.1 h
  have:k2=k:=by exact_mod_cast h3
  rw[←this];exact h2
 have hrl:(Dm.reachL g.toG.E).length=g.blocks.length:=by unfold Dm.reachL;rw[Wd,Wax,hlen]
 have holt:∀a∈ordI g,0≤a∧a < g.blocks.length:=by intro a ha;unfold ordI at ha;obtain⟨k,hk,rfl⟩:=Wj.1 ha;have:=hnd.lt k hk;omega
 generalize Dm.reachL g.toG.E=rs at hrs hrl;have hfull:=zoq h0;unfold covA covB;rw[zrZ,←zn6]
 have hmem:∀b,b∈coll blkP e↔∃x∈allN e,b∈blkP x.f:=by intro b;rw[←zrZ];unfold fm;rw[List.mem_flatMap]
 have hpt:∀x:Nd,ctP rs g.blocks x=true↔(∀b∈blkP x.f,b∈ordI g)∧whP g.blocks x=true:=by
  intro x;obtain⟨⟨kd,bl,lb⟩,c,m⟩:=x;show ctF rs g.blocks kd bl=true↔(∀b∈(if kd=2∨kd=5 then [bl] else []),b∈ordI g)∧(!(decide (kd=5) && !wOk g.blocks bl))=true;unfold ctF
  by_cases h25:kd=2∨kd=5
  case neg =>rw[if_neg h25,if_neg h25,dF (fun h=>h25 (.inr h))];simp
  rw[if_pos h25,if_pos h25]
  by_cases hr:0≤bl∧bl < g.blocks.length
  case neg =>
   rw[dF (show ¬(0≤bl∧bl < rs.length) by rw[hrl];exact hr),Wt];constructor
   · intro h;cases h
   · rintro⟨h,_⟩;exact absurd (holt bl (h bl (by simp))) hr
  have hbt:bl.toNat < g.blocks.length:=by omega
  rw[dT (show 0≤bl∧bl < rs.length by rw[hrl];exact hr),Wu,hrs _ hbt,show ((bl.toNat:Nat):Int)=bl by omega]
  have hw:wOk g.blocks bl=decide (g.blocks[bl.toNat].stmts.length=1):=by unfold wOk;rw[if_neg (by omega),Wc hbt]
  rw[hw,zm hbt];have h1:=hfull _ (Wf hbt)
  by_cases h5:kd=5
  ·
   simp only[h5,decide_true,Wu,Wl,decide_eq_true_eq,We,forall_eq,Bool.not_not,WaE,decide_eq_false_iff_not];constructor
   · rintro⟨h2,h3⟩;exact⟨h2,by omega⟩
   · rintro⟨h2,h3⟩;exact⟨h2,by omega⟩
  · simp[h5]
 rw[WP];simp only[Wl,Wad,decide_eq_true_eq,WO,Bool.or_eq_true,WaE];rw[hrl];constructor
 ·
  rintro⟨h1,h2⟩
  have hsub:∀b∈coll blkP e,b∈ordI g:=by intro b hb;obtain⟨x,hx,hxb⟩:=(hmem b).1 hb;exact((hpt x).1 (h1 x hx)).1 b hxb
  have hcnt:∀a∈ordI g,(coll blkP e).count a=1:=by
   intro a ha;have hr:=holt a ha
   rcases h2 a.toNat (by omega) with h3|h3
   · rw[hrs _ (by omega),show ((a.toNat:Nat):Int)=a by omega] at h3;exact absurd ha (of_decide_eq_false h3)
   · rw[show ((a.toNat:Nat):Int)=a by omega] at h3;omega
  have hnod:(coll blkP e).Nodup:=by
   refine zsE fun a=>?_
   by_cases ha:a∈ordI g
   · rw[hcnt a ha];omega
   · rw[WY.2 (fun h=>ha (hsub a h))];omega
  refine⟨⟨fun k hk=>⟨hsub _ (Wf hk),zpw.2 hnod k hk⟩,?_⟩,fun x hx=>((hpt x).1 (h1 x hx)).2⟩;refine List.Perm.length_eq (List.perm_iff_count.2 fun a=>?_)
  by_cases ha:a∈ordI g
  · rw[hcnt a ha,znh hond ha]
  · rw[WY.2 (fun h=>ha (hsub a h)),WY.2 ha]
 ·
  rintro⟨⟨h1,h2⟩,h3⟩
  have hnod:=zpw.1 fun k hk=>(h1 k hk).2
  have hsub:∀b∈coll blkP e,b∈ordI g:=by intro b hb;obtain⟨k,hk,rfl⟩:=WI.1 hb;exact(h1 k hk).1
  have hback:=zpb _ _ hnod hsub (by omega);refine⟨fun x hx=>(hpt x).2 ⟨fun b hb=>hsub b ((hmem b).2 ⟨x,hx,hb⟩),h3 x hx⟩,fun k hk=>?_⟩;rw[hrs k hk]
  by_cases hk2:(k:Int)∈ordI g
  · right;rw[znh hnod (hback _ hk2)];rfl
  · left;exact dF hk2
end Go.Ab
namespace Go.Ab
open Go.RowKit Go.Proofs Go.Maps Go.Sort Go.Shelf
def insI (x:Int):List Int→List Int
 | []=>[x]
 | y::r=>bif decide (x≤y) then x::y::r else y::insI x r
def zhp:List Int→List Int
 | []=>[]
 | x::r=>insI x (zhp r)
theorem zog (x:Int):∀l:List Int,(insI x l).Perm (x::l)
 | []=>.refl _
 |
  y::r=>by
  rw[insI];cases decide (x≤y)
  · exact((zog x r).cons y).trans (.swap x y r)
  · exact .refl _
theorem zdu:∀l:List Int,(zhp l).Perm l
 | []=>.refl _
 | x::r=>(zog x _).trans ((zdu r).cons x)
theorem zoI (x:Int):∀l:List Int,l.Pairwise (·≤·)→(insI x l).Pairwise (·≤·)
 | [],_=>by simp[insI]
 |
  y::r,h=>by
  rw[insI];rw[WZ] at h
  cases hd:decide (x≤y) with
  |
   true =>
   have hxy:x≤y:=of_decide_eq_true hd;refine WZ.2 ⟨fun z hz=>?_,WZ.2 h⟩
   rcases Wi.1 hz with rfl|hz
   · exact hxy
   · exact Int.le_trans hxy (h.1 z hz)
  |
   false =>
   have hxy:¬x≤y:=of_decide_eq_false hd;refine WZ.2 ⟨fun z hz=>?_,zoI x r h.2⟩
   rcases Wi.1 ((zog x r).mem_iff.1 hz) with rfl|hz
   · omega
   · exact h.1 z hz
theorem zjh:∀l:List Int,(zhp l).Pairwise (·≤·)
 | []=>.nil
 | x::r=>zoI x _ (zjh r)
theorem zyg {l m:List Int} (h:l.Perm m) (hl:l.Pairwise (·≤·)) (hm:m.Pairwise (·≤·)):l=m :=
 List.Perm.eq_of_pairwise (fun _ _ _ _ h1 h2=>Int.le_antisymm h1 h2) hl hm h
theorem zns {l m:List Int} (h:l.Perm m):l.mergeSort (fun x y=>decide (x≤y))=zhp m:=by
 refine zyg ((List.mergeSort_perm _ _).trans (h.trans (zdu m).symm)) ?_ (zjh m);have:=List.pairwise_mergeSort (le:=fun x y:Int=>decide (x≤y)) (fun a b c h1 h2=>by simp only[decide_eq_true_eq] at *;exact Int.le_trans h1 h2) (fun a b=>by simp only[Bool.or_eq_true,decide_eq_true_eq];exact Int.le_total a b) l
 exact this.imp fun h=>of_decide_eq_true h
def entI:List (List AV)→Option (List (Int × Int))
 | []=>some []
 |
  c::r=>match c with
  |
   [.int .i64 k,_,.int .i64 b]=>match entI r with
   | some l=>some ((k,b)::l)
   | none=>none
  | _=>none
end Go.Ab
namespace Go.Ab
open Go.RowKit Go.Proofs Go.Sort Go.Shelf
theorem zw8 {α:Type} [Inhabited α] {w:World} {b blk off:Nat} {enc:α→Value} {d:Array α} (h:FzOk w b):FzOk (putRow enc w blk off d) b:=by
 intro c e lo hi hh;unfold putRow mapBlock at hh;simp only[WaF] at hh
 by_cases hb:blk=b
 ·
  subst hb;rw[if_pos rfl] at hh
  cases ho:w.heap[blk]? with
  | none=>rw[ho] at hh;cases hh
  |
   some o =>
   rw[ho] at hh
   cases o with
   |
    cells c0 e0 f0 =>
    obtain⟨lo0,hi0⟩:=f0;simp only[Ws,onCells,WH,Obj.cells.injEq,W8] at hh;obtain⟨rfl,rfl,rfl,rfl⟩:=hh
    rcases h c0 e0 _ _ ho with h1|h1
    · exact .inl h1
    · exact .inr (by unfold putCells;simpa using h1)
   | _=>simp[onCells] at hh
 · rw[if_neg hb] at hh;exact h c e lo hi hh
section
variable {w:World} {L:Nat→Prop} {ι:Inj} {H:AH} {nx:Nat}
theorem zr5 {r q g:Nat} {zs:List Int} (hr:H.get r q=some (.row 1 (zs.map fun n=>[.int .i64 n]) g)) (hlen:zs.length≤1000000) :
  z7 Tryz.prog zcI [.own r q g 0 zs.length] H nx (fun v H' nx'=>(v,H',nx')=(.tup [],H.set r q (.row 1 ((zhp zs).map fun n=>[.int .i64 n]) g),nx)):=by
 intro w L ι vs rel hv
 obtain⟨mv,hvs,hmv⟩:∃mv,vs=#[mv]∧VR w (Lt L ι H) ι mv (.own r q g 0 zs.length):=by
  rcases vs with ⟨l⟩
  cases hv with
  | cons h1 h2=>cases h2;exact⟨_,rfl,h1⟩
 subst hvs;have hsl:(zhp zs).length=zs.length:=(zdu zs).length_eq
 cases hmv with
 |
  own _ _ _ _ _ _ a c l hl hmx hn hc ha =>
  obtain⟨l',hl',ok⟩:=rel.row _ _ _ _ _ hr;rw[hl] at hl';cases hl'
  have hsame:∀l0,ι r q g=some l0→l0=l:=fun l0 h0=>by rw[hl] at h0;cases h0;rfl
  have hsz:l.sz=1:=ok.hsz;have nil:∀ {M:Nat→Prop} {ι':Inj} {w':World},VR w' M ι' (.tuple #[]) (.tup []):=.tup _ _ _ rfl (fun i v a h=>by simp at h)
  rcases Nat.eq_zero_or_pos zs.length with h0|hpos
  ·
   obtain rfl:zs=[]:=WX h0
   refine(AnyM.slices_Sort_int_none zwx a c w).mono fun e w' ⟨he,hw⟩=>?_
   subst hw;have c1:Chg w' ι H r q g l w':=⟨rfl,rfl,rfl,Wa _,fun _ _ _=>rfl,fun hpos=>.inl ⟨1,_,g,l,hr,hl,hpos,rfl⟩,hsame,fun g2 l2 h2=>rel.gen r q _ _ _ hr g2 l2 h2⟩;refine⟨_,_,_,_,_,he,c1.step (.inl ⟨_,_,hr⟩) rel (rel.idx _ _ _ _ hl) (Wa _) (.mk' ok.hsz (ok.plain hmx).len hmx (ok.plain hmx).there (ok.plain hmx).fz (fun i c h=>by simp[zhp] at h) (fun i c' j a h1 h2=>by simp[zhp] at h1)),Wa _,nil,rfl⟩
  ·
   obtain rfl:=ha (by omega)
   have hoff:l.off+0 * l.sz=l.off:=by omega
   rw[hoff]
   have hcap:0 < l.cap * l.sz:=by rw[hsz];omega
   have hblk:=ok.blk_lt hcap
   have hget:∀ {ys:List Int} {j:Nat},j < ys.length→(ys.toArray)[j]! = ys.getD j 0:=fun {ys j} h=>by simp[h,Wh]
   have hin:∀j,j < zs.length→w.cell? ⟨l.block,l.off+j,none⟩=some (.int .i64 (zs.getD j 0))∧InR .i64 (zs.getD j 0):=by
    intro j hj
    have e:zs.getD j 0=zs[j]:=by simp[Wh,hj]
    obtain⟨v,h1,_,h2⟩:=ok.holds hmx j [.int .i64 zs[j]] 0 (.int .i64 zs[j]) (by rw[Wag,Wc hj];rfl) rfl
    cases h2 with
    |
     int _ _ _ h3 =>
     rw[e];simp only[Nat.mul_one,Nat.add_zero] at h1;exact⟨h1,h3⟩
   have hH:Holds (Value.int .i64) w l.block l.off zs.toArray:=fun j hj=>by
    have hj':j < zs.length:=by simpa using hj
    rw[hget hj'];exact⟨(hin j hj').1,((ok.plain hmx).there j (by have:=(ok.plain hmx).len;simp only[Wd] at this;omega)).2⟩
   refine(AnyM.slices_Sort_int zwx l.block l.off c zs w hH hblk (by omega)).mono fun e w' ⟨he,n,os,hw⟩=>?_
   rw[zns (List.Perm.refl zs)] at hw
   have hcell:∀j,j < zs.length→w'.cell? ⟨l.block,l.off+j,none⟩=some (.int .i64 ((zhp zs).getD j 0)):=fun j hj=>by rw[hw,cell?_grow _ _ _ (by simpa using hblk),putRow_ahead,cell?_ahead,cell?_putRow _ _ _ _ zs.toArray _ hH (by simpa using hsl) j (by simpa [hsl] using hj),hget (by omega)]
   have hcell2:∀a:Addr,a.block < w.heap.size→(a.block≠l.block∨a.off < l.off∨l.off+zs.length≤a.off)→w'.cell? a=w.cell? a:=fun a ha hx=>by rw[hw,cell?_grow _ _ _ (by simpa using ha),putRow_ahead,cell?_ahead,cell?_putRow_other _ _ _ _ _ _ (by simpa [hsl] using hx)]
   have hfrz:∀a:Addr,a.block < w.heap.size→w'.frozen? a=w.frozen? a:=fun a ha=>by rw[hw,frozen?_grow _ _ _ (by simpa using ha),putRow_ahead,frozen?_ahead,frozen?_putRow]
   have hheap:∀b,b < w.heap.size→b≠l.block→w'.heap[b]? = w.heap[b]? := fun b hb hne=>by rw[hw,heap_grow_old _ _ (by simpa using hb)];simp only[putRow,mapBlock,heap_ahead,WaF];rw[if_neg (Ne.symm hne)]
   have c1:Chg w ι H r q g l w':=⟨by rw[hw];rfl,by rw[hw];rfl,by rw[hw];rfl,by rw[hw];simp,fun b hb hn=>hheap b hb (fun hbe=>hn ⟨1,_,g,l,hr,hl,hcap,hbe.symm⟩),fun hpos=>.inl ⟨1,_,g,l,hr,hl,hpos,rfl⟩,hsame,fun g2 l2 h2=>rel.gen r q _ _ _ hr g2 l2 h2⟩
   have hfz:FzOk w' l.block:=by have h1:FzOk (putRow (Value.int .i64) (Sort.ahead w n) l.block l.off (zhp zs).toArray) l.block:=zw8 (((ok.plain hmx).fz (by rw[←hsz];exact hcap)).of_heap rfl);rw[hw];exact h1.of_heap (heap_grow_old _ _ (by simpa using hblk))
   refine⟨_,_,_,_,_,he,c1.step (.inl ⟨_,_,hr⟩) rel (rel.idx _ _ _ _ hl) (Wa _) (.mk' ok.hsz (by have:=(ok.plain hmx).len;simp only[Wd] at this ⊢;omega) hmx (fun k hk=>?_) (fun _=>hfz) (fun i c h=>?_) (fun i c' j a h1 h2=>?_)),Wa _,nil,rfl⟩
   ·
    rw[hfrz _ hblk];refine⟨?_,((ok.plain hmx).there k hk).2⟩
    by_cases hk2:k < zs.length
    · rw[hcell k hk2];rfl
    · rw[hcell2 _ hblk (.inr (.inr (by simp only;omega)))];exact((ok.plain hmx).there k hk).1
   · rw[Wag] at h;obtain⟨z,_,rfl⟩:=WU.1 h;rfl
   ·
    rw[Wag] at h1;obtain⟨z,hz,rfl⟩:=WU.1 h1
    match j with
    |
     0 =>
     cases h2
     have hi:i < zs.length:=by rw[←hsl];exact(WC.1 hz).1
     refine⟨.int .i64 z,?_,rfl,.int _ _ _ ?_⟩
     · simp only[Nat.mul_one,Nat.add_zero];rw[hcell i hi,WJ,hz];rfl
     · obtain⟨k,hk,hke⟩:=WI.1 ((zdu zs).mem_iff.1 (List.mem_of_getElem? hz));have:=(hin k hk).2;simp only[Wh,Wc hk,Option.getD_some] at this;rw[hke] at this;exact this
    | j+1=>cases h2
end
end Go.Ab
namespace Go.Ab
open Go.RowKit Go.Proofs Go.Ab.Dm
def zfI (l:List Int) (j:Nat):Bool:=j == 0||(l.getD j 0 != l.getD (j - 1) 0)
def zaS (l:List Int) (n:Nat):List Int:=(filR (zfI l) n).map (fun j=>l.getD j 0)
def zaN (l:List Int):List Int:=zaS l l.length
theorem zpq {l:List Int} {n:Nat}:(zaS l n).length≤n:=by unfold zaS;rw[Wd];exact zwh
theorem zpa {l:List Int} {j:Nat} (hj:j < l.length) (h:zfI l j=true):zaS l (j+1)=zaS l j++[l[j]]:=by unfold zaS;rw[zuG h,Ww];simp[WJ,hj]
theorem zrN {l:List Int} {j:Nat} (h:zfI l j=false):zaS l (j+1)=zaS l j:=by unfold zaS;rw[zqy h]
theorem zlY {l:List Int} {n:Nat} (hn:n≤l.length) (h:∀j,j < n→zfI l j=true):zaS l n=l.take n:=by
 induction n with
 | zero=>rfl
 |
  succ n ih =>
  rw[zpa (by omega) (h n (by omega)),ih (by omega) (fun j hj=>h j (by omega)),Wac,Wc (by omega)];rfl
theorem zhW {l:List Int} {j:Nat} (h1:1≤j) (hj:j < l.length):zfI l j=(l[j] != l[j - 1]):=by unfold zfI;rw[WJ,WJ,Wc hj,Wc (show j - 1 < l.length by omega)];simp;omega
def curI (K l:List Int):List Int:=K++l.drop K.length
theorem zuh {K l:List Int} (h:K.length≤l.length):(curI K l).length=l.length:=by simp[curI];omega
theorem zyS {K l:List Int} {j:Nat} (h:K.length≤j) (hj:j < l.length):(curI K l)[j]? = some l[j]:=by unfold curI;rw[WaG h,List.getElem?_drop,show K.length+(j - K.length)=j by omega,Wc hj]
theorem zq1 {K l:List Int} {j:Nat} (h:K.length≤j) (hj:j < l.length):((curI K l).map cI).getD j []=[.int .i64 l[j]]:=by simp[WJ,zyS h hj]
theorem zzn {K l:List Int} {v:Int} (h:K.length < l.length):(curI K l).set K.length v=curI (K++[v]) l:=by unfold curI;rw[List.set_append_right _ _ (Wa _),Nat.sub_self,List.drop_eq_getElem_cons h,List.set_cons_zero];simp
theorem zw3 {K l:List Int} {v:Int} (h:K.length < l.length):((curI K l).map cI).set K.length [.int .i64 v]=(curI (K++[v]) l).map cI:=by rw[←zzn h,List.map_set]
theorem zwZ {l:List Int} {n:Nat} (h:n≤l.length):curI (l.take n) l=l:=by unfold curI;rw[Wv,W3 h,Waz]
theorem Qac {p q:Prop}(k:q)(h:Im q p:=by(repeat first|simp(disch:=try exact dis1) only[evD,Nat.reduceBEq,Nat.reduceAdd,Nat.reduceLeDiff,zbb] | ((with_reducible apply Im.i);intro _) | ((with_reducible apply Im.a);omega));exact Im.r):p:=h k
theorem Qax {p:Prop}(h:p:=by(try simp only[evWB,Nat.reduceBEq,Nat.reduceAdd,Nat.reduceSub,Nat.reduceLeDiff,Nat.reduceLT,implies_true,zaN])<;>exact fin2):p:=h
theorem zh7 (l:List Int) (g:Nat) (hl:l.length≤100000000000) :
  z7 Tryz.prog zY [.own 0 0 g 0 l.length] [(0,.row 1 (l.map cI) g)] 1
   (fun v H nx=>∃m,v=.own 0 0 g 0 (zaN l).length∧H=[(0,.row 1 ((zaN l++m).map cI) g)]∧nx=1):=by
 refine z8 (fn_x zhk rfl ?_);unfold zda;have hB:=hBig
 have fin:∀K m,(∀j,j < l.length→zfI l j=true)→K=(4,AV.undef)→m=0→zaN l=l:=fun K m h _ _=>by unfold zaN;rw[zlY (Wa _) h,Wx]
 (refine Qa ?_;intros)
 (refine zy (fun h=>?_) (fun h=>?_))<;>(try simp only[dcd] at h)
 ·
  (refine Qac ?_;intros)
  have hall:∀j,j < l.length→zfI l j=true:=fun j hj=>by
   have:j=0:=by omega
   subst this;rfl
  have e:=fin (4,.undef) 0 hall rfl rfl;refine⟨.own 0 0 g 0 l.length,[(0,.row 1 ((l++[]).map cI) g)],1,?_,[],by rw[e],by rw[e],rfl⟩;rw[Wz];exact(Ent.tabB [(0,0,0)] [] rfl rfl rfl Qak Qak)
 (refine Qa ?_;intros)
 refine zk (fun i:Nat=>([(0,.own 0 0 g 0 l.length),(3,.int .i64 i)],[(0,.row 1 (l.map cI) g)])) 1 (fun i=>1≤i∧i≤l.length∧∀j,j < i→zfI l j=true) (fun i=>l.length - i) 1 ⟨by omega,by omega,fun j hj=>(by rw[show j=0 by omega];rfl)⟩ (Ent.tabB [(0,0,0)] [] rfl rfl rfl Qak Qak) ?_;intro i ⟨hi1,hi2,hall⟩ wf;unfold zcs
 (refine Qa ?_;intros)
 (refine zy (fun h2=>?_) (fun h2=>?_))<;>(try simp only[dcd] at h2)
 ·
  have hi':i < l.length:=by omega
  have hi1':i - 1 < l.length:=by omega
  have ei:((i:Int) - 1).toNat=i - 1:=by omega
  (repeat first|simp(disch:=try exact dis1) only[evD,Nat.reduceBEq,Nat.reduceAdd,Nat.reduceLeDiff,zm hi',ei,zm hi1']|with_reducible first|intro _|refine aJ ?_)
  (refine zy (fun h3=>?_) (fun h3=>?_))<;>(try simp only[dcd] at h3)
  ·
   have hne:zfI l i=false:=by rw[zhW hi1 hi'];simp;omega
   have hk0:zaS l i=l.take i:=zlY (by omega) hall
   have hk1:zaS l (i+1)=l.take i:=by rw[zrN hne,hk0]
   have hk1l:(zaS l (i+1)).length=i:=by rw[hk1,Wv];omega
   have hstart:curI (zaS l (i+1)) l=l:=by rw[hk1,zwZ (by omega)]
   have esl:((l.length:Int) - i).toNat=l.length - i:=by omega
   (repeat first|simp(disch:=try exact dis1) only[evD,Nat.reduceBEq,Nat.reduceAdd,Nat.reduceLeDiff,esl]|with_reducible first|intro _|refine aJ ?_)
   refine zk (fun a:Nat=>([(0,.own 0 0 g 0 l.length),(3,.int .i64 (zaS l (i+a)).length),(4,.own 0 0 g i (l.length - i)),(5,.int .i64 a)],[(0,.row 1 ((curI (zaS l (i+a)) l).map cI) g)])) 1
    (fun a=>1≤a∧i+a≤l.length∧(zaS l (i+a)).length < i+a) (fun a=>l.length - (i+a)) 1 ⟨by omega,by omega,by omega⟩ (Ent.tabB [(0,0,0)] [] rfl rfl rfl (by(try simp only[evWB,Nat.reduceBEq,Nat.reduceAdd,Nat.reduceSub,Nat.reduceLeDiff,Nat.reduceLT,implies_true,hstart,hk1l])<;>exact fin2) (by(try simp only[evWB,Nat.reduceBEq,Nat.reduceAdd,Nat.reduceSub,Nat.reduceLeDiff,Nat.reduceLT,implies_true,hstart,hk1l])<;>exact fin2)) ?_
   intro a ⟨ha1,ha2,ha3⟩ wf;unfold zcv
   (refine Qa ?_;intros)
   (refine zy (fun h4=>?_) (fun h4=>?_))<;>(try simp only[dcd] at h4)
   ·
    have ha':i+a < l.length:=by omega
    have ha1':i+a - 1 < l.length:=by omega
    have e1:i+((a:Int) - 1).toNat=i+a - 1:=by omega
    have g1:=zq1 (K:=zaS l (i+a)) (l:=l) (by omega) ha';have g2:=zq1 (K:=zaS l (i+a)) (l:=l) (by omega) ha1';have hcl:=zuh (K:=zaS l (i+a)) (l:=l) (by omega)
    (repeat first|simp(disch:=try exact dis1) only[evD,Nat.reduceBEq,Nat.reduceAdd,Nat.reduceLeDiff,e1,g1,g2]|with_reducible first|intro _|refine aJ ?_)
    (refine zy (fun h5=>?_) (fun h5=>?_))<;>(try simp only[dcd] at h5)
    ·
     have hp:zfI l (i+a)=true:=by rw[zhW (by omega) ha'];simp;omega
     have hy:=zpa ha' hp;have hst:=zw3 (K:=zaS l (i+a)) (l:=l) (v:=l[i+a]) (by omega);rw[←hy] at hst
     have hyl:(zaS l (i+a+1)).length=(zaS l (i+a)).length+1:=by rw[hy];simp
     (repeat first|simp(disch:=try exact dis1) only[evD,Nat.reduceBEq,Nat.reduceAdd,Nat.reduceLeDiff,e1,g1,g2,hst]|with_reducible first|intro _|refine aJ ?_)
     exact⟨a+1,⟨by omega,by omega,by rw[show i+(a+1)=i+a+1 by omega,hyl];omega⟩,by omega,(Ent.tabB [(0,0,0)] [] rfl rfl rfl (by(try simp only[evWB,Nat.reduceBEq,Nat.reduceAdd,Nat.reduceSub,Nat.reduceLeDiff,Nat.reduceLT,implies_true,show i+(a+1)=i+a+1 by omega,hyl])<;>exact fin2) (by(try simp only[evWB,Nat.reduceBEq,Nat.reduceAdd,Nat.reduceSub,Nat.reduceLeDiff,Nat.reduceLT,implies_true,show i+(a+1)=i+a+1 by omega,hyl])<;>exact fin2))⟩
    ·
     have hp:zfI l (i+a)=false:=by rw[zhW (by omega) ha'];simp;omega
     have hy:=zrN hp
     (refine Qa ?_;intros)
     exact⟨a+1,⟨by omega,by omega,by rw[show i+(a+1)=i+a+1 by omega,hy];omega⟩,by omega,(Ent.tabB [(0,0,0)] [] rfl rfl rfl (by(try simp only[evWB,Nat.reduceBEq,Nat.reduceAdd,Nat.reduceSub,Nat.reduceLeDiff,Nat.reduceLT,implies_true,show i+(a+1)=i+a+1 by omega,hy])<;>exact fin2) (by(try simp only[evWB,Nat.reduceBEq,Nat.reduceAdd,Nat.reduceSub,Nat.reduceLeDiff,Nat.reduceLT,implies_true,show i+(a+1)=i+a+1 by omega,hy])<;>exact fin2))⟩
   ·
    have hia:i+a=l.length:=by omega
    rw[hia] at ha3 ⊢
    have hz:((l.length:Int) - (zaS l l.length).length).toNat=l.length - (zaS l l.length).length:=by omega
    have hcl:=zuh (K:=zaS l l.length) (l:=l) (by omega)
    have hclr:((curI (zaS l l.length) l).map cI).take (zaS l l.length).length++WW (l.length - (zaS l l.length).length) [AV.int .i64 0]++((curI (zaS l l.length) l).map cI).drop ((zaS l l.length).length+(l.length - (zaS l l.length).length))=(zaS l l.length++WW (l.length - (zaS l l.length).length) 0).map cI:=by
     rw[List.drop_of_length_le (by rw[Wd,hcl];omega),Wz,←List.map_take,Ww,List.map_replicate]
     congr 2
     unfold curI;rw[Wam (Wa _),Wx]
    unfold zcq
    (repeat first|simp(disch:=try exact dis1) only[evD,Nat.reduceBEq,Nat.reduceAdd,Nat.reduceLeDiff,zbb,hz,hclr]|with_reducible first|intro _|refine aJ ?_)
    refine⟨.own 0 0 g 0 (zaN l).length,[(0,.row 1 ((zaN l++WW (l.length - (zaS l l.length).length) 0).map cI) g)],1,?_,_,rfl,rfl,rfl⟩;exact(Ent.tabB [(0,0,0)] [] rfl rfl rfl Qax Qax)
  ·
   have hne:zfI l i=true:=by rw[zhW hi1 hi'];simp;omega
   unfold zcp
   (refine Qa ?_;intros)
   refine⟨i+1,⟨by omega,by omega,fun j hj=>?_⟩,by omega,(Ent.tabB [(0,0,0)] [] rfl rfl rfl Qak Qak)⟩
   by_cases hji:j=i
   · subst hji;exact hne
   · exact hall j (by omega)
 ·
  obtain rfl:i=l.length:=by omega
  unfold zcw;have e:=fin (4,.undef) 0 hall rfl rfl
  (refine Qac ?_;intros)
  refine⟨.own 0 0 g 0 l.length,[(0,.row 1 ((l++[]).map cI) g)],1,?_,[],by rw[e],by rw[e],rfl⟩;rw[Wz];exact(Ent.tabB [(0,0,0)] [] rfl rfl rfl Qak Qak)
theorem zw4 {p:Nat→Bool}:∀ {n j:Nat},j < n→p j=false→(filR p n).length < n
 |
  n+1,j,hj,hp=>by
  by_cases h:j=n
  · subst h;rw[zqy hp];have:=zwh (p:=p) (n:=j);omega
  ·
   have ih:=zw4 (n:=n) (by omega) hp
   cases hn:p n with
   | true=>rw[zuG hn,Wy,WF];omega
   | false=>rw[zqy hn];omega
theorem zoK {l:List Int} (hs:l.Pairwise (·≤·)):(zaN l).length < l.length↔¬l.Nodup:=by
 constructor
 ·
  intro h hn
  have:zaN l=l:=by
   unfold zaN;rw[zlY (Wa _) (fun j hj=>?_),Wx]
   by_cases h0:j=0
   · subst h0;rfl
   ·
    rw[zhW (by omega) hj];have:=Waf.1 hn;rw[WA] at this;have:=this (j - 1) j (by omega) hj (by omega);simp only[bne_iff_ne,ne_eq]
    exact fun e=>this e.symm
  rw[this] at h;omega
 ·
  intro hn;unfold zaN zaS;rw[Wd]
  have:∃j,j < l.length∧zfI l j=false:=by
   refine Classical.byContradiction fun hc=>hn ?_
   have hall:∀j,j < l.length→zfI l j=true:=fun j hj=>by
    cases hk:zfI l j with
    | true=>rfl
    | false=>exact absurd ⟨j,hj,hk⟩ hc
   rw[Waf,WA];intro i j hi hj hij e;have h1:=hall (i+1) (by omega);rw[zhW (by omega) (by omega)] at h1;simp only[Wak,bne_iff_ne,ne_eq] at h1;rw[WA] at hs;have h2:=hs i (i+1) hi (by omega) (by omega)
   rcases WG (i+1) j with h3|h3
   · have:=hs (i+1) j (by omega) hj h3;omega
   ·
    obtain rfl:j=i+1:=by omega
    exact h1 e.symm
  obtain⟨j,hj,hp⟩:=this;exact zw4 hj hp
theorem znG (l:List Int):decide ((zaN (zhp l)).length < (zhp l).length) = !decide l.Nodup:=by
 have h:=zoK (zjh l);have hp:=(zdu l).nodup_iff
 by_cases hn:l.Nodup
 · rw[decide_eq_true hn,decide_eq_false (fun hc=>h.1 hc (hp.2 hn))];rfl
 · rw[decide_eq_false hn,decide_eq_true (h.2 (fun hc=>hn (hp.1 hc)))];rfl
end Go.Ab
namespace Go.Ab
open Go.RowKit Go.Proofs
theorem zpd (l:List Int) (g:Nat) (hl:l.length≤100000000):z7 Tryz.prog zw [.own 0 0 g 0 l.length] [(0,.row 1 (l.map cI) g)] 1
  (fun v H nx=>v=.own 1 0 0 0 l.length∧H=[(0,.row 1 (l.map cI) g),(1,.row 1 (l.map cI) 0)]∧nx=2):=by
 refine z8 (fn_x zbq rfl ?_);unfold zaE;have hB:=hBig
 by_cases h0:l.length=0
 ·
  obtain rfl:l=[]:=WX h0;have e1:nilB false (.own 0 0 g 0 0)=some none:=rfl
  (repeat first|simp(disch:=try exact dis1) only[evD,Nat.reduceBEq,Nat.reduceAdd,Nat.reduceLeDiff,e1]|with_reducible first|intro _|refine aJ ?_)
  rename_i b;cases b
  ·
   (refine QD ?_;intros)
   exact⟨.own 1 0 0 0 0,[(0,.row 1 [] g),(1,.row 1 [] 0)],2,(Ent.tabB [(0,0,0),(1,2,1)] [] rfl rfl rfl Qak Qak),rfl,rfl,rfl⟩
  ·
   (refine QD ?_;intros)
   exact⟨.own 1 0 0 0 0,[(0,.row 1 [] g),(1,.row 1 [] 0)],2,(Ent.tabB [(0,0,0),(1,2,0)] [] rfl rfl rfl Qak Qak),rfl,rfl,rfl⟩
 ·
  have e1:nilB false (.own 0 0 g 0 l.length)=some (some false):=by unfold nilB;simp only[zH h0];rfl
  (repeat first|simp(disch:=try exact dis1) only[evD,Nat.reduceBEq,Nat.reduceAdd,Nat.reduceLeDiff,e1,zF]|with_reducible first|intro _|refine aJ ?_)
  exact⟨.own 1 0 0 0 l.length,[(0,.row 1 (l.map cI) g),(1,.row 1 (l.map cI) 0)],2,(Ent.tabB [(0,0,0),(1,2,1)] [] rfl rfl rfl Qak Qak),rfl,rfl,rfl⟩
theorem zxm {H:AH} {f rb r g gb n:Nat} {l:List Int} (hb:H.get rb 0=some (.row 1 [[.own r 0 g 0 n]] gb)) (hr:H.get r 0=some (.row 1 (l.map cI) g)) (hn:n=l.length) (hl:l.length≤big) :
  Vw H [] nos allR false (.fn (.func f) [.ptr rb 0 gb 0 0]) (.fn (.func f) [encP 1 [za l]]):=by
 subst hn
 refine .fn _ _ _ _ rfl fun i a b h1 h2=>?_
 match i with
 |
  0 =>
  cases h1;cases h2
  refine .frzp _ rb 0 gb 0 0 1 1 [[.own r 0 g 0 l.length]] _ trivial hb (by simp) (by omega) fun j hj=>?_
  obtain rfl:j=0:=by omega
  exact zaL (l:=l) trivial hr hl
 | i+1=>cases h1
def zz7 (labs:List Int):Nd→Bool
 | .mk f _ _=>decide (f.kind=9) && !hasI labs f.label
theorem zst (l:List Nd) (labs:List Int):PredN (.fn (.func zds) [encP 1 [za labs]]) l (zz7 labs):=by
 refine⟨_,_,rfl,by kernel_rfl,rfl,fun s hs=>?_⟩;refine fn_x zjL rfl ?_;unfold zfA;obtain⟨⟨kd,bl,lb⟩,c,m⟩:=s;have hg:zz7 labs (.mk ⟨kd,bl,lb⟩ c m)=(decide (kd=9) && !hasI labs lb):=rfl;rw[hg,zex];simp only
 by_cases h9:kd=9
 ·
  rw[dT h9,Wu]
  (refine QM ?_;intros)
  refine zc (zg (ziM labs lb) rfl) ?_
  (repeat first|simp(disch:=try exact dis1) only[evD,Nat.reduceBEq,Nat.reduceAdd,Nat.reduceLeDiff,zc4]|with_reducible first|intro _|refine aJ ?_)
  exact⟨_,.bool _ _,rfl⟩
 ·
  rw[dF h9,Wt]
  (repeat first|simp(disch:=try exact dis1) only[evD,Nat.reduceBEq,Nat.reduceAdd,Nat.reduceLeDiff,dF,fldP,encP,zc4]|with_reducible first|intro _|refine aJ ?_)
  exact⟨_,.bool _ _,rfl⟩
theorem zmu {g:G} (h:zbz g=0):zmC g=0:=by
 unfold zbz at h;split at h
 · exact absurd h (by decide)
 · exact h
def zk9 (g:G) (e:Nd):Int :=
 if zbz g≠0 then zbz g else if zfb e=false then 2 else if covB g e=false then 18 else if zkh e false=true then 21 else if (zlJ e).any (fun t => !hasI (coll labP e) t)=true then 9 else if (coll labP e).Nodup then 0 else 8
mutual
theorem zls (labs:List Int):∀e:Nd,zfb e=true→(allN e).any (zz7 labs)=(zlJ e).any (fun t => !hasI labs t)
 |
  .mk f c l,h=>by
  rw[zfb,Wl] at h;have ih:=zki labs l h.1;rw[allN,List.any_cons,ih,zlJ];show (decide (f.kind=9) && !hasI labs f.label||_)=_
  by_cases h9:f.kind=9
  · have h2:=h.2;unfold zbE at h2;rw[Wl,decide_eq_true_eq] at h2;have h3:=h2.1;unfold zJ at h3;have hl:l=[]:=WX (by omega);subst hl;rw[if_pos h9,dT h9,zhQ];simp
  · rw[if_neg h9,dF h9];simp
theorem zki (labs:List Int):∀l:List Nd,zdI l=true→(zd4 l).any (zz7 labs)=(zhQ l).any (fun t => !hasI labs t)
 | [],_=>by rw[zd4,zhQ];rfl
 |
  x::l,h=>by
  rw[zdI,Wl] at h;rw[zd4,W9,zls labs x h.1,zki labs l h.2,zhQ,W9]
end
theorem QA {p q:Prop}(k:q)(h:Im q p:=by(repeat first|simp(disch:=try exact dis1) only[evD,Nat.reduceBEq,Nat.reduceAdd,Nat.reduceLeDiff,zao] | ((with_reducible apply Im.i);intro _) | ((with_reducible apply Im.a);omega));exact Im.r):p:=h k
theorem Qad {p q:Prop}(k:q)(h:Im q p:=by(repeat first|simp(disch:=try exact dis1) only[evD,Nat.reduceBEq,Nat.reduceAdd,Nat.reduceLeDiff,zlA,tab,List.getD_cons_zero,List.getD_cons_succ,zbe] | ((with_reducible apply Im.i);intro _) | ((with_reducible apply Im.a);omega));exact Im.r):p:=h k
theorem QH {p q:Prop}(k:q)(h:Im q p:=by(repeat first|simp(disch:=try exact dis1) only[evD,Nat.reduceBEq,Nat.reduceAdd,Nat.reduceLeDiff,renI] | ((with_reducible apply Im.i);intro _) | ((with_reducible apply Im.a);omega));exact Im.r):p:=h k
theorem zlg (g:G) (hf:midG g) (e:Nd) (hs:zav e≤1000):zl Tryz.prog zeC [.agg (encN e),.agg g.cells] (·=.int .i64 (zk9 g e)):=by
 refine fn_x zlu rfl ?_;unfold zg9;have hB:=hBig;have hG:=zhI g (zjD hf) (zpl hf);have hA:=ziG e hs
 have hal:(allN e).length≤1000:=by rw[zm4];exact hs
 have hF:=zcd (allN e) _ _ (zms (allN e));have hC:=zkP g hf (allN e) hal (by rw[zrZ];exact WV (zm8 zAr e) hs);have hLp:=zjS (zav e) e false (Wa _);have hLb:=zjO e hs
 have hlaw:=fun h=>zvT g e (zmu h)
 have hgl:=fun labs=>zls labs e
 have hany:((allN e).any fun x => !znW x) = !zfb e:=by rw[←zoE,WP];simp
 rw[hany] at hF;unfold zk9;have hll:(coll labP e).length≤1000:=WV (zm8 zuQ e) hs;obtain⟨ad,gl⟩:=g;simp only[G.cells] at hG hC ⊢
 (repeat first|simp(disch:=try exact dis1) only[evD,Nat.reduceBEq,Nat.reduceAdd,Nat.reduceLeDiff,fldP,zlA,tab,zbR,zaH,Wq,Wp]|with_reducible first|intro _|refine aJ ?_)
 refine zc (zg hG rfl) ?_
 by_cases h0:zbz ⟨ad,gl⟩=0
 case neg =>
  rw[if_pos h0]
  (repeat first|simp(disch:=try exact dis1) only[evD,Nat.reduceBEq,Nat.reduceAdd,Nat.reduceLeDiff,dT,zao]|with_reducible first|intro _|refine aJ ?_)
  exact⟨_,.int _ _ _,rfl⟩
 have hlaw2:=hlaw h0;simp only at hlaw2;rw[hlaw2] at hC;rw[if_neg (fun h=>h h0),h0]
 (repeat first|simp(disch:=try exact dis1) only[evD,Nat.reduceBEq,Nat.reduceAdd,Nat.reduceLeDiff,dF,zbR,zaH,zbe,zlA,tab,Wq,Wp]|with_reducible first|intro _|refine aJ ?_)
 refine zc (zg hA (flN rfl)) ?_
 (refine Qa ?_;intros)
 refine zc (zM (D:=noR) hF (.cons (zal rfl) (.cons (zt5 (zms (allN e))) .nil)) (.inl rfl)) ?_
 cases hfm:zfb e with
 |
  false =>
  (refine QA ?_;intros)
  exact⟨_,.int _ _ _,rfl⟩
 | true =>
 rw[if_neg (by simp)]
 (repeat first|simp(disch:=try exact dis1) only[evD,Nat.reduceBEq,Nat.reduceAdd,Nat.reduceLeDiff,zlA,tab,Wq,Wp]|with_reducible first|intro _|refine aJ ?_)
 refine zc (zg hC rfl) ?_
 cases hcv:covB ⟨ad,gl⟩ e with
 |
  false =>
  (refine QA ?_;intros)
  exact⟨_,.int _ _ _,rfl⟩
 | true =>
 rw[if_neg (by simp)]
 (refine Qad ?_;intros)
 refine zc (zg hLp flNB) ?_
 cases hst:zkh e false with
 |
  true =>
  (refine QA ?_;intros)
  exact⟨_,.int _ _ _,rfl⟩
 | false =>
 rw[if_neg (by simp)]
 (refine Qad ?_;intros)
 refine zbr [] 0 _ hLb rfl rfl (by simp only[evWB,Nat.reduceBEq,Nat.reduceAdd,Nat.reduceSub,Nat.reduceLeDiff,Nat.reduceLT,implies_true]) ⟨zal (by have:=flN (r:=[]) rfl (e:=e);simpa using this),trivial⟩ ?_;rintro _ _ _ ⟨rfl,rfl,rfl⟩;generalize hlb:coll labP e=labs at hll ⊢
 (refine QH ?_;intros)
 have hG2:=zcd (allN e) _ _ (zst (allN e) labs);rw[hgl labs hfm] at hG2;refine zc (zM (D:=allR) hG2 (.cons (zal rfl) (.cons (zxm (l:=labs) rfl rfl rfl (by omega)) .nil)) (.inl rfl)) ?_
 cases hgt:(zlJ e).any fun t => !hasI labs t with
 |
  true =>
  (refine QA ?_;intros)
  exact⟨_,.int _ _ _,rfl⟩
 | false =>
 rw[if_neg (by simp)]
 (refine Qa ?_;intros)
 refine zhL (zr5 (zs:=labs) rfl (by omega)) ?_;rintro _ _ _ hres;simp only[W8] at hres;obtain⟨rfl,rfl,rfl⟩:=hres;have hsl:(zhp labs).length=labs.length:=(zdu labs).length_eq;have hdup:=znG labs;rw[hsl] at hdup;rw[←hsl] at hdup ⊢
 have hcl:(zaN (zhp labs)).length≤(zhp labs).length:=by unfold zaN;exact zpq
 generalize zhp labs=ss at hsl hdup hcl ⊢
 by_cases hnd:labs.Nodup
 ·
  rw[if_pos hnd];rw[dT hnd] at hdup;have hc:¬(zaN ss).length < ss.length:=of_decide_eq_false hdup
  (refine Qa ?_;intros)
  (repeat' with_reducible apply WD)<;>(refine zbr [(0,0,0)] 1 _ (zpd ss 0 (by omega)) rfl rfl Qal Qal ?_;rintro _ _ _ ⟨rfl,rfl,rfl⟩;(refine QH ?_;intros);(repeat' with_reducible apply WD)<;>(refine zbr [(0,3,0)] 1 _ (zh7 ss 0 (by omega)) rfl rfl Qal Qal ?_;rintro _ _ _ ⟨m,rfl,rfl,rfl⟩;(repeat first|simp(disch:=try exact dis1) only[evD,Nat.reduceBEq,Nat.reduceAdd,Nat.reduceLeDiff,renI,dF,zao]|with_reducible first|intro _|refine aJ ?_);exact⟨_,.int _ _ _,rfl⟩))
 ·
  rw[if_neg hnd];rw[dF hnd] at hdup;have hc:(zaN ss).length < ss.length:=of_decide_eq_true hdup
  (refine Qa ?_;intros)
  (repeat' with_reducible apply WD)<;>(refine zbr [(0,0,0)] 1 _ (zpd ss 0 (by omega)) rfl rfl Qal Qal ?_;rintro _ _ _ ⟨rfl,rfl,rfl⟩;(refine QH ?_;intros);(repeat' with_reducible apply WD)<;>(refine zbr [(0,3,0)] 1 _ (zh7 ss 0 (by omega)) rfl rfl Qal Qal ?_;rintro _ _ _ ⟨m,rfl,rfl,rfl⟩;(repeat first|simp(disch:=try exact dis1) only[evD,Nat.reduceBEq,Nat.reduceAdd,Nat.reduceLeDiff,renI,dT,zao]|with_reducible first|intro _|refine aJ ?_);exact⟨_,.int _ _ _,rfl⟩))
def inR (n:Nat) (l:List Int):Prop:=∀t∈l,0≤t∧t≤n
theorem inR.mono {n m:Nat} {l:List Int} (h:inR n l) (hm:n≤m):inR m l:=fun t ht=>by have:=h t ht;omega
def StOk (n:Nat) (s:PSt):Prop:=((s.kind=0∨s.kind=2)∧s.to=none)∨(s.kind=1∧∃l,s.to=some l∧inR n l)
theorem StOk.mono {n m:Nat} {s:PSt} (h:StOk n s) (hm:n≤m):StOk m s:=h.imp id fun⟨a,l,b,c⟩=>⟨a,l,b,c.mono hm⟩
structure WfP (p:PC):Prop where
 st:∀k s,p.st[k]? = some s→StOk p.st.length s∧(s.kind=0→k+1≤p.st.length)
 lp:∀x∈p.lp,0≤x.1∧x.1≤p.st.length
 lab:∀x∈p.lab,0≤x.2∧x.2≤p.st.length
theorem WfP.add {p:PC} (h:WfP p) {s:PSt} (hs:StOk (p.st.length+1) s):WfP (addP p s):=by
 have e:(addP p s).st.length=p.st.length+1:=by simp[addP]
 refine⟨fun k s' hk=>?_,fun x hx=>by rw[e];have:=h.lp x hx;omega,fun x hx=>by rw[e];have:=h.lab x hx;omega⟩;rw[e]
 have hkl:k < p.st.length+1:=by rw[←e];exact(WC.1 hk).1
 refine⟨?_,fun _=>by omega⟩;simp only[addP] at hk
 by_cases hlt:k < p.st.length
 · rw[List.getElem?_append_left hlt] at hk;exact(h.st k s' hk).1.mono (by omega)
 · rw[WaG (by omega),show k - p.st.length=0 by omega] at hk;cases hk;exact hs
theorem WfP.mod {p:PC} (h:WfP p) {k:Nat} {f:List Int→List Int} (hf:∀l,inR p.st.length l→inR p.st.length (f l)):WfP { p with st:=p.st.modify k fun s=>{ s with to:=s.to.map f } }:=by
 refine⟨fun i s' hi=>?_,fun x hx=>by have:=h.lp x hx;simpa using this,fun x hx=>by have:=h.lab x hx;simpa using this⟩;simp only[WQ,List.length_modify] at hi ⊢
 cases hs:p.st[i]? with
 | none=>rw[hs] at hi;cases hi
 |
  some s =>
  rw[hs] at hi;simp only[WS,Ws,WH] at hi;obtain⟨h1,h2⟩:=h.st i s hs;split at hi
  ·
   subst hi;refine⟨?_,h2⟩
   rcases h1 with ⟨a,b⟩ | ⟨a,l,b,c⟩
   · exact .inl ⟨a,by simp[b]⟩
   · exact .inr ⟨a,f l,by simp[b],hf l c⟩
  · subst hi;exact⟨h1,h2⟩
theorem WfP.setTo {p:PC} (h:WfP p) {k i:Nat} {v:Int} (hv:0≤v∧v≤p.st.length):WfP (setTo p k i v):=h.mod fun l hl t ht=>by
 rcases Wah ht with ht|ht
 · exact hl t ht
 · rw[ht];exact hv
theorem WfP.appTo {p:PC} (h:WfP p) {k:Nat} {v:Int} (hv:0≤v∧v≤p.st.length):WfP (appTo p k v):=h.mod fun l hl t ht=>by
 rcases Wo.1 ht with ht|ht
 · exact hl t ht
 · rw[We.1 ht];exact hv
theorem WfP.putAll:∀ {ks:List Int} {p:PC} {v:Int},WfP p→(0≤v∧v≤p.st.length)→WfP (putAll p ks v)
 | [],p,v,h,_=>h
 |
  k::ks,p,v,h,hv=>by
  unfold Go.Ab.putAll;rw[List.foldl_cons];exact WfP.putAll (ks:=ks) (h.setTo hv) (by simpa [Go.Ab.setTo] using hv)
theorem WfP.withLp {p:PC} (h:WfP p) {l:List (Int × List Int)} (hl:∀x∈l,0≤x.1∧x.1≤p.st.length):WfP { p with lp:=l }:=⟨h.st,hl,h.lab⟩
theorem WfP.withGot {p:PC} (h:WfP p) {l:List (Int × Int)}:WfP { p with got:=l }:=⟨h.st,h.lp,h.lab⟩
theorem WfP.jump {p:PC} (h:WfP p) {v:Int} (hv:0≤v∧v≤p.st.length+1):WfP (zaA p v):=h.add (.inr ⟨rfl,_,rfl,fun t ht=>by rw[We.1 ht];exact⟨hv.1,by have:=hv.2;omega⟩⟩)
theorem zA7 {p:PC} (h:WfP p):0≤topL p.lp∧topL p.lp≤p.st.length:=by
 unfold topL
 cases hg:p.lp.getLast? with
 | none=>simp
 | some x=>exact h.lp x (WaH hg)
theorem WfP.push {p:PC} (h:WfP p) {t:Int} (ht:0≤t∧t≤p.st.length):WfP (zbl p t):=h.withLp fun x hx=>by
 rcases Wo.1 hx with hx|hx
 · exact h.lp x hx
 · rw[We.1 hx];exact ht
theorem zyY (p:PC) (v:Int):(zaA p v).st.length=p.st.length+1:=by simp[zaA,addP]
theorem WfP.close {q:PC} (h:WfP q) {top:Int} (ht:0≤top∧top≤q.st.length):WfP (zdZ q top):=by
 unfold zdZ
 have h1:WfP { q with lp:=q.lp.dropLast }:=h.withLp fun x hx=>h.lp x (WaI _ hx)
 exact WfP.putAll (h1.jump (by simp only;omega)) ⟨by omega,Wk _⟩
theorem zzl {l:List (Int × Int)} {k v:Int} {x:Int × Int} (h:x∈setL l k v):x∈l∨x=(k,v):=by
 unfold setL at h;split at h
 · exact Wah h
 ·
  rcases Wo.1 h with h|h
  · exact .inl h
  · exact .inr (We.1 h)
mutual
theorem zqw:∀(n:Nd) (p:PC),WfP p→WfP (zaC n p)
 |
  .mk f c l,p,h=>by
  rw[zaC];split
  · exact zlj l p h
  split
  · exact h.add (.inl ⟨.inl rfl,rfl⟩)
  split
  · simp only;have h1:WfP (zaQ p):=h.add (.inr ⟨rfl,_,rfl,fun t ht=>by cases ht⟩);exact WfP.putAll (zAL p.st.length l (zaQ p) [] h1) ⟨by omega,Wk _⟩
  split
  · have h1:=zlj l _ (h.push (t:=p.st.length) ⟨by omega,Wk _⟩);have h2:=(zbN l (zbl p p.st.length)).keep.len;exact h1.close ⟨by omega,by have:(zbl p p.st.length).st.length=p.st.length:=rfl;omega⟩
  split
  ·
   simp only;have h0:WfP (addP p ⟨0,f.block,none⟩):=h.add (.inl ⟨.inl rfl,rfl⟩)
   have hl:(zeG p f.block).st.length=p.st.length+2:=by simp[zeG,addP]
   have h1:WfP (zeG p f.block):=h0.add (.inr ⟨rfl,_,rfl,fun t ht=>by
    have e:(addP p ⟨0,f.block,none⟩).st.length=p.st.length+1:=by simp[addP]
    rw[e];simp only[Wi,Wat,or_false] at ht
    rcases ht with rfl|rfl<;>constructor<;>omega⟩)
   have h2:=zlj l _ (h1.push (t:=p.st.length) ⟨by omega,by omega⟩);have h3:=(zbN l (zbl (zeG p f.block) p.st.length)).keep.len;have e3:(zbl (zeG p f.block) p.st.length).st.length=p.st.length+2:=hl;have h4:=h2.close (top:=p.st.length) ⟨by omega,by omega⟩;exact h4.setTo ⟨by omega,Wk _⟩
  split
  ·
   have h1:WfP (zaA p 0):=h.jump ⟨Wk _,by omega⟩
   refine h1.withLp fun x hx=>?_
   unfold zkf at hx
   cases hg:p.lp.getLast? with
   | none=>rw[hg] at hx;exact h1.lp x hx
   |
    some y =>
    rw[hg] at hx
    rcases Wo.1 hx with hx|hx
    · exact h1.lp x (WaI _ hx)
    · rw[We.1 hx];exact h1.lp y (WaH hg)
  split
  · have:=zA7 h;exact h.jump ⟨this.1,by omega⟩
  split
  · exact(h.jump ⟨Wk _,by omega⟩).withGot
  split
  ·
   refine⟨h.st,h.lp,fun x hx=>?_⟩
   rcases zzl hx with hx|hx
   · exact h.lab x hx
   · rw[hx];exact⟨by simp only;omega,Wk _⟩
  split
  · exact h.add (.inl ⟨.inr rfl,rfl⟩)
  · exact h
theorem zlj:∀(l:List Nd) (p:PC),WfP p→WfP (zay l p)
 | [],p,h=>by rw[zay];exact h
 |
  n::l,p,h=>by
  rw[zay];exact zlj l _ (zqw n p h)
theorem zAL (at':Nat):∀(l:List Nd) (p:PC) (ends:List Int),WfP p→WfP (brP at' l p ends).1
 | [],p,ends,h=>by rw[brP];exact h
 |
  n::l,p,ends,h=>by
  rw[brP];exact zAL at' l _ _ ((zqw n _ (h.appTo ⟨by omega,Wk _⟩)).jump ⟨Wk _,by omega⟩)
end
def NeF (b:Nat) (p:PC):Prop:=∀k m,b≤k→tlen p k=some m→0 < m
theorem NeF.none {p:PC}:NeF p.st.length p:=fun k m hk h=>by unfold tlen at h;rw[W7 hk] at h;cases h
theorem NeF.mono {b c:Nat} {p:PC} (h:NeF b p) (hc:b≤c):NeF c p:=fun k m hk=>h k m (by omega)
theorem NeF.of_st {b:Nat} {p q:PC} (h:NeF b p) (e:q.st=p.st):NeF b q:=fun k m hk hm=>h k m hk (by unfold tlen at hm ⊢;rw[←e];exact hm)
theorem NeF.same {b:Nat} {p q:PC} (h:NeF b p) (e:∀k,tlen q k=tlen p k):NeF b q:=fun k m hk hm=>h k m hk (by rw[←e];exact hm)
theorem znn {ks:List Int} {p:PC} {v:Int} (k:Nat):tlen (putAll p ks v) k=tlen p k:=ze1 (b:=k+1) k (WaJ k)
theorem zvp {p:PC} {i j:Nat} {v:Int} (k:Nat):tlen (setTo p i j v) k=tlen p k:=zij (b:=k+1) k (WaJ k)
theorem NeF.add {b:Nat} {p:PC} (h:NeF b p) {s:PSt} (hs:∀l,s.to=some l→0 < l.length):NeF b (addP p s):=fun k m hk hm=>by
 by_cases hlt:k < p.st.length
 · exact h k m hk (by rw[←zbC (p:=p) (s:=s) (Wa _) k hlt];exact hm)
 ·
  unfold tlen addP at hm;simp only at hm
  by_cases hk2:k=p.st.length
  · subst hk2;simp only[Was,Wm] at hm;obtain⟨l,h1,h2⟩:=WU.1 hm;rw[←h2];exact hs l h1
  · rw[W7 (by simp;omega)] at hm;cases hm
theorem NeF.jump {b:Nat} {p:PC} (h:NeF b p) {v:Int}:NeF b (zaA p v):=h.add fun l e=>by cases e;simp
theorem NeF.close {b:Nat} {q:PC} (h:NeF b q) {top:Int}:NeF b (zdZ q top):=by unfold zdZ;exact NeF.same (NeF.jump (h.of_st (q:={ q with lp:=q.lp.dropLast }) rfl)) (znn)
theorem NeF.glue {b:Nat} {p q:PC} (hp:NeF b p) (hq:NeF p.st.length q) (hk:zd3 p.st.length p q):NeF b q:=fun k m h1 h2=>by
 rcases WG k p.st.length with h3|h3
 · exact hp k m h1 (by rw[←hk k h3];exact h2)
 · exact hq k m h3 h2
mutual
theorem zpY:∀(n:Nd) (p:PC),zfb n=true→NeF p.st.length (zaC n p)
 |
  .mk f c l,p,hf=>by
  rw[zfb,Wl] at hf;obtain⟨hfl,hff⟩:=hf;unfold zbE at hff;rw[Wl,decide_eq_true_eq] at hff;have hfp:=hff.1;rw[zaC];split
  · exact zlp l p hfl
  split
  · exact NeF.none.add fun l e=>by cases e
  split
  ·
   rename_i h1 h2 h3
   have hl:0 < l.length:=by unfold zJ at hfp;omega
   simp only
   have h2':tlen (zaQ p) p.st.length=some 0:=by unfold tlen zaQ addP;simp
   have hb:=zAE p.st.length l (zaQ p) [] 0 hfl (by simp[zaQ,addP]) h2' (NeF.mono NeF.none (by simp[zaQ,addP]));refine NeF.same (fun k m hk hm=>?_) znn
   rcases Nat.eq_or_lt_of_le hk with he|hlt
   · subst he;rw[hb.2] at hm;cases hm;omega
   · exact hb.1 k m hlt hm
  split
  · exact(zlp l (zbl p p.st.length) hfl).close
  split
  ·
   simp only
   have h1:NeF p.st.length (zeG p f.block):=NeF.add (NeF.none.add fun l e=>by cases e) fun l e=>by cases e;simp
   have h2:=zlp l (zbl (zeG p f.block) p.st.length) hfl;have h3:NeF p.st.length (zay l (zbl (zeG p f.block) p.st.length)):=NeF.glue (p:=zbl (zeG p f.block) p.st.length) (h1.of_st rfl) h2 (zdx l _ _ (Wa _));exact NeF.same h3.close (zvp)
  split
  · exact NeF.of_st (p:=zaA p 0) NeF.none.jump rfl
  split
  · exact NeF.none.jump
  split
  · exact NeF.of_st (p:=zaA p 0) NeF.none.jump rfl
  split
  · exact NeF.of_st (p:=p) NeF.none rfl
  split
  · exact NeF.none.add fun l e=>by cases e
  · exact NeF.none
theorem zlp:∀(l:List Nd) (p:PC),zdI l=true→NeF p.st.length (zay l p)
 | [],p,_=>by rw[zay];exact NeF.none
 |
  n::l,p,h=>by
  rw[zdI,Wl] at h;rw[zay];exact NeF.glue (zpY n p h.1) (zlp l (zaC n p) h.2) (zdx l _ _ (Wa _))
theorem zAE (at':Nat):∀(l:List Nd) (p:PC) (ends:List Int) (m:Nat),zdI l=true→at' < p.st.length→tlen p at'=some m→NeF (at'+1) p→NeF (at'+1) (brP at' l p ends).1∧tlen (brP at' l p ends).1 at'=some (m+l.length)
 | [],p,ends,m,_,_,ht,hn=>by rw[brP];exact⟨hn,by simpa using ht⟩
 |
  n::l,p,ends,m,hf,hl,ht,hn=>by
  rw[zdI,Wl] at hf;rw[brP]
  have e1:(appTo p at' p.st.length).st.length=p.st.length:=by simp[appTo]
  have e2:=(zbW n (appTo p at' p.st.length)).keep.len
  have h0:NeF (at'+1) (appTo p at' p.st.length):=fun k m' hk hm=>hn k m' hk (by
   rw[←hm];unfold tlen appTo;simp only[WQ]
   cases p.st[k]? with
   | none=>rfl
   |
    some s =>
    simp only[WS,Ws,Wm]
    rw[if_neg (by omega)])
  have h1:NeF (at'+1) (zaC n (appTo p at' p.st.length)):=NeF.glue h0 (zpY n _ hf.1) (zes n _ _ (Wa _))
  have h3:tlen (zaA (zaC n (appTo p at' p.st.length)) 0) at'=some (m+1):=by rw[show tlen (zaA (zaC n (appTo p at' p.st.length)) 0) at'=tlen (zaC n (appTo p at' p.st.length)) at' from zbC (b:=at'+1) (by omega) at' (by omega),zes n _ (at'+1) (by omega) at' (by omega)];exact zm6 ht
  have h4:=zAE at' l (zaA (zaC n (appTo p at' p.st.length)) 0) (ends++[((zaC n (appTo p at' p.st.length)).st.length:Int)]) (m+1) hf.2 (by rw[zyY];omega) h3 h1.jump;refine⟨h4.1,?_⟩;rw[h4.2,WB]
  congr 1
  omega
end
theorem zzz {n:Nat} {l:List (Int × Int)} (h:∀x∈l,0≤x.2∧x.2≤n) (k:Int):0≤zop l k∧zop l k≤n:=by
 unfold zop
 cases hf:l.findIdx? (fun e=>decide (e.1=k)) with
 | none=>simp
 |
  some i =>
  have hi:i < l.length:=by rw[Waq] at hf;exact hf.1
  simp only
  have e:l.getD i (0,0)=l[i]:=by simp[Wh,hi]
  rw[e];exact h _ (Wf hi)
theorem wf_p0:WfP p0:=⟨fun k s h=>by simp[p0] at h,fun x hx=>(by cases hx),fun x hx=>(by cases hx)⟩
theorem zwP {e:Nd} (hs:zav e≤1000) (hf:zfb e=true):OkR (zch e).st:=by
 have hw:=zqw e p0 wf_p0;have hn:=zpY e p0 hf;have hp:=zbW e p0;have hlen:=hp.len;have hb:StB (zav e+2) (zaC e p0):=zlh e p0 (zav e+2) (fun k m hm=>by unfold tlen p0 at hm;simp at hm) (Wa _)
 have hl:(zch e).st.length=(zaC e p0).st.length+1:=by simp[zch,fixK,zeU,addP]
 have hlp:(zaC e p0).st.length≤4004:=by have e1:p0.st.length=0:=rfl;have e2:p0.lab.length=0:=rfl;omega
 have hgot:∀k,0≤zli (zeU e) k∧zli (zeU e) k≤(zaC e p0).st.length:=fun k=>zzz hw.lab _
 have key:∀k (h:k < (zch e).st.length),(k < (zaC e p0).st.length∧∃s,(zaC e p0).st[k]? = some s∧(zch e).st[k].kind=s.kind∧((zch e).st[k].to=s.to∨(zch e).st[k].to=s.to.map fun l=>l.set 0 (zli (zeU e) k)))∨(zch e).st[k].kind=2:=by
  intro k h
  have e1:(zch e).st[k]=if decide ((k:Int)∈(zeU e).got.map Wr) then { (zeU e).st[k]'(by simpa [zch,fixK] using h) with to:=((zeU e).st[k]'(by simpa [zch,fixK] using h)).to.map fun l=>l.set 0 (zli (zeU e) k) } else (zeU e).st[k]'(by simpa [zch,fixK] using h):=by simp only[zch,fixK,List.getElem_mapIdx]
  rw[e1]
  have hk2:k < (zeU e).st.length:=by simpa [zch,fixK] using h
  by_cases hk:k < (zaC e p0).st.length
  ·
   have e2:(zeU e).st[k]=(zaC e p0).st[k]:=by simp only[zeU,addP];rw[Wai hk]
   refine .inl ⟨hk,_,Wc hk,?_⟩;split
   · rw[e2];exact⟨rfl,.inr rfl⟩
   · rw[e2];exact⟨rfl,.inl rfl⟩
  ·
   have e2:(zeU e).st[k]=⟨2,0,none⟩:=by simp only[zeU,addP];rw[List.getElem_append_right (by omega)];simp
   refine .inr ?_
   split<;>rw[e2]
 refine⟨by omega,by omega,fun k h=>?_,fun k h h0=>?_,fun k h h1=>?_⟩
 ·
  rcases key k h with ⟨_,s,h2,h3,_⟩|h2
  ·
   rw[h3]
   rcases(hw.st k s h2).1 with ⟨h4|h4,_⟩ | ⟨h4,_⟩<;>simp[h4]
  · exact .inr (.inr h2)
 ·
  rcases key k h with ⟨h2,_⟩|h2
  · omega
  · rw[h2] at h0;cases h0
 ·
  rcases key k h with ⟨hk,s,h2,h3,h4⟩|h2
  ·
   rw[h3] at h1
   rcases(hw.st k s h2).1 with ⟨h5|h5,_⟩ | ⟨_,l,h6,h7⟩
   · rw[h5] at h1;cases h1
   · rw[h5] at h1;cases h1
   ·
    have ht:tlen (zaC e p0) k=some l.length:=by unfold tlen;rw[h2,Wm,h6];rfl
    have hpos:=hn k l.length (Wn _) ht;have hbl:=hb k l.length ht
    rcases h4 with h4|h4
    · exact⟨l,by rw[h4,h6],hpos,by omega,fun t ht=>by have:=h7 t ht;omega⟩
    ·
     refine⟨l.set 0 (zli (zeU e) k),by rw[h4,h6];rfl,by simpa using hpos,by simp;omega,fun t ht=>?_⟩
     rcases Wah ht with ht|ht
     · have:=h7 t ht;omega
     · have:=hgot k;omega
  · rw[h2] at h1;cases h1
end Go.Ab
