/-
  Part 14 of the proof: how the calls of this program run, over values instead of memory, and what each function computes.
-/
import Derived.KernelRfl
import Derived.Test.YtjcbhpmmngfmeaaGreatKm
set_option maxRecDepth 100000
set_option linter.unusedVariables false
set_option linter.unusedSimpArgs false
set_option linter.unnecessarySimpa false
set_option linter.unusedSectionVars false
open List renaming length_nil→Wa,mem_singleton→Wc,cons_append→Wd,nil_append→We,length_cons→Wi,all_cons→Wl,all_nil→Wm,mem_cons→Wn,getElem_mem→Wp,getD→Ws,map_cons→Wu,mem_map→Wy,map_nil→WA,getD_cons_zero→WB,map_take→WC,take_left→WD,getLast?_eq_getElem?→WE,getElem?_eq_getElem→WF,getD_cons_succ→WH,getElem_append_left→WI,all_eq_true→WJ,getD_eq_getElem?_getD→WK
open Nat renaming le_refl→Wf,zero_le→Wg,beq→Wo,le_trans→Wq
open Bool renaming and_self→Wh,and_eq_true→Wr,false_eq_true→WG
open Eq renaming trans→Wj
open Int renaming toNat_natCast→Wk,toNat_of_nonneg→Wt,toNat→Wv
open Option.some renaming injEq→Ww
open And renaming intro→Wx
open Prod.mk renaming injEq→Wz
namespace Go.Ab
open Go.RowKit Go.Proofs
def zb4 (err:Int):AH:=[(0,.row 1 [] 0),(1,.row 1 [[.int .i64 err]] 0),(2,.row 1 [[.fn (.func zci) [.ptr 1 0 0 0 0]]] 0)]
theorem zof (e:Int) (c:List (List AV)) (nx:Nat):z7 Tryz.prog zci [.ptr 1 0 0 0 0] (zb4 e++[(3,.row 2 c 0)]) nx (fun v H nx'=>H=zb4 15++[(3,.row 2 c 0)]):=by
 refine fn_x znP rfl ?_;unfold zi7;have hB:=hBig;unfold zb4;simp only[Wd,We]
 (repeat first|simp(disch:=try exact dis1) only[evD,Nat.reduceBEq,Nat.reduceAdd,Nat.reduceLeDiff,zi2]|with_reducible first|intro _|refine aJ ?_)
theorem lowN {e:Int}:LowH 3 (zb4 e):=.cons (by decide) (fun c h=>by cases h) (.cons (by decide) (zqf (.int _ _)) (.cons (by decide) (zqf (.fn _ _ fun a ha=>by rw[Wc.1 ha];exact .ptr _ _ _ _ _ (by decide))) (.nil 3)))
def zvb (st:List PSt) (cs:List Int):List AV:=[.iptr 1 fun j=>[encL 1 cW cs].getD j .undef,.iptr 1 fun j=>[zpW st].getD j .undef,.ptr 2 0 0 0 0]
def zuF (lp:Nat) (st:List PSt) (cs:List Int) (a i:Nat):Kn:=[(0,.fn (.yield lp) []),(2,.iptr 1 fun j=>[zpW st].getD j .undef),(3,.ptr 2 0 0 0 0),(5,.ptr 3 0 0 0 0),(6,.int .i64 i),(7,.int .i64 a)]
theorem lowR {e:Int} {c:List (List AV)} (hc:∀x∈c,∀v∈x,AV.Below 4 v):LowH 4 (zb4 e++[(3,.row 2 c 0)]):=.cons (by decide) (fun c h=>by cases h) (.cons (by decide) (zqf (.int _ _)) (.cons (by decide) (zqf (.fn _ _ fun a ha=>by rw[Wc.1 ha];exact .ptr _ _ _ _ _ (by decide))) (.cons (by decide) hc (.nil 4))))
theorem chB {cs:List Int} {j:Nat}:∀x∈[[encL 1 cW cs,AV.int .i64 j]],∀v∈x,AV.Below 4 v:=fun x hx v hv=>by
 rw[Wc.1 hx] at hv
 rcases Wn.1 hv with h|hv
 · rw[h];exact .sl _ _ _
 · rw[Wc.1 hv];exact .int _ _
theorem endN {st:List PSt} {cs:List Int} {lp a i j nx:Nat} {K:Kn} {T:AH} (h0:K.get 0=.fn (.yield lp) []) (h2:K.get 2=.iptr 1 fun j=>[zpW st].getD j .undef) (h3:K.get 3=.ptr 2 0 0 0 0) (h5:K.get 5=.ptr 3 0 0 0 0) (h6:K.get 6=.int .i64 i) (h7:K.get 7=.int .i64 a) :
  Ent 3 K ((zb4 0++[(3,.row 2 [[encL 1 cW cs,.int .i64 j]] 0)])++T) nx (zuF lp st cs a i) (zb4 0++[(3,.row 2 [[encL 1 cW cs,.int .i64 j]] 0)]) 4 :=
 Ent.lowB (by decide) (fun r o h=>by rw[AH.look_app2,h]) (lowR chB) ⟨⟨h0,.fn _ _ fun a h=>by cases h⟩,⟨h2,.iptr _ _⟩,⟨h3,.ptr _ _ _ _ _ (by decide)⟩,⟨h5,.ptr _ _ _ _ _ (by decide)⟩,⟨h6,.int _ _⟩,⟨h7,.int _ _⟩,trivial⟩
theorem zzF {st:List PSt} {cs:List Int} {lp a i j nx:Nat} {K:Kn} {x:AObj} (h0:K.get 0=.fn (.yield lp) []) (h2:K.get 2=.iptr 1 fun j=>[zpW st].getD j .undef) (h3:K.get 3=.ptr 2 0 0 0 0) (h5:K.get 5=.ptr 3 0 0 0 0) (h6:K.get 6=.int .i64 i) (h7:K.get 7=.int .i64 a) :
  Ent 3 K (zb4 0++[(4,x),(3,.row 2 [[encL 1 cW cs,.int .i64 j]] 0)]) nx (zuF lp st cs a i) (zb4 0++[(3,.row 2 [[encL 1 cW cs,.int .i64 j]] 0)]) 4 :=
 Ent.lowB (by decide) (fun r o h=>by
  rw[AH.look_app2] at h ⊢
  cases hr:AH.look (zb4 0) r with
  | some o=>rw[hr] at h;exact h
  |
   none =>
   rw[hr] at h;simp only[AH.look] at h ⊢
   cases h3:Wo 3 r with
   | false=>rw[h3] at h;cases h
   |
    true =>
    rw[h3] at h;rw[←zL h3]
    exact h) (lowR chB) ⟨⟨h0,.fn _ _ fun a h=>by cases h⟩,⟨h2,.iptr _ _⟩,⟨h3,.ptr _ _ _ _ _ (by decide)⟩,⟨h5,.ptr _ _ _ _ _ (by decide)⟩,⟨h6,.int _ _⟩,⟨h7,.int _ _⟩,trivial⟩
theorem Qae {p q:Prop}(k:q)(h:Im q p:=by(repeat first|simp(disch:=try exact dis1) only[evD,Nat.reduceBEq,Nat.reduceAdd,Nat.reduceLeDiff,zkF] | ((with_reducible apply Im.i);intro _) | ((with_reducible apply Im.a);omega));exact Im.r):p:=h k
theorem Qam {p:Prop}(h:p:=by(try simp only[evWB,Nat.reduceBEq,Nat.reduceAdd,Nat.reduceSub,Nat.reduceLeDiff,Nat.reduceLT,implies_true,za])<;>exact fin1):p:=h
theorem zoV (st:List PSt) (cs:List Int) (hst:OkR st) (hcs:cs.length≤1000000) (hw:∀c∈cs,0≤c∧c < 4294967296) (n:Nat) (hn:0 < n) :
  ItOk Tryz.prog zbK (zvb st cs) (zb4 0) 3 (ziZ st cs) (fun s=>0 < s.1) (n,0,0) (fun s H nx=>(match s with|some s=>ziZ st cs s=none|none=>True)∧(AH.upto H 3=zb4 (match s with|some s=>endR st cs s|none=>0))):=by
 refine zui zkv rfl rfl fun E hE=>?_
 unfold zf6 zvb;have hB:=hBig;refine WpA.seq (WpA.pure ?_);simp only[zb4]
 (refine Qo ?_;intros)
 rw[zae];refine WpA.seq (WpA.pure ?_)
 (refine Qo ?_;intros)
 rw[zae];refine WpA.seq (WpA.pure ?_)
 (refine Qo ?_;intros)
 rw[zae]
 refine WpA.block (WpA.loop (fun x:(Nat × Nat × Nat) × (Nat × Nat × Nat × Nat)=>(zuF E.lp st cs x.2.1 x.2.2.1,zb4 0++[(3,.row 2 [[encL 1 cW cs,.int .i64 x.2.2.2.1]] 0)],some x.1)) 4
  (fun x=>0 < x.1.1∧x.2.1 < st.length∧x.2.2.1≤st.length+1∧x.2.2.2.1≤cs.length∧muR st cs x.2.2.1 x.2.2.2.1≤x.2.2.2.2∧x.2.2.2.2≤zo1 st cs∧goR st cs x.2.2.2.2 x.2.1 x.2.2.1 x.2.2.2.1=goR st cs (zo1 st cs) x.1.2.1 0 x.1.2.2)
  (fun x=>x.1.1 * (zo1 st cs+1)+x.2.2.2.2) ((n,0,0),(0,0,0,zo1 st cs)) ⟨hn,hst.pos,Wg _,Wg _,zue,Wf _,rfl⟩ ?_ rfl ?_)
 · rw[hE];exact endN (T:=[]) rfl rfl rfl rfl rfl rfl
 ·
  rintro⟨⟨k,a0,j0⟩,⟨a,i,j,f⟩⟩ ⟨hk,ha,hi,hj,hm,hf,hg⟩ wf;simp only at hk ha hi hj hm hf hg;clear wf;unfold zen;simp only[zuF,zpW,zb4,Wd,We];obtain⟨f,rfl⟩:∃f',f=f'+1:=⟨f - 1,by unfold muR at hm;omega⟩;rw[goR] at hg;have hsl:=hst.len;have hcell:(st.map cPs).getD a []=cPs st[a]:=zm ha
  have hgd:st.getD a ⟨2,0,none⟩=st[a]:=by simp[Ws,ha]
  rw[hgd] at hg;refine WpA.block (WpA.seq (WpA.seq (WpA.pure ?_)))
  (repeat first|simp(disch:=try exact dis1) only[evD,Nat.reduceBEq,Nat.reduceAdd,Nat.reduceLeDiff,fldP,za]|with_reducible first|intro _|refine aJ ?_)
  by_cases hend:st.length < i
  ·
   rw[if_pos hend] at hg;refine WpA.cond (t:=true) (by show AV.bool (decide _)=_;simp;omega) (fun _=>WpA.pure ?_) (fun h=>by cases h)
   (refine Qa ?_;intros)
   refine⟨by kernel_rfl,zhL (zof 0 _ _) ?_⟩;rintro v H' nx' rfl;simp only[zb4,Wd,We]
   (refine Qa ?_;intros)
   refine⟨?_,?_⟩
   · simp only[ziZ,←hg]
   · simp only[endR,←hg];rfl
  ·
   rw[if_neg hend] at hg;refine WpA.cond (t:=false) (by show AV.bool (decide _)=_;simp;omega) (fun h=>by cases h) (fun _=>WpA.pure ?_)
   (refine Qa ?_;intros)
   rw[zae];refine WpA.seq (WpA.pure ?_)
   (refine Qa ?_;intros)
   rw[zae];refine WpA.seq (WpA.pure ?_)
   (repeat first|simp(disch:=try exact dis1) only[evD,Nat.reduceBEq,Nat.reduceAdd,Nat.reduceLeDiff,fldP,dT,za,hcell,cPs]|with_reducible first|intro _|refine aJ ?_)
   have hkd:=hst.kind a ha;have hla:=hst.last a ha;have hto:=hst.to a ha;generalize st[a]=s at hg hcell hkd hla hto ⊢;obtain⟨kd,bl,to⟩:=s;simp only at hg hkd hla hto ⊢;rw[zae];refine WpA.seq (WpA.pure ?_)
   (refine Ql ?_;intros)
   rw[zae];refine WpA.block (WpA.seq (WpA.pure ?_))
   (refine Qa ?_;intros)
   rw[zae]
   by_cases h2:kd=2
   ·
    rw[if_pos h2] at hg;refine WpA.cond (t:=true) (by show AV.bool (decide _)=_;simp[h2]) (fun _=>WpA.pure ?_) (fun h=>by cases h)
    (refine Qa ?_;intros)
    refine⟨?_,?_⟩
    · simp only[ziZ,←hg]
    · simp only[endR,←hg];rfl
   rw[if_neg h2] at hg;refine WpA.cond (t:=false) (by show AV.bool (decide _)=_;simp[h2]) (fun h=>by cases h) (fun _=>WpA.seq (WpA.pure ?_))
   (refine Qa ?_;intros)
   rw[zae]
   by_cases h0:kd=0
   ·
    rw[if_pos h0] at hg;have hla:=hla h0;refine WpA.cond (t:=true) (by show AV.bool (decide _)=_;simp[h0]) (fun _=>WpA.seq (WpA.seq (WpA.region ?_))) (fun h=>by cases h);refine WpAL.pre (pre:=[_,_,_]) rfl ?_
    (repeat first|simp(disch:=try exact dis1) only[evD,Nat.reduceBEq,Nat.reduceAdd,Nat.reduceLeDiff,fldP,zkF]|with_reducible first|intro _|refine aJ ?_)
    have hnx:ziZ st cs (k,a0,j0)=some ([.int .i64 bl],(k - 1,a+1,j)):=by simp only[ziZ,←hg]
    refine WpAL.yield (s':=(k - 1,a+1,j)) rfl hnx ?_ (fun hok=>WpAL.pre (pre:=[_]) rfl ?_) (WpAL.pre (pre:=[_]) rfl ?_)
    ·
     intro x hx
     have e:x=.int .i64 bl:=by
      rcases Wn.1 hx with h|h
      · exact h
      · cases h
     rw[e];exact .int _ _
    ·
     (refine Qae ?_;intros)
     refine WpAL.nil ?_;rw[zae];refine WpA.cond (t:=false) rfl (fun h=>by cases h) (fun _=>WpA.pure ?_)
     (refine Qa ?_;intros)
     rw[zae];refine WpA.pure ?_
     (refine Qa ?_;intros)
     rw[zba,zba,zb6];refine⟨((k - 1,a+1,j),(a+1,0,j,zo1 st cs)),⟨hok,hla,Wg _,hj,zue,Wf _,rfl⟩,?_,?_,rfl⟩
     · simp only;obtain⟨k',rfl⟩:∃k',k=k'+1:=⟨k - 1,by omega⟩;rw[Nat.succ_mul];simp only[Nat.add_sub_cancel];omega
     · rw[hE];exact endN (T:=[_]) rfl rfl rfl rfl rfl rfl
    ·
     (refine Qae ?_;intros)
     refine WpAL.nil ?_;rw[zae];refine WpA.cond (t:=true) rfl (fun _=>WpA.pure ?_) (fun h=>by cases h)
     (refine Qa ?_;intros)
     exact⟨trivial,rfl⟩
   ·
    rw[if_neg h0] at hg
    have h1:kd=1:=by
     rcases hkd with h|h|h
     · exact absurd h h0
     · exact h
     · exact absurd h h2
    obtain⟨l,rfl,hl0,hl1,hlt⟩:=hto h1;simp only[Option.getD_some] at hg;refine WpA.cond (t:=false) (by show AV.bool (decide _)=_;simp[h0]) (fun h=>by cases h) (fun _=>WpA.pure ?_);have hlen:((zBG (some l))=za l):=rfl
    have hB0:l.length≤big:=by omega
    have hpick:muR st cs (if (zgi cs j l.length).2 then 0 else i+1) (zkB cs j) < muR st cs i j:=zzS hj (by omega);have hpv:=zn0 (cs:=cs) (j:=j) (n:=l.length) (by omega);have hpj:=zuu hj
    have hpl:(zgi cs j l.length).1.toNat < l.length:=by omega
    have ht:=hlt (l.getD (zgi cs j l.length).1.toNat 0) (zlT hpl)
    have e0:((List.map (fun n=>[AV.int .i64 n]) l).getD (zgi cs j l.length).1.toNat [])=[.int .i64 (((l.getD (zgi cs j l.length).1.toNat 0).toNat:Nat):Int)]:=by rw[Wt ht.1];simp[Ws,hpl]
    have hpk:=(zeX cs j l.length (by omega) (by omega) (by omega) hw)
    by_cases hc:l.length=1∧bl ≠ -1
    ·
     rw[if_pos hc] at hg
     have hd1:decide ((l.length:Int)=1)=true:=by simp;omega
     have hd2:decide (bl = -1)=false:=by simp[hc.2]
     have ht0:=hlt (l.getD 0 0) (zlT hl0)
     have e1:((List.map (fun n=>[AV.int .i64 n]) l).getD (Wv 0) [])=[.int .i64 (((l.getD 0 0).toNat:Nat):Int)]:=by rw[Wt ht0.1];simp[Ws,hl0]
     (repeat first|simp(disch:=try exact dis1) only[evD,Nat.reduceBEq,Nat.reduceAdd,Nat.reduceLeDiff,fldP,dT,za,hlen,h1,hd1,hd2,e1]|with_reducible first|intro _|refine aJ ?_)
     rw[zoJ,show Wo 1 2=false from rfl,cond_false,zoJ,show Wo 1 1=true from rfl,cond_true,zb6];refine⟨((k,a0,j0),((l.getD 0 0).toNat,i+1,j,f)),⟨hk,by dsimp only;omega,by dsimp only;omega,hj,by have:=zy9 (st:=st) (cs:=cs) (i:=i) (j:=j) (by omega);dsimp only;omega,by dsimp only;omega,hg⟩,by dsimp only;omega,?_,rfl⟩;rw[hE];exact endN (T:=[_]) rfl rfl rfl rfl rfl rfl
    ·
     rw[if_neg hc] at hg;clear hto;obtain⟨pk,used,hpe⟩:∃pk used,zgi cs j l.length=(pk,used):=⟨_,_,rfl⟩;simp only[hpe] at hg hpick hpv hpl ht e0 hpk
     by_cases hl2:l.length=1
     ·
      have hd1:decide ((l.length:Int)=1)=true:=by simp;omega
      have hd2:decide (bl ≠ -1)=false:=by
       rw[decide_eq_false_iff_not]
       exact fun h=>hc ⟨hl2,h⟩
      (repeat first|simp(disch:=try exact dis1) only[evD,Nat.reduceBEq,Nat.reduceAdd,Nat.reduceLeDiff,fldP,dT,za,hlen,h1,hd1,hd2]|with_reducible first|intro _|refine aJ ?_)
      refine zbr [(0,3,0)] 1 _ (hpk) rfl rfl Qam Qam ?_;rintro v H' nx' ⟨rfl,rfl,rfl⟩
      cases used with
      |
       true =>
       (repeat first|simp(disch:=try exact dis1) only[evD,Nat.reduceBEq,Nat.reduceAdd,Nat.reduceLeDiff,fldP,dT,za,hlen,e0]|with_reducible first|intro _|refine aJ ?_)
       rw[zba,zba,zb6];refine⟨((k,a0,j0),((l.getD pk.toNat 0).toNat,0,zkB cs j,f)),⟨hk,by dsimp only;omega,Wg _,hpj,by simp only[if_true] at hpick;dsimp only;omega,by dsimp only;omega,hg⟩,by dsimp only;omega,?_,rfl⟩;rw[hE];refine zzF ?_ ?_ ?_ ?_ ?_ ?_
       all_goals rfl
      |
       false =>
       (repeat first|simp(disch:=try exact dis1) only[evD,Nat.reduceBEq,Nat.reduceAdd,Nat.reduceLeDiff,fldP,dT,za,hlen,e0]|with_reducible first|intro _|refine aJ ?_)
       rw[zba,zba,zb6];refine⟨((k,a0,j0),((l.getD pk.toNat 0).toNat,i+1,zkB cs j,f)),⟨hk,by dsimp only;omega,by dsimp only;omega,hpj,by simp only[WG,if_false] at hpick;dsimp only;omega,by dsimp only;omega,hg⟩,by dsimp only;omega,?_,rfl⟩;rw[hE];refine zzF ?_ ?_ ?_ ?_ ?_ ?_
       all_goals rfl
     ·
      have hd1:decide ((l.length:Int)=1)=false:=by simp;omega
      (repeat first|simp(disch:=try exact dis1) only[evD,Nat.reduceBEq,Nat.reduceAdd,Nat.reduceLeDiff,fldP,dT,za,hlen,h1,hd1]|with_reducible first|intro _|refine aJ ?_)
      refine zbr [(0,3,0)] 1 _ (hpk) rfl rfl Qam Qam ?_;rintro v H' nx' ⟨rfl,rfl,rfl⟩
      cases used with
      |
       true =>
       (repeat first|simp(disch:=try exact dis1) only[evD,Nat.reduceBEq,Nat.reduceAdd,Nat.reduceLeDiff,fldP,dT,za,hlen,e0]|with_reducible first|intro _|refine aJ ?_)
       rw[zba,zba,zb6];refine⟨((k,a0,j0),((l.getD pk.toNat 0).toNat,0,zkB cs j,f)),⟨hk,by dsimp only;omega,Wg _,hpj,by simp only[if_true] at hpick;dsimp only;omega,by dsimp only;omega,hg⟩,by dsimp only;omega,?_,rfl⟩;rw[hE];refine zzF ?_ ?_ ?_ ?_ ?_ ?_
       all_goals rfl
      |
       false =>
       (repeat first|simp(disch:=try exact dis1) only[evD,Nat.reduceBEq,Nat.reduceAdd,Nat.reduceLeDiff,fldP,dT,za,hlen,e0]|with_reducible first|intro _|refine aJ ?_)
       rw[zba,zba,zb6];refine⟨((k,a0,j0),((l.getD pk.toNat 0).toNat,i+1,zkB cs j,f)),⟨hk,by dsimp only;omega,by dsimp only;omega,hpj,by simp only[WG,if_false] at hpick;dsimp only;omega,by dsimp only;omega,hg⟩,by dsimp only;omega,?_,rfl⟩;rw[hE];refine zzF ?_ ?_ ?_ ?_ ?_ ?_
       all_goals rfl
def zpj {σ:Type} (next:σ→Option (List AV × σ)):Nat→σ→Option σ
 | 0,_=>none
 |
  k+1,s=>match next s with
  | none=>some s
  | some (_,s')=>zpj next k s'
def boxN:List Int→AH
 | []=>[(4,.row 1 [[.nilsl]] 0)]
 | x::l=>[(4,.row 1 [[.own 5 0 0 0 (x::l).length]] 0),(5,.row 1 ((x::l).map cI) 0)]
theorem zwS:∀l:List Int,HighH 3 (boxN l)
 | []=>.cons (by decide) (cellF .nilsl) (.nil 3)
 | x::l=>.cons (by decide) (cellF (.own _ _ _ _ _ (by decide))) (.cons (by decide) (fun c hc v hv=>by
   obtain⟨i,_,rfl⟩:=Wy.1 hc;rw[show cI i=[AV.int .i64 i] from rfl,Wc] at hv;rw[hv]
   exact .int _ _) (.nil 3))
def zgl (st:List PSt) (cs:List Int) (n:Nat):Int:=match zpj (ziZ st cs) n (n,0,0) with
 | some s=>endR st cs s
 | none=>0
def zl9 (st:List PSt) (cs:List Int) (n:Nat):List Int:=itv (ziZ st cs) (valR st cs) n (n,0,0)
theorem retN {e:Int} {l:List Int} {H:AH} {nx:Nat} {v:AV} (hH:∀r o,(zb4 e).look r=some o→H.look r=some o) (hv:Vw H (zb4 e) (zkC 3) (fun r _=>3≤r) true v (za l)):zrv 3 (fun v H nx=>v=za l∧H=zb4 e∧nx=3) v H nx :=
 ⟨_,_,_,Ent.lowFB (by decide) hH lowN ⟨hv,trivial⟩,rfl,rfl,rfl⟩
theorem zpf {st:List PSt} {cs:List Int}:∀ {k:Nat} {s0 s:Nat × Nat × Nat},itn (ziZ st cs) k s0=some s→s.1=s0.1 - k
 | 0,s0,s,h=>by cases h;rfl
 |
  k+1,s0,s,h=>by
  rw[itn] at h;unfold ziZ at h;split at h
  · cases h
  ·
   rename_i x s' hx;split at hx
   · simp only[Ww,Wz] at hx;have:=zpf (st:=st) (cs:=cs) h;rw[this,←hx.2];simp only;omega
   · cases hx
theorem Qap {p:Prop}(h:p:=by(try simp only[evWB,Nat.reduceBEq,Nat.reduceAdd,Nat.reduceSub,Nat.reduceLeDiff,Nat.reduceLT,implies_true,boxN])<;>exact fin1):p:=h
theorem Qaq {p:Prop}(h:p:=by(try simp only[evWB,Nat.reduceBEq,Nat.reduceAdd,Nat.reduceSub,Nat.reduceLeDiff,Nat.reduceLT,implies_true,boxN,List.length_append,List.map_append,List.map_cons,List.map_nil,List.length_cons,List.length_nil,cI])<;>exact fin1):p:=h
theorem zod (st:List PSt) (cs:List Int) (hst:OkR st) (hcs:cs.length≤1000000) (hw:∀c∈cs,0≤c∧c < 4294967296) (n:Int) (hn:n≤1000000) :
  z7 Tryz.prog zcS [.fn (.func zbK) (zvb st cs),.int .i64 n] (zb4 0) 3 (fun v H nx=>v=za (zl9 st cs n.toNat)∧H=zb4 (zgl st cs n.toNat)∧nx=3):=by
 refine z8 (fn_x zkb rfl ?_);unfold zhi;have hB:=hBig
 by_cases h0:n≤0
 ·
  have e:n.toNat=0:=by omega
  unfold zl9 zgl;rw[e];simp only[zb4]
  (refine Qab ?_;intros)
  exact retN (e:=0) (fun r o h=>by
   refine Wj (AH.look_app2 r (zb4 0) [_,_]) ?_
   rw[h]) (.nil0 _ _ _)
 ·
  have hit:=zoV st cs hst hcs hw n.toNat (by omega)
  have hval:∀s x s',ziZ st cs s=some (x,s')→x=[.int .i64 (valR st cs s)]:=fun s x s' h=>by
   unfold ziZ at h;unfold valR;split at h
   · simp only[Ww,Wz] at h;rw[←h.1]
   · cases h
  simp only[zb4]
  (refine Qk ?_;intros)
  unfold zl9 zgl;generalize hS:zpj (ziZ st cs) n.toNat (n.toNat,0,0)=S;generalize hR:itv (ziZ st cs) (valR st cs) n.toNat (n.toNat,0,0)=R
  have hRl:R.length≤n.toNat:=by rw[←hR];exact zsB _ _ _ _
  have hcaps:∀c∈zvb st cs,AV.Below 3 c:=fun c hc=>by
   rcases Wn.1 hc with h|hc
   · rw[h];exact .iptr _ _
   rcases Wn.1 hc with h|hc
   · rw[h];exact .iptr _ _
   · rw[Wc.1 hc];exact .ptr _ _ _ _ _ (by decide)
  refine zov 3 (zb4 0) (fun s H=>H=zb4 (match s with|some s=>endR st cs s|none=>0)) (by kernel_rfl) hcaps hit (fun s x s' h=>by rw[hval s x s' h];rfl) [(3,.iptr 1 fun j=>[AV.int .i64 n].getD j .undef),(5,.ptr 4 0 0 0 0)] boxN 6
   (fun a s=>a++itv (ziZ st cs) (valR st cs) (n.toNat - a.length) s=R∧a.length < n.toNat∧itn (ziZ st cs) a.length (n.toNat,0,0)=some s∧zpj (ziZ st cs) (n.toNat - a.length) s=S) (fun a e=>e=.exit 0∧a=R∧S=none) []
   ⟨Wf _,lowN,fun s H' h=>by rw[h];exact lowN,zwS,fun i=>?_⟩ (fun a s h=>by have:=zpf h.2.2.1;have:=h.2.1;dsimp only at *;omega) ⟨hR,by simp;omega,rfl,hS⟩ ?_ ?_ ?_ ?_
  ·
   simp only[Kn.get];cases Wo 3 i
   ·
    simp only[cond_false];cases Wo 5 i
    · exact .undef
    · exact .ptr _ _ _ _ _ (by decide)
   · exact .iptr _ _
  ·
   refine Ent.lowB (by decide) ?_ (.cons (by decide) (fun c h=>by cases h) (.cons (by decide) (zqf (.int _ _)) (.cons (by decide) (zqf (.fn _ _ fun a ha=>by rw[Wc.1 ha];exact .ptr _ _ _ _ _ (by decide))) (.cons (by decide) (zqf .nilsl) (.nil 6))))) ⟨⟨rfl,.iptr _ _⟩,⟨rfl,.ptr _ _ _ _ _ (by decide)⟩,trivial⟩;intro r o h;refine Wj (AH.look_app2 r (zb4 0) [(3,.row 1 [] 0),(4,.row 1 [[.nilsl]] 0)]) ?_;rw[AH.look_app2] at h
   cases hr:AH.look (zb4 0) r with
   | some o=>rw[hr] at h;exact h
   |
    none =>
    rw[hr] at h;simp only[boxN,AH.look] at h ⊢
    cases h3:Wo 4 r with
    | false=>rw[h3] at h;cases h
    |
     true =>
     rw[h3] at h;rw[←zL h3];exact h
  ·
   rintro a s x s' ⟨h1,h2,h3,h6⟩ hx wf;have hxv:=hval _ _ _ hx;subst hxv;clear wf;simp only[ziQ];unfold zeB
   have hm:n.toNat - a.length=(n.toNat - a.length - 1)+1:=by omega
   rw[hm,itv,hx] at h1;rw[hm,zpj,hx] at h6;simp only at h1 h6;have h4:=zqB h3 hx;generalize valR st cs s=v at *
   cases a with
   |
    nil =>
    simp only[boxN]
    (refine Qa ?_;intros)
    unfold zb3
    (refine Qa ?_;intros)
    (refine zy (fun hc=>?_) (fun hc=>?_))<;>(try simp only[dcd] at hc)
    ·
     (refine Qa ?_;intros)
     have e:n.toNat - ([]:List Int).length - 1=0:=by simp only[Wa];omega
     exact⟨[v],⟨by rw[←h1,e,itv];rfl,by rw[←h6,e];rfl⟩,(Ent.tabB [(0,0,0),(1,1,0),(2,2,0),(4,4,0),(5,7,0)] [] rfl rfl rfl Qap Qap)⟩
    ·
     (refine Qa ?_;intros)
     refine⟨[v],⟨by rw[←h1];rfl,by simp only[Wi,Wa];omega,h4,by rw[←h6];rfl⟩,(Ent.tabB [(0,0,0),(1,1,0),(2,2,0),(4,4,0),(5,7,0)] [] rfl rfl rfl Qap Qap)⟩
   |
    cons y l =>
    simp only[boxN]
    have h5:l.length+1 < n.toNat:=by simpa using h2
    (refine Qa ?_;intros)
    unfold zb3
    (refine Qa ?_;intros)
    (refine zy (fun hc=>?_) (fun hc=>?_))<;>(try simp only[dcd] at hc)
    ·
     (refine Qa ?_;intros)
     have e:n.toNat - (y::l).length - 1=0:=by simp only[Wi];omega
     exact⟨y::(l++[v]),⟨by rw[←h1,e,itv];rfl,by rw[←h6,e];rfl⟩,(Ent.tabB [(0,0,0),(1,1,0),(2,2,0),(4,4,0),(5,5,1)] [] rfl rfl rfl Qaq Qaq)⟩
    ·
     (refine Qa ?_;intros)
     have e:(y::(l++[v])).length=(y::l).length+1:=by simp
     exact⟨y::(l++[v]),⟨by rw[←h1,e];simp[Nat.sub_sub],by rw[e];simp only[Wi] at h2 hc ⊢;omega,by rw[e];exact h4,by rw[←h6,e];simp only[Nat.sub_sub]⟩,(Ent.tabB [(0,0,0),(1,1,0),(2,2,0),(4,4,0),(5,5,1)] [] rfl rfl rfl Qaq Qaq)⟩
  ·
   rintro a s H' ⟨h1,h2,h3,h6⟩ hx rfl
   have hm:n.toNat - a.length=(n.toNat - a.length - 1)+1:=by omega
   rw[hm,itv,hx] at h1;simp only[List.append_nil] at h1;subst h1;rw[hm,zpj,hx] at h6;simp only at h6;subst h6
   cases a with
   |
    nil =>
    simp only[boxN,zb4,Wd,We]
    (refine Qa ?_;intros)
    unfold zah
    (refine Qr ?_;intros)
    exact retN (fun r o h=>by
     refine Wj (AH.look_app2 r (zb4 _) _) ?_
     rw[h]) (.nil0 _ _ _)
   |
    cons y l =>
    simp only[boxN,zb4,Wd,We]
    (refine Qa ?_;intros)
    unfold zah
    (refine Qr ?_;intros)
    exact retN (fun r o h=>by
     refine Wj (AH.look_app2 r (zb4 _) _) ?_
     rw[h]) (zaL (l:=y::l) (show 3≤5 by decide) rfl (by omega))
  ·
   rintro a e H' ⟨rfl,rfl,rfl⟩ rfl
   cases a with
   |
    nil =>
    simp only[boxN,zb4,Wd,We]
    (refine Qa ?_;intros)
    unfold zah
    (refine Qr ?_;intros)
    exact retN (fun r o h=>by
     refine Wj (AH.look_app2 r (zb4 _) _) ?_
     rw[h]) (.nil0 _ _ _)
   |
    cons y l =>
    simp only[boxN,zb4,Wd,We]
    (refine Qa ?_;intros)
    unfold zah
    (refine Qr ?_;intros)
    exact retN (fun r o h=>by
     refine Wj (AH.look_app2 r (zb4 _) _) ?_
     rw[h]) (zaL (l:=y::l) (show 3≤5 by decide) rfl (by omega))
theorem zlQ (st:List PSt) (cs:List Int) (hcs:cs.length≤1000000) (hst:st.length≤1000000):z7 Tryz.prog ze8 [zpW st,encL 1 cW cs,.fn (.func zci) [.ptr 1 0 0 0 0]] [(0,.row 1 [] 0),(1,.row 1 [[.int .i64 0]] 0)] 2
  (fun v H nx=>v=.fn (.func zbK) (zvb st cs)∧H=zb4 0∧nx=3):=by
 refine fn_x zlO rfl ?_;unfold zhs;have hB:=hBig;unfold zpW zvb zb4
 (repeat first|simp(disch:=try exact dis1) only[evD,Nat.reduceBEq,Nat.reduceAdd,Nat.reduceLeDiff,za,zhD]|with_reducible first|intro _|refine aJ ?_)
 exact⟨⟨rfl,rfl⟩,rfl⟩
mutual
theorem zrk:∀(e:Nd) (b:Bool),zdy e b=zkh e b
 |
  .mk f c l,b=>by
  rw[zdy,zkh,zpG l,Bool.or_assoc];simp only[zhm,Bool.decide_or]
theorem zpG:∀(l:List Nd) (b:Bool),zaM l b=zdK l b
 | [],b=>by rw[zaM,zdK]
 | e::l,b=>by rw[zaM,zdK,zrk e,zpG l]
end
def zrx (g:G) (e:Nd) (cs:List Int) (most:Int):AV :=
 if zk9 g e≠0 then .tup [za [],.int .i64 (zk9 g e)] else if 65536 < most then .tup [za [],.int .i64 6] else
 if zgl (zch e).st cs most.toNat≠0 then .tup [za [],.int .i64 (zgl (zch e).st cs most.toNat)] else .tup [za (zl9 (zch e).st cs most.toNat),.int .i64 0]
theorem Qaf {p q:Prop}(k:q)(h:Im q p:=by(repeat first|simp(disch:=try exact dis1) only[evD,Nat.reduceBEq,Nat.reduceAdd,Nat.reduceLeDiff,dT,zdR] | ((with_reducible apply Im.i);intro _) | ((with_reducible apply Im.a);omega));exact Im.r):p:=h k
theorem zp6 (g:G) (hf:midG g) (e:Nd) (hs:zav e≤1000) (cs:List Int) (most:Int) (hcs:cs.length≤1000000) (hw:∀c∈cs,0≤c∧c < 4294967296) :
  zl Tryz.prog ze0 [.agg (encN e),.agg g.cells,encL 1 cW cs,.int .i64 most] (·=zrx g e cs most):=by
 refine fn_x zpZ rfl ?_;unfold zk8;have hB:=hBig;have hck:=zlg g hf e hs;simp only[G.cells] at hck ⊢;have htr:=zkH e hs
 have retE:∀(H:AH) (v:AV) (l:List Int) (n:Int),Vw H [] nos allR false v (za l)→∃a,Frz H (.tup [v,.int .i64 n]) a∧a=.tup [za l,.int .i64 n]:=fun H v l n hv=>⟨.tup [za l,.int .i64 n],.tup _ _ _ rfl (fun j x y h1 h2=>match j with
  | 0=>by cases h1;cases h2;exact hv
  | 1=>by cases h1;cases h2;exact .int _ _ _
  | j+2=>by cases h1),rfl⟩
 (repeat first|simp(disch:=try exact dis1) only[evD,Nat.reduceBEq,Nat.reduceAdd,Nat.reduceLeDiff,fldP,zlA,tab,zbR,zaH,zbe,WB,WH]|with_reducible first|intro _|refine aJ ?_)
 refine zc (zg hck (flN rfl)) ?_;unfold zrx
 have hst:zk9 g e=0→zfb e=true∧zkh e false=false:=fun h=>by
  unfold zk9 at h;split at h
  · exact absurd h (by assumption)
  split at h
  · cases h
  split at h
  · cases h
  split at h
  · cases h
  rename_i h1 h2 h3 h4;exact⟨by simpa using h2,by simpa using h4⟩
 generalize zk9 g e=c at hst ⊢
 by_cases h0:c=0
 case neg =>
  rw[if_pos h0]
  (refine Qaf ?_;intros)
  exact retE _ _ [] _ (zaL (l:=[]) trivial rfl (by simp only[Wa];omega))
 rw[if_neg (fun h=>h h0)]
 by_cases h1:65536 < most
 ·
  rw[if_pos h1]
  (repeat first|simp(disch:=try exact dis1) only[evD,Nat.reduceBEq,Nat.reduceAdd,Nat.reduceLeDiff,dT,dF,zdR]|with_reducible first|intro _|refine aJ ?_)
  exact retE _ _ [] _ (zaL (l:=[]) trivial rfl (by simp only[Wa];omega))
 rw[if_neg h1];obtain⟨hfm,hsy⟩:=hst h0
 (repeat first|simp(disch:=try exact dis1) only[evD,Nat.reduceBEq,Nat.reduceAdd,Nat.reduceLeDiff,dF,zbe,zlA,tab,WB,WH]|with_reducible first|intro _|refine aJ ?_)
 refine zc (zg (htr (by rw[zrk];exact hsy)) (flN rfl)) ?_;have hok:=zwP hs hfm;have hrun:=zlQ (zch e).st cs hcs hok.len;have hfirst:=zod (zch e).st cs hok hcs hw most (by omega);generalize (zch e).st=st at hok hrun hfirst ⊢
 (refine Qa ?_;intros)
 refine zhL hrun ?_;rintro v H' nx' ⟨rfl,rfl,rfl⟩
 (refine Qa ?_;intros)
 refine zhL hfirst ?_;rintro v H' nx' ⟨rfl,rfl,rfl⟩
 have hwf:∀n:Int,n=0∨n=15→InR .i64 n:=fun n h=>by
  rcases h with rfl|rfl<;>exact⟨by decide,by decide⟩
 have hE:zgl st cs most.toNat=0∨zgl st cs most.toNat=15:=by
  unfold zgl;split
  ·
   unfold endR
   split<;>simp
  · exact .inl rfl
 generalize zgl st cs most.toNat=er at hE ⊢;generalize zl9 st cs most.toNat=li
 by_cases h2:er=0
 ·
  rw[if_neg (fun h=>h h2)];simp only[zb4]
  (repeat first|simp(disch:=try exact dis1) only[evD,Nat.reduceBEq,Nat.reduceAdd,Nat.reduceLeDiff,dF,zdR]|with_reducible first|intro _|refine aJ ?_)
  exact retE _ _ _ _ (.sl _ _ _ _)
 ·
  rw[if_pos h2]
  have h3:er=15:=by omega
  simp only[zb4]
  (refine Qaf ?_;intros)
  have r:=retE [(0,.row 1 [] 0),(1,.row 1 [[.int .i64 er]] 0),(2,.row 1 [[.fn (.func zci) [.ptr 1 0 0 0 0]]] 0),(3,.row 1 [] 0)] (.own 3 0 0 0 0) [] er (zaL (l:=[]) trivial rfl (by simp only[Wa];omega));exact⟨r,r⟩
def zks:ACode:=.seq (.region [ Yaj,(oN 3 (.rbox (.t 1))),Yam] [0,1,4]) (.seq (.seq (.region [ (oA 10 2 2),(oL 11 3),(oN 12 (.call za8 [(.t 10),(.c (.nilsl)),(.t 11)])),(oM 9 12),(oT 13 0 9),(oT 14 1 9),(oM 5 13),(oM 6 14)] [5,9,10,11,12,13,14]) (.seq (.region [ (oM 15 6),(oC 16 .neq 15 0)] [6,15]) (.cond (.t 16) (.seq (.region [ Yam] [2,3,16]) (.ret)) (.skip)))) (.seq (.seq (.region [ (oL 17 3),(oC 18 .leq 17 0)] [4,16,17]) (.cond (.t 18) (.seq (.region [ (oN 19 (.buildSl 1 1 [.nilsl] [(0,(.c (.nilsl)))])),(oM 4 19)] [2,3,18,19]) (.ret)) (.skip))) (.seq (.region [ (oN 7 (.alloc [.nilsl]))] [4,18]) (.seq (.region [ (oN 8 (.alloc [.nilfn]))] []) (.seq (.region [ (oN 20 (.mkfn (.func zbX) [(.t 2),(.t 3),(.t 7),(.t 8)])),(oS 1 8 20)] [2,3,20]) (.seq (.seq (.region [ (oL 21 8),(oN 22 (.buildSl 1 1 [.int .i64 0] [(0,(.c (.int .i64 0)))])),(oN 23 (.callv (.t 21) [(.t 22)])),(oN 24 (.un .not (.t 23)))] [8,21,22,23]) (.cond (.t 24) (.seq (.region [ Yam] [7,24]) (.ret)) (.skip))) (.seq (.region [ (oL 25 7),(oM 4 25)] [7,24,25]) (.ret))))))))
def zcj:List ARet:=[.tmp 4]
theorem zoR:zT Tryz.prog zfV (qRo [2,3])=some (zks.strip,zcj,26):=by kernel_rfl
def zgu:ACode:=.seq (.region [ (oL 36 3),(oE 37 36),(oC 38 .leq 37 1024),(oM 6 38)] [3,36,37,38]) (.ret)
def zf0:ACode:=.cond (.t 54) (.seq (.region [ Yan] [0,4,42,43,44,54]) (.ret)) (.skip)
def zfZ:ACode:=.seq (.region [ (oB 45 .lss 44 43)] []) (.seq (.cond (.t 45) (.skip) (.exit 0)) (.seq (.block 1 (.seq (.region [ (oI 46 1 42 44),(oL 47 46),(oM 9 47)] [45,46,47]) (.join (.draw ( .step (oM 49 0) ( .step (oM 50 9) ( .alt (oL 48 4) ( .alt (oN 51 (.buildSl 1 1 [.int .i64 0] [(0,(.t 50))])) ( .alt (oN 52 (.append2 1 8 (.t 49) (.t 51))) ( .alt (oN 53 (.callv (.t 48) [(.t 52)])) ( .step (oN 54 (.un .not (.t 53))) ( .done)) ( .stop)) ( .stop)) ( .stop)) ( .alt (oN 51 (.buildSl 1 1 [.int .i64 0] [(0,(.t 50))])) ( .alt (oL 48 4) ( .alt (oN 52 (.append2 1 8 (.t 49) (.t 51))) ( .alt (oN 53 (.callv (.t 48) [(.t 52)])) ( .step (oN 54 (.un .not (.t 53))) ( .done)) ( .stop)) ( .stop)) ( .alt (oN 52 (.append2 1 8 (.t 49) (.t 51))) ( .step (oL 48 4) ( .alt (oN 53 (.callv (.t 48) [(.t 52)])) ( .step (oN 54 (.un .not (.t 53))) ( .done)) ( .stop))) ( .stop))) ( .stop))))) [9,48,49,50,51,52,53]) (zf0)))) (.region [ (oC 55 .add 44 1),(oM 44 55)] [6,54,55])))
def zgs:ACode:=.seq (.region [ (oN 6 (.mov (.c (.bool true))))] [0,4,42,43,44]) (.ret)
def zfY:ACode:=.seq (.seq (.region [ (oM 22 7),(oE 23 22),(oC 24 .eql 23 0),(oM 25 24),(oG 26 25 false (.mov (.t 0))),(oG 27 25 false (.len (.t 26))),(oG 28 25 false (.load false 1 (.t 2))),(oG 29 25 false (.bin .eql (.t 27) (.t 28))),(oN 30 (.pick (.t 25) (.c (.bool true)) (.t 29)))] [2,22,23,24,25,26,27,28,29]) (.cond (.t 30) (.join (.draw ( .step (oM 32 0) ( .alt (oL 31 3) ( .alt (oN 33 (.call zw [(.t 32)])) ( .alt (oN 34 (.buildSl 1 1 [.nilsl] [(0,(.t 33))])) ( .alt (oN 35 (.append 1 24 (.t 31) (.t 34))) ( .alt (oS 1 3 35) ( .done) ( .stop)) ( .stop)) ( .stop)) ( .stop)) ( .alt (oN 33 (.call zw [(.t 32)])) ( .alt (oL 31 3) ( .alt (oN 34 (.buildSl 1 1 [.nilsl] [(0,(.t 33))])) ( .alt (oN 35 (.append 1 24 (.t 31) (.t 34))) ( .alt (oS 1 3 35) ( .done) ( .stop)) ( .stop)) ( .stop)) ( .alt (oN 34 (.buildSl 1 1 [.nilsl] [(0,(.t 33))])) ( .step (oL 31 3) ( .alt (oN 35 (.append 1 24 (.t 31) (.t 34))) ( .alt (oS 1 3 35) ( .done) ( .stop)) ( .stop))) ( .stop))) ( .stop)))) [0,4,7,30,31,32,33,34,35]) (zgu)) (.skip))) (.seq (.region [ (oM 39 7),(oN 40 (.call zcI [(.t 39)]))] [3,6,30,39,40]) (.seq (.seq (.region [ (oM 41 7),(oN 42 (.call zY [(.t 41)])),(oE 43 42),(oK 44 0)] [7,41]) (.block 0 (.loop zfZ))) (zgs)))
def ziK:ACode:=.seq (.region [ Yan] [6]) (.join (.draw ( .step (oF 10 1 1 1) ( .step (oM 12 0) ( .step (oM 13 0) ( .step (oE 14 13) ( .step (oC 15 .sub 14 1) ( .alt (oL 11 10) ( .alt (oI 16 1 12 15) ( .alt (oL 17 16) ( .alt (oI 18 2 11 17) ( .alt (oA 19 2 18) ( .step (oN 20 (.callq zaB [(.t 19)])) ( .alt (oN 21 (.call zw [(.t 20)])) ( .step (oM 7 21) ( .done)) ( .stop))) ( .stop)) ( .stop)) ( .stop)) ( .stop)) ( .alt (oI 16 1 12 15) ( .alt (oL 11 10) ( .alt (oL 17 16) ( .alt (oI 18 2 11 17) ( .alt (oA 19 2 18) ( .step (oN 20 (.callq zaB [(.t 19)])) ( .alt (oN 21 (.call zw [(.t 20)])) ( .step (oM 7 21) ( .done)) ( .stop))) ( .stop)) ( .stop)) ( .stop)) ( .alt (oL 17 16) ( .alt (oL 11 10) ( .alt (oI 18 2 11 17) ( .alt (oA 19 2 18) ( .step (oN 20 (.callq zaB [(.t 19)])) ( .alt (oN 21 (.call zw [(.t 20)])) ( .step (oM 7 21) ( .done)) ( .stop))) ( .stop)) ( .stop)) ( .stop)) ( .stop))) ( .stop)))))))) [1,10,11,12,13,14,15,16,17,18,19,20,21]) (zfY))
def zdi:List ARet:=[.tmp 6]
theorem zmT:zT Tryz.prog zbX (qRoL [1052] [(1,[0,1,2,3,4,5,6,7,8,9,10,12,13,14,15,16,17,18,19,20,21,22,23,24,25,26,27,28,29,30,31,32,33,34,35,36,37,38,39,40,41,42,43,44,45,46,47,48,49,50,51,52,53,54,55,56,57,58,59,60,61,62,63,64,65,66,67,68,69,70,71,72,73,74,75,76,77,78,79,80,81,82,83,84,85,86,87,88,89,90,91,92,93,94,95,96,97,98,99,100,101,102,103,104,105,106,107,108,109,110,111,112,113,114,115,116,117,118,119,120,121,122,123,124,125,126,127,128,129,130,131,132,133,134,135,136,137,138,139,140,141,142,143,144,145,146,147,148,149]),(3,[0,1,3,4,5,6,7,8,9,10,11,12,13,14,15,16,17,18,19,20,21,22,23,24,25,26,27,28,29,30,31,32,33,34,35,36,37,38,39,40,41,42,43,44,45,46,47,48,49,50,51,52,53,54,55,56,57,58,59,60,61,62,63,64,65,66,67,68,69,70,71,72,73,74,75,76,77,78,79,80,81,82,83,84,85,86,87,88,89,90,91,92,93,94,95,96,97,98,99,100,101,102,103,104,105,106,107,108,109,110,111,112,113,114,115,116,117,118,119,120,121,122,123,124,125,126,127,128,129,130,131,132,133,134,135,136,137,138,139,140,141,142,143,144,145,146,147,148,149])])=some (ziK.strip,zdi,56):=by kernel_rfl
def zpX (g:G) (path:List Int):List Int:=zx (blkG g (path.getLast?.getD 0).toNat).stmts
def ze3 (rec:List Int→List (List Int)→Bool × List (List Int)):List Int→List Int→List (List Int)→Bool × List (List Int)
 | [],_,out=>(true,out)
 | b::l,path,out=>if (rec (path++[b]) out).1 then ze3 rec l path (rec (path++[b]) out).2 else (false,(rec (path++[b]) out).2)
def endF (g:G) (most:Int) (path:List Int):Prop:=(zpX g path).length=0∨(path.length:Int)=most
instance (g:G) (most:Int) (path:List Int):Decidable (endF g most path):=by unfold endF;infer_instance
def zbk (g:G) (most:Int):Nat→List Int→List (List Int)→Bool × List (List Int)
 | 0,path,out=>if endF g most path then (decide (out.length+1≤1024),out++[path]) else (true,out)
 | f+1,path,out=>if endF g most path then (decide (out.length+1≤1024),out++[path]) else ze3 (zbk g most f) (zaN (zhp (zpX g path))) path out
def cP (p:List Int):List AV:=[za p]
def zl8 (g:G) (most:Int):List AV:=[.iptr 2 fun j=>g.cells.getD j .undef,.iptr 1 fun j=>[AV.int .i64 most].getD j .undef,.ptr 0 0 0 0 0,.ptr 3 0 0 0 0]
def zeq (g:G) (most:Int) (γ γ2:Nat) (out:List (List Int)) (els:List Int):AH :=
 [(0,.row 1 [[.own 1 0 γ 0 out.length]] 0),(1,.row 1 (out.map cP) γ),(2,.row 1 (els.map cI) γ2),(3,.row 1 [[.fn (.func zbX) (zl8 g most)]] 0)]
theorem zsO {g:G} {most:Int} {n:Nat} (hn:4≤n):∀a∈zl8 g most,AV.Below n a:=fun a ha=>by
 unfold zl8 at ha;simp only[Wn,List.not_mem_nil,or_false] at ha
 rcases ha with rfl|rfl|rfl|rfl
 · exact .iptr _ _
 · exact .iptr _ _
 · exact .ptr _ _ _ _ _ (by omega)
 · exact .ptr _ _ _ _ _ (by omega)
theorem mapB {α:Type} {n:Nat} {f:α→AV} {l:List α} (h:∀a,AV.Below n (f a)):∀c∈l.map fun a=>[f a],∀v∈c,AV.Below n v:=fun c hc v hv=>by obtain⟨a,_,rfl⟩:=Wy.1 hc;rw[Wc.1 hv];exact h a
theorem zge {g:G} {most:Int} {γ γ2:Nat} {out:List (List Int)} {els:List Int} {n:Nat} (hn:4≤n) (T:AH) (hT:LowH n T):LowH n (zeq g most γ γ2 out els++T):=by unfold zeq;exact .cons (by omega) (zqf (.own _ _ _ _ _ (by omega))) (.cons (by omega) (mapB fun p=>.sl _ _ _) (.cons (by omega) (mapB fun p=>.int _ _) (.cons (by omega) (zqf (.fn _ _ (zsO hn))) hT)))
theorem put_in {path junk:List Int} {b:Int}:((path++junk).map cI).take (0+path.length)++[[AV.int .i64 b]]++((path++junk).map cI).drop (0+path.length+1)=((path++[b])++junk.drop 1).map cI:=by rw[Nat.zero_add,←WC,←List.map_drop,WD,←List.drop_drop,List.drop_left];simp[cI]
theorem zBA {path junk:List Int} {b:Int}:(((path++junk).map cI).drop 0).take path.length++[[AV.int .i64 b]]=((path++[b])++[]).map cI:=by rw[List.drop_zero,←WC,WD];simp[cI]
theorem zrY {rec:List Int→List (List Int)→Bool × List (List Int)} {l:List Int} {i:Nat} (h:i < l.length) {path:List Int} {out:List (List Int)} :
  ze3 rec (l.drop i) path out=if (rec (path++[l[i]]) out).1 then ze3 rec (l.drop (i+1)) path (rec (path++[l[i]]) out).2 else (false,(rec (path++[l[i]]) out).2):=by
 rw[List.drop_eq_getElem_cons h,ze3]
theorem zrS {l:List Int} {x:Int} (h:x∈zaN l):x∈l:=by
 unfold zaN zaS at h;obtain⟨j,hj,rfl⟩:=Wy.1 h;unfold Dm.filR at hj;have hl:=List.mem_range.1 (List.mem_filter.1 hj).1
 have e:l.getD j 0=l[j]:=by simp[Ws,hl]
 rw[e];exact Wp hl
theorem zwG (l junk:List Int) (g:Nat) (hl:l.length≤1000) (h0:l.length≠0):z7 Tryz.prog zw [.own 0 0 g 0 l.length] [(0,.row 1 ((l++junk).map cI) g)] 1
  (fun v H nx=>v=za l∧H=[(0,.row 1 ((l++junk).map cI) g)]∧nx=1):=by
 refine z8 (fn_x zbq rfl ?_);unfold zaE;have hB:=hBig
 have e1:nilB false (.own 0 0 g 0 l.length)=some (some false):=by unfold nilB;simp only[zH h0];rfl
 have hlen:((l++junk).map cI).length=l.length+junk.length:=by simp
 have htk:((l++junk).map cI).take l.length=(l++[]).map cI:=by rw[←WC,WD,List.append_nil]
 (repeat first|simp(disch:=try exact dis1) only[evD,Nat.reduceBEq,Nat.reduceAdd,Nat.reduceLeDiff,e1,hlen,htk,zF]|with_reducible first|intro _|refine aJ ?_)
 exact⟨_,_,_,Ent.lowFB (Wf _) (fun r o h=>by
  refine Wj (AH.look_app2 r [(0,.row 1 ((l++junk).map cI) g)] _) ?_
  rw[h]) (.cons (by decide) (mapB fun p=>.int _ _) (.nil 1)) ⟨zaL (l:=l) (show 1≤2 by decide) rfl (by omega),trivial⟩,rfl,rfl,rfl⟩
theorem zn3 {rec:List Int→List (List Int)→Bool × List (List Int)} (h:∀p o,o.length≤1024→(rec p o).1=true→(rec p o).2.length≤1024):∀(l path:List Int) (out:List (List Int)),out.length≤1024→(ze3 rec l path out).1=true→(ze3 rec l path out).2.length≤1024
 | [],path,out,ho,_=>ho
 |
  b::l,path,out,ho,ht=>by
  rw[ze3] at ht ⊢;split at ht
  · rename_i h1;rw[if_pos h1];exact zn3 h l path _ (h _ _ ho h1) ht
  · cases ht
theorem zkK (g:G) (most:Int):∀(f:Nat) (path:List Int) (out:List (List Int)),out.length≤1024→(zbk g most f path out).1=true→(zbk g most f path out).2.length≤1024
 |
  0,path,out,ho,ht=>by
  rw[zbk] at ht ⊢;split at ht
  · rename_i h;rw[if_pos h];simpa using ht
  · rename_i h;rw[if_neg h];exact ho
 |
  f+1,path,out,ho,ht=>by
  rw[zbk] at ht ⊢;split at ht
  · rename_i h;rw[if_pos h];simpa using ht
  · rename_i h;rw[if_neg h];exact zn3 (zkK g most f) _ _ _ ho ht
theorem zqh {H:AH} {a b c d:AObj} (h0:H.look 0=some a) (h1:H.look 1=some b) (h2:H.look 2=some c) (h3:H.look 3=some d):∀r o,AH.look [(0,a),(1,b),(2,c),(3,d)] r=some o→H.look r=some o:=fun r o h=>match r,h with
 | 0,h=>h0.trans h
 | 1,h=>h1.trans h
 | 2,h=>h2.trans h
 | 3,h=>h3.trans h
 | _+4,h=>by cases h
theorem zna {H:AH} {a b c d e:AObj} (h0:H.look 0=some a) (h1:H.look 1=some b) (h2:H.look 2=some c) (h3:H.look 3=some d) (h4:H.look 4=some e):∀r o,AH.look [(0,a),(1,b),(2,c),(3,d),(4,e)] r=some o→H.look r=some o:=fun r o h=>match r,h with
 | 0,h=>h0.trans h
 | 1,h=>h1.trans h
 | 2,h=>h2.trans h
 | 3,h=>h3.trans h
 | 4,h=>h4.trans h
 | _+5,h=>by cases h
theorem zs4 {P:Program} {r r2 n γ γ2:Nat} {v:AV} {els:List (List AV)} {d:Option Nat} {rr:Rest} {drop:List Nat} {Q:QT} {K:Kn} {H:AH} {nx:Nat} (hx:H.get r 0=some (.row 1 els γ)) (hy:H.get r2 0=some (.row 1 [[v]] γ2)) (hn:n≤els.length) (hb:(n+1) * 8≤140737488355328)
  (h1:zaG P rr drop Q (setO K d (.own r 0 γ 0 (n+1))) (H.set r 0 (.row 1 (els.take (0+n)++[[v]]++els.drop (0+n+1)) γ)) nx) (h2:zaG P rr drop Q (setO K d (.own nx 0 0 0 (n+1))) (H.set nx 0 (.row 1 ((els.drop 0).take n++[[v]]) 0)) (nx+1)) :
  zAj P 1 8 (.own r 0 γ 0 n) (.own r2 0 γ2 0 1) d rr drop Q K H nx:=by
 unfold zAj zkd
 have e1:zd2 1 (.own r2 0 γ2 0 1) H=some [[v]]:=by unfold zd2;simp only[hy,zC,Wh,cond_true];rfl
 have e2:lenV (.own r2 0 γ2 0 1)=some 1:=rfl;simp only[e1,e2,hx];refine⟨⟨trivial,trivial,by omega,?_,hb,by decide⟩,h1,h2⟩;unfold fits;simp only[hy];exact Wf _
theorem zql {H H2:AH} {σ:Nat→Nat→Option (Nat × Nat × Nat)} {D:Nat→Nat→Prop} {g:G} {most:Int} (h0:σ 0 0=some (0,0,0)) (h3:σ 3 0=some (3,0,0)):VwL H H2 σ D true (zl8 g most) (zl8 g most) :=
 ⟨.iptr _ _ _,.iptr _ _ _,.ptr _ _ _ 0 _ _ _ _ _ h0 rfl,.ptr _ _ _ 0 _ _ _ _ _ h3 rfl,trivial⟩
theorem zuN {f:Nat→Nat} {l:List (List Int)} {g:Nat}:AObj.ren f (.row 1 (l.map cP) g)=.row 1 (l.map cP) g:=by
 have e:∀l:List (List Int),(l.map cP).map (fun c=>c.map (AV.ren f))=l.map cP:=fun l=>by
  induction l with
  | nil=>rfl
  |
   cons a l ih =>
   rw[Wu,Wu,ih];simp only[cP,za,encL,Wu,WA,AV.ren]
 show AObj.row 1 ((l.map cP).map fun c=>c.map (AV.ren f)) g=_;rw[e]
theorem zlZ {g:G} {most:Int} {γ γ2:Nat} {out:List (List Int)} {p els:List Int}:zeq g most γ γ2 (out++[p]) els=[(0,.row 1 [[.own 1 0 γ 0 (out.length+1)]] 0),(1,.row 1 (out.map cP++[cP p]) γ),(2,.row 1 (els.map cI) γ2),(3,.row 1 [[.fn (.func zbX) (zl8 g most)]] 0)]:=by simp[zeq]
theorem zvS {g:G} {most:Int} {γ γ2:Nat} {out:List (List Int)} {els:List Int} {n:Nat} (hn:4≤n):LowH n (zeq g most γ γ2 out els):=by
 have:=zge (g:=g) (most:=most) (γ:=γ) (γ2:=γ2) (out:=out) (els:=els) hn [] (.nil n)
 simpa using this
theorem retF {g:G} {most:Int} {γ γ' γ2:Nat} {out:List (List Int)} {path junk:List Int} {b:Bool} {H:AH} {nx:Nat} {Q:AV→AH→Nat→Prop} (hH:∀r o,(zeq g most γ' γ2 out (path++junk)).look r=some o→H.look r=some o) (hq:Q (.bool b) (zeq g most γ' γ2 out (path++junk)) 4):zrv 4 Q (.bool b) H nx :=
 ⟨_,_,_,Ent.lowB (Wf _) hH (by have:=zge (g:=g) (most:=most) (γ:=γ') (γ2:=γ2) (out:=out) (els:=path++junk) (Wf 4) [] (.nil 4);simpa using this) ⟨⟨rfl,.bool _⟩,trivial⟩,hq⟩
theorem Qag {p q:Prop}(k:q)(h:Im q p:=by(repeat first|simp(disch:=try exact dis1) only[evD,Nat.reduceBEq,Nat.reduceAdd,Nat.reduceLeDiff,zl8] | ((with_reducible apply Im.i);intro _) | ((with_reducible apply Im.a);omega));exact Im.r):p:=h k
theorem Qah {p q:Prop}(k:q)(h:Im q p:=by(repeat first|simp(disch:=try exact dis1) only[evD,Nat.reduceBEq,Nat.reduceAdd,Nat.reduceLeDiff,zdi] | ((with_reducible apply Im.i);intro _) | ((with_reducible apply Im.a);omega));exact Im.r):p:=h k
theorem znj (g:G) (hg:OkG g) (hs:∀b∈g.blocks,(zx b.stmts).length≤1000) (most:Int) (hm:most≤1000):∀(f:Nat) (path junk:List Int) (out:List (List Int)) (γ γ2:Nat),(path.length:Int)+f=most→path.length≠0→(∀b∈path,0≤b∧b < g.blocks.length)→out.length≤1024 →
  ∀Q:AV→AH→Nat→Prop,(∀γ' junk',Q (.bool (zbk g most f path out).1) (zeq g most γ' γ2 (zbk g most f path out).2 (path++junk')) 4)→z7 Tryz.prog zbX (.own 2 0 γ2 0 path.length::zl8 g most) (zeq g most γ γ2 out (path++junk)) 4 Q:=by
 intro f
 induction f using Nat.strongRecOn with
 | ind f ih0 =>
 intro path junk out γ γ2 hf hp0 hpr ho Q hQ;refine z8 (fn_x zmT rfl ?_);unfold ziK;have hB:=hBig;obtain⟨ad,l⟩:=g;simp only[G.cells,zeq,zl8];simp only at hs hpr
 have hpl:path.length≤1000:=by omega
 have hlen:((path++junk).map cI).length=path.length+junk.length:=by simp
 have hw1:IntKind.i64.wrap ((path.length:Int) - 1)=(path.length:Int) - 1:=zld (by omega) (by omega)
 have hidx:(((path.length:Nat):Int) - 1).toNat=path.length - 1:=by omega
 obtain⟨x,hx,hx1⟩:∃x:Nat,path.getLast?.getD 0=(x:Int)∧x < l.length:=by
  have hm:=hpr (path.getLast?.getD 0) (by
   rw[WE,WF (by omega)]
   exact Wp _)
  exact⟨(path.getLast?.getD 0).toNat,(Wt hm.1).symm,by have:=hm.2;omega⟩
 have hlast:((path++junk).map cI).getD (path.length - 1) []=[.int .i64 x]:=by rw[zm (f:=cI) (show path.length - 1 < (path++junk).length by simp;omega),WI (by omega),←hx];rw[WE,WF (by omega)];rfl
 have hmem:=Wp hx1;have hgb:(l.map Bl.cells).getD x []=[.int .u32 l[x].addr,encL 8 St.cells l[x].stmts]:=zm hx1;have hll:=hg.few;have hsh:=hs _ hmem;simp only at hll
 have hnx:zpX ⟨ad,l⟩ path=zx l[x].stmts:=by unfold zpX blkG;simp only[hx,Wk];simp[Ws,hx1]
 have hpo:=zd6 l[x] (hg.ends _ hmem);simp only[Bl.cells] at hpo
 (refine Ql ?_;intros)
 refine zgc (fun _:Unit=>([(0,.own 2 0 γ2 0 path.length),(2,.iptr 1 fun j=>[AV.int .i64 most].getD j .undef),(3,.ptr 0 0 0 0 0),(4,.ptr 3 0 0 0 0),(7,.own 4 0 0 0 (zx l[x].stmts).length)],zeq ⟨ad,l⟩ most γ γ2 out (path++junk)++[(4,.row 1 ((zx l[x].stmts).map cI) 0)])) 5 (fun _=>True) ?_ ?_
 ·
  (repeat first|simp(disch:=try exact dis1) only[evD,Nat.reduceBEq,Nat.reduceAdd,Nat.reduceLeDiff,fldP,dT,hlen,hw1,hidx,hlast,hgb,WB,za,Wk]|with_reducible first|intro _|refine aJ ?_)
  (repeat' apply Wx)
  all_goals try omega
  all_goals
   refine zbT (zg hpo rfl) ?_
   (refine Qo ?_;intros)
   refine zbr [] 0 _ (Dm.slices_Clone_ok (zx l[x].stmts) hsh) rfl rfl Qam Qam ?_;rintro v H' nx' ⟨rfl,rfl,rfl⟩
   (refine Qo ?_;intros)
   refine⟨(),Ent.lowB (by decide) (fun r o h=>h) (zge (by decide) _ (.cons (by decide) (mapB fun p=>.int _ _) (.nil 5))) ?_⟩;exact⟨⟨rfl,.own _ _ _ _ _ (by decide)⟩,⟨rfl,.iptr _ _⟩,⟨rfl,.ptr _ _ _ _ _ (by decide)⟩,⟨rfl,.ptr _ _ _ _ _ (by decide)⟩,⟨rfl,.own _ _ _ _ _ (by decide)⟩,trivial⟩
 ·
  rintro u - wf;clear wf;simp only[zeq,Wd,We];unfold zfY;generalize hT:zx l[x].stmts=T at hnx hsh ⊢
  have hlen1:(out.map cP).length=out.length:=by simp
  by_cases hend:endF ⟨ad,l⟩ most path
  ·
   have hR:zbk ⟨ad,l⟩ most f path out=(decide (out.length+1≤1024),out++[path]):=by cases f<;>rw[zbk,if_pos hend]
   rw[hR] at hQ
   have hor:(decide ((T.length:Int)=0)=true)∨(decide ((T.length:Int)=0)=false∧decide ((path.length:Int)=most)=true):=by
    unfold endF at hend;rw[hnx] at hend
    by_cases h:T.length=0
    · exact .inl (by simp[h])
    · exact .inr ⟨by simpa using h,by simpa [h] using hend⟩
   cases hor
   case' inl hd1=>(repeat first|simp(disch:=try exact dis1) only[evD,Nat.reduceBEq,Nat.reduceAdd,Nat.reduceLeDiff,fldP,hd1]|with_reducible first|intro _|refine aJ ?_)
   case' inr hd=>(repeat first|simp(disch:=try exact dis1) only[evD,Nat.reduceBEq,Nat.reduceAdd,Nat.reduceLeDiff,fldP,hd.1,hd.2]|with_reducible first|intro _|refine aJ ?_)
   all_goals
    refine zgc (fun _:Unit=>([(3,.ptr 0 0 0 0 0)],zeq ⟨ad,l⟩ most (γ+1) γ2 (out++[path]) (path++junk))) 4 (fun _=>True) ?_ ?_
    ·
     (refine Ql ?_;intros)
     (repeat' apply Wx)
     all_goals
      refine zbr [(0,2,0)] 1 _ (zwG path junk γ2 hpl hp0) rfl rfl Qal Qal ?_;rintro v H' nx' ⟨rfl,rfl,rfl⟩
      (repeat first|simp(disch:=try exact dis1) only[evD,Nat.reduceBEq,Nat.reduceAdd,Nat.reduceLeDiff,za,hlen1]|with_reducible first|intro _|refine aJ ?_)
      (repeat' apply Wx)
      all_goals try omega
      all_goals exact⟨(),Ent.lowB (Wf _) (by rw[zlZ];exact zqh rfl rfl rfl rfl) (zvS (Wf _)) ⟨⟨rfl,.ptr _ _ _ _ _ (by decide)⟩,trivial⟩⟩
    ·
     rintro u - wf;clear wf;rw[zlZ];unfold zgu
     (repeat first|simp(disch:=try exact dis1) only[evD,Nat.reduceBEq,Nat.reduceAdd,Nat.reduceLeDiff,fldP,zdi]|with_reducible first|intro _|refine aJ ?_)
     have e:decide (((out.length+1:Nat):Int)≤1024)=decide (out.length+1≤1024):=by rw[Bool.eq_iff_iff,decide_eq_true_eq,decide_eq_true_eq];omega
     rw[e];exact retF (γ:=0) (γ':=γ+1) (out:=out++[path]) (junk:=junk) (by rw[zlZ];exact zqh rfl rfl rfl rfl) (hQ _ _)
  ·
   obtain⟨f,rfl⟩:∃f',f=f'+1:=⟨f - 1,by
    have:f≠0:=fun h0=>hend (.inr (by omega))
    omega⟩
   have ih:=ih0 f (Nat.lt_succ_self f)
   have hR:zbk ⟨ad,l⟩ most (f+1) path out=ze3 (zbk ⟨ad,l⟩ most f) (zaN (zhp T)) path out:=by rw[zbk,if_neg hend,hnx]
   rw[hR] at hQ
   have hd1:decide ((T.length:Int)=0)=false:=by
    rw[decide_eq_false_iff_not]
    exact fun h=>hend (.inl (by rw[hnx];omega))
   have hd2:decide ((path.length:Int)=most)=false:=by
    rw[decide_eq_false_iff_not]
    exact fun h=>hend (.inr h)
   have hsrt:=fun H nx hr=>zr5 (r:=4) (q:=0) (g:=0) (zs:=T) (H:=H) (nx:=nx) hr (by omega)
   have hsl:(zhp T).length=T.length:=(zdu T).length_eq
   (repeat first|simp(disch:=try exact dis1) only[evD,Nat.reduceBEq,Nat.reduceAdd,Nat.reduceLeDiff,fldP,hd1,hd2]|with_reducible first|intro _|refine aJ ?_)
   refine zhL (hsrt _ _ rfl) ?_;rintro v H' nx' he;obtain⟨rfl,rfl,rfl⟩:=he;have hcp:=zh7 (zhp T) 0 (by omega);rw[hsl] at hcp
   (refine Ql ?_;intros)
   refine zbr [(0,4,0)] 1 _ (hcp) rfl rfl Qal Qal ?_;rintro v H' nx' ⟨m,rfl,rfl,rfl⟩;generalize hC:zaN (zhp T)=C at hQ ⊢
   have hCm:∀b∈C,0≤b∧b < l.length:=fun b hb=>by rw[←hC] at hb;have h1:=(zdu T).mem_iff.1 (zrS hb);rw[←hT] at h1;exact hg.tgt _ hmem b h1
   have hCl:C.length≤1000:=by rw[←hC];exact Wq zpq (by omega)
   (refine Ql ?_;intros)
   refine zk (fun s:Nat × List (List Int) × Nat × List Int=>([(0,.own 2 0 γ2 0 path.length),(4,.ptr 3 0 0 0 0),(42,.own 4 0 0 0 C.length),(43,.int .i64 C.length),(44,.int .i64 s.1)],zeq ⟨ad,l⟩ most s.2.2.1 γ2 s.2.1 (path++s.2.2.2)++[(4,.row 1 ((C++m).map cI) 0)])) 5
    (fun s=>s.1≤C.length∧s.2.1.length≤1024∧ze3 (zbk ⟨ad,l⟩ most f) (C.drop s.1) path s.2.1=ze3 (zbk ⟨ad,l⟩ most f) C path out) (fun s=>C.length - s.1) (0,out,γ,junk) ⟨Wg _,ho,rfl⟩ ?_ ?_
   · exact Ent.lowB (by decide) (zna rfl rfl rfl rfl rfl) (zge (by decide) _ (.cons (by decide) (mapB fun p=>.int _ _) (.nil 5))) ⟨⟨rfl,.own _ _ _ _ _ (by decide)⟩,⟨rfl,.ptr _ _ _ _ _ (by decide)⟩,⟨rfl,.own _ _ _ _ _ (by decide)⟩,⟨rfl,.int _ _⟩,⟨rfl,.int _ _⟩,trivial⟩
   rintro⟨i,out1,γ1,junk1⟩ ⟨hi,ho1,hgo⟩ wf;simp only at hi ho1 hgo;clear wf;unfold zfZ;simp only[zeq,Wd,We]
   by_cases hil:i < C.length
   ·
    rw[zrY hil] at hgo;have hbm:=hCm C[i] (Wp hil)
    have hgc:((C++m).map cI).getD i []=[.int .i64 C[i]]:=by
     rw[zm (f:=cI) (show i < (C++m).length by simp;omega),WI hil]
     try rfl
    have hcl:((C++m).map cI).length=C.length+m.length:=by simp
    generalize C[i]=b at hgo hbm hgc
    (repeat first|simp(disch:=try exact dis1) only[evD,Nat.reduceBEq,Nat.reduceAdd,Nat.reduceLeDiff,dT,hgc,hcl,Wk]|with_reducible first|intro _|refine aJ ?_)
    refine zgc (fun s:Nat × List Int=>([(0,.own 2 0 γ2 0 path.length),(4,.ptr 3 0 0 0 0),(42,.own 4 0 0 0 C.length),(43,.int .i64 C.length),(44,.int .i64 i),(54,.bool (!(zbk ⟨ad,l⟩ most f (path++[b]) out1).1))],zeq ⟨ad,l⟩ most s.1 γ2 (zbk ⟨ad,l⟩ most f (path++[b]) out1).2 (path++s.2)++[(4,.row 1 ((C++m).map cI) 0)])) 5 (fun _=>True) ?_ ?_
    ·
     have hpl1:(path++[b]).length=path.length+1:=by simp
     have hcal:∀junk γ2,z7 Tryz.prog zbX (.own 2 0 γ2 0 (path.length+1)::zl8 ⟨ad,l⟩ most) (zeq ⟨ad,l⟩ most γ1 γ2 out1 ((path++[b])++junk)) 4
       (fun v H nx=>v=.bool (zbk ⟨ad,l⟩ most f (path++[b]) out1).1∧∃γ' junk',H=zeq ⟨ad,l⟩ most γ' γ2 (zbk ⟨ad,l⟩ most f (path++[b]) out1).2 ((path++[b])++junk')∧nx=4):=fun junk γ2=>by
      have:=ih (path++[b]) junk out1 γ1 γ2 (by rw[hpl1];omega) (by omega) (fun c hc=>by
       rcases List.mem_append.1 hc with hc|hc
       · exact hpr c hc
       · rw[Wc.1 hc];exact hbm) ho1 (fun v H nx=>v=.bool (zbk ⟨ad,l⟩ most f (path++[b]) out1).1∧∃γ' junk',H=zeq ⟨ad,l⟩ most γ' γ2 (zbk ⟨ad,l⟩ most f (path++[b]) out1).2 ((path++[b])++junk')∧nx=4) (fun γ' junk'=>⟨rfl,γ',junk',rfl,rfl⟩)
      rw[hpl1] at this;exact this
     generalize zbk ⟨ad,l⟩ most f (path++[b]) out1=R at hcal hgo ⊢
     (refine Qa ?_;intros)
     (repeat' with_reducible apply Wx)
     all_goals
      refine zs4 rfl rfl (by simp) (by omega) ?_ ?_
      ·
       rw[put_in]
       (refine Qa ?_;intros)
       refine⟨by kernel_rfl,?_⟩;refine zbr [(0,0,0),(1,1,0),(2,2,0),(3,3,0)] 4 _ (hcal (junk1.drop 1) γ2) rfl rfl ?_ ?_ ?_
       · simp only[evWB,Nat.reduceBEq,Nat.reduceAdd,Nat.reduceSub,Nat.reduceLeDiff,Nat.reduceLT,implies_true,zeq];exact⟨RowV.of_flat (zfS fun _=>rfl),zql rfl rfl⟩
       · simp only[evWB,Nat.reduceBEq,Nat.reduceAdd,Nat.reduceSub,Nat.reduceLeDiff,Nat.reduceLT,implies_true];exact zql rfl rfl
       rintro v H' nx' ⟨rfl,γ',junk',rfl,rfl⟩
       have e:path++[b]++junk'=path++(b::junk'):=by simp
       rw[e];simp only[zeq]
       (refine Qag ?_;intros)
       exact⟨(γ',b::junk'),Ent.lowB (by decide) (zna rfl (congrArg some zuN) rfl rfl rfl) (zge (by decide) _ (.cons (by decide) (mapB fun p=>.int _ _) (.nil 5))) ⟨⟨rfl,.own _ _ _ _ _ (by decide)⟩,⟨rfl,.ptr _ _ _ _ _ (by decide)⟩,⟨rfl,.own _ _ _ _ _ (by decide)⟩,⟨rfl,.int _ _⟩,⟨rfl,.int _ _⟩,⟨rfl,.bool _⟩,trivial⟩⟩
      ·
       rw[zBA]
       (refine Qa ?_;intros)
       refine⟨by kernel_rfl,?_⟩;refine zbr [(0,0,0),(1,1,0),(2,6,0),(3,3,0)] 4 _ (hcal [] 0) rfl rfl ?_ ?_ ?_
       · simp only[evWB,Nat.reduceBEq,Nat.reduceAdd,Nat.reduceSub,Nat.reduceLeDiff,Nat.reduceLT,implies_true,zeq];exact⟨RowV.of_flat (zfS fun _=>rfl),zql rfl rfl⟩
       · simp only[evWB,Nat.reduceBEq,Nat.reduceAdd,Nat.reduceSub,Nat.reduceLeDiff,Nat.reduceLT,implies_true];exact zql rfl rfl
       rintro v H' nx' ⟨rfl,γ',junk',rfl,rfl⟩;simp only[zeq]
       (refine Qag ?_;intros)
       exact⟨(γ',junk1),Ent.lowB (by decide) (zna rfl (congrArg some zuN) rfl rfl rfl) (zge (by decide) _ (.cons (by decide) (mapB fun p=>.int _ _) (.nil 5))) ⟨⟨rfl,.own _ _ _ _ _ (by decide)⟩,⟨rfl,.ptr _ _ _ _ _ (by decide)⟩,⟨rfl,.own _ _ _ _ _ (by decide)⟩,⟨rfl,.int _ _⟩,⟨rfl,.int _ _⟩,⟨rfl,.bool _⟩,trivial⟩⟩
    ·
     rintro⟨γ',junk'⟩ - wf;clear wf;unfold zf0;have hRl:=zkK ⟨ad,l⟩ most f (path++[b]) out1 ho1;generalize zbk ⟨ad,l⟩ most f (path++[b]) out1=R at hgo hRl ⊢;obtain⟨ok,out2⟩:=R;simp only[zeq,Wd,We] at hgo hRl ⊢
     cases ok with
     |
      true =>
      rw[if_pos rfl] at hgo
      (refine Qa ?_;intros)
      exact⟨(i+1,out2,γ',junk'),⟨hil,hRl rfl,hgo⟩,by dsimp only;omega,Ent.lowB (by decide) (zna rfl rfl rfl rfl rfl) (zge (by decide) _ (.cons (by decide) (mapB fun p=>.int _ _) (.nil 5))) ⟨⟨rfl,.own _ _ _ _ _ (by decide)⟩,⟨rfl,.ptr _ _ _ _ _ (by decide)⟩,⟨rfl,.own _ _ _ _ _ (by decide)⟩,⟨rfl,.int _ _⟩,⟨rfl,.int _ _⟩,trivial⟩⟩
     |
      false =>
      rw[if_neg (by decide)] at hgo;rw[←hgo] at hQ
      (refine Qah ?_;intros)
      exact retF (γ:=0) (γ':=γ') (out:=out2) (junk:=junk') (zqh rfl rfl rfl rfl) (hQ _ _)
   ·
    obtain rfl:i=C.length:=by omega
    rw[List.drop_length,ze3] at hgo;rw[←hgo] at hQ
    (refine Qk ?_;intros)
    unfold zgs
    (refine Qah ?_;intros)
    exact retF (γ:=0) (γ':=γ1) (out:=out1) (junk:=junk1) (zqh rfl rfl rfl rfl) (hQ _ _)
theorem zpQ (c1 c2:AV) (cs:List Int) (h1:c1.flat0=true) (h2:c2.flat0=true):z7 Tryz.prog zjg [.agg [c1,c2],encL 1 cW cs] [] 0 (fun v H nx=>v=.fn (.func zbu) [.iptr 1 fun j=>[encL 1 cW cs].getD j .undef,.iptr 2 fun j=>[c1,c2].getD j .undef]∧H=[]∧nx=0):=by
 refine fn_x zqP rfl ?_;unfold zk6;have hB:=hBig
 (repeat first|simp(disch:=try exact dis1) only[evD,Nat.reduceBEq,Nat.reduceAdd,Nat.reduceLeDiff,za,zlF,h1,h2,Wh]|with_reducible first|intro _|refine aJ ?_)
def valW (s:Nat × Option Nat × Nat):Int:=((s.2.1.getD 0:Nat):Int)
def zf7 (g:G) (cs:List Int) (most:Int):List Int:=itv (znc g cs) valW most.toNat (most.toNat,some 0,0)
theorem zt1 {g:G} {cs:List Int}:∀ {k:Nat} {s0 s:Nat × Option Nat × Nat},itn (znc g cs) k s0=some s→s.1=s0.1 - k
 | 0,s0,s,h=>by cases h;rfl
 |
  k+1,(f,some b,j),s,h=>by
  simp only[itn,znc] at h;have:=zt1 h;simp only at this ⊢;omega
 | k+1,(f,none,j),s,h=>by simp[itn,znc] at h
theorem zkn (g:G) (cs:List Int) (most:Int) (hf:manyB g) (hc:∀b∈g.blocks,∀s∈b.stmts,s.cases.length≤100000000) (hcs:cs.length≤1000000) (hm:most≤1000000∨65536 < most) (hw:∀c∈cs,0≤c∧c < 4294967296) (hG:zbz g=0→OkG g) :
  zl Tryz.prog za8 [.agg g.cells,encL 1 cW cs,.int .i64 most] (·=if zbz g≠0 then .tup [za [],.int .i64 (zbz g)] else if 65536 < most then .tup [za [],.int .i64 6] else .tup [za (zf7 g cs most),.int .i64 0]):=by
 refine fn_x zoQ rfl ?_;unfold zkj;have hB:=hBig;have hck:=zhI g hf hc
 have hwk:=fun h1 h2=>zpQ (.int .u32 g.addr) (encL 2 Bl.cells g.blocks) cs h1 h2
 have hit:=fun h n hn=>znH g cs (hG h) hcs hw n hn
 generalize hE:zbz g=e at hck hit ⊢;simp only[G.cells] at hck hit ⊢
 (refine Ql ?_;intros)
 refine zc (zg hck rfl) ?_
 by_cases h0:e=0
 ·
  subst h0;have hOK:=hG hE
  by_cases h1:65536 < most
  ·
   (repeat first|simp(disch:=try exact dis1) only[evD,Nat.reduceBEq,Nat.reduceAdd,Nat.reduceLeDiff,dT,dF,zeL]|with_reducible first|intro _|refine aJ ?_)
   refine⟨.tup [za [],.int .i64 6],.tup _ _ _ rfl (fun j x y h1 h2=>match j with
    | 0=>by cases h1;cases h2;exact zaL (l:=[]) trivial rfl (by simp only[Wa];omega)
    | 1=>by cases h1;cases h2;exact .int _ _ _
    | j+2=>by cases h1),?_⟩
   rw[if_neg (by simp),if_pos h1]
  ·
   (refine Qk ?_;intros)
   refine zvN (hwk rfl rfl) (zom rfl) ?_;rintro v H' nx' ⟨rfl,rfl,rfl⟩;simp only[AV.ren,Wu,WA,AH.plus,Nat.add_zero]
   (refine Qa ?_;intros)
   have hlend:∀H:AH,Lend H noR [AV.fn (.func zbu) [.iptr 1 fun j=>[encL 1 cW cs].getD j .undef,.iptr 2 fun j=>[.int .u32 g.addr,encL 2 Bl.cells g.blocks].getD j .undef],.int .i64 most] [AV.fn (.func zbu) [.iptr 1 fun j=>[encL 1 cW cs].getD j .undef,.iptr 2 fun j=>[.int .u32 g.addr,encL 2 Bl.cells g.blocks].getD j .undef],.int .i64 most]:=fun H=>by
    refine .cons (.fn _ _ _ _ rfl fun i a b h1 h2=>?_) (.cons (.int _ _ _) .nil);rw[h1] at h2;cases h2
    match i with
    | 0=>cases h1;exact .iptr _ _ _
    | 1=>cases h1;exact .iptr _ _ _
    | i+2=>simp at h1
   have hcaps:∀c∈[AV.iptr 1 fun j=>[encL 1 cW cs].getD j .undef,.iptr 2 fun j=>[AV.int .u32 g.addr,encL 2 Bl.cells g.blocks].getD j .undef],AV.Below 0 c:=fun c hc=>by
    rcases Wn.1 hc with h|hc
    · rw[h];exact .iptr _ _
    · rw[Wc.1 hc];exact .iptr _ _
   have hgood:zc0 Tryz.prog zbu=true:=by kernel_rfl
   have hval:∀s x s',znc g cs s=some (x,s')→x=[.int .i64 (valW s)]:=by
    rintro⟨k,b,j⟩ x s' h
    cases b with
    | none=>simp[znc] at h
    | some b=>simp only[znc,Ww,Wz] at h;rw[←h.1];rfl
   have hfirst:zl Tryz.prog zcS [AV.fn (.func zbu) [.iptr 1 fun j=>[encL 1 cW cs].getD j .undef,.iptr 2 fun j=>[.int .u32 g.addr,encL 2 Bl.cells g.blocks].getD j .undef],.int .i64 most] (·=za (zf7 g cs most)):=by
    by_cases hp:0 < most.toNat
    · exact zke hgood hcaps (hit rfl _ hp) valW hval most (by omega) fun k s hk hs=>by have e:=zt1 hs;exact .inr (by rw[e];simp only;omega)
    ·
     have e0:most.toNat=0:=by omega
     have:=zke hgood hcaps (hit rfl 1 (by omega)) valW hval most (by omega) fun k s hk hs=>by omega
     unfold zf7;rw[e0] at this ⊢;exact this
   refine zc (zM hfirst (hlend _) (.inr fun _ _ h=>h)) ?_
   (repeat first|simp(disch:=try exact dis1) only[evD,Nat.reduceBEq,Nat.reduceAdd,Nat.reduceLeDiff,zeL]|with_reducible first|intro _|refine aJ ?_)
   refine⟨.tup [za (zf7 g cs most),.int .i64 0],.tup _ _ _ rfl (fun j x y h1 h2=>match j with
    | 0=>by cases h1;cases h2;exact .sl _ _ _ _
    | 1=>by cases h1;cases h2;exact .int _ _ _
    | j+2=>by cases h1),?_⟩
   rw[if_neg (by simp),if_neg h1]
 ·
  (repeat first|simp(disch:=try exact dis1) only[evD,Nat.reduceBEq,Nat.reduceAdd,Nat.reduceLeDiff,dT,zeL]|with_reducible first|intro _|refine aJ ?_)
  refine⟨.tup [za [],.int .i64 e],.tup _ _ _ rfl (fun j x y h1 h2=>match j with
   | 0=>by cases h1;cases h2;exact zaL (l:=[]) trivial rfl (by simp only[Wa];omega)
   | 1=>by cases h1;cases h2;exact .int _ _ _
   | j+2=>by cases h1),?_⟩
  rw[if_pos h0]
def zmK (l:List (List Int)):AV:=encL 1 cP l
def zuT (g:G) (most:Int):List (List Int) :=
 if zbz g≠0 then [] else if 65536 < most then [] else if most≤0 then [[]] else
 if (zbk g most (most.toNat - 1) [0] []).1 then (zbk g most (most.toNat - 1) [0] []).2 else []
theorem zut {H H2:AH} {σ:Nat→Nat→Option (Nat × Nat × Nat)} {D:Nat→Nat→Prop} {t:Bool} {r q g:Nat} {l:List (List Int)} (hD:D r q) (hg:H.get r q=some (.row 1 (l.map cP) g)) (hl:l.length≤big):Vw H H2 σ D t (.own r q g 0 l.length) (zmK l):=by
 refine .frz t r q g 0 l.length 1 _ _ hD hg hl (by simp) fun i j hi hj=>?_
 rw[Nat.zero_add];have e:(l.map cP).getD i []=cP l[i]:=zm (f:=cP) hi;show Vw _ _ _ _ _ (((l.map cP).getD i []).getD j .undef) (((l.map cP).getD i []).getD j .undef);rw[e]
 obtain rfl:j=0:=by omega
 exact .sl _ _ _ _
theorem Qai {p q:Prop}(k:q)(h:Im q p:=by(repeat first|simp(disch:=try exact dis1) only[evD,Nat.reduceBEq,Nat.reduceAdd,Nat.reduceLeDiff,dT,zcj] | ((with_reducible apply Im.i);intro _) | ((with_reducible apply Im.a);omega));exact Im.r):p:=h k
theorem zoW (g:G) (most:Int) (hf:manyB g) (hc:∀b∈g.blocks,∀s∈b.stmts,s.cases.length≤1000) (hm:most≤1000∨65536 < most) (hG:zbz g=0→OkG g) :
  zl Tryz.prog zfV [.agg g.cells,.int .i64 most] (·=zmK (zuT g most)):=by
 refine fn_x zoR rfl ?_;unfold zks;have hB:=hBig;have hgr:=zkn g [] most hf (fun b hb s hs=>Wq (hc b hb s hs) (by decide)) (by simp) (by omega) (fun c hc=>by cases hc) hG
 have hlend:∀H:AH,Lend H noR [.agg g.cells,.nilsl,.int .i64 most] [.agg g.cells,encL 1 cW [],.int .i64 most]:=fun H=>.cons (zal rfl) (.cons (.nil0 _ _ _) (.cons (.int _ _ _) .nil))
 have retE:∀(H:AH) (r γ:Nat),H.get r 0=some (.row 1 [] γ)→∃a,Frz H (.own r 0 γ 0 0) a∧a=zmK []:=fun H r γ h=>⟨_,zut (l:=[]) trivial h (by simp only[Wa];omega),rfl⟩
 unfold zuT
 by_cases h0:zbz g=0
 case neg =>
  rw[if_pos h0] at hgr ⊢;simp only[G.cells] at hgr hlend ⊢
  (refine Ql ?_;intros)
  refine zc (zM hgr (hlend _) (.inr fun _ _ h=>h)) ?_
  (refine Qai ?_;intros)
  exact retE _ _ _ rfl
 rw[if_neg (fun h=>h h0)] at hgr ⊢
 by_cases h1:65536 < most
 ·
  rw[if_pos h1] at hgr ⊢;simp only[G.cells] at hgr hlend ⊢
  (refine Ql ?_;intros)
  refine zc (zM hgr (hlend _) (.inr fun _ _ h=>h)) ?_
  (refine Qai ?_;intros)
  exact retE _ _ _ rfl
 rw[if_neg h1] at hgr ⊢
 by_cases h2:most≤0
 ·
  rw[if_pos h2];simp only[G.cells] at hgr hlend ⊢
  (refine Ql ?_;intros)
  refine zc (zM hgr (hlend _) (.inr fun _ _ h=>h)) ?_
  (repeat first|simp(disch:=try exact dis1) only[evD,Nat.reduceBEq,Nat.reduceAdd,Nat.reduceLeDiff,dT,dF,zcj]|with_reducible first|intro _|refine aJ ?_)
  refine⟨zmK [[]],.frz _ 1 0 0 0 1 1 [[.nilsl]] _ trivial rfl (by omega) (by decide) fun i j hi hj=>?_,rfl⟩
  obtain rfl:i=0:=by omega
  obtain rfl:j=0:=by omega
  exact .nil0 _ _ _
 rw[if_neg h2]
 have hcl:∀b∈g.blocks,(zx b.stmts).length≤1000:=fun b hb=>zf4 (by decide) (hc b hb)
 have hfo:=znj g (hG h0) hcl most (by omega) (most.toNat - 1) [0] [] [] 0 0 (by simp;omega) (by simp) (fun b hb=>by
  rw[Wc.1 hb]
  exact⟨Int.le_refl _,by have:=(hG h0).pos;omega⟩) (by simp)
 have hRl:=zkK g most (most.toNat - 1) [0] [] (by simp);generalize zbk g most (most.toNat - 1) [0] []=R at hfo hRl ⊢;simp only[G.cells] at hgr hlend ⊢
 (refine Ql ?_;intros)
 refine zc (zM hgr (hlend _) (.inr fun _ _ h=>h)) ?_
 (refine Qi ?_;intros)
 refine⟨by kernel_rfl,zbr [(0,1,0),(2,3,0),(3,2,0)] 4 _ (hfo (fun v H nx=>v=.bool R.1∧∃γ' junk',H=zeq g most γ' 0 R.2 ([0]++junk')∧nx=4) (fun γ' junk'=>⟨rfl,γ',junk',rfl,rfl⟩)) rfl rfl ?_ ?_ ?_⟩
 · simp only[evWB,Nat.reduceBEq,Nat.reduceAdd,Nat.reduceSub,Nat.reduceLeDiff,Nat.reduceLT,implies_true,zeq];exact⟨⟨1,rfl⟩,.iptr _ _ _,.iptr _ _ _,.ptr _ _ _ 0 _ _ _ _ _ rfl rfl,.ptr _ _ _ 0 _ _ _ _ _ rfl rfl,trivial⟩
 · simp only[evWB,Nat.reduceBEq,Nat.reduceAdd,Nat.reduceSub,Nat.reduceLeDiff,Nat.reduceLT,implies_true,zl8];exact .iptr _ _ _
 rintro v H' nx' ⟨rfl,γ',junk',rfl,rfl⟩;simp only[zeq]
 (repeat first|simp(disch:=try exact dis1) only[evD,Nat.reduceBEq,Nat.reduceAdd,Nat.reduceLeDiff,zl8,zuN]|with_reducible first|intro _|refine aJ ?_)
 obtain⟨ok,out⟩:=R
 cases ok with
 |
  true =>
  (repeat first|simp(disch:=try exact dis1) only[evD,Nat.reduceBEq,Nat.reduceAdd,Nat.reduceLeDiff,zuN,zcj]|with_reducible first|intro _|refine aJ ?_)
  have hol:out.length≤1024:=hRl rfl;refine⟨zmK out,zut trivial rfl (by omega),?_⟩;rw[if_pos (by trivial)]
 |
  false =>
  (repeat first|simp(disch:=try exact dis1) only[evD,Nat.reduceBEq,Nat.reduceAdd,Nat.reduceLeDiff,zcj]|with_reducible first|intro _|refine aJ ?_)
  rw[if_neg (by decide)];exact retE _ _ _ rfl
theorem zx7 {g:G} (hm:midG g) (h:zbz g=0):OkG g:=by
 have h0:=zmu h;have hfull:=zoq h0;unfold zmC at h0;split at h0
 case isFalse=>cases h0
 rename_i h1;rw[Wr,WJ] at h1;refine⟨?_,Wq hm.blocks (by decide),fun b hb=>?_,fun b hb=>Wq (hm.stmts b hb).1 (by decide),fun b hb=>Wq (zf4 (by decide) (hm.stmts b hb).2) (by decide),fun b hb t ht=>?_⟩
 ·
  cases hb:g.blocks with
  | nil=>rw[hb] at h1;simp at h1
  | cons a l=>simp
 · have:=hfull b hb;omega
 · have h2:=h1.2 b hb;unfold zdq at h2;rw[Wr,Wr,WJ] at h2;have h3:=h2.2.2 t ht;unfold inN at h3;rw[decide_eq_true_eq] at h3;exact h3
theorem zuE (g:G) (cs:List Int) (most:Int) (hm:midG g) (hcs:cs.length≤1000000) (hmo:most≤1000000∨65536 < most) (hw:∀c∈cs,0≤c∧c < 4294967296) :
  zl Tryz.prog za8 [.agg g.cells,encL 1 cW cs,.int .i64 most] (·=if zbz g≠0 then .tup [za [],.int .i64 (zbz g)] else if 65536 < most then .tup [za [],.int .i64 6] else .tup [za (zf7 g cs most),.int .i64 0]) :=
 zkn g cs most (zjD hm) (zpl hm) hcs hmo hw (zx7 hm)
theorem zzK (g:G) (most:Int) (hm:midG g) (hmo:most≤1000∨65536 < most):zl Tryz.prog zfV [.agg g.cells,.int .i64 most] (·=zmK (zuT g most)) :=
 zoW g most (zjD hm) (fun b hb s hs=>Wq ((hm.stmts b hb).2 s hs) (by decide)) hmo (zx7 hm)
def gA:G:=⟨0,[⟨0,[zmc 1 2]⟩,⟨0,[stX 6 3 0 []]⟩,⟨0,[stX 6 3 0 []]⟩,⟨0,[stX 9 0 0 []]⟩]⟩
def hA:G:=⟨0,[⟨0,[stX 6 1 0 []]⟩,⟨0,[zmc 2 3]⟩,⟨0,[stX 6 1 0 []]⟩,⟨0,[stX 10 0 0 []]⟩]⟩
def oneA:G:=⟨0,[⟨0,[stX 10 0 0 []]⟩]⟩
def ndX (kind:Int) (l:List Nd):Nd:=.mk ⟨kind,0,0⟩ [] l
def zzg:Nd:=ndX 1 [ndX 4 [ndX 1 []],ndX 2 []]
theorem zwJ {g:G} (h:zit g 8=true):midG g:=zpc h
theorem ztq:zbz gA=0∧zf7 gA [] 9=[0,1,3]∧zf7 gA [3] 9=[0,2,3]∧zf7 gA [] 2=[0,1]∧zuT gA 9=[[0,1,3],[0,2,3]]:=by decide +kernel
theorem hA_ok:zbz hA=0∧zf7 hA [0,0,1] 20=[0,1,2,1,2,1,3]:=by decide +kernel
theorem midA:zit gA 8=true∧zit hA 8=true∧zit oneA 8=true:=by decide +kernel
theorem zrs:zk9 oneA zzg=0∧zgl (zch zzg).st [] 5=15∧zk9 oneA (ndX 2 [])=0∧zgl (zch (ndX 2 [])).st [] 5=0∧zl9 (zch (ndX 2 [])).st [] 5=[0]:=by decide +kernel
theorem zl3 (b:Bl) (hl:b.stmts.length≤1000000):zl Tryz.prog ze5 [.agg b.cells] (·=za (zx b.stmts)):=by
 refine fn_x zmj rfl ?_;unfold zhR;have hB:=hBig;obtain⟨ad,l⟩:=b;simp only at hl;simp only[Bl.cells];unfold zx
 by_cases h0:l.length=0
 ·
  obtain rfl:l=[]:=List.eq_nil_of_length_eq_zero h0
  (repeat first|simp(disch:=try exact dis1) only[evD,Nat.reduceBEq,Nat.reduceAdd,Nat.reduceLeDiff,fldP,dT,Wa,zeI]|with_reducible first|intro _|refine aJ ?_)
  exact⟨_,zaL (l:=[]) trivial rfl (by simp only[Wa];omega),rfl⟩
 ·
  have hi:l.length - 1 < l.length:=by omega
  have hg:=zm (f:=St.cells) (d:=[]) hi;have hw1:IntKind.i64.wrap ((l.length:Int) - 1)=(l.length:Int) - 1:=zld (by omega) (by omega)
  have hidx:(((l.length:Nat):Int) - 1).toNat=l.length - 1:=by omega
  have hla:l.getLast? = some l[l.length - 1]:=by rw[WE,WF hi]
  rw[hla];have ht:=zj5 l[l.length - 1];generalize l[l.length - 1]=s at hg ht;obtain⟨op,var,width,next,els,tgt,e,cases⟩:=s;simp only[St.cells] at hg ht
  (repeat first|simp(disch:=try exact dis1) only[evD,Nat.reduceBEq,Nat.reduceAdd,Nat.reduceLeDiff,fldP,dF,hw1,hidx,hg,za]|with_reducible first|intro _|refine aJ ?_)
  refine zc (zg ht rfl) ?_
  (repeat first|simp(disch:=try exact dis1) only[evD,Nat.reduceBEq,Nat.reduceAdd,Nat.reduceLeDiff,zeI]|with_reducible first|intro _|refine aJ ?_)
  exact⟨_,.sl _ _ _ _,rfl⟩
def ziR (g:G) (cs:List Int):Nat→Option Nat→Nat→List Int
 | 0,_,_=>[]
 | _+1,none,_=>[]
 | k+1,some b,j=>(b:Int)::ziR g cs k (zek g cs b j).1 (zek g cs b j).2
theorem zum (g:G) (cs:List Int):∀(k n:Nat) (b:Option Nat) (j:Nat),itv (znc g cs) valW k (n,b,j)=ziR g cs k b j
 | 0,n,b,j=>rfl
 | k+1,n,none,j=>rfl
 |
  k+1,n,some b,j=>by
  rw[ziR,itv];simp only[znc];rw[show (zek g cs b j)=((zek g cs b j).1,(zek g cs b j).2) from rfl,zum g cs k];rfl
theorem zsX (g:G) (cs:List Int) (most:Int):zf7 g cs most=ziR g cs most.toNat (some 0) 0:=zum g cs _ _ _ _
theorem zsf (g:G) (cs:List Int):∀(k:Nat) (b:Option Nat) (j:Nat),(ziR g cs k b j).length≤k
 | 0,_,_=>by rw[ziR];exact Wf _
 | k+1,none,_=>by rw[ziR];exact Wg _
 | k+1,some b,j=>by rw[ziR,Wi];have:=zsf g cs k (zek g cs b j).1 (zek g cs b j).2;omega
theorem zm9 {g:G} {cs:List Int} {most:Int} {l:List Int} (hm:zit g 8=true) (h0:zbz g=0) (hcs:cs.length≤1000000) (hmo:most≤65536) (hw:∀c∈cs,0≤c∧c < 4294967296) (ht:zf7 g cs most=l) :
  zl Tryz.prog za8 [.agg g.cells,encL 1 cW cs,.int .i64 most] (·=.tup [za l,.int .i64 0]):=by
 have:=zuE g cs most (zwJ hm) hcs (.inl (by omega)) hw;rw[if_neg (fun h=>h h0),if_neg (by omega),ht] at this;exact this
theorem lend3 {H:AH} {a:AV} {n:Int} (h:a.flat=true):Lend H noR [a,.nilsl,.int .i64 n] [a,encL 1 cW [],.int .i64 n]:=.cons (zal h) (.cons (.nil0 _ _ _) (.cons (.int _ _ _) .nil))
theorem zsF {H:AH} {op next els:Int}:Lend H noR [.agg [.int .i64 op,.int .i64 0,.int .i64 0,.int .i64 next,.int .i64 els,.int .u32 0,.nilsl,.nilsl]] [.agg (St.cells (stX op next els []))]:=by
 refine .cons (.agg _ _ _ rfl fun i a b h1 h2=>?_) .nil
 match i with
 | 0=>cases h1;cases h2;exact .int _ _ _
 | 1=>cases h1;cases h2;exact .int _ _ _
 | 2=>cases h1;cases h2;exact .int _ _ _
 | 3=>cases h1;cases h2;exact .int _ _ _
 | 4=>cases h1;cases h2;exact .int _ _ _
 | 5=>cases h1;cases h2;exact .int _ _ _
 | 6=>cases h1;cases h2;exact .nil0 _ _ _
 | 7=>cases h1;cases h2;exact .nil0 _ _ _
 | i+8=>cases h1
theorem zlP (A:List Int):zl Tryz.prog zbc [za A,za A] (·=.bool true):=by have:=zn9 A A;rw[decide_eq_true rfl] at this;exact this
theorem zwv {g:G} {e:Nd} {most:Int} {v:AV} (hm:zit g 8=true) (hs:zav e≤1000) (ht:zrx g e [] most=v):zl Tryz.prog ze0 [.agg (encN e),.agg g.cells,encL 1 cW [],.int .i64 most] (·=v):=by have:=zp6 g (zwJ hm) e hs [] most (by simp) (fun c hc=>by cases hc);rw[ht] at this;exact this
theorem zAh {H:AH} {D:Nat→Nat→Prop} {t:Bool} {kd bl lb:Int} {x:AV} {L:List Nd} (hx:Vw H [] nos D t x (encL 5 encN L)) (j:Nat) (hj:j < 5):Vw H [] nos D t ([AV.int .i64 kd,.int .i64 bl,.int .i64 lb,.nilsl,x].getD j .undef) ((encN (.mk ⟨kd,bl,lb⟩ [] L)).getD j .undef):=by
 rw[zex]
 match j with
 | 0=>exact .int _ _ _
 | 1=>exact .int _ _ _
 | 2=>exact .int _ _ _
 | 3=>exact .nil0 _ _ _
 | 4=>exact hx
 | j+5=>omega
theorem aggN {H:AH} {D:Nat→Nat→Prop} {t:Bool} {kd bl lb:Int} {x:AV} {L:List Nd} (hx:Vw H [] nos D t x (encL 5 encN L)):Vw H [] nos D t (.agg [AV.int .i64 kd,.int .i64 bl,.int .i64 lb,.nilsl,x]) (.agg (encN (.mk ⟨kd,bl,lb⟩ [] L))):=by
 refine .agg _ _ _ (by rw[zbR];rfl) fun i a b h1 h2=>?_
 have hi:i < 5:=(List.getElem?_eq_some_iff.1 h1).1;have h3:=zAh (kd:=kd) (bl:=bl) (lb:=lb) hx i hi;rw[WK,WK,h1,h2] at h3;exact h3
theorem lendI {H:AH} {f1 f2:Nat→Nat→AV} (h1:∀j,f1 0 j=[AV.int .i64 1,.int .i64 0,.int .i64 0,.nilsl,.nilsl].getD j .undef) (h20:∀j,f2 0 j=[AV.int .i64 4,.int .i64 0,.int .i64 0,.nilsl,.sl 5 1 f1].getD j .undef) (h21:∀j,f2 1 j=[AV.int .i64 2,.int .i64 0,.int .i64 0,.nilsl,.nilsl].getD j .undef) {g:AV} (hg:g.flat=true) {n:Int} :
  Lend H noR [.agg [AV.int .i64 1,.int .i64 0,.int .i64 0,.nilsl,.sl 5 2 f2],g,.nilsl,.int .i64 n] [.agg (encN zzg),g,encL 1 cW [],.int .i64 n]:=by
 refine .cons (aggN (.slf _ _ _ _ _ fun i j hi hj=>?_)) (.cons (zal hg) (.cons (.nil0 _ _ _) (.cons (.int _ _ _) .nil)))
 match i with
 |
  0 =>
  rw[h20];refine zAh (kd:=4) (bl:=0) (lb:=0) (L:=[ndX 1 []]) (.slf _ _ _ _ _ fun i j hi hj=>?_) j hj
  obtain rfl:i=0:=by have:i < 1:=hi;omega
  rw[h1];exact zAh (kd:=1) (bl:=0) (lb:=0) (L:=[]) (.nil0 _ _ _) j hj
 |
  1 =>
  rw[h21];exact zAh (kd:=2) (bl:=0) (lb:=0) (L:=[]) (.nil0 _ _ _) j hj
 | i+2=>omega
theorem Qp {p q:Prop}(k:q)(h:Im q p:=by(repeat first|simp(disch:=try exact dis1) only[evD,Nat.reduceBEq,Nat.reduceAdd,Nat.reduceLeDiff,Bl.cells,zZ,zr,zap,zaO,zaR,zbD,Bool.and_self,List.all_cons,List.all_nil] | ((with_reducible apply Im.i);intro _) | ((with_reducible apply Im.a);omega));exact Im.r):p:=h k
theorem zkT:zl Tryz.prog zbI [] (·=.bool true):=by
 refine fn_x zkQ rfl ?_;unfold zgB;have hB:=hBig;have e1:=zfX (zmc 1 2);have e2:=zfX (stX 6 3 0 []);have e3:=zfX (stX 9 0 0 []);have e4:=zfX (stX 6 1 0 []);have e5:=zfX (zmc 2 3);have e6:=zfX (stX 10 0 0 [])
 have d2:decide (((2:Nat):Int)=2)=true:=by decide
 have no:∀r q,¬noR r q:=fun _ _ h=>h
 (refine Qa ?_;intros)
 refine zc (zg (zlB 1 2) rfl) ?_
 (refine Qa ?_;intros)
 refine zc (zg e1 rfl) ?_
 (refine Qa ?_;intros)
 refine zc (zM e2 zsF (.inr no)) ?_
 (refine Qa ?_;intros)
 refine zc (zM e2 zsF (.inr no)) ?_
 (refine Qa ?_;intros)
 refine zc (zM e3 zsF (.inr no)) ?_
 (refine Qp ?_;intros)
 refine zc (zM e4 zsF (.inr no)) ?_
 (refine Qa ?_;intros)
 refine zc (zg (zlB 2 3) rfl) ?_
 (refine Qa ?_;intros)
 refine zc (zg e5 rfl) ?_
 (refine Qa ?_;intros)
 refine zc (zM e4 zsF (.inr no)) ?_
 (refine Qa ?_;intros)
 refine zc (zM e6 zsF (.inr no)) ?_
 (refine Qp ?_;intros)
 have hw0:∀c∈([]:List Int),0≤c∧c < 4294967296:=fun c hc=>by cases hc
 have g1:=zm9 (g:=gA) (cs:=[]) (most:=9) midA.1 ztq.1 (by decide) (by decide) hw0 ztq.2.1;have g2:=zm9 (g:=gA) (cs:=[3]) (most:=9) midA.1 ztq.1 (by decide) (by decide) (by simp) ztq.2.2.1;have g3:=zm9 (g:=gA) (cs:=[]) (most:=2) midA.1 ztq.1 (by decide) (by decide) hw0 ztq.2.2.2.1;have g4:=zm9 (g:=hA) (cs:=[0,0,1]) (most:=20) midA.2.1 hA_ok.1 (by decide) (by decide) (by simp) hA_ok.2;refine zc (zM g1 (lend3 rfl) (.inr no)) ?_
 (refine Qp ?_;intros)
 refine zc (zg g2 rfl) ?_
 (refine Qp ?_;intros)
 refine zc (zM g3 (lend3 rfl) (.inr no)) ?_
 (refine Qp ?_;intros)
 refine zc (zg g4 rfl) ?_
 (refine Qp ?_;intros)
 have p1:=zzK gA 9 (zwJ midA.1) (by decide);rw[ztq.2.2.2.2] at p1;refine zc (zg p1 rfl) ?_
 (refine Qp ?_;intros)
 refine zc (zM e6 zsF (.inr no)) ?_
 (refine Qp ?_;intros)
 have n1:=zwv (g:=oneA) (e:=zzg) (most:=5) (v:=.tup [za [],.int .i64 15]) midA.2.2 (by decide +kernel) (by unfold zrx;rw[if_neg (fun h=>h zrs.1),if_neg (by decide),show Wv 5=5 from rfl,zrs.2.1];rfl);have n2:=zwv (g:=oneA) (e:=ndX 2 []) (most:=5) (v:=.tup [za [0],.int .i64 0]) midA.2.2 (by decide +kernel) (by unfold zrx;rw[if_neg (fun h=>h zrs.2.2.1),if_neg (by decide),show Wv 5=5 from rfl,zrs.2.2.2.1,zrs.2.2.2.2];rfl);refine zc (zM n1 (lendI (fun _=>rfl) (fun _=>rfl) (fun _=>rfl) rfl) (.inr no)) ?_
 (refine Qp ?_;intros)
 refine zc (zM n2 (.cons (aggN (.nil0 _ _ _)) (.cons (zal rfl) (.cons (.nil0 _ _ _) (.cons (.int _ _ _) .nil)))) (.inr no)) ?_
 (refine Qp ?_;intros)
 refine zc (zg (zlP [0,1,3]) rfl) ?_
 (repeat first|simp(disch:=try exact dis1) only[evD,Nat.reduceBEq,Nat.reduceAdd,Nat.reduceLeDiff,Bl.cells,zZ,zr,zap,zaO,zaR,zbD,Wh,Wl,Wm,zmK,za,d2,zaw]|with_reducible first|intro _|refine aJ ?_)
 refine zc (zg (zlP [0,2,3]) rfl) ?_
 (repeat first|simp(disch:=try exact dis1) only[evD,Nat.reduceBEq,Nat.reduceAdd,Nat.reduceLeDiff,Bl.cells,zZ,zr,zap,zaO,zaR,zbD,Wh,Wl,Wm,zmK,za,d2,zaw]|with_reducible first|intro _|refine aJ ?_)
 refine zc (zg (zlP [0,1]) rfl) ?_
 (repeat first|simp(disch:=try exact dis1) only[evD,Nat.reduceBEq,Nat.reduceAdd,Nat.reduceLeDiff,Bl.cells,zZ,zr,zap,zaO,zaR,zbD,Wh,Wl,Wm,zmK,za,d2,zaw]|with_reducible first|intro _|refine aJ ?_)
 refine zc (zg (zlP [0,1,2,1,2,1,3]) rfl) ?_
 (repeat first|simp(disch:=try exact dis1) only[evD,Nat.reduceBEq,Nat.reduceAdd,Nat.reduceLeDiff,Bl.cells,zZ,zr,zap,zaO,zaR,zbD,Wh,Wl,Wm,zmK,za,d2,zaw]|with_reducible first|intro _|refine aJ ?_)
 refine zc (zg (zlP [0,2,3]) rfl) ?_
 (repeat first|simp(disch:=try exact dis1) only[evD,Nat.reduceBEq,Nat.reduceAdd,Nat.reduceLeDiff,Bl.cells,zZ,zr,zap,zaO,zaR,zbD,Wh,Wl,Wm,zmK,za,d2,zaw]|with_reducible first|intro _|refine aJ ?_)
 refine zc (zg (zlP [0]) rfl) ?_
 (repeat first|simp(disch:=try exact dis1) only[evD,Nat.reduceBEq,Nat.reduceAdd,Nat.reduceLeDiff,Bl.cells,zZ,zr,zap,zaO,zaR,zbD,Wh,Wl,Wm,zmK,za,d2,zaw]|with_reducible first|intro _|refine aJ ?_)
 exact⟨_,.bool _ _,rfl⟩
theorem zsD {g:G} {cs:List Int} {most:Int} (h:znI g cs most=true):midG g∧g.blocks.length≤20∧cs.length≤40∧most≤60:=by unfold znI at h;rw[Wr,Wr,Wr,decide_eq_true_eq,decide_eq_true_eq,decide_eq_true_eq] at h;exact⟨zpc h.2.1,h.1,h.2.2.1,h.2.2.2⟩
theorem ztF {g:G} {cs:List Int} {b j:Nat} (h:(zek g cs b j).1=none):(zx (blkG g b).stmts).length=0:=by
 unfold zek at h;simp only at h;split at h
 · assumption
 · split at h<;>cases h
theorem zsU {g:G} (hg:OkG g) {cs:List Int} {b j b':Nat} (hb:b < g.blocks.length) (h:(zek g cs b j).1=some b'):(b':Int)∈zx (blkG g b).stmts∧b' < g.blocks.length:=by
 have hbk:blkG g b=g.blocks[b]:=by simp[blkG,hb]
 have htg:=hg.tgt _ (Wp hb);unfold zek at h;rw[hbk] at h ⊢;simp only at h;generalize zx g.blocks[b].stmts=T at h htg ⊢
 have key:∀i,i < T.length→some (T.getD i 0).toNat=some b'→(b':Int)∈T∧b' < g.blocks.length:=fun i hi e=>by have h1:=htg _ (zlT hi);simp only[Ww] at e;rw[←e,Wt h1.1];exact⟨zlT hi,by omega⟩
 split at h
 · cases h
 ·
  rename_i hT;split at h
  · exact key 0 (by omega) h
  · have hpv:=zn0 (cs:=cs) (j:=j) (n:=T.length) (by omega);exact key _ (by omega) h
def zwE (g:G) (n:Nat) (l:List Int):Prop:=∀k (h:k < l.length),(0≤l[k]∧l[k] < g.blocks.length)∧(k+1=l.length→l.length=n∨(zx (blkG g l[k].toNat).stmts).length=0)∧(∀h2:k+1 < l.length,l[k+1]∈zx (blkG g l[k].toNat).stmts)
theorem zvF {g:G} {cs:List Int} {n j:Nat}:ziR g cs n none j=[]:=by cases n<;>rw[ziR]
theorem zpu {g:G} (hg:OkG g) (cs:List Int):∀(n b j:Nat),b < g.blocks.length→zwE g n (ziR g cs n (some b) j)
 | 0,b,j,hb=>by rw[ziR];intro k h;simp at h
 |
  n+1,b,j,hb=>by
  rw[ziR]
  cases hs:(zek g cs b j).1 with
  |
   none =>
   rw[zvF];intro k h
   obtain rfl:k=0:=by simpa using h
   have e:=ztF hs;exact⟨⟨by simp,by simpa using hb⟩,fun _=>.inr (by simpa using e),fun h2=>by simp at h2⟩
  |
   some b' =>
   obtain⟨h1,h2⟩:=zsU hg hb hs;have ih:=zpu hg cs n b' (zek g cs b j).2 h2;generalize hw:ziR g cs n (some b') (zek g cs b j).2=l at ih;intro k h
   cases k with
   |
    zero =>
    refine⟨⟨by simp,by simpa using hb⟩,fun hk=>?_,fun h3=>?_⟩
    ·
     left
     have hl:l.length=0:=by simpa using hk.symm
     cases n with
     | zero=>simp[hl]
     | succ n=>rw[ziR] at hw;rw[←hw] at hl;simp at hl
    ·
     cases n with
     | zero=>rw[ziR] at hw;rw[←hw] at h3;simp at h3
     |
      succ n =>
      rw[ziR] at hw;subst hw
      simpa using h1
   |
    succ k =>
    have hk:k < l.length:=by simpa using h
    obtain⟨a1,a2,a3⟩:=ih k hk;refine⟨by simpa using a1,fun he=>?_,fun h3=>?_⟩
    ·
     have he2:k+1=l.length:=by simpa using he
     rcases a2 he2 with a2|a2
     · exact .inl (by simp[a2])
     · exact .inr (by simpa using a2)
    ·
     have h4:k+1 < l.length:=by simpa using h3
     simpa using a3 h4
theorem ztf {g:G} (hg:OkG g) (cs:List Int) (most:Int):zwE g most.toNat (zf7 g cs most)∧(zf7 g cs most).length≤most.toNat∧(0 < most→∃l,zf7 g cs most=0::l):=by rw[zsX];refine⟨zpu hg cs _ 0 0 hg.pos,zsf _ _ _ _ _,fun h=>?_⟩;obtain⟨m,hm⟩:∃m,most.toNat=m+1:=⟨most.toNat - 1,by omega⟩;rw[hm,ziR];exact⟨_,rfl⟩
theorem Qaj {p q:Prop}(k:q)(h:Im q p:=by(repeat first|simp(disch:=try exact dis1) only[evD,Nat.reduceBEq,Nat.reduceAdd,Nat.reduceLeDiff,fldP,zlA] | ((with_reducible apply Im.i);intro _) | ((with_reducible apply Im.a);omega));exact Im.r):p:=h k
theorem QI {p q:Prop}(k:q)(h:Im q p:=by(repeat first|simp(disch:=try exact dis1) only[evD,Nat.reduceBEq,Nat.reduceAdd,Nat.reduceLeDiff,zcM] | ((with_reducible apply Im.i);intro _) | ((with_reducible apply Im.a);omega));exact Im.r):p:=h k
theorem L37_TraceEdges_ok (g:G) (cs:List Int) (most:Int) (hw:∀c∈cs,0≤c∧c < 4294967296) (hmo:InR .i64 most):zl Tryz.prog zir [.agg g.cells,encL 1 cW cs,.int .i64 most] (·=.bool true):=by
 refine fn_x zl2 rfl ?_;unfold zhC;have hB:=hBig;have hsm:=zrH g cs most;have hex:=zkT;have hmid:=zsD (g:=g) (cs:=cs) (most:=most)
 have ha:=fun hm hc=>zuE g cs most hm hc
 have hck:=fun hm=>zll g hm
 have hG:=fun hm=>zx7 (g:=g) hm
 have hE:=fun hg=>ztf (g:=g) hg cs most
 generalize znI g cs most=sm at hsm hmid;generalize zbz g=c at ha hck hG;generalize zf7 g cs most=li at ha hE
 have retT:∀H:AH,∃a,Frz H (.bool true) a∧a=.bool true:=fun H=>⟨_,.bool _ _,rfl⟩
 obtain⟨ad,l⟩:=g;simp only[G.cells] at hsm ha hck ⊢
 (refine Qaj ?_;intros)
 refine zc (zg hsm rfl) ?_
 cases sm with
 |
  false =>
  (refine Qa ?_;intros)
  refine zc (zg hex rfl) ?_
  (refine QI ?_;intros)
  exact retT _
 | true =>
 obtain⟨hm,hbl,hcl,hm60⟩:=hmid rfl;have h1:=ha hm (by omega) (.inl (by omega)) hw
 (refine Qaj ?_;intros)
 refine zc (zg h1 rfl) ?_
 by_cases h0:c=0
 case neg =>
  rw[if_pos h0];have dcc:decide (c=c)=true:=decide_eq_true rfl
  have d00:decide ((([]:List Int).length:Int)=0)=true:=by decide
  (repeat first|simp(disch:=try exact dis1) only[evD,Nat.reduceBEq,Nat.reduceAdd,Nat.reduceLeDiff,dT,za,Wa,d00,zlA]|with_reducible first|intro _|refine aJ ?_)
  refine zc (zg (hck (zjD hm)) rfl) ?_
  (repeat first|simp(disch:=try exact dis1) only[evD,Nat.reduceBEq,Nat.reduceAdd,Nat.reduceLeDiff,dcc]|with_reducible first|intro _|refine aJ ?_)
  refine zc (zg hex rfl) ?_
  (refine QI ?_;intros)
  exact retT _
 rw[if_neg (fun h=>h h0),if_neg (by omega)];have hg:=hG hm h0;obtain⟨hed,hlen,hhd⟩:=hE hg
 have dl:decide ((if most < 0 then 0 else most) < (li.length:Int))=false:=by
  rw[decide_eq_false_iff_not]
  split<;>omega
 have hor:(decide (0 < (li.length:Int))=true∧decide ((li.length:Int)=0)=false∧(li.map fun n=>[AV.int .i64 n]).getD (Wv 0) []=[.int .i64 0]∧decide ((0:Int)≠0)=false∧0 < li.length)∨(decide (0 < (li.length:Int))=false∧decide ((li.length:Int)=0)=true∧decide (0 < most)=false):=by
  by_cases hp:0 < most
  · obtain⟨l',rfl⟩:=hhd hp;exact .inl ⟨by rw[decide_eq_true_eq];simp only[Wi];omega,by rw[decide_eq_false_iff_not];simp only[Wi];omega,rfl,by decide,by simp⟩
  ·
   have h00:li.length=0:=by omega
   exact .inr ⟨by simp[h00],by simp[h00],by simpa using hp⟩
 cases hor
 case' inl h =>
  have hpos:=h.2.2.2.2
  (repeat first|simp(disch:=try exact dis1) only[evD,Nat.reduceBEq,Nat.reduceAdd,Nat.reduceLeDiff,dF,za,dl,h.1,h.2.1,h.2.2.1,h.2.2.2.1]|with_reducible first|intro _|refine aJ ?_)
 case' inr h=>(repeat first|simp(disch:=try exact dis1) only[evD,Nat.reduceBEq,Nat.reduceAdd,Nat.reduceLeDiff,dF,za,dl,h.1,h.2.1,h.2.2]|with_reducible first|intro _|refine aJ ?_)
 all_goals
  refine zk (fun k:Nat=>([(2,.int .i64 most),(3,encP 2 [.int .u32 ad,encL 2 Bl.cells l]),(7,za li),(9,.int .i64 k)],[])) 0 (fun k=>k≤li.length) (fun k=>li.length - k) 0 (Wg _) (Ent.keep rfl fin5) ?_;intro k hk wf;clear wf;unfold zfG
  by_cases hkl:k < li.length
  case neg =>
   (refine Qu ?_;intros)
   unfold zfK
   (refine Qa ?_;intros)
   refine zc (zg hex rfl) ?_
   (refine QI ?_;intros)
   exact retT _
  obtain⟨⟨a1,a2⟩,a3,a4⟩:=hed k hkl;have hgk:(li.map fun n=>[AV.int .i64 n]).getD k []=[.int .i64 li[k]]:=zm (f:=fun n=>[AV.int .i64 n]) hkl;obtain⟨x,hx⟩:∃x:Nat,li[k]=(x:Int):=⟨li[k].toNat,(Wt a1).symm⟩;rw[hx] at hgk a2 a3;simp only[hx,Wk] at a4;rw[Wk] at a3
  have hxl:x < l.length:=by simp only at a2;omega
  have hmem:=Wp hxl;have hgb:(l.map Bl.cells).getD x []=Bl.cells l[x]:=zm hxl
  have hbk:blkG ⟨ad,l⟩ x=l[x]:=by simp[blkG,hxl]
  have hsu:=zl3 l[x] (hg.stmts _ hmem);have hsh:=hg.short _ hmem;rw[hbk] at a3 a4;generalize zx l[x].stmts=T at a3 a4 hsu hsh;generalize l[x]=bb at hgb hsu;obtain⟨bad,bst⟩:=bb;simp only[Bl.cells] at hgb hsu
  (repeat first|simp(disch:=try exact dis1) only[evD,Nat.reduceBEq,Nat.reduceAdd,Nat.reduceLeDiff,dT,dF,za,hgk,hgb,fldP,Wk]|with_reducible first|intro _|refine aJ ?_)
  refine zbT (zg hsu rfl) ?_
  have hor2:(k+1 < li.length∧decide ((k:Int)+1=(li.length:Int))=false∧∀h2:k+1 < li.length,li[k+1]∈T)∨(k+1=li.length∧decide ((k:Int)+1=(li.length:Int))=true∧((decide ((li.length:Int)=most)=true)∨(decide ((li.length:Int)=most)=false∧decide ((T.length:Int)=0)=true))):=by
   by_cases hk1:k+1 < li.length
   · exact .inl ⟨hk1,by rw[decide_eq_false_iff_not];omega,a4⟩
   ·
    have hk2:k+1=li.length:=by omega
    refine .inr ⟨hk2,by rw[decide_eq_true_eq];omega,?_⟩
    by_cases hm2:(li.length:Int)=most
    · exact .inl (by rw[decide_eq_true_eq];exact hm2)
    ·
     refine .inr ⟨by rw[decide_eq_false_iff_not];exact hm2,?_⟩
     rcases a3 hk2 with a3|a3
     · omega
     · rw[decide_eq_true_eq];omega
  rcases hor2 with ⟨hk1,dk,hin⟩ | ⟨hk1,dk,hor3⟩
  ·
   (repeat first|simp(disch:=try exact dis1) only[evD,Nat.reduceBEq,Nat.reduceAdd,Nat.reduceLeDiff,dk,za]|with_reducible first|intro _|refine aJ ?_)
   refine zk (fun i:Nat=>([(2,.int .i64 most),(3,encP 2 [.int .u32 ad,encL 2 Bl.cells l]),(7,za li),(9,.int .i64 k),(10,za T),(11,.bool ((T.take i).any fun y=>decide (y=li[k+1]))),(12,.int .i64 i)],[])) 0 (fun i=>i≤T.length) (fun i=>T.length - i) 0 (Wg _) (Ent.keep rfl fin5) ?_;intro i hi wf;clear wf;unfold zbQ
   have dkl:decide ((k:Int)+1 < (li.length:Int))=true:=by rw[decide_eq_true_eq];omega
   have hw1:IntKind.i64.wrap ((k:Int)+1)=(k:Int)+1:=zld (by omega) (by omega);have hgk1:(li.map fun n=>[AV.int .i64 n]).getD (k+1) []=[.int .i64 li[k+1]]:=zm (f:=fun n=>[AV.int .i64 n]) hk1
   have hto:((k:Int)+1).toNat=k+1:=by omega
   by_cases hil:i < T.length
   case neg =>
    obtain rfl:i=T.length:=by omega
    have hany:(T.take T.length).any (fun y=>decide (y=li[k+1]))=true:=by rw[List.take_length,List.any_eq_true];exact⟨_,hin hk1,decide_eq_true rfl⟩
    rw[hany]
    (refine Qu ?_;intros)
    unfold zaJ
    (refine Qa ?_;intros)
    unfold zaI
    (refine Qa ?_;intros)
    exact⟨k+1,hkl,by omega,Ent.keep rfl fin5⟩
   have hgi:(T.map fun n=>[AV.int .i64 n]).getD i []=[.int .i64 T[i]]:=zm (f:=fun n=>[AV.int .i64 n]) hil
   have hst:(T.take (i+1)).any (fun y=>decide (y=li[k+1]))=((T.take i).any (fun y=>decide (y=li[k+1]))||decide (T[i]=li[k+1])):=by rw[List.take_succ_eq_append_getElem hil,List.any_append];simp
   cases hf:(T.take i).any fun y=>decide (y=li[k+1]) with
   |
    true =>
    rw[hf,Bool.true_or] at hst
    (repeat first|simp(disch:=try exact dis1) only[evD,Nat.reduceBEq,Nat.reduceAdd,Nat.reduceLeDiff,dT,dkl,hw1,za]|with_reducible first|intro _|refine aJ ?_)
    refine⟨i+1,hil,by omega,?_⟩;rw[hst];exact Ent.keep rfl fin5
   |
    false =>
    rw[hf,Bool.false_or] at hst
    (repeat first|simp(disch:=try exact dis1) only[evD,Nat.reduceBEq,Nat.reduceAdd,Nat.reduceLeDiff,dT,dkl,hw1,za,hgi,hgk1,hto,Wk]|with_reducible first|intro _|refine aJ ?_)
    refine⟨i+1,hil,by omega,?_⟩;rw[hst];exact Ent.keep rfl fin5
  ·
   rcases hor3 with dm | ⟨dm,dT0⟩
   ·
    (repeat first|simp(disch:=try exact dis1) only[evD,Nat.reduceBEq,Nat.reduceAdd,Nat.reduceLeDiff,dk,dm,za]|with_reducible first|intro _|refine aJ ?_)
    refine zk (fun _:Unit=>([(2,.int .i64 most),(3,encP 2 [.int .u32 ad,encL 2 Bl.cells l]),(7,za li),(9,.int .i64 k),(10,za T),(11,.bool true),(12,.int .i64 0)],[])) 0 (fun _=>True) (fun _=>0) () trivial (Ent.keep rfl fin5) ?_;rintro _ - wf;clear wf;unfold zbQ
    have dkl:decide ((k:Int)+1 < (li.length:Int))=false:=by rw[decide_eq_false_iff_not];omega
    have hw1:IntKind.i64.wrap ((k:Int)+1)=(k:Int)+1:=zld (by omega) (by omega)
    by_cases hT0:0 < T.length
    ·
     (repeat first|simp(disch:=try exact dis1) only[evD,Nat.reduceBEq,Nat.reduceAdd,Nat.reduceLeDiff,dT,dkl,hw1,za]|with_reducible first|intro _|refine aJ ?_)
     unfold zaJ
     (refine Qa ?_;intros)
     unfold zaI
     (refine Qa ?_;intros)
     exact⟨k+1,hkl,by omega,Ent.keep rfl fin5⟩
    ·
     (repeat first|simp(disch:=try exact dis1) only[evD,Nat.reduceBEq,Nat.reduceAdd,Nat.reduceLeDiff,dF,dkl,hw1,za]|with_reducible first|intro _|refine aJ ?_)
     unfold zaJ
     (refine Qa ?_;intros)
     unfold zaI
     (refine Qa ?_;intros)
     exact⟨k+1,hkl,by omega,Ent.keep rfl fin5⟩
   ·
    (repeat first|simp(disch:=try exact dis1) only[evD,Nat.reduceBEq,Nat.reduceAdd,Nat.reduceLeDiff,dk,dm,dT0,za]|with_reducible first|intro _|refine aJ ?_)
    refine zk (fun _:Unit=>([(2,.int .i64 most),(3,encP 2 [.int .u32 ad,encL 2 Bl.cells l]),(7,za li),(9,.int .i64 k),(10,za T),(11,.bool true),(12,.int .i64 0)],[])) 0 (fun _=>True) (fun _=>0) () trivial (Ent.keep rfl fin5) ?_;rintro _ - wf;clear wf;unfold zbQ
    have dkl:decide ((k:Int)+1 < (li.length:Int))=false:=by rw[decide_eq_false_iff_not];omega
    have hw1:IntKind.i64.wrap ((k:Int)+1)=(k:Int)+1:=zld (by omega) (by omega)
    by_cases hT0:0 < T.length
    ·
     (repeat first|simp(disch:=try exact dis1) only[evD,Nat.reduceBEq,Nat.reduceAdd,Nat.reduceLeDiff,dT,dkl,hw1,za]|with_reducible first|intro _|refine aJ ?_)
     unfold zaJ
     (refine Qa ?_;intros)
     unfold zaI
     (refine Qa ?_;intros)
     exact⟨k+1,hkl,by omega,Ent.keep rfl fin5⟩
    ·
     (repeat first|simp(disch:=try exact dis1) only[evD,Nat.reduceBEq,Nat.reduceAdd,Nat.reduceLeDiff,dF,dkl,hw1,za]|with_reducible first|intro _|refine aJ ?_)
     unfold zaJ
     (refine Qa ?_;intros)
     unfold zaI
     (refine Qa ?_;intros)
     exact⟨k+1,hkl,by omega,Ent.keep rfl fin5⟩
end Go.Ab
