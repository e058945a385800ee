/-
  Part 14 of the proof: how the calls of this program run, over values instead of memory, and what each function computes.
-/
import Derived.KernelRfl
import Derived.Test.YtjcbhpmmngfmeaaGreatKm
set_option maxRecDepth 100000
set_option linter.unusedVariables false
set_option linter.unusedSimpArgs false
set_option linter.unnecessarySimpa false
set_option linter.unusedSectionVars false
open List renaming length_nil→Wa,cons_append→Wc,nil_append→Wd,mem_singleton→We,length_append→Wg,length_singleton→Wh,length_cons→Wi,getD→Wl,map_cons→Wm,all_cons→Wo,all_nil→Wp,mem_cons→Wq,map_nil→Ws,getElem_mem→Wt,getD_cons_zero→Wx,getD_cons_succ→WB,getLast?_eq_getElem?→WD,getElem?_eq_getElem→WE,mem_map→WF,map_append→WI,append_nil→WJ,map_take→WK,take_left→WL,getElem_append_left→WN,all_eq_true→WO,append_assoc→WP,getD_eq_getElem?_getD→WQ
open Nat renaming le_refl→Wf,zero_le→Wk,beq→Wr,le_trans→Wu,zero_add→WC
open Bool renaming and_self→Wj,and_eq_true→Wv,false_eq_true→WM
open Eq renaming trans→Wn
open Int renaming toNat_of_nonneg→Ww,toNat_natCast→Wy,toNat→WA
open And renaming intro→Wz
open Option.some renaming injEq→WG
open Prod.mk renaming injEq→WH
namespace Go.Ab
open Go.RowKit Go.Proofs
def zb6 (err:Int):AH:=[(0,.row 1 [] 0),(1,.row 1 [[.int .i64 err]] 0),(2,.row 1 [[.fn (.func zcm) [.ptr 1 0 0 0 0]]] 0)]
theorem zoa (e:Int) (c:List (List AV)) (nx:Nat):z8 Tryz.prog zcm [.ptr 1 0 0 0 0] (zb6 e++[(3,.row 2 c 0)]) nx (fun v H nx'=>H=zb6 15++[(3,.row 2 c 0)]):=by
 refine fn_x zot rfl ?_;unfold zjC;have hB:=hBig;unfold zb6;simp only[Wc,Wd]
 (repeat first|simp(disch:=try exact dis1) only[evD,Nat.reduceBEq,Nat.reduceAdd,Nat.reduceLeDiff,zjH]|with_reducible first|intro _|refine aJ ?_)
theorem lowN {e:Int}:LowH 3 (zb6 e):=.cons (by decide) (fun c h=>by cases h) (.cons (by decide) (zrh (.int _ _)) (.cons (by decide) (zrh (.fn _ _ fun a ha=>by rw[We.1 ha];exact .ptr _ _ _ _ _ (by decide))) (.nil 3)))
def zvL (st:List PSt) (cs:List Int):List AV:=[.iptr 1 fun j=>[encL 1 cW cs].getD j .undef,.iptr 1 fun j=>[zrg st].getD j .undef,.ptr 2 0 0 0 0]
def zvh (lp:Nat) (st:List PSt) (cs:List Int) (a i:Nat):Kn:=[(0,.fn (.yield lp) []),(2,.iptr 1 fun j=>[zrg st].getD j .undef),(3,.ptr 2 0 0 0 0),(5,.ptr 3 0 0 0 0),(6,.int .i64 i),(7,.int .i64 a)]
theorem lowR {e:Int} {c:List (List AV)} (hc:∀x∈c,∀v∈x,AV.Below 4 v):LowH 4 (zb6 e++[(3,.row 2 c 0)]):=.cons (by decide) (fun c h=>by cases h) (.cons (by decide) (zrh (.int _ _)) (.cons (by decide) (zrh (.fn _ _ fun a ha=>by rw[We.1 ha];exact .ptr _ _ _ _ _ (by decide))) (.cons (by decide) hc (.nil 4))))
theorem chB {cs:List Int} {j:Nat}:∀x∈[[encL 1 cW cs,AV.int .i64 j]],∀v∈x,AV.Below 4 v:=fun x hx v hv=>by
 rw[We.1 hx] at hv
 rcases Wq.1 hv with h|hv
 · rw[h];exact .sl _ _ _
 · rw[We.1 hv];exact .int _ _
theorem endN {st:List PSt} {cs:List Int} {lp a i j nx:Nat} {K:Kn} {T:AH} (h0:K.get 0=.fn (.yield lp) []) (h2:K.get 2=.iptr 1 fun j=>[zrg st].getD j .undef) (h3:K.get 3=.ptr 2 0 0 0 0) (h5:K.get 5=.ptr 3 0 0 0 0) (h6:K.get 6=.int .i64 i) (h7:K.get 7=.int .i64 a) :
  Ent 3 K ((zb6 0++[(3,.row 2 [[encL 1 cW cs,.int .i64 j]] 0)])++T) nx (zvh lp st cs a i) (zb6 0++[(3,.row 2 [[encL 1 cW cs,.int .i64 j]] 0)]) 4 :=
 Ent.lowB (by decide) (fun r o h=>by rw[AH.look_app2,h]) (lowR chB) ⟨⟨h0,.fn _ _ fun a h=>by cases h⟩,⟨h2,.iptr _ _⟩,⟨h3,.ptr _ _ _ _ _ (by decide)⟩,⟨h5,.ptr _ _ _ _ _ (by decide)⟩,⟨h6,.int _ _⟩,⟨h7,.int _ _⟩,trivial⟩
theorem zzK {st:List PSt} {cs:List Int} {lp a i j nx:Nat} {K:Kn} {x:AObj} (h0:K.get 0=.fn (.yield lp) []) (h2:K.get 2=.iptr 1 fun j=>[zrg st].getD j .undef) (h3:K.get 3=.ptr 2 0 0 0 0) (h5:K.get 5=.ptr 3 0 0 0 0) (h6:K.get 6=.int .i64 i) (h7:K.get 7=.int .i64 a) :
  Ent 3 K (zb6 0++[(4,x),(3,.row 2 [[encL 1 cW cs,.int .i64 j]] 0)]) nx (zvh lp st cs a i) (zb6 0++[(3,.row 2 [[encL 1 cW cs,.int .i64 j]] 0)]) 4 :=
 Ent.lowB (by decide) (fun r o h=>by
  rw[AH.look_app2] at h ⊢
  cases hr:AH.look (zb6 0) r with
  | some o=>rw[hr] at h;exact h
  |
   none =>
   rw[hr] at h;simp only[AH.look] at h ⊢
   cases h3:Wr 3 r with
   | false=>rw[h3] at h;cases h
   |
    true =>
    rw[h3] at h;rw[←zC h3]
    exact h) (lowR chB) ⟨⟨h0,.fn _ _ fun a h=>by cases h⟩,⟨h2,.iptr _ _⟩,⟨h3,.ptr _ _ _ _ _ (by decide)⟩,⟨h5,.ptr _ _ _ _ _ (by decide)⟩,⟨h6,.int _ _⟩,⟨h7,.int _ _⟩,trivial⟩
theorem Qaf {p q:Prop}(k:q)(h:Im q p:=by(repeat first|simp(disch:=try exact dis1) only[evD,Nat.reduceBEq,Nat.reduceAdd,Nat.reduceLeDiff,zle] | ((with_reducible apply Im.i);intro _) | ((with_reducible apply Im.a);omega));exact Im.r):p:=h k
theorem Qan {p:Prop}(h:p:=by(try simp only[evWB,Nat.reduceBEq,Nat.reduceAdd,Nat.reduceSub,Nat.reduceLeDiff,Nat.reduceLT,implies_true,za])<;>exact fin1):p:=h
theorem zpq (st:List PSt) (cs:List Int) (hst:OkR st) (hcs:cs.length≤1000000) (hw:∀c∈cs,0≤c∧c < 4294967296) (n:Nat) (hn:0 < n) :
  ItOk Tryz.prog zbL (zvL st cs) (zb6 0) 3 (zjg st cs) (fun s=>0 < s.1) (n,0,0) (fun s H nx=>(match s with|some s=>zjg st cs s=none|none=>True)∧(AH.upto H 3=zb6 (match s with|some s=>endR st cs s|none=>0))):=by
 refine zvt zkX rfl rfl fun E hE=>?_
 unfold zgn zvL;have hB:=hBig;refine WpA.seq (WpA.pure ?_);simp only[zb6]
 (refine Qo ?_;intros)
 rw[zaf];refine WpA.seq (WpA.pure ?_)
 (refine Qo ?_;intros)
 rw[zaf];refine WpA.seq (WpA.pure ?_)
 (refine Qo ?_;intros)
 rw[zaf]
 refine WpA.block (WpA.loop (fun x:(Nat × Nat × Nat) × (Nat × Nat × Nat × Nat)=>(zvh E.lp st cs x.2.1 x.2.2.1,zb6 0++[(3,.row 2 [[encL 1 cW cs,.int .i64 x.2.2.2.1]] 0)],some x.1)) 4
  (fun x=>0 < x.1.1∧x.2.1 < st.length∧x.2.2.1≤st.length+1∧x.2.2.2.1≤cs.length∧muR st cs x.2.2.1 x.2.2.2.1≤x.2.2.2.2∧x.2.2.2.2≤zpm st cs∧goR st cs x.2.2.2.2 x.2.1 x.2.2.1 x.2.2.2.1=goR st cs (zpm st cs) x.1.2.1 0 x.1.2.2)
  (fun x=>x.1.1 * (zpm st cs+1)+x.2.2.2.2) ((n,0,0),(0,0,0,zpm st cs)) ⟨hn,hst.pos,Wk _,Wk _,zuz,Wf _,rfl⟩ ?_ rfl ?_)
 · rw[hE];exact endN (T:=[]) rfl rfl rfl rfl rfl rfl
 ·
  rintro⟨⟨k,a0,j0⟩,⟨a,i,j,f⟩⟩ ⟨hk,ha,hi,hj,hm,hf,hg⟩ wf;simp only at hk ha hi hj hm hf hg;clear wf;unfold zen;simp only[zvh,zrg,zb6,Wc,Wd];obtain⟨f,rfl⟩:∃f',f=f'+1:=⟨f - 1,by unfold muR at hm;omega⟩;rw[goR] at hg;have hsl:=hst.len;have hcell:(st.map cPs).getD a []=cPs st[a]:=zn ha
  have hgd:st.getD a ⟨2,0,none⟩=st[a]:=by simp[Wl,ha]
  rw[hgd] at hg;refine WpA.block (WpA.seq (WpA.seq (WpA.pure ?_)))
  (repeat first|simp(disch:=try exact dis1) only[evD,Nat.reduceBEq,Nat.reduceAdd,Nat.reduceLeDiff,fldP,za]|with_reducible first|intro _|refine aJ ?_)
  by_cases hend:st.length < i
  ·
   rw[if_pos hend] at hg;refine WpA.cond (t:=true) (by show AV.bool (decide _)=_;simp;omega) (fun _=>WpA.pure ?_) (fun h=>by cases h)
   (refine Qa ?_;intros)
   refine⟨by kernel_rfl,zhs (zoa 0 _ _) ?_⟩;rintro v H' nx' rfl;simp only[zb6,Wc,Wd]
   (refine Qa ?_;intros)
   refine⟨?_,?_⟩
   · simp only[zjg,←hg]
   · simp only[endR,←hg];rfl
  ·
   rw[if_neg hend] at hg;refine WpA.cond (t:=false) (by show AV.bool (decide _)=_;simp;omega) (fun h=>by cases h) (fun _=>WpA.pure ?_)
   (refine Qa ?_;intros)
   rw[zaf];refine WpA.seq (WpA.pure ?_)
   (refine Qa ?_;intros)
   rw[zaf];refine WpA.seq (WpA.pure ?_)
   (repeat first|simp(disch:=try exact dis1) only[evD,Nat.reduceBEq,Nat.reduceAdd,Nat.reduceLeDiff,fldP,dT,za,hcell,cPs]|with_reducible first|intro _|refine aJ ?_)
   have hkd:=hst.kind a ha;have hla:=hst.last a ha;have hto:=hst.to a ha;generalize st[a]=s at hg hcell hkd hla hto ⊢;obtain⟨kd,bl,to⟩:=s;simp only at hg hkd hla hto ⊢;rw[zaf];refine WpA.seq (WpA.pure ?_)
   (refine Ql ?_;intros)
   rw[zaf];refine WpA.block (WpA.seq (WpA.pure ?_))
   (refine Qa ?_;intros)
   rw[zaf]
   by_cases h2:kd=2
   ·
    rw[if_pos h2] at hg;refine WpA.cond (t:=true) (by show AV.bool (decide _)=_;simp[h2]) (fun _=>WpA.pure ?_) (fun h=>by cases h)
    (refine Qa ?_;intros)
    refine⟨?_,?_⟩
    · simp only[zjg,←hg]
    · simp only[endR,←hg];rfl
   rw[if_neg h2] at hg;refine WpA.cond (t:=false) (by show AV.bool (decide _)=_;simp[h2]) (fun h=>by cases h) (fun _=>WpA.seq (WpA.pure ?_))
   (refine Qa ?_;intros)
   rw[zaf]
   by_cases h0:kd=0
   ·
    rw[if_pos h0] at hg;have hla:=hla h0;refine WpA.cond (t:=true) (by show AV.bool (decide _)=_;simp[h0]) (fun _=>WpA.seq (WpA.seq (WpA.region ?_))) (fun h=>by cases h);refine WpAL.pre (pre:=[_,_,_]) rfl ?_
    (repeat first|simp(disch:=try exact dis1) only[evD,Nat.reduceBEq,Nat.reduceAdd,Nat.reduceLeDiff,fldP,zle]|with_reducible first|intro _|refine aJ ?_)
    have hnx:zjg st cs (k,a0,j0)=some ([.int .i64 bl],(k - 1,a+1,j)):=by simp only[zjg,←hg]
    refine WpAL.yield (s':=(k - 1,a+1,j)) rfl hnx ?_ (fun hok=>WpAL.pre (pre:=[_]) rfl ?_) (WpAL.pre (pre:=[_]) rfl ?_)
    ·
     intro x hx
     have e:x=.int .i64 bl:=by
      rcases Wq.1 hx with h|h
      · exact h
      · cases h
     rw[e];exact .int _ _
    ·
     (refine Qaf ?_;intros)
     refine WpAL.nil ?_;rw[zaf];refine WpA.cond (t:=false) rfl (fun h=>by cases h) (fun _=>WpA.pure ?_)
     (refine Qa ?_;intros)
     rw[zaf];refine WpA.pure ?_
     (refine Qa ?_;intros)
     rw[zbb,zbb,zb7];refine⟨((k - 1,a+1,j),(a+1,0,j,zpm st cs)),⟨hok,hla,Wk _,hj,zuz,Wf _,rfl⟩,?_,?_,rfl⟩
     · simp only;obtain⟨k',rfl⟩:∃k',k=k'+1:=⟨k - 1,by omega⟩;rw[Nat.succ_mul];simp only[Nat.add_sub_cancel];omega
     · rw[hE];exact endN (T:=[_]) rfl rfl rfl rfl rfl rfl
    ·
     (refine Qaf ?_;intros)
     refine WpAL.nil ?_;rw[zaf];refine WpA.cond (t:=true) rfl (fun _=>WpA.pure ?_) (fun h=>by cases h)
     (refine Qa ?_;intros)
     exact⟨trivial,rfl⟩
   ·
    rw[if_neg h0] at hg
    have h1:kd=1:=by
     rcases hkd with h|h|h
     · exact absurd h h0
     · exact h
     · exact absurd h h2
    obtain⟨l,rfl,hl0,hl1,hlt⟩:=hto h1;simp only[Option.getD_some] at hg;refine WpA.cond (t:=false) (by show AV.bool (decide _)=_;simp[h0]) (fun h=>by cases h) (fun _=>WpA.pure ?_);have hlen:((zBT (some l))=za l):=rfl
    have hB0:l.length≤big:=by omega
    have hpick:muR st cs (if (zcU cs j l.length).2 then 0 else i+1) (ziX cs j) < muR st cs i j:=zA8 hj (by omega);have hpv:=zoP (cs:=cs) (j:=j) (n:=l.length) (by omega);have hpj:=zvp hj
    have hpl:(zcU cs j l.length).1.toNat < l.length:=by omega
    have ht:=hlt (l.getD (zcU cs j l.length).1.toNat 0) (zmy hpl)
    have e0:((List.map (fun n=>[AV.int .i64 n]) l).getD (zcU cs j l.length).1.toNat [])=[.int .i64 (((l.getD (zcU cs j l.length).1.toNat 0).toNat:Nat):Int)]:=by rw[Ww ht.1];simp[Wl,hpl]
    have hpk:=(zeU cs j l.length (by omega) (by omega) (by omega) hw)
    by_cases hc:l.length=1∧bl ≠ -1
    ·
     rw[if_pos hc] at hg
     have hd1:decide ((l.length:Int)=1)=true:=by simp;omega
     have hd2:decide (bl = -1)=false:=by simp[hc.2]
     have ht0:=hlt (l.getD 0 0) (zmy hl0)
     have e1:((List.map (fun n=>[AV.int .i64 n]) l).getD (WA 0) [])=[.int .i64 (((l.getD 0 0).toNat:Nat):Int)]:=by rw[Ww ht0.1];simp[Wl,hl0]
     (repeat first|simp(disch:=try exact dis1) only[evD,Nat.reduceBEq,Nat.reduceAdd,Nat.reduceLeDiff,fldP,dT,za,hlen,h1,hd1,hd2,e1]|with_reducible first|intro _|refine aJ ?_)
     rw[zo2,show Wr 1 2=false from rfl,cond_false,zo2,show Wr 1 1=true from rfl,cond_true,zb7];refine⟨((k,a0,j0),((l.getD 0 0).toNat,i+1,j,f)),⟨hk,by dsimp only;omega,by dsimp only;omega,hj,by have:=zAC (st:=st) (cs:=cs) (i:=i) (j:=j) (by omega);dsimp only;omega,by dsimp only;omega,hg⟩,by dsimp only;omega,?_,rfl⟩;rw[hE];exact endN (T:=[_]) rfl rfl rfl rfl rfl rfl
    ·
     rw[if_neg hc] at hg;clear hto;obtain⟨pk,used,hpe⟩:∃pk used,zcU cs j l.length=(pk,used):=⟨_,_,rfl⟩;simp only[hpe] at hg hpick hpv hpl ht e0 hpk
     by_cases hl2:l.length=1
     ·
      have hd1:decide ((l.length:Int)=1)=true:=by simp;omega
      have hd2:decide (bl ≠ -1)=false:=by
       rw[decide_eq_false_iff_not]
       exact fun h=>hc ⟨hl2,h⟩
      (repeat first|simp(disch:=try exact dis1) only[evD,Nat.reduceBEq,Nat.reduceAdd,Nat.reduceLeDiff,fldP,dT,za,hlen,h1,hd1,hd2]|with_reducible first|intro _|refine aJ ?_)
      refine zbr [(0,3,0)] 1 _ (hpk) rfl rfl Qan Qan ?_;rintro v H' nx' ⟨rfl,rfl,rfl⟩
      cases used with
      |
       true =>
       (repeat first|simp(disch:=try exact dis1) only[evD,Nat.reduceBEq,Nat.reduceAdd,Nat.reduceLeDiff,fldP,dT,za,hlen,e0]|with_reducible first|intro _|refine aJ ?_)
       rw[zbb,zbb,zb7];refine⟨((k,a0,j0),((l.getD pk.toNat 0).toNat,0,ziX cs j,f)),⟨hk,by dsimp only;omega,Wk _,hpj,by simp only[if_true] at hpick;dsimp only;omega,by dsimp only;omega,hg⟩,by dsimp only;omega,?_,rfl⟩;rw[hE];refine zzK ?_ ?_ ?_ ?_ ?_ ?_
       all_goals rfl
      |
       false =>
       (repeat first|simp(disch:=try exact dis1) only[evD,Nat.reduceBEq,Nat.reduceAdd,Nat.reduceLeDiff,fldP,dT,za,hlen,e0]|with_reducible first|intro _|refine aJ ?_)
       rw[zbb,zbb,zb7];refine⟨((k,a0,j0),((l.getD pk.toNat 0).toNat,i+1,ziX cs j,f)),⟨hk,by dsimp only;omega,by dsimp only;omega,hpj,by simp only[WM,if_false] at hpick;dsimp only;omega,by dsimp only;omega,hg⟩,by dsimp only;omega,?_,rfl⟩;rw[hE];refine zzK ?_ ?_ ?_ ?_ ?_ ?_
       all_goals rfl
     ·
      have hd1:decide ((l.length:Int)=1)=false:=by simp;omega
      (repeat first|simp(disch:=try exact dis1) only[evD,Nat.reduceBEq,Nat.reduceAdd,Nat.reduceLeDiff,fldP,dT,za,hlen,h1,hd1]|with_reducible first|intro _|refine aJ ?_)
      refine zbr [(0,3,0)] 1 _ (hpk) rfl rfl Qan Qan ?_;rintro v H' nx' ⟨rfl,rfl,rfl⟩
      cases used with
      |
       true =>
       (repeat first|simp(disch:=try exact dis1) only[evD,Nat.reduceBEq,Nat.reduceAdd,Nat.reduceLeDiff,fldP,dT,za,hlen,e0]|with_reducible first|intro _|refine aJ ?_)
       rw[zbb,zbb,zb7];refine⟨((k,a0,j0),((l.getD pk.toNat 0).toNat,0,ziX cs j,f)),⟨hk,by dsimp only;omega,Wk _,hpj,by simp only[if_true] at hpick;dsimp only;omega,by dsimp only;omega,hg⟩,by dsimp only;omega,?_,rfl⟩;rw[hE];refine zzK ?_ ?_ ?_ ?_ ?_ ?_
       all_goals rfl
      |
       false =>
       (repeat first|simp(disch:=try exact dis1) only[evD,Nat.reduceBEq,Nat.reduceAdd,Nat.reduceLeDiff,fldP,dT,za,hlen,e0]|with_reducible first|intro _|refine aJ ?_)
       rw[zbb,zbb,zb7];refine⟨((k,a0,j0),((l.getD pk.toNat 0).toNat,i+1,ziX cs j,f)),⟨hk,by dsimp only;omega,by dsimp only;omega,hpj,by simp only[WM,if_false] at hpick;dsimp only;omega,by dsimp only;omega,hg⟩,by dsimp only;omega,?_,rfl⟩;rw[hE];refine zzK ?_ ?_ ?_ ?_ ?_ ?_
       all_goals rfl
def zqg {σ:Type} (next:σ→Option (List AV × σ)):Nat→σ→Option σ
 | 0,_=>none
 |
  k+1,s=>match next s with
  | none=>some s
  | some (_,s')=>zqg next k s'
def boxN:List Int→AH
 | []=>[(4,.row 1 [[.nilsl]] 0)]
 | x::l=>[(4,.row 1 [[.own 5 0 0 0 (x::l).length]] 0),(5,.row 1 ((x::l).map cI) 0)]
theorem zyV:∀l:List Int,HighH 3 (boxN l)
 | []=>.cons (by decide) (cellF .nilsl) (.nil 3)
 | x::l=>.cons (by decide) (cellF (.own _ _ _ _ _ (by decide))) (.cons (by decide) (fun c hc v hv=>by
   obtain⟨i,_,rfl⟩:=WF.1 hc;rw[show cI i=[AV.int .i64 i] from rfl,We] at hv;rw[hv]
   exact .int _ _) (.nil 3))
def zf8 (st:List PSt) (cs:List Int) (n:Nat):Int:=match zqg (zjg st cs) n (n,0,0) with
 | some s=>endR st cs s
 | none=>0
def zma (st:List PSt) (cs:List Int) (n:Nat):List Int:=itv (zjg st cs) (valR st cs) n (n,0,0)
theorem retN {e:Int} {l:List Int} {H:AH} {nx:Nat} {v:AV} (hH:∀r o,(zb6 e).look r=some o→H.look r=some o) (hv:Vw H (zb6 e) (zlf 3) (fun r _=>3≤r) true v (za l)):zrD 3 (fun v H nx=>v=za l∧H=zb6 e∧nx=3) v H nx :=
 ⟨_,_,_,Ent.lowFB (by decide) hH lowN ⟨hv,trivial⟩,rfl,rfl,rfl⟩
theorem zqe {st:List PSt} {cs:List Int}:∀ {k:Nat} {s0 s:Nat × Nat × Nat},itn (zjg st cs) k s0=some s→s.1=s0.1 - k
 | 0,s0,s,h=>by cases h;rfl
 |
  k+1,s0,s,h=>by
  rw[itn] at h;unfold zjg at h;split at h
  · cases h
  ·
   rename_i x s' hx;split at hx
   · simp only[WG,WH] at hx;have:=zqe (st:=st) (cs:=cs) h;rw[this,←hx.2];simp only;omega
   · cases hx
theorem Qaq {p:Prop}(h:p:=by(try simp only[evWB,Nat.reduceBEq,Nat.reduceAdd,Nat.reduceSub,Nat.reduceLeDiff,Nat.reduceLT,implies_true,boxN])<;>exact fin1):p:=h
theorem Qar {p:Prop}(h:p:=by(try simp only[evWB,Nat.reduceBEq,Nat.reduceAdd,Nat.reduceSub,Nat.reduceLeDiff,Nat.reduceLT,implies_true,boxN,List.length_append,List.map_append,List.map_cons,List.map_nil,List.length_cons,List.length_nil,cI])<;>exact fin1):p:=h
theorem znB (st:List PSt) (cs:List Int) (hst:OkR st) (hcs:cs.length≤1000000) (hw:∀c∈cs,0≤c∧c < 4294967296) (n:Int) (hn:n≤1000000) :
  z8 Tryz.prog zcS [.fn (.func zbL) (zvL st cs),.int .i64 n] (zb6 0) 3 (fun v H nx=>v=za (zma st cs n.toNat)∧H=zb6 (zf8 st cs n.toNat)∧nx=3):=by
 refine zaa (fn_x zkG rfl ?_);unfold zhf;have hB:=hBig
 by_cases h0:n≤0
 ·
  have e:n.toNat=0:=by omega
  unfold zma zf8;rw[e];simp only[zb6]
  (refine Qac ?_;intros)
  exact retN (e:=0) (fun r o h=>by
   refine Wn (AH.look_app2 r (zb6 0) [_,_]) ?_
   rw[h]) (.nil0 _ _ _)
 ·
  have hit:=zpq st cs hst hcs hw n.toNat (by omega)
  have hval:∀s x s',zjg st cs s=some (x,s')→x=[.int .i64 (valR st cs s)]:=fun s x s' h=>by
   unfold zjg at h;unfold valR;split at h
   · simp only[WG,WH] at h;rw[←h.1]
   · cases h
  simp only[zb6]
  (refine Qk ?_;intros)
  unfold zma zf8;generalize hS:zqg (zjg st cs) n.toNat (n.toNat,0,0)=S;generalize hR:itv (zjg st cs) (valR st cs) n.toNat (n.toNat,0,0)=R
  have hRl:R.length≤n.toNat:=by rw[←hR];exact ztf _ _ _ _
  have hcaps:∀c∈zvL st cs,AV.Below 3 c:=fun c hc=>by
   rcases Wq.1 hc with h|hc
   · rw[h];exact .iptr _ _
   rcases Wq.1 hc with h|hc
   · rw[h];exact .iptr _ _
   · rw[We.1 hc];exact .ptr _ _ _ _ _ (by decide)
  refine zok 3 (zb6 0) (fun s H=>H=zb6 (match s with|some s=>endR st cs s|none=>0)) (by kernel_rfl) hcaps hit (fun s x s' h=>by rw[hval s x s' h];rfl) [(3,.iptr 1 fun j=>[AV.int .i64 n].getD j .undef),(5,.ptr 4 0 0 0 0)] boxN 6
   (fun a s=>a++itv (zjg st cs) (valR st cs) (n.toNat - a.length) s=R∧a.length < n.toNat∧itn (zjg st cs) a.length (n.toNat,0,0)=some s∧zqg (zjg st cs) (n.toNat - a.length) s=S) (fun a e=>e=.exit 0∧a=R∧S=none) []
   ⟨Wf _,lowN,fun s H' h=>by rw[h];exact lowN,zyV,fun i=>?_⟩ (fun a s h=>by have:=zqe h.2.2.1;have:=h.2.1;dsimp only at *;omega) ⟨hR,by simp;omega,rfl,hS⟩ ?_ ?_ ?_ ?_
  ·
   simp only[Kn.get];cases Wr 3 i
   ·
    simp only[cond_false];cases Wr 5 i
    · exact .undef
    · exact .ptr _ _ _ _ _ (by decide)
   · exact .iptr _ _
  ·
   refine Ent.lowB (by decide) ?_ (.cons (by decide) (fun c h=>by cases h) (.cons (by decide) (zrh (.int _ _)) (.cons (by decide) (zrh (.fn _ _ fun a ha=>by rw[We.1 ha];exact .ptr _ _ _ _ _ (by decide))) (.cons (by decide) (zrh .nilsl) (.nil 6))))) ⟨⟨rfl,.iptr _ _⟩,⟨rfl,.ptr _ _ _ _ _ (by decide)⟩,trivial⟩;intro r o h;refine Wn (AH.look_app2 r (zb6 0) [(3,.row 1 [] 0),(4,.row 1 [[.nilsl]] 0)]) ?_;rw[AH.look_app2] at h
   cases hr:AH.look (zb6 0) r with
   | some o=>rw[hr] at h;exact h
   |
    none =>
    rw[hr] at h;simp only[boxN,AH.look] at h ⊢
    cases h3:Wr 4 r with
    | false=>rw[h3] at h;cases h
    |
     true =>
     rw[h3] at h;rw[←zC h3];exact h
  ·
   rintro a s x s' ⟨h1,h2,h3,h6⟩ hx wf;have hxv:=hval _ _ _ hx;subst hxv;clear wf;simp only[ziV];unfold zew
   have hm:n.toNat - a.length=(n.toNat - a.length - 1)+1:=by omega
   rw[hm,itv,hx] at h1;rw[hm,zqg,hx] at h6;simp only at h1 h6;have h4:=zqY h3 hx;generalize valR st cs s=v at *
   cases a with
   |
    nil =>
    simp only[boxN]
    (refine Qa ?_;intros)
    unfold zb3
    (refine Qa ?_;intros)
    (refine zy (fun hc=>?_) (fun hc=>?_))<;>(try simp only[dcd] at hc)
    ·
     (refine Qa ?_;intros)
     have e:n.toNat - ([]:List Int).length - 1=0:=by simp only[Wa];omega
     exact⟨[v],⟨by rw[←h1,e,itv];rfl,by rw[←h6,e];rfl⟩,(Ent.tabB [(0,0,0),(1,1,0),(2,2,0),(4,4,0),(5,7,0)] [] rfl rfl rfl Qaq Qaq)⟩
    ·
     (refine Qa ?_;intros)
     refine⟨[v],⟨by rw[←h1];rfl,by simp only[Wi,Wa];omega,h4,by rw[←h6];rfl⟩,(Ent.tabB [(0,0,0),(1,1,0),(2,2,0),(4,4,0),(5,7,0)] [] rfl rfl rfl Qaq Qaq)⟩
   |
    cons y l =>
    simp only[boxN]
    have h5:l.length+1 < n.toNat:=by simpa using h2
    (refine Qa ?_;intros)
    unfold zb3
    (refine Qa ?_;intros)
    (refine zy (fun hc=>?_) (fun hc=>?_))<;>(try simp only[dcd] at hc)
    ·
     (refine Qa ?_;intros)
     have e:n.toNat - (y::l).length - 1=0:=by simp only[Wi];omega
     exact⟨y::(l++[v]),⟨by rw[←h1,e,itv];rfl,by rw[←h6,e];rfl⟩,(Ent.tabB [(0,0,0),(1,1,0),(2,2,0),(4,4,0),(5,5,1)] [] rfl rfl rfl Qar Qar)⟩
    ·
     (refine Qa ?_;intros)
     have e:(y::(l++[v])).length=(y::l).length+1:=by simp
     exact⟨y::(l++[v]),⟨by rw[←h1,e];simp[Nat.sub_sub],by rw[e];simp only[Wi] at h2 hc ⊢;omega,by rw[e];exact h4,by rw[←h6,e];simp only[Nat.sub_sub]⟩,(Ent.tabB [(0,0,0),(1,1,0),(2,2,0),(4,4,0),(5,5,1)] [] rfl rfl rfl Qar Qar)⟩
  ·
   rintro a s H' ⟨h1,h2,h3,h6⟩ hx rfl
   have hm:n.toNat - a.length=(n.toNat - a.length - 1)+1:=by omega
   rw[hm,itv,hx] at h1;simp only[WJ] at h1;subst h1;rw[hm,zqg,hx] at h6;simp only at h6;subst h6
   cases a with
   |
    nil =>
    simp only[boxN,zb6,Wc,Wd]
    (refine Qa ?_;intros)
    unfold zaj
    (refine Qr ?_;intros)
    exact retN (fun r o h=>by
     refine Wn (AH.look_app2 r (zb6 _) _) ?_
     rw[h]) (.nil0 _ _ _)
   |
    cons y l =>
    simp only[boxN,zb6,Wc,Wd]
    (refine Qa ?_;intros)
    unfold zaj
    (refine Qr ?_;intros)
    exact retN (fun r o h=>by
     refine Wn (AH.look_app2 r (zb6 _) _) ?_
     rw[h]) (zau (l:=y::l) (show 3≤5 by decide) rfl (by omega))
  ·
   rintro a e H' ⟨rfl,rfl,rfl⟩ rfl
   cases a with
   |
    nil =>
    simp only[boxN,zb6,Wc,Wd]
    (refine Qa ?_;intros)
    unfold zaj
    (refine Qr ?_;intros)
    exact retN (fun r o h=>by
     refine Wn (AH.look_app2 r (zb6 _) _) ?_
     rw[h]) (.nil0 _ _ _)
   |
    cons y l =>
    simp only[boxN,zb6,Wc,Wd]
    (refine Qa ?_;intros)
    unfold zaj
    (refine Qr ?_;intros)
    exact retN (fun r o h=>by
     refine Wn (AH.look_app2 r (zb6 _) _) ?_
     rw[h]) (zau (l:=y::l) (show 3≤5 by decide) rfl (by omega))
theorem zml (st:List PSt) (cs:List Int) (hcs:cs.length≤1000000) (hst:st.length≤1000000):z8 Tryz.prog zfd [zrg st,encL 1 cW cs,.fn (.func zcm) [.ptr 1 0 0 0 0]] [(0,.row 1 [] 0),(1,.row 1 [[.int .i64 0]] 0)] 2
  (fun v H nx=>v=.fn (.func zbL) (zvL st cs)∧H=zb6 0∧nx=3):=by
 refine fn_x zl7 rfl ?_;unfold zhE;have hB:=hBig;unfold zrg zvL zb6
 (repeat first|simp(disch:=try exact dis1) only[evD,Nat.reduceBEq,Nat.reduceAdd,Nat.reduceLeDiff,za,zh0]|with_reducible first|intro _|refine aJ ?_)
 exact⟨⟨rfl,rfl⟩,rfl⟩
mutual
theorem zrF:∀(e:Nd) (b:Bool),zdW e b=zkq e b
 |
  .mk f c l,b=>by
  rw[zdW,zkq,zpS l,Bool.or_assoc];simp only[zhk,Bool.decide_or]
theorem zpS:∀(l:List Nd) (b:Bool),zaM l b=zdF l b
 | [],b=>by rw[zaM,zdF]
 | e::l,b=>by rw[zaM,zdF,zrF e,zpS l]
end
def zsy (g:G) (e:Nd) (cs:List Int) (most:Int):AV :=
 if zlt g e≠0 then .tup [za [],.int .i64 (zlt g e)] else if 65536 < most then .tup [za [],.int .i64 6] else
 if zf8 (zcj e).st cs most.toNat≠0 then .tup [za [],.int .i64 (zf8 (zcj e).st cs most.toNat)] else .tup [za (zma (zcj e).st cs most.toNat),.int .i64 0]
theorem Qag {p q:Prop}(k:q)(h:Im q p:=by(repeat first|simp(disch:=try exact dis1) only[evD,Nat.reduceBEq,Nat.reduceAdd,Nat.reduceLeDiff,dT,zdL] | ((with_reducible apply Im.i);intro _) | ((with_reducible apply Im.a);omega));exact Im.r):p:=h k
theorem zrf (g:G) (hf:midG g) (e:Nd) (hs:zay e≤1000) (cs:List Int) (most:Int) (hcs:cs.length≤1000000) (hw:∀c∈cs,0≤c∧c < 4294967296) :
  zk Tryz.prog ze0 [.agg (encN e),.agg g.cells,encL 1 cW cs,.int .i64 most] (·=zsy g e cs most):=by
 refine fn_x zq3 rfl ?_;unfold zlH;have hB:=hBig;have hck:=zlY g hf e hs;simp only[G.cells] at hck ⊢;have htr:=zk8 e hs
 have retE:∀(H:AH) (v:AV) (l:List Int) (n:Int),Vw H [] nos allR false v (za l)→∃a,Frz H (.tup [v,.int .i64 n]) a∧a=.tup [za l,.int .i64 n]:=fun H v l n hv=>⟨.tup [za l,.int .i64 n],.tup _ _ _ rfl (fun j x y h1 h2=>match j with
  | 0=>by cases h1;cases h2;exact hv
  | 1=>by cases h1;cases h2;exact .int _ _ _
  | j+2=>by cases h1),rfl⟩
 (repeat first|simp(disch:=try exact dis1) only[evD,Nat.reduceBEq,Nat.reduceAdd,Nat.reduceLeDiff,fldP,zh8,tab,zbQ,zaH,zbg,Wx,WB]|with_reducible first|intro _|refine aJ ?_)
 refine zc (zg hck (flN rfl)) ?_;unfold zsy
 have hst:zlt g e=0→ze8 e=true∧zkq e false=false:=fun h=>by
  unfold zlt at h;split at h
  · exact absurd h (by assumption)
  split at h
  · cases h
  split at h
  · cases h
  split at h
  · cases h
  rename_i h1 h2 h3 h4;exact⟨by simpa using h2,by simpa using h4⟩
 generalize zlt g e=c at hst ⊢
 by_cases h0:c=0
 case neg =>
  rw[if_pos h0]
  (refine Qag ?_;intros)
  exact retE _ _ [] _ (zau (l:=[]) trivial rfl (by simp only[Wa];omega))
 rw[if_neg (fun h=>h h0)]
 by_cases h1:65536 < most
 ·
  rw[if_pos h1]
  (repeat first|simp(disch:=try exact dis1) only[evD,Nat.reduceBEq,Nat.reduceAdd,Nat.reduceLeDiff,dT,dF,zdL]|with_reducible first|intro _|refine aJ ?_)
  exact retE _ _ [] _ (zau (l:=[]) trivial rfl (by simp only[Wa];omega))
 rw[if_neg h1];obtain⟨hfm,hsy⟩:=hst h0
 (repeat first|simp(disch:=try exact dis1) only[evD,Nat.reduceBEq,Nat.reduceAdd,Nat.reduceLeDiff,dF,zbg,zh8,tab,Wx,WB]|with_reducible first|intro _|refine aJ ?_)
 refine zc (zg (htr (by rw[zrF];exact hsy)) (flN rfl)) ?_;have hok:=zyr hs hfm;have hrun:=zml (zcj e).st cs hcs hok.len;have hfirst:=znB (zcj e).st cs hok hcs hw most (by omega);generalize (zcj e).st=st at hok hrun hfirst ⊢
 (refine Qa ?_;intros)
 refine zhs hrun ?_;rintro v H' nx' ⟨rfl,rfl,rfl⟩
 (refine Qa ?_;intros)
 refine zhs hfirst ?_;rintro v H' nx' ⟨rfl,rfl,rfl⟩
 have hwf:∀n:Int,n=0∨n=15→InR .i64 n:=fun n h=>by
  rcases h with rfl|rfl<;>exact⟨by decide,by decide⟩
 have hE:zf8 st cs most.toNat=0∨zf8 st cs most.toNat=15:=by
  unfold zf8;split
  ·
   unfold endR
   split<;>simp
  · exact .inl rfl
 generalize zf8 st cs most.toNat=er at hE ⊢;generalize zma st cs most.toNat=li
 by_cases h2:er=0
 ·
  rw[if_neg (fun h=>h h2)];simp only[zb6]
  (repeat first|simp(disch:=try exact dis1) only[evD,Nat.reduceBEq,Nat.reduceAdd,Nat.reduceLeDiff,dF,zdL]|with_reducible first|intro _|refine aJ ?_)
  exact retE _ _ _ _ (.sl _ _ _ _)
 ·
  rw[if_pos h2]
  have h3:er=15:=by omega
  simp only[zb6]
  (refine Qag ?_;intros)
  have r:=retE [(0,.row 1 [] 0),(1,.row 1 [[.int .i64 er]] 0),(2,.row 1 [[.fn (.func zcm) [.ptr 1 0 0 0 0]]] 0),(3,.row 1 [] 0)] (.own 3 0 0 0 0) [] er (zau (l:=[]) trivial rfl (by simp only[Wa];omega));exact⟨r,r⟩
def zkl:ACode:=.seq (.region [ Yaj,(oN 3 (.rbox (.t 1))),Yam] [0,1,4]) (.seq (.seq (.region [ (oA 10 2 2),(oL 11 3),(oN 12 (.call za9 [(.t 10),(.c (.nilsl)),(.t 11)])),(oM 9 12),(oT 13 0 9),(oT 14 1 9),(oM 5 13),(oM 6 14)] [5,9,10,11,12,13,14]) (.seq (.region [ (oM 15 6),(oC 16 .neq 15 0)] [6,15]) (.cond (.t 16) (.seq (.region [ Yam] [2,3,16]) (.ret)) (.skip)))) (.seq (.seq (.region [ (oL 17 3),(oC 18 .leq 17 0)] [4,16,17]) (.cond (.t 18) (.seq (.region [ (oN 19 (.buildSl 1 1 [.nilsl] [(0,(.c (.nilsl)))])),(oM 4 19)] [2,3,18,19]) (.ret)) (.skip))) (.seq (.region [ (oN 7 (.alloc [.nilsl]))] [4,18]) (.seq (.region [ (oN 8 (.alloc [.nilfn]))] []) (.seq (.region [ (oN 20 (.mkfn (.func zbU) [(.t 2),(.t 3),(.t 7),(.t 8)])),(oS 1 8 20)] [2,3,20]) (.seq (.seq (.region [ (oL 21 8),(oN 22 (.buildSl 1 1 [.int .i64 0] [(0,(.c (.int .i64 0)))])),(oN 23 (.callv (.t 21) [(.t 22)])),(oN 24 (.un .not (.t 23)))] [8,21,22,23]) (.cond (.t 24) (.seq (.region [ Yam] [7,24]) (.ret)) (.skip))) (.seq (.region [ (oL 25 7),(oM 4 25)] [7,24,25]) (.ret))))))))
def zcl:List ARet:=[.tmp 4]
theorem zpC:zT Tryz.prog zfN (qRo [2,3])=some (zkl.strip,zcl,26):=by kernel_rfl
def zgk:ACode:=.seq (.region [ (oL 36 3),(oE 37 36),(oC 38 .leq 37 1024),(oM 6 38)] [3,36,37,38]) (.ret)
def zgs:ACode:=.cond (.t 54) (.seq (.region [ (oN 6 (.mov (.c (.bool false))))] [0,4,42,43,44,54]) (.ret)) (.skip)
def zfW:ACode:=.seq (.region [ (oB 45 .lss 44 43)] []) (.seq (.cond (.t 45) (.skip) (.exit 0)) (.seq (.block 1 (.seq (.region [ (oI 46 1 42 44),(oL 47 46),(oM 9 47)] [45,46,47]) (.join (.draw ( .step (oM 49 0) ( .step (oM 50 9) ( .alt (oL 48 4) ( .alt (oN 51 (.buildSl 1 1 [.int .i64 0] [(0,(.t 50))])) ( .alt (oN 52 (.append2 1 8 (.t 49) (.t 51))) ( .alt (oN 53 (.callv (.t 48) [(.t 52)])) ( .step (oN 54 (.un .not (.t 53))) ( .done)) ( .stop)) ( .stop)) ( .stop)) ( .alt (oN 51 (.buildSl 1 1 [.int .i64 0] [(0,(.t 50))])) ( .alt (oL 48 4) ( .alt (oN 52 (.append2 1 8 (.t 49) (.t 51))) ( .alt (oN 53 (.callv (.t 48) [(.t 52)])) ( .step (oN 54 (.un .not (.t 53))) ( .done)) ( .stop)) ( .stop)) ( .alt (oN 52 (.append2 1 8 (.t 49) (.t 51))) ( .step (oL 48 4) ( .alt (oN 53 (.callv (.t 48) [(.t 52)])) ( .step (oN 54 (.un .not (.t 53))) ( .done)) ( .stop))) ( .stop))) ( .stop))))) [9,48,49,50,51,52,53]) (zgs)))) (.region [ (oC 55 .add 44 1),(oM 44 55)] [6,54,55])))
def zgb:ACode:=.seq (.region [ (oN 6 (.mov (.c (.bool true))))] [0,4,42,43,44]) (.ret)
def zf6:ACode:=.seq (.seq (.region [ (oM 22 7),(oE 23 22),(oC 24 .eql 23 0),(oM 25 24),(oG 26 25 false (.mov (.t 0))),(oG 27 25 false (.len (.t 26))),(oG 28 25 false (.load false 1 (.t 2))),(oG 29 25 false (.bin .eql (.t 27) (.t 28))),(oN 30 (.pick (.t 25) (.c (.bool true)) (.t 29)))] [2,22,23,24,25,26,27,28,29]) (.cond (.t 30) (.join (.draw ( .step (oM 32 0) ( .alt (oL 31 3) ( .alt (oN 33 (.call zw [(.t 32)])) ( .alt (oN 34 (.buildSl 1 1 [.nilsl] [(0,(.t 33))])) ( .alt (oN 35 (.append 1 24 (.t 31) (.t 34))) ( .alt (oS 1 3 35) ( .done) ( .stop)) ( .stop)) ( .stop)) ( .stop)) ( .alt (oN 33 (.call zw [(.t 32)])) ( .alt (oL 31 3) ( .alt (oN 34 (.buildSl 1 1 [.nilsl] [(0,(.t 33))])) ( .alt (oN 35 (.append 1 24 (.t 31) (.t 34))) ( .alt (oS 1 3 35) ( .done) ( .stop)) ( .stop)) ( .stop)) ( .alt (oN 34 (.buildSl 1 1 [.nilsl] [(0,(.t 33))])) ( .step (oL 31 3) ( .alt (oN 35 (.append 1 24 (.t 31) (.t 34))) ( .alt (oS 1 3 35) ( .done) ( .stop)) ( .stop))) ( .stop))) ( .stop)))) [0,4,7,30,31,32,33,34,35]) (zgk)) (.skip))) (.seq (.region [ (oM 39 7),(oN 40 (.call zcF [(.t 39)]))] [3,6,30,39,40]) (.seq (.seq (.region [ (oM 41 7),(oN 42 (.call zY [(.t 41)])),(oE 43 42),(oK 44 0)] [7,41]) (.block 0 (.loop zfW))) (zgb)))
def ziF:ACode:=.seq (.region [ (oN 6 (.mov (.c (.bool false))))] [6]) (.join (.draw ( .step (oF 10 1 1 1) ( .step (oM 12 0) ( .step (oM 13 0) ( .step (oE 14 13) ( .step (oC 15 .sub 14 1) ( .alt (oL 11 10) ( .alt (oI 16 1 12 15) ( .alt (oL 17 16) ( .alt (oI 18 2 11 17) ( .alt (oA 19 2 18) ( .step (oN 20 (.callq zaB [(.t 19)])) ( .alt (oN 21 (.call zw [(.t 20)])) ( .step (oM 7 21) ( .done)) ( .stop))) ( .stop)) ( .stop)) ( .stop)) ( .stop)) ( .alt (oI 16 1 12 15) ( .alt (oL 11 10) ( .alt (oL 17 16) ( .alt (oI 18 2 11 17) ( .alt (oA 19 2 18) ( .step (oN 20 (.callq zaB [(.t 19)])) ( .alt (oN 21 (.call zw [(.t 20)])) ( .step (oM 7 21) ( .done)) ( .stop))) ( .stop)) ( .stop)) ( .stop)) ( .alt (oL 17 16) ( .alt (oL 11 10) ( .alt (oI 18 2 11 17) ( .alt (oA 19 2 18) ( .step (oN 20 (.callq zaB [(.t 19)])) ( .alt (oN 21 (.call zw [(.t 20)])) ( .step (oM 7 21) ( .done)) ( .stop))) ( .stop)) ( .stop)) ( .stop)) ( .stop))) ( .stop)))))))) [1,10,11,12,13,14,15,16,17,18,19,20,21]) (zf6))
def zdm:List ARet:=[.tmp 6]
theorem zno:zT Tryz.prog zbU (qRoL [1052] [(1,[0,1,2,3,4,5,6,7,8,9,10,12,13,14,15,16,17,18,19,20,21,22,23,24,25,26,27,28,29,30,31,32,33,34,35,36,37,38,39,40,41,42,43,44,45,46,47,48,49,50,51,52,53,54,55,56,57,58,59,60,61,62,63,64,65,66,67,68,69,70,71,72,73,74,75,76,77,78,79,80,81,82,83,84,85,86,87,88,89,90,91,92,93,94,95,96,97,98,99,100,101,102,103,104,105,106,107,108,109,110,111,112,113,114,115,116,117,118,119,120,121,122,123,124,125,126,127,128,129,130,131,132,133,134,135,136,137,138,139,140,141,142,143,144,145,146,147,148,149]),(3,[0,1,3,4,5,6,7,8,9,10,11,12,13,14,15,16,17,18,19,20,21,22,23,24,25,26,27,28,29,30,31,32,33,34,35,36,37,38,39,40,41,42,43,44,45,46,47,48,49,50,51,52,53,54,55,56,57,58,59,60,61,62,63,64,65,66,67,68,69,70,71,72,73,74,75,76,77,78,79,80,81,82,83,84,85,86,87,88,89,90,91,92,93,94,95,96,97,98,99,100,101,102,103,104,105,106,107,108,109,110,111,112,113,114,115,116,117,118,119,120,121,122,123,124,125,126,127,128,129,130,131,132,133,134,135,136,137,138,139,140,141,142,143,144,145,146,147,148,149])])=some (ziF.strip,zdm,56):=by kernel_rfl
def zqw (g:G) (path:List Int):List Int:=zx (blkG g (path.getLast?.getD 0).toNat).stmts
def ze4 (rec:List Int→List (List Int)→Bool × List (List Int)):List Int→List Int→List (List Int)→Bool × List (List Int)
 | [],_,out=>(true,out)
 | b::l,path,out=>if (rec (path++[b]) out).1 then ze4 rec l path (rec (path++[b]) out).2 else (false,(rec (path++[b]) out).2)
def endF (g:G) (most:Int) (path:List Int):Prop:=(zqw g path).length=0∨(path.length:Int)=most
instance (g:G) (most:Int) (path:List Int):Decidable (endF g most path):=by unfold endF;infer_instance
def zbk (g:G) (most:Int):Nat→List Int→List (List Int)→Bool × List (List Int)
 | 0,path,out=>if endF g most path then (decide (out.length+1≤1024),out++[path]) else (true,out)
 | f+1,path,out=>if endF g most path then (decide (out.length+1≤1024),out++[path]) else ze4 (zbk g most f) (zaN (zhl (zqw g path))) path out
def cP (p:List Int):List AV:=[za p]
def zmm (g:G) (most:Int):List AV:=[.iptr 2 fun j=>g.cells.getD j .undef,.iptr 1 fun j=>[AV.int .i64 most].getD j .undef,.ptr 0 0 0 0 0,.ptr 3 0 0 0 0]
def zeI (g:G) (most:Int) (γ γ2:Nat) (out:List (List Int)) (els:List Int):AH :=
 [(0,.row 1 [[.own 1 0 γ 0 out.length]] 0),(1,.row 1 (out.map cP) γ),(2,.row 1 (els.map cI) γ2),(3,.row 1 [[.fn (.func zbU) (zmm g most)]] 0)]
theorem zs7 {g:G} {most:Int} {n:Nat} (hn:4≤n):∀a∈zmm g most,AV.Below n a:=fun a ha=>by
 unfold zmm at ha;simp only[Wq,List.not_mem_nil,or_false] at ha
 rcases ha with rfl|rfl|rfl|rfl
 · exact .iptr _ _
 · exact .iptr _ _
 · exact .ptr _ _ _ _ _ (by omega)
 · exact .ptr _ _ _ _ _ (by omega)
theorem mapB {α:Type} {n:Nat} {f:α→AV} {l:List α} (h:∀a,AV.Below n (f a)):∀c∈l.map fun a=>[f a],∀v∈c,AV.Below n v:=fun c hc v hv=>by obtain⟨a,_,rfl⟩:=WF.1 hc;rw[We.1 hv];exact h a
theorem zgE {g:G} {most:Int} {γ γ2:Nat} {out:List (List Int)} {els:List Int} {n:Nat} (hn:4≤n) (T:AH) (hT:LowH n T):LowH n (zeI g most γ γ2 out els++T):=by unfold zeI;exact .cons (by omega) (zrh (.own _ _ _ _ _ (by omega))) (.cons (by omega) (mapB fun p=>.sl _ _ _) (.cons (by omega) (mapB fun p=>.int _ _) (.cons (by omega) (zrh (.fn _ _ (zs7 hn))) hT)))
theorem put_in {path junk:List Int} {b:Int}:((path++junk).map cI).take (0+path.length)++[[AV.int .i64 b]]++((path++junk).map cI).drop (0+path.length+1)=((path++[b])++junk.drop 1).map cI:=by rw[WC,←WK,←List.map_drop,WL,←List.drop_drop,List.drop_left];simp[cI]
theorem zCb {path junk:List Int} {b:Int}:(((path++junk).map cI).drop 0).take path.length++[[AV.int .i64 b]]=((path++[b])++[]).map cI:=by rw[List.drop_zero,←WK,WL];simp[cI]
theorem zsO {rec:List Int→List (List Int)→Bool × List (List Int)} {l:List Int} {i:Nat} (h:i < l.length) {path:List Int} {out:List (List Int)} :
  ze4 rec (l.drop i) path out=if (rec (path++[l[i]]) out).1 then ze4 rec (l.drop (i+1)) path (rec (path++[l[i]]) out).2 else (false,(rec (path++[l[i]]) out).2):=by
 rw[List.drop_eq_getElem_cons h,ze4]
theorem zsl {l:List Int} {x:Int} (h:x∈zaN l):x∈l:=by
 unfold zaN zaQ at h;obtain⟨j,hj,rfl⟩:=WF.1 h;unfold Dm.filR at hj;have hl:=List.mem_range.1 (List.mem_filter.1 hj).1
 have e:l.getD j 0=l[j]:=by simp[Wl,hl]
 rw[e];exact Wt hl
theorem zwW (l junk:List Int) (g:Nat) (hl:l.length≤1000) (h0:l.length≠0):z8 Tryz.prog zw [.own 0 0 g 0 l.length] [(0,.row 1 ((l++junk).map cI) g)] 1
  (fun v H nx=>v=za l∧H=[(0,.row 1 ((l++junk).map cI) g)]∧nx=1):=by
 refine zaa (fn_x zbs rfl ?_);unfold zaI;have hB:=hBig
 have e1:nilB false (.own 0 0 g 0 l.length)=some (some false):=by unfold nilB;simp only[zE h0];rfl
 have hlen:((l++junk).map cI).length=l.length+junk.length:=by simp
 have htk:((l++junk).map cI).take l.length=(l++[]).map cI:=by rw[←WK,WL,WJ]
 (repeat first|simp(disch:=try exact dis1) only[evD,Nat.reduceBEq,Nat.reduceAdd,Nat.reduceLeDiff,e1,hlen,htk,zG]|with_reducible first|intro _|refine aJ ?_)
 exact⟨_,_,_,Ent.lowFB (Wf _) (fun r o h=>by
  refine Wn (AH.look_app2 r [(0,.row 1 ((l++junk).map cI) g)] _) ?_
  rw[h]) (.cons (by decide) (mapB fun p=>.int _ _) (.nil 1)) ⟨zau (l:=l) (show 1≤2 by decide) rfl (by omega),trivial⟩,rfl,rfl,rfl⟩
theorem zoy {rec:List Int→List (List Int)→Bool × List (List Int)} (h:∀p o,o.length≤1024→(rec p o).1=true→(rec p o).2.length≤1024):∀(l path:List Int) (out:List (List Int)),out.length≤1024→(ze4 rec l path out).1=true→(ze4 rec l path out).2.length≤1024
 | [],path,out,ho,_=>ho
 |
  b::l,path,out,ho,ht=>by
  rw[ze4] at ht ⊢;split at ht
  · rename_i h1;rw[if_pos h1];exact zoy h l path _ (h _ _ ho h1) ht
  · cases ht
theorem zld (g:G) (most:Int):∀(f:Nat) (path:List Int) (out:List (List Int)),out.length≤1024→(zbk g most f path out).1=true→(zbk g most f path out).2.length≤1024
 |
  0,path,out,ho,ht=>by
  rw[zbk] at ht ⊢;split at ht
  · rename_i h;rw[if_pos h];simpa using ht
  · rename_i h;rw[if_neg h];exact ho
 |
  f+1,path,out,ho,ht=>by
  rw[zbk] at ht ⊢;split at ht
  · rename_i h;rw[if_pos h];simpa using ht
  · rename_i h;rw[if_neg h];exact zoy (zld g most f) _ _ _ ho ht
theorem zq7 {H:AH} {a b c d:AObj} (h0:H.look 0=some a) (h1:H.look 1=some b) (h2:H.look 2=some c) (h3:H.look 3=some d):∀r o,AH.look [(0,a),(1,b),(2,c),(3,d)] r=some o→H.look r=some o:=fun r o h=>match r,h with
 | 0,h=>h0.trans h
 | 1,h=>h1.trans h
 | 2,h=>h2.trans h
 | 3,h=>h3.trans h
 | _+4,h=>by cases h
theorem znu {H:AH} {a b c d e:AObj} (h0:H.look 0=some a) (h1:H.look 1=some b) (h2:H.look 2=some c) (h3:H.look 3=some d) (h4:H.look 4=some e):∀r o,AH.look [(0,a),(1,b),(2,c),(3,d),(4,e)] r=some o→H.look r=some o:=fun r o h=>match r,h with
 | 0,h=>h0.trans h
 | 1,h=>h1.trans h
 | 2,h=>h2.trans h
 | 3,h=>h3.trans h
 | 4,h=>h4.trans h
 | _+5,h=>by cases h
theorem zt6 {P:Program} {r r2 n γ γ2:Nat} {v:AV} {els:List (List AV)} {d:Option Nat} {rr:Rest} {drop:List Nat} {Q:QT} {K:Kn} {H:AH} {nx:Nat} (hx:H.get r 0=some (.row 1 els γ)) (hy:H.get r2 0=some (.row 1 [[v]] γ2)) (hn:n≤els.length) (hb:(n+1) * 8≤140737488355328)
  (h1:zax P rr drop Q (setO K d (.own r 0 γ 0 (n+1))) (H.set r 0 (.row 1 (els.take (0+n)++[[v]]++els.drop (0+n+1)) γ)) nx) (h2:zax P rr drop Q (setO K d (.own nx 0 0 0 (n+1))) (H.set nx 0 (.row 1 ((els.drop 0).take n++[[v]]) 0)) (nx+1)) :
  zzQ P 1 8 (.own r 0 γ 0 n) (.own r2 0 γ2 0 1) d rr drop Q K H nx:=by
 unfold zzQ zkp
 have e1:zd5 1 (.own r2 0 γ2 0 1) H=some [[v]]:=by unfold zd5;simp only[hy,zz,Wj,cond_true];rfl
 have e2:lenV (.own r2 0 γ2 0 1)=some 1:=rfl;simp only[e1,e2,hx];refine⟨⟨trivial,trivial,by omega,?_,hb,by decide⟩,h1,h2⟩;unfold fits;simp only[hy];exact Wf _
theorem zqx {H H2:AH} {σ:Nat→Nat→Option (Nat × Nat × Nat)} {D:Nat→Nat→Prop} {g:G} {most:Int} (h0:σ 0 0=some (0,0,0)) (h3:σ 3 0=some (3,0,0)):VwL H H2 σ D true (zmm g most) (zmm g most) :=
 ⟨.iptr _ _ _,.iptr _ _ _,.ptr _ _ _ 0 _ _ _ _ _ h0 rfl,.ptr _ _ _ 0 _ _ _ _ _ h3 rfl,trivial⟩
theorem zvn {f:Nat→Nat} {l:List (List Int)} {g:Nat}:AObj.ren f (.row 1 (l.map cP) g)=.row 1 (l.map cP) g:=by
 have e:∀l:List (List Int),(l.map cP).map (fun c=>c.map (AV.ren f))=l.map cP:=fun l=>by
  induction l with
  | nil=>rfl
  |
   cons a l ih =>
   rw[Wm,Wm,ih];simp only[cP,za,encL,Wm,Ws,AV.ren]
 show AObj.row 1 ((l.map cP).map fun c=>c.map (AV.ren f)) g=_;rw[e]
theorem zmd {g:G} {most:Int} {γ γ2:Nat} {out:List (List Int)} {p els:List Int}:zeI g most γ γ2 (out++[p]) els=[(0,.row 1 [[.own 1 0 γ 0 (out.length+1)]] 0),(1,.row 1 (out.map cP++[cP p]) γ),(2,.row 1 (els.map cI) γ2),(3,.row 1 [[.fn (.func zbU) (zmm g most)]] 0)]:=by simp[zeI]
theorem zws {g:G} {most:Int} {γ γ2:Nat} {out:List (List Int)} {els:List Int} {n:Nat} (hn:4≤n):LowH n (zeI g most γ γ2 out els):=by
 have:=zgE (g:=g) (most:=most) (γ:=γ) (γ2:=γ2) (out:=out) (els:=els) hn [] (.nil n)
 simpa using this
theorem retF {g:G} {most:Int} {γ γ' γ2:Nat} {out:List (List Int)} {path junk:List Int} {b:Bool} {H:AH} {nx:Nat} {Q:AV→AH→Nat→Prop} (hH:∀r o,(zeI g most γ' γ2 out (path++junk)).look r=some o→H.look r=some o) (hq:Q (.bool b) (zeI g most γ' γ2 out (path++junk)) 4):zrD 4 Q (.bool b) H nx :=
 ⟨_,_,_,Ent.lowB (Wf _) hH (by have:=zgE (g:=g) (most:=most) (γ:=γ') (γ2:=γ2) (out:=out) (els:=path++junk) (Wf 4) [] (.nil 4);simpa using this) ⟨⟨rfl,.bool _⟩,trivial⟩,hq⟩
theorem Qah {p q:Prop}(k:q)(h:Im q p:=by(repeat first|simp(disch:=try exact dis1) only[evD,Nat.reduceBEq,Nat.reduceAdd,Nat.reduceLeDiff,zmm] | ((with_reducible apply Im.i);intro _) | ((with_reducible apply Im.a);omega));exact Im.r):p:=h k
theorem Qai {p q:Prop}(k:q)(h:Im q p:=by(repeat first|simp(disch:=try exact dis1) only[evD,Nat.reduceBEq,Nat.reduceAdd,Nat.reduceLeDiff,zdm] | ((with_reducible apply Im.i);intro _) | ((with_reducible apply Im.a);omega));exact Im.r):p:=h k
theorem zoz (g:G) (hg:OkG g) (hs:∀b∈g.blocks,(zx b.stmts).length≤1000) (most:Int) (hm:most≤1000):∀(f:Nat) (path junk:List Int) (out:List (List Int)) (γ γ2:Nat),(path.length:Int)+f=most→path.length≠0→(∀b∈path,0≤b∧b < g.blocks.length)→out.length≤1024 →
  ∀Q:AV→AH→Nat→Prop,(∀γ' junk',Q (.bool (zbk g most f path out).1) (zeI g most γ' γ2 (zbk g most f path out).2 (path++junk')) 4)→z8 Tryz.prog zbU (.own 2 0 γ2 0 path.length::zmm g most) (zeI g most γ γ2 out (path++junk)) 4 Q:=by
 intro f
 induction f using Nat.strongRecOn with
 | ind f ih0 =>
 intro path junk out γ γ2 hf hp0 hpr ho Q hQ;refine zaa (fn_x zno rfl ?_);unfold ziF;have hB:=hBig;obtain⟨ad,l⟩:=g;simp only[G.cells,zeI,zmm];simp only at hs hpr
 have hpl:path.length≤1000:=by omega
 have hlen:((path++junk).map cI).length=path.length+junk.length:=by simp
 have hw1:IntKind.i64.wrap ((path.length:Int) - 1)=(path.length:Int) - 1:=zmO (by omega) (by omega)
 have hidx:(((path.length:Nat):Int) - 1).toNat=path.length - 1:=by omega
 obtain⟨x,hx,hx1⟩:∃x:Nat,path.getLast?.getD 0=(x:Int)∧x < l.length:=by
  have hm:=hpr (path.getLast?.getD 0) (by
   rw[WD,WE (by omega)]
   exact Wt _)
  exact⟨(path.getLast?.getD 0).toNat,(Ww hm.1).symm,by have:=hm.2;omega⟩
 have hlast:((path++junk).map cI).getD (path.length - 1) []=[.int .i64 x]:=by rw[zn (f:=cI) (show path.length - 1 < (path++junk).length by simp;omega),WN (by omega),←hx];rw[WD,WE (by omega)];rfl
 have hmem:=Wt hx1;have hgb:(l.map Bl.cells).getD x []=[.int .u32 l[x].addr,encL 8 St.cells l[x].stmts]:=zn hx1;have hll:=hg.few;have hsh:=hs _ hmem;simp only at hll
 have hnx:zqw ⟨ad,l⟩ path=zx l[x].stmts:=by unfold zqw blkG;simp only[hx,Wy];simp[Wl,hx1]
 have hpo:=zep l[x] (hg.ends _ hmem);simp only[Bl.cells] at hpo
 (refine Ql ?_;intros)
 refine zf4 (fun _:Unit=>([(0,.own 2 0 γ2 0 path.length),(2,.iptr 1 fun j=>[AV.int .i64 most].getD j .undef),(3,.ptr 0 0 0 0 0),(4,.ptr 3 0 0 0 0),(7,.own 4 0 0 0 (zx l[x].stmts).length)],zeI ⟨ad,l⟩ most γ γ2 out (path++junk)++[(4,.row 1 ((zx l[x].stmts).map cI) 0)])) 5 (fun _=>True) ?_ ?_
 ·
  (repeat first|simp(disch:=try exact dis1) only[evD,Nat.reduceBEq,Nat.reduceAdd,Nat.reduceLeDiff,fldP,dT,hlen,hw1,hidx,hlast,hgb,Wx,za,Wy]|with_reducible first|intro _|refine aJ ?_)
  (repeat' apply Wz)
  all_goals try omega
  all_goals
   refine zck (zg hpo rfl) ?_
   (refine Qo ?_;intros)
   refine zbr [] 0 _ (Dm.slices_Clone_ok (zx l[x].stmts) hsh) rfl rfl Qan Qan ?_;rintro v H' nx' ⟨rfl,rfl,rfl⟩
   (refine Qo ?_;intros)
   refine⟨(),Ent.lowB (by decide) (fun r o h=>h) (zgE (by decide) _ (.cons (by decide) (mapB fun p=>.int _ _) (.nil 5))) ?_⟩;exact⟨⟨rfl,.own _ _ _ _ _ (by decide)⟩,⟨rfl,.iptr _ _⟩,⟨rfl,.ptr _ _ _ _ _ (by decide)⟩,⟨rfl,.ptr _ _ _ _ _ (by decide)⟩,⟨rfl,.own _ _ _ _ _ (by decide)⟩,trivial⟩
 ·
  rintro u - wf;clear wf;simp only[zeI,Wc,Wd];unfold zf6;generalize hT:zx l[x].stmts=T at hnx hsh ⊢
  have hlen1:(out.map cP).length=out.length:=by simp
  by_cases hend:endF ⟨ad,l⟩ most path
  ·
   have hR:zbk ⟨ad,l⟩ most f path out=(decide (out.length+1≤1024),out++[path]):=by cases f<;>rw[zbk,if_pos hend]
   rw[hR] at hQ
   have hor:(decide ((T.length:Int)=0)=true)∨(decide ((T.length:Int)=0)=false∧decide ((path.length:Int)=most)=true):=by
    unfold endF at hend;rw[hnx] at hend
    by_cases h:T.length=0
    · exact .inl (by simp[h])
    · exact .inr ⟨by simpa using h,by simpa [h] using hend⟩
   cases hor
   case' inl hd1=>(repeat first|simp(disch:=try exact dis1) only[evD,Nat.reduceBEq,Nat.reduceAdd,Nat.reduceLeDiff,fldP,hd1]|with_reducible first|intro _|refine aJ ?_)
   case' inr hd=>(repeat first|simp(disch:=try exact dis1) only[evD,Nat.reduceBEq,Nat.reduceAdd,Nat.reduceLeDiff,fldP,hd.1,hd.2]|with_reducible first|intro _|refine aJ ?_)
   all_goals
    refine zf4 (fun _:Unit=>([(3,.ptr 0 0 0 0 0)],zeI ⟨ad,l⟩ most (γ+1) γ2 (out++[path]) (path++junk))) 4 (fun _=>True) ?_ ?_
    ·
     (refine Ql ?_;intros)
     (repeat' apply Wz)
     all_goals
      refine zbr [(0,2,0)] 1 _ (zwW path junk γ2 hpl hp0) rfl rfl Qam Qam ?_;rintro v H' nx' ⟨rfl,rfl,rfl⟩
      (repeat first|simp(disch:=try exact dis1) only[evD,Nat.reduceBEq,Nat.reduceAdd,Nat.reduceLeDiff,za,hlen1]|with_reducible first|intro _|refine aJ ?_)
      (repeat' apply Wz)
      all_goals try omega
      all_goals exact⟨(),Ent.lowB (Wf _) (by rw[zmd];exact zq7 rfl rfl rfl rfl) (zws (Wf _)) ⟨⟨rfl,.ptr _ _ _ _ _ (by decide)⟩,trivial⟩⟩
    ·
     rintro u - wf;clear wf;rw[zmd];unfold zgk
     (repeat first|simp(disch:=try exact dis1) only[evD,Nat.reduceBEq,Nat.reduceAdd,Nat.reduceLeDiff,fldP,zdm]|with_reducible first|intro _|refine aJ ?_)
     have e:decide (((out.length+1:Nat):Int)≤1024)=decide (out.length+1≤1024):=by rw[Bool.eq_iff_iff,decide_eq_true_eq,decide_eq_true_eq];omega
     rw[e];exact retF (γ:=0) (γ':=γ+1) (out:=out++[path]) (junk:=junk) (by rw[zmd];exact zq7 rfl rfl rfl rfl) (hQ _ _)
  ·
   obtain⟨f,rfl⟩:∃f',f=f'+1:=⟨f - 1,by
    have:f≠0:=fun h0=>hend (.inr (by omega))
    omega⟩
   have ih:=ih0 f (Nat.lt_succ_self f)
   have hR:zbk ⟨ad,l⟩ most (f+1) path out=ze4 (zbk ⟨ad,l⟩ most f) (zaN (zhl T)) path out:=by rw[zbk,if_neg hend,hnx]
   rw[hR] at hQ
   have hd1:decide ((T.length:Int)=0)=false:=by
    rw[decide_eq_false_iff_not]
    exact fun h=>hend (.inl (by rw[hnx];omega))
   have hd2:decide ((path.length:Int)=most)=false:=by
    rw[decide_eq_false_iff_not]
    exact fun h=>hend (.inr h)
   have hsrt:=fun H nx hr=>zsW (r:=4) (q:=0) (g:=0) (zs:=T) (H:=H) (nx:=nx) hr (by omega)
   have hsl:(zhl T).length=T.length:=(zdx T).length_eq
   (repeat first|simp(disch:=try exact dis1) only[evD,Nat.reduceBEq,Nat.reduceAdd,Nat.reduceLeDiff,fldP,hd1,hd2]|with_reducible first|intro _|refine aJ ?_)
   refine zhs (hsrt _ _ rfl) ?_;rintro v H' nx' he;obtain⟨rfl,rfl,rfl⟩:=he;have hcp:=zim (zhl T) 0 (by omega);rw[hsl] at hcp
   (refine Ql ?_;intros)
   refine zbr [(0,4,0)] 1 _ (hcp) rfl rfl Qam Qam ?_;rintro v H' nx' ⟨m,rfl,rfl,rfl⟩;generalize hC:zaN (zhl T)=C at hQ ⊢
   have hCm:∀b∈C,0≤b∧b < l.length:=fun b hb=>by rw[←hC] at hb;have h1:=(zdx T).mem_iff.1 (zsl hb);rw[←hT] at h1;exact hg.tgt _ hmem b h1
   have hCl:C.length≤1000:=by rw[←hC];exact Wu zpZ (by omega)
   (refine Ql ?_;intros)
   refine zo (fun s:Nat × List (List Int) × Nat × List Int=>([(0,.own 2 0 γ2 0 path.length),(4,.ptr 3 0 0 0 0),(42,.own 4 0 0 0 C.length),(43,.int .i64 C.length),(44,.int .i64 s.1)],zeI ⟨ad,l⟩ most s.2.2.1 γ2 s.2.1 (path++s.2.2.2)++[(4,.row 1 ((C++m).map cI) 0)])) 5
    (fun s=>s.1≤C.length∧s.2.1.length≤1024∧ze4 (zbk ⟨ad,l⟩ most f) (C.drop s.1) path s.2.1=ze4 (zbk ⟨ad,l⟩ most f) C path out) (fun s=>C.length - s.1) (0,out,γ,junk) ⟨Wk _,ho,rfl⟩ ?_ ?_
   · exact Ent.lowB (by decide) (znu rfl rfl rfl rfl rfl) (zgE (by decide) _ (.cons (by decide) (mapB fun p=>.int _ _) (.nil 5))) ⟨⟨rfl,.own _ _ _ _ _ (by decide)⟩,⟨rfl,.ptr _ _ _ _ _ (by decide)⟩,⟨rfl,.own _ _ _ _ _ (by decide)⟩,⟨rfl,.int _ _⟩,⟨rfl,.int _ _⟩,trivial⟩
   rintro⟨i,out1,γ1,junk1⟩ ⟨hi,ho1,hgo⟩ wf;simp only at hi ho1 hgo;clear wf;unfold zfW;simp only[zeI,Wc,Wd]
   by_cases hil:i < C.length
   ·
    rw[zsO hil] at hgo;have hbm:=hCm C[i] (Wt hil)
    have hgc:((C++m).map cI).getD i []=[.int .i64 C[i]]:=by
     rw[zn (f:=cI) (show i < (C++m).length by simp;omega),WN hil]
     try rfl
    have hcl:((C++m).map cI).length=C.length+m.length:=by simp
    generalize C[i]=b at hgo hbm hgc
    (repeat first|simp(disch:=try exact dis1) only[evD,Nat.reduceBEq,Nat.reduceAdd,Nat.reduceLeDiff,dT,hgc,hcl,Wy]|with_reducible first|intro _|refine aJ ?_)
    refine zf4 (fun s:Nat × List Int=>([(0,.own 2 0 γ2 0 path.length),(4,.ptr 3 0 0 0 0),(42,.own 4 0 0 0 C.length),(43,.int .i64 C.length),(44,.int .i64 i),(54,.bool (!(zbk ⟨ad,l⟩ most f (path++[b]) out1).1))],zeI ⟨ad,l⟩ most s.1 γ2 (zbk ⟨ad,l⟩ most f (path++[b]) out1).2 (path++s.2)++[(4,.row 1 ((C++m).map cI) 0)])) 5 (fun _=>True) ?_ ?_
    ·
     have hpl1:(path++[b]).length=path.length+1:=by simp
     have hcal:∀junk γ2,z8 Tryz.prog zbU (.own 2 0 γ2 0 (path.length+1)::zmm ⟨ad,l⟩ most) (zeI ⟨ad,l⟩ most γ1 γ2 out1 ((path++[b])++junk)) 4
       (fun v H nx=>v=.bool (zbk ⟨ad,l⟩ most f (path++[b]) out1).1∧∃γ' junk',H=zeI ⟨ad,l⟩ most γ' γ2 (zbk ⟨ad,l⟩ most f (path++[b]) out1).2 ((path++[b])++junk')∧nx=4):=fun junk γ2=>by
      have:=ih (path++[b]) junk out1 γ1 γ2 (by rw[hpl1];omega) (by omega) (fun c hc=>by
       rcases List.mem_append.1 hc with hc|hc
       · exact hpr c hc
       · rw[We.1 hc];exact hbm) ho1 (fun v H nx=>v=.bool (zbk ⟨ad,l⟩ most f (path++[b]) out1).1∧∃γ' junk',H=zeI ⟨ad,l⟩ most γ' γ2 (zbk ⟨ad,l⟩ most f (path++[b]) out1).2 ((path++[b])++junk')∧nx=4) (fun γ' junk'=>⟨rfl,γ',junk',rfl,rfl⟩)
      rw[hpl1] at this;exact this
     generalize zbk ⟨ad,l⟩ most f (path++[b]) out1=R at hcal hgo ⊢
     (refine Qa ?_;intros)
     (repeat' with_reducible apply Wz)
     all_goals
      refine zt6 rfl rfl (by simp) (by omega) ?_ ?_
      ·
       rw[put_in]
       (refine Qa ?_;intros)
       refine⟨by kernel_rfl,?_⟩;refine zbr [(0,0,0),(1,1,0),(2,2,0),(3,3,0)] 4 _ (hcal (junk1.drop 1) γ2) rfl rfl ?_ ?_ ?_
       · simp only[evWB,Nat.reduceBEq,Nat.reduceAdd,Nat.reduceSub,Nat.reduceLeDiff,Nat.reduceLT,implies_true,zeI];exact⟨RowV.of_flat (zfO fun _=>rfl),zqx rfl rfl⟩
       · simp only[evWB,Nat.reduceBEq,Nat.reduceAdd,Nat.reduceSub,Nat.reduceLeDiff,Nat.reduceLT,implies_true];exact zqx rfl rfl
       rintro v H' nx' ⟨rfl,γ',junk',rfl,rfl⟩
       have e:path++[b]++junk'=path++(b::junk'):=by simp
       rw[e];simp only[zeI]
       (refine Qah ?_;intros)
       exact⟨(γ',b::junk'),Ent.lowB (by decide) (znu rfl (congrArg some zvn) rfl rfl rfl) (zgE (by decide) _ (.cons (by decide) (mapB fun p=>.int _ _) (.nil 5))) ⟨⟨rfl,.own _ _ _ _ _ (by decide)⟩,⟨rfl,.ptr _ _ _ _ _ (by decide)⟩,⟨rfl,.own _ _ _ _ _ (by decide)⟩,⟨rfl,.int _ _⟩,⟨rfl,.int _ _⟩,⟨rfl,.bool _⟩,trivial⟩⟩
      ·
       rw[zCb]
       (refine Qa ?_;intros)
       refine⟨by kernel_rfl,?_⟩;refine zbr [(0,0,0),(1,1,0),(2,6,0),(3,3,0)] 4 _ (hcal [] 0) rfl rfl ?_ ?_ ?_
       · simp only[evWB,Nat.reduceBEq,Nat.reduceAdd,Nat.reduceSub,Nat.reduceLeDiff,Nat.reduceLT,implies_true,zeI];exact⟨RowV.of_flat (zfO fun _=>rfl),zqx rfl rfl⟩
       · simp only[evWB,Nat.reduceBEq,Nat.reduceAdd,Nat.reduceSub,Nat.reduceLeDiff,Nat.reduceLT,implies_true];exact zqx rfl rfl
       rintro v H' nx' ⟨rfl,γ',junk',rfl,rfl⟩;simp only[zeI]
       (refine Qah ?_;intros)
       exact⟨(γ',junk1),Ent.lowB (by decide) (znu rfl (congrArg some zvn) rfl rfl rfl) (zgE (by decide) _ (.cons (by decide) (mapB fun p=>.int _ _) (.nil 5))) ⟨⟨rfl,.own _ _ _ _ _ (by decide)⟩,⟨rfl,.ptr _ _ _ _ _ (by decide)⟩,⟨rfl,.own _ _ _ _ _ (by decide)⟩,⟨rfl,.int _ _⟩,⟨rfl,.int _ _⟩,⟨rfl,.bool _⟩,trivial⟩⟩
    ·
     rintro⟨γ',junk'⟩ - wf;clear wf;unfold zgs;have hRl:=zld ⟨ad,l⟩ most f (path++[b]) out1 ho1;generalize zbk ⟨ad,l⟩ most f (path++[b]) out1=R at hgo hRl ⊢;obtain⟨ok,out2⟩:=R;simp only[zeI,Wc,Wd] at hgo hRl ⊢
     cases ok with
     |
      true =>
      rw[if_pos rfl] at hgo
      (refine Qa ?_;intros)
      exact⟨(i+1,out2,γ',junk'),⟨hil,hRl rfl,hgo⟩,by dsimp only;omega,Ent.lowB (by decide) (znu rfl rfl rfl rfl rfl) (zgE (by decide) _ (.cons (by decide) (mapB fun p=>.int _ _) (.nil 5))) ⟨⟨rfl,.own _ _ _ _ _ (by decide)⟩,⟨rfl,.ptr _ _ _ _ _ (by decide)⟩,⟨rfl,.own _ _ _ _ _ (by decide)⟩,⟨rfl,.int _ _⟩,⟨rfl,.int _ _⟩,trivial⟩⟩
     |
      false =>
      rw[if_neg (by decide)] at hgo;rw[←hgo] at hQ
      (refine Qai ?_;intros)
      exact retF (γ:=0) (γ':=γ') (out:=out2) (junk:=junk') (zq7 rfl rfl rfl rfl) (hQ _ _)
   ·
    obtain rfl:i=C.length:=by omega
    rw[List.drop_length,ze4] at hgo;rw[←hgo] at hQ
    (refine Qk ?_;intros)
    unfold zgb
    (refine Qai ?_;intros)
    exact retF (γ:=0) (γ':=γ1) (out:=out1) (junk:=junk1) (zq7 rfl rfl rfl rfl) (hQ _ _)
theorem zri (c1 c2:AV) (cs:List Int) (h1:c1.flat0=true) (h2:c2.flat0=true):z8 Tryz.prog zjw [.agg [c1,c2],encL 1 cW cs] [] 0 (fun v H nx=>v=.fn (.func zbw) [.iptr 1 fun j=>[encL 1 cW cs].getD j .undef,.iptr 2 fun j=>[c1,c2].getD j .undef]∧H=[]∧nx=0):=by
 refine fn_x zqW rfl ?_;unfold zlJ;have hB:=hBig
 (repeat first|simp(disch:=try exact dis1) only[evD,Nat.reduceBEq,Nat.reduceAdd,Nat.reduceLeDiff,za,zlm,h1,h2,Wj]|with_reducible first|intro _|refine aJ ?_)
def valW (s:Nat × Option Nat × Nat):Int:=((s.2.1.getD 0:Nat):Int)
def zhF (g:G) (cs:List Int) (most:Int):List Int:=itv (znW g cs) valW most.toNat (most.toNat,some 0,0)
theorem zvu {g:G} {cs:List Int}:∀ {k:Nat} {s0 s:Nat × Option Nat × Nat},itn (znW g cs) k s0=some s→s.1=s0.1 - k
 | 0,s0,s,h=>by cases h;rfl
 |
  k+1,(f,some b,j),s,h=>by
  simp only[itn,znW] at h;have:=zvu h;simp only at this ⊢;omega
 | k+1,(f,none,j),s,h=>by simp[itn,znW] at h
theorem zkx (g:G) (cs:List Int) (most:Int) (hf:manyB g) (hc:∀b∈g.blocks,∀s∈b.stmts,s.cases.length≤100000000) (hcs:cs.length≤1000000) (hm:most≤1000000∨65536 < most) (hw:∀c∈cs,0≤c∧c < 4294967296) (hG:zaV g=0→OkG g) :
  zk Tryz.prog za9 [.agg g.cells,encL 1 cW cs,.int .i64 most] (·=if zaV g≠0 then .tup [za [],.int .i64 (zaV g)] else if 65536 < most then .tup [za [],.int .i64 6] else .tup [za (zhF g cs most),.int .i64 0]):=by
 refine fn_x zpu rfl ?_;unfold zkt;have hB:=hBig;have hck:=zhx g hf hc
 have hwk:=fun h1 h2=>zri (.int .u32 g.addr) (encL 2 Bl.cells g.blocks) cs h1 h2
 have hit:=fun h n hn=>zoe g cs (hG h) hcs hw n hn
 generalize hE:zaV g=e at hck hit ⊢;simp only[G.cells] at hck hit ⊢
 (refine Ql ?_;intros)
 refine zc (zg hck rfl) ?_
 by_cases h0:e=0
 ·
  subst h0;have hOK:=hG hE
  by_cases h1:65536 < most
  ·
   (repeat first|simp(disch:=try exact dis1) only[evD,Nat.reduceBEq,Nat.reduceAdd,Nat.reduceLeDiff,dT,dF,zeP]|with_reducible first|intro _|refine aJ ?_)
   refine⟨.tup [za [],.int .i64 6],.tup _ _ _ rfl (fun j x y h1 h2=>match j with
    | 0=>by cases h1;cases h2;exact zau (l:=[]) trivial rfl (by simp only[Wa];omega)
    | 1=>by cases h1;cases h2;exact .int _ _ _
    | j+2=>by cases h1),?_⟩
   rw[if_neg (by simp),if_pos h1]
  ·
   (refine Qk ?_;intros)
   refine zvS (hwk rfl rfl) (zoX rfl) ?_;rintro v H' nx' ⟨rfl,rfl,rfl⟩;simp only[AV.ren,Wm,Ws,AH.plus,Nat.add_zero]
   (refine Qa ?_;intros)
   have hlend:∀H:AH,Lend H noR [AV.fn (.func zbw) [.iptr 1 fun j=>[encL 1 cW cs].getD j .undef,.iptr 2 fun j=>[.int .u32 g.addr,encL 2 Bl.cells g.blocks].getD j .undef],.int .i64 most] [AV.fn (.func zbw) [.iptr 1 fun j=>[encL 1 cW cs].getD j .undef,.iptr 2 fun j=>[.int .u32 g.addr,encL 2 Bl.cells g.blocks].getD j .undef],.int .i64 most]:=fun H=>by
    refine .cons (.fn _ _ _ _ rfl fun i a b h1 h2=>?_) (.cons (.int _ _ _) .nil);rw[h1] at h2;cases h2
    match i with
    | 0=>cases h1;exact .iptr _ _ _
    | 1=>cases h1;exact .iptr _ _ _
    | i+2=>simp at h1
   have hcaps:∀c∈[AV.iptr 1 fun j=>[encL 1 cW cs].getD j .undef,.iptr 2 fun j=>[AV.int .u32 g.addr,encL 2 Bl.cells g.blocks].getD j .undef],AV.Below 0 c:=fun c hc=>by
    rcases Wq.1 hc with h|hc
    · rw[h];exact .iptr _ _
    · rw[We.1 hc];exact .iptr _ _
   have hgood:zcZ Tryz.prog zbw=true:=by kernel_rfl
   have hval:∀s x s',znW g cs s=some (x,s')→x=[.int .i64 (valW s)]:=by
    rintro⟨k,b,j⟩ x s' h
    cases b with
    | none=>simp[znW] at h
    | some b=>simp only[znW,WG,WH] at h;rw[←h.1];rfl
   have hfirst:zk Tryz.prog zcS [AV.fn (.func zbw) [.iptr 1 fun j=>[encL 1 cW cs].getD j .undef,.iptr 2 fun j=>[.int .u32 g.addr,encL 2 Bl.cells g.blocks].getD j .undef],.int .i64 most] (·=za (zhF g cs most)):=by
    by_cases hp:0 < most.toNat
    · exact zki hgood hcaps (hit rfl _ hp) valW hval most (by omega) fun k s hk hs=>by have e:=zvu hs;exact .inr (by rw[e];simp only;omega)
    ·
     have e0:most.toNat=0:=by omega
     have:=zki hgood hcaps (hit rfl 1 (by omega)) valW hval most (by omega) fun k s hk hs=>by omega
     unfold zhF;rw[e0] at this ⊢;exact this
   refine zc (zM hfirst (hlend _) (.inr fun _ _ h=>h)) ?_
   (repeat first|simp(disch:=try exact dis1) only[evD,Nat.reduceBEq,Nat.reduceAdd,Nat.reduceLeDiff,zeP]|with_reducible first|intro _|refine aJ ?_)
   refine⟨.tup [za (zhF g cs most),.int .i64 0],.tup _ _ _ rfl (fun j x y h1 h2=>match j with
    | 0=>by cases h1;cases h2;exact .sl _ _ _ _
    | 1=>by cases h1;cases h2;exact .int _ _ _
    | j+2=>by cases h1),?_⟩
   rw[if_neg (by simp),if_neg h1]
 ·
  (repeat first|simp(disch:=try exact dis1) only[evD,Nat.reduceBEq,Nat.reduceAdd,Nat.reduceLeDiff,dT,zeP]|with_reducible first|intro _|refine aJ ?_)
  refine⟨.tup [za [],.int .i64 e],.tup _ _ _ rfl (fun j x y h1 h2=>match j with
   | 0=>by cases h1;cases h2;exact zau (l:=[]) trivial rfl (by simp only[Wa];omega)
   | 1=>by cases h1;cases h2;exact .int _ _ _
   | j+2=>by cases h1),?_⟩
  rw[if_pos h0]
def zm7 (l:List (List Int)):AV:=encL 1 cP l
def zu4 (g:G) (most:Int):List (List Int) :=
 if zaV g≠0 then [] else if 65536 < most then [] else if most≤0 then [[]] else
 if (zbk g most (most.toNat - 1) [0] []).1 then (zbk g most (most.toNat - 1) [0] []).2 else []
theorem zuB {H H2:AH} {σ:Nat→Nat→Option (Nat × Nat × Nat)} {D:Nat→Nat→Prop} {t:Bool} {r q g:Nat} {l:List (List Int)} (hD:D r q) (hg:H.get r q=some (.row 1 (l.map cP) g)) (hl:l.length≤big):Vw H H2 σ D t (.own r q g 0 l.length) (zm7 l):=by
 refine .frz t r q g 0 l.length 1 _ _ hD hg hl (by simp) fun i j hi hj=>?_
 rw[WC];have e:(l.map cP).getD i []=cP l[i]:=zn (f:=cP) hi;show Vw _ _ _ _ _ (((l.map cP).getD i []).getD j .undef) (((l.map cP).getD i []).getD j .undef);rw[e]
 obtain rfl:j=0:=by omega
 exact .sl _ _ _ _
theorem Qaj {p q:Prop}(k:q)(h:Im q p:=by(repeat first|simp(disch:=try exact dis1) only[evD,Nat.reduceBEq,Nat.reduceAdd,Nat.reduceLeDiff,dT,zcl] | ((with_reducible apply Im.i);intro _) | ((with_reducible apply Im.a);omega));exact Im.r):p:=h k
theorem zpB (g:G) (most:Int) (hf:manyB g) (hc:∀b∈g.blocks,∀s∈b.stmts,s.cases.length≤1000) (hm:most≤1000∨65536 < most) (hG:zaV g=0→OkG g) :
  zk Tryz.prog zfN [.agg g.cells,.int .i64 most] (·=zm7 (zu4 g most)):=by
 refine fn_x zpC rfl ?_;unfold zkl;have hB:=hBig;have hgr:=zkx g [] most hf (fun b hb s hs=>Wu (hc b hb s hs) (by decide)) (by simp) (by omega) (fun c hc=>by cases hc) hG
 have hlend:∀H:AH,Lend H noR [.agg g.cells,.nilsl,.int .i64 most] [.agg g.cells,encL 1 cW [],.int .i64 most]:=fun H=>.cons (zan rfl) (.cons (.nil0 _ _ _) (.cons (.int _ _ _) .nil))
 have retE:∀(H:AH) (r γ:Nat),H.get r 0=some (.row 1 [] γ)→∃a,Frz H (.own r 0 γ 0 0) a∧a=zm7 []:=fun H r γ h=>⟨_,zuB (l:=[]) trivial h (by simp only[Wa];omega),rfl⟩
 unfold zu4
 by_cases h0:zaV g=0
 case neg =>
  rw[if_pos h0] at hgr ⊢;simp only[G.cells] at hgr hlend ⊢
  (refine Ql ?_;intros)
  refine zc (zM hgr (hlend _) (.inr fun _ _ h=>h)) ?_
  (refine Qaj ?_;intros)
  exact retE _ _ _ rfl
 rw[if_neg (fun h=>h h0)] at hgr ⊢
 by_cases h1:65536 < most
 ·
  rw[if_pos h1] at hgr ⊢;simp only[G.cells] at hgr hlend ⊢
  (refine Ql ?_;intros)
  refine zc (zM hgr (hlend _) (.inr fun _ _ h=>h)) ?_
  (refine Qaj ?_;intros)
  exact retE _ _ _ rfl
 rw[if_neg h1] at hgr ⊢
 by_cases h2:most≤0
 ·
  rw[if_pos h2];simp only[G.cells] at hgr hlend ⊢
  (refine Ql ?_;intros)
  refine zc (zM hgr (hlend _) (.inr fun _ _ h=>h)) ?_
  (repeat first|simp(disch:=try exact dis1) only[evD,Nat.reduceBEq,Nat.reduceAdd,Nat.reduceLeDiff,dT,dF,zcl]|with_reducible first|intro _|refine aJ ?_)
  refine⟨zm7 [[]],.frz _ 1 0 0 0 1 1 [[.nilsl]] _ trivial rfl (by omega) (by decide) fun i j hi hj=>?_,rfl⟩
  obtain rfl:i=0:=by omega
  obtain rfl:j=0:=by omega
  exact .nil0 _ _ _
 rw[if_neg h2]
 have hcl:∀b∈g.blocks,(zx b.stmts).length≤1000:=fun b hb=>zfY (by decide) (hc b hb)
 have hfo:=zoz g (hG h0) hcl most (by omega) (most.toNat - 1) [0] [] [] 0 0 (by simp;omega) (by simp) (fun b hb=>by
  rw[We.1 hb]
  exact⟨Int.le_refl _,by have:=(hG h0).pos;omega⟩) (by simp)
 have hRl:=zld g most (most.toNat - 1) [0] [] (by simp);generalize zbk g most (most.toNat - 1) [0] []=R at hfo hRl ⊢;simp only[G.cells] at hgr hlend ⊢
 (refine Ql ?_;intros)
 refine zc (zM hgr (hlend _) (.inr fun _ _ h=>h)) ?_
 (refine Qi ?_;intros)
 refine⟨by kernel_rfl,zbr [(0,1,0),(2,3,0),(3,2,0)] 4 _ (hfo (fun v H nx=>v=.bool R.1∧∃γ' junk',H=zeI g most γ' 0 R.2 ([0]++junk')∧nx=4) (fun γ' junk'=>⟨rfl,γ',junk',rfl,rfl⟩)) rfl rfl ?_ ?_ ?_⟩
 · simp only[evWB,Nat.reduceBEq,Nat.reduceAdd,Nat.reduceSub,Nat.reduceLeDiff,Nat.reduceLT,implies_true,zeI];exact⟨⟨1,rfl⟩,.iptr _ _ _,.iptr _ _ _,.ptr _ _ _ 0 _ _ _ _ _ rfl rfl,.ptr _ _ _ 0 _ _ _ _ _ rfl rfl,trivial⟩
 · simp only[evWB,Nat.reduceBEq,Nat.reduceAdd,Nat.reduceSub,Nat.reduceLeDiff,Nat.reduceLT,implies_true,zmm];exact .iptr _ _ _
 rintro v H' nx' ⟨rfl,γ',junk',rfl,rfl⟩;simp only[zeI]
 (repeat first|simp(disch:=try exact dis1) only[evD,Nat.reduceBEq,Nat.reduceAdd,Nat.reduceLeDiff,zmm,zvn]|with_reducible first|intro _|refine aJ ?_)
 obtain⟨ok,out⟩:=R
 cases ok with
 |
  true =>
  (repeat first|simp(disch:=try exact dis1) only[evD,Nat.reduceBEq,Nat.reduceAdd,Nat.reduceLeDiff,zvn,zcl]|with_reducible first|intro _|refine aJ ?_)
  have hol:out.length≤1024:=hRl rfl;refine⟨zm7 out,zuB trivial rfl (by omega),?_⟩;rw[if_pos (by trivial)]
 |
  false =>
  (repeat first|simp(disch:=try exact dis1) only[evD,Nat.reduceBEq,Nat.reduceAdd,Nat.reduceLeDiff,zcl]|with_reducible first|intro _|refine aJ ?_)
  rw[if_neg (by decide)];exact retE _ _ _ rfl
theorem zxn {g:G} (hm:midG g) (h:zaV g=0):OkG g:=by
 have h0:=zmY h;have hfull:=zn1 h0;unfold zmV at h0;split at h0
 case isFalse=>cases h0
 rename_i h1;rw[Wv,WO] at h1;refine⟨?_,Wu hm.blocks (by decide),fun b hb=>?_,fun b hb=>Wu (hm.stmts b hb).1 (by decide),fun b hb=>Wu (zfY (by decide) (hm.stmts b hb).2) (by decide),fun b hb t ht=>?_⟩
 ·
  cases hb:g.blocks with
  | nil=>rw[hb] at h1;simp at h1
  | cons a l=>simp
 · have:=hfull b hb;omega
 · have h2:=h1.2 b hb;unfold zdr at h2;rw[Wv,Wv,WO] at h2;have h3:=h2.2.2 t ht;unfold inN at h3;rw[decide_eq_true_eq] at h3;exact h3
theorem zu3 (g:G) (cs:List Int) (most:Int) (hm:midG g) (hcs:cs.length≤1000000) (hmo:most≤1000000∨65536 < most) (hw:∀c∈cs,0≤c∧c < 4294967296) :
  zk Tryz.prog za9 [.agg g.cells,encL 1 cW cs,.int .i64 most] (·=if zaV g≠0 then .tup [za [],.int .i64 (zaV g)] else if 65536 < most then .tup [za [],.int .i64 6] else .tup [za (zhF g cs most),.int .i64 0]) :=
 zkx g cs most (zjN hm) (zpT hm) hcs hmo hw (zxn hm)
theorem zzs (g:G) (most:Int) (hm:midG g) (hmo:most≤1000∨65536 < most):zk Tryz.prog zfN [.agg g.cells,.int .i64 most] (·=zm7 (zu4 g most)) :=
 zpB g most (zjN hm) (fun b hb s hs=>Wu ((hm.stmts b hb).2 s hs) (by decide)) hmo (zxn hm)
def gA:G:=⟨0,[⟨0,[zmq 1 2]⟩,⟨0,[stX 6 3 0 []]⟩,⟨0,[stX 6 3 0 []]⟩,⟨0,[stX 9 0 0 []]⟩]⟩
def hA:G:=⟨0,[⟨0,[stX 6 1 0 []]⟩,⟨0,[zmq 2 3]⟩,⟨0,[stX 6 1 0 []]⟩,⟨0,[stX 10 0 0 []]⟩]⟩
def oneA:G:=⟨0,[⟨0,[stX 10 0 0 []]⟩]⟩
def ndX (kind:Int) (l:List Nd):Nd:=.mk ⟨kind,0,0⟩ [] l
def zzh:Nd:=ndX 1 [ndX 4 [ndX 1 []],ndX 2 []]
theorem zxz {g:G} (h:ziz g 8=true):midG g:=zqc h
theorem ztn:zaV gA=0∧zhF gA [] 9=[0,1,3]∧zhF gA [3] 9=[0,2,3]∧zhF gA [] 2=[0,1]∧zu4 gA 9=[[0,1,3],[0,2,3]]:=by decide +kernel
theorem hA_ok:zaV hA=0∧zhF hA [0,0,1] 20=[0,1,2,1,2,1,3]:=by decide +kernel
theorem midA:ziz gA 8=true∧ziz hA 8=true∧ziz oneA 8=true:=by decide +kernel
theorem zrJ:zlt oneA zzh=0∧zf8 (zcj zzh).st [] 5=15∧zlt oneA (ndX 2 [])=0∧zf8 (zcj (ndX 2 [])).st [] 5=0∧zma (zcj (ndX 2 [])).st [] 5=[0]:=by decide +kernel
theorem zmb (b:Bl) (hl:b.stmts.length≤1000000):zk Tryz.prog zfc [.agg b.cells] (·=za (zx b.stmts)):=by
 refine fn_x zmr rfl ?_;unfold zhM;have hB:=hBig;obtain⟨ad,l⟩:=b;simp only at hl;simp only[Bl.cells];unfold zx
 by_cases h0:l.length=0
 ·
  obtain rfl:l=[]:=List.eq_nil_of_length_eq_zero h0
  (repeat first|simp(disch:=try exact dis1) only[evD,Nat.reduceBEq,Nat.reduceAdd,Nat.reduceLeDiff,fldP,dT,Wa,zeq]|with_reducible first|intro _|refine aJ ?_)
  exact⟨_,zau (l:=[]) trivial rfl (by simp only[Wa];omega),rfl⟩
 ·
  have hi:l.length - 1 < l.length:=by omega
  have hg:=zn (f:=St.cells) (d:=[]) hi;have hw1:IntKind.i64.wrap ((l.length:Int) - 1)=(l.length:Int) - 1:=zmO (by omega) (by omega)
  have hidx:(((l.length:Nat):Int) - 1).toNat=l.length - 1:=by omega
  have hla:l.getLast? = some l[l.length - 1]:=by rw[WD,WE hi]
  rw[hla];have ht:=zkz l[l.length - 1];generalize l[l.length - 1]=s at hg ht;obtain⟨op,var,width,next,els,tgt,e,cases⟩:=s;simp only[St.cells] at hg ht
  (repeat first|simp(disch:=try exact dis1) only[evD,Nat.reduceBEq,Nat.reduceAdd,Nat.reduceLeDiff,fldP,dF,hw1,hidx,hg,za]|with_reducible first|intro _|refine aJ ?_)
  refine zc (zg ht rfl) ?_
  (repeat first|simp(disch:=try exact dis1) only[evD,Nat.reduceBEq,Nat.reduceAdd,Nat.reduceLeDiff,zeq]|with_reducible first|intro _|refine aJ ?_)
  exact⟨_,.sl _ _ _ _,rfl⟩
theorem zqp (cs:List Int) (j:Nat) (n:Int) (hn:0 < n) (hn2:n≤1000000) (hw:∀c∈cs,0≤c∧c < 4294967296):zk Tryz.prog zje [encL 1 cW cs,.int .i64 j,.int .i64 n] (·=.int .i64 (zcU cs j n).1):=by
 refine fn_x zqr rfl ?_;unfold zlz zcU;have hB:=hBig
 by_cases h:j < cs.length
 ·
  have hg:(cs.map cW).getD j []=[.int .u32 cs[j]]:=by simp[Wl,h,cW]
  rw[dif_pos h];have hc:=hw _ (Wt h);have e1:IntKind.u32.wrap n=n:=IntWalk.u32_in n ⟨by omega,by omega⟩
  have e3:(cs[j]).tmod n=cs[j] % n:=by rw[Int.tmod_eq_emod_of_nonneg hc.1]
  have e4:=Int.emod_nonneg cs[j] (show n≠0 by omega);have e5:=Int.emod_lt_of_pos cs[j] hn;have e6:IntKind.i64.wrap (cs[j] % n)=cs[j] % n:=zmO (by omega) (by omega)
  (repeat first|simp(disch:=try exact dis1) only[evD,Nat.reduceBEq,Nat.reduceAdd,Nat.reduceLeDiff,dT,dF,za,hg,e1,e3,e6,zih]|with_reducible first|intro _|refine aJ ?_)
  exact⟨_,.int _ _ _,rfl⟩
 ·
  rw[dif_neg h]
  (repeat first|simp(disch:=try exact dis1) only[evD,Nat.reduceBEq,Nat.reduceAdd,Nat.reduceLeDiff,dT,dF,za,zih]|with_reducible first|intro _|refine aJ ?_)
  exact⟨_,.int _ _ _,rfl⟩
def zlj (g:G) (cs:List Int):Nat→Option Nat→Nat→List Int
 | 0,_,_=>[]
 | _+1,none,_=>[]
 | k+1,some b,j=>(b:Int)::zlj g cs k (zhu g cs b j).1 (zhu g cs b j).2
theorem zvg (g:G) (cs:List Int):∀(k n:Nat) (b:Option Nat) (j:Nat),itv (znW g cs) valW k (n,b,j)=zlj g cs k b j
 | 0,n,b,j=>rfl
 | k+1,n,none,j=>rfl
 |
  k+1,n,some b,j=>by
  rw[zlj,itv];simp only[znW];rw[show (zhu g cs b j)=((zhu g cs b j).1,(zhu g cs b j).2) from rfl,zvg g cs k];rfl
theorem zt8 (g:G) (cs:List Int) (most:Int):zhF g cs most=zlj g cs most.toNat (some 0) 0:=zvg g cs _ _ _ _
theorem zxY (cs:List Int) (k:Nat) (n:Int):zcU cs (min k cs.length) n=zcU cs k n:=by
 by_cases h:k < cs.length
 · rw[show min k cs.length=k by omega]
 · rw[show min k cs.length=cs.length by omega];unfold zcU;rw[dif_neg (by omega),dif_neg h]
theorem zxq (cs:List Int) (k:Nat):ziX cs (min k cs.length)=min (k+1) cs.length:=by
 unfold ziX
 split<;>omega
theorem zrI (g:G) (cs:List Int):∀(k:Nat) (b:Option Nat) (j:Nat),(zlj g cs k b j).length≤k
 | 0,_,_=>by rw[zlj];exact Wf _
 | k+1,none,_=>by rw[zlj];exact Wk _
 | k+1,some b,j=>by rw[zlj,Wi];have:=zrI g cs k (zhu g cs b j).1 (zhu g cs b j).2;omega
theorem zsX (g:G) (hm:midG g) (cs:List Int) (most:Int) (hcs:cs.length≤1000000) (hw:∀c∈cs,0≤c∧c < 4294967296) :
  zk Tryz.prog zkU [.agg g.cells,encL 1 cW cs,.int .i64 most] (·=if zaV g≠0 then .tup [za [],.int .i64 (zaV g)] else if 65536 < most then .tup [za [],.int .i64 6] else .tup [za (zhF g cs most),.int .i64 0]):=by
 refine fn_x zrQ rfl ?_;unfold zmM;have hB:=hBig;have hck:=zlr g (zjN hm);have hG:=zxn hm;rw[zt8]
 have retE:∀(H:AH) (v:AV) (l:List Int) (n:Int),Vw H [] nos allR false v (za l)→∃a,Frz H (.tup [v,.int .i64 n]) a∧a=.tup [za l,.int .i64 n]:=fun H v l n hv=>⟨.tup [za l,.int .i64 n],.tup _ _ _ rfl (fun j x y h1 h2=>match j with
  | 0=>by cases h1;cases h2;exact hv
  | 1=>by cases h1;cases h2;exact .int _ _ _
  | j+2=>by cases h1),rfl⟩
 generalize zaV g=c at hck hG ⊢;obtain⟨ad,l⟩:=g;simp only[G.cells] at hck ⊢
 (refine Ql ?_;intros)
 refine zc (zg hck rfl) ?_
 by_cases h0:c=0
 case neg =>
  rw[if_pos h0]
  (repeat first|simp(disch:=try exact dis1) only[evD,Nat.reduceBEq,Nat.reduceAdd,Nat.reduceLeDiff,dT,zeT]|with_reducible first|intro _|refine aJ ?_)
  exact retE _ _ [] _ (zau (l:=[]) trivial rfl (by simp only[Wa];omega))
 rw[if_neg (fun h=>h h0)]
 by_cases h1:65536 < most
 ·
  rw[if_pos h1]
  (repeat first|simp(disch:=try exact dis1) only[evD,Nat.reduceBEq,Nat.reduceAdd,Nat.reduceLeDiff,dT,dF,zeT]|with_reducible first|intro _|refine aJ ?_)
  exact retE _ _ [] _ (zau (l:=[]) trivial rfl (by simp only[Wa];omega))
 rw[if_neg h1];have hg:=hG h0;generalize hR:zlj ⟨ad,l⟩ cs most.toNat (some 0) 0=R
 have hRl:R.length≤most.toNat:=by rw[←hR];exact zrI _ _ _ _ _
 (refine Qi ?_;intros)
 refine zo (fun s:List Int × Nat × Nat × Nat=>([(1,encL 1 cW cs),(2,.int .i64 most),(3,encP 2 [.int .u32 ad,encL 2 Bl.cells l]),(9,.own 0 0 s.2.2.2 0 s.1.length),(10,.int .i64 s.2.1),(11,.int .i64 s.2.2.1)],[(0,.row 1 (s.1.map cI) s.2.2.2)])) 1
  (fun s=>s.2.1 < l.length∧s.2.2.1≤s.1.length∧s.1.length≤most.toNat∧s.1++zlj ⟨ad,l⟩ cs (most.toNat - s.1.length) (some s.2.1) (min s.2.2.1 cs.length)=R) (fun s=>most.toNat - s.1.length) ([],0,0,0) ⟨hg.pos,Wf _,Wk _,by simpa using hR⟩ ?_ ?_
 · simp only[Ws,Wa];exact(Ent.tab [(0,1,0)] [] rfl Qal Qal)
 rintro⟨out,b,k,γ⟩ ⟨hb,hk,ho,hgo⟩ wf;simp only at hb hk ho hgo;clear wf;unfold zi5
 by_cases hlt:(out.length:Int) < most
 case neg =>
  rw[show most.toNat - out.length=0 by omega,zlj,WJ] at hgo;subst hgo
  (refine Qk ?_;intros)
  unfold zjA
  (repeat first|simp(disch:=try exact dis1) only[evD,Nat.reduceBEq,Nat.reduceAdd,Nat.reduceLeDiff,zeT]|with_reducible first|intro _|refine aJ ?_)
  exact retE _ _ _ _ (zau trivial rfl (by omega))
 have hmem:=Wt hb;have hgb:(l.map Bl.cells).getD b []=Bl.cells l[b]:=zn hb;have hsu:=zmb l[b] (hg.stmts _ hmem)
 have hbk:blkG ⟨ad,l⟩ b=l[b]:=by simp[blkG,hb]
 have hm0:=hg.ends _ hmem;have hsh:=hg.short _ hmem;have hml:=hg.stmts _ hmem;have htg:=hg.tgt _ hmem;obtain⟨m,hm1⟩:∃m,most.toNat - out.length=m+1:=⟨most.toNat - out.length - 1,by omega⟩;rw[hm1,zlj] at hgo
 have hst:zhu ⟨ad,l⟩ cs b (min k cs.length)=if (zx l[b].stmts).length=0 then (none,min k cs.length) else if zt7 ⟨ad,l⟩ b then (some ((zx l[b].stmts).getD 0 0).toNat,min k cs.length) else (some ((zx l[b].stmts).getD (zcU cs (min k cs.length) (zx l[b].stmts).length).1.toNat 0).toNat,ziX cs (min k cs.length)):=by simp only[zhu,hbk]
 have hju:zt7 ⟨ad,l⟩ b=(l[b].stmts[l[b].stmts.length - 1].op == 6):=by unfold zt7;rw[hbk,WD,WE (by omega)]
 rw[hst,hju,zxY,zxq] at hgo
 have hlast:l[b].stmts.length - 1 < l[b].stmts.length:=by omega
 have hidx:(((l[b].stmts.length:Nat):Int) - 1).toNat=l[b].stmts.length - 1:=by omega
 have hgl:=zn (f:=St.cells) (d:=[]) hlast;have hw1:IntKind.i64.wrap ((l[b].stmts.length:Int) - 1)=(l[b].stmts.length:Int) - 1:=zmO (by omega) (by omega);have hll:=hg.few;simp only at hll htg;generalize zx l[b].stmts=T at hgo hsu hsh htg;generalize l[b].stmts[l[b].stmts.length - 1]=sx at hgo hgl;obtain⟨op,var,width,next,els,tgt,e,cases⟩:=sx;clear hst hju hbk hlast;generalize l[b]=bb at hgb hsu hgl hm0 hml hidx hw1 hgo;obtain⟨bad,bst⟩:=bb;simp only[Bl.cells,St.cells] at hgb hsu hgl hm0 hml hidx hw1 hgo
 (repeat first|simp(disch:=try exact dis1) only[evD,Nat.reduceBEq,Nat.reduceAdd,Nat.reduceLeDiff,dT,fldP,hgb]|with_reducible first|intro _|refine aJ ?_)
 refine zc (zg hsu rfl) ?_
 by_cases hT:T.length=0
 ·
  rw[if_pos hT] at hgo
  have e0:zlj ⟨ad,l⟩ cs m none (min k cs.length)=[]:=by cases m<;>rw[zlj]
  rw[e0] at hgo;subst hgo
  (repeat first|simp(disch:=try exact dis1) only[evD,Nat.reduceBEq,Nat.reduceAdd,Nat.reduceLeDiff,dT,fldP,za,zeT]|with_reducible first|intro _|refine aJ ?_)
  have e1:out.map cI++[[AV.int .i64 b]]=(out++[(b:Int)]).map cI:=by simp[cI]
  rw[e1,show out.length+1=(out++[(b:Int)]).length by simp];exact retE _ _ _ _ (zau trivial rfl (by simp;omega))
 rw[if_neg hT] at hgo
 (refine QD ?_;intros)
 refine zAj zhN znk zmi zgh [(40,(.iptr 1 fun j=>[AV.int .u32 ad,encL 2 Bl.cells l].getD (1+j) .undef)),(41,encL 2 Bl.cells l),(42,.int .i64 b),(43,(.iptr 2 fun j=>[AV.int .u32 bad,encL 8 St.cells bst].getD j .undef)),(44,(.iptr 1 fun j=>[AV.int .u32 bad,encL 8 St.cells bst].getD (1+j) .undef)),(45,encL 8 St.cells bst),(46,(.iptr 1 fun j=>[AV.int .u32 ad,encL 2 Bl.cells l].getD (1+j) .undef)),(47,encL 2 Bl.cells l),(48,.int .i64 b),(49,(.iptr 2 fun j=>[AV.int .u32 bad,encL 8 St.cells bst].getD j .undef)),(50,(.iptr 1 fun j=>[AV.int .u32 bad,encL 8 St.cells bst].getD (1+j) .undef)),(51,encL 8 St.cells bst),(52,.int .i64 bst.length),(53,.int .i64 ((bst.length:Int) - 1)),(54,.iptr 8 fun j=>[AV.int .i64 op,.int .i64 var,.int .i64 width,.int .i64 next,.int .i64 els,.int .u32 tgt,encL 5 encX e,za cases].getD j .undef),(55,.agg [.int .i64 op,.int .i64 var,.int .i64 width,.int .i64 next,.int .i64 els,.int .u32 tgt,encL 5 encX e,za cases]),(13,.ptr 2 0 0 0 0)] (hsOf [([(0,.row 1 (out.map cI++[[.int .i64 b]]) (γ+1)),(1,.row 1 [[.int .i64 b]] 0)],2),([(0,.row 1 (out.map cI++[[.int .i64 b]]) (γ+1)),(1,.row 1 [[.int .i64 b]] 0),(2,.row 8 [[.int .i64 0,.int .i64 0,.int .i64 0,.int .i64 0,.int .i64 0,.int .u32 0,.nilsl,.nilsl]] 0)],3),([(0,.row 1 (out.map cI++[[.int .i64 b]]) (γ+1)),(1,.row 1 [[.int .i64 b]] 0),(2,.row 8 [[.int .i64 op,.int .i64 var,.int .i64 width,.int .i64 next,.int .i64 els,.int .u32 tgt,encL 5 encX e,za cases]] 0)],3)]) (by kernel_rfl) (by rfl) (by rfl) (by repeat' first|exact QExt.retK|apply QExt.seq|apply QExt.block|apply QExt.loop|apply QExt.join|assumption) ?plan [(13,.ptr 2 0 0 0 0)] (by rfl) ?fin
 case' plan =>
  intro Kf hs hK hH
  have kf40:Kf.get 40=(.iptr 1 fun j=>[AV.int .u32 ad,encL 2 Bl.cells l].getD (1+j) .undef):=by rw[hK,zU];rfl
  have kf41:Kf.get 41=encL 2 Bl.cells l:=by rw[hK,zU];rfl
  have kf42:Kf.get 42=.int .i64 b:=by rw[hK,zU];rfl
  have kf43:Kf.get 43=(.iptr 2 fun j=>[AV.int .u32 bad,encL 8 St.cells bst].getD j .undef):=by rw[hK,zU];rfl
  have kf44:Kf.get 44=(.iptr 1 fun j=>[AV.int .u32 bad,encL 8 St.cells bst].getD (1+j) .undef):=by rw[hK,zU];rfl
  have kf45:Kf.get 45=encL 8 St.cells bst:=by rw[hK,zU];rfl
  have kf46:Kf.get 46=(.iptr 1 fun j=>[AV.int .u32 ad,encL 2 Bl.cells l].getD (1+j) .undef):=by rw[hK,zU];rfl
  have kf47:Kf.get 47=encL 2 Bl.cells l:=by rw[hK,zU];rfl
  have kf48:Kf.get 48=.int .i64 b:=by rw[hK,zU];rfl
  have kf49:Kf.get 49=(.iptr 2 fun j=>[AV.int .u32 bad,encL 8 St.cells bst].getD j .undef):=by rw[hK,zU];rfl
  have kf50:Kf.get 50=(.iptr 1 fun j=>[AV.int .u32 bad,encL 8 St.cells bst].getD (1+j) .undef):=by rw[hK,zU];rfl
  have kf51:Kf.get 51=encL 8 St.cells bst:=by rw[hK,zU];rfl
  have kf52:Kf.get 52=.int .i64 bst.length:=by rw[hK,zU];rfl
  have kf53:Kf.get 53=.int .i64 ((bst.length:Int) - 1):=by rw[hK,zU];rfl
  have kf54:Kf.get 54=.iptr 8 fun j=>[AV.int .i64 op,.int .i64 var,.int .i64 width,.int .i64 next,.int .i64 els,.int .u32 tgt,encL 5 encX e,za cases].getD j .undef:=by rw[hK,zU];rfl
  have kf55:Kf.get 55=.agg [.int .i64 op,.int .i64 var,.int .i64 width,.int .i64 next,.int .i64 els,.int .u32 tgt,encL 5 encX e,za cases]:=by rw[hK,zU];rfl
  have kf13:Kf.get 13=.ptr 2 0 0 0 0:=by rw[hK,zU];rfl
  have kf3:Kf.get 3=encP 2 [.int .u32 ad,encL 2 Bl.cells l]:=by rw[hK,zU];rfl
  have kf10:Kf.get 10=.int .i64 b:=by rw[hK,zU];rfl
  simp only[zgh,zvZ,zxI,and_true]
  (repeat' with_reducible apply Wz)
  all_goals (rw[hH];simp only[zoL,zgR,WB,Wx,hsOf,hsAt,beqL,zjd,Nat.reduceBEq,Bool.and_true,Bool.true_and,Bool.and_false,Bool.false_and,cond_true,cond_false,Wi,Wa,Nat.reduceAdd])
  all_goals try (simp(disch:=try exact dis1) only[evD,Nat.reduceBEq,Nat.reduceAdd,Nat.reduceLeDiff,zry,zqb,kf40,kf41,kf42,kf43,kf44,kf45,kf46,kf47,kf48,kf49,kf50,kf51,kf52,kf53,kf54,kf55,kf13,kf3,kf10,fldP,zh8,za,hgb,hw1,hidx,hgl,Wy];done)
 case' fin=>simp only[zhN,hsOf,hsAt,beqL,zjd,Nat.reduceBEq,Bool.and_true,Bool.true_and,Bool.and_false,Bool.false_and,cond_true,cond_false,Wi,Wa,Nat.reduceAdd,WB,Wx,zfF]
 (refine Qa ?_;intros)
 ·
  by_cases h6:op=6
  ·
   have hb6:(op == 6)=true:=by simp[h6]
   rw[hb6,if_pos rfl] at hgo;have ht:=htg (T.getD 0 0) (zmy (by omega))
   have e0:((List.map (fun n=>[AV.int .i64 n]) T).getD (WA 0) [])=[.int .i64 (((T.getD 0 0).toNat:Nat):Int)]:=by rw[Ww ht.1];simp[Wl,show 0 < T.length by omega]
   (repeat first|simp(disch:=try exact dis1) only[evD,Nat.reduceBEq,Nat.reduceAdd,Nat.reduceLeDiff,fldP,dT,dF,za,e0]|with_reducible first|intro _|refine aJ ?_)
   refine⟨(out++[(b:Int)],(T.getD 0 0).toNat,k,γ+1),⟨by simp only;omega,by simp only[Wg,Wh];omega,by simp only[Wg,Wh];omega,?_⟩,by simp only[Wg,Wh];omega,?_⟩
   · simp only[Wg,Wh,WP,Wc,Wd];rw[show most.toNat - (out.length+1)=m by omega];exact hgo
   ·
    simp only[WI,Wm,Ws,Wg,Wh,cI,Wi,Wa,WC]
    try rw[e0]
    exact(Ent.tab [(0,0,0)] [] rfl Qal Qal)
  ·
   have hb6:(op == 6)=false:=by simp[h6]
   rw[hb6,if_neg (by decide)] at hgo;have hpv:=zoP (cs:=cs) (j:=k) (n:=T.length) (by omega)
   have hpl:(zcU cs k T.length).1.toNat < T.length:=by omega
   have ht:=htg (T.getD (zcU cs k T.length).1.toNat 0) (zmy hpl);have hch:=zqp cs k T.length (by omega) (by omega) hw
   have e0:((List.map (fun n=>[AV.int .i64 n]) T).getD (zcU cs k T.length).1.toNat [])=[.int .i64 (((T.getD (zcU cs k T.length).1.toNat 0).toNat:Nat):Int)]:=by rw[Ww ht.1];simp[Wl,hpl]
   (refine QO ?_;intros)
   refine zc (zg hch rfl) ?_
   (repeat first|simp(disch:=try exact dis1) only[evD,Nat.reduceBEq,Nat.reduceAdd,Nat.reduceLeDiff,fldP,dT,dF,za,e0]|with_reducible first|intro _|refine aJ ?_)
   refine⟨(out++[(b:Int)],(T.getD (zcU cs k T.length).1.toNat 0).toNat,k+1,γ+1),⟨by simp only;omega,by simp only[Wg,Wh];omega,by simp only[Wg,Wh];omega,?_⟩,by simp only[Wg,Wh];omega,?_⟩
   · simp only[Wg,Wh,WP,Wc,Wd];rw[show most.toNat - (out.length+1)=m by omega];exact hgo
   ·
    simp only[WI,Wm,Ws,Wg,Wh,cI,Wi,Wa,WC]
    try rw[e0]
    exact(Ent.tab [(0,0,0)] [] rfl Qal Qal)
 all_goals (repeat first|simp(disch:=try exact dis1) only[evD,Nat.reduceBEq,Nat.reduceAdd,Nat.reduceLeDiff,kf40,kf41,kf42,kf43,kf44,kf45,kf46,kf47,kf48,kf49,kf50,kf51,kf52,kf53,kf54,kf55,kf13,kf3,kf10,fldP,zh8,za,hgb,hw1,hidx,hgl,Wy,zry,zqb]|with_reducible first|intro _|refine aJ ?_)
 all_goals omega
theorem znw {g:G} {cs:List Int} {most:Int} {l:List Int} (hm:ziz g 8=true) (h0:zaV g=0) (hcs:cs.length≤1000000) (hmo:most≤65536) (hw:∀c∈cs,0≤c∧c < 4294967296) (ht:zhF g cs most=l) :
  zk Tryz.prog za9 [.agg g.cells,encL 1 cW cs,.int .i64 most] (·=.tup [za l,.int .i64 0]):=by
 have:=zu3 g cs most (zxz hm) hcs (.inl (by omega)) hw;rw[if_neg (fun h=>h h0),if_neg (by omega),ht] at this;exact this
theorem lend3 {H:AH} {a:AV} {n:Int} (h:a.flat=true):Lend H noR [a,.nilsl,.int .i64 n] [a,encL 1 cW [],.int .i64 n]:=.cons (zan h) (.cons (.nil0 _ _ _) (.cons (.int _ _ _) .nil))
theorem ztN {H:AH} {op next els:Int}:Lend H noR [.agg [.int .i64 op,.int .i64 0,.int .i64 0,.int .i64 next,.int .i64 els,.int .u32 0,.nilsl,.nilsl]] [.agg (St.cells (stX op next els []))]:=by
 refine .cons (.agg _ _ _ rfl fun i a b h1 h2=>?_) .nil
 match i with
 | 0=>cases h1;cases h2;exact .int _ _ _
 | 1=>cases h1;cases h2;exact .int _ _ _
 | 2=>cases h1;cases h2;exact .int _ _ _
 | 3=>cases h1;cases h2;exact .int _ _ _
 | 4=>cases h1;cases h2;exact .int _ _ _
 | 5=>cases h1;cases h2;exact .int _ _ _
 | 6=>cases h1;cases h2;exact .nil0 _ _ _
 | 7=>cases h1;cases h2;exact .nil0 _ _ _
 | i+8=>cases h1
theorem zji (A:List Int):zk Tryz.prog zaG [za A,za A] (·=.bool true):=by have:=zn4 A A;rw[decide_eq_true rfl] at this;exact this
theorem zxi {g:G} {e:Nd} {most:Int} {v:AV} (hm:ziz g 8=true) (hs:zay e≤1000) (ht:zsy g e [] most=v):zk Tryz.prog ze0 [.agg (encN e),.agg g.cells,encL 1 cW [],.int .i64 most] (·=v):=by have:=zrf g (zxz hm) e hs [] most (by simp) (fun c hc=>by cases hc);rw[ht] at this;exact this
theorem zz5 {H:AH} {D:Nat→Nat→Prop} {t:Bool} {kd bl lb:Int} {x:AV} {L:List Nd} (hx:Vw H [] nos D t x (encL 5 encN L)) (j:Nat) (hj:j < 5):Vw H [] nos D t ([AV.int .i64 kd,.int .i64 bl,.int .i64 lb,.nilsl,x].getD j .undef) ((encN (.mk ⟨kd,bl,lb⟩ [] L)).getD j .undef):=by
 rw[zey]
 match j with
 | 0=>exact .int _ _ _
 | 1=>exact .int _ _ _
 | 2=>exact .int _ _ _
 | 3=>exact .nil0 _ _ _
 | 4=>exact hx
 | j+5=>omega
theorem aggN {H:AH} {D:Nat→Nat→Prop} {t:Bool} {kd bl lb:Int} {x:AV} {L:List Nd} (hx:Vw H [] nos D t x (encL 5 encN L)):Vw H [] nos D t (.agg [AV.int .i64 kd,.int .i64 bl,.int .i64 lb,.nilsl,x]) (.agg (encN (.mk ⟨kd,bl,lb⟩ [] L))):=by
 refine .agg _ _ _ (by rw[zbQ];rfl) fun i a b h1 h2=>?_
 have hi:i < 5:=(List.getElem?_eq_some_iff.1 h1).1;have h3:=zz5 (kd:=kd) (bl:=bl) (lb:=lb) hx i hi;rw[WQ,WQ,h1,h2] at h3;exact h3
theorem lendI {H:AH} {f1 f2:Nat→Nat→AV} (h1:∀j,f1 0 j=[AV.int .i64 1,.int .i64 0,.int .i64 0,.nilsl,.nilsl].getD j .undef) (h20:∀j,f2 0 j=[AV.int .i64 4,.int .i64 0,.int .i64 0,.nilsl,.sl 5 1 f1].getD j .undef) (h21:∀j,f2 1 j=[AV.int .i64 2,.int .i64 0,.int .i64 0,.nilsl,.nilsl].getD j .undef) {g:AV} (hg:g.flat=true) {n:Int} :
  Lend H noR [.agg [AV.int .i64 1,.int .i64 0,.int .i64 0,.nilsl,.sl 5 2 f2],g,.nilsl,.int .i64 n] [.agg (encN zzh),g,encL 1 cW [],.int .i64 n]:=by
 refine .cons (aggN (.slf _ _ _ _ _ fun i j hi hj=>?_)) (.cons (zan hg) (.cons (.nil0 _ _ _) (.cons (.int _ _ _) .nil)))
 match i with
 |
  0 =>
  rw[h20];refine zz5 (kd:=4) (bl:=0) (lb:=0) (L:=[ndX 1 []]) (.slf _ _ _ _ _ fun i j hi hj=>?_) j hj
  obtain rfl:i=0:=by have:i < 1:=hi;omega
  rw[h1];exact zz5 (kd:=1) (bl:=0) (lb:=0) (L:=[]) (.nil0 _ _ _) j hj
 |
  1 =>
  rw[h21];exact zz5 (kd:=2) (bl:=0) (lb:=0) (L:=[]) (.nil0 _ _ _) j hj
 | i+2=>omega
theorem Qp {p q:Prop}(k:q)(h:Im q p:=by(repeat first|simp(disch:=try exact dis1) only[evD,Nat.reduceBEq,Nat.reduceAdd,Nat.reduceLeDiff,Bl.cells,z7,zr,zaq,zaP,zaO,zbE,Bool.and_self,List.all_cons,List.all_nil] | ((with_reducible apply Im.i);intro _) | ((with_reducible apply Im.a);omega));exact Im.r):p:=h k
theorem zkM:zk Tryz.prog zcA [] (·=.bool true):=by
 refine fn_x zkO rfl ?_;unfold zf9;have hB:=hBig;have e1:=zfV (zmq 1 2);have e2:=zfV (stX 6 3 0 []);have e3:=zfV (stX 9 0 0 []);have e4:=zfV (stX 6 1 0 []);have e5:=zfV (zmq 2 3);have e6:=zfV (stX 10 0 0 [])
 have d2:decide (((2:Nat):Int)=2)=true:=by decide
 have no:∀r q,¬noR r q:=fun _ _ h=>h
 (refine Qa ?_;intros)
 refine zc (zg (zlS 1 2) rfl) ?_
 (refine Qa ?_;intros)
 refine zc (zg e1 rfl) ?_
 (refine Qa ?_;intros)
 refine zc (zM e2 ztN (.inr no)) ?_
 (refine Qa ?_;intros)
 refine zc (zM e2 ztN (.inr no)) ?_
 (refine Qa ?_;intros)
 refine zc (zM e3 ztN (.inr no)) ?_
 (refine Qp ?_;intros)
 refine zc (zM e4 ztN (.inr no)) ?_
 (refine Qa ?_;intros)
 refine zc (zg (zlS 2 3) rfl) ?_
 (refine Qa ?_;intros)
 refine zc (zg e5 rfl) ?_
 (refine Qa ?_;intros)
 refine zc (zM e4 ztN (.inr no)) ?_
 (refine Qa ?_;intros)
 refine zc (zM e6 ztN (.inr no)) ?_
 (refine Qp ?_;intros)
 have hw0:∀c∈([]:List Int),0≤c∧c < 4294967296:=fun c hc=>by cases hc
 have g1:=znw (g:=gA) (cs:=[]) (most:=9) midA.1 ztn.1 (by decide) (by decide) hw0 ztn.2.1;have g2:=znw (g:=gA) (cs:=[3]) (most:=9) midA.1 ztn.1 (by decide) (by decide) (by simp) ztn.2.2.1;have g3:=znw (g:=gA) (cs:=[]) (most:=2) midA.1 ztn.1 (by decide) (by decide) hw0 ztn.2.2.2.1;have g4:=znw (g:=hA) (cs:=[0,0,1]) (most:=20) midA.2.1 hA_ok.1 (by decide) (by decide) (by simp) hA_ok.2;refine zc (zM g1 (lend3 rfl) (.inr no)) ?_
 (refine Qp ?_;intros)
 refine zc (zg g2 rfl) ?_
 (refine Qp ?_;intros)
 refine zc (zM g3 (lend3 rfl) (.inr no)) ?_
 (refine Qp ?_;intros)
 refine zc (zg g4 rfl) ?_
 (refine Qp ?_;intros)
 have p1:=zzs gA 9 (zxz midA.1) (by decide);rw[ztn.2.2.2.2] at p1;refine zc (zg p1 rfl) ?_
 (refine Qp ?_;intros)
 refine zc (zM e6 ztN (.inr no)) ?_
 (refine Qp ?_;intros)
 have n1:=zxi (g:=oneA) (e:=zzh) (most:=5) (v:=.tup [za [],.int .i64 15]) midA.2.2 (by decide +kernel) (by unfold zsy;rw[if_neg (fun h=>h zrJ.1),if_neg (by decide),show WA 5=5 from rfl,zrJ.2.1];rfl);have n2:=zxi (g:=oneA) (e:=ndX 2 []) (most:=5) (v:=.tup [za [0],.int .i64 0]) midA.2.2 (by decide +kernel) (by unfold zsy;rw[if_neg (fun h=>h zrJ.2.2.1),if_neg (by decide),show WA 5=5 from rfl,zrJ.2.2.2.1,zrJ.2.2.2.2];rfl);refine zc (zM n1 (lendI (fun _=>rfl) (fun _=>rfl) (fun _=>rfl) rfl) (.inr no)) ?_
 (refine Qp ?_;intros)
 refine zc (zM n2 (.cons (aggN (.nil0 _ _ _)) (.cons (zan rfl) (.cons (.nil0 _ _ _) (.cons (.int _ _ _) .nil)))) (.inr no)) ?_
 (refine Qp ?_;intros)
 refine zc (zg (zji [0,1,3]) rfl) ?_
 (repeat first|simp(disch:=try exact dis1) only[evD,Nat.reduceBEq,Nat.reduceAdd,Nat.reduceLeDiff,Bl.cells,z7,zr,zaq,zaP,zaO,zbE,Wj,Wo,Wp,zm7,za,d2,zaz]|with_reducible first|intro _|refine aJ ?_)
 refine zc (zg (zji [0,2,3]) rfl) ?_
 (repeat first|simp(disch:=try exact dis1) only[evD,Nat.reduceBEq,Nat.reduceAdd,Nat.reduceLeDiff,Bl.cells,z7,zr,zaq,zaP,zaO,zbE,Wj,Wo,Wp,zm7,za,d2,zaz]|with_reducible first|intro _|refine aJ ?_)
 refine zc (zg (zji [0,1]) rfl) ?_
 (repeat first|simp(disch:=try exact dis1) only[evD,Nat.reduceBEq,Nat.reduceAdd,Nat.reduceLeDiff,Bl.cells,z7,zr,zaq,zaP,zaO,zbE,Wj,Wo,Wp,zm7,za,d2,zaz]|with_reducible first|intro _|refine aJ ?_)
 refine zc (zg (zji [0,1,2,1,2,1,3]) rfl) ?_
 (repeat first|simp(disch:=try exact dis1) only[evD,Nat.reduceBEq,Nat.reduceAdd,Nat.reduceLeDiff,Bl.cells,z7,zr,zaq,zaP,zaO,zbE,Wj,Wo,Wp,zm7,za,d2,zaz]|with_reducible first|intro _|refine aJ ?_)
 refine zc (zg (zji [0,2,3]) rfl) ?_
 (repeat first|simp(disch:=try exact dis1) only[evD,Nat.reduceBEq,Nat.reduceAdd,Nat.reduceLeDiff,Bl.cells,z7,zr,zaq,zaP,zaO,zbE,Wj,Wo,Wp,zm7,za,d2,zaz]|with_reducible first|intro _|refine aJ ?_)
 refine zc (zg (zji [0]) rfl) ?_
 (repeat first|simp(disch:=try exact dis1) only[evD,Nat.reduceBEq,Nat.reduceAdd,Nat.reduceLeDiff,Bl.cells,z7,zr,zaq,zaP,zaO,zbE,Wj,Wo,Wp,zm7,za,d2,zaz]|with_reducible first|intro _|refine aJ ?_)
 exact⟨_,.bool _ _,rfl⟩
theorem zt3 {g:G} {cs:List Int} {most:Int} (h:zol g cs most=true):midG g∧g.blocks.length≤20∧cs.length≤40∧most≤60:=by unfold zol at h;rw[Wv,Wv,Wv,decide_eq_true_eq,decide_eq_true_eq,decide_eq_true_eq] at h;exact⟨zqc h.2.1,h.1,h.2.2.1,h.2.2.2⟩
theorem zyb (g:G) (cs:List Int) (most:Int):∃li er,(if zaV g≠0 then AV.tup [za [],.int .i64 (zaV g)] else if 65536 < most then .tup [za [],.int .i64 6] else .tup [za (zhF g cs most),.int .i64 0])=.tup [za li,.int .i64 er]:=by
 split
 · exact⟨_,_,rfl⟩
 ·
  split
  · exact⟨_,_,rfl⟩
  · exact⟨_,_,rfl⟩
theorem QA {p q:Prop}(k:q)(h:Im q p:=by(repeat first|simp(disch:=try exact dis1) only[evD,Nat.reduceBEq,Nat.reduceAdd,Nat.reduceLeDiff,zbV] | ((with_reducible apply Im.i);intro _) | ((with_reducible apply Im.a);omega));exact Im.r):p:=h k
theorem Qak {p q:Prop}(k:q)(h:Im q p:=by(repeat first|simp(disch:=try exact dis1) only[evD,Nat.reduceBEq,Nat.reduceAdd,Nat.reduceLeDiff,zh8] | ((with_reducible apply Im.i);intro _) | ((with_reducible apply Im.a);omega));exact Im.r):p:=h k
theorem L37_TraceGraph_ok (g:G) (cs:List Int) (most:Int) (hw:∀c∈cs,0≤c∧c < 4294967296) (hmo:InR .i64 most):zk Tryz.prog ziC [.agg g.cells,encL 1 cW cs,.int .i64 most] (·=.bool true):=by
 refine fn_x zmD rfl ?_;unfold zhQ;have hB:=hBig;have hsm:=zsV g cs (if 60 < most then 60 else most);have hex:=zkM;have hmid:=zt3 (g:=g) (cs:=cs) (most:=if 60 < most then 60 else most)
 have ha:=fun hm hc=>zu3 g cs most hm hc
 have hb:=fun hm hc=>zsX g hm cs most hc hw
 generalize zol g cs (if 60 < most then 60 else most)=sm at hsm hmid;simp only[G.cells] at hsm ha hb ⊢
 (repeat first|simp(disch:=try exact dis1) only[evD,Nat.reduceBEq,Nat.reduceAdd,Nat.reduceLeDiff,fldP,zh8]|with_reducible first|intro _|refine aJ ?_)
 refine zc (zg hsm rfl) ?_;obtain⟨li,er,hV⟩:=zyb g cs most;rw[hV] at ha hb
 have retT:∀H:AH,∃a,Frz H (.bool true) a∧a=.bool true:=fun H=>⟨_,.bool _ _,rfl⟩
 cases sm with
 |
  false =>
  (refine Qa ?_;intros)
  refine zc (zg hex rfl) ?_
  (refine QA ?_;intros)
  exact retT _
 |
  true =>
  obtain⟨hm,hbl,hcl,-⟩:=hmid rfl
  by_cases h60:60 < most
  ·
   by_cases h65:most≤65536
   ·
    (repeat first|simp(disch:=try exact dis1) only[evD,Nat.reduceBEq,Nat.reduceAdd,Nat.reduceLeDiff,dT,fldP,zh8]|with_reducible first|intro _|refine aJ ?_)
    refine zc (zg hex rfl) ?_
    (refine QA ?_;intros)
    exact retT _
   ·
    have h1:=ha hm (by omega) (.inr (by omega)) hw;have h2:=hb hm (by omega)
    (repeat first|simp(disch:=try exact dis1) only[evD,Nat.reduceBEq,Nat.reduceAdd,Nat.reduceLeDiff,dT,dF,fldP,zh8]|with_reducible first|intro _|refine aJ ?_)
    refine zc (zg h1 rfl) ?_
    (refine Qak ?_;intros)
    refine zc (zg h2 rfl) ?_
    (refine Qa ?_;intros)
    refine zc (zg (zji li) rfl) ?_;have der:decide (er=er)=true:=decide_eq_true rfl
    (repeat first|simp(disch:=try exact dis1) only[evD,Nat.reduceBEq,Nat.reduceAdd,Nat.reduceLeDiff,der]|with_reducible first|intro _|refine aJ ?_)
    refine zc (zg hex rfl) ?_
    (refine QA ?_;intros)
    exact retT _
  ·
   have h1:=ha hm (by omega) (.inl (by omega)) hw;have h2:=hb hm (by omega)
   (repeat first|simp(disch:=try exact dis1) only[evD,Nat.reduceBEq,Nat.reduceAdd,Nat.reduceLeDiff,dF,fldP,zh8]|with_reducible first|intro _|refine aJ ?_)
   refine zc (zg h1 rfl) ?_
   (refine Qak ?_;intros)
   refine zc (zg h2 rfl) ?_
   (refine Qa ?_;intros)
   refine zc (zg (zji li) rfl) ?_;have der:decide (er=er)=true:=decide_eq_true rfl
   (repeat first|simp(disch:=try exact dis1) only[evD,Nat.reduceBEq,Nat.reduceAdd,Nat.reduceLeDiff,der]|with_reducible first|intro _|refine aJ ?_)
   refine zc (zg hex rfl) ?_
   (refine QA ?_;intros)
   exact retT _
end Go.Ab
