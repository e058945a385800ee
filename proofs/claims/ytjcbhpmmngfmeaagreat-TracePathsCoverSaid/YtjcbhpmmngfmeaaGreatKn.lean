/-
  Part 14 of the proof: how the calls of this program run, over values instead of memory, and what each function computes.
-/
import Derived.Test.YtjcbhpmmngfmeaaGreatKm
set_option maxRecDepth 100000
set_option linter.unusedVariables false
set_option linter.unusedSimpArgs false
set_option linter.unnecessarySimpa false
set_option linter.unusedSectionVars false
open List renaming mem_singleton→Wa,getD→Wf,getElem_mem→Wg,mem_cons→Wi,length_cons→Wk,all_cons→Wl,length_map→Wn,all_nil→Wo,mem_map→Wq,getD_cons_zero→Wr,getD_cons_succ→Ws,cons_append→Wv,nil_append→Ww,length_nil→Wy,getElem?_eq_getElem→WB,mem_append→WD,length_append→WE,all_eq_true→WF,mem_iff_getElem→WJ,eq_nil_of_length_eq_zero→WM,count_eq_zero→WN,getElem?_eq_none→WP,getElem?_modify→WQ,pairwise_iff_getElem→WU,any_append→WV,nodup_nil→WX,range→WZ,append_nil→W0,mem_range→W3,nodup_cons→W5,mem_or_eq_of_mem_set→W6,getElem?_concat_length→W7,getElem?_mapIdx→W9,not_mem_nil→Waa,length_singleton→Wab,ext_getElem→Wad,getElem_range→Wae,take_add_one→Waf,flatMap_append→Wag,flatMap_cons→Wah,length_range→Wai,all_eq_false→Waj,mem_cons_of_mem→Wak,mem_erase_of_ne→Wal,length_take→Wam,getElem_take→Wan,mem_flatMap→Wao,getElem?_eq_some_iff→Waq,mem_of_getLast?→War,dropLast_subset→Was,getD_eq_getElem?_getD→Wau
open Bool renaming and_eq_true→Wc,false_and→Wt,true_and→Wu,and_self→Wx,eq_iff_iff→WW,false_eq_true→WY,not_eq_true'→Wap
open Nat renaming le_refl→Wd,zero_le→We,le_trans→Wh,beq→Wm,zero_add→WH,succ_mul→WL,lt_or_ge→WS,mul_le_mul_right→Wac,lt_succ_self→Wat
open Int renaming le_refl→Wj,toNat_of_nonneg→WK
open Option renaming bind_some→Wp,map_some→WG,map_eq_map→WR,map_eq_some_iff→W8
open Eq renaming trans→Wz
open Prod renaming fst→WA
open Option.some renaming injEq→WC
open Prod.mk renaming injEq→WI
open And renaming intro→WO
namespace Go.Ab
open Go.RowKit Go.Proofs
def StB (b:Nat) (p:PC):Prop:=∀k m,tlen p k=some m→m≤b
theorem StB.of_st {b:Nat} {p q:PC} (h:StB b p) (e:q.st=p.st):StB b q:=fun k m hm=>h k m (by unfold tlen at hm ⊢;rw[←e];exact hm)
theorem zf2 {b:Nat} {p:PC} {s:PSt} (h:StB b p) (hs:∀l,s.to=some l→l.length≤b):StB b (addP p s):=fun k m hm=>by
 by_cases hk:k < p.st.length
 · exact h k m (by rw[←zbz (p:=p) (s:=s) (Wd _) k hk];exact hm)
 ·
  unfold tlen addP at hm;simp only at hm
  by_cases hk2:k=p.st.length
  · subst hk2;simp only[W7,Wp] at hm;obtain⟨l,h1,h2⟩:=W8.1 hm;rw[←h2];exact hs l h1
  · rw[WP (by simp;omega)] at hm;cases hm
theorem zyl {b:Nat} {p:PC} {k i:Nat} {v:Int} (h:StB b p):StB b (setTo p k i v):=fun j m hm=>h j m (by rw[←zii (b:=j+1) (p:=p) (k:=k) (i:=i) (v:=v) j (by omega)];exact hm)
theorem zpU {b:Nat} {p:PC} {ks:List Int} {v:Int} (h:StB b p):StB b (putAll p ks v):=fun j m hm=>h j m (by rw[←ze6 (b:=j+1) (p:=p) (ks:=ks) (v:=v) j (by omega)];exact hm)
theorem zBv {b:Nat} {p:PC} {k n:Nat} {v:Int} (h:StB b p) (hk:tlen p k=some n) (hn:n+1≤b):StB b (appTo p k v):=fun j m hm=>by
 by_cases hj:j=k
 · subst hj;rw[zni hk] at hm;cases hm;exact hn
 ·
  refine h j m ?_;rw[←hm];unfold tlen appTo;simp only[WQ]
  cases p.st[j]? with
  | none=>rfl
  |
   some s =>
   simp only[WR,WG,Wp];rw[if_neg (Ne.symm hj)]
theorem zrh {b:Nat} {q:PC} {top:Int} (h:StB b q) (hb:1≤b):StB b (zd0 q top):=by unfold zd0;refine zpU (zf2 (h.of_st rfl) fun l e=>?_);cases e;exact hb
mutual
theorem zlL:∀(n:Nd) (p:PC) (b:Nat),StB b p→zax n+2≤b→StB b (zaF n p)
 |
  .mk f c l,p,b,h,hb=>by
  rw[zax] at hb;rw[zaF];split
  · exact zjA l p b h (by omega)
  split
  · exact zf2 h fun l e=>by cases e
  split
  ·
   simp only
   have h1:StB b (zaP p):=zf2 h fun l e=>by cases e;simp
   have h2:tlen (zaP p) p.st.length=some 0:=by unfold tlen zaP addP;simp
   have h3:=zlA l;exact zpU (zw0 p.st.length l (zaP p) [] b 0 h1 (by omega) h2 (by simp[zaP,addP]) (by omega))
  split
  · exact zrh (zjA l (zbl p p.st.length) b (h.of_st rfl) (by omega)) (by omega)
  split
  ·
   simp only
   have h1:StB b (zeB p f.block):=zf2 (zf2 h fun l e=>by cases e) fun l e=>by cases e;simp;omega
   exact zyl (zrh (zjA l (zbl (zeB p f.block) p.st.length) b (h1.of_st rfl) (by omega)) (by omega))
  split
  · exact StB.of_st (p:=zaB p 0) (zf2 h fun l e=>by cases e;simp;omega) rfl
  split
  · exact zf2 h fun l e=>by cases e;simp;omega
  split
  · exact StB.of_st (p:=zaB p 0) (zf2 h fun l e=>by cases e;simp;omega) rfl
  split
  · exact h.of_st rfl
  split
  · exact zf2 h fun l e=>by cases e
  · exact h
theorem zjA:∀(l:List Nd) (p:PC) (b:Nat),StB b p→zZ l+2≤b→StB b (zaC l p)
 | [],p,b,h,hb=>by rw[zaC];exact h
 |
  n::l,p,b,h,hb=>by
  rw[zZ] at hb;rw[zaC];exact zjA l _ b (zlL n p b h (by omega)) (by omega)
theorem zw0 (at':Nat):∀(l:List Nd) (p:PC) (ends:List Int) (b m:Nat),StB b p→zZ l+2≤b→tlen p at'=some m→at' < p.st.length→m+l.length≤b→StB b (brP at' l p ends).1
 | [],p,ends,b,m,h,hb,ht,hl,hm=>by rw[brP];exact h
 |
  n::l,p,ends,b,m,h,hb,ht,hl,hm=>by
  rw[zZ] at hb;rw[brP];rw[Wk] at hm
  have e1:at' < (appTo p at' p.st.length).st.length:=by simpa [appTo] using hl
  have e2:=(zbT n (appTo p at' p.st.length)).keep.len;have h1:=zlL n _ b (zBv h ht (v:=(p.st.length:Int)) (by omega)) (by omega)
  have h2:StB b (zaB (zaF n (appTo p at' p.st.length)) 0):=zf2 h1 fun l e=>by cases e;simp;omega
  have h3:tlen (zaB (zaF n (appTo p at' p.st.length)) 0) at'=some (m+1):=by rw[show tlen (zaB (zaF n (appTo p at' p.st.length)) 0) at'=tlen (zaF n (appTo p at' p.st.length)) at' from zbz (b:=at'+1) (by omega) at' (by omega),zeF n _ (at'+1) (by omega) at' (by omega)];exact zni ht
  exact zw0 at' l _ _ b (m+1) h2 (by omega) h3 (by simp[zaB,addP];omega) (by omega)
end
def p0:PC:=⟨[],[],[],[]⟩
def g0:Gn:=⟨0,0,[],fun _=>0,fun _=>[],fun _=>0,fun _=>[],fun _=>0,fun _=>[]⟩
theorem ok0:OkC p0 g0:=⟨fun k h=>(by cases h),fun d h=>(by cases h),fun c hc=>(by cases hc),fun d x hx=>(by cases hx)⟩
theorem zCd:TailOk 8 []:=⟨Wd _,fun r o h=>(by cases h),trivial⟩
def zfd (e:Nd):PC:=addP (zaF e p0) ⟨2,0,none⟩
def zft (got:List (Int × Int)) (sel:List Nat) (k:Nat):Bool:=sel.any fun i=>decide ((got.getD i (0,0)).1=(k:Int))
def zce (e:Nd):PC:=fixK (zfd e) fun k:Nat=>decide ((k:Int)∈(zfd e).got.map WA)
def zCj:Option (List Int)→AV
 | none=>.nilsl
 | some l=>za l
def cPs (s:PSt):List AV:=[.int .i64 s.kind,.int .i64 s.block,zCj s.to]
def zq2 (l:List PSt):AV:=encP 4 [encL 3 cPs l,.undef,.undef,.undef]
theorem zy1 {M b:Nat} {p:PC} {γ:Gn} {T:AH} (hok:OkC p γ) (hM:p.st.length≤M) (hM2:M≤1000000) (hb:StB b p) (hb2:b≤1000000):Frz (cH M p γ T) (.ptr 0 0 0 0 0) (zq2 p.st):=by
 have hB:=hBig
 refine .frzp _ 0 0 0 0 0 4 4 _ _ trivial rfl (by simp) (by simp) fun j hj=>?_
 match j with
 |
  0 =>
  refine .frz _ 1 0 γ.gs 0 p.st.length 3 (stC γ.gt p.st) _ trivial rfl (by omega) (by simp[zcj]) fun i j hi hj=>?_
  rw[WH,zq0 hi];have e:(p.st.map cPs).getD i []=cPs p.st[i]:=zo (f:=cPs) hi;show Vw _ _ _ _ _ _ (((p.st.map cPs).getD i []).getD j .undef);rw[e];unfold cS cPs
  match j with
  | 0=>exact .int _ _ _
  | 1=>exact .int _ _ _
  |
   2 =>
   show Vw _ _ _ _ _ (toV γ.gt i p.st[i].to) (zCj p.st[i].to)
   cases ht:p.st[i].to with
   | none=>exact .nilsl _
   |
    some l =>
    have htl:=hok.to i hi l ht;have hlb:=hb i l.length (by unfold tlen;rw[WB hi,Wp,ht];rfl)
    refine .frz _ 5 (i+1) (γ.gt i) 0 l.length 1 ((γ.tl i).map cI) _ trivial (znl rfl (by omega)) (by omega) (by rw[htl];simp) fun a c ha hc=>?_
    rw[WH,htl,zo (f:=cI) ha]
    match c with
    | 0=>exact .int _ _ _
    | c+1=>exact absurd (show c+1 < 1 from hc) (by omega)
  | j+3=>omega
 | 1=>exact .undef _ _
 | 2=>exact .undef _ _
 | 3=>exact .undef _ _
 | j+4=>omega
theorem zp4:∀(n:Nat) (l:List Nat),l.Nodup→(∀i∈l,i < n)→l.length≤n
 | 0,[],_,_=>Wd _
 | 0,a::l,_,h=>by have:=h a (by simp);omega
 |
  n+1,l,hn,h=>by
  have h1:=zp4 n (l.erase n) (hn.erase n) fun i hi=>by
   have h2:=h i (List.mem_of_mem_erase hi)
   have h3:i≠n:=fun e=>by subst e;exact(List.Nodup.not_mem_erase hn) hi
   omega
  have h4:=List.length_erase (a:=n) (l:=l)
  split at h4<;>omega
def sig0:Nat→Nat→Option (Nat × Nat × Nat):=fun r q=>if r=0 then some (2,q,0) else if r=3 then some (0,q,0) else if r=4 then some (1,q,0) else none
theorem ent0 {M:Nat} {K:Kn} {c:Nat→AV} (h1:K.get 1=.iptr 5 c) (h3:K.get 3=.ptr 2 0 0 0 0) :
  Ent 0 K [(0,.row 3 [[.int .i64 0,.undef,.undef]] 0),(1,.row 3 [[.int .i64 0,.undef,.undef]] 0),(2,.row 4 [[.nilsl,.nilsl,.mp 0 0,.mp 1 0]] 0)] 3 [(1,.iptr 5 c),(3,.ptr 0 0 0 0 0)] (cH M p0 g0 []) 8:=by
 refine Ent.view sig0 (fun _ _=>False) ⟨We _,fun r q h=>absurd h (by omega),?_,fun _ _ _ _ _ _ h=>h,?_,?_,?_⟩ ?_
 ·
  intro r1 q1 r2 q2 r q d1 d2 h1 h2;unfold sig0 at h1 h2
  (repeat' split at h1)<;>(repeat' split at h2)<;>first | (cases h1;done) | (cases h2;done) | (simp only[WC,WI] at h1 h2;omega)
 ·
  intro r q x h;unfold sig0 at h
  (repeat' split at h)<;>first|omega|cases h
 ·
  intro r o h
  rcases WS r 8 with h1|h1
  · exact h1
  · rw[zjj h1] at h;cases h
 ·
  intro r q sz els g h;unfold AH.get at h;obtain⟨o,ho,hp⟩:=Option.bind_eq_some_iff.1 h;have flat:∀ {c n:List (List AV)},True:=trivial
  match r with
  |
   0 =>
   cases ho
   cases q with
   |
    zero =>
    cases hp;refine .inl ⟨2,0,0,[[.nilsl,.nilsl,.mp 0 0,.mp 1 0]],rfl,rfl,⟨rfl,fun i c hi=>?_⟩⟩
    cases i with
    | succ i=>simp at hi
    |
     zero =>
     cases hi;refine⟨_,rfl,rfl,fun j a b ha hb=>?_⟩
     match j with
     | 0=>cases ha;cases hb;exact .new 1 0 3 rfl rfl
     | 1=>cases ha;cases hb;exact .new 2 0 1 rfl rfl
     | 2=>cases ha;cases hb;exact .mp 0 0 3 0 rfl
     | 3=>cases ha;cases hb;exact .mp 1 0 4 0 rfl
     | j+4=>simp at ha
   | succ q=>cases hp
  |
   1 =>
   cases ho
   cases q with
   | zero=>cases hp;exact .inr ⟨rfl,rfl,rfl⟩
   | succ q=>cases hp
  |
   2 =>
   cases ho
   cases q with
   | zero=>cases hp;exact .inr ⟨rfl,rfl,rfl⟩
   | succ q=>cases hp
  |
   3 =>
   cases ho
   cases q with
   | zero=>cases hp;exact .inl ⟨0,0,0,_,rfl,rfl,RowV.of_flat (by intro c hc;rw[Wa.1 hc];rfl)⟩
   | succ q=>cases hp
  |
   4 =>
   cases ho
   cases q with
   | zero=>cases hp;exact .inl ⟨1,0,0,_,rfl,rfl,RowV.of_flat (by intro c hc;rw[Wa.1 hc];rfl)⟩
   | succ q=>cases hp
  |
   5 =>
   cases ho
   cases q with
   | zero=>cases hp
   |
    succ q =>
    simp only[AObj.part,zkX] at hp;split at hp
    · cases hp;exact .inr ⟨rfl,rfl,rfl⟩
    · cases hp
  |
   6 =>
   cases ho
   cases q with
   | zero=>cases hp
   |
    succ q =>
    simp only[AObj.part,zkX] at hp;split at hp
    · cases hp;exact .inr ⟨rfl,rfl,rfl⟩
    · cases hp
  |
   7 =>
   cases ho
   cases q with
   | zero=>cases hp
   |
    succ q =>
    simp only[AObj.part,zkX] at hp;split at hp
    · cases hp;exact .inr ⟨rfl,rfl,rfl⟩
    · cases hp
  |
   r+8 =>
   rw[zjj (by omega)] at ho;cases ho
 ·
  intro i;simp only[Kn.get]
  cases hb:Wm 1 i with
  | true=>rw[←zL hb,h1];exact .iptr _ _ _
  |
   false =>
   simp only[cond_false]
   cases hb2:Wm 3 i with
   | true=>rw[←zL hb2,h3];exact .ptr 2 0 0 0 0 0 0 0 0 rfl rfl
   | false=>exact .undef _ _
theorem zwR {r q:Nat} {l:List (Int × Int)} {H:AH} {nx:Nat}:zyW r q (some (.row 3 (mpC l) 0)) H nx=⟨True,True,.it nx,H.set nx 0 (.row 1 [[.mp r q],[.int .i64 l.length],[.int .i64 l.length]] 0),nx+1⟩:=by unfold mpC zyW;simp
theorem zoR {M:Nat} {p:PC} {γ:Gn} {N sz g:Nat} {els:List (List AV)} (hN:8≤N):(cH M p γ [(N,.row sz els g)]).get N 0=some (.row sz els g):=by unfold AH.get;rw[zjj hN];simp only[AH.look,zB,cond_true];rfl
theorem zs0 {M:Nat} {p:PC} {γ:Gn} {N sz g sz2 g2:Nat} {els els2:List (List AV)} (hN:8≤N):(cH M p γ [(N,.row sz els g)]).set N 0 (.row sz2 els2 g2)=cH M p γ [(N,.row sz2 els2 g2)]:=by unfold AH.set;rw[zjj hN];simp only[AH.look,zB,cond_true];unfold cH;simp only[AH.put,zH (show 0≠N by omega),zH (show 1≠N by omega),zH (show 2≠N by omega),zH (show 3≠N by omega),zH (show 4≠N by omega),zH (show 5≠N by omega),zH (show 6≠N by omega),zH (show 7≠N by omega),cond_false,zB,cond_true,AObj.upd]
theorem zwK {p:PC} {done:Nat→Bool} (h:∀k,done k=false):fixK p done=p:=by
 obtain⟨st,lp,lab,got⟩:=p;unfold fixK;simp only[PC.mk.injEq,and_true];apply List.ext_getElem?;intro j;simp only[W9,h]
 cases st[j]? <;> rfl
theorem zxY {l:List (Int × Int)} (hn:(l.map WA).Nodup) {i j:Nat} (hi:i < l.length) (hj:j < l.length) (h:l[i].1=l[j].1):i=j:=by
 have h5:=WU.1 hn
 refine Classical.byContradiction fun hne=>?_
 rcases WS j i with hlt|hge
 · exact h5 j i (by simpa using hj) (by simpa using hi) hlt (by simpa using h.symm)
 · exact h5 i j (by simpa using hi) (by simpa using hj) (by omega) (by simpa using h)
theorem zsZ {got:List (Int × Int)} {sel:List Nat} {i k:Nat} (hi:i < got.length) (hk:(k:Int)=got[i].1):zft got (sel++[i])=fun j=>zft got sel j||(j == k):=by
 funext j
 unfold zft;rw[WV]
 congr 1
 simp only[List.any_cons,List.any_nil,Bool.or_false]
 have e:got.getD i (0,0)=got[i]:=by simp[Wf,hi]
 rw[e,←hk]
 by_cases h:j=k
 · subst h;simp
 ·
  have h2:¬(k:Int)=(j:Int):=by omega
  simp[h,h2]
theorem zvL {got:List (Int × Int)} (hn:(got.map WA).Nodup) {sel:List Nat} (hs:∀i∈sel,i < got.length) {i k:Nat} (hi:i < got.length) (hk:(k:Int)=got[i].1) (hns:i∉sel):zft got sel k=false:=by
 unfold zft;rw[List.any_eq_false];intro x hx;have hxl:=hs x hx
 have e:got.getD x (0,0)=got[x]:=by simp[Wf,hxl]
 rw[e,hk];simp only[decide_eq_true_eq];intro h;exact hns (zxY hn hxl hi h▸hx)
theorem zwc {got:List (Int × Int)} {sel:List Nat} (h:∀i,i < got.length→i∈sel) (hs:∀i∈sel,i < got.length):zft got sel=fun k:Nat=>decide ((k:Int)∈got.map WA):=by
 funext k
 unfold zft;rw[WW,List.any_eq_true,decide_eq_true_eq];constructor
 ·
  rintro⟨i,hi,h2⟩;have hil:=hs i hi
  have e:got.getD i (0,0)=got[i]:=by simp[Wf,hil]
  rw[e,decide_eq_true_eq] at h2;rw[←h2];exact Wq.2 ⟨_,Wg hil,rfl⟩
 ·
  intro hk;obtain⟨x,hx,h2⟩:=Wq.1 hk;obtain⟨i,hi,rfl⟩:=WJ.1 hx;refine⟨i,h i hi,?_⟩
  have e:got.getD i (0,0)=got[i]:=by simp[Wf,hi]
  rw[e,decide_eq_true_eq];exact h2
theorem zCz {b:Nat} {p:PC} {done:Nat→Bool} (h:StB b p):StB b (fixK p done):=fun k m hm=>h k m (by
 rw[←hm];unfold tlen fixK;simp only[W9]
 cases p.st[k]? with
 | none=>rfl
 |
  some s =>
  simp only[WG,Wp];split
  ·
   simp only
   cases s.to with
   | none=>rfl
   | some l=>simp
  · rfl)
theorem zkB (e:Nd) (hs:zax e≤1000) (hst:zdF e false=false):zk Tryz.prog zdR [.agg (encN e)] (·=zq2 (zce e).st):=by
 refine fn_x zkN rfl ?_;unfold zf9;have hB:=hBig
 (refine Qu ?_;intros)
 have hM:4 * zax e+10≤1000000:=by omega
 have h1:=zbT e p0;have hlen:=h1.len;have hgl:=h1.got;have hp0:p0.st.length=0∧p0.lab.length=0∧p0.got.length=0∧p0.lp.length=0:=⟨rfl,rfl,rfl,rfl⟩;obtain⟨z1,z2,z3,z4⟩:=hp0
 refine znn [(1,.iptr 5 fun j=>(encN e).getD j .undef),(3,.ptr 0 0 0 0 0)] (cH (4 * zax e+10) p0 g0 []) 8 fun _=>⟨ent0 rfl rfl,?_⟩
 unfold zeq
 (refine Qu ?_;intros)
 refine(zp7 (4 * zax e+10) hM _ e (Wd _) p0 g0 [] 8 ok0 (fun x hx=>by cases hx) zCd (by omega) (by omega) (by omega) hst).mono ?_;rintro v H N1 ⟨hN1,γ1,ok1,sx1,rfl⟩
 (refine Qa ?_;intros)
 have hT1:=zCd.up hN1;refine(zcP (4 * zax e+10) (zaF e p0) γ1 [] N1 2 0 ok1 hT1 (by omega)).mono ?_;rintro v H N2 ⟨hN2,rfl,ok2,rfl⟩;have hT2:=zCd.up (Wh hN1 hN2);have hgo:zhR (zfd e):=(zn2 e p0 ⟨WX,fun x hx=>by cases hx⟩).keep (zbP _ _) rfl
 have hbb:StB (zax e+2) (zfd e):=zf2 (zlL e p0 (zax e+2) (fun k m hm=>by unfold tlen p0 at hm;simp at hm) (Wd _)) fun l e=>by cases e
 have hsl:(zfd e).st.length≤4 * zax e+10:=by simp[zfd,addP];omega
 have hgl2:(zfd e).got.length≤1000000:=by have:(zfd e).got.length=(zaF e p0).got.length:=rfl;omega
 unfold zce
 change OkC (zfd e) (addG γ1) at ok2
 show zo3 _ _ _ _ _ _ _ (cH (4 * zax e+10) (zfd e) (addG γ1) []) N2;generalize zfd e=q at *;generalize addG γ1=γ2 at *;obtain⟨n0,n1,n2,n3,n4,n5,n6,n7⟩:=ne8 hT2.eight;simp only[cH]
 (repeat first|simp(disch:=try exact dis1) only[evD,Nat.reduceBEq,Nat.reduceAdd,Nat.reduceLeDiff,evM,zwR,n0,n1,n2,n3,n4,n5,n6,n7,AH.look]|with_reducible first|intro _|refine aJ ?_)
 have ez:fixK q (zft q.got [])=q:=zwK (fun _=>rfl)
 refine zm (fun s:List Nat × Gn=>([(3,.ptr 0 0 0 0 0),(20,.it N2)],cH (4 * zax e+10) (fixK q (zft q.got s.1)) s.2 [(N2,.row 1 ([.mp 4 0]::[.int .i64 q.got.length]::[.int .i64 q.got.length]::s.1.map fun i:Nat=>[.int .i64 (i:Int)]) 0)])) (N2+1)
  (fun s=>s.1.Nodup∧(∀i∈s.1,i < q.got.length)∧OkC (fixK q (zft q.got s.1)) s.2) (fun s=>q.got.length - s.1.length) ([],γ2) ⟨WX,fun i hi=>(by cases hi),?_⟩ ?_ ?_
 · simp only[ez];exact ok2
 ·
  have hT3:TailOk (N2+1) [(N2,.row 1 ([.mp 4 0]::[.int .i64 q.got.length]::[.int .i64 q.got.length]::([]:List Nat).map fun i:Nat=>[.int .i64 (i:Int)]) 0)]:=hT2.put 1 _ (by
   intro c hc
   have h4:Nat.blt 4 (N2+1)=true:=by rw[Nat.blt_eq];omega
   simp only[List.map_nil,Wi,Waa,or_false] at hc
   rcases hc with rfl|rfl|rfl<;>simp[AV.lt0,h4])
  refine Ent.low (by omega) ?_ (zkV (by simp only[ez];exact ok2) hT3) ?_
  ·
   simp only[ez]
   exact fun _ _ h=>h
  · refine⟨⟨rfl,?_⟩,⟨rfl,?_⟩,trivial⟩<;>simp[AV.lt1,AV.lt0]
 ·
  rintro⟨sel,γ3⟩ ⟨hnd,hsl2,ok3⟩ wf;simp only at hnd hsl2 ok3 ⊢;clear wf;unfold zec;have hcnt:=zp4 q.got.length sel hnd hsl2
  (refine Qa ?_;intros)
  refine zBH (l:=q.got) (sel:=sel) (zoR hT2.eight) rfl (Wj _) rfl ?_ ?_
  ·
   intro hall
   (refine Qa ?_;intros)
   unfold zem
   (repeat first|simp(disch:=try exact dis1) only[evD,Nat.reduceBEq,Nat.reduceAdd,Nat.reduceLeDiff,zgg]|with_reducible first|intro _|refine aJ ?_)
   rw[←zwc hall hsl2];exact⟨_,zy1 ok3 (by simp[fixK];omega) hM (zCz hbb) (by omega),rfl⟩
  ·
   intro i hi hns;rw[zs0 hT2.eight]
   have hment:∀nx,xopR .ment [.it N2] (cH (4 * zax e+10) (fixK q (zft q.got sel)) γ3 [(N2,.row 1 ([.mp 4 0]::[.int .i64 q.got.length]::[.int .i64 q.got.length]::(sel++[i]).map fun i:Nat=>[.int .i64 (i:Int)]) 0)]) nx=_:=fun nx=>zCx (zoR hT2.eight) rfl hi
   (repeat first|simp(disch:=try exact dis1) only[evD,Nat.reduceBEq,Nat.reduceAdd,Nat.reduceLeDiff,hment]|with_reducible first|intro _|refine aJ ?_)
   obtain⟨k,hkk,hto⟩:∃k:Nat,(k:Int)=q.got[i].1∧zj4 q k 1:=⟨q.got[i].1.toNat,WK (hgo.2 q.got[i] (Wg hi)).1,(hgo.2 q.got[i] (Wg hi)).2⟩
   have hlk:zn9 q.lab q.got[i].2=zlm q k:=by rw[zlm,hkk,zxV hgo.1 hi]
   have hdn:=zvL hgo.1 hsl2 hi hkk hns;have hds:=zsZ (sel:=sel) hi hkk
   have hfl:(fixK q (zft q.got sel)).st.length=q.st.length:=by simp[fixK]
   obtain⟨hk,lst,h1',h2',h3',h4'⟩:=zil (M:=4 * zax e+10) ok3 (zAQ.to _ _ hto) (by omega)
   have hslen:(stC γ3.gt (fixK q (zft q.got sel)).st).length=q.st.length:=by rw[zcj,hfl]
   have htll:((γ3.tl k).map cI).length=lst.length:=by rw[Wn,h1']
   have hlab:(fixK q (zft q.got sel)).lab=q.lab:=rfl
   have hpos:0 < lst.length:=by omega
   have hst2:=zx4 (p:=q) hdn;rw[←hds] at hst2;rw[←hkk];simp only[cH]
   (repeat first|simp(disch:=try exact dis1) only[evD,Nat.reduceBEq,Nat.reduceAdd,Nat.reduceLeDiff,dT,dF,h3',h4',hslen,htll,hfl,hlk,hlab,zw6,Int.toNat_natCast,Int.toNat_zero,zqb]|with_reducible first|intro _|refine aJ ?_)
   have ok4:OkC (fixK q (zft q.got (sel++[i]))) (setG γ3 k 0 (zlm q k)):=by rw[←hst2];exact zlI ok3 k 0 (zlm q k)
   have hnd2:(sel++[i]).Nodup:=by rw[List.nodup_append];exact⟨hnd,by simp,fun a ha b hb=>by rw[Wa.1 hb];exact fun e=>hns (e▸ha)⟩
   have hsl3:∀j∈sel++[i],j < q.got.length:=fun j hj=>by
    rcases WD.1 hj with hj|hj
    · exact hsl2 j hj
    · rw[Wa.1 hj];exact hi
   have hcnt2:=zp4 q.got.length (sel++[i]) hnd2 hsl3;rw[WE,Wab] at hcnt2
   have hT3:TailOk (N2+1) [(N2,.row 1 ([.mp 4 0]::[.int .i64 q.got.length]::[.int .i64 q.got.length]::(sel++[i]).map fun i:Nat=>[.int .i64 (i:Int)]) 0)]:=hT2.put 1 _ (by
    intro c hc
    have h4:Nat.blt 4 (N2+1)=true:=by rw[Nat.blt_eq];omega
    rcases Wi.1 hc with rfl|hc
    · simp[AV.lt0,h4]
    rcases Wi.1 hc with rfl|hc
    · rfl
    rcases Wi.1 hc with rfl|hc
    · rfl
    obtain⟨j,_,rfl⟩:=Wq.1 hc
    rfl)
   refine⟨(sel++[i],setG γ3 k 0 (zlm q k)),⟨hnd2,hsl3,ok4⟩,by rw[WE,Wab];omega,Ent.low (by omega) ?_ (zkV ok4 hT3) ?_⟩
   · intro x o hx;have hx2:(cH (4 * zax e+10) (fixK q (zft q.got (sel++[i]))) (setG γ3 k 0 (zlm q k)) [(N2,.row 1 ([.mp 4 0]::[.int .i64 q.got.length]::[.int .i64 q.got.length]::(sel++[i]).map fun i:Nat=>[.int .i64 (i:Int)]) 0)]).look x=some o:=hx;rw[←hst2,zqd,hfl] at hx2;exact hx2
   · refine⟨⟨rfl,?_⟩,⟨rfl,?_⟩,trivial⟩<;>simp[AV.lt1,AV.lt0]
inductive RR where
 | visit (b:Int) (a j:Nat)
 | stop
 | endless
def goR (st:List PSt) (cs:List Int):Nat→Nat→Nat→Nat→RR
 | 0,_,_,_=>.endless
 |
  f+1,a,i,j =>
  if st.length < i then .endless else
  if (st.getD a ⟨2,0,none⟩).kind=2 then .stop else
  if (st.getD a ⟨2,0,none⟩).kind=0 then .visit (st.getD a ⟨2,0,none⟩).block (a+1) j else
  let l:=(st.getD a ⟨2,0,none⟩).to.getD []
  if l.length=1∧(st.getD a ⟨2,0,none⟩).block ≠ -1 then goR st cs f (l.getD 0 0).toNat (i+1) j
  else goR st cs f (l.getD (zgs cs j l.length).1.toNat 0).toNat (if (zgs cs j l.length).2 then 0 else i+1) (zkD cs j)
def muR (st:List PSt) (cs:List Int) (i j:Nat):Nat:=(cs.length - j) * (st.length+2)+(st.length+2 - i)
def zo8 (st:List PSt) (cs:List Int):Nat:=(cs.length+1) * (st.length+2)
def zjt (st:List PSt) (cs:List Int) (s:Nat × Nat × Nat):Option (List AV × (Nat × Nat × Nat)) :=
 match goR st cs (zo8 st cs) s.2.1 0 s.2.2 with
 | .visit b a j=>some ([.int .i64 b],(s.1 - 1,a,j))
 | _=>none
def endR (st:List PSt) (cs:List Int) (s:Nat × Nat × Nat):Int :=
 match goR st cs (zo8 st cs) s.2.1 0 s.2.2 with
 | .endless=>15
 | _=>0
def valR (st:List PSt) (cs:List Int) (s:Nat × Nat × Nat):Int :=
 match goR st cs (zo8 st cs) s.2.1 0 s.2.2 with
 | .visit b _ _=>b
 | _=>0
structure OkR (st:List PSt):Prop where
 len:st.length≤1000000
 pos:0 < st.length
 kind:∀k (h:k < st.length),st[k].kind=0∨st[k].kind=1∨st[k].kind=2
 last:∀k (h:k < st.length),st[k].kind=0→k+1 < st.length
 to:∀k (h:k < st.length),st[k].kind=1→∃l,st[k].to=some l∧0 < l.length∧l.length≤1000000∧∀t∈l,0≤t∧t < st.length
theorem zz6 {st:List PSt} {cs:List Int} {i j:Nat} (hj:j≤cs.length) (hi:i≤st.length) {n:Int}:muR st cs (if (zgs cs j n).2 then 0 else i+1) (zkD cs j) < muR st cs i j:=by
 unfold muR zgs zkD
 by_cases h:j < cs.length
 · rw[dif_pos h,if_pos h];simp only[if_true];obtain⟨d,hd⟩:∃d,cs.length - j=d+1:=⟨cs.length - j - 1,by omega⟩;rw[show cs.length - (j+1)=d by omega,hd,WL];omega
 · rw[dif_neg h,if_neg h];simp only[WY,if_false];omega
theorem zzF {st:List PSt} {cs:List Int} {i j:Nat} (hi:i≤st.length):muR st cs (i+1) j < muR st cs i j:=by unfold muR;omega
theorem zus {st:List PSt} {cs:List Int} {j:Nat}:muR st cs 0 j≤zo8 st cs:=by unfold muR zo8;rw[WL];have:=Wac (st.length+2) (Nat.sub_le cs.length j);omega
def ctF (rs:List Bool) (gl:List Bl) (kd bl:Int):Bool :=
 if kd=2∨kd=5 then decide (0≤bl∧bl < rs.length)&&(rs.getD bl.toNat false && !(decide (kd=5)&&decide (1 < ((gl.map (·.stmts)).getD bl.toNat []).length))) else true
def ctP (rs:List Bool) (gl:List Bl):Nd→Bool
 | .mk f _ _=>ctF rs gl f.kind f.block
def covA (rs:List Bool) (gl:List Bl) (L:List Nd):Bool :=
 L.all (ctP rs gl)&&(WZ rs.length).all fun k => !(rs.getD k false)||decide (((fm blkP L).count (k:Int):Int)=1)
def cnt (n:Nat) (l:List Int):List Int:=(WZ n).map fun(k:Nat)=>((l.count (k:Int):Nat):Int)
theorem zkY {n:Nat} {l:List Int}:(cnt n l).length=n:=by simp[cnt]
theorem zuz {n:Nat}:(cnt n []).map cI=List.replicate n [AV.int .i64 0]:=by
 unfold cnt;rw[List.map_map];apply Wad
 · simp
 · intro i h1 h2;simp
theorem zwI {n k:Nat} {l:List Int} (h:k < n):((cnt n l).map cI).getD k []=[.int .i64 ((l.count (k:Int):Nat):Int)]:=by rw[zo (by rw[zkY];exact h)];simp[cnt]
theorem zBu {n k:Nat} {l:List Int} (h:k < n):((cnt n l).map cI).set k [.int .i64 (((l.count (k:Int):Nat):Int)+1)]=(cnt n (l++[(k:Int)])).map cI:=by
 apply Wad
 · simp[zkY]
 ·
  intro i h1 h2;simp only[Wn,zkY] at h2;rw[List.getElem_set];simp only[cnt,List.map_map,List.getElem_map,Wae,Function.comp];rw[List.count_append,List.count_singleton]
  by_cases hik:k=i
  · subst hik;simp
  ·
   have hne:((k:Int) == (i:Int))=false:=by simp;omega
   rw[if_neg hik,hne];simp
theorem zBA {p:NdF→List Int} {l:List Nd} {i:Nat} (h:i < l.length):fm p (l.take (i+1))=fm p (l.take i)++p l[i].f:=by rw[Waf,WB h];unfold fm;rw[Wag];simp only[Option.toList,Wah,List.flatMap_nil,W0]
theorem zAX {p:Nd→Bool} {l:List Nd} {i:Nat} (h:i < l.length):(l.take (i+1)).all p=((l.take i).all p&&p l[i]):=by rw[Waf,WB h,List.all_append];simp only[Option.toList,Wl,Wo,Bool.and_true]
theorem zk4 (g:G) (hf:midG g) (L:List Nd) (hL:L.length≤1000) (hc:(fm blkP L).length≤1000) :
  zk Tryz.prog zdJ [encL 5 encN L,.agg g.cells] (·=.bool (covA (Dm.reachL g.toG.E) g.blocks L)):=by
 refine fn_x zk1 rfl ?_;unfold zgE;have hB:=hBig;have hR:=Dm.dominator_Reachable_ok g.toG (zvY hf)
 have hrl:(Dm.reachL g.toG.E).length=g.blocks.length:=by unfold Dm.reachL;rw[Wn,Wai,Gr.E_len];simp[G.toG]
 have hgb:=hf.blocks;have hgs:=hf.stmts;rw[G.toG_cells] at hR;generalize Dm.reachL g.toG.E=rs at hR hrl;obtain⟨ad,gl⟩:=g;simp only[G.cells] at hR hrl hgb hgs ⊢;generalize hn:gl.length=n at *
 (repeat first|simp(disch:=try exact dis1) only[evD,Nat.reduceBEq,Nat.reduceAdd,Nat.reduceLeDiff,fldP,zk6,tab,Wr,Ws]|with_reducible first|intro _|refine aJ ?_)
 refine zc (zg hR rfl) ?_
 (repeat first|simp(disch:=try exact dis1) only[evD,Nat.reduceBEq,Nat.reduceAdd,Nat.reduceLeDiff,zaa,hrl]|with_reducible first|intro _|refine aJ ?_)
 refine zm (fun i:Nat=>([(3,encP 2 [.int .u32 ad,encL 2 Bl.cells gl]),(5,zaa rs),(6,.own 0 0 0 0 n),(16,encL 5 encN L),(17,.int .i64 L.length),(18,.int .i64 i)],[(0,.row 1 ((cnt n (fm blkP (L.take i))).map cI) 0)])) 1
  (fun i=>i≤L.length∧(L.take i).all (ctP rs gl)=true) (fun i=>L.length - i) 0 ⟨We _,rfl⟩ (Ent.tab [(0,0,0)] [] rfl (by(try simp only[evWB,Nat.reduceBEq,Nat.reduceAdd,Nat.reduceSub,Nat.reduceLeDiff,Nat.reduceLT,implies_true,List.take_zero,zyw,zuz,hrl,zaa])<;>exact fin2) (by(try simp only[evWB,Nat.reduceBEq,Nat.reduceAdd,Nat.reduceSub,Nat.reduceLeDiff,Nat.reduceLT,implies_true,List.take_zero,zyw,zuz,hrl,zaa])<;>exact fin2)) ?_
 rintro i ⟨hi,hall⟩ wf;unfold zeo
 by_cases hl:i < L.length
 case pos =>
  have hgd:=zo (f:=encN) (d:=[]) hl;have hft:=zBA (p:=blkP) hl;have hat:=zAX (p:=ctP rs gl) hl
  have hcl:(fm blkP (L.take i)).length≤1000:=by
   have:(fm blkP L).length=(fm blkP (L.take i)).length+(fm blkP (L.drop i)).length:=by
    conv=>lhs;rw[←List.take_append_drop i L]
    unfold fm;rw[Wag,WE]
   omega
  have hbad:ctP rs gl L[i]=false→covA rs gl L=false:=fun h=>by unfold covA;rw[Waj.2 ⟨L[i],Wg hl,by rw[h];simp⟩,Wt]
  rw[hall,Wu] at hat;generalize L[i]=y at hgd hft hat hbad;generalize fm blkP (L.take i)=K at hft hcl;obtain⟨⟨kd,bl,lb⟩,c,m⟩:=y;rw[zeC] at hgd;simp only at hgd
  have hbk:blkP (Nd.mk ⟨kd,bl,lb⟩ c m).f=if kd=2∨kd=5 then [bl] else []:=rfl
  have hct:ctP rs gl (Nd.mk ⟨kd,bl,lb⟩ c m)=if kd=2∨kd=5 then decide (0≤bl∧bl < rs.length)&&(rs.getD bl.toNat false && !(decide (kd=5)&&decide (1 < ((gl.map (·.stmts)).getD bl.toNat []).length))) else true:=rfl
  rw[hbk] at hft;rw[hct] at hat hbad
  have skip:¬(kd=2∨kd=5)→cnt n (fm blkP (L.take (i+1)))=cnt n K∧(L.take (i+1)).all (ctP rs gl)=true:=fun h=>by rw[if_neg h] at hft hat;rw[W0] at hft;exact⟨by rw[hft],hat⟩
  by_cases h25:kd=2∨kd=5
  case neg =>
   obtain⟨s1,s2⟩:=skip h25
   (repeat first|simp(disch:=try exact dis1) only[evD,Nat.reduceBEq,Nat.reduceAdd,Nat.reduceLeDiff,dT,dF,hgd]|with_reducible first|intro _|refine aJ ?_)
   exact⟨i+1,⟨by omega,s2⟩,by omega,(Ent.tab [(0,0,0)] [] rfl (by(try simp only[evWB,Nat.reduceBEq,Nat.reduceAdd,Nat.reduceSub,Nat.reduceLeDiff,Nat.reduceLT,implies_true,s1])<;>exact fin2) (by(try simp only[evWB,Nat.reduceBEq,Nat.reduceAdd,Nat.reduceSub,Nat.reduceLeDiff,Nat.reduceLT,implies_true,s1])<;>exact fin2))⟩
  rw[if_pos h25] at hft hat hbad
  have tail:∀(b1:0≤bl) (b2:bl < n) (hr:rs.getD bl.toNat false=true),True:=fun _ _ _=>trivial
  have hcount:K.count bl≤1000:=Wh List.count_le_length hcl
  by_cases b1:0≤bl
  case neg =>
   have hb:=hbad (by rw[dF (fun h=>b1 h.1),Wt]);rw[hb]
   rcases h25 with rfl|rfl
   ·
    (repeat first|simp(disch:=try exact dis1) only[evD,Nat.reduceBEq,Nat.reduceAdd,Nat.reduceLeDiff,dT,dF,hgd,zW]|with_reducible first|intro _|refine aJ ?_)
    exact⟨_,.bool _ _,rfl⟩
   ·
    (repeat first|simp(disch:=try exact dis1) only[evD,Nat.reduceBEq,Nat.reduceAdd,Nat.reduceLeDiff,dT,dF,hgd,zW]|with_reducible first|intro _|refine aJ ?_)
    exact⟨_,.bool _ _,rfl⟩
  by_cases b2:bl < n
  case neg =>
   have hb:=hbad (by rw[dF (fun h=>by have:=h.2;omega),Wt]);rw[hb]
   rcases h25 with rfl|rfl
   ·
    (repeat first|simp(disch:=try exact dis1) only[evD,Nat.reduceBEq,Nat.reduceAdd,Nat.reduceLeDiff,dT,dF,hgd,zaa,hrl,zW]|with_reducible first|intro _|refine aJ ?_)
    exact⟨_,.bool _ _,rfl⟩
   ·
    (repeat first|simp(disch:=try exact dis1) only[evD,Nat.reduceBEq,Nat.reduceAdd,Nat.reduceLeDiff,dT,dF,hgd,zaa,hrl,zW]|with_reducible first|intro _|refine aJ ?_)
    exact⟨_,.bool _ _,rfl⟩
  have hbl:bl.toNat < rs.length:=by omega
  have hbl2:bl.toNat < gl.length:=by omega
  have hrg:(rs.map fun b=>[AV.bool b]).getD bl.toNat []=[.bool (rs.getD bl.toNat false)]:=by rw[zo hbl];simp[Wf,hbl]
  have hgg:(gl.map Bl.cells).getD bl.toNat []=[.int .u32 gl[bl.toNat].addr,encL 8 St.cells gl[bl.toNat].stmts]:=zo hbl2;have hgst:(gl.map (·.stmts)).getD bl.toNat []=gl[bl.toNat].stmts:=zo hbl2;rw[hgst] at hat hbad;rw[dT ⟨b1,by omega⟩,Wu] at hat hbad;have hst8:=(hgs _ (Wg hbl2)).1;generalize gl[bl.toNat].stmts=sm at hat hbad hgg hst8
  have hcg:((cnt n K).map cI).getD bl.toNat []=[.int .i64 ((K.count bl:Nat):Int)]:=by rw[zwI (by omega),show ((bl.toNat:Nat):Int)=bl by omega]
  have hcs:((cnt n K).map cI).set bl.toNat [.int .i64 (((K.count bl:Nat):Int)+1)]=(cnt n (fm blkP (L.take (i+1)))).map cI:=by have:=zBu (n:=n) (k:=bl.toNat) (l:=K) (by omega);rw[show ((bl.toNat:Nat):Int)=bl by omega] at this;rw[this,hft]
  cases hr:rs.getD bl.toNat false with
  |
   false =>
   rw[hr] at hbad hrg;have hb:=hbad (by rw[Wt]);rw[hb]
   rcases h25 with rfl|rfl
   ·
    (repeat first|simp(disch:=try exact dis1) only[evD,Nat.reduceBEq,Nat.reduceAdd,Nat.reduceLeDiff,dT,dF,hgd,zaa,hrl,hrg,zW]|with_reducible first|intro _|refine aJ ?_)
    exact⟨_,.bool _ _,rfl⟩
   ·
    (repeat first|simp(disch:=try exact dis1) only[evD,Nat.reduceBEq,Nat.reduceAdd,Nat.reduceLeDiff,dT,dF,hgd,zaa,hrl,hrg,zW]|with_reducible first|intro _|refine aJ ?_)
    exact⟨_,.bool _ _,rfl⟩
  |
   true =>
   rw[hr,Wu] at hbad hat;rw[hr] at hrg
   rcases h25 with rfl|rfl
   ·
    rw[dF (by omega),Wt] at hat
    (repeat first|simp(disch:=try exact dis1) only[evD,Nat.reduceBEq,Nat.reduceAdd,Nat.reduceLeDiff,dT,dF,hgd,zaa,hrl,hrg,hcg,hcs,zkY,Wn]|with_reducible first|intro _|refine aJ ?_)
    exact⟨i+1,⟨by omega,hat⟩,by omega,(Ent.tab [(0,0,0)] [] rfl (by(try simp only[evWB,Nat.reduceBEq,Nat.reduceAdd,Nat.reduceSub,Nat.reduceLeDiff,Nat.reduceLT,implies_true,zaa,hrl])<;>exact fin2) (by(try simp only[evWB,Nat.reduceBEq,Nat.reduceAdd,Nat.reduceSub,Nat.reduceLeDiff,Nat.reduceLT,implies_true,zaa,hrl])<;>exact fin2))⟩
   ·
    by_cases h1:1 < sm.length
    ·
     have hb:=hbad (by rw[dT h1];rfl);rw[hb]
     (repeat first|simp(disch:=try exact dis1) only[evD,Nat.reduceBEq,Nat.reduceAdd,Nat.reduceLeDiff,dT,dF,hgd,zaa,hrl,hrg,fldP,hgg,hn,zW]|with_reducible first|intro _|refine aJ ?_)
     exact⟨_,.bool _ _,rfl⟩
    ·
     rw[dF h1,Bool.and_false] at hat
     (repeat first|simp(disch:=try exact dis1) only[evD,Nat.reduceBEq,Nat.reduceAdd,Nat.reduceLeDiff,dT,dF,hgd,zaa,hrl,hrg,fldP,hgg,hn,hcg,hcs,zkY,Wn]|with_reducible first|intro _|refine aJ ?_)
     exact⟨i+1,⟨by omega,hat⟩,by omega,(Ent.tab [(0,0,0)] [] rfl (by(try simp only[evWB,Nat.reduceBEq,Nat.reduceAdd,Nat.reduceSub,Nat.reduceLeDiff,Nat.reduceLT,implies_true,zaa,hrl])<;>exact fin2) (by(try simp only[evWB,Nat.reduceBEq,Nat.reduceAdd,Nat.reduceSub,Nat.reduceLeDiff,Nat.reduceLT,implies_true,zaa,hrl])<;>exact fin2))⟩
 rw[List.take_of_length_le (by omega)] at hall ⊢;unfold covA;rw[hall,Wu];generalize fm blkP L=K at hc ⊢
 (refine Qk ?_;intros)
 unfold zed
 (repeat first|simp(disch:=try exact dis1) only[evD,Nat.reduceBEq,Nat.reduceAdd,Nat.reduceLeDiff,zaa,hrl]|with_reducible first|intro _|refine aJ ?_)
 generalize hR2:((WZ n).all fun k => !(rs.getD k false)||decide (((K.count (k:Int):Nat):Int)=1))=R
 refine zm (fun k:Nat=>([(6,.own 0 0 0 0 n),(70,zaa rs),(71,.int .i64 n),(72,.int .i64 k)],[(0,.row 1 ((cnt n K).map cI) 0)])) 1
  (fun k=>k≤n∧∀j,j < k→(!(rs.getD j false)||decide (((K.count (j:Int):Nat):Int)=1))=true) (fun k=>n - k) 0 ⟨We _,fun j hj=>by omega⟩ (Ent.tab [(0,0,0)] [] rfl (by(try simp only[evWB,Nat.reduceBEq,Nat.reduceAdd,Nat.reduceSub,Nat.reduceLeDiff,Nat.reduceLT,implies_true,zaa,hrl])<;>exact fin2) (by(try simp only[evWB,Nat.reduceBEq,Nat.reduceAdd,Nat.reduceSub,Nat.reduceLeDiff,Nat.reduceLT,implies_true,zaa,hrl])<;>exact fin2)) ?_
 rintro k ⟨hk,hgo⟩ wf2;unfold zet
 by_cases hkn:k < n
 case neg =>
  have:R=true:=by rw[←hR2,WF];intro j hj;have:=W3.1 hj;exact hgo j (by omega)
  subst this
  (refine Qk ?_;intros)
  unfold zev
  (repeat first|simp(disch:=try exact dis1) only[evD,Nat.reduceBEq,Nat.reduceAdd,Nat.reduceLeDiff,zW]|with_reducible first|intro _|refine aJ ?_)
  exact⟨_,.bool _ _,rfl⟩
 have hrg:(rs.map fun b=>[AV.bool b]).getD k []=[.bool (rs.getD k false)]:=by rw[zo (by omega)];simp[Wf,show k < rs.length by omega]
 have hcg:=zwI (n:=n) (l:=K) hkn
 have hstep:(!(rs.getD k false)||decide (((K.count (k:Int):Nat):Int)=1))=true→∀j,j < k+1→(!(rs.getD j false)||decide (((K.count (j:Int):Nat):Int)=1))=true:=fun h j hj=>by
  by_cases hjk:j=k
  · subst hjk;exact h
  · exact hgo j (by omega)
 have hstop:(!(rs.getD k false)||decide (((K.count (k:Int):Nat):Int)=1))=false→R=false:=fun h=>by rw[←hR2,Waj];exact⟨k,W3.2 (by omega),by rw[h];simp⟩
 cases hr:rs.getD k false with
 |
  false =>
  rw[hr] at hrg hstep
  (repeat first|simp(disch:=try exact dis1) only[evD,Nat.reduceBEq,Nat.reduceAdd,Nat.reduceLeDiff,dT,zaa,hrl,hrg]|with_reducible first|intro _|refine aJ ?_)
  exact⟨k+1,⟨by omega,hstep (by simp)⟩,by omega,(Ent.tab [(0,0,0)] [] rfl (by(try simp only[evWB,Nat.reduceBEq,Nat.reduceAdd,Nat.reduceSub,Nat.reduceLeDiff,Nat.reduceLT,implies_true,zaa,hrl])<;>exact fin2) (by(try simp only[evWB,Nat.reduceBEq,Nat.reduceAdd,Nat.reduceSub,Nat.reduceLeDiff,Nat.reduceLT,implies_true,zaa,hrl])<;>exact fin2))⟩
 |
  true =>
  rw[hr] at hrg hstep hstop
  by_cases h1:((K.count (k:Int):Nat):Int)=1
  ·
   (repeat first|simp(disch:=try exact dis1) only[evD,Nat.reduceBEq,Nat.reduceAdd,Nat.reduceLeDiff,dT,dF,zaa,hrl,hrg,hcg,zkY,Wn]|with_reducible first|intro _|refine aJ ?_)
   exact⟨k+1,⟨by omega,hstep (by rw[dT h1];rfl)⟩,by omega,(Ent.tab [(0,0,0)] [] rfl (by(try simp only[evWB,Nat.reduceBEq,Nat.reduceAdd,Nat.reduceSub,Nat.reduceLeDiff,Nat.reduceLT,implies_true,zaa,hrl])<;>exact fin2) (by(try simp only[evWB,Nat.reduceBEq,Nat.reduceAdd,Nat.reduceSub,Nat.reduceLeDiff,Nat.reduceLT,implies_true,zaa,hrl])<;>exact fin2))⟩
  ·
   have:=hstop (by rw[dF h1];rfl);subst this
   (repeat first|simp(disch:=try exact dis1) only[evD,Nat.reduceBEq,Nat.reduceAdd,Nat.reduceLeDiff,dT,dF,zaa,hrl,hrg,hcg,zkY,Wn,zW]|with_reducible first|intro _|refine aJ ?_)
   exact⟨_,.bool _ _,rfl⟩
def ordI (g:G):List Int:=(Dm.orderL g.toG.E).map fun(n:Nat)=>(n:Int)
def covB (g:G) (e:Nd):Bool:=(decide (∀k,(h:k < (coll blkP e).length)→(coll blkP e)[k]∈ordI g∧(coll blkP e)[k]∉(coll blkP e).take k)&&decide ((coll blkP e).length=(ordI g).length))&&zqF g.blocks e
def whP (gl:List Bl):Nd→Bool
 | .mk f _ _ => !(decide (f.kind=5) && !wOk gl f.block)
mutual
theorem zob (gl:List Bl):∀n:Nd,(allN n).all (whP gl)=zqF gl n
 |
  .mk f c l=>by
  rw[allN,Wl,zmF gl l,zqF];show (!(decide (f.kind=5) && !wOk gl f.block)&&zjC gl l)=_
  by_cases h:f.kind=5
  ·
   cases hw:wOk gl f.block with
   | true=>rw[if_neg (by simp)];simp[h]
   | false=>rw[if_pos ⟨h,rfl⟩];simp[h]
  · rw[if_neg (fun hc=>h hc.1)];simp[h]
theorem zmF (gl:List Bl):∀l:List Nd,(zd9 l).all (whP gl)=zjC gl l
 | []=>by rw[zd9,zjC];rfl
 | x::l=>by rw[zd9,List.all_append,zob gl x,zmF gl l,zjC]
end
theorem znN {g:G} (h:zmv g=0):∀b∈g.blocks,1≤b.stmts.length:=by
 intro b hb;unfold zmv at h;split at h
 ·
  rename_i h1;rw[Wc,WF] at h1;have h2:=h1.2 b hb;unfold zdx at h2
  cases hs:b.stmts with
  | nil=>rw[hs] at h2;simp at h2
  | cons a l=>simp
 · omega
theorem zps:∀(l m:List Int),l.Nodup→(∀a∈l,a∈m)→m.length≤l.length→∀a∈m,a∈l
 |
  [],m,_,_,h,a,ha=>by
  have:m=[]:=WM (by simpa using h);rw[this] at ha;cases ha
 |
  x::l,m,hn,hs,h,a,ha=>by
  rw[W5] at hn;have hx:=hs x (by simp)
  by_cases hax:a=x
  · rw[hax];simp
  ·
   refine Wak _ (zps l (m.erase x) hn.2 (fun b hb=>?_) ?_ a ((Wal hax).2 ha))
   ·
    have hbx:b≠x:=fun e=>hn.1 (e▸hb)
    exact(Wal hbx).2 (hs b (Wak _ hb))
   · rw[List.length_erase_of_mem hx];simp only[Wk] at h;omega
theorem ztB {l:List Int} (h:∀a,l.count a≤1):l.Nodup:=by
 induction l with
 | nil=>exact WX
 |
  cons x l ih =>
  rw[W5];refine⟨fun hx=>?_,ih fun a=>?_⟩
  · have:=h x;rw[List.count_cons_self] at this;have:=List.count_pos_iff.2 hx;omega
  · have:=h a;rw[List.count_cons] at this;omega
theorem zof {l:List Int} (h:l.Nodup) {a:Int} (ha:a∈l):l.count a=1:=by
 induction l with
 | nil=>cases ha
 |
  cons x l ih =>
  rw[W5] at h;rw[List.count_cons]
  by_cases hx:x=a
  · subst hx;rw[WN.2 h.1];simp
  ·
   have h2:a∈l:=by
    rcases Wi.1 ha with rfl|h2
    · exact absurd rfl hx
    · exact h2
   rw[ih h.2 h2];simp[hx]
theorem zpB {l:List Int}:(∀k,(h:k < l.length)→l[k]∉l.take k)↔l.Nodup:=by
 rw[List.nodup_iff_pairwise_ne,WU];constructor
 · intro h i j hi hj hij e;refine h j hj ?_;rw[←e,WJ];exact⟨i,by rw[Wam];omega,by rw[Wan]⟩
 · intro h k hk hm;obtain⟨i,hi,he⟩:=WJ.1 hm;rw[Wam] at hi;rw[Wan] at he;exact h i k (by omega) hk (by omega) he
theorem zvB (g:G) (e:Nd) (h0:zmv g=0):covA (Dm.reachL g.toG.E) g.blocks (allN e)=covB g e:=by
 have hE:=g.toG.E_ok
 have hlen:g.toG.E.length=g.blocks.length:=by rw[Gr.E_len];simp[G.toG]
 have hin:=Dm.inB_order hE;have hnd:=Dm.orderL_nd hE
 have hond:(ordI g).Nodup:=by unfold ordI;refine List.Pairwise.map _ (fun a b hab=>?_) hnd.nd;intro e;exact hab (by exact_mod_cast e)
 have hrs:∀k:Nat,k < g.blocks.length→(Dm.reachL g.toG.E).getD k false=decide ((k:Int)∈ordI g):=by
  intro k hk;rw[←hin,hlen];unfold Dm.inB Dm.mapR;rw[zo (by simpa using hk),Wae];unfold ordI;refine decide_eq_decide.2 ⟨fun h=>Wq.2 ⟨k,h,rfl⟩,fun h=>?_⟩;obtain⟨k2,h2,h3⟩:=Wq.1 h
  have:k2=k:=by exact_mod_cast h3
  rw[←this];exact h2
 have hrl:(Dm.reachL g.toG.E).length=g.blocks.length:=by unfold Dm.reachL;rw[Wn,Wai,hlen]
 have holt:∀a∈ordI g,0≤a∧a < g.blocks.length:=by intro a ha;unfold ordI at ha;obtain⟨k,hk,rfl⟩:=Wq.1 ha;have:=hnd.lt k hk;omega
 generalize Dm.reachL g.toG.E=rs at hrs hrl;have hfull:=znN h0;unfold covA covB;rw[zst,←zob]
 have hmem:∀b,b∈coll blkP e↔∃x∈allN e,b∈blkP x.f:=by intro b;rw[←zst];unfold fm;rw[Wao]
 have hpt:∀x:Nd,ctP rs g.blocks x=true↔(∀b∈blkP x.f,b∈ordI g)∧whP g.blocks x=true:=by
  intro x;obtain⟨⟨kd,bl,lb⟩,c,m⟩:=x;show ctF rs g.blocks kd bl=true↔(∀b∈(if kd=2∨kd=5 then [bl] else []),b∈ordI g)∧(!(decide (kd=5) && !wOk g.blocks bl))=true;unfold ctF
  by_cases h25:kd=2∨kd=5
  case neg =>rw[if_neg h25,if_neg h25,dF (fun h=>h25 (.inr h))];simp
  rw[if_pos h25,if_pos h25]
  by_cases hr:0≤bl∧bl < g.blocks.length
  case neg =>
   rw[dF (show ¬(0≤bl∧bl < rs.length) by rw[hrl];exact hr),Wt];constructor
   · intro h;cases h
   · rintro⟨h,_⟩;exact absurd (holt bl (h bl (by simp))) hr
  have hbt:bl.toNat < g.blocks.length:=by omega
  rw[dT (show 0≤bl∧bl < rs.length by rw[hrl];exact hr),Wu,hrs _ hbt,show ((bl.toNat:Nat):Int)=bl by omega]
  have hw:wOk g.blocks bl=decide (g.blocks[bl.toNat].stmts.length=1):=by unfold wOk;rw[if_neg (by omega),WB hbt]
  rw[hw,zo hbt];have h1:=hfull _ (Wg hbt)
  by_cases h5:kd=5
  ·
   simp only[h5,decide_true,Wu,Wc,decide_eq_true_eq,Wa,forall_eq,Bool.not_not,Wap,decide_eq_false_iff_not];constructor
   · rintro⟨h2,h3⟩;exact⟨h2,by omega⟩
   · rintro⟨h2,h3⟩;exact⟨h2,by omega⟩
  · simp[h5]
 rw[WW];simp only[Wc,WF,decide_eq_true_eq,W3,Bool.or_eq_true,Wap];rw[hrl];constructor
 ·
  rintro⟨h1,h2⟩
  have hsub:∀b∈coll blkP e,b∈ordI g:=by intro b hb;obtain⟨x,hx,hxb⟩:=(hmem b).1 hb;exact((hpt x).1 (h1 x hx)).1 b hxb
  have hcnt:∀a∈ordI g,(coll blkP e).count a=1:=by
   intro a ha;have hr:=holt a ha
   rcases h2 a.toNat (by omega) with h3|h3
   · rw[hrs _ (by omega),show ((a.toNat:Nat):Int)=a by omega] at h3;exact absurd ha (of_decide_eq_false h3)
   · rw[show ((a.toNat:Nat):Int)=a by omega] at h3;omega
  have hnod:(coll blkP e).Nodup:=by
   refine ztB fun a=>?_
   by_cases ha:a∈ordI g
   · rw[hcnt a ha];omega
   · rw[WN.2 (fun h=>ha (hsub a h))];omega
  refine⟨⟨fun k hk=>⟨hsub _ (Wg hk),zpB.2 hnod k hk⟩,?_⟩,fun x hx=>((hpt x).1 (h1 x hx)).2⟩;refine List.Perm.length_eq (List.perm_iff_count.2 fun a=>?_)
  by_cases ha:a∈ordI g
  · rw[hcnt a ha,zof hond ha]
  · rw[WN.2 (fun h=>ha (hsub a h)),WN.2 ha]
 ·
  rintro⟨⟨h1,h2⟩,h3⟩
  have hnod:=zpB.1 fun k hk=>(h1 k hk).2
  have hsub:∀b∈coll blkP e,b∈ordI g:=by intro b hb;obtain⟨k,hk,rfl⟩:=WJ.1 hb;exact(h1 k hk).1
  have hback:=zps _ _ hnod hsub (by omega);refine⟨fun x hx=>(hpt x).2 ⟨fun b hb=>hsub b ((hmem b).2 ⟨x,hx,hb⟩),h3 x hx⟩,fun k hk=>?_⟩;rw[hrs k hk]
  by_cases hk2:(k:Int)∈ordI g
  · right;rw[zof hnod (hback _ hk2)];rfl
  · left;exact dF hk2
theorem zpQ (l:List Int) (g:Nat) (hl:l.length≤100000000):z7 Tryz.prog zw [.own 0 0 g 0 l.length] [(0,.row 1 (l.map cI) g)] 1
  (fun v H nx=>v=.own 1 0 0 0 l.length∧H=[(0,.row 1 (l.map cI) g),(1,.row 1 (l.map cI) 0)]∧nx=2):=by
 refine z8 (fn_x zbs rfl ?_);unfold zaH;have hB:=hBig
 by_cases h0:l.length=0
 ·
  obtain rfl:l=[]:=WM h0;have e1:nilB false (.own 0 0 g 0 0)=some none:=rfl
  (repeat first|simp(disch:=try exact dis1) only[evD,Nat.reduceBEq,Nat.reduceAdd,Nat.reduceLeDiff,e1]|with_reducible first|intro _|refine aJ ?_)
  rename_i b;cases b
  ·
   (refine QD ?_;intros)
   exact⟨.own 1 0 0 0 0,[(0,.row 1 [] g),(1,.row 1 [] 0)],2,(Ent.tabB [(0,0,0),(1,2,1)] [] rfl rfl rfl Qan Qan),rfl,rfl,rfl⟩
  ·
   (refine QD ?_;intros)
   exact⟨.own 1 0 0 0 0,[(0,.row 1 [] g),(1,.row 1 [] 0)],2,(Ent.tabB [(0,0,0),(1,2,0)] [] rfl rfl rfl Qan Qan),rfl,rfl,rfl⟩
 ·
  have e1:nilB false (.own 0 0 g 0 l.length)=some (some false):=by unfold nilB;simp only[zH h0];rfl
  (repeat first|simp(disch:=try exact dis1) only[evD,Nat.reduceBEq,Nat.reduceAdd,Nat.reduceLeDiff,e1,zF]|with_reducible first|intro _|refine aJ ?_)
  exact⟨.own 1 0 0 0 l.length,[(0,.row 1 (l.map cI) g),(1,.row 1 (l.map cI) 0)],2,(Ent.tabB [(0,0,0),(1,2,1)] [] rfl rfl rfl Qan Qan),rfl,rfl,rfl⟩
theorem zyJ {H:AH} {f rb r g gb n:Nat} {l:List Int} (hb:H.get rb 0=some (.row 1 [[.own r 0 g 0 n]] gb)) (hr:H.get r 0=some (.row 1 (l.map cI) g)) (hn:n=l.length) (hl:l.length≤big) :
  Vw H [] nos allR false (.fn (.func f) [.ptr rb 0 gb 0 0]) (.fn (.func f) [encP 1 [za l]]):=by
 subst hn
 refine .fn _ _ _ _ rfl fun i a b h1 h2=>?_
 match i with
 |
  0 =>
  cases h1;cases h2
  refine .frzp _ rb 0 gb 0 0 1 1 [[.own r 0 g 0 l.length]] _ trivial hb (by simp) (by omega) fun j hj=>?_
  obtain rfl:j=0:=by omega
  exact zaV (l:=l) trivial hr hl
 | i+1=>cases h1
def zza (labs:List Int):Nd→Bool
 | .mk f _ _=>decide (f.kind=9) && !hasI labs f.label
theorem zr3 (l:List Nd) (labs:List Int):PredN (.fn (.func zdw) [encP 1 [za labs]]) l (zza labs):=by
 refine⟨_,_,rfl,by kernel_rfl,rfl,fun s hs=>?_⟩;refine fn_x zjV rfl ?_;unfold zfD;obtain⟨⟨kd,bl,lb⟩,c,m⟩:=s;have hg:zza labs (.mk ⟨kd,bl,lb⟩ c m)=(decide (kd=9) && !hasI labs lb):=rfl;rw[hg,zeC];simp only
 by_cases h9:kd=9
 ·
  rw[dT h9,Wu]
  (refine QN ?_;intros)
  refine zc (zg (ziV labs lb) rfl) ?_
  (repeat first|simp(disch:=try exact dis1) only[evD,Nat.reduceBEq,Nat.reduceAdd,Nat.reduceLeDiff,zc6]|with_reducible first|intro _|refine aJ ?_)
  exact⟨_,.bool _ _,rfl⟩
 ·
  rw[dF h9,Wt]
  (repeat first|simp(disch:=try exact dis1) only[evD,Nat.reduceBEq,Nat.reduceAdd,Nat.reduceLeDiff,dF,fldP,encP,zc6]|with_reducible first|intro _|refine aJ ?_)
  exact⟨_,.bool _ _,rfl⟩
theorem zmD {g:G} (h:zbi g=0):zmv g=0:=by
 unfold zbi at h;split at h
 · exact absurd h (by decide)
 · exact h
def zlp (g:G) (e:Nd):Int :=
 if zbi g≠0 then zbi g else if zfj e=false then 2 else if covB g e=false then 18 else if zkv e false=true then 21 else if (zlb e).any (fun t => !hasI (coll labP e) t)=true then 9 else if (coll labP e).Nodup then 0 else 8
mutual
theorem zlw (labs:List Int):∀e:Nd,zfj e=true→(allN e).any (zza labs)=(zlb e).any (fun t => !hasI labs t)
 |
  .mk f c l,h=>by
  rw[zfj,Wc] at h;have ih:=zkf labs l h.1;rw[allN,List.any_cons,ih,zlb];show (decide (f.kind=9) && !hasI labs f.label||_)=_
  by_cases h9:f.kind=9
  · have h2:=h.2;unfold zbE at h2;rw[Wc,decide_eq_true_eq] at h2;have h3:=h2.1;unfold zJ at h3;have hl:l=[]:=WM (by omega);subst hl;rw[if_pos h9,dT h9,zhY];simp
  · rw[if_neg h9,dF h9];simp
theorem zkf (labs:List Int):∀l:List Nd,zdH l=true→(zd9 l).any (zza labs)=(zhY l).any (fun t => !hasI labs t)
 | [],_=>by rw[zd9,zhY];rfl
 |
  x::l,h=>by
  rw[zdH,Wc] at h;rw[zd9,WV,zlw labs x h.1,zkf labs l h.2,zhY,WV]
end
theorem Qz {p q:Prop}(k:q)(h:Im q p:=by(repeat first|simp(disch:=try exact dis1) only[evD,Nat.reduceBEq,Nat.reduceAdd,Nat.reduceLeDiff,zap] | ((with_reducible apply Im.i);intro _) | ((with_reducible apply Im.a);omega));exact Im.r):p:=h k
theorem Qah {p q:Prop}(k:q)(h:Im q p:=by(repeat first|simp(disch:=try exact dis1) only[evD,Nat.reduceBEq,Nat.reduceAdd,Nat.reduceLeDiff,zk6,tab,List.getD_cons_zero,List.getD_cons_succ,zbe] | ((with_reducible apply Im.i);intro _) | ((with_reducible apply Im.a);omega));exact Im.r):p:=h k
theorem QJ {p q:Prop}(k:q)(h:Im q p:=by(repeat first|simp(disch:=try exact dis1) only[evD,Nat.reduceBEq,Nat.reduceAdd,Nat.reduceLeDiff,renI] | ((with_reducible apply Im.i);intro _) | ((with_reducible apply Im.a);omega));exact Im.r):p:=h k
theorem zlu (g:G) (hf:midG g) (e:Nd) (hs:zax e≤1000):zk Tryz.prog zeI [.agg (encN e),.agg g.cells] (·=.int .i64 (zlp g e)):=by
 refine fn_x zlN rfl ?_;unfold zg7;have hB:=hBig;have hG:=zhI g (zjJ hf) (zpJ hf);have hA:=ziD e hs
 have hal:(allN e).length≤1000:=by rw[zna];exact hs
 have hF:=zb5 (allN e) _ _ (zmy (allN e));have hC:=zk4 g hf (allN e) hal (by rw[zst];exact Wh (zng zzr e) hs);have hLp:=zj6 (zax e) e false (Wd _);have hLb:=zjT e hs
 have hlaw:=fun h=>zvB g e (zmD h)
 have hgl:=fun labs=>zlw labs e
 have hany:((allN e).any fun x => !zoB x) = !zfj e:=by rw[←znP,WW];simp
 rw[hany] at hF;unfold zlp;have hll:(coll labP e).length≤1000:=Wh (zng zuB e) hs;obtain⟨ad,gl⟩:=g;simp only[G.cells] at hG hC ⊢
 (repeat first|simp(disch:=try exact dis1) only[evD,Nat.reduceBEq,Nat.reduceAdd,Nat.reduceLeDiff,fldP,zk6,tab,zbM,zaK,Wr,Ws]|with_reducible first|intro _|refine aJ ?_)
 refine zc (zg hG rfl) ?_
 by_cases h0:zbi ⟨ad,gl⟩=0
 case neg =>
  rw[if_pos h0]
  (repeat first|simp(disch:=try exact dis1) only[evD,Nat.reduceBEq,Nat.reduceAdd,Nat.reduceLeDiff,dT,zap]|with_reducible first|intro _|refine aJ ?_)
  exact⟨_,.int _ _ _,rfl⟩
 have hlaw2:=hlaw h0;simp only at hlaw2;rw[hlaw2] at hC;rw[if_neg (fun h=>h h0),h0]
 (repeat first|simp(disch:=try exact dis1) only[evD,Nat.reduceBEq,Nat.reduceAdd,Nat.reduceLeDiff,dF,zbM,zaK,zbe,zk6,tab,Wr,Ws]|with_reducible first|intro _|refine aJ ?_)
 refine zc (zg hA (flN rfl)) ?_
 (refine Qa ?_;intros)
 refine zc (zM (D:=noR) hF (.cons (zao rfl) (.cons (zuA (zmy (allN e))) .nil)) (.inl rfl)) ?_
 cases hfm:zfj e with
 |
  false =>
  (refine Qz ?_;intros)
  exact⟨_,.int _ _ _,rfl⟩
 | true =>
 rw[if_neg (by simp)]
 (repeat first|simp(disch:=try exact dis1) only[evD,Nat.reduceBEq,Nat.reduceAdd,Nat.reduceLeDiff,zk6,tab,Wr,Ws]|with_reducible first|intro _|refine aJ ?_)
 refine zc (zg hC rfl) ?_
 cases hcv:covB ⟨ad,gl⟩ e with
 |
  false =>
  (refine Qz ?_;intros)
  exact⟨_,.int _ _ _,rfl⟩
 | true =>
 rw[if_neg (by simp)]
 (refine Qah ?_;intros)
 refine zc (zg hLp flNB) ?_
 cases hst:zkv e false with
 |
  true =>
  (refine Qz ?_;intros)
  exact⟨_,.int _ _ _,rfl⟩
 | false =>
 rw[if_neg (by simp)]
 (refine Qah ?_;intros)
 refine zbq [] 0 _ hLb rfl rfl (by simp only[evWB,Nat.reduceBEq,Nat.reduceAdd,Nat.reduceSub,Nat.reduceLeDiff,Nat.reduceLT,implies_true]) ⟨zao (by have:=flN (r:=[]) rfl (e:=e);simpa using this),trivial⟩ ?_;rintro _ _ _ ⟨rfl,rfl,rfl⟩;generalize hlb:coll labP e=labs at hll ⊢
 (refine QJ ?_;intros)
 have hG2:=zb5 (allN e) _ _ (zr3 (allN e) labs);rw[hgl labs hfm] at hG2;refine zc (zM (D:=allR) hG2 (.cons (zao rfl) (.cons (zyJ (l:=labs) rfl rfl rfl (by omega)) .nil)) (.inl rfl)) ?_
 cases hgt:(zlb e).any fun t => !hasI labs t with
 |
  true =>
  (refine Qz ?_;intros)
  exact⟨_,.int _ _ _,rfl⟩
 | false =>
 rw[if_neg (by simp)]
 (refine Qa ?_;intros)
 refine zh0 (zsL (zs:=labs) rfl (by omega)) ?_;rintro _ _ _ hres;simp only[WI] at hres;obtain⟨rfl,rfl,rfl⟩:=hres;have hsl:(zgx labs).length=labs.length:=(zch labs).length_eq;have hdup:=znp labs;rw[hsl] at hdup;rw[←hsl] at hdup ⊢
 have hcl:(zab (zgx labs)).length≤(zgx labs).length:=by unfold zab;exact zpZ
 generalize zgx labs=ss at hsl hdup hcl ⊢
 by_cases hnd:labs.Nodup
 ·
  rw[if_pos hnd];rw[dT hnd] at hdup;have hc:¬(zab ss).length < ss.length:=of_decide_eq_false hdup
  (refine Qa ?_;intros)
  (repeat' with_reducible apply WO)<;>(refine zbq [(0,0,0)] 1 _ (zpQ ss 0 (by omega)) rfl rfl Qao Qao ?_;rintro _ _ _ ⟨rfl,rfl,rfl⟩;(refine QJ ?_;intros);(repeat' with_reducible apply WO)<;>(refine zbq [(0,3,0)] 1 _ (zh1 ss 0 (by omega)) rfl rfl Qao Qao ?_;rintro _ _ _ ⟨m,rfl,rfl,rfl⟩;(repeat first|simp(disch:=try exact dis1) only[evD,Nat.reduceBEq,Nat.reduceAdd,Nat.reduceLeDiff,renI,dF,zap]|with_reducible first|intro _|refine aJ ?_);exact⟨_,.int _ _ _,rfl⟩))
 ·
  rw[if_neg hnd];rw[dF hnd] at hdup;have hc:(zab ss).length < ss.length:=of_decide_eq_true hdup
  (refine Qa ?_;intros)
  (repeat' with_reducible apply WO)<;>(refine zbq [(0,0,0)] 1 _ (zpQ ss 0 (by omega)) rfl rfl Qao Qao ?_;rintro _ _ _ ⟨rfl,rfl,rfl⟩;(refine QJ ?_;intros);(repeat' with_reducible apply WO)<;>(refine zbq [(0,3,0)] 1 _ (zh1 ss 0 (by omega)) rfl rfl Qao Qao ?_;rintro _ _ _ ⟨m,rfl,rfl,rfl⟩;(repeat first|simp(disch:=try exact dis1) only[evD,Nat.reduceBEq,Nat.reduceAdd,Nat.reduceLeDiff,renI,dT,zap]|with_reducible first|intro _|refine aJ ?_);exact⟨_,.int _ _ _,rfl⟩))
def inR (n:Nat) (l:List Int):Prop:=∀t∈l,0≤t∧t≤n
theorem inR.mono {n m:Nat} {l:List Int} (h:inR n l) (hm:n≤m):inR m l:=fun t ht=>by have:=h t ht;omega
def StOk (n:Nat) (s:PSt):Prop:=((s.kind=0∨s.kind=2)∧s.to=none)∨(s.kind=1∧∃l,s.to=some l∧inR n l)
theorem StOk.mono {n m:Nat} {s:PSt} (h:StOk n s) (hm:n≤m):StOk m s:=h.imp id fun⟨a,l,b,c⟩=>⟨a,l,b,c.mono hm⟩
structure WfP (p:PC):Prop where
 st:∀k s,p.st[k]? = some s→StOk p.st.length s∧(s.kind=0→k+1≤p.st.length)
 lp:∀x∈p.lp,0≤x.1∧x.1≤p.st.length
 lab:∀x∈p.lab,0≤x.2∧x.2≤p.st.length
theorem WfP.add {p:PC} (h:WfP p) {s:PSt} (hs:StOk (p.st.length+1) s):WfP (addP p s):=by
 have e:(addP p s).st.length=p.st.length+1:=by simp[addP]
 refine⟨fun k s' hk=>?_,fun x hx=>by rw[e];have:=h.lp x hx;omega,fun x hx=>by rw[e];have:=h.lab x hx;omega⟩;rw[e]
 have hkl:k < p.st.length+1:=by rw[←e];exact(Waq.1 hk).1
 refine⟨?_,fun _=>by omega⟩;simp only[addP] at hk
 by_cases hlt:k < p.st.length
 · rw[List.getElem?_append_left hlt] at hk;exact(h.st k s' hk).1.mono (by omega)
 · rw[List.getElem?_append_right (by omega),show k - p.st.length=0 by omega] at hk;cases hk;exact hs
theorem WfP.mod {p:PC} (h:WfP p) {k:Nat} {f:List Int→List Int} (hf:∀l,inR p.st.length l→inR p.st.length (f l)):WfP { p with st:=p.st.modify k fun s=>{ s with to:=s.to.map f } }:=by
 refine⟨fun i s' hi=>?_,fun x hx=>by have:=h.lp x hx;simpa using this,fun x hx=>by have:=h.lab x hx;simpa using this⟩;simp only[WQ,List.length_modify] at hi ⊢
 cases hs:p.st[i]? with
 | none=>rw[hs] at hi;cases hi
 |
  some s =>
  rw[hs] at hi;simp only[WR,WG,WC] at hi;obtain⟨h1,h2⟩:=h.st i s hs;split at hi
  ·
   subst hi;refine⟨?_,h2⟩
   rcases h1 with ⟨a,b⟩ | ⟨a,l,b,c⟩
   · exact .inl ⟨a,by simp[b]⟩
   · exact .inr ⟨a,f l,by simp[b],hf l c⟩
  · subst hi;exact⟨h1,h2⟩
theorem WfP.setTo {p:PC} (h:WfP p) {k i:Nat} {v:Int} (hv:0≤v∧v≤p.st.length):WfP (setTo p k i v):=h.mod fun l hl t ht=>by
 rcases W6 ht with ht|ht
 · exact hl t ht
 · rw[ht];exact hv
theorem WfP.appTo {p:PC} (h:WfP p) {k:Nat} {v:Int} (hv:0≤v∧v≤p.st.length):WfP (appTo p k v):=h.mod fun l hl t ht=>by
 rcases WD.1 ht with ht|ht
 · exact hl t ht
 · rw[Wa.1 ht];exact hv
theorem WfP.putAll:∀ {ks:List Int} {p:PC} {v:Int},WfP p→(0≤v∧v≤p.st.length)→WfP (putAll p ks v)
 | [],p,v,h,_=>h
 |
  k::ks,p,v,h,hv=>by
  unfold Go.Ab.putAll;rw[List.foldl_cons];exact WfP.putAll (ks:=ks) (h.setTo hv) (by simpa [Go.Ab.setTo] using hv)
theorem WfP.withLp {p:PC} (h:WfP p) {l:List (Int × List Int)} (hl:∀x∈l,0≤x.1∧x.1≤p.st.length):WfP { p with lp:=l }:=⟨h.st,hl,h.lab⟩
theorem WfP.withGot {p:PC} (h:WfP p) {l:List (Int × Int)}:WfP { p with got:=l }:=⟨h.st,h.lp,h.lab⟩
theorem WfP.jump {p:PC} (h:WfP p) {v:Int} (hv:0≤v∧v≤p.st.length+1):WfP (zaB p v):=h.add (.inr ⟨rfl,_,rfl,fun t ht=>by rw[Wa.1 ht];exact⟨hv.1,by have:=hv.2;omega⟩⟩)
theorem zCq {p:PC} (h:WfP p):0≤topL p.lp∧topL p.lp≤p.st.length:=by
 unfold topL
 cases hg:p.lp.getLast? with
 | none=>simp
 | some x=>exact h.lp x (War hg)
theorem WfP.push {p:PC} (h:WfP p) {t:Int} (ht:0≤t∧t≤p.st.length):WfP (zbl p t):=h.withLp fun x hx=>by
 rcases WD.1 hx with hx|hx
 · exact h.lp x hx
 · rw[Wa.1 hx];exact ht
theorem zz4 (p:PC) (v:Int):(zaB p v).st.length=p.st.length+1:=by simp[zaB,addP]
theorem WfP.close {q:PC} (h:WfP q) {top:Int} (ht:0≤top∧top≤q.st.length):WfP (zd0 q top):=by
 unfold zd0
 have h1:WfP { q with lp:=q.lp.dropLast }:=h.withLp fun x hx=>h.lp x (Was _ hx)
 exact WfP.putAll (h1.jump (by simp only;omega)) ⟨by omega,Wj _⟩
theorem zzj {l:List (Int × Int)} {k v:Int} {x:Int × Int} (h:x∈setL l k v):x∈l∨x=(k,v):=by
 unfold setL at h;split at h
 · exact W6 h
 ·
  rcases WD.1 h with h|h
  · exact .inl h
  · exact .inr (Wa.1 h)
mutual
theorem zqD:∀(n:Nd) (p:PC),WfP p→WfP (zaF n p)
 |
  .mk f c l,p,h=>by
  rw[zaF];split
  · exact zk8 l p h
  split
  · exact h.add (.inl ⟨.inl rfl,rfl⟩)
  split
  · simp only;have h1:WfP (zaP p):=h.add (.inr ⟨rfl,_,rfl,fun t ht=>by cases ht⟩);exact WfP.putAll (zBg p.st.length l (zaP p) [] h1) ⟨by omega,Wj _⟩
  split
  · have h1:=zk8 l _ (h.push (t:=p.st.length) ⟨by omega,Wj _⟩);have h2:=(zbL l (zbl p p.st.length)).keep.len;exact h1.close ⟨by omega,by have:(zbl p p.st.length).st.length=p.st.length:=rfl;omega⟩
  split
  ·
   simp only;have h0:WfP (addP p ⟨0,f.block,none⟩):=h.add (.inl ⟨.inl rfl,rfl⟩)
   have hl:(zeB p f.block).st.length=p.st.length+2:=by simp[zeB,addP]
   have h1:WfP (zeB p f.block):=h0.add (.inr ⟨rfl,_,rfl,fun t ht=>by
    have e:(addP p ⟨0,f.block,none⟩).st.length=p.st.length+1:=by simp[addP]
    rw[e];simp only[Wi,Waa,or_false] at ht
    rcases ht with rfl|rfl<;>constructor<;>omega⟩)
   have h2:=zk8 l _ (h1.push (t:=p.st.length) ⟨by omega,by omega⟩);have h3:=(zbL l (zbl (zeB p f.block) p.st.length)).keep.len;have e3:(zbl (zeB p f.block) p.st.length).st.length=p.st.length+2:=hl;have h4:=h2.close (top:=p.st.length) ⟨by omega,by omega⟩;exact h4.setTo ⟨by omega,Wj _⟩
  split
  ·
   have h1:WfP (zaB p 0):=h.jump ⟨Wj _,by omega⟩
   refine h1.withLp fun x hx=>?_
   unfold zky at hx
   cases hg:p.lp.getLast? with
   | none=>rw[hg] at hx;exact h1.lp x hx
   |
    some y =>
    rw[hg] at hx
    rcases WD.1 hx with hx|hx
    · exact h1.lp x (Was _ hx)
    · rw[Wa.1 hx];exact h1.lp y (War hg)
  split
  · have:=zCq h;exact h.jump ⟨this.1,by omega⟩
  split
  · exact(h.jump ⟨Wj _,by omega⟩).withGot
  split
  ·
   refine⟨h.st,h.lp,fun x hx=>?_⟩
   rcases zzj hx with hx|hx
   · exact h.lab x hx
   · rw[hx];exact⟨by simp only;omega,Wj _⟩
  split
  · exact h.add (.inl ⟨.inr rfl,rfl⟩)
  · exact h
theorem zk8:∀(l:List Nd) (p:PC),WfP p→WfP (zaC l p)
 | [],p,h=>by rw[zaC];exact h
 |
  n::l,p,h=>by
  rw[zaC];exact zk8 l _ (zqD n p h)
theorem zBg (at':Nat):∀(l:List Nd) (p:PC) (ends:List Int),WfP p→WfP (brP at' l p ends).1
 | [],p,ends,h=>by rw[brP];exact h
 |
  n::l,p,ends,h=>by
  rw[brP];exact zBg at' l _ _ ((zqD n _ (h.appTo ⟨by omega,Wj _⟩)).jump ⟨Wj _,by omega⟩)
end
def NeF (b:Nat) (p:PC):Prop:=∀k m,b≤k→tlen p k=some m→0 < m
theorem NeF.none {p:PC}:NeF p.st.length p:=fun k m hk h=>by unfold tlen at h;rw[WP hk] at h;cases h
theorem NeF.mono {b c:Nat} {p:PC} (h:NeF b p) (hc:b≤c):NeF c p:=fun k m hk=>h k m (by omega)
theorem NeF.of_st {b:Nat} {p q:PC} (h:NeF b p) (e:q.st=p.st):NeF b q:=fun k m hk hm=>h k m hk (by unfold tlen at hm ⊢;rw[←e];exact hm)
theorem NeF.same {b:Nat} {p q:PC} (h:NeF b p) (e:∀k,tlen q k=tlen p k):NeF b q:=fun k m hk hm=>h k m hk (by rw[←e];exact hm)
theorem znX {ks:List Int} {p:PC} {v:Int} (k:Nat):tlen (putAll p ks v) k=tlen p k:=ze6 (b:=k+1) k (Wat k)
theorem zv1 {p:PC} {i j:Nat} {v:Int} (k:Nat):tlen (setTo p i j v) k=tlen p k:=zii (b:=k+1) k (Wat k)
theorem NeF.add {b:Nat} {p:PC} (h:NeF b p) {s:PSt} (hs:∀l,s.to=some l→0 < l.length):NeF b (addP p s):=fun k m hk hm=>by
 by_cases hlt:k < p.st.length
 · exact h k m hk (by rw[←zbz (p:=p) (s:=s) (Wd _) k hlt];exact hm)
 ·
  unfold tlen addP at hm;simp only at hm
  by_cases hk2:k=p.st.length
  · subst hk2;simp only[W7,Wp] at hm;obtain⟨l,h1,h2⟩:=W8.1 hm;rw[←h2];exact hs l h1
  · rw[WP (by simp;omega)] at hm;cases hm
theorem NeF.jump {b:Nat} {p:PC} (h:NeF b p) {v:Int}:NeF b (zaB p v):=h.add fun l e=>by cases e;simp
theorem NeF.close {b:Nat} {q:PC} (h:NeF b q) {top:Int}:NeF b (zd0 q top):=by unfold zd0;exact NeF.same (NeF.jump (h.of_st (q:={ q with lp:=q.lp.dropLast }) rfl)) (znX)
theorem NeF.glue {b:Nat} {p q:PC} (hp:NeF b p) (hq:NeF p.st.length q) (hk:zeb p.st.length p q):NeF b q:=fun k m h1 h2=>by
 rcases WS k p.st.length with h3|h3
 · exact hp k m h1 (by rw[←hk k h3];exact h2)
 · exact hq k m h3 h2
mutual
theorem zqG:∀(n:Nd) (p:PC),zfj n=true→NeF p.st.length (zaF n p)
 |
  .mk f c l,p,hf=>by
  rw[zfj,Wc] at hf;obtain⟨hfl,hff⟩:=hf;unfold zbE at hff;rw[Wc,decide_eq_true_eq] at hff;have hfp:=hff.1;rw[zaF];split
  · exact zlM l p hfl
  split
  · exact NeF.none.add fun l e=>by cases e
  split
  ·
   rename_i h1 h2 h3
   have hl:0 < l.length:=by unfold zJ at hfp;omega
   simp only
   have h2':tlen (zaP p) p.st.length=some 0:=by unfold tlen zaP addP;simp
   have hb:=zBh p.st.length l (zaP p) [] 0 hfl (by simp[zaP,addP]) h2' (NeF.mono NeF.none (by simp[zaP,addP]));refine NeF.same (fun k m hk hm=>?_) znX
   rcases Nat.eq_or_lt_of_le hk with he|hlt
   · subst he;rw[hb.2] at hm;cases hm;omega
   · exact hb.1 k m hlt hm
  split
  · exact(zlM l (zbl p p.st.length) hfl).close
  split
  ·
   simp only
   have h1:NeF p.st.length (zeB p f.block):=NeF.add (NeF.none.add fun l e=>by cases e) fun l e=>by cases e;simp
   have h2:=zlM l (zbl (zeB p f.block) p.st.length) hfl;have h3:NeF p.st.length (zaC l (zbl (zeB p f.block) p.st.length)):=NeF.glue (p:=zbl (zeB p f.block) p.st.length) (h1.of_st rfl) h2 (zdB l _ _ (Wd _));exact NeF.same h3.close (zv1)
  split
  · exact NeF.of_st (p:=zaB p 0) NeF.none.jump rfl
  split
  · exact NeF.none.jump
  split
  · exact NeF.of_st (p:=zaB p 0) NeF.none.jump rfl
  split
  · exact NeF.of_st (p:=p) NeF.none rfl
  split
  · exact NeF.none.add fun l e=>by cases e
  · exact NeF.none
theorem zlM:∀(l:List Nd) (p:PC),zdH l=true→NeF p.st.length (zaC l p)
 | [],p,_=>by rw[zaC];exact NeF.none
 |
  n::l,p,h=>by
  rw[zdH,Wc] at h;rw[zaC];exact NeF.glue (zqG n p h.1) (zlM l (zaF n p) h.2) (zdB l _ _ (Wd _))
theorem zBh (at':Nat):∀(l:List Nd) (p:PC) (ends:List Int) (m:Nat),zdH l=true→at' < p.st.length→tlen p at'=some m→NeF (at'+1) p→NeF (at'+1) (brP at' l p ends).1∧tlen (brP at' l p ends).1 at'=some (m+l.length)
 | [],p,ends,m,_,_,ht,hn=>by rw[brP];exact⟨hn,by simpa using ht⟩
 |
  n::l,p,ends,m,hf,hl,ht,hn=>by
  rw[zdH,Wc] at hf;rw[brP]
  have e1:(appTo p at' p.st.length).st.length=p.st.length:=by simp[appTo]
  have e2:=(zbT n (appTo p at' p.st.length)).keep.len
  have h0:NeF (at'+1) (appTo p at' p.st.length):=fun k m' hk hm=>hn k m' hk (by
   rw[←hm];unfold tlen appTo;simp only[WQ]
   cases p.st[k]? with
   | none=>rfl
   |
    some s =>
    simp only[WR,WG,Wp]
    rw[if_neg (by omega)])
  have h1:NeF (at'+1) (zaF n (appTo p at' p.st.length)):=NeF.glue h0 (zqG n _ hf.1) (zeF n _ _ (Wd _))
  have h3:tlen (zaB (zaF n (appTo p at' p.st.length)) 0) at'=some (m+1):=by rw[show tlen (zaB (zaF n (appTo p at' p.st.length)) 0) at'=tlen (zaF n (appTo p at' p.st.length)) at' from zbz (b:=at'+1) (by omega) at' (by omega),zeF n _ (at'+1) (by omega) at' (by omega)];exact zni ht
  have h4:=zBh at' l (zaB (zaF n (appTo p at' p.st.length)) 0) (ends++[((zaF n (appTo p at' p.st.length)).st.length:Int)]) (m+1) hf.2 (by rw[zz4];omega) h3 h1.jump;refine⟨h4.1,?_⟩;rw[h4.2,Wk]
  congr 1
  omega
end
theorem zAn {n:Nat} {l:List (Int × Int)} (h:∀x∈l,0≤x.2∧x.2≤n) (k:Int):0≤zn9 l k∧zn9 l k≤n:=by
 unfold zn9
 cases hf:l.findIdx? (fun e=>decide (e.1=k)) with
 | none=>simp
 |
  some i =>
  have hi:i < l.length:=by rw[List.findIdx?_eq_some_iff_getElem] at hf;exact hf.1
  simp only
  have e:l.getD i (0,0)=l[i]:=by simp[Wf,hi]
  rw[e];exact h _ (Wg hi)
theorem wf_p0:WfP p0:=⟨fun k s h=>by simp[p0] at h,fun x hx=>(by cases hx),fun x hx=>(by cases hx)⟩
theorem zxh {e:Nd} (hs:zax e≤1000) (hf:zfj e=true):OkR (zce e).st:=by
 have hw:=zqD e p0 wf_p0;have hn:=zqG e p0 hf;have hp:=zbT e p0;have hlen:=hp.len;have hb:StB (zax e+2) (zaF e p0):=zlL e p0 (zax e+2) (fun k m hm=>by unfold tlen p0 at hm;simp at hm) (Wd _)
 have hl:(zce e).st.length=(zaF e p0).st.length+1:=by simp[zce,fixK,zfd,addP]
 have hlp:(zaF e p0).st.length≤4004:=by have e1:p0.st.length=0:=rfl;have e2:p0.lab.length=0:=rfl;omega
 have hgot:∀k,0≤zlm (zfd e) k∧zlm (zfd e) k≤(zaF e p0).st.length:=fun k=>zAn hw.lab _
 have key:∀k (h:k < (zce e).st.length),(k < (zaF e p0).st.length∧∃s,(zaF e p0).st[k]? = some s∧(zce e).st[k].kind=s.kind∧((zce e).st[k].to=s.to∨(zce e).st[k].to=s.to.map fun l=>l.set 0 (zlm (zfd e) k)))∨(zce e).st[k].kind=2:=by
  intro k h
  have e1:(zce e).st[k]=if decide ((k:Int)∈(zfd e).got.map WA) then { (zfd e).st[k]'(by simpa [zce,fixK] using h) with to:=((zfd e).st[k]'(by simpa [zce,fixK] using h)).to.map fun l=>l.set 0 (zlm (zfd e) k) } else (zfd e).st[k]'(by simpa [zce,fixK] using h):=by simp only[zce,fixK,List.getElem_mapIdx]
  rw[e1]
  have hk2:k < (zfd e).st.length:=by simpa [zce,fixK] using h
  by_cases hk:k < (zaF e p0).st.length
  ·
   have e2:(zfd e).st[k]=(zaF e p0).st[k]:=by simp only[zfd,addP];rw[List.getElem_append_left hk]
   refine .inl ⟨hk,_,WB hk,?_⟩;split
   · rw[e2];exact⟨rfl,.inr rfl⟩
   · rw[e2];exact⟨rfl,.inl rfl⟩
  ·
   have e2:(zfd e).st[k]=⟨2,0,none⟩:=by simp only[zfd,addP];rw[List.getElem_append_right (by omega)];simp
   refine .inr ?_
   split<;>rw[e2]
 refine⟨by omega,by omega,fun k h=>?_,fun k h h0=>?_,fun k h h1=>?_⟩
 ·
  rcases key k h with ⟨_,s,h2,h3,_⟩|h2
  ·
   rw[h3]
   rcases(hw.st k s h2).1 with ⟨h4|h4,_⟩ | ⟨h4,_⟩<;>simp[h4]
  · exact .inr (.inr h2)
 ·
  rcases key k h with ⟨h2,_⟩|h2
  · omega
  · rw[h2] at h0;cases h0
 ·
  rcases key k h with ⟨hk,s,h2,h3,h4⟩|h2
  ·
   rw[h3] at h1
   rcases(hw.st k s h2).1 with ⟨h5|h5,_⟩ | ⟨_,l,h6,h7⟩
   · rw[h5] at h1;cases h1
   · rw[h5] at h1;cases h1
   ·
    have ht:tlen (zaF e p0) k=some l.length:=by unfold tlen;rw[h2,Wp,h6];rfl
    have hpos:=hn k l.length (We _) ht;have hbl:=hb k l.length ht
    rcases h4 with h4|h4
    · exact⟨l,by rw[h4,h6],hpos,by omega,fun t ht=>by have:=h7 t ht;omega⟩
    ·
     refine⟨l.set 0 (zlm (zfd e) k),by rw[h4,h6];rfl,by simpa using hpos,by simp;omega,fun t ht=>?_⟩
     rcases W6 ht with ht|ht
     · have:=h7 t ht;omega
     · have:=hgot k;omega
  · rw[h2] at h1;cases h1
def zb1 (err:Int):AH:=[(0,.row 1 [] 0),(1,.row 1 [[.int .i64 err]] 0),(2,.row 1 [[.fn (.func zcf) [.ptr 1 0 0 0 0]]] 0)]
theorem zov (e:Int) (c:List (List AV)) (nx:Nat):z7 Tryz.prog zcf [.ptr 1 0 0 0 0] (zb1 e++[(3,.row 2 c 0)]) nx (fun v H nx'=>H=zb1 15++[(3,.row 2 c 0)]):=by
 refine fn_x znE rfl ?_;unfold zi2;have hB:=hBig;unfold zb1;simp only[Wv,Ww]
 (repeat first|simp(disch:=try exact dis1) only[evD,Nat.reduceBEq,Nat.reduceAdd,Nat.reduceLeDiff,zi0]|with_reducible first|intro _|refine aJ ?_)
theorem lowN {e:Int}:LowH 3 (zb1 e):=.cons (by decide) (fun c h=>by cases h) (.cons (by decide) (zqE (.int _ _)) (.cons (by decide) (zqE (.fn _ _ fun a ha=>by rw[Wa.1 ha];exact .ptr _ _ _ _ _ (by decide))) (.nil 3)))
def zvx (st:List PSt) (cs:List Int):List AV:=[.iptr 1 fun j=>[encL 1 cW cs].getD j .undef,.iptr 1 fun j=>[zq2 st].getD j .undef,.ptr 2 0 0 0 0]
def zuR (lp:Nat) (st:List PSt) (cs:List Int) (a i:Nat):Kn:=[(0,.fn (.yield lp) []),(2,.iptr 1 fun j=>[zq2 st].getD j .undef),(3,.ptr 2 0 0 0 0),(5,.ptr 3 0 0 0 0),(6,.int .i64 i),(7,.int .i64 a)]
theorem lowR {e:Int} {c:List (List AV)} (hc:∀x∈c,∀v∈x,AV.Below 4 v):LowH 4 (zb1 e++[(3,.row 2 c 0)]):=.cons (by decide) (fun c h=>by cases h) (.cons (by decide) (zqE (.int _ _)) (.cons (by decide) (zqE (.fn _ _ fun a ha=>by rw[Wa.1 ha];exact .ptr _ _ _ _ _ (by decide))) (.cons (by decide) hc (.nil 4))))
theorem chB {cs:List Int} {j:Nat}:∀x∈[[encL 1 cW cs,AV.int .i64 j]],∀v∈x,AV.Below 4 v:=fun x hx v hv=>by
 rw[Wa.1 hx] at hv
 rcases Wi.1 hv with h|hv
 · rw[h];exact .sl _ _ _
 · rw[Wa.1 hv];exact .int _ _
theorem endN {st:List PSt} {cs:List Int} {lp a i j nx:Nat} {K:Kn} {T:AH} (h0:K.get 0=.fn (.yield lp) []) (h2:K.get 2=.iptr 1 fun j=>[zq2 st].getD j .undef) (h3:K.get 3=.ptr 2 0 0 0 0) (h5:K.get 5=.ptr 3 0 0 0 0) (h6:K.get 6=.int .i64 i) (h7:K.get 7=.int .i64 a) :
  Ent 3 K ((zb1 0++[(3,.row 2 [[encL 1 cW cs,.int .i64 j]] 0)])++T) nx (zuR lp st cs a i) (zb1 0++[(3,.row 2 [[encL 1 cW cs,.int .i64 j]] 0)]) 4 :=
 Ent.lowB (by decide) (fun r o h=>by rw[AH.look_app2,h]) (lowR chB) ⟨⟨h0,.fn _ _ fun a h=>by cases h⟩,⟨h2,.iptr _ _⟩,⟨h3,.ptr _ _ _ _ _ (by decide)⟩,⟨h5,.ptr _ _ _ _ _ (by decide)⟩,⟨h6,.int _ _⟩,⟨h7,.int _ _⟩,trivial⟩
theorem zAv {st:List PSt} {cs:List Int} {lp a i j nx:Nat} {K:Kn} {x:AObj} (h0:K.get 0=.fn (.yield lp) []) (h2:K.get 2=.iptr 1 fun j=>[zq2 st].getD j .undef) (h3:K.get 3=.ptr 2 0 0 0 0) (h5:K.get 5=.ptr 3 0 0 0 0) (h6:K.get 6=.int .i64 i) (h7:K.get 7=.int .i64 a) :
  Ent 3 K (zb1 0++[(4,x),(3,.row 2 [[encL 1 cW cs,.int .i64 j]] 0)]) nx (zuR lp st cs a i) (zb1 0++[(3,.row 2 [[encL 1 cW cs,.int .i64 j]] 0)]) 4 :=
 Ent.lowB (by decide) (fun r o h=>by
  rw[AH.look_app2] at h ⊢
  cases hr:AH.look (zb1 0) r with
  | some o=>rw[hr] at h;exact h
  |
   none =>
   rw[hr] at h;simp only[AH.look] at h ⊢
   cases h3:Wm 3 r with
   | false=>rw[h3] at h;cases h
   |
    true =>
    rw[h3] at h;rw[←zL h3]
    exact h) (lowR chB) ⟨⟨h0,.fn _ _ fun a h=>by cases h⟩,⟨h2,.iptr _ _⟩,⟨h3,.ptr _ _ _ _ _ (by decide)⟩,⟨h5,.ptr _ _ _ _ _ (by decide)⟩,⟨h6,.int _ _⟩,⟨h7,.int _ _⟩,trivial⟩
theorem Qai {p q:Prop}(k:q)(h:Im q p:=by(repeat first|simp(disch:=try exact dis1) only[evD,Nat.reduceBEq,Nat.reduceAdd,Nat.reduceLeDiff,zk5] | ((with_reducible apply Im.i);intro _) | ((with_reducible apply Im.a);omega));exact Im.r):p:=h k
theorem zo9 (st:List PSt) (cs:List Int) (hst:OkR st) (hcs:cs.length≤1000000) (hw:∀c∈cs,0≤c∧c < 4294967296) (n:Nat) (hn:0 < n) :
  ItOk Tryz.prog zbI (zvx st cs) (zb1 0) 3 (zjt st cs) (fun s=>0 < s.1) (n,0,0) (fun s H nx=>(match s with|some s=>zjt st cs s=none|none=>True)∧(AH.upto H 3=zb1 (match s with|some s=>endR st cs s|none=>0))):=by
 refine zuq zkH rfl rfl fun E hE=>?_
 unfold zgl zvx;have hB:=hBig;refine WpA.seq (WpA.pure ?_);simp only[zb1]
 (refine Qo ?_;intros)
 rw[zaf];refine WpA.seq (WpA.pure ?_)
 (refine Qo ?_;intros)
 rw[zaf];refine WpA.seq (WpA.pure ?_)
 (refine Qo ?_;intros)
 rw[zaf]
 refine WpA.block (WpA.loop (fun x:(Nat × Nat × Nat) × (Nat × Nat × Nat × Nat)=>(zuR E.lp st cs x.2.1 x.2.2.1,zb1 0++[(3,.row 2 [[encL 1 cW cs,.int .i64 x.2.2.2.1]] 0)],some x.1)) 4
  (fun x=>0 < x.1.1∧x.2.1 < st.length∧x.2.2.1≤st.length+1∧x.2.2.2.1≤cs.length∧muR st cs x.2.2.1 x.2.2.2.1≤x.2.2.2.2∧x.2.2.2.2≤zo8 st cs∧goR st cs x.2.2.2.2 x.2.1 x.2.2.1 x.2.2.2.1=goR st cs (zo8 st cs) x.1.2.1 0 x.1.2.2)
  (fun x=>x.1.1 * (zo8 st cs+1)+x.2.2.2.2) ((n,0,0),(0,0,0,zo8 st cs)) ⟨hn,hst.pos,We _,We _,zus,Wd _,rfl⟩ ?_ rfl ?_)
 · rw[hE];exact endN (T:=[]) rfl rfl rfl rfl rfl rfl
 ·
  rintro⟨⟨k,a0,j0⟩,⟨a,i,j,f⟩⟩ ⟨hk,ha,hi,hj,hm,hf,hg⟩ wf;simp only at hk ha hi hj hm hf hg;clear wf;unfold zee;simp only[zuR,zq2,zb1,Wv,Ww];obtain⟨f,rfl⟩:∃f',f=f'+1:=⟨f - 1,by unfold muR at hm;omega⟩;rw[goR] at hg;have hsl:=hst.len;have hcell:(st.map cPs).getD a []=cPs st[a]:=zo ha
  have hgd:st.getD a ⟨2,0,none⟩=st[a]:=by simp[Wf,ha]
  rw[hgd] at hg;refine WpA.block (WpA.seq (WpA.seq (WpA.pure ?_)))
  (repeat first|simp(disch:=try exact dis1) only[evD,Nat.reduceBEq,Nat.reduceAdd,Nat.reduceLeDiff,fldP,za]|with_reducible first|intro _|refine aJ ?_)
  by_cases hend:st.length < i
  ·
   rw[if_pos hend] at hg;refine WpA.cond (t:=true) (by show AV.bool (decide _)=_;simp;omega) (fun _=>WpA.pure ?_) (fun h=>by cases h)
   (refine Qa ?_;intros)
   refine⟨by kernel_rfl,zh0 (zov 0 _ _) ?_⟩;rintro v H' nx' rfl;simp only[zb1,Wv,Ww]
   (refine Qa ?_;intros)
   refine⟨?_,?_⟩
   · simp only[zjt,←hg]
   · simp only[endR,←hg];rfl
  ·
   rw[if_neg hend] at hg;refine WpA.cond (t:=false) (by show AV.bool (decide _)=_;simp;omega) (fun h=>by cases h) (fun _=>WpA.pure ?_)
   (refine Qa ?_;intros)
   rw[zaf];refine WpA.seq (WpA.pure ?_)
   (refine Qa ?_;intros)
   rw[zaf];refine WpA.seq (WpA.pure ?_)
   (repeat first|simp(disch:=try exact dis1) only[evD,Nat.reduceBEq,Nat.reduceAdd,Nat.reduceLeDiff,fldP,dT,za,hcell,cPs]|with_reducible first|intro _|refine aJ ?_)
   have hkd:=hst.kind a ha;have hla:=hst.last a ha;have hto:=hst.to a ha;generalize st[a]=s at hg hcell hkd hla hto ⊢;obtain⟨kd,bl,to⟩:=s;simp only at hg hkd hla hto ⊢;rw[zaf];refine WpA.seq (WpA.pure ?_)
   (refine Ql ?_;intros)
   rw[zaf];refine WpA.block (WpA.seq (WpA.pure ?_))
   (refine Qa ?_;intros)
   rw[zaf]
   by_cases h2:kd=2
   ·
    rw[if_pos h2] at hg;refine WpA.cond (t:=true) (by show AV.bool (decide _)=_;simp[h2]) (fun _=>WpA.pure ?_) (fun h=>by cases h)
    (refine Qa ?_;intros)
    refine⟨?_,?_⟩
    · simp only[zjt,←hg]
    · simp only[endR,←hg];rfl
   rw[if_neg h2] at hg;refine WpA.cond (t:=false) (by show AV.bool (decide _)=_;simp[h2]) (fun h=>by cases h) (fun _=>WpA.seq (WpA.pure ?_))
   (refine Qa ?_;intros)
   rw[zaf]
   by_cases h0:kd=0
   ·
    rw[if_pos h0] at hg;have hla:=hla h0;refine WpA.cond (t:=true) (by show AV.bool (decide _)=_;simp[h0]) (fun _=>WpA.seq (WpA.seq (WpA.region ?_))) (fun h=>by cases h);refine WpAL.pre (pre:=[_,_,_]) rfl ?_
    (repeat first|simp(disch:=try exact dis1) only[evD,Nat.reduceBEq,Nat.reduceAdd,Nat.reduceLeDiff,fldP,zk5]|with_reducible first|intro _|refine aJ ?_)
    have hnx:zjt st cs (k,a0,j0)=some ([.int .i64 bl],(k - 1,a+1,j)):=by simp only[zjt,←hg]
    refine WpAL.yield (s':=(k - 1,a+1,j)) rfl hnx ?_ (fun hok=>WpAL.pre (pre:=[_]) rfl ?_) (WpAL.pre (pre:=[_]) rfl ?_)
    ·
     intro x hx
     have e:x=.int .i64 bl:=by
      rcases Wi.1 hx with h|h
      · exact h
      · cases h
     rw[e];exact .int _ _
    ·
     (refine Qai ?_;intros)
     refine WpAL.nil ?_;rw[zaf];refine WpA.cond (t:=false) rfl (fun h=>by cases h) (fun _=>WpA.pure ?_)
     (refine Qa ?_;intros)
     rw[zaf];refine WpA.pure ?_
     (refine Qa ?_;intros)
     rw[zbb,zbb,zb2];refine⟨((k - 1,a+1,j),(a+1,0,j,zo8 st cs)),⟨hok,hla,We _,hj,zus,Wd _,rfl⟩,?_,?_,rfl⟩
     · simp only;obtain⟨k',rfl⟩:∃k',k=k'+1:=⟨k - 1,by omega⟩;rw[WL];simp only[Nat.add_sub_cancel];omega
     · rw[hE];exact endN (T:=[_]) rfl rfl rfl rfl rfl rfl
    ·
     (refine Qai ?_;intros)
     refine WpAL.nil ?_;rw[zaf];refine WpA.cond (t:=true) rfl (fun _=>WpA.pure ?_) (fun h=>by cases h)
     (refine Qa ?_;intros)
     exact⟨trivial,rfl⟩
   ·
    rw[if_neg h0] at hg
    have h1:kd=1:=by
     rcases hkd with h|h|h
     · exact absurd h h0
     · exact h
     · exact absurd h h2
    obtain⟨l,rfl,hl0,hl1,hlt⟩:=hto h1;simp only[Option.getD_some] at hg;refine WpA.cond (t:=false) (by show AV.bool (decide _)=_;simp[h0]) (fun h=>by cases h) (fun _=>WpA.pure ?_);have hlen:((zCj (some l))=za l):=rfl
    have hB0:l.length≤big:=by omega
    have hpick:muR st cs (if (zgs cs j l.length).2 then 0 else i+1) (zkD cs j) < muR st cs i j:=zz6 hj (by omega);have hpv:=zoq (cs:=cs) (j:=j) (n:=l.length) (by omega);have hpj:=zuu hj
    have hpl:(zgs cs j l.length).1.toNat < l.length:=by omega
    have ht:=hlt (l.getD (zgs cs j l.length).1.toNat 0) (zmm hpl)
    have e0:((List.map (fun n=>[AV.int .i64 n]) l).getD (zgs cs j l.length).1.toNat [])=[.int .i64 (((l.getD (zgs cs j l.length).1.toNat 0).toNat:Nat):Int)]:=by rw[WK ht.1];simp[Wf,hpl]
    have hpk:=(ze4 cs j l.length (by omega) (by omega) (by omega) hw)
    by_cases hc:l.length=1∧bl ≠ -1
    ·
     rw[if_pos hc] at hg
     have hd1:decide ((l.length:Int)=1)=true:=by simp;omega
     have hd2:decide (bl = -1)=false:=by simp[hc.2]
     have ht0:=hlt (l.getD 0 0) (zmm hl0)
     have e1:((List.map (fun n=>[AV.int .i64 n]) l).getD (Int.toNat 0) [])=[.int .i64 (((l.getD 0 0).toNat:Nat):Int)]:=by rw[WK ht0.1];simp[Wf,hl0]
     (repeat first|simp(disch:=try exact dis1) only[evD,Nat.reduceBEq,Nat.reduceAdd,Nat.reduceLeDiff,fldP,dT,za,hlen,h1,hd1,hd2,e1]|with_reducible first|intro _|refine aJ ?_)
     rw[zn5,show Wm 1 2=false from rfl,cond_false,zn5,show Wm 1 1=true from rfl,cond_true,zb2];refine⟨((k,a0,j0),((l.getD 0 0).toNat,i+1,j,f)),⟨hk,by dsimp only;omega,by dsimp only;omega,hj,by have:=zzF (st:=st) (cs:=cs) (i:=i) (j:=j) (by omega);dsimp only;omega,by dsimp only;omega,hg⟩,by dsimp only;omega,?_,rfl⟩;rw[hE];exact endN (T:=[_]) rfl rfl rfl rfl rfl rfl
    ·
     rw[if_neg hc] at hg;clear hto;obtain⟨pk,used,hpe⟩:∃pk used,zgs cs j l.length=(pk,used):=⟨_,_,rfl⟩;simp only[hpe] at hg hpick hpv hpl ht e0 hpk
     by_cases hl2:l.length=1
     ·
      have hd1:decide ((l.length:Int)=1)=true:=by simp;omega
      have hd2:decide (bl ≠ -1)=false:=by
       rw[decide_eq_false_iff_not]
       exact fun h=>hc ⟨hl2,h⟩
      (repeat first|simp(disch:=try exact dis1) only[evD,Nat.reduceBEq,Nat.reduceAdd,Nat.reduceLeDiff,fldP,dT,za,hlen,h1,hd1,hd2]|with_reducible first|intro _|refine aJ ?_)
      refine zbq [(0,3,0)] 1 _ (hpk) rfl rfl Qap Qap ?_;rintro v H' nx' ⟨rfl,rfl,rfl⟩
      cases used with
      |
       true =>
       (repeat first|simp(disch:=try exact dis1) only[evD,Nat.reduceBEq,Nat.reduceAdd,Nat.reduceLeDiff,fldP,dT,za,hlen,e0]|with_reducible first|intro _|refine aJ ?_)
       rw[zbb,zbb,zb2];refine⟨((k,a0,j0),((l.getD pk.toNat 0).toNat,0,zkD cs j,f)),⟨hk,by dsimp only;omega,We _,hpj,by simp only[if_true] at hpick;dsimp only;omega,by dsimp only;omega,hg⟩,by dsimp only;omega,?_,rfl⟩;rw[hE];refine zAv ?_ ?_ ?_ ?_ ?_ ?_
       all_goals rfl
      |
       false =>
       (repeat first|simp(disch:=try exact dis1) only[evD,Nat.reduceBEq,Nat.reduceAdd,Nat.reduceLeDiff,fldP,dT,za,hlen,e0]|with_reducible first|intro _|refine aJ ?_)
       rw[zbb,zbb,zb2];refine⟨((k,a0,j0),((l.getD pk.toNat 0).toNat,i+1,zkD cs j,f)),⟨hk,by dsimp only;omega,by dsimp only;omega,hpj,by simp only[WY,if_false] at hpick;dsimp only;omega,by dsimp only;omega,hg⟩,by dsimp only;omega,?_,rfl⟩;rw[hE];refine zAv ?_ ?_ ?_ ?_ ?_ ?_
       all_goals rfl
     ·
      have hd1:decide ((l.length:Int)=1)=false:=by simp;omega
      (repeat first|simp(disch:=try exact dis1) only[evD,Nat.reduceBEq,Nat.reduceAdd,Nat.reduceLeDiff,fldP,dT,za,hlen,h1,hd1]|with_reducible first|intro _|refine aJ ?_)
      refine zbq [(0,3,0)] 1 _ (hpk) rfl rfl Qap Qap ?_;rintro v H' nx' ⟨rfl,rfl,rfl⟩
      cases used with
      |
       true =>
       (repeat first|simp(disch:=try exact dis1) only[evD,Nat.reduceBEq,Nat.reduceAdd,Nat.reduceLeDiff,fldP,dT,za,hlen,e0]|with_reducible first|intro _|refine aJ ?_)
       rw[zbb,zbb,zb2];refine⟨((k,a0,j0),((l.getD pk.toNat 0).toNat,0,zkD cs j,f)),⟨hk,by dsimp only;omega,We _,hpj,by simp only[if_true] at hpick;dsimp only;omega,by dsimp only;omega,hg⟩,by dsimp only;omega,?_,rfl⟩;rw[hE];refine zAv ?_ ?_ ?_ ?_ ?_ ?_
       all_goals rfl
      |
       false =>
       (repeat first|simp(disch:=try exact dis1) only[evD,Nat.reduceBEq,Nat.reduceAdd,Nat.reduceLeDiff,fldP,dT,za,hlen,e0]|with_reducible first|intro _|refine aJ ?_)
       rw[zbb,zbb,zb2];refine⟨((k,a0,j0),((l.getD pk.toNat 0).toNat,i+1,zkD cs j,f)),⟨hk,by dsimp only;omega,by dsimp only;omega,hpj,by simp only[WY,if_false] at hpick;dsimp only;omega,by dsimp only;omega,hg⟩,by dsimp only;omega,?_,rfl⟩;rw[hE];refine zAv ?_ ?_ ?_ ?_ ?_ ?_
       all_goals rfl
def zpr {σ:Type} (next:σ→Option (List AV × σ)):Nat→σ→Option σ
 | 0,_=>none
 |
  k+1,s=>match next s with
  | none=>some s
  | some (_,s')=>zpr next k s'
def boxN:List Int→AH
 | []=>[(4,.row 1 [[.nilsl]] 0)]
 | x::l=>[(4,.row 1 [[.own 5 0 0 0 (x::l).length]] 0),(5,.row 1 ((x::l).map cI) 0)]
theorem zwS:∀l:List Int,HighH 3 (boxN l)
 | []=>.cons (by decide) (cellF .nilsl) (.nil 3)
 | x::l=>.cons (by decide) (cellF (.own _ _ _ _ _ (by decide))) (.cons (by decide) (fun c hc v hv=>by
   obtain⟨i,_,rfl⟩:=Wq.1 hc;rw[show cI i=[AV.int .i64 i] from rfl,Wa] at hv;rw[hv]
   exact .int _ _) (.nil 3))
def zgJ (st:List PSt) (cs:List Int) (n:Nat):Int:=match zpr (zjt st cs) n (n,0,0) with
 | some s=>endR st cs s
 | none=>0
def zmf (st:List PSt) (cs:List Int) (n:Nat):List Int:=itv (zjt st cs) (valR st cs) n (n,0,0)
theorem retN {e:Int} {l:List Int} {H:AH} {nx:Nat} {v:AV} (hH:∀r o,(zb1 e).look r=some o→H.look r=some o) (hv:Vw H (zb1 e) (zkT 3) (fun r _=>3≤r) true v (za l)):zsG 3 (fun v H nx=>v=za l∧H=zb1 e∧nx=3) v H nx :=
 ⟨_,_,_,Ent.lowFB (by decide) hH lowN ⟨hv,trivial⟩,rfl,rfl,rfl⟩
theorem zpz {st:List PSt} {cs:List Int}:∀ {k:Nat} {s0 s:Nat × Nat × Nat},itn (zjt st cs) k s0=some s→s.1=s0.1 - k
 | 0,s0,s,h=>by cases h;rfl
 |
  k+1,s0,s,h=>by
  rw[itn] at h;unfold zjt at h;split at h
  · cases h
  ·
   rename_i x s' hx;split at hx
   · simp only[WC,WI] at hx;have:=zpz (st:=st) (cs:=cs) h;rw[this,←hx.2];simp only;omega
   · cases hx
theorem Qas {p:Prop}(h:p:=by(try simp only[evWB,Nat.reduceBEq,Nat.reduceAdd,Nat.reduceSub,Nat.reduceLeDiff,Nat.reduceLT,implies_true,boxN])<;>exact fin1):p:=h
theorem Qat {p:Prop}(h:p:=by(try simp only[evWB,Nat.reduceBEq,Nat.reduceAdd,Nat.reduceSub,Nat.reduceLeDiff,Nat.reduceLT,implies_true,boxN,List.length_append,List.map_append,List.map_cons,List.map_nil,List.length_cons,List.length_nil,cI])<;>exact fin1):p:=h
theorem zoo (st:List PSt) (cs:List Int) (hst:OkR st) (hcs:cs.length≤1000000) (hw:∀c∈cs,0≤c∧c < 4294967296) (n:Int) (hn:n≤1000000) :
  z7 Tryz.prog zcQ [.fn (.func zbI) (zvx st cs),.int .i64 n] (zb1 0) 3 (fun v H nx=>v=za (zmf st cs n.toNat)∧H=zb1 (zgJ st cs n.toNat)∧nx=3):=by
 refine z8 (fn_x zkl rfl ?_);unfold zhs;have hB:=hBig
 by_cases h0:n≤0
 ·
  have e:n.toNat=0:=by omega
  unfold zmf zgJ;rw[e];simp only[zb1]
  (refine QR ?_;intros)
  exact retN (e:=0) (fun r o h=>by
   refine Wz (AH.look_app2 r (zb1 0) [_,_]) ?_
   rw[h]) (.nil0 _ _ _)
 ·
  have hit:=zo9 st cs hst hcs hw n.toNat (by omega)
  have hval:∀s x s',zjt st cs s=some (x,s')→x=[.int .i64 (valR st cs s)]:=fun s x s' h=>by
   unfold zjt at h;unfold valR;split at h
   · simp only[WC,WI] at h;rw[←h.1]
   · cases h
  simp only[zb1]
  (refine Qk ?_;intros)
  unfold zmf zgJ;generalize hS:zpr (zjt st cs) n.toNat (n.toNat,0,0)=S;generalize hR:itv (zjt st cs) (valR st cs) n.toNat (n.toNat,0,0)=R
  have hRl:R.length≤n.toNat:=by rw[←hR];exact ztd _ _ _ _
  have hcaps:∀c∈zvx st cs,AV.Below 3 c:=fun c hc=>by
   rcases Wi.1 hc with h|hc
   · rw[h];exact .iptr _ _
   rcases Wi.1 hc with h|hc
   · rw[h];exact .iptr _ _
   · rw[Wa.1 hc];exact .ptr _ _ _ _ _ (by decide)
  refine zoi 3 (zb1 0) (fun s H=>H=zb1 (match s with|some s=>endR st cs s|none=>0)) (by kernel_rfl) hcaps hit (fun s x s' h=>by rw[hval s x s' h];rfl) [(3,.iptr 1 fun j=>[AV.int .i64 n].getD j .undef),(5,.ptr 4 0 0 0 0)] boxN 6
   (fun a s=>a++itv (zjt st cs) (valR st cs) (n.toNat - a.length) s=R∧a.length < n.toNat∧itn (zjt st cs) a.length (n.toNat,0,0)=some s∧zpr (zjt st cs) (n.toNat - a.length) s=S) (fun a e=>e=.exit 0∧a=R∧S=none) []
   ⟨Wd _,lowN,fun s H' h=>by rw[h];exact lowN,zwS,fun i=>?_⟩ (fun a s h=>by have:=zpz h.2.2.1;have:=h.2.1;dsimp only at *;omega) ⟨hR,by simp;omega,rfl,hS⟩ ?_ ?_ ?_ ?_
  ·
   simp only[Kn.get];cases Wm 3 i
   ·
    simp only[cond_false];cases Wm 5 i
    · exact .undef
    · exact .ptr _ _ _ _ _ (by decide)
   · exact .iptr _ _
  ·
   refine Ent.lowB (by decide) ?_ (.cons (by decide) (fun c h=>by cases h) (.cons (by decide) (zqE (.int _ _)) (.cons (by decide) (zqE (.fn _ _ fun a ha=>by rw[Wa.1 ha];exact .ptr _ _ _ _ _ (by decide))) (.cons (by decide) (zqE .nilsl) (.nil 6))))) ⟨⟨rfl,.iptr _ _⟩,⟨rfl,.ptr _ _ _ _ _ (by decide)⟩,trivial⟩;intro r o h;refine Wz (AH.look_app2 r (zb1 0) [(3,.row 1 [] 0),(4,.row 1 [[.nilsl]] 0)]) ?_;rw[AH.look_app2] at h
   cases hr:AH.look (zb1 0) r with
   | some o=>rw[hr] at h;exact h
   |
    none =>
    rw[hr] at h;simp only[boxN,AH.look] at h ⊢
    cases h3:Wm 4 r with
    | false=>rw[h3] at h;cases h
    |
     true =>
     rw[h3] at h;rw[←zL h3];exact h
  ·
   rintro a s x s' ⟨h1,h2,h3,h6⟩ hx wf;have hxv:=hval _ _ _ hx;subst hxv;clear wf;simp only[ziW];unfold zeG
   have hm:n.toNat - a.length=(n.toNat - a.length - 1)+1:=by omega
   rw[hm,itv,hx] at h1;rw[hm,zpr,hx] at h6;simp only at h1 h6;have h4:=zqU h3 hx;generalize valR st cs s=v at *
   cases a with
   |
    nil =>
    simp only[boxN]
    (refine Qa ?_;intros)
    unfold zbZ
    (refine Qa ?_;intros)
    (refine zx (fun hc=>?_) (fun hc=>?_))<;>(try simp only[dcd] at hc)
    ·
     (refine Qa ?_;intros)
     have e:n.toNat - ([]:List Int).length - 1=0:=by simp only[Wy];omega
     exact⟨[v],⟨by rw[←h1,e,itv];rfl,by rw[←h6,e];rfl⟩,(Ent.tabB [(0,0,0),(1,1,0),(2,2,0),(4,4,0),(5,7,0)] [] rfl rfl rfl Qas Qas)⟩
    ·
     (refine Qa ?_;intros)
     refine⟨[v],⟨by rw[←h1];rfl,by simp only[Wk,Wy];omega,h4,by rw[←h6];rfl⟩,(Ent.tabB [(0,0,0),(1,1,0),(2,2,0),(4,4,0),(5,7,0)] [] rfl rfl rfl Qas Qas)⟩
   |
    cons y l =>
    simp only[boxN]
    have h5:l.length+1 < n.toNat:=by simpa using h2
    (refine Qa ?_;intros)
    unfold zbZ
    (refine Qa ?_;intros)
    (refine zx (fun hc=>?_) (fun hc=>?_))<;>(try simp only[dcd] at hc)
    ·
     (refine Qa ?_;intros)
     have e:n.toNat - (y::l).length - 1=0:=by simp only[Wk];omega
     exact⟨y::(l++[v]),⟨by rw[←h1,e,itv];rfl,by rw[←h6,e];rfl⟩,(Ent.tabB [(0,0,0),(1,1,0),(2,2,0),(4,4,0),(5,5,1)] [] rfl rfl rfl Qat Qat)⟩
    ·
     (refine Qa ?_;intros)
     have e:(y::(l++[v])).length=(y::l).length+1:=by simp
     exact⟨y::(l++[v]),⟨by rw[←h1,e];simp[Nat.sub_sub],by rw[e];simp only[Wk] at h2 hc ⊢;omega,by rw[e];exact h4,by rw[←h6,e];simp only[Nat.sub_sub]⟩,(Ent.tabB [(0,0,0),(1,1,0),(2,2,0),(4,4,0),(5,5,1)] [] rfl rfl rfl Qat Qat)⟩
  ·
   rintro a s H' ⟨h1,h2,h3,h6⟩ hx rfl
   have hm:n.toNat - a.length=(n.toNat - a.length - 1)+1:=by omega
   rw[hm,itv,hx] at h1;simp only[W0] at h1;subst h1;rw[hm,zpr,hx] at h6;simp only at h6;subst h6
   cases a with
   |
    nil =>
    simp only[boxN,zb1,Wv,Ww]
    (refine Qa ?_;intros)
    unfold zai
    (refine Qr ?_;intros)
    exact retN (fun r o h=>by
     refine Wz (AH.look_app2 r (zb1 _) _) ?_
     rw[h]) (.nil0 _ _ _)
   |
    cons y l =>
    simp only[boxN,zb1,Wv,Ww]
    (refine Qa ?_;intros)
    unfold zai
    (refine Qr ?_;intros)
    exact retN (fun r o h=>by
     refine Wz (AH.look_app2 r (zb1 _) _) ?_
     rw[h]) (zaV (l:=y::l) (show 3≤5 by decide) rfl (by omega))
  ·
   rintro a e H' ⟨rfl,rfl,rfl⟩ rfl
   cases a with
   |
    nil =>
    simp only[boxN,zb1,Wv,Ww]
    (refine Qa ?_;intros)
    unfold zai
    (refine Qr ?_;intros)
    exact retN (fun r o h=>by
     refine Wz (AH.look_app2 r (zb1 _) _) ?_
     rw[h]) (.nil0 _ _ _)
   |
    cons y l =>
    simp only[boxN,zb1,Wv,Ww]
    (refine Qa ?_;intros)
    unfold zai
    (refine Qr ?_;intros)
    exact retN (fun r o h=>by
     refine Wz (AH.look_app2 r (zb1 _) _) ?_
     rw[h]) (zaV (l:=y::l) (show 3≤5 by decide) rfl (by omega))
theorem zl1 (st:List PSt) (cs:List Int) (hcs:cs.length≤1000000) (hst:st.length≤1000000):z7 Tryz.prog zfk [zq2 st,encL 1 cW cs,.fn (.func zcf) [.ptr 1 0 0 0 0]] [(0,.row 1 [] 0),(1,.row 1 [[.int .i64 0]] 0)] 2
  (fun v H nx=>v=.fn (.func zbI) (zvx st cs)∧H=zb1 0∧nx=3):=by
 refine fn_x zmj rfl ?_;unfold zhE;have hB:=hBig;unfold zq2 zvx zb1
 (repeat first|simp(disch:=try exact dis1) only[evD,Nat.reduceBEq,Nat.reduceAdd,Nat.reduceLeDiff,za,zhP]|with_reducible first|intro _|refine aJ ?_)
 exact⟨⟨rfl,rfl⟩,rfl⟩
mutual
theorem zse:∀(e:Nd) (b:Bool),zdF e b=zkv e b
 |
  .mk f c l,b=>by
  rw[zdF,zkv,zp2 l,Bool.or_assoc];simp only[zhq,Bool.decide_or]
theorem zp2:∀(l:List Nd) (b:Bool),zaN l b=zdP l b
 | [],b=>by rw[zaN,zdP]
 | e::l,b=>by rw[zaN,zdP,zse e,zp2 l]
end
def zrw (g:G) (e:Nd) (cs:List Int) (most:Int):AV :=
 if zlp g e≠0 then .tup [za [],.int .i64 (zlp g e)] else if 65536 < most then .tup [za [],.int .i64 6] else
 if zgJ (zce e).st cs most.toNat≠0 then .tup [za [],.int .i64 (zgJ (zce e).st cs most.toNat)] else .tup [za (zmf (zce e).st cs most.toNat),.int .i64 0]
theorem Qaj {p q:Prop}(k:q)(h:Im q p:=by(repeat first|simp(disch:=try exact dis1) only[evD,Nat.reduceBEq,Nat.reduceAdd,Nat.reduceLeDiff,dT,zdZ] | ((with_reducible apply Im.i);intro _) | ((with_reducible apply Im.a);omega));exact Im.r):p:=h k
theorem zqf (g:G) (hf:midG g) (e:Nd) (hs:zax e≤1000) (cs:List Int) (most:Int) (hcs:cs.length≤1000000) (hw:∀c∈cs,0≤c∧c < 4294967296) :
  zk Tryz.prog ze5 [.agg (encN e),.agg g.cells,encL 1 cW cs,.int .i64 most] (·=zrw g e cs most):=by
 refine fn_x zqy rfl ?_;unfold zlE;have hB:=hBig;have hck:=zlu g hf e hs;simp only[G.cells] at hck ⊢;have htr:=zkB e hs
 have retE:∀(H:AH) (v:AV) (l:List Int) (n:Int),Vw H [] nos allR false v (za l)→∃a,Frz H (.tup [v,.int .i64 n]) a∧a=.tup [za l,.int .i64 n]:=fun H v l n hv=>⟨.tup [za l,.int .i64 n],.tup _ _ _ rfl (fun j x y h1 h2=>match j with
  | 0=>by cases h1;cases h2;exact hv
  | 1=>by cases h1;cases h2;exact .int _ _ _
  | j+2=>by cases h1),rfl⟩
 (repeat first|simp(disch:=try exact dis1) only[evD,Nat.reduceBEq,Nat.reduceAdd,Nat.reduceLeDiff,fldP,zk6,tab,zbM,zaK,zbe,Wr,Ws]|with_reducible first|intro _|refine aJ ?_)
 refine zc (zg hck (flN rfl)) ?_;unfold zrw
 have hst:zlp g e=0→zfj e=true∧zkv e false=false:=fun h=>by
  unfold zlp at h;split at h
  · exact absurd h (by assumption)
  split at h
  · cases h
  split at h
  · cases h
  split at h
  · cases h
  rename_i h1 h2 h3 h4;exact⟨by simpa using h2,by simpa using h4⟩
 generalize zlp g e=c at hst ⊢
 by_cases h0:c=0
 case neg =>
  rw[if_pos h0]
  (refine Qaj ?_;intros)
  exact retE _ _ [] _ (zaV (l:=[]) trivial rfl (by simp only[Wy];omega))
 rw[if_neg (fun h=>h h0)]
 by_cases h1:65536 < most
 ·
  rw[if_pos h1]
  (repeat first|simp(disch:=try exact dis1) only[evD,Nat.reduceBEq,Nat.reduceAdd,Nat.reduceLeDiff,dT,dF,zdZ]|with_reducible first|intro _|refine aJ ?_)
  exact retE _ _ [] _ (zaV (l:=[]) trivial rfl (by simp only[Wy];omega))
 rw[if_neg h1];obtain⟨hfm,hsy⟩:=hst h0
 (repeat first|simp(disch:=try exact dis1) only[evD,Nat.reduceBEq,Nat.reduceAdd,Nat.reduceLeDiff,dF,zbe,zk6,tab,Wr,Ws]|with_reducible first|intro _|refine aJ ?_)
 refine zc (zg (htr (by rw[zse];exact hsy)) (flN rfl)) ?_;have hok:=zxh hs hfm;have hrun:=zl1 (zce e).st cs hcs hok.len;have hfirst:=zoo (zce e).st cs hok hcs hw most (by omega);generalize (zce e).st=st at hok hrun hfirst ⊢
 (refine Qa ?_;intros)
 refine zh0 hrun ?_;rintro v H' nx' ⟨rfl,rfl,rfl⟩
 (refine Qa ?_;intros)
 refine zh0 hfirst ?_;rintro v H' nx' ⟨rfl,rfl,rfl⟩
 have hwf:∀n:Int,n=0∨n=15→InR .i64 n:=fun n h=>by
  rcases h with rfl|rfl<;>exact⟨by decide,by decide⟩
 have hE:zgJ st cs most.toNat=0∨zgJ st cs most.toNat=15:=by
  unfold zgJ;split
  ·
   unfold endR
   split<;>simp
  · exact .inl rfl
 generalize zgJ st cs most.toNat=er at hE ⊢;generalize zmf st cs most.toNat=li
 by_cases h2:er=0
 ·
  rw[if_neg (fun h=>h h2)];simp only[zb1]
  (repeat first|simp(disch:=try exact dis1) only[evD,Nat.reduceBEq,Nat.reduceAdd,Nat.reduceLeDiff,dF,zdZ]|with_reducible first|intro _|refine aJ ?_)
  exact retE _ _ _ _ (.sl _ _ _ _)
 ·
  rw[if_pos h2]
  have h3:er=15:=by omega
  simp only[zb1]
  (refine Qaj ?_;intros)
  have r:=retE [(0,.row 1 [] 0),(1,.row 1 [[.int .i64 er]] 0),(2,.row 1 [[.fn (.func zcf) [.ptr 1 0 0 0 0]]] 0),(3,.row 1 [] 0)] (.own 3 0 0 0 0) [] er (zaV (l:=[]) trivial rfl (by simp only[Wy];omega));exact⟨r,r⟩
theorem zyg {g:G} (hm:midG g) (h:zbi g=0):OkG g:=by
 have h0:=zmD h;have hfull:=znN h0;unfold zmv at h0;split at h0
 case isFalse=>cases h0
 rename_i h1;rw[Wc,WF] at h1;refine⟨?_,Wh hm.blocks (by decide),fun b hb=>?_,fun b hb=>Wh (hm.stmts b hb).1 (by decide),fun b hb=>Wh (zgi (by decide) (hm.stmts b hb).2) (by decide),fun b hb t ht=>?_⟩
 ·
  cases hb:g.blocks with
  | nil=>rw[hb] at h1;simp at h1
  | cons a l=>simp
 · have:=hfull b hb;omega
 · have h2:=h1.2 b hb;unfold zdx at h2;rw[Wc,Wc,WF] at h2;have h3:=h2.2.2 t ht;unfold inN at h3;rw[decide_eq_true_eq] at h3;exact h3
theorem zuV (g:G) (cs:List Int) (most:Int) (hm:midG g) (hcs:cs.length≤1000000) (hmo:most≤1000000∨65536 < most) (hw:∀c∈cs,0≤c∧c < 4294967296) :
  zk Tryz.prog zba [.agg g.cells,encL 1 cW cs,.int .i64 most] (·=if zbi g≠0 then .tup [za [],.int .i64 (zbi g)] else if 65536 < most then .tup [za [],.int .i64 6] else .tup [za (zgV g cs most),.int .i64 0]) :=
 zkt g cs most (zjJ hm) (zpJ hm) hcs hmo hw (zyg hm)
theorem zuw (g:G) (most:Int) (hm:midG g) (hmo:most≤1000∨65536 < most):zk Tryz.prog zdL [.agg g.cells,.int .i64 most] (·=zdU (ziC g most)) :=
 zpd g most (zjJ hm) (fun b hb s hs=>Wh ((hm.stmts b hb).2 s hs) (by decide)) hmo (zyg hm)
def gA:G:=⟨0,[⟨0,[zl6 1 2]⟩,⟨0,[stX 6 3 0 []]⟩,⟨0,[stX 6 3 0 []]⟩,⟨0,[stX 9 0 0 []]⟩]⟩
def hA:G:=⟨0,[⟨0,[stX 6 1 0 []]⟩,⟨0,[zl6 2 3]⟩,⟨0,[stX 6 1 0 []]⟩,⟨0,[stX 10 0 0 []]⟩]⟩
def oneA:G:=⟨0,[⟨0,[stX 10 0 0 []]⟩]⟩
def ndX (kind:Int) (l:List Nd):Nd:=.mk ⟨kind,0,0⟩ [] l
def zAL:Nd:=ndX 1 [ndX 4 [ndX 1 []],ndX 2 []]
theorem zxz {g:G} (h:ziz g 8=true):midG g:=zp0 h
theorem zs8:zbi gA=0∧zgV gA [] 9=[0,1,3]∧zgV gA [3] 9=[0,2,3]∧zgV gA [] 2=[0,1]∧ziC gA 9=[[0,1,3],[0,2,3]]:=by decide +kernel
theorem hA_ok:zbi hA=0∧zgV hA [0,0,1] 20=[0,1,2,1,2,1,3]:=by decide +kernel
theorem midA:ziz gA 8=true∧ziz hA 8=true∧ziz oneA 8=true:=by decide +kernel
theorem zrX:zlp oneA zAL=0∧zgJ (zce zAL).st [] 5=15∧zlp oneA (ndX 2 [])=0∧zgJ (zce (ndX 2 [])).st [] 5=0∧zmf (zce (ndX 2 [])).st [] 5=[0]:=by decide +kernel
def znD (g:G) (cs:List Int):Nat→Option Nat→Nat→List Int
 | 0,_,_=>[]
 | _+1,none,_=>[]
 | k+1,some b,j=>(b:Int)::znD g cs k (zeZ g cs b j).1 (zeZ g cs b j).2
theorem zuk (g:G) (cs:List Int):∀(k n:Nat) (b:Option Nat) (j:Nat),itv (zos g cs) valW k (n,b,j)=znD g cs k b j
 | 0,n,b,j=>rfl
 | k+1,n,none,j=>rfl
 |
  k+1,n,some b,j=>by
  rw[znD,itv];simp only[zos];rw[show (zeZ g cs b j)=((zeZ g cs b j).1,(zeZ g cs b j).2) from rfl,zuk g cs k];rfl
theorem zub (g:G) (cs:List Int) (most:Int):zgV g cs most=znD g cs most.toNat (some 0) 0:=zuk g cs _ _ _ _
theorem znh {g:G} {cs:List Int} {most:Int} {l:List Int} (hm:ziz g 8=true) (h0:zbi g=0) (hcs:cs.length≤1000000) (hmo:most≤65536) (hw:∀c∈cs,0≤c∧c < 4294967296) (ht:zgV g cs most=l) :
  zk Tryz.prog zba [.agg g.cells,encL 1 cW cs,.int .i64 most] (·=.tup [za l,.int .i64 0]):=by
 have:=zuV g cs most (zxz hm) hcs (.inl (by omega)) hw;rw[if_neg (fun h=>h h0),if_neg (by omega),ht] at this;exact this
theorem lend3 {H:AH} {a:AV} {n:Int} (h:a.flat=true):Lend H noR [a,.nilsl,.int .i64 n] [a,encL 1 cW [],.int .i64 n]:=.cons (zao h) (.cons (.nil0 _ _ _) (.cons (.int _ _ _) .nil))
theorem ztI {H:AH} {op next els:Int}:Lend H noR [.agg [.int .i64 op,.int .i64 0,.int .i64 0,.int .i64 next,.int .i64 els,.int .u32 0,.nilsl,.nilsl]] [.agg (St.cells (stX op next els []))]:=by
 refine .cons (.agg _ _ _ rfl fun i a b h1 h2=>?_) .nil
 match i with
 | 0=>cases h1;cases h2;exact .int _ _ _
 | 1=>cases h1;cases h2;exact .int _ _ _
 | 2=>cases h1;cases h2;exact .int _ _ _
 | 3=>cases h1;cases h2;exact .int _ _ _
 | 4=>cases h1;cases h2;exact .int _ _ _
 | 5=>cases h1;cases h2;exact .int _ _ _
 | 6=>cases h1;cases h2;exact .nil0 _ _ _
 | 7=>cases h1;cases h2;exact .nil0 _ _ _
 | i+8=>cases h1
theorem zmh (A:List Int):zk Tryz.prog zau [za A,za A] (·=.bool true):=by have:=zgr A A;rw[decide_eq_true rfl] at this;exact this
theorem zyu {g:G} {e:Nd} {most:Int} {v:AV} (hm:ziz g 8=true) (hs:zax e≤1000) (ht:zrw g e [] most=v):zk Tryz.prog ze5 [.agg (encN e),.agg g.cells,encL 1 cW [],.int .i64 most] (·=v):=by have:=zqf g (zxz hm) e hs [] most (by simp) (fun c hc=>by cases hc);rw[ht] at this;exact this
theorem zAr {H:AH} {D:Nat→Nat→Prop} {t:Bool} {kd bl lb:Int} {x:AV} {L:List Nd} (hx:Vw H [] nos D t x (encL 5 encN L)) (j:Nat) (hj:j < 5):Vw H [] nos D t ([AV.int .i64 kd,.int .i64 bl,.int .i64 lb,.nilsl,x].getD j .undef) ((encN (.mk ⟨kd,bl,lb⟩ [] L)).getD j .undef):=by
 rw[zeC]
 match j with
 | 0=>exact .int _ _ _
 | 1=>exact .int _ _ _
 | 2=>exact .int _ _ _
 | 3=>exact .nil0 _ _ _
 | 4=>exact hx
 | j+5=>omega
theorem aggN {H:AH} {D:Nat→Nat→Prop} {t:Bool} {kd bl lb:Int} {x:AV} {L:List Nd} (hx:Vw H [] nos D t x (encL 5 encN L)):Vw H [] nos D t (.agg [AV.int .i64 kd,.int .i64 bl,.int .i64 lb,.nilsl,x]) (.agg (encN (.mk ⟨kd,bl,lb⟩ [] L))):=by
 refine .agg _ _ _ (by rw[zbM];rfl) fun i a b h1 h2=>?_
 have hi:i < 5:=(Waq.1 h1).1;have h3:=zAr (kd:=kd) (bl:=bl) (lb:=lb) hx i hi;rw[Wau,Wau,h1,h2] at h3;exact h3
theorem lendI {H:AH} {f1 f2:Nat→Nat→AV} (h1:∀j,f1 0 j=[AV.int .i64 1,.int .i64 0,.int .i64 0,.nilsl,.nilsl].getD j .undef) (h20:∀j,f2 0 j=[AV.int .i64 4,.int .i64 0,.int .i64 0,.nilsl,.sl 5 1 f1].getD j .undef) (h21:∀j,f2 1 j=[AV.int .i64 2,.int .i64 0,.int .i64 0,.nilsl,.nilsl].getD j .undef) {g:AV} (hg:g.flat=true) {n:Int} :
  Lend H noR [.agg [AV.int .i64 1,.int .i64 0,.int .i64 0,.nilsl,.sl 5 2 f2],g,.nilsl,.int .i64 n] [.agg (encN zAL),g,encL 1 cW [],.int .i64 n]:=by
 refine .cons (aggN (.slf _ _ _ _ _ fun i j hi hj=>?_)) (.cons (zao hg) (.cons (.nil0 _ _ _) (.cons (.int _ _ _) .nil)))
 match i with
 |
  0 =>
  rw[h20];refine zAr (kd:=4) (bl:=0) (lb:=0) (L:=[ndX 1 []]) (.slf _ _ _ _ _ fun i j hi hj=>?_) j hj
  obtain rfl:i=0:=by have:i < 1:=hi;omega
  rw[h1];exact zAr (kd:=1) (bl:=0) (lb:=0) (L:=[]) (.nil0 _ _ _) j hj
 |
  1 =>
  rw[h21];exact zAr (kd:=2) (bl:=0) (lb:=0) (L:=[]) (.nil0 _ _ _) j hj
 | i+2=>omega
theorem Qp {p q:Prop}(k:q)(h:Im q p:=by(repeat first|simp(disch:=try exact dis1) only[evD,Nat.reduceBEq,Nat.reduceAdd,Nat.reduceLeDiff,Bl.cells,z6,zt,zaq,zaO,zaS,zbC,Bool.and_self,List.all_cons,List.all_nil] | ((with_reducible apply Im.i);intro _) | ((with_reducible apply Im.a);omega));exact Im.r):p:=h k
theorem zk2:zk Tryz.prog zcr [] (·=.bool true):=by
 refine fn_x zkZ rfl ?_;unfold zgL;have hB:=hBig;have e1:=zf0 (zl6 1 2);have e2:=zf0 (stX 6 3 0 []);have e3:=zf0 (stX 9 0 0 []);have e4:=zf0 (stX 6 1 0 []);have e5:=zf0 (zl6 2 3);have e6:=zf0 (stX 10 0 0 [])
 have d2:decide (((2:Nat):Int)=2)=true:=by decide
 have no:∀r q,¬noR r q:=fun _ _ h=>h
 (refine Qa ?_;intros)
 refine zc (zg (zlR 1 2) rfl) ?_
 (refine Qa ?_;intros)
 refine zc (zg e1 rfl) ?_
 (refine Qa ?_;intros)
 refine zc (zM e2 ztI (.inr no)) ?_
 (refine Qa ?_;intros)
 refine zc (zM e2 ztI (.inr no)) ?_
 (refine Qa ?_;intros)
 refine zc (zM e3 ztI (.inr no)) ?_
 (refine Qp ?_;intros)
 refine zc (zM e4 ztI (.inr no)) ?_
 (refine Qa ?_;intros)
 refine zc (zg (zlR 2 3) rfl) ?_
 (refine Qa ?_;intros)
 refine zc (zg e5 rfl) ?_
 (refine Qa ?_;intros)
 refine zc (zM e4 ztI (.inr no)) ?_
 (refine Qa ?_;intros)
 refine zc (zM e6 ztI (.inr no)) ?_
 (refine Qp ?_;intros)
 have hw0:∀c∈([]:List Int),0≤c∧c < 4294967296:=fun c hc=>by cases hc
 have g1:=znh (g:=gA) (cs:=[]) (most:=9) midA.1 zs8.1 (by decide) (by decide) hw0 zs8.2.1;have g2:=znh (g:=gA) (cs:=[3]) (most:=9) midA.1 zs8.1 (by decide) (by decide) (by simp) zs8.2.2.1;have g3:=znh (g:=gA) (cs:=[]) (most:=2) midA.1 zs8.1 (by decide) (by decide) hw0 zs8.2.2.2.1;have g4:=znh (g:=hA) (cs:=[0,0,1]) (most:=20) midA.2.1 hA_ok.1 (by decide) (by decide) (by simp) hA_ok.2;refine zc (zM g1 (lend3 rfl) (.inr no)) ?_
 (refine Qp ?_;intros)
 refine zc (zg g2 rfl) ?_
 (refine Qp ?_;intros)
 refine zc (zM g3 (lend3 rfl) (.inr no)) ?_
 (refine Qp ?_;intros)
 refine zc (zg g4 rfl) ?_
 (refine Qp ?_;intros)
 have p1:=zuw gA 9 (zxz midA.1) (by decide);rw[zs8.2.2.2.2] at p1;refine zc (zg p1 rfl) ?_
 (refine Qp ?_;intros)
 refine zc (zM e6 ztI (.inr no)) ?_
 (refine Qp ?_;intros)
 have n1:=zyu (g:=oneA) (e:=zAL) (most:=5) (v:=.tup [za [],.int .i64 15]) midA.2.2 (by decide +kernel) (by unfold zrw;rw[if_neg (fun h=>h zrX.1),if_neg (by decide),show Int.toNat 5=5 from rfl,zrX.2.1];rfl);have n2:=zyu (g:=oneA) (e:=ndX 2 []) (most:=5) (v:=.tup [za [0],.int .i64 0]) midA.2.2 (by decide +kernel) (by unfold zrw;rw[if_neg (fun h=>h zrX.2.2.1),if_neg (by decide),show Int.toNat 5=5 from rfl,zrX.2.2.2.1,zrX.2.2.2.2];rfl);refine zc (zM n1 (lendI (fun _=>rfl) (fun _=>rfl) (fun _=>rfl) rfl) (.inr no)) ?_
 (refine Qp ?_;intros)
 refine zc (zM n2 (.cons (aggN (.nil0 _ _ _)) (.cons (zao rfl) (.cons (.nil0 _ _ _) (.cons (.int _ _ _) .nil)))) (.inr no)) ?_
 (refine Qp ?_;intros)
 refine zc (zg (zmh [0,1,3]) rfl) ?_
 (repeat first|simp(disch:=try exact dis1) only[evD,Nat.reduceBEq,Nat.reduceAdd,Nat.reduceLeDiff,Bl.cells,z6,zt,zaq,zaO,zaS,zbC,Wx,Wl,Wo,zdU,za,d2,zaz]|with_reducible first|intro _|refine aJ ?_)
 refine zc (zg (zmh [0,2,3]) rfl) ?_
 (repeat first|simp(disch:=try exact dis1) only[evD,Nat.reduceBEq,Nat.reduceAdd,Nat.reduceLeDiff,Bl.cells,z6,zt,zaq,zaO,zaS,zbC,Wx,Wl,Wo,zdU,za,d2,zaz]|with_reducible first|intro _|refine aJ ?_)
 refine zc (zg (zmh [0,1]) rfl) ?_
 (repeat first|simp(disch:=try exact dis1) only[evD,Nat.reduceBEq,Nat.reduceAdd,Nat.reduceLeDiff,Bl.cells,z6,zt,zaq,zaO,zaS,zbC,Wx,Wl,Wo,zdU,za,d2,zaz]|with_reducible first|intro _|refine aJ ?_)
 refine zc (zg (zmh [0,1,2,1,2,1,3]) rfl) ?_
 (repeat first|simp(disch:=try exact dis1) only[evD,Nat.reduceBEq,Nat.reduceAdd,Nat.reduceLeDiff,Bl.cells,z6,zt,zaq,zaO,zaS,zbC,Wx,Wl,Wo,zdU,za,d2,zaz]|with_reducible first|intro _|refine aJ ?_)
 refine zc (zg (zmh [0,2,3]) rfl) ?_
 (repeat first|simp(disch:=try exact dis1) only[evD,Nat.reduceBEq,Nat.reduceAdd,Nat.reduceLeDiff,Bl.cells,z6,zt,zaq,zaO,zaS,zbC,Wx,Wl,Wo,zdU,za,d2,zaz]|with_reducible first|intro _|refine aJ ?_)
 refine zc (zg (zmh [0]) rfl) ?_
 (repeat first|simp(disch:=try exact dis1) only[evD,Nat.reduceBEq,Nat.reduceAdd,Nat.reduceLeDiff,Bl.cells,z6,zt,zaq,zaO,zaS,zbC,Wx,Wl,Wo,zdU,za,d2,zaz]|with_reducible first|intro _|refine aJ ?_)
 exact⟨_,.bool _ _,rfl⟩
theorem zt4 {g:G} {cs:List Int} {most:Int} (h:znU g cs most=true):midG g∧g.blocks.length≤20∧cs.length≤40∧most≤60:=by unfold znU at h;rw[Wc,Wc,Wc,decide_eq_true_eq,decide_eq_true_eq,decide_eq_true_eq] at h;exact⟨zp0 h.2.1,h.1,h.2.2.1,h.2.2.2⟩
theorem zs9 {g:G} {cs:List Int} {b j:Nat} (h:(zeZ g cs b j).1=none):(zy (blkG g b).stmts).length=0:=by
 unfold zeZ at h;simp only at h;split at h
 · assumption
 · split at h<;>cases h
theorem zt9 {g:G} (hg:OkG g) {cs:List Int} {b j b':Nat} (hb:b < g.blocks.length) (h:(zeZ g cs b j).1=some b'):(b':Int)∈zy (blkG g b).stmts∧b' < g.blocks.length:=by
 have hbk:blkG g b=g.blocks[b]:=by simp[blkG,hb]
 have htg:=hg.tgt _ (Wg hb);unfold zeZ at h;rw[hbk] at h ⊢;simp only at h;generalize zy g.blocks[b].stmts=T at h htg ⊢
 have key:∀i,i < T.length→some (T.getD i 0).toNat=some b'→(b':Int)∈T∧b' < g.blocks.length:=fun i hi e=>by have h1:=htg _ (zmm hi);simp only[WC] at e;rw[←e,WK h1.1];exact⟨zmm hi,by omega⟩
 split at h
 · cases h
 ·
  rename_i hT;split at h
  · exact key 0 (by omega) h
  · have hpv:=zoq (cs:=cs) (j:=j) (n:=T.length) (by omega);exact key _ (by omega) h
theorem zvk {g:G} {cs:List Int} {n j:Nat}:znD g cs n none j=[]:=by cases n<;>rw[znD]
theorem zoe (g:G) (p:List Int) (b:Nat):zc0 g (p++[(b:Int)])=zy (blkG g b).stmts:=by unfold zc0;simp
theorem zwE {g:G} (hg:OkG g) (cs:List Int):∀(n:Nat) (p:List Int) (b j:Nat),b < g.blocks.length→(p++[(b:Int)])++znD g cs n (zeZ g cs b j).1 (zeZ g cs b j).2∈allP g n (p++[(b:Int)])
 | 0,p,b,j,hb=>by rw[znD,allP];simp
 |
  n+1,p,b,j,hb=>by
  rw[allP,zoe]
  cases hs:(zeZ g cs b j).1 with
  |
   none =>
   rw[if_pos (zs9 hs),zvk];simp
  |
   some b' =>
   obtain⟨h1,h2⟩:=zt9 hg hb hs
   have hne:¬(zy (blkG g b).stmts).length=0:=fun h=>by rw[WM h] at h1;cases h1
   rw[if_neg hne,znD];refine Wao.2 ⟨b',zhC.2 (by rw[zoe];exact h1),?_⟩;have ih:=zwE hg cs n (p++[(b:Int)]) b' (zeZ g cs b j).2 h2;rw[List.append_assoc _ [(b':Int)]] at ih;exact ih
theorem zrn:∀ {l:List Int} {lo hi:Int},l.Pairwise (· < ·)→(∀x∈l,lo≤x∧x < hi)→l.length≤(hi - lo).toNat
 | [],lo,hi,_,_=>We _
 |
  a::l,lo,hi,h,hr=>by
  have h':=List.pairwise_cons.1 h;have ha:=hr a (by simp);have ih:=zrn (l:=l) (lo:=a+1) (hi:=hi) h'.2 (fun x hx=>⟨by have:=h'.1 x hx;omega,(hr x (by simp[hx])).2⟩);rw[Wk];omega
theorem zpn {f:Int→List (List Int)} {m:Nat}:∀ {l:List Int},(∀b∈l,(f b).length≤m)→(l.flatMap f).length≤l.length * m
 | [],_=>We _
 |
  a::l,h=>by
  rw[Wah,WE,Wk,WL];have h1:=h a (by simp);have h2:=zpn (l:=l) (fun b hb=>h b (by simp[hb]));omega
theorem zwo {g:G} (hg:OkG g) (p:List Int):∀x∈zc0 g p,0≤x∧x < (g.blocks.length:Int):=by
 unfold zc0;generalize (p.getLast?.getD 0).toNat=k
 by_cases hk:k < g.blocks.length
 ·
  have:blkG g k=g.blocks[k]:=by simp[blkG,hk]
  rw[this];exact hg.tgt _ (Wg hk)
 ·
  intro x hx
  have:(blkG g k).stmts=[]:=by simp[blkG,hk]
  rw[this] at hx;simp[zy] at hx
theorem zu2 {g:G} (hg:OkG g) (h2:g.blocks.length≤2):∀(n:Nat) (p:List Int),(allP g n p).length≤2 ^ n
 | 0,p=>by rw[allP];simp
 |
  n+1,p=>by
  rw[allP];split
  · exact Nat.one_le_two_pow
  ·
   have h1:=zpn (f:=fun b=>allP g n (p++[b])) (m:=2 ^ n) (l:=zqS g p) (fun b _=>zu2 hg h2 n _)
   have h3:=zrn (l:=zqS g p) (lo:=0) (hi:=2) (zoE (zdC _)) (fun x hx=>by
    have:=zwo hg p x (zhC.1 hx)
    omega)
   have h4:(zqS g p).length * 2 ^ n≤2 * 2 ^ n:=Wac _ (by omega);rw[Nat.pow_succ];omega
theorem zBy (g:G):∀n,Asc (lvl g n)
 | 0=>by simp[lvl,Asc]
 | n+1=>zq8 g n [0]
theorem zvt (g:G) {most:Int} (h0:zbi g=0) (hm:most≤65536):ziC g most=if (lvl g most.toNat).length≤1024 then lvl g most.toNat else []:=by rw[zvP,if_neg (fun h=>h h0),if_neg (by omega)];have h:=zjg g most.toNat 0 (by simp[lvl]);rw[WH] at h;exact h
theorem zud {g:G} (hg:OkG g) (h0:zbi g=0) (cs:List Int) {most:Int} (hm:most≤8):Asc (ziC g most)∧(ziC g most=[]∨zgV g cs most∈ziC g most)∧(g.blocks.length≤2→ziC g most≠[]):=by
 rw[zvt g h0 (by omega)];have hl:(lvl g 0).length≤(lvl g (0+most.toNat)).length:=zqN g 0 most.toNat;rw[WH] at hl
 have hin:zgV g cs most∈lvl g most.toNat:=by
  rw[zub]
  cases hk:most.toNat with
  | zero=>rw[znD];simp[lvl]
  |
   succ m =>
   rw[znD];exact zwE hg cs m [] 0 0 hg.pos
 refine⟨?_,?_,fun h2=>?_⟩
 ·
  split
  · exact zBy g _
  · simp[Asc]
 ·
  split
  · exact .inr hin
  · exact .inl rfl
 ·
  rw[if_pos]
  · intro h;rw[h] at hin;cases hin
  ·
   cases hk:most.toNat with
   | zero=>simp[lvl]
   |
    succ m =>
    refine Wh (zu2 hg h2 m [0]) (Wh (Nat.pow_le_pow_right (by decide) (show m≤7 by omega)) (by decide))
theorem asc_ne {l:List (List Int)} (h:Asc l) {i k:Nat} (hi:i < l.length) (hk:k < i):l[i]≠l[k]:=fun e=>by have h1:=WU.1 h k i (by omega) hi hk;rw[e,zfb] at h1;cases h1
end Go.Ab
