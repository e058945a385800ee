/-
  Part 14 of the proof: how the calls of this program run, over values instead of memory, and what each function computes.
-/
import Derived.Test.YtjcbhpmmngfmeaaGreatKm
set_option maxRecDepth 100000
set_option linter.unusedVariables false
set_option linter.unusedSimpArgs false
set_option linter.unnecessarySimpa false
set_option linter.unusedSectionVars false
open List renaming mem_singleton→Wa,length_map→We,getD→Wf,mem_cons→Wi,length_cons→Wk,getElem_mem→Wl,length_nil→Wn,mem_map→Wp,getD_cons_zero→Wq,getD_cons_succ→Wr,cons_append→Wu,nil_append→Wv,getElem?_eq_getElem→Ww,length_append→Wy,mem_append→WB,take_of_length_le→WC,all_eq_true→WD,mem_iff_getElem→WG,ext_getElem→WH,getElem_range→WI,length_range→WJ,eq_nil_of_length_eq_zero→WK,count_eq_zero→WL,length_take→WM,getElem?_eq_none→WO,getElem?_modify→WP,any_append→WU,nodup_nil→WW,range→W0,getElem_map→W3,append_nil→W5,mem_range→W6,nodup_cons→W7,getElem_take→W8,mem_or_eq_of_mem_set→W9,getElem?_concat_length→Waa,getElem?_mapIdx→Wac,pairwise_iff_getElem→Wad,not_mem_nil→Wae,length_singleton→Wag,take_add_one→Wah,flatMap_append→Wai,all_eq_false→Waj,mem_cons_of_mem→Wak,mem_erase_of_ne→Wal,mem_of_getLast?→Wan,dropLast_subset→Wao,length_drop→Waq
open Nat renaming le_refl→Wc,zero_le→Wg,beq→Wh,le_trans→Wm,zero_add→WR,lt_or_ge→WS,succ_mul→WY,lt_succ_self→Wap
open Bool renaming and_eq_true→Wd,false_and→Ws,true_and→Wt,eq_iff_iff→WV,false_eq_true→WZ,not_eq_true'→Wam
open Int renaming le_refl→Wj,toNat_of_nonneg→WX,toNat_natCast→Waf
open Option renaming bind_some→Wo,map_some→WE,map_eq_map→WQ,map_eq_some_iff→Wab
open Option.some renaming injEq→Wx
open Eq renaming trans→Wz
open Prod renaming fst→WA
open Prod.mk renaming injEq→WF
open And renaming intro→WN
namespace Go.Ab
open Go.RowKit Go.Proofs
def StB (b:Nat) (p:PC):Prop:=∀k m,tlen p k=some m→m≤b
theorem StB.of_st {b:Nat} {p q:PC} (h:StB b p) (e:q.st=p.st):StB b q:=fun k m hm=>h k m (by unfold tlen at hm ⊢;rw[←e];exact hm)
theorem zgM {b:Nat} {p:PC} {s:PSt} (h:StB b p) (hs:∀l,s.to=some l→l.length≤b):StB b (addP p s):=fun k m hm=>by
 by_cases hk:k < p.st.length
 · exact h k m (by rw[←zbO (p:=p) (s:=s) (Wc _) k hk];exact hm)
 ·
  unfold tlen addP at hm;simp only at hm
  by_cases hk2:k=p.st.length
  · subst hk2;simp only[Waa,Wo] at hm;obtain⟨l,h1,h2⟩:=Wab.1 hm;rw[←h2];exact hs l h1
  · rw[WO (by simp;omega)] at hm;cases hm
theorem zzk {b:Nat} {p:PC} {k i:Nat} {v:Int} (h:StB b p):StB b (setTo p k i v):=fun j m hm=>h j m (by rw[←ziq (b:=j+1) (p:=p) (k:=k) (i:=i) (v:=v) j (by omega)];exact hm)
theorem zqh {b:Nat} {p:PC} {ks:List Int} {v:Int} (h:StB b p):StB b (putAll p ks v):=fun j m hm=>h j m (by rw[←zfe (b:=j+1) (p:=p) (ks:=ks) (v:=v) j (by omega)];exact hm)
theorem zB0 {b:Nat} {p:PC} {k n:Nat} {v:Int} (h:StB b p) (hk:tlen p k=some n) (hn:n+1≤b):StB b (appTo p k v):=fun j m hm=>by
 by_cases hj:j=k
 · subst hj;rw[znR hk] at hm;cases hm;exact hn
 ·
  refine h j m ?_;rw[←hm];unfold tlen appTo;simp only[WP]
  cases p.st[j]? with
  | none=>rfl
  |
   some s =>
   simp only[WQ,WE,Wo];rw[if_neg (Ne.symm hj)]
theorem zta {b:Nat} {q:PC} {top:Int} (h:StB b q) (hb:1≤b):StB b (zea q top):=by unfold zea;refine zqh (zgM (h.of_st rfl) fun l e=>?_);cases e;exact hb
mutual
theorem zma:∀(n:Nd) (p:PC) (b:Nat),StB b p→zaJ n+2≤b→StB b (zaR n p)
 |
  .mk f c l,p,b,h,hb=>by
  rw[zaJ] at hb;rw[zaR];split
  · exact zkb l p b h (by omega)
  split
  · exact zgM h fun l e=>by cases e
  split
  ·
   simp only
   have h1:StB b (za3 p):=zgM h fun l e=>by cases e;simp
   have h2:tlen (za3 p) p.st.length=some 0:=by unfold tlen za3 addP;simp
   have h3:=zl7 l;exact zqh (zx0 p.st.length l (za3 p) [] b 0 h1 (by omega) h2 (by simp[za3,addP]) (by omega))
  split
  · exact zta (zkb l (zbu p p.st.length) b (h.of_st rfl) (by omega)) (by omega)
  split
  ·
   simp only
   have h1:StB b (zeV p f.block):=zgM (zgM h fun l e=>by cases e) fun l e=>by cases e;simp;omega
   exact zzk (zta (zkb l (zbu (zeV p f.block) p.st.length) b (h1.of_st rfl) (by omega)) (by omega))
  split
  · exact StB.of_st (p:=zaM p 0) (zgM h fun l e=>by cases e;simp;omega) rfl
  split
  · exact zgM h fun l e=>by cases e;simp;omega
  split
  · exact StB.of_st (p:=zaM p 0) (zgM h fun l e=>by cases e;simp;omega) rfl
  split
  · exact h.of_st rfl
  split
  · exact zgM h fun l e=>by cases e
  · exact h
theorem zkb:∀(l:List Nd) (p:PC) (b:Nat),StB b p→zaj l+2≤b→StB b (zaO l p)
 | [],p,b,h,hb=>by rw[zaO];exact h
 |
  n::l,p,b,h,hb=>by
  rw[zaj] at hb;rw[zaO];exact zkb l _ b (zma n p b h (by omega)) (by omega)
theorem zx0 (at':Nat):∀(l:List Nd) (p:PC) (ends:List Int) (b m:Nat),StB b p→zaj l+2≤b→tlen p at'=some m→at' < p.st.length→m+l.length≤b→StB b (brP at' l p ends).1
 | [],p,ends,b,m,h,hb,ht,hl,hm=>by rw[brP];exact h
 |
  n::l,p,ends,b,m,h,hb,ht,hl,hm=>by
  rw[zaj] at hb;rw[brP];rw[Wk] at hm
  have e1:at' < (appTo p at' p.st.length).st.length:=by simpa [appTo] using hl
  have e2:=(zcc n (appTo p at' p.st.length)).keep.len;have h1:=zma n _ b (zB0 h ht (v:=(p.st.length:Int)) (by omega)) (by omega)
  have h2:StB b (zaM (zaR n (appTo p at' p.st.length)) 0):=zgM h1 fun l e=>by cases e;simp;omega
  have h3:tlen (zaM (zaR n (appTo p at' p.st.length)) 0) at'=some (m+1):=by rw[show tlen (zaM (zaR n (appTo p at' p.st.length)) 0) at'=tlen (zaR n (appTo p at' p.st.length)) at' from zbO (b:=at'+1) (by omega) at' (by omega),zeL n _ (at'+1) (by omega) at' (by omega)];exact znR ht
  exact zx0 at' l _ _ b (m+1) h2 (by omega) h3 (by simp[zaM,addP];omega) (by omega)
end
def p0:PC:=⟨[],[],[],[]⟩
def g0:Gn:=⟨0,0,[],fun _=>0,fun _=>[],fun _=>0,fun _=>[],fun _=>0,fun _=>[]⟩
theorem ok0:OkC p0 g0:=⟨fun k h=>(by cases h),fun d h=>(by cases h),fun c hc=>(by cases hc),fun d x hx=>(by cases hx)⟩
theorem zCV:TailOk 8 []:=⟨Wc _,fun r o h=>(by cases h),trivial⟩
def zfp (e:Nd):PC:=addP (zaR e p0) ⟨2,0,none⟩
def zfW (got:List (Int × Int)) (sel:List Nat) (k:Nat):Bool:=sel.any fun i=>decide ((got.getD i (0,0)).1=(k:Int))
def zcs (e:Nd):PC:=fixK (zfp e) fun k:Nat=>decide ((k:Int)∈(zfp e).got.map WA)
def zCF:Option (List Int)→AV
 | none=>.nilsl
 | some l=>za l
def cPs (s:PSt):List AV:=[.int .i64 s.kind,.int .i64 s.block,zCF s.to]
def zqP (l:List PSt):AV:=encP 4 [encL 3 cPs l,.undef,.undef,.undef]
theorem zBA {M b:Nat} {p:PC} {γ:Gn} {T:AH} (hok:OkC p γ) (hM:p.st.length≤M) (hM2:M≤1000000) (hb:StB b p) (hb2:b≤1000000):Frz (cH M p γ T) (.ptr 0 0 0 0 0) (zqP p.st):=by
 have hB:=hBig
 refine .frzp _ 0 0 0 0 0 4 4 _ _ trivial rfl (by simp) (by simp) fun j hj=>?_
 match j with
 |
  0 =>
  refine .frz _ 1 0 γ.gs 0 p.st.length 3 (stC γ.gt p.st) _ trivial rfl (by omega) (by simp[zcx]) fun i j hi hj=>?_
  rw[WR,zrk hi];have e:(p.st.map cPs).getD i []=cPs p.st[i]:=zp (f:=cPs) hi;show Vw _ _ _ _ _ _ (((p.st.map cPs).getD i []).getD j .undef);rw[e];unfold cS cPs
  match j with
  | 0=>exact .int _ _ _
  | 1=>exact .int _ _ _
  |
   2 =>
   show Vw _ _ _ _ _ (toV γ.gt i p.st[i].to) (zCF p.st[i].to)
   cases ht:p.st[i].to with
   | none=>exact .nilsl _
   |
    some l =>
    have htl:=hok.to i hi l ht;have hlb:=hb i l.length (by unfold tlen;rw[Ww hi,Wo,ht];rfl)
    refine .frz _ 5 (i+1) (γ.gt i) 0 l.length 1 ((γ.tl i).map cI) _ trivial (zoW rfl (by omega)) (by omega) (by rw[htl];simp) fun a c ha hc=>?_
    rw[WR,htl,zp (f:=cI) ha]
    match c with
    | 0=>exact .int _ _ _
    | c+1=>exact absurd (show c+1 < 1 from hc) (by omega)
  | j+3=>omega
 | 1=>exact .undef _ _
 | 2=>exact .undef _ _
 | 3=>exact .undef _ _
 | j+4=>omega
theorem zrz:∀(n:Nat) (l:List Nat),l.Nodup→(∀i∈l,i < n)→l.length≤n
 | 0,[],_,_=>Wc _
 | 0,a::l,_,h=>by have:=h a (by simp);omega
 |
  n+1,l,hn,h=>by
  have h1:=zrz n (l.erase n) (hn.erase n) fun i hi=>by
   have h2:=h i (List.mem_of_mem_erase hi)
   have h3:i≠n:=fun e=>by subst e;exact(List.Nodup.not_mem_erase hn) hi
   omega
  have h4:=List.length_erase (a:=n) (l:=l)
  split at h4<;>omega
def sig0:Nat→Nat→Option (Nat × Nat × Nat):=fun r q=>if r=0 then some (2,q,0) else if r=3 then some (0,q,0) else if r=4 then some (1,q,0) else none
theorem ent0 {M:Nat} {K:Kn} {c:Nat→AV} (h1:K.get 1=.iptr 5 c) (h3:K.get 3=.ptr 2 0 0 0 0) :
  Ent 0 K [(0,.row 3 [[.int .i64 0,.undef,.undef]] 0),(1,.row 3 [[.int .i64 0,.undef,.undef]] 0),(2,.row 4 [[.nilsl,.nilsl,.mp 0 0,.mp 1 0]] 0)] 3 [(1,.iptr 5 c),(3,.ptr 0 0 0 0 0)] (cH M p0 g0 []) 8:=by
 refine Ent.view sig0 (fun _ _=>False) ⟨Wg _,fun r q h=>absurd h (by omega),?_,fun _ _ _ _ _ _ h=>h,?_,?_,?_⟩ ?_
 ·
  intro r1 q1 r2 q2 r q d1 d2 h1 h2;unfold sig0 at h1 h2
  (repeat' split at h1)<;>(repeat' split at h2)<;>first | (cases h1;done) | (cases h2;done) | (simp only[Wx,WF] at h1 h2;omega)
 ·
  intro r q x h;unfold sig0 at h
  (repeat' split at h)<;>first|omega|cases h
 ·
  intro r o h
  rcases WS r 8 with h1|h1
  · exact h1
  · rw[zjQ h1] at h;cases h
 ·
  intro r q sz els g h;unfold AH.get at h;obtain⟨o,ho,hp⟩:=Option.bind_eq_some_iff.1 h;have flat:∀ {c n:List (List AV)},True:=trivial
  match r with
  |
   0 =>
   cases ho
   cases q with
   |
    zero =>
    cases hp;refine .inl ⟨2,0,0,[[.nilsl,.nilsl,.mp 0 0,.mp 1 0]],rfl,rfl,⟨rfl,fun i c hi=>?_⟩⟩
    cases i with
    | succ i=>simp at hi
    |
     zero =>
     cases hi;refine⟨_,rfl,rfl,fun j a b ha hb=>?_⟩
     match j with
     | 0=>cases ha;cases hb;exact .new 1 0 3 rfl rfl
     | 1=>cases ha;cases hb;exact .new 2 0 1 rfl rfl
     | 2=>cases ha;cases hb;exact .mp 0 0 3 0 rfl
     | 3=>cases ha;cases hb;exact .mp 1 0 4 0 rfl
     | j+4=>simp at ha
   | succ q=>cases hp
  |
   1 =>
   cases ho
   cases q with
   | zero=>cases hp;exact .inr ⟨rfl,rfl,rfl⟩
   | succ q=>cases hp
  |
   2 =>
   cases ho
   cases q with
   | zero=>cases hp;exact .inr ⟨rfl,rfl,rfl⟩
   | succ q=>cases hp
  |
   3 =>
   cases ho
   cases q with
   | zero=>cases hp;exact .inl ⟨0,0,0,_,rfl,rfl,RowV.of_flat (by intro c hc;rw[Wa.1 hc];rfl)⟩
   | succ q=>cases hp
  |
   4 =>
   cases ho
   cases q with
   | zero=>cases hp;exact .inl ⟨1,0,0,_,rfl,rfl,RowV.of_flat (by intro c hc;rw[Wa.1 hc];rfl)⟩
   | succ q=>cases hp
  |
   5 =>
   cases ho
   cases q with
   | zero=>cases hp
   |
    succ q =>
    simp only[AObj.part,zll] at hp;split at hp
    · cases hp;exact .inr ⟨rfl,rfl,rfl⟩
    · cases hp
  |
   6 =>
   cases ho
   cases q with
   | zero=>cases hp
   |
    succ q =>
    simp only[AObj.part,zll] at hp;split at hp
    · cases hp;exact .inr ⟨rfl,rfl,rfl⟩
    · cases hp
  |
   7 =>
   cases ho
   cases q with
   | zero=>cases hp
   |
    succ q =>
    simp only[AObj.part,zll] at hp;split at hp
    · cases hp;exact .inr ⟨rfl,rfl,rfl⟩
    · cases hp
  |
   r+8 =>
   rw[zjQ (by omega)] at ho;cases ho
 ·
  intro i;simp only[Kn.get]
  cases hb:Wh 1 i with
  | true=>rw[←zU hb,h1];exact .iptr _ _ _
  |
   false =>
   simp only[cond_false]
   cases hb2:Wh 3 i with
   | true=>rw[←zU hb2,h3];exact .ptr 2 0 0 0 0 0 0 0 0 rfl rfl
   | false=>exact .undef _ _
theorem zyN {r q:Nat} {l:List (Int × Int)} {H:AH} {nx:Nat}:zzG r q (some (.row 3 (mpC l) 0)) H nx=⟨True,True,.it nx,H.set nx 0 (.row 1 [[.mp r q],[.int .i64 l.length],[.int .i64 l.length]] 0),nx+1⟩:=by unfold mpC zzG;simp
theorem zo9 {M:Nat} {p:PC} {γ:Gn} {N sz g:Nat} {els:List (List AV)} (hN:8≤N):(cH M p γ [(N,.row sz els g)]).get N 0=some (.row sz els g):=by unfold AH.get;rw[zjQ hN];simp only[AH.look,zK,cond_true];rfl
theorem zuj {M:Nat} {p:PC} {γ:Gn} {N sz g sz2 g2:Nat} {els els2:List (List AV)} (hN:8≤N):(cH M p γ [(N,.row sz els g)]).set N 0 (.row sz2 els2 g2)=cH M p γ [(N,.row sz2 els2 g2)]:=by unfold AH.set;rw[zjQ hN];simp only[AH.look,zK,cond_true];unfold cH;simp only[AH.put,zQ (show 0≠N by omega),zQ (show 1≠N by omega),zQ (show 2≠N by omega),zQ (show 3≠N by omega),zQ (show 4≠N by omega),zQ (show 5≠N by omega),zQ (show 6≠N by omega),zQ (show 7≠N by omega),cond_false,zK,cond_true,AObj.upd]
theorem zyR {p:PC} {done:Nat→Bool} (h:∀k,done k=false):fixK p done=p:=by
 obtain⟨st,lp,lab,got⟩:=p;unfold fixK;simp only[PC.mk.injEq,and_true];apply List.ext_getElem?;intro j;simp only[Wac,h]
 cases st[j]? <;> rfl
theorem zx6 {l:List (Int × Int)} (hn:(l.map WA).Nodup) {i j:Nat} (hi:i < l.length) (hj:j < l.length) (h:l[i].1=l[j].1):i=j:=by
 have h5:=Wad.1 hn
 refine Classical.byContradiction fun hne=>?_
 rcases WS j i with hlt|hge
 · exact h5 j i (by simpa using hj) (by simpa using hi) hlt (by simpa using h.symm)
 · exact h5 i j (by simpa using hi) (by simpa using hj) (by omega) (by simpa using h)
theorem ztA {got:List (Int × Int)} {sel:List Nat} {i k:Nat} (hi:i < got.length) (hk:(k:Int)=got[i].1):zfW got (sel++[i])=fun j=>zfW got sel j||(j == k):=by
 funext j
 unfold zfW;rw[WU]
 congr 1
 simp only[List.any_cons,List.any_nil,Bool.or_false]
 have e:got.getD i (0,0)=got[i]:=by simp[Wf,hi]
 rw[e,←hk]
 by_cases h:j=k
 · subst h;simp
 ·
  have h2:¬(k:Int)=(j:Int):=by omega
  simp[h,h2]
theorem zwO {got:List (Int × Int)} (hn:(got.map WA).Nodup) {sel:List Nat} (hs:∀i∈sel,i < got.length) {i k:Nat} (hi:i < got.length) (hk:(k:Int)=got[i].1) (hns:i∉sel):zfW got sel k=false:=by
 unfold zfW;rw[List.any_eq_false];intro x hx;have hxl:=hs x hx
 have e:got.getD x (0,0)=got[x]:=by simp[Wf,hxl]
 rw[e,hk];simp only[decide_eq_true_eq];intro h;exact hns (zx6 hn hxl hi h▸hx)
theorem zwd {got:List (Int × Int)} {sel:List Nat} (h:∀i,i < got.length→i∈sel) (hs:∀i∈sel,i < got.length):zfW got sel=fun k:Nat=>decide ((k:Int)∈got.map WA):=by
 funext k
 unfold zfW;rw[WV,List.any_eq_true,decide_eq_true_eq];constructor
 ·
  rintro⟨i,hi,h2⟩;have hil:=hs i hi
  have e:got.getD i (0,0)=got[i]:=by simp[Wf,hil]
  rw[e,decide_eq_true_eq] at h2;rw[←h2];exact Wp.2 ⟨_,Wl hil,rfl⟩
 ·
  intro hk;obtain⟨x,hx,h2⟩:=Wp.1 hk;obtain⟨i,hi,rfl⟩:=WG.1 hx;refine⟨i,h i hi,?_⟩
  have e:got.getD i (0,0)=got[i]:=by simp[Wf,hi]
  rw[e,decide_eq_true_eq];exact h2
theorem zDi {b:Nat} {p:PC} {done:Nat→Bool} (h:StB b p):StB b (fixK p done):=fun k m hm=>h k m (by
 rw[←hm];unfold tlen fixK;simp only[Wac]
 cases p.st[k]? with
 | none=>rfl
 |
  some s =>
  simp only[WE,Wo];split
  ·
   simp only
   cases s.to with
   | none=>rfl
   | some l=>simp
  · rfl)
theorem zlz (e:Nd) (hs:zaJ e≤1000) (hst:zd5 e false=false):zr Tryz.prog zd3 [.agg (encN e)] (·=zqP (zcs e).st):=by
 refine fn_x zlA rfl ?_;unfold zgU;have hB:=hBig
 (refine Qv ?_;intros)
 have hM:4 * zaJ e+10≤1000000:=by omega
 have h1:=zcc e p0;have hlen:=h1.len;have hgl:=h1.got;have hp0:p0.st.length=0∧p0.lab.length=0∧p0.got.length=0∧p0.lp.length=0:=⟨rfl,rfl,rfl,rfl⟩;obtain⟨z1,z2,z3,z4⟩:=hp0
 refine zph [(1,.iptr 5 fun j=>(encN e).getD j .undef),(3,.ptr 0 0 0 0 0)] (cH (4 * zaJ e+10) p0 g0 []) 8 fun _=>⟨ent0 rfl rfl,?_⟩
 unfold zep
 (refine Qv ?_;intros)
 refine(zq4 (4 * zaJ e+10) hM _ e (Wc _) p0 g0 [] 8 ok0 (fun x hx=>by cases hx) zCV (by omega) (by omega) (by omega) hst).mono ?_;rintro v H N1 ⟨hN1,γ1,ok1,sx1,rfl⟩
 (refine Qa ?_;intros)
 have hT1:=zCV.up hN1;refine(zc8 (4 * zaJ e+10) (zaR e p0) γ1 [] N1 2 0 ok1 hT1 (by omega)).mono ?_;rintro v H N2 ⟨hN2,rfl,ok2,rfl⟩;have hT2:=zCV.up (Wm hN1 hN2);have hgo:zic (zfp e):=(zoG e p0 ⟨WW,fun x hx=>by cases hx⟩).keep (zb3 _ _) rfl
 have hbb:StB (zaJ e+2) (zfp e):=zgM (zma e p0 (zaJ e+2) (fun k m hm=>by unfold tlen p0 at hm;simp at hm) (Wc _)) fun l e=>by cases e
 have hsl:(zfp e).st.length≤4 * zaJ e+10:=by simp[zfp,addP];omega
 have hgl2:(zfp e).got.length≤1000000:=by have:(zfp e).got.length=(zaR e p0).got.length:=rfl;omega
 unfold zcs
 change OkC (zfp e) (addG γ1) at ok2
 show zpJ _ _ _ _ _ _ _ (cH (4 * zaJ e+10) (zfp e) (addG γ1) []) N2;generalize zfp e=q at *;generalize addG γ1=γ2 at *;obtain⟨n0,n1,n2,n3,n4,n5,n6,n7⟩:=ne8 hT2.eight;simp only[cH]
 (repeat first|simp(disch:=try exact dis1) only[evD,Nat.reduceBEq,Nat.reduceAdd,Nat.reduceLeDiff,evM,zyN,n0,n1,n2,n3,n4,n5,n6,n7,AH.look]|with_reducible first|intro _|refine aJ ?_)
 have ez:fixK q (zfW q.got [])=q:=zyR (fun _=>rfl)
 refine zq (fun s:List Nat × Gn=>([(3,.ptr 0 0 0 0 0),(20,.it N2)],cH (4 * zaJ e+10) (fixK q (zfW q.got s.1)) s.2 [(N2,.row 1 ([.mp 4 0]::[.int .i64 q.got.length]::[.int .i64 q.got.length]::s.1.map fun i:Nat=>[.int .i64 (i:Int)]) 0)])) (N2+1)
  (fun s=>s.1.Nodup∧(∀i∈s.1,i < q.got.length)∧OkC (fixK q (zfW q.got s.1)) s.2) (fun s=>q.got.length - s.1.length) ([],γ2) ⟨WW,fun i hi=>(by cases hi),?_⟩ ?_ ?_
 · simp only[ez];exact ok2
 ·
  have hT3:TailOk (N2+1) [(N2,.row 1 ([.mp 4 0]::[.int .i64 q.got.length]::[.int .i64 q.got.length]::([]:List Nat).map fun i:Nat=>[.int .i64 (i:Int)]) 0)]:=hT2.put 1 _ (by
   intro c hc
   have h4:Nat.blt 4 (N2+1)=true:=by rw[Nat.blt_eq];omega
   simp only[List.map_nil,Wi,Wae,or_false] at hc
   rcases hc with rfl|rfl|rfl<;>simp[AV.lt0,h4])
  refine Ent.low (by omega) ?_ (zk5 (by simp only[ez];exact ok2) hT3) ?_
  ·
   simp only[ez]
   exact fun _ _ h=>h
  · refine⟨⟨rfl,?_⟩,⟨rfl,?_⟩,trivial⟩<;>simp[AV.lt1,AV.lt0]
 ·
  rintro⟨sel,γ3⟩ ⟨hnd,hsl2,ok3⟩ wf;simp only at hnd hsl2 ok3 ⊢;clear wf;unfold zew;have hcnt:=zrz q.got.length sel hnd hsl2
  (refine Qa ?_;intros)
  refine zBZ (l:=q.got) (sel:=sel) (zo9 hT2.eight) rfl (Wj _) rfl ?_ ?_
  ·
   intro hall
   (refine Qa ?_;intros)
   unfold zeD
   (repeat first|simp(disch:=try exact dis1) only[evD,Nat.reduceBEq,Nat.reduceAdd,Nat.reduceLeDiff,zgO]|with_reducible first|intro _|refine aJ ?_)
   rw[←zwd hall hsl2];exact⟨_,zBA ok3 (by simp[fixK];omega) hM (zDi hbb) (by omega),rfl⟩
  ·
   intro i hi hns;rw[zuj hT2.eight]
   have hment:∀nx,xopR .ment [.it N2] (cH (4 * zaJ e+10) (fixK q (zfW q.got sel)) γ3 [(N2,.row 1 ([.mp 4 0]::[.int .i64 q.got.length]::[.int .i64 q.got.length]::(sel++[i]).map fun i:Nat=>[.int .i64 (i:Int)]) 0)]) nx=_:=fun nx=>zCS (zo9 hT2.eight) rfl hi
   (repeat first|simp(disch:=try exact dis1) only[evD,Nat.reduceBEq,Nat.reduceAdd,Nat.reduceLeDiff,hment]|with_reducible first|intro _|refine aJ ?_)
   obtain⟨k,hkk,hto⟩:∃k:Nat,(k:Int)=q.got[i].1∧zkq q k 1:=⟨q.got[i].1.toNat,WX (hgo.2 q.got[i] (Wl hi)).1,(hgo.2 q.got[i] (Wl hi)).2⟩
   have hlk:zoi q.lab q.got[i].2=zlK q k:=by rw[zlK,hkk,zyD hgo.1 hi]
   have hdn:=zwO hgo.1 hsl2 hi hkk hns;have hds:=ztA (sel:=sel) hi hkk
   have hfl:(fixK q (zfW q.got sel)).st.length=q.st.length:=by simp[fixK]
   obtain⟨hk,lst,h1',h2',h3',h4'⟩:=ziH (M:=4 * zaJ e+10) ok3 (zAE.to _ _ hto) (by omega)
   have hslen:(stC γ3.gt (fixK q (zfW q.got sel)).st).length=q.st.length:=by rw[zcx,hfl]
   have htll:((γ3.tl k).map cI).length=lst.length:=by rw[We,h1']
   have hlab:(fixK q (zfW q.got sel)).lab=q.lab:=rfl
   have hpos:0 < lst.length:=by omega
   have hst2:=zyJ (p:=q) hdn;rw[←hds] at hst2;rw[←hkk];simp only[cH]
   (repeat first|simp(disch:=try exact dis1) only[evD,Nat.reduceBEq,Nat.reduceAdd,Nat.reduceLeDiff,dT,dF,h3',h4',hslen,htll,hfl,hlk,hlab,zxV,Waf,Int.toNat_zero,zrd]|with_reducible first|intro _|refine aJ ?_)
   have ok4:OkC (fixK q (zfW q.got (sel++[i]))) (setG γ3 k 0 (zlK q k)):=by rw[←hst2];exact zlN ok3 k 0 (zlK q k)
   have hnd2:(sel++[i]).Nodup:=by rw[List.nodup_append];exact⟨hnd,by simp,fun a ha b hb=>by rw[Wa.1 hb];exact fun e=>hns (e▸ha)⟩
   have hsl3:∀j∈sel++[i],j < q.got.length:=fun j hj=>by
    rcases WB.1 hj with hj|hj
    · exact hsl2 j hj
    · rw[Wa.1 hj];exact hi
   have hcnt2:=zrz q.got.length (sel++[i]) hnd2 hsl3;rw[Wy,Wag] at hcnt2
   have hT3:TailOk (N2+1) [(N2,.row 1 ([.mp 4 0]::[.int .i64 q.got.length]::[.int .i64 q.got.length]::(sel++[i]).map fun i:Nat=>[.int .i64 (i:Int)]) 0)]:=hT2.put 1 _ (by
    intro c hc
    have h4:Nat.blt 4 (N2+1)=true:=by rw[Nat.blt_eq];omega
    rcases Wi.1 hc with rfl|hc
    · simp[AV.lt0,h4]
    rcases Wi.1 hc with rfl|hc
    · rfl
    rcases Wi.1 hc with rfl|hc
    · rfl
    obtain⟨j,_,rfl⟩:=Wp.1 hc
    rfl)
   refine⟨(sel++[i],setG γ3 k 0 (zlK q k)),⟨hnd2,hsl3,ok4⟩,by rw[Wy,Wag];omega,Ent.low (by omega) ?_ (zk5 ok4 hT3) ?_⟩
   · intro x o hx;have hx2:(cH (4 * zaJ e+10) (fixK q (zfW q.got (sel++[i]))) (setG γ3 k 0 (zlK q k)) [(N2,.row 1 ([.mp 4 0]::[.int .i64 q.got.length]::[.int .i64 q.got.length]::(sel++[i]).map fun i:Nat=>[.int .i64 (i:Int)]) 0)]).look x=some o:=hx;rw[←hst2,zq9,hfl] at hx2;exact hx2
   · refine⟨⟨rfl,?_⟩,⟨rfl,?_⟩,trivial⟩<;>simp[AV.lt1,AV.lt0]
inductive RR where
 | visit (b:Int) (a j:Nat)
 | stop
 | endless
def goR (st:List PSt) (cs:List Int):Nat→Nat→Nat→Nat→RR
 | 0,_,_,_=>.endless
 |
  f+1,a,i,j =>
  if st.length < i then .endless else
  if (st.getD a ⟨2,0,none⟩).kind=2 then .stop else
  if (st.getD a ⟨2,0,none⟩).kind=0 then .visit (st.getD a ⟨2,0,none⟩).block (a+1) j else
  let l:=(st.getD a ⟨2,0,none⟩).to.getD []
  if l.length=1∧(st.getD a ⟨2,0,none⟩).block ≠ -1 then goR st cs f (l.getD 0 0).toNat (i+1) j
  else goR st cs f (l.getD (zgt cs j l.length).1.toNat 0).toNat (if (zgt cs j l.length).2 then 0 else i+1) (zlj cs j)
def muR (st:List PSt) (cs:List Int) (i j:Nat):Nat:=(cs.length - j) * (st.length+2)+(st.length+2 - i)
def zpU (st:List PSt) (cs:List Int):Nat:=(cs.length+1) * (st.length+2)
def zjR (st:List PSt) (cs:List Int) (s:Nat × Nat × Nat):Option (List AV × (Nat × Nat × Nat)) :=
 match goR st cs (zpU st cs) s.2.1 0 s.2.2 with
 | .visit b a j=>some ([.int .i64 b],(s.1 - 1,a,j))
 | _=>none
def endR (st:List PSt) (cs:List Int) (s:Nat × Nat × Nat):Int :=
 match goR st cs (zpU st cs) s.2.1 0 s.2.2 with
 | .endless=>15
 | _=>0
def valR (st:List PSt) (cs:List Int) (s:Nat × Nat × Nat):Int :=
 match goR st cs (zpU st cs) s.2.1 0 s.2.2 with
 | .visit b _ _=>b
 | _=>0
structure OkR (st:List PSt):Prop where
 len:st.length≤1000000
 pos:0 < st.length
 kind:∀k (h:k < st.length),st[k].kind=0∨st[k].kind=1∨st[k].kind=2
 last:∀k (h:k < st.length),st[k].kind=0→k+1 < st.length
 to:∀k (h:k < st.length),st[k].kind=1→∃l,st[k].to=some l∧0 < l.length∧l.length≤1000000∧∀t∈l,0≤t∧t < st.length
theorem zAq {st:List PSt} {cs:List Int} {i j:Nat} (hj:j≤cs.length) (hi:i≤st.length) {n:Int}:muR st cs (if (zgt cs j n).2 then 0 else i+1) (zlj cs j) < muR st cs i j:=by
 unfold muR zgt zlj
 by_cases h:j < cs.length
 · rw[dif_pos h,if_pos h];simp only[if_true];obtain⟨d,hd⟩:∃d,cs.length - j=d+1:=⟨cs.length - j - 1,by omega⟩;rw[show cs.length - (j+1)=d by omega,hd,WY];omega
 · rw[dif_neg h,if_neg h];simp only[WZ,if_false];omega
theorem zAr {st:List PSt} {cs:List Int} {i j:Nat} (hi:i≤st.length):muR st cs (i+1) j < muR st cs i j:=by unfold muR;omega
theorem zvT {st:List PSt} {cs:List Int} {j:Nat}:muR st cs 0 j≤zpU st cs:=by unfold muR zpU;rw[WY];have:=Nat.mul_le_mul_right (st.length+2) (Nat.sub_le cs.length j);omega
def ctF (rs:List Bool) (gl:List Bl) (kd bl:Int):Bool :=
 if kd=2∨kd=5 then decide (0≤bl∧bl < rs.length)&&(rs.getD bl.toNat false && !(decide (kd=5)&&decide (1 < ((gl.map (·.stmts)).getD bl.toNat []).length))) else true
def ctP (rs:List Bool) (gl:List Bl):Nd→Bool
 | .mk f _ _=>ctF rs gl f.kind f.block
def covA (rs:List Bool) (gl:List Bl) (L:List Nd):Bool :=
 L.all (ctP rs gl)&&(W0 rs.length).all fun k => !(rs.getD k false)||decide (((fm blkP L).count (k:Int):Int)=1)
def cnt (n:Nat) (l:List Int):List Int:=(W0 n).map fun(k:Nat)=>((l.count (k:Int):Nat):Int)
theorem zlx {n:Nat} {l:List Int}:(cnt n l).length=n:=by simp[cnt]
theorem zu3 {n:Nat}:(cnt n []).map cI=List.replicate n [AV.int .i64 0]:=by
 unfold cnt;rw[List.map_map];apply WH
 · simp
 · intro i h1 h2;simp
theorem zyj {n k:Nat} {l:List Int} (h:k < n):((cnt n l).map cI).getD k []=[.int .i64 ((l.count (k:Int):Nat):Int)]:=by rw[zp (by rw[zlx];exact h)];simp[cnt]
theorem zCK {n k:Nat} {l:List Int} (h:k < n):((cnt n l).map cI).set k [.int .i64 (((l.count (k:Int):Nat):Int)+1)]=(cnt n (l++[(k:Int)])).map cI:=by
 apply WH
 · simp[zlx]
 ·
  intro i h1 h2;simp only[We,zlx] at h2;rw[List.getElem_set];simp only[cnt,List.map_map,W3,WI,Function.comp];rw[List.count_append,List.count_singleton]
  by_cases hik:k=i
  · subst hik;simp
  ·
   have hne:((k:Int) == (i:Int))=false:=by simp;omega
   rw[if_neg hik,hne];simp
theorem zB8 {p:NdF→List Int} {l:List Nd} {i:Nat} (h:i < l.length):fm p (l.take (i+1))=fm p (l.take i)++p l[i].f:=by rw[Wah,Ww h];unfold fm;rw[Wai];simp only[Option.toList,List.flatMap_cons,List.flatMap_nil,W5]
theorem zAf {p:Nd→Bool} {l:List Nd} {i:Nat} (h:i < l.length):(l.take (i+1)).all p=((l.take i).all p&&p l[i]):=by rw[Wah,Ww h,List.all_append];simp only[Option.toList,List.all_cons,List.all_nil,Bool.and_true]
theorem zli (g:G) (hf:midG g) (L:List Nd) (hL:L.length≤1000) (hc:(fm blkP L).length≤1000) :
  zr Tryz.prog zd1 [encL 5 encN L,.agg g.cells] (·=.bool (covA (Dm.reachL g.toG.E) g.blocks L)):=by
 refine fn_x zlm rfl ?_;unfold zgJ;have hB:=hBig;have hR:=Dm.dominator_Reachable_ok g.toG (zwo hf)
 have hrl:(Dm.reachL g.toG.E).length=g.blocks.length:=by unfold Dm.reachL;rw[We,WJ,Gr.E_len];simp[G.toG]
 have hgb:=hf.blocks;have hgs:=hf.stmts;rw[G.toG_cells] at hR;generalize Dm.reachL g.toG.E=rs at hR hrl;obtain⟨ad,gl⟩:=g;simp only[G.cells] at hR hrl hgb hgs ⊢;generalize hn:gl.length=n at *
 (repeat first|simp(disch:=try exact dis1) only[evD,Nat.reduceBEq,Nat.reduceAdd,Nat.reduceLeDiff,fldP,zjw,tab,Wq,Wr]|with_reducible first|intro _|refine aJ ?_)
 refine zh (zm hR rfl) ?_
 (repeat first|simp(disch:=try exact dis1) only[evD,Nat.reduceBEq,Nat.reduceAdd,Nat.reduceLeDiff,zao,hrl]|with_reducible first|intro _|refine aJ ?_)
 refine zq (fun i:Nat=>([(3,encP 2 [.int .u32 ad,encL 2 Bl.cells gl]),(5,zao rs),(6,.own 0 0 0 0 n),(16,encL 5 encN L),(17,.int .i64 L.length),(18,.int .i64 i)],[(0,.row 1 ((cnt n (fm blkP (L.take i))).map cI) 0)])) 1
  (fun i=>i≤L.length∧(L.take i).all (ctP rs gl)=true) (fun i=>L.length - i) 0 ⟨Wg _,rfl⟩ (Ent.tab [(0,0,0)] [] rfl (by(try simp only[evWB,Nat.reduceBEq,Nat.reduceAdd,Nat.reduceSub,Nat.reduceLeDiff,Nat.reduceLT,implies_true,List.take_zero,zzh,zu3,hrl,zao])<;>exact fin2) (by(try simp only[evWB,Nat.reduceBEq,Nat.reduceAdd,Nat.reduceSub,Nat.reduceLeDiff,Nat.reduceLT,implies_true,List.take_zero,zzh,zu3,hrl,zao])<;>exact fin2)) ?_
 rintro i ⟨hi,hall⟩ wf;unfold zeG
 by_cases hl:i < L.length
 case pos =>
  have hgd:=zp (f:=encN) (d:=[]) hl;have hft:=zB8 (p:=blkP) hl;have hat:=zAf (p:=ctP rs gl) hl
  have hcl:(fm blkP (L.take i)).length≤1000:=by
   have:(fm blkP L).length=(fm blkP (L.take i)).length+(fm blkP (L.drop i)).length:=by
    conv=>lhs;rw[←List.take_append_drop i L]
    unfold fm;rw[Wai,Wy]
   omega
  have hbad:ctP rs gl L[i]=false→covA rs gl L=false:=fun h=>by unfold covA;rw[Waj.2 ⟨L[i],Wl hl,by rw[h];simp⟩,Ws]
  rw[hall,Wt] at hat;generalize L[i]=y at hgd hft hat hbad;generalize fm blkP (L.take i)=K at hft hcl;obtain⟨⟨kd,bl,lb⟩,c,m⟩:=y;rw[zeT] at hgd;simp only at hgd
  have hbk:blkP (Nd.mk ⟨kd,bl,lb⟩ c m).f=if kd=2∨kd=5 then [bl] else []:=rfl
  have hct:ctP rs gl (Nd.mk ⟨kd,bl,lb⟩ c m)=if kd=2∨kd=5 then decide (0≤bl∧bl < rs.length)&&(rs.getD bl.toNat false && !(decide (kd=5)&&decide (1 < ((gl.map (·.stmts)).getD bl.toNat []).length))) else true:=rfl
  rw[hbk] at hft;rw[hct] at hat hbad
  have skip:¬(kd=2∨kd=5)→cnt n (fm blkP (L.take (i+1)))=cnt n K∧(L.take (i+1)).all (ctP rs gl)=true:=fun h=>by rw[if_neg h] at hft hat;rw[W5] at hft;exact⟨by rw[hft],hat⟩
  by_cases h25:kd=2∨kd=5
  case neg =>
   obtain⟨s1,s2⟩:=skip h25
   (repeat first|simp(disch:=try exact dis1) only[evD,Nat.reduceBEq,Nat.reduceAdd,Nat.reduceLeDiff,dT,dF,hgd]|with_reducible first|intro _|refine aJ ?_)
   exact⟨i+1,⟨by omega,s2⟩,by omega,(Ent.tab [(0,0,0)] [] rfl (by(try simp only[evWB,Nat.reduceBEq,Nat.reduceAdd,Nat.reduceSub,Nat.reduceLeDiff,Nat.reduceLT,implies_true,s1])<;>exact fin2) (by(try simp only[evWB,Nat.reduceBEq,Nat.reduceAdd,Nat.reduceSub,Nat.reduceLeDiff,Nat.reduceLT,implies_true,s1])<;>exact fin2))⟩
  rw[if_pos h25] at hft hat hbad
  have tail:∀(b1:0≤bl) (b2:bl < n) (hr:rs.getD bl.toNat false=true),True:=fun _ _ _=>trivial
  have hcount:K.count bl≤1000:=Wm List.count_le_length hcl
  by_cases b1:0≤bl
  case neg =>
   have hb:=hbad (by rw[dF (fun h=>b1 h.1),Ws]);rw[hb]
   rcases h25 with rfl|rfl
   ·
    (repeat first|simp(disch:=try exact dis1) only[evD,Nat.reduceBEq,Nat.reduceAdd,Nat.reduceLeDiff,dT,dF,hgd,zad]|with_reducible first|intro _|refine aJ ?_)
    exact⟨_,.bool _ _,rfl⟩
   ·
    (repeat first|simp(disch:=try exact dis1) only[evD,Nat.reduceBEq,Nat.reduceAdd,Nat.reduceLeDiff,dT,dF,hgd,zad]|with_reducible first|intro _|refine aJ ?_)
    exact⟨_,.bool _ _,rfl⟩
  by_cases b2:bl < n
  case neg =>
   have hb:=hbad (by rw[dF (fun h=>by have:=h.2;omega),Ws]);rw[hb]
   rcases h25 with rfl|rfl
   ·
    (repeat first|simp(disch:=try exact dis1) only[evD,Nat.reduceBEq,Nat.reduceAdd,Nat.reduceLeDiff,dT,dF,hgd,zao,hrl,zad]|with_reducible first|intro _|refine aJ ?_)
    exact⟨_,.bool _ _,rfl⟩
   ·
    (repeat first|simp(disch:=try exact dis1) only[evD,Nat.reduceBEq,Nat.reduceAdd,Nat.reduceLeDiff,dT,dF,hgd,zao,hrl,zad]|with_reducible first|intro _|refine aJ ?_)
    exact⟨_,.bool _ _,rfl⟩
  have hbl:bl.toNat < rs.length:=by omega
  have hbl2:bl.toNat < gl.length:=by omega
  have hrg:(rs.map fun b=>[AV.bool b]).getD bl.toNat []=[.bool (rs.getD bl.toNat false)]:=by rw[zp hbl];simp[Wf,hbl]
  have hgg:(gl.map Bl.cells).getD bl.toNat []=[.int .u32 gl[bl.toNat].addr,encL 8 St.cells gl[bl.toNat].stmts]:=zp hbl2;have hgst:(gl.map (·.stmts)).getD bl.toNat []=gl[bl.toNat].stmts:=zp hbl2;rw[hgst] at hat hbad;rw[dT ⟨b1,by omega⟩,Wt] at hat hbad;have hst8:=(hgs _ (Wl hbl2)).1;generalize gl[bl.toNat].stmts=sm at hat hbad hgg hst8
  have hcg:((cnt n K).map cI).getD bl.toNat []=[.int .i64 ((K.count bl:Nat):Int)]:=by rw[zyj (by omega),show ((bl.toNat:Nat):Int)=bl by omega]
  have hcs:((cnt n K).map cI).set bl.toNat [.int .i64 (((K.count bl:Nat):Int)+1)]=(cnt n (fm blkP (L.take (i+1)))).map cI:=by have:=zCK (n:=n) (k:=bl.toNat) (l:=K) (by omega);rw[show ((bl.toNat:Nat):Int)=bl by omega] at this;rw[this,hft]
  cases hr:rs.getD bl.toNat false with
  |
   false =>
   rw[hr] at hbad hrg;have hb:=hbad (by rw[Ws]);rw[hb]
   rcases h25 with rfl|rfl
   ·
    (repeat first|simp(disch:=try exact dis1) only[evD,Nat.reduceBEq,Nat.reduceAdd,Nat.reduceLeDiff,dT,dF,hgd,zao,hrl,hrg,zad]|with_reducible first|intro _|refine aJ ?_)
    exact⟨_,.bool _ _,rfl⟩
   ·
    (repeat first|simp(disch:=try exact dis1) only[evD,Nat.reduceBEq,Nat.reduceAdd,Nat.reduceLeDiff,dT,dF,hgd,zao,hrl,hrg,zad]|with_reducible first|intro _|refine aJ ?_)
    exact⟨_,.bool _ _,rfl⟩
  |
   true =>
   rw[hr,Wt] at hbad hat;rw[hr] at hrg
   rcases h25 with rfl|rfl
   ·
    rw[dF (by omega),Ws] at hat
    (repeat first|simp(disch:=try exact dis1) only[evD,Nat.reduceBEq,Nat.reduceAdd,Nat.reduceLeDiff,dT,dF,hgd,zao,hrl,hrg,hcg,hcs,zlx,We]|with_reducible first|intro _|refine aJ ?_)
    exact⟨i+1,⟨by omega,hat⟩,by omega,(Ent.tab [(0,0,0)] [] rfl (by(try simp only[evWB,Nat.reduceBEq,Nat.reduceAdd,Nat.reduceSub,Nat.reduceLeDiff,Nat.reduceLT,implies_true,zao,hrl])<;>exact fin2) (by(try simp only[evWB,Nat.reduceBEq,Nat.reduceAdd,Nat.reduceSub,Nat.reduceLeDiff,Nat.reduceLT,implies_true,zao,hrl])<;>exact fin2))⟩
   ·
    by_cases h1:1 < sm.length
    ·
     have hb:=hbad (by rw[dT h1];rfl);rw[hb]
     (repeat first|simp(disch:=try exact dis1) only[evD,Nat.reduceBEq,Nat.reduceAdd,Nat.reduceLeDiff,dT,dF,hgd,zao,hrl,hrg,fldP,hgg,hn,zad]|with_reducible first|intro _|refine aJ ?_)
     exact⟨_,.bool _ _,rfl⟩
    ·
     rw[dF h1,Bool.and_false] at hat
     (repeat first|simp(disch:=try exact dis1) only[evD,Nat.reduceBEq,Nat.reduceAdd,Nat.reduceLeDiff,dT,dF,hgd,zao,hrl,hrg,fldP,hgg,hn,hcg,hcs,zlx,We]|with_reducible first|intro _|refine aJ ?_)
     exact⟨i+1,⟨by omega,hat⟩,by omega,(Ent.tab [(0,0,0)] [] rfl (by(try simp only[evWB,Nat.reduceBEq,Nat.reduceAdd,Nat.reduceSub,Nat.reduceLeDiff,Nat.reduceLT,implies_true,zao,hrl])<;>exact fin2) (by(try simp only[evWB,Nat.reduceBEq,Nat.reduceAdd,Nat.reduceSub,Nat.reduceLeDiff,Nat.reduceLT,implies_true,zao,hrl])<;>exact fin2))⟩
 rw[WC (by omega)] at hall ⊢;unfold covA;rw[hall,Wt];generalize fm blkP L=K at hc ⊢
 (refine Qk ?_;intros)
 unfold zeq
 (repeat first|simp(disch:=try exact dis1) only[evD,Nat.reduceBEq,Nat.reduceAdd,Nat.reduceLeDiff,zao,hrl]|with_reducible first|intro _|refine aJ ?_)
 generalize hR2:((W0 n).all fun k => !(rs.getD k false)||decide (((K.count (k:Int):Nat):Int)=1))=R
 refine zq (fun k:Nat=>([(6,.own 0 0 0 0 n),(70,zao rs),(71,.int .i64 n),(72,.int .i64 k)],[(0,.row 1 ((cnt n K).map cI) 0)])) 1
  (fun k=>k≤n∧∀j,j < k→(!(rs.getD j false)||decide (((K.count (j:Int):Nat):Int)=1))=true) (fun k=>n - k) 0 ⟨Wg _,fun j hj=>by omega⟩ (Ent.tab [(0,0,0)] [] rfl (by(try simp only[evWB,Nat.reduceBEq,Nat.reduceAdd,Nat.reduceSub,Nat.reduceLeDiff,Nat.reduceLT,implies_true,zao,hrl])<;>exact fin2) (by(try simp only[evWB,Nat.reduceBEq,Nat.reduceAdd,Nat.reduceSub,Nat.reduceLeDiff,Nat.reduceLT,implies_true,zao,hrl])<;>exact fin2)) ?_
 rintro k ⟨hk,hgo⟩ wf2;unfold zez
 by_cases hkn:k < n
 case neg =>
  have:R=true:=by rw[←hR2,WD];intro j hj;have:=W6.1 hj;exact hgo j (by omega)
  subst this
  (refine Qk ?_;intros)
  unfold zev
  (repeat first|simp(disch:=try exact dis1) only[evD,Nat.reduceBEq,Nat.reduceAdd,Nat.reduceLeDiff,zad]|with_reducible first|intro _|refine aJ ?_)
  exact⟨_,.bool _ _,rfl⟩
 have hrg:(rs.map fun b=>[AV.bool b]).getD k []=[.bool (rs.getD k false)]:=by rw[zp (by omega)];simp[Wf,show k < rs.length by omega]
 have hcg:=zyj (n:=n) (l:=K) hkn
 have hstep:(!(rs.getD k false)||decide (((K.count (k:Int):Nat):Int)=1))=true→∀j,j < k+1→(!(rs.getD j false)||decide (((K.count (j:Int):Nat):Int)=1))=true:=fun h j hj=>by
  by_cases hjk:j=k
  · subst hjk;exact h
  · exact hgo j (by omega)
 have hstop:(!(rs.getD k false)||decide (((K.count (k:Int):Nat):Int)=1))=false→R=false:=fun h=>by rw[←hR2,Waj];exact⟨k,W6.2 (by omega),by rw[h];simp⟩
 cases hr:rs.getD k false with
 |
  false =>
  rw[hr] at hrg hstep
  (repeat first|simp(disch:=try exact dis1) only[evD,Nat.reduceBEq,Nat.reduceAdd,Nat.reduceLeDiff,dT,zao,hrl,hrg]|with_reducible first|intro _|refine aJ ?_)
  exact⟨k+1,⟨by omega,hstep (by simp)⟩,by omega,(Ent.tab [(0,0,0)] [] rfl (by(try simp only[evWB,Nat.reduceBEq,Nat.reduceAdd,Nat.reduceSub,Nat.reduceLeDiff,Nat.reduceLT,implies_true,zao,hrl])<;>exact fin2) (by(try simp only[evWB,Nat.reduceBEq,Nat.reduceAdd,Nat.reduceSub,Nat.reduceLeDiff,Nat.reduceLT,implies_true,zao,hrl])<;>exact fin2))⟩
 |
  true =>
  rw[hr] at hrg hstep hstop
  by_cases h1:((K.count (k:Int):Nat):Int)=1
  ·
   (repeat first|simp(disch:=try exact dis1) only[evD,Nat.reduceBEq,Nat.reduceAdd,Nat.reduceLeDiff,dT,dF,zao,hrl,hrg,hcg,zlx,We]|with_reducible first|intro _|refine aJ ?_)
   exact⟨k+1,⟨by omega,hstep (by rw[dT h1];rfl)⟩,by omega,(Ent.tab [(0,0,0)] [] rfl (by(try simp only[evWB,Nat.reduceBEq,Nat.reduceAdd,Nat.reduceSub,Nat.reduceLeDiff,Nat.reduceLT,implies_true,zao,hrl])<;>exact fin2) (by(try simp only[evWB,Nat.reduceBEq,Nat.reduceAdd,Nat.reduceSub,Nat.reduceLeDiff,Nat.reduceLT,implies_true,zao,hrl])<;>exact fin2))⟩
  ·
   have:=hstop (by rw[dF h1];rfl);subst this
   (repeat first|simp(disch:=try exact dis1) only[evD,Nat.reduceBEq,Nat.reduceAdd,Nat.reduceLeDiff,dT,dF,zao,hrl,hrg,hcg,zlx,We,zad]|with_reducible first|intro _|refine aJ ?_)
   exact⟨_,.bool _ _,rfl⟩
def ordI (g:G):List Int:=(Dm.orderL g.toG.E).map fun(n:Nat)=>(n:Int)
def covB (g:G) (e:Nd):Bool:=(decide (∀k,(h:k < (coll blkP e).length)→(coll blkP e)[k]∈ordI g∧(coll blkP e)[k]∉(coll blkP e).take k)&&decide ((coll blkP e).length=(ordI g).length))&&zqT g.blocks e
def whP (gl:List Bl):Nd→Bool
 | .mk f _ _ => !(decide (f.kind=5) && !wOk gl f.block)
mutual
theorem zoB (gl:List Bl):∀n:Nd,(allN n).all (whP gl)=zqT gl n
 |
  .mk f c l=>by
  rw[allN,List.all_cons,zne gl l,zqT];show (!(decide (f.kind=5) && !wOk gl f.block)&&zjY gl l)=_
  by_cases h:f.kind=5
  ·
   cases hw:wOk gl f.block with
   | true=>rw[if_neg (by simp)];simp[h]
   | false=>rw[if_pos ⟨h,rfl⟩];simp[h]
  · rw[if_neg (fun hc=>h hc.1)];simp[h]
theorem zne (gl:List Bl):∀l:List Nd,(zem l).all (whP gl)=zjY gl l
 | []=>by rw[zem,zjY];rfl
 | x::l=>by rw[zem,List.all_append,zoB gl x,zne gl l,zjY]
end
theorem zpo {g:G} (h:zm7 g=0):∀b∈g.blocks,1≤b.stmts.length:=by
 intro b hb;unfold zm7 at h;split at h
 ·
  rename_i h1;rw[Wd,WD] at h1;have h2:=h1.2 b hb;unfold zdJ at h2
  cases hs:b.stmts with
  | nil=>rw[hs] at h2;simp at h2
  | cons a l=>simp
 · omega
theorem zqA:∀(l m:List Int),l.Nodup→(∀a∈l,a∈m)→m.length≤l.length→∀a∈m,a∈l
 |
  [],m,_,_,h,a,ha=>by
  have:m=[]:=WK (by simpa using h);rw[this] at ha;cases ha
 |
  x::l,m,hn,hs,h,a,ha=>by
  rw[W7] at hn;have hx:=hs x (by simp)
  by_cases hax:a=x
  · rw[hax];simp
  ·
   refine Wak _ (zqA l (m.erase x) hn.2 (fun b hb=>?_) ?_ a ((Wal hax).2 ha))
   ·
    have hbx:b≠x:=fun e=>hn.1 (e▸hb)
    exact(Wal hbx).2 (hs b (Wak _ hb))
   · rw[List.length_erase_of_mem hx];simp only[Wk] at h;omega
theorem ztW {l:List Int} (h:∀a,l.count a≤1):l.Nodup:=by
 induction l with
 | nil=>exact WW
 |
  cons x l ih =>
  rw[W7];refine⟨fun hx=>?_,ih fun a=>?_⟩
  · have:=h x;rw[List.count_cons_self] at this;have:=List.count_pos_iff.2 hx;omega
  · have:=h a;rw[List.count_cons] at this;omega
theorem zn3 {l:List Int} (h:l.Nodup) {a:Int} (ha:a∈l):l.count a=1:=by
 induction l with
 | nil=>cases ha
 |
  cons x l ih =>
  rw[W7] at h;rw[List.count_cons]
  by_cases hx:x=a
  · subst hx;rw[WL.2 h.1];simp
  ·
   have h2:a∈l:=by
    rcases Wi.1 ha with rfl|h2
    · exact absurd rfl hx
    · exact h2
   rw[ih h.2 h2];simp[hx]
theorem zqD {l:List Int}:(∀k,(h:k < l.length)→l[k]∉l.take k)↔l.Nodup:=by
 rw[List.nodup_iff_pairwise_ne,Wad];constructor
 · intro h i j hi hj hij e;refine h j hj ?_;rw[←e,WG];exact⟨i,by rw[WM];omega,by rw[W8]⟩
 · intro h k hk hm;obtain⟨i,hi,he⟩:=WG.1 hm;rw[WM] at hi;rw[W8] at he;exact h i k (by omega) hk (by omega) he
theorem zww (g:G) (e:Nd) (h0:zm7 g=0):covA (Dm.reachL g.toG.E) g.blocks (allN e)=covB g e:=by
 have hE:=g.toG.E_ok
 have hlen:g.toG.E.length=g.blocks.length:=by rw[Gr.E_len];simp[G.toG]
 have hin:=Dm.inB_order hE;have hnd:=Dm.orderL_nd hE
 have hond:(ordI g).Nodup:=by unfold ordI;refine List.Pairwise.map _ (fun a b hab=>?_) hnd.nd;intro e;exact hab (by exact_mod_cast e)
 have hrs:∀k:Nat,k < g.blocks.length→(Dm.reachL g.toG.E).getD k false=decide ((k:Int)∈ordI g):=by
  intro k hk;rw[←hin,hlen];unfold Dm.inB Dm.mapR;rw[zp (by simpa using hk),WI];unfold ordI;refine decide_eq_decide.2 ⟨fun h=>Wp.2 ⟨k,h,rfl⟩,fun h=>?_⟩;obtain⟨k2,h2,h3⟩:=Wp.1 h
  have:k2=k:=by exact_mod_cast h3
  rw[←this];exact h2
 have hrl:(Dm.reachL g.toG.E).length=g.blocks.length:=by unfold Dm.reachL;rw[We,WJ,hlen]
 have holt:∀a∈ordI g,0≤a∧a < g.blocks.length:=by intro a ha;unfold ordI at ha;obtain⟨k,hk,rfl⟩:=Wp.1 ha;have:=hnd.lt k hk;omega
 generalize Dm.reachL g.toG.E=rs at hrs hrl;have hfull:=zpo h0;unfold covA covB;rw[zsQ,←zoB]
 have hmem:∀b,b∈coll blkP e↔∃x∈allN e,b∈blkP x.f:=by intro b;rw[←zsQ];unfold fm;rw[List.mem_flatMap]
 have hpt:∀x:Nd,ctP rs g.blocks x=true↔(∀b∈blkP x.f,b∈ordI g)∧whP g.blocks x=true:=by
  intro x;obtain⟨⟨kd,bl,lb⟩,c,m⟩:=x;show ctF rs g.blocks kd bl=true↔(∀b∈(if kd=2∨kd=5 then [bl] else []),b∈ordI g)∧(!(decide (kd=5) && !wOk g.blocks bl))=true;unfold ctF
  by_cases h25:kd=2∨kd=5
  case neg =>rw[if_neg h25,if_neg h25,dF (fun h=>h25 (.inr h))];simp
  rw[if_pos h25,if_pos h25]
  by_cases hr:0≤bl∧bl < g.blocks.length
  case neg =>
   rw[dF (show ¬(0≤bl∧bl < rs.length) by rw[hrl];exact hr),Ws];constructor
   · intro h;cases h
   · rintro⟨h,_⟩;exact absurd (holt bl (h bl (by simp))) hr
  have hbt:bl.toNat < g.blocks.length:=by omega
  rw[dT (show 0≤bl∧bl < rs.length by rw[hrl];exact hr),Wt,hrs _ hbt,show ((bl.toNat:Nat):Int)=bl by omega]
  have hw:wOk g.blocks bl=decide (g.blocks[bl.toNat].stmts.length=1):=by unfold wOk;rw[if_neg (by omega),Ww hbt]
  rw[hw,zp hbt];have h1:=hfull _ (Wl hbt)
  by_cases h5:kd=5
  ·
   simp only[h5,decide_true,Wt,Wd,decide_eq_true_eq,Wa,forall_eq,Bool.not_not,Wam,decide_eq_false_iff_not];constructor
   · rintro⟨h2,h3⟩;exact⟨h2,by omega⟩
   · rintro⟨h2,h3⟩;exact⟨h2,by omega⟩
  · simp[h5]
 rw[WV];simp only[Wd,WD,decide_eq_true_eq,W6,Bool.or_eq_true,Wam];rw[hrl];constructor
 ·
  rintro⟨h1,h2⟩
  have hsub:∀b∈coll blkP e,b∈ordI g:=by intro b hb;obtain⟨x,hx,hxb⟩:=(hmem b).1 hb;exact((hpt x).1 (h1 x hx)).1 b hxb
  have hcnt:∀a∈ordI g,(coll blkP e).count a=1:=by
   intro a ha;have hr:=holt a ha
   rcases h2 a.toNat (by omega) with h3|h3
   · rw[hrs _ (by omega),show ((a.toNat:Nat):Int)=a by omega] at h3;exact absurd ha (of_decide_eq_false h3)
   · rw[show ((a.toNat:Nat):Int)=a by omega] at h3;omega
  have hnod:(coll blkP e).Nodup:=by
   refine ztW fun a=>?_
   by_cases ha:a∈ordI g
   · rw[hcnt a ha];omega
   · rw[WL.2 (fun h=>ha (hsub a h))];omega
  refine⟨⟨fun k hk=>⟨hsub _ (Wl hk),zqD.2 hnod k hk⟩,?_⟩,fun x hx=>((hpt x).1 (h1 x hx)).2⟩;refine List.Perm.length_eq (List.perm_iff_count.2 fun a=>?_)
  by_cases ha:a∈ordI g
  · rw[hcnt a ha,zn3 hond ha]
  · rw[WL.2 (fun h=>ha (hsub a h)),WL.2 ha]
 ·
  rintro⟨⟨h1,h2⟩,h3⟩
  have hnod:=zqD.1 fun k hk=>(h1 k hk).2
  have hsub:∀b∈coll blkP e,b∈ordI g:=by intro b hb;obtain⟨k,hk,rfl⟩:=WG.1 hb;exact(h1 k hk).1
  have hback:=zqA _ _ hnod hsub (by omega);refine⟨fun x hx=>(hpt x).2 ⟨fun b hb=>hsub b ((hmem b).2 ⟨x,hx,hb⟩),h3 x hx⟩,fun k hk=>?_⟩;rw[hrs k hk]
  by_cases hk2:(k:Int)∈ordI g
  · right;rw[zn3 hnod (hback _ hk2)];rfl
  · left;exact dF hk2
theorem zqt (l:List Int) (g:Nat) (hl:l.length≤100000000):zak Tryz.prog zD [.own 0 0 g 0 l.length] [(0,.row 1 (l.map cI) g)] 1
  (fun v H nx=>v=.own 1 0 0 0 l.length∧H=[(0,.row 1 (l.map cI) g),(1,.row 1 (l.map cI) 0)]∧nx=2):=by
 refine zan (fn_x zbB rfl ?_);unfold zaT;have hB:=hBig
 by_cases h0:l.length=0
 ·
  obtain rfl:l=[]:=WK h0;have e1:nilB false (.own 0 0 g 0 0)=some none:=rfl
  (repeat first|simp(disch:=try exact dis1) only[evD,Nat.reduceBEq,Nat.reduceAdd,Nat.reduceLeDiff,e1]|with_reducible first|intro _|refine aJ ?_)
  rename_i b;cases b
  ·
   (refine QE ?_;intros)
   exact⟨.own 1 0 0 0 0,[(0,.row 1 [] g),(1,.row 1 [] 0)],2,(Ent.tabB [(0,0,0),(1,2,1)] [] rfl rfl rfl Qap Qap),rfl,rfl,rfl⟩
  ·
   (refine QE ?_;intros)
   exact⟨.own 1 0 0 0 0,[(0,.row 1 [] g),(1,.row 1 [] 0)],2,(Ent.tabB [(0,0,0),(1,2,0)] [] rfl rfl rfl Qap Qap),rfl,rfl,rfl⟩
 ·
  have e1:nilB false (.own 0 0 g 0 l.length)=some (some false):=by unfold nilB;simp only[zQ h0];rfl
  (repeat first|simp(disch:=try exact dis1) only[evD,Nat.reduceBEq,Nat.reduceAdd,Nat.reduceLeDiff,e1,zM]|with_reducible first|intro _|refine aJ ?_)
  exact⟨.own 1 0 0 0 l.length,[(0,.row 1 (l.map cI) g),(1,.row 1 (l.map cI) 0)],2,(Ent.tabB [(0,0,0),(1,2,1)] [] rfl rfl rfl Qap Qap),rfl,rfl,rfl⟩
theorem zyy {H:AH} {f rb r g gb n:Nat} {l:List Int} (hb:H.get rb 0=some (.row 1 [[.own r 0 g 0 n]] gb)) (hr:H.get r 0=some (.row 1 (l.map cI) g)) (hn:n=l.length) (hl:l.length≤big) :
  Vw H [] nos allR false (.fn (.func f) [.ptr rb 0 gb 0 0]) (.fn (.func f) [encP 1 [za l]]):=by
 subst hn
 refine .fn _ _ _ _ rfl fun i a b h1 h2=>?_
 match i with
 |
  0 =>
  cases h1;cases h2
  refine .frzp _ rb 0 gb 0 0 1 1 [[.own r 0 g 0 l.length]] _ trivial hb (by simp) (by omega) fun j hj=>?_
  obtain rfl:j=0:=by omega
  exact z6 (l:=l) trivial hr hl
 | i+1=>cases h1
def zzR (labs:List Int):Nd→Bool
 | .mk f _ _=>decide (f.kind=9) && !hasI labs f.label
theorem ztf (l:List Nd) (labs:List Int):PredN (.fn (.func zdH) [encP 1 [za labs]]) l (zzR labs):=by
 refine⟨_,_,rfl,by kernel_rfl,rfl,fun s hs=>?_⟩;refine fn_x zkv rfl ?_;unfold zfT;obtain⟨⟨kd,bl,lb⟩,c,m⟩:=s;have hg:zzR labs (.mk ⟨kd,bl,lb⟩ c m)=(decide (kd=9) && !hasI labs lb):=rfl;rw[hg,zeT];simp only
 by_cases h9:kd=9
 ·
  rw[dT h9,Wt]
  (refine QO ?_;intros)
  refine zh (zm (zjh labs lb) rfl) ?_
  (repeat first|simp(disch:=try exact dis1) only[evD,Nat.reduceBEq,Nat.reduceAdd,Nat.reduceLeDiff,zdi]|with_reducible first|intro _|refine aJ ?_)
  exact⟨_,.bool _ _,rfl⟩
 ·
  rw[dF h9,Ws]
  (repeat first|simp(disch:=try exact dis1) only[evD,Nat.reduceBEq,Nat.reduceAdd,Nat.reduceLeDiff,dF,fldP,encP,zdi]|with_reducible first|intro _|refine aJ ?_)
  exact⟨_,.bool _ _,rfl⟩
theorem znj {g:G} (h:zbA g=0):zm7 g=0:=by
 unfold zbA at h;split at h
 · exact absurd h (by decide)
 · exact h
def zl4 (g:G) (e:Nd):Int :=
 if zbA g≠0 then zbA g else if zft e=false then 2 else if covB g e=false then 18 else if zkz e false=true then 21 else if (zmo e).any (fun t => !hasI (coll labP e) t)=true then 9 else if (coll labP e).Nodup then 0 else 8
mutual
theorem zl8 (labs:List Int):∀e:Nd,zft e=true→(allN e).any (zzR labs)=(zmo e).any (fun t => !hasI labs t)
 |
  .mk f c l,h=>by
  rw[zft,Wd] at h;have ih:=zkU labs l h.1;rw[allN,List.any_cons,ih,zmo];show (decide (f.kind=9) && !hasI labs f.label||_)=_
  by_cases h9:f.kind=9
  · have h2:=h.2;unfold zbR at h2;rw[Wd,decide_eq_true_eq] at h2;have h3:=h2.1;unfold zS at h3;have hl:l=[]:=WK (by omega);subst hl;rw[if_pos h9,dT h9,zhY];simp
  · rw[if_neg h9,dF h9];simp
theorem zkU (labs:List Int):∀l:List Nd,zeb l=true→(zem l).any (zzR labs)=(zhY l).any (fun t => !hasI labs t)
 | [],_=>by rw[zem,zhY];rfl
 |
  x::l,h=>by
  rw[zeb,Wd] at h;rw[zem,WU,zl8 labs x h.1,zkU labs l h.2,zhY,WU]
end
theorem QB {p q:Prop}(k:q)(h:Im q p:=by(repeat first|simp(disch:=try exact dis1) only[evD,Nat.reduceBEq,Nat.reduceAdd,Nat.reduceLeDiff,zaC] | ((with_reducible apply Im.i);intro _) | ((with_reducible apply Im.a);omega));exact Im.r):p:=h k
theorem Qak {p q:Prop}(k:q)(h:Im q p:=by(repeat first|simp(disch:=try exact dis1) only[evD,Nat.reduceBEq,Nat.reduceAdd,Nat.reduceLeDiff,zjw,tab,List.getD_cons_zero,List.getD_cons_succ,zbp] | ((with_reducible apply Im.i);intro _) | ((with_reducible apply Im.a);omega));exact Im.r):p:=h k
theorem QI {p q:Prop}(k:q)(h:Im q p:=by(repeat first|simp(disch:=try exact dis1) only[evD,Nat.reduceBEq,Nat.reduceAdd,Nat.reduceLeDiff,renI] | ((with_reducible apply Im.i);intro _) | ((with_reducible apply Im.a);omega));exact Im.r):p:=h k
theorem zlH (g:G) (hf:midG g) (e:Nd) (hs:zaJ e≤1000):zr Tryz.prog zeW [.agg (encN e),.agg g.cells] (·=.int .i64 (zl4 g e)):=by
 refine fn_x zmm rfl ?_;unfold zg9;have hB:=hBig;have hG:=zh1 g (zj3 hf) (zqx hf);have hA:=ziX e hs
 have hal:(allN e).length≤1000:=by rw[znV];exact hs
 have hF:=zcr (allN e) _ _ (zni (allN e));have hC:=zli g hf (allN e) hal (by rw[zsQ];exact Wm (znW zAR e) hs);have hLp:=zkd (zaJ e) e false (Wc _);have hLb:=zkm e hs
 have hlaw:=fun h=>zww g e (znj h)
 have hgl:=fun labs=>zl8 labs e
 have hany:((allN e).any fun x => !zod x) = !zft e:=by rw[←zou,WV];simp
 rw[hany] at hF;unfold zl4;have hll:(coll labP e).length≤1000:=Wm (znW zvd e) hs;obtain⟨ad,gl⟩:=g;simp only[G.cells] at hG hC ⊢
 (repeat first|simp(disch:=try exact dis1) only[evD,Nat.reduceBEq,Nat.reduceAdd,Nat.reduceLeDiff,fldP,zjw,tab,zb1,zd,Wq,Wr]|with_reducible first|intro _|refine aJ ?_)
 refine zh (zm hG rfl) ?_
 by_cases h0:zbA ⟨ad,gl⟩=0
 case neg =>
  rw[if_pos h0]
  (repeat first|simp(disch:=try exact dis1) only[evD,Nat.reduceBEq,Nat.reduceAdd,Nat.reduceLeDiff,dT,zaC]|with_reducible first|intro _|refine aJ ?_)
  exact⟨_,.int _ _ _,rfl⟩
 have hlaw2:=hlaw h0;simp only at hlaw2;rw[hlaw2] at hC;rw[if_neg (fun h=>h h0),h0]
 (repeat first|simp(disch:=try exact dis1) only[evD,Nat.reduceBEq,Nat.reduceAdd,Nat.reduceLeDiff,dF,zb1,zd,zbp,zjw,tab,Wq,Wr]|with_reducible first|intro _|refine aJ ?_)
 refine zh (zm hA (flN rfl)) ?_
 (refine Qa ?_;intros)
 refine zh (zV (D:=noR) hF (.cons (zah rfl) (.cons (zvp (zni (allN e))) .nil)) (.inl rfl)) ?_
 cases hfm:zft e with
 |
  false =>
  (refine QB ?_;intros)
  exact⟨_,.int _ _ _,rfl⟩
 | true =>
 rw[if_neg (by simp)]
 (repeat first|simp(disch:=try exact dis1) only[evD,Nat.reduceBEq,Nat.reduceAdd,Nat.reduceLeDiff,zjw,tab,Wq,Wr]|with_reducible first|intro _|refine aJ ?_)
 refine zh (zm hC rfl) ?_
 cases hcv:covB ⟨ad,gl⟩ e with
 |
  false =>
  (refine QB ?_;intros)
  exact⟨_,.int _ _ _,rfl⟩
 | true =>
 rw[if_neg (by simp)]
 (refine Qak ?_;intros)
 refine zh (zm hLp flNB) ?_
 cases hst:zkz e false with
 |
  true =>
  (refine QB ?_;intros)
  exact⟨_,.int _ _ _,rfl⟩
 | false =>
 rw[if_neg (by simp)]
 (refine Qak ?_;intros)
 refine zbD [] 0 _ hLb rfl rfl (by simp only[evWB,Nat.reduceBEq,Nat.reduceAdd,Nat.reduceSub,Nat.reduceLeDiff,Nat.reduceLT,implies_true]) ⟨zah (by have:=flN (r:=[]) rfl (e:=e);simpa using this),trivial⟩ ?_;rintro _ _ _ ⟨rfl,rfl,rfl⟩;generalize hlb:coll labP e=labs at hll ⊢
 (refine QI ?_;intros)
 have hG2:=zcr (allN e) _ _ (ztf (allN e) labs);rw[hgl labs hfm] at hG2;refine zh (zV (D:=allR) hG2 (.cons (zah rfl) (.cons (zyy (l:=labs) rfl rfl rfl (by omega)) .nil)) (.inl rfl)) ?_
 cases hgt:(zmo e).any fun t => !hasI labs t with
 |
  true =>
  (refine QB ?_;intros)
  exact⟨_,.int _ _ _,rfl⟩
 | false =>
 rw[if_neg (by simp)]
 (refine Qa ?_;intros)
 refine zii (ztq (zs:=labs) rfl (by omega)) ?_;rintro _ _ _ hres;simp only[WF] at hres;obtain⟨rfl,rfl,rfl⟩:=hres;have hsl:(zgG labs).length=labs.length:=(zcv labs).length_eq;have hdup:=zpb labs;rw[hsl] at hdup;rw[←hsl] at hdup ⊢
 have hcl:(zal (zgG labs)).length≤(zgG labs).length:=by unfold zal;exact zqE
 generalize zgG labs=ss at hsl hdup hcl ⊢
 by_cases hnd:labs.Nodup
 ·
  rw[if_pos hnd];rw[dT hnd] at hdup;have hc:¬(zal ss).length < ss.length:=of_decide_eq_false hdup
  (refine Qa ?_;intros)
  (repeat' with_reducible apply WN)<;>(refine zbD [(0,0,0)] 1 _ (zqt ss 0 (by omega)) rfl rfl Qaq Qaq ?_;rintro _ _ _ ⟨rfl,rfl,rfl⟩;(refine QI ?_;intros);(repeat' with_reducible apply WN)<;>(refine zbD [(0,3,0)] 1 _ (ziA ss 0 (by omega)) rfl rfl Qaq Qaq ?_;rintro _ _ _ ⟨m,rfl,rfl,rfl⟩;(repeat first|simp(disch:=try exact dis1) only[evD,Nat.reduceBEq,Nat.reduceAdd,Nat.reduceLeDiff,renI,dF,zaC]|with_reducible first|intro _|refine aJ ?_);exact⟨_,.int _ _ _,rfl⟩))
 ·
  rw[if_neg hnd];rw[dF hnd] at hdup;have hc:(zal ss).length < ss.length:=of_decide_eq_true hdup
  (refine Qa ?_;intros)
  (repeat' with_reducible apply WN)<;>(refine zbD [(0,0,0)] 1 _ (zqt ss 0 (by omega)) rfl rfl Qaq Qaq ?_;rintro _ _ _ ⟨rfl,rfl,rfl⟩;(refine QI ?_;intros);(repeat' with_reducible apply WN)<;>(refine zbD [(0,3,0)] 1 _ (ziA ss 0 (by omega)) rfl rfl Qaq Qaq ?_;rintro _ _ _ ⟨m,rfl,rfl,rfl⟩;(repeat first|simp(disch:=try exact dis1) only[evD,Nat.reduceBEq,Nat.reduceAdd,Nat.reduceLeDiff,renI,dT,zaC]|with_reducible first|intro _|refine aJ ?_);exact⟨_,.int _ _ _,rfl⟩))
def inR (n:Nat) (l:List Int):Prop:=∀t∈l,0≤t∧t≤n
theorem inR.mono {n m:Nat} {l:List Int} (h:inR n l) (hm:n≤m):inR m l:=fun t ht=>by have:=h t ht;omega
def StOk (n:Nat) (s:PSt):Prop:=((s.kind=0∨s.kind=2)∧s.to=none)∨(s.kind=1∧∃l,s.to=some l∧inR n l)
theorem StOk.mono {n m:Nat} {s:PSt} (h:StOk n s) (hm:n≤m):StOk m s:=h.imp id fun⟨a,l,b,c⟩=>⟨a,l,b,c.mono hm⟩
structure WfP (p:PC):Prop where
 st:∀k s,p.st[k]? = some s→StOk p.st.length s∧(s.kind=0→k+1≤p.st.length)
 lp:∀x∈p.lp,0≤x.1∧x.1≤p.st.length
 lab:∀x∈p.lab,0≤x.2∧x.2≤p.st.length
theorem WfP.add {p:PC} (h:WfP p) {s:PSt} (hs:StOk (p.st.length+1) s):WfP (addP p s):=by
 have e:(addP p s).st.length=p.st.length+1:=by simp[addP]
 refine⟨fun k s' hk=>?_,fun x hx=>by rw[e];have:=h.lp x hx;omega,fun x hx=>by rw[e];have:=h.lab x hx;omega⟩;rw[e]
 have hkl:k < p.st.length+1:=by rw[←e];exact(List.getElem?_eq_some_iff.1 hk).1
 refine⟨?_,fun _=>by omega⟩;simp only[addP] at hk
 by_cases hlt:k < p.st.length
 · rw[List.getElem?_append_left hlt] at hk;exact(h.st k s' hk).1.mono (by omega)
 · rw[List.getElem?_append_right (by omega),show k - p.st.length=0 by omega] at hk;cases hk;exact hs
theorem WfP.mod {p:PC} (h:WfP p) {k:Nat} {f:List Int→List Int} (hf:∀l,inR p.st.length l→inR p.st.length (f l)):WfP { p with st:=p.st.modify k fun s=>{ s with to:=s.to.map f } }:=by
 refine⟨fun i s' hi=>?_,fun x hx=>by have:=h.lp x hx;simpa using this,fun x hx=>by have:=h.lab x hx;simpa using this⟩;simp only[WP,List.length_modify] at hi ⊢
 cases hs:p.st[i]? with
 | none=>rw[hs] at hi;cases hi
 |
  some s =>
  rw[hs] at hi;simp only[WQ,WE,Wx] at hi;obtain⟨h1,h2⟩:=h.st i s hs;split at hi
  ·
   subst hi;refine⟨?_,h2⟩
   rcases h1 with ⟨a,b⟩ | ⟨a,l,b,c⟩
   · exact .inl ⟨a,by simp[b]⟩
   · exact .inr ⟨a,f l,by simp[b],hf l c⟩
  · subst hi;exact⟨h1,h2⟩
theorem WfP.setTo {p:PC} (h:WfP p) {k i:Nat} {v:Int} (hv:0≤v∧v≤p.st.length):WfP (setTo p k i v):=h.mod fun l hl t ht=>by
 rcases W9 ht with ht|ht
 · exact hl t ht
 · rw[ht];exact hv
theorem WfP.appTo {p:PC} (h:WfP p) {k:Nat} {v:Int} (hv:0≤v∧v≤p.st.length):WfP (appTo p k v):=h.mod fun l hl t ht=>by
 rcases WB.1 ht with ht|ht
 · exact hl t ht
 · rw[Wa.1 ht];exact hv
theorem WfP.putAll:∀ {ks:List Int} {p:PC} {v:Int},WfP p→(0≤v∧v≤p.st.length)→WfP (putAll p ks v)
 | [],p,v,h,_=>h
 |
  k::ks,p,v,h,hv=>by
  unfold Go.Ab.putAll;rw[List.foldl_cons];exact WfP.putAll (ks:=ks) (h.setTo hv) (by simpa [Go.Ab.setTo] using hv)
theorem WfP.withLp {p:PC} (h:WfP p) {l:List (Int × List Int)} (hl:∀x∈l,0≤x.1∧x.1≤p.st.length):WfP { p with lp:=l }:=⟨h.st,hl,h.lab⟩
theorem WfP.withGot {p:PC} (h:WfP p) {l:List (Int × Int)}:WfP { p with got:=l }:=⟨h.st,h.lp,h.lab⟩
theorem WfP.jump {p:PC} (h:WfP p) {v:Int} (hv:0≤v∧v≤p.st.length+1):WfP (zaM p v):=h.add (.inr ⟨rfl,_,rfl,fun t ht=>by rw[Wa.1 ht];exact⟨hv.1,by have:=hv.2;omega⟩⟩)
theorem zCR {p:PC} (h:WfP p):0≤topL p.lp∧topL p.lp≤p.st.length:=by
 unfold topL
 cases hg:p.lp.getLast? with
 | none=>simp
 | some x=>exact h.lp x (Wan hg)
theorem WfP.push {p:PC} (h:WfP p) {t:Int} (ht:0≤t∧t≤p.st.length):WfP (zbu p t):=h.withLp fun x hx=>by
 rcases WB.1 hx with hx|hx
 · exact h.lp x hx
 · rw[Wa.1 hx];exact ht
theorem zAJ (p:PC) (v:Int):(zaM p v).st.length=p.st.length+1:=by simp[zaM,addP]
theorem WfP.close {q:PC} (h:WfP q) {top:Int} (ht:0≤top∧top≤q.st.length):WfP (zea q top):=by
 unfold zea
 have h1:WfP { q with lp:=q.lp.dropLast }:=h.withLp fun x hx=>h.lp x (Wao _ hx)
 exact WfP.putAll (h1.jump (by simp only;omega)) ⟨by omega,Wj _⟩
theorem zBe {l:List (Int × Int)} {k v:Int} {x:Int × Int} (h:x∈setL l k v):x∈l∨x=(k,v):=by
 unfold setL at h;split at h
 · exact W9 h
 ·
  rcases WB.1 h with h|h
  · exact .inl h
  · exact .inr (Wa.1 h)
mutual
theorem zqX:∀(n:Nd) (p:PC),WfP p→WfP (zaR n p)
 |
  .mk f c l,p,h=>by
  rw[zaR];split
  · exact zlZ l p h
  split
  · exact h.add (.inl ⟨.inl rfl,rfl⟩)
  split
  · simp only;have h1:WfP (za3 p):=h.add (.inr ⟨rfl,_,rfl,fun t ht=>by cases ht⟩);exact WfP.putAll (zBN p.st.length l (za3 p) [] h1) ⟨by omega,Wj _⟩
  split
  · have h1:=zlZ l _ (h.push (t:=p.st.length) ⟨by omega,Wj _⟩);have h2:=(zbZ l (zbu p p.st.length)).keep.len;exact h1.close ⟨by omega,by have:(zbu p p.st.length).st.length=p.st.length:=rfl;omega⟩
  split
  ·
   simp only;have h0:WfP (addP p ⟨0,f.block,none⟩):=h.add (.inl ⟨.inl rfl,rfl⟩)
   have hl:(zeV p f.block).st.length=p.st.length+2:=by simp[zeV,addP]
   have h1:WfP (zeV p f.block):=h0.add (.inr ⟨rfl,_,rfl,fun t ht=>by
    have e:(addP p ⟨0,f.block,none⟩).st.length=p.st.length+1:=by simp[addP]
    rw[e];simp only[Wi,Wae,or_false] at ht
    rcases ht with rfl|rfl<;>constructor<;>omega⟩)
   have h2:=zlZ l _ (h1.push (t:=p.st.length) ⟨by omega,by omega⟩);have h3:=(zbZ l (zbu (zeV p f.block) p.st.length)).keep.len;have e3:(zbu (zeV p f.block) p.st.length).st.length=p.st.length+2:=hl;have h4:=h2.close (top:=p.st.length) ⟨by omega,by omega⟩;exact h4.setTo ⟨by omega,Wj _⟩
  split
  ·
   have h1:WfP (zaM p 0):=h.jump ⟨Wj _,by omega⟩
   refine h1.withLp fun x hx=>?_
   unfold zkP at hx
   cases hg:p.lp.getLast? with
   | none=>rw[hg] at hx;exact h1.lp x hx
   |
    some y =>
    rw[hg] at hx
    rcases WB.1 hx with hx|hx
    · exact h1.lp x (Wao _ hx)
    · rw[Wa.1 hx];exact h1.lp y (Wan hg)
  split
  · have:=zCR h;exact h.jump ⟨this.1,by omega⟩
  split
  · exact(h.jump ⟨Wj _,by omega⟩).withGot
  split
  ·
   refine⟨h.st,h.lp,fun x hx=>?_⟩
   rcases zBe hx with hx|hx
   · exact h.lab x hx
   · rw[hx];exact⟨by simp only;omega,Wj _⟩
  split
  · exact h.add (.inl ⟨.inr rfl,rfl⟩)
  · exact h
theorem zlZ:∀(l:List Nd) (p:PC),WfP p→WfP (zaO l p)
 | [],p,h=>by rw[zaO];exact h
 |
  n::l,p,h=>by
  rw[zaO];exact zlZ l _ (zqX n p h)
theorem zBN (at':Nat):∀(l:List Nd) (p:PC) (ends:List Int),WfP p→WfP (brP at' l p ends).1
 | [],p,ends,h=>by rw[brP];exact h
 |
  n::l,p,ends,h=>by
  rw[brP];exact zBN at' l _ _ ((zqX n _ (h.appTo ⟨by omega,Wj _⟩)).jump ⟨Wj _,by omega⟩)
end
def NeF (b:Nat) (p:PC):Prop:=∀k m,b≤k→tlen p k=some m→0 < m
theorem NeF.none {p:PC}:NeF p.st.length p:=fun k m hk h=>by unfold tlen at h;rw[WO hk] at h;cases h
theorem NeF.mono {b c:Nat} {p:PC} (h:NeF b p) (hc:b≤c):NeF c p:=fun k m hk=>h k m (by omega)
theorem NeF.of_st {b:Nat} {p q:PC} (h:NeF b p) (e:q.st=p.st):NeF b q:=fun k m hk hm=>h k m hk (by unfold tlen at hm ⊢;rw[←e];exact hm)
theorem NeF.same {b:Nat} {p q:PC} (h:NeF b p) (e:∀k,tlen q k=tlen p k):NeF b q:=fun k m hk hm=>h k m hk (by rw[←e];exact hm)
theorem zpx {ks:List Int} {p:PC} {v:Int} (k:Nat):tlen (putAll p ks v) k=tlen p k:=zfe (b:=k+1) k (Wap k)
theorem zw8 {p:PC} {i j:Nat} {v:Int} (k:Nat):tlen (setTo p i j v) k=tlen p k:=ziq (b:=k+1) k (Wap k)
theorem NeF.add {b:Nat} {p:PC} (h:NeF b p) {s:PSt} (hs:∀l,s.to=some l→0 < l.length):NeF b (addP p s):=fun k m hk hm=>by
 by_cases hlt:k < p.st.length
 · exact h k m hk (by rw[←zbO (p:=p) (s:=s) (Wc _) k hlt];exact hm)
 ·
  unfold tlen addP at hm;simp only at hm
  by_cases hk2:k=p.st.length
  · subst hk2;simp only[Waa,Wo] at hm;obtain⟨l,h1,h2⟩:=Wab.1 hm;rw[←h2];exact hs l h1
  · rw[WO (by simp;omega)] at hm;cases hm
theorem NeF.jump {b:Nat} {p:PC} (h:NeF b p) {v:Int}:NeF b (zaM p v):=h.add fun l e=>by cases e;simp
theorem NeF.close {b:Nat} {q:PC} (h:NeF b q) {top:Int}:NeF b (zea q top):=by unfold zea;exact NeF.same (NeF.jump (h.of_st (q:={ q with lp:=q.lp.dropLast }) rfl)) (zpx)
theorem NeF.glue {b:Nat} {p q:PC} (hp:NeF b p) (hq:NeF p.st.length q) (hk:zen p.st.length p q):NeF b q:=fun k m h1 h2=>by
 rcases WS k p.st.length with h3|h3
 · exact hp k m h1 (by rw[←hk k h3];exact h2)
 · exact hq k m h3 h2
mutual
theorem zqO:∀(n:Nd) (p:PC),zft n=true→NeF p.st.length (zaR n p)
 |
  .mk f c l,p,hf=>by
  rw[zft,Wd] at hf;obtain⟨hfl,hff⟩:=hf;unfold zbR at hff;rw[Wd,decide_eq_true_eq] at hff;have hfp:=hff.1;rw[zaR];split
  · exact zlP l p hfl
  split
  · exact NeF.none.add fun l e=>by cases e
  split
  ·
   rename_i h1 h2 h3
   have hl:0 < l.length:=by unfold zS at hfp;omega
   simp only
   have h2':tlen (za3 p) p.st.length=some 0:=by unfold tlen za3 addP;simp
   have hb:=zBV p.st.length l (za3 p) [] 0 hfl (by simp[za3,addP]) h2' (NeF.mono NeF.none (by simp[za3,addP]));refine NeF.same (fun k m hk hm=>?_) zpx
   rcases Nat.eq_or_lt_of_le hk with he|hlt
   · subst he;rw[hb.2] at hm;cases hm;omega
   · exact hb.1 k m hlt hm
  split
  · exact(zlP l (zbu p p.st.length) hfl).close
  split
  ·
   simp only
   have h1:NeF p.st.length (zeV p f.block):=NeF.add (NeF.none.add fun l e=>by cases e) fun l e=>by cases e;simp
   have h2:=zlP l (zbu (zeV p f.block) p.st.length) hfl;have h3:NeF p.st.length (zaO l (zbu (zeV p f.block) p.st.length)):=NeF.glue (p:=zbu (zeV p f.block) p.st.length) (h1.of_st rfl) h2 (zdM l _ _ (Wc _));exact NeF.same h3.close (zw8)
  split
  · exact NeF.of_st (p:=zaM p 0) NeF.none.jump rfl
  split
  · exact NeF.none.jump
  split
  · exact NeF.of_st (p:=zaM p 0) NeF.none.jump rfl
  split
  · exact NeF.of_st (p:=p) NeF.none rfl
  split
  · exact NeF.none.add fun l e=>by cases e
  · exact NeF.none
theorem zlP:∀(l:List Nd) (p:PC),zeb l=true→NeF p.st.length (zaO l p)
 | [],p,_=>by rw[zaO];exact NeF.none
 |
  n::l,p,h=>by
  rw[zeb,Wd] at h;rw[zaO];exact NeF.glue (zqO n p h.1) (zlP l (zaR n p) h.2) (zdM l _ _ (Wc _))
theorem zBV (at':Nat):∀(l:List Nd) (p:PC) (ends:List Int) (m:Nat),zeb l=true→at' < p.st.length→tlen p at'=some m→NeF (at'+1) p→NeF (at'+1) (brP at' l p ends).1∧tlen (brP at' l p ends).1 at'=some (m+l.length)
 | [],p,ends,m,_,_,ht,hn=>by rw[brP];exact⟨hn,by simpa using ht⟩
 |
  n::l,p,ends,m,hf,hl,ht,hn=>by
  rw[zeb,Wd] at hf;rw[brP]
  have e1:(appTo p at' p.st.length).st.length=p.st.length:=by simp[appTo]
  have e2:=(zcc n (appTo p at' p.st.length)).keep.len
  have h0:NeF (at'+1) (appTo p at' p.st.length):=fun k m' hk hm=>hn k m' hk (by
   rw[←hm];unfold tlen appTo;simp only[WP]
   cases p.st[k]? with
   | none=>rfl
   |
    some s =>
    simp only[WQ,WE,Wo]
    rw[if_neg (by omega)])
  have h1:NeF (at'+1) (zaR n (appTo p at' p.st.length)):=NeF.glue h0 (zqO n _ hf.1) (zeL n _ _ (Wc _))
  have h3:tlen (zaM (zaR n (appTo p at' p.st.length)) 0) at'=some (m+1):=by rw[show tlen (zaM (zaR n (appTo p at' p.st.length)) 0) at'=tlen (zaR n (appTo p at' p.st.length)) at' from zbO (b:=at'+1) (by omega) at' (by omega),zeL n _ (at'+1) (by omega) at' (by omega)];exact znR ht
  have h4:=zBV at' l (zaM (zaR n (appTo p at' p.st.length)) 0) (ends++[((zaR n (appTo p at' p.st.length)).st.length:Int)]) (m+1) hf.2 (by rw[zAJ];omega) h3 h1.jump;refine⟨h4.1,?_⟩;rw[h4.2,Wk]
  congr 1
  omega
end
theorem zAV {n:Nat} {l:List (Int × Int)} (h:∀x∈l,0≤x.2∧x.2≤n) (k:Int):0≤zoi l k∧zoi l k≤n:=by
 unfold zoi
 cases hf:l.findIdx? (fun e=>decide (e.1=k)) with
 | none=>simp
 |
  some i =>
  have hi:i < l.length:=by rw[List.findIdx?_eq_some_iff_getElem] at hf;exact hf.1
  simp only
  have e:l.getD i (0,0)=l[i]:=by simp[Wf,hi]
  rw[e];exact h _ (Wl hi)
theorem wf_p0:WfP p0:=⟨fun k s h=>by simp[p0] at h,fun x hx=>(by cases hx),fun x hx=>(by cases hx)⟩
theorem zzb {e:Nd} (hs:zaJ e≤1000) (hf:zft e=true):OkR (zcs e).st:=by
 have hw:=zqX e p0 wf_p0;have hn:=zqO e p0 hf;have hp:=zcc e p0;have hlen:=hp.len;have hb:StB (zaJ e+2) (zaR e p0):=zma e p0 (zaJ e+2) (fun k m hm=>by unfold tlen p0 at hm;simp at hm) (Wc _)
 have hl:(zcs e).st.length=(zaR e p0).st.length+1:=by simp[zcs,fixK,zfp,addP]
 have hlp:(zaR e p0).st.length≤4004:=by have e1:p0.st.length=0:=rfl;have e2:p0.lab.length=0:=rfl;omega
 have hgot:∀k,0≤zlK (zfp e) k∧zlK (zfp e) k≤(zaR e p0).st.length:=fun k=>zAV hw.lab _
 have key:∀k (h:k < (zcs e).st.length),(k < (zaR e p0).st.length∧∃s,(zaR e p0).st[k]? = some s∧(zcs e).st[k].kind=s.kind∧((zcs e).st[k].to=s.to∨(zcs e).st[k].to=s.to.map fun l=>l.set 0 (zlK (zfp e) k)))∨(zcs e).st[k].kind=2:=by
  intro k h
  have e1:(zcs e).st[k]=if decide ((k:Int)∈(zfp e).got.map WA) then { (zfp e).st[k]'(by simpa [zcs,fixK] using h) with to:=((zfp e).st[k]'(by simpa [zcs,fixK] using h)).to.map fun l=>l.set 0 (zlK (zfp e) k) } else (zfp e).st[k]'(by simpa [zcs,fixK] using h):=by simp only[zcs,fixK,List.getElem_mapIdx]
  rw[e1]
  have hk2:k < (zfp e).st.length:=by simpa [zcs,fixK] using h
  by_cases hk:k < (zaR e p0).st.length
  ·
   have e2:(zfp e).st[k]=(zaR e p0).st[k]:=by simp only[zfp,addP];rw[List.getElem_append_left hk]
   refine .inl ⟨hk,_,Ww hk,?_⟩;split
   · rw[e2];exact⟨rfl,.inr rfl⟩
   · rw[e2];exact⟨rfl,.inl rfl⟩
  ·
   have e2:(zfp e).st[k]=⟨2,0,none⟩:=by simp only[zfp,addP];rw[List.getElem_append_right (by omega)];simp
   refine .inr ?_
   split<;>rw[e2]
 refine⟨by omega,by omega,fun k h=>?_,fun k h h0=>?_,fun k h h1=>?_⟩
 ·
  rcases key k h with ⟨_,s,h2,h3,_⟩|h2
  ·
   rw[h3]
   rcases(hw.st k s h2).1 with ⟨h4|h4,_⟩ | ⟨h4,_⟩<;>simp[h4]
  · exact .inr (.inr h2)
 ·
  rcases key k h with ⟨h2,_⟩|h2
  · omega
  · rw[h2] at h0;cases h0
 ·
  rcases key k h with ⟨hk,s,h2,h3,h4⟩|h2
  ·
   rw[h3] at h1
   rcases(hw.st k s h2).1 with ⟨h5|h5,_⟩ | ⟨_,l,h6,h7⟩
   · rw[h5] at h1;cases h1
   · rw[h5] at h1;cases h1
   ·
    have ht:tlen (zaR e p0) k=some l.length:=by unfold tlen;rw[h2,Wo,h6];rfl
    have hpos:=hn k l.length (Wg _) ht;have hbl:=hb k l.length ht
    rcases h4 with h4|h4
    · exact⟨l,by rw[h4,h6],hpos,by omega,fun t ht=>by have:=h7 t ht;omega⟩
    ·
     refine⟨l.set 0 (zlK (zfp e) k),by rw[h4,h6];rfl,by simpa using hpos,by simp;omega,fun t ht=>?_⟩
     rcases W9 ht with ht|ht
     · have:=h7 t ht;omega
     · have:=hgot k;omega
  · rw[h2] at h1;cases h1
def zcf (err:Int):AH:=[(0,.row 1 [] 0),(1,.row 1 [[.int .i64 err]] 0),(2,.row 1 [[.fn (.func zct) [.ptr 1 0 0 0 0]]] 0)]
theorem zpf (e:Int) (c:List (List AV)) (nx:Nat):zak Tryz.prog zct [.ptr 1 0 0 0 0] (zcf e++[(3,.row 2 c 0)]) nx (fun v H nx'=>H=zcf 15++[(3,.row 2 c 0)]):=by
 refine fn_x zoO rfl ?_;unfold zjX;have hB:=hBig;unfold zcf;simp only[Wu,Wv]
 (repeat first|simp(disch:=try exact dis1) only[evD,Nat.reduceBEq,Nat.reduceAdd,Nat.reduceLeDiff,zjV]|with_reducible first|intro _|refine aJ ?_)
theorem lowN {e:Int}:LowH 3 (zcf e):=.cons (by decide) (fun c h=>by cases h) (.cons (by decide) (zq5 (.int _ _)) (.cons (by decide) (zq5 (.fn _ _ fun a ha=>by rw[Wa.1 ha];exact .ptr _ _ _ _ _ (by decide))) (.nil 3)))
def zw7 (st:List PSt) (cs:List Int):List AV:=[.iptr 1 fun j=>[encL 1 cW cs].getD j .undef,.iptr 1 fun j=>[zqP st].getD j .undef,.ptr 2 0 0 0 0]
def zvI (lp:Nat) (st:List PSt) (cs:List Int) (a i:Nat):Kn:=[(0,.fn (.yield lp) []),(2,.iptr 1 fun j=>[zqP st].getD j .undef),(3,.ptr 2 0 0 0 0),(5,.ptr 3 0 0 0 0),(6,.int .i64 i),(7,.int .i64 a)]
theorem lowR {e:Int} {c:List (List AV)} (hc:∀x∈c,∀v∈x,AV.Below 4 v):LowH 4 (zcf e++[(3,.row 2 c 0)]):=.cons (by decide) (fun c h=>by cases h) (.cons (by decide) (zq5 (.int _ _)) (.cons (by decide) (zq5 (.fn _ _ fun a ha=>by rw[Wa.1 ha];exact .ptr _ _ _ _ _ (by decide))) (.cons (by decide) hc (.nil 4))))
theorem chB {cs:List Int} {j:Nat}:∀x∈[[encL 1 cW cs,AV.int .i64 j]],∀v∈x,AV.Below 4 v:=fun x hx v hv=>by
 rw[Wa.1 hx] at hv
 rcases Wi.1 hv with h|hv
 · rw[h];exact .sl _ _ _
 · rw[Wa.1 hv];exact .int _ _
theorem endN {st:List PSt} {cs:List Int} {lp a i j nx:Nat} {K:Kn} {T:AH} (h0:K.get 0=.fn (.yield lp) []) (h2:K.get 2=.iptr 1 fun j=>[zqP st].getD j .undef) (h3:K.get 3=.ptr 2 0 0 0 0) (h5:K.get 5=.ptr 3 0 0 0 0) (h6:K.get 6=.int .i64 i) (h7:K.get 7=.int .i64 a) :
  Ent 3 K ((zcf 0++[(3,.row 2 [[encL 1 cW cs,.int .i64 j]] 0)])++T) nx (zvI lp st cs a i) (zcf 0++[(3,.row 2 [[encL 1 cW cs,.int .i64 j]] 0)]) 4 :=
 Ent.lowB (by decide) (fun r o h=>by rw[AH.look_app2,h]) (lowR chB) ⟨⟨h0,.fn _ _ fun a h=>by cases h⟩,⟨h2,.iptr _ _⟩,⟨h3,.ptr _ _ _ _ _ (by decide)⟩,⟨h5,.ptr _ _ _ _ _ (by decide)⟩,⟨h6,.int _ _⟩,⟨h7,.int _ _⟩,trivial⟩
theorem zA7 {st:List PSt} {cs:List Int} {lp a i j nx:Nat} {K:Kn} {x:AObj} (h0:K.get 0=.fn (.yield lp) []) (h2:K.get 2=.iptr 1 fun j=>[zqP st].getD j .undef) (h3:K.get 3=.ptr 2 0 0 0 0) (h5:K.get 5=.ptr 3 0 0 0 0) (h6:K.get 6=.int .i64 i) (h7:K.get 7=.int .i64 a) :
  Ent 3 K (zcf 0++[(4,x),(3,.row 2 [[encL 1 cW cs,.int .i64 j]] 0)]) nx (zvI lp st cs a i) (zcf 0++[(3,.row 2 [[encL 1 cW cs,.int .i64 j]] 0)]) 4 :=
 Ent.lowB (by decide) (fun r o h=>by
  rw[AH.look_app2] at h ⊢
  cases hr:AH.look (zcf 0) r with
  | some o=>rw[hr] at h;exact h
  |
   none =>
   rw[hr] at h;simp only[AH.look] at h ⊢
   cases h3:Wh 3 r with
   | false=>rw[h3] at h;cases h
   |
    true =>
    rw[h3] at h;rw[←zU h3]
    exact h) (lowR chB) ⟨⟨h0,.fn _ _ fun a h=>by cases h⟩,⟨h2,.iptr _ _⟩,⟨h3,.ptr _ _ _ _ _ (by decide)⟩,⟨h5,.ptr _ _ _ _ _ (by decide)⟩,⟨h6,.int _ _⟩,⟨h7,.int _ _⟩,trivial⟩
theorem Qal {p q:Prop}(k:q)(h:Im q p:=by(repeat first|simp(disch:=try exact dis1) only[evD,Nat.reduceBEq,Nat.reduceAdd,Nat.reduceLeDiff,zls] | ((with_reducible apply Im.i);intro _) | ((with_reducible apply Im.a);omega));exact Im.r):p:=h k
theorem zp2 (st:List PSt) (cs:List Int) (hst:OkR st) (hcs:cs.length≤1000000) (hw:∀c∈cs,0≤c∧c < 4294967296) (n:Nat) (hn:0 < n) :
  ItOk Tryz.prog zbU (zw7 st cs) (zcf 0) 3 (zjR st cs) (fun s=>0 < s.1) (n,0,0) (fun s H nx=>(match s with|some s=>zjR st cs s=none|none=>True)∧(AH.upto H 3=zcf (match s with|some s=>endR st cs s|none=>0))):=by
 refine zvi zlD rfl rfl fun E hE=>?_
 unfold zgS zw7;have hB:=hBig;refine WpA.seq (WpA.pure ?_);simp only[zcf]
 (refine Qo ?_;intros)
 rw[zar];refine WpA.seq (WpA.pure ?_)
 (refine Qo ?_;intros)
 rw[zar];refine WpA.seq (WpA.pure ?_)
 (refine Qo ?_;intros)
 rw[zar]
 refine WpA.block (WpA.loop (fun x:(Nat × Nat × Nat) × (Nat × Nat × Nat × Nat)=>(zvI E.lp st cs x.2.1 x.2.2.1,zcf 0++[(3,.row 2 [[encL 1 cW cs,.int .i64 x.2.2.2.1]] 0)],some x.1)) 4
  (fun x=>0 < x.1.1∧x.2.1 < st.length∧x.2.2.1≤st.length+1∧x.2.2.2.1≤cs.length∧muR st cs x.2.2.1 x.2.2.2.1≤x.2.2.2.2∧x.2.2.2.2≤zpU st cs∧goR st cs x.2.2.2.2 x.2.1 x.2.2.1 x.2.2.2.1=goR st cs (zpU st cs) x.1.2.1 0 x.1.2.2)
  (fun x=>x.1.1 * (zpU st cs+1)+x.2.2.2.2) ((n,0,0),(0,0,0,zpU st cs)) ⟨hn,hst.pos,Wg _,Wg _,zvT,Wc _,rfl⟩ ?_ rfl ?_)
 · rw[hE];exact endN (T:=[]) rfl rfl rfl rfl rfl rfl
 ·
  rintro⟨⟨k,a0,j0⟩,⟨a,i,j,f⟩⟩ ⟨hk,ha,hi,hj,hm,hf,hg⟩ wf;simp only at hk ha hi hj hm hf hg;clear wf;unfold zeH;simp only[zvI,zqP,zcf,Wu,Wv];obtain⟨f,rfl⟩:∃f',f=f'+1:=⟨f - 1,by unfold muR at hm;omega⟩;rw[goR] at hg;have hsl:=hst.len;have hcell:(st.map cPs).getD a []=cPs st[a]:=zp ha
  have hgd:st.getD a ⟨2,0,none⟩=st[a]:=by simp[Wf,ha]
  rw[hgd] at hg;refine WpA.block (WpA.seq (WpA.seq (WpA.pure ?_)))
  (repeat first|simp(disch:=try exact dis1) only[evD,Nat.reduceBEq,Nat.reduceAdd,Nat.reduceLeDiff,fldP,za]|with_reducible first|intro _|refine aJ ?_)
  by_cases hend:st.length < i
  ·
   rw[if_pos hend] at hg;refine WpA.cond (t:=true) (by show AV.bool (decide _)=_;simp;omega) (fun _=>WpA.pure ?_) (fun h=>by cases h)
   (refine Qa ?_;intros)
   refine⟨by kernel_rfl,zii (zpf 0 _ _) ?_⟩;rintro v H' nx' rfl;simp only[zcf,Wu,Wv]
   (refine Qa ?_;intros)
   refine⟨?_,?_⟩
   · simp only[zjR,←hg]
   · simp only[endR,←hg];rfl
  ·
   rw[if_neg hend] at hg;refine WpA.cond (t:=false) (by show AV.bool (decide _)=_;simp;omega) (fun h=>by cases h) (fun _=>WpA.pure ?_)
   (refine Qa ?_;intros)
   rw[zar];refine WpA.seq (WpA.pure ?_)
   (refine Qa ?_;intros)
   rw[zar];refine WpA.seq (WpA.pure ?_)
   (repeat first|simp(disch:=try exact dis1) only[evD,Nat.reduceBEq,Nat.reduceAdd,Nat.reduceLeDiff,fldP,dT,za,hcell,cPs]|with_reducible first|intro _|refine aJ ?_)
   have hkd:=hst.kind a ha;have hla:=hst.last a ha;have hto:=hst.to a ha;generalize st[a]=s at hg hcell hkd hla hto ⊢;obtain⟨kd,bl,to⟩:=s;simp only at hg hkd hla hto ⊢;rw[zar];refine WpA.seq (WpA.pure ?_)
   (refine Ql ?_;intros)
   rw[zar];refine WpA.block (WpA.seq (WpA.pure ?_))
   (refine Qa ?_;intros)
   rw[zar]
   by_cases h2:kd=2
   ·
    rw[if_pos h2] at hg;refine WpA.cond (t:=true) (by show AV.bool (decide _)=_;simp[h2]) (fun _=>WpA.pure ?_) (fun h=>by cases h)
    (refine Qa ?_;intros)
    refine⟨?_,?_⟩
    · simp only[zjR,←hg]
    · simp only[endR,←hg];rfl
   rw[if_neg h2] at hg;refine WpA.cond (t:=false) (by show AV.bool (decide _)=_;simp[h2]) (fun h=>by cases h) (fun _=>WpA.seq (WpA.pure ?_))
   (refine Qa ?_;intros)
   rw[zar]
   by_cases h0:kd=0
   ·
    rw[if_pos h0] at hg;have hla:=hla h0;refine WpA.cond (t:=true) (by show AV.bool (decide _)=_;simp[h0]) (fun _=>WpA.seq (WpA.seq (WpA.region ?_))) (fun h=>by cases h);refine WpAL.pre (pre:=[_,_,_]) rfl ?_
    (repeat first|simp(disch:=try exact dis1) only[evD,Nat.reduceBEq,Nat.reduceAdd,Nat.reduceLeDiff,fldP,zls]|with_reducible first|intro _|refine aJ ?_)
    have hnx:zjR st cs (k,a0,j0)=some ([.int .i64 bl],(k - 1,a+1,j)):=by simp only[zjR,←hg]
    refine WpAL.yield (s':=(k - 1,a+1,j)) rfl hnx ?_ (fun hok=>WpAL.pre (pre:=[_]) rfl ?_) (WpAL.pre (pre:=[_]) rfl ?_)
    ·
     intro x hx
     have e:x=.int .i64 bl:=by
      rcases Wi.1 hx with h|h
      · exact h
      · cases h
     rw[e];exact .int _ _
    ·
     (refine Qal ?_;intros)
     refine WpAL.nil ?_;rw[zar];refine WpA.cond (t:=false) rfl (fun h=>by cases h) (fun _=>WpA.pure ?_)
     (refine Qa ?_;intros)
     rw[zar];refine WpA.pure ?_
     (refine Qa ?_;intros)
     rw[zbk,zbk,zcg];refine⟨((k - 1,a+1,j),(a+1,0,j,zpU st cs)),⟨hok,hla,Wg _,hj,zvT,Wc _,rfl⟩,?_,?_,rfl⟩
     · simp only;obtain⟨k',rfl⟩:∃k',k=k'+1:=⟨k - 1,by omega⟩;rw[WY];simp only[Nat.add_sub_cancel];omega
     · rw[hE];exact endN (T:=[_]) rfl rfl rfl rfl rfl rfl
    ·
     (refine Qal ?_;intros)
     refine WpAL.nil ?_;rw[zar];refine WpA.cond (t:=true) rfl (fun _=>WpA.pure ?_) (fun h=>by cases h)
     (refine Qa ?_;intros)
     exact⟨trivial,rfl⟩
   ·
    rw[if_neg h0] at hg
    have h1:kd=1:=by
     rcases hkd with h|h|h
     · exact absurd h h0
     · exact h
     · exact absurd h h2
    obtain⟨l,rfl,hl0,hl1,hlt⟩:=hto h1;simp only[Option.getD_some] at hg;refine WpA.cond (t:=false) (by show AV.bool (decide _)=_;simp[h0]) (fun h=>by cases h) (fun _=>WpA.pure ?_);have hlen:((zCF (some l))=za l):=rfl
    have hB0:l.length≤big:=by omega
    have hpick:muR st cs (if (zgt cs j l.length).2 then 0 else i+1) (zlj cs j) < muR st cs i j:=zAq hj (by omega);have hpv:=zsh (cs:=cs) (j:=j) (n:=l.length) (by omega);have hpj:=zvU hj
    have hpl:(zgt cs j l.length).1.toNat < l.length:=by omega
    have ht:=hlt (l.getD (zgt cs j l.length).1.toNat 0) (zrp hpl)
    have e0:((List.map (fun n=>[AV.int .i64 n]) l).getD (zgt cs j l.length).1.toNat [])=[.int .i64 (((l.getD (zgt cs j l.length).1.toNat 0).toNat:Nat):Int)]:=by rw[WX ht.1];simp[Wf,hpl]
    have hpk:=(zff cs j l.length (by omega) (by omega) (by omega) hw)
    by_cases hc:l.length=1∧bl ≠ -1
    ·
     rw[if_pos hc] at hg
     have hd1:decide ((l.length:Int)=1)=true:=by simp;omega
     have hd2:decide (bl = -1)=false:=by simp[hc.2]
     have ht0:=hlt (l.getD 0 0) (zrp hl0)
     have e1:((List.map (fun n=>[AV.int .i64 n]) l).getD (Int.toNat 0) [])=[.int .i64 (((l.getD 0 0).toNat:Nat):Int)]:=by rw[WX ht0.1];simp[Wf,hl0]
     (repeat first|simp(disch:=try exact dis1) only[evD,Nat.reduceBEq,Nat.reduceAdd,Nat.reduceLeDiff,fldP,dT,za,hlen,h1,hd1,hd2,e1]|with_reducible first|intro _|refine aJ ?_)
     rw[zpm,show Wh 1 2=false from rfl,cond_false,zpm,show Wh 1 1=true from rfl,cond_true,zcg];refine⟨((k,a0,j0),((l.getD 0 0).toNat,i+1,j,f)),⟨hk,by dsimp only;omega,by dsimp only;omega,hj,by have:=zAr (st:=st) (cs:=cs) (i:=i) (j:=j) (by omega);dsimp only;omega,by dsimp only;omega,hg⟩,by dsimp only;omega,?_,rfl⟩;rw[hE];exact endN (T:=[_]) rfl rfl rfl rfl rfl rfl
    ·
     rw[if_neg hc] at hg;clear hto;obtain⟨pk,used,hpe⟩:∃pk used,zgt cs j l.length=(pk,used):=⟨_,_,rfl⟩;simp only[hpe] at hg hpick hpv hpl ht e0 hpk
     by_cases hl2:l.length=1
     ·
      have hd1:decide ((l.length:Int)=1)=true:=by simp;omega
      have hd2:decide (bl ≠ -1)=false:=by
       rw[decide_eq_false_iff_not]
       exact fun h=>hc ⟨hl2,h⟩
      (repeat first|simp(disch:=try exact dis1) only[evD,Nat.reduceBEq,Nat.reduceAdd,Nat.reduceLeDiff,fldP,dT,za,hlen,h1,hd1,hd2]|with_reducible first|intro _|refine aJ ?_)
      refine zbD [(0,3,0)] 1 _ (hpk) rfl rfl Qas Qas ?_;rintro v H' nx' ⟨rfl,rfl,rfl⟩
      cases used with
      |
       true =>
       (repeat first|simp(disch:=try exact dis1) only[evD,Nat.reduceBEq,Nat.reduceAdd,Nat.reduceLeDiff,fldP,dT,za,hlen,e0]|with_reducible first|intro _|refine aJ ?_)
       rw[zbk,zbk,zcg];refine⟨((k,a0,j0),((l.getD pk.toNat 0).toNat,0,zlj cs j,f)),⟨hk,by dsimp only;omega,Wg _,hpj,by simp only[if_true] at hpick;dsimp only;omega,by dsimp only;omega,hg⟩,by dsimp only;omega,?_,rfl⟩;rw[hE];refine zA7 ?_ ?_ ?_ ?_ ?_ ?_
       all_goals rfl
      |
       false =>
       (repeat first|simp(disch:=try exact dis1) only[evD,Nat.reduceBEq,Nat.reduceAdd,Nat.reduceLeDiff,fldP,dT,za,hlen,e0]|with_reducible first|intro _|refine aJ ?_)
       rw[zbk,zbk,zcg];refine⟨((k,a0,j0),((l.getD pk.toNat 0).toNat,i+1,zlj cs j,f)),⟨hk,by dsimp only;omega,by dsimp only;omega,hpj,by simp only[WZ,if_false] at hpick;dsimp only;omega,by dsimp only;omega,hg⟩,by dsimp only;omega,?_,rfl⟩;rw[hE];refine zA7 ?_ ?_ ?_ ?_ ?_ ?_
       all_goals rfl
     ·
      have hd1:decide ((l.length:Int)=1)=false:=by simp;omega
      (repeat first|simp(disch:=try exact dis1) only[evD,Nat.reduceBEq,Nat.reduceAdd,Nat.reduceLeDiff,fldP,dT,za,hlen,h1,hd1]|with_reducible first|intro _|refine aJ ?_)
      refine zbD [(0,3,0)] 1 _ (hpk) rfl rfl Qas Qas ?_;rintro v H' nx' ⟨rfl,rfl,rfl⟩
      cases used with
      |
       true =>
       (repeat first|simp(disch:=try exact dis1) only[evD,Nat.reduceBEq,Nat.reduceAdd,Nat.reduceLeDiff,fldP,dT,za,hlen,e0]|with_reducible first|intro _|refine aJ ?_)
       rw[zbk,zbk,zcg];refine⟨((k,a0,j0),((l.getD pk.toNat 0).toNat,0,zlj cs j,f)),⟨hk,by dsimp only;omega,Wg _,hpj,by simp only[if_true] at hpick;dsimp only;omega,by dsimp only;omega,hg⟩,by dsimp only;omega,?_,rfl⟩;rw[hE];refine zA7 ?_ ?_ ?_ ?_ ?_ ?_
       all_goals rfl
      |
       false =>
       (repeat first|simp(disch:=try exact dis1) only[evD,Nat.reduceBEq,Nat.reduceAdd,Nat.reduceLeDiff,fldP,dT,za,hlen,e0]|with_reducible first|intro _|refine aJ ?_)
       rw[zbk,zbk,zcg];refine⟨((k,a0,j0),((l.getD pk.toNat 0).toNat,i+1,zlj cs j,f)),⟨hk,by dsimp only;omega,by dsimp only;omega,hpj,by simp only[WZ,if_false] at hpick;dsimp only;omega,by dsimp only;omega,hg⟩,by dsimp only;omega,?_,rfl⟩;rw[hE];refine zA7 ?_ ?_ ?_ ?_ ?_ ?_
       all_goals rfl
def zqC {σ:Type} (next:σ→Option (List AV × σ)):Nat→σ→Option σ
 | 0,_=>none
 |
  k+1,s=>match next s with
  | none=>some s
  | some (_,s')=>zqC next k s'
def boxN:List Int→AH
 | []=>[(4,.row 1 [[.nilsl]] 0)]
 | x::l=>[(4,.row 1 [[.own 5 0 0 0 (x::l).length]] 0),(5,.row 1 ((x::l).map cI) 0)]
theorem zxs:∀l:List Int,HighH 3 (boxN l)
 | []=>.cons (by decide) (cellF .nilsl) (.nil 3)
 | x::l=>.cons (by decide) (cellF (.own _ _ _ _ _ (by decide))) (.cons (by decide) (fun c hc v hv=>by
   obtain⟨i,_,rfl⟩:=Wp.1 hc;rw[show cI i=[AV.int .i64 i] from rfl,Wa] at hv;rw[hv]
   exact .int _ _) (.nil 3))
def zgZ (st:List PSt) (cs:List Int) (n:Nat):Int:=match zqC (zjR st cs) n (n,0,0) with
 | some s=>endR st cs s
 | none=>0
def zmN (st:List PSt) (cs:List Int) (n:Nat):List Int:=itv (zjR st cs) (valR st cs) n (n,0,0)
theorem retN {e:Int} {l:List Int} {H:AH} {nx:Nat} {v:AV} (hH:∀r o,(zcf e).look r=some o→H.look r=some o) (hv:Vw H (zcf e) (zk8 3) (fun r _=>3≤r) true v (za l)):zsd 3 (fun v H nx=>v=za l∧H=zcf e∧nx=3) v H nx :=
 ⟨_,_,_,Ent.lowFB (by decide) hH lowN ⟨hv,trivial⟩,rfl,rfl,rfl⟩
theorem zqv {st:List PSt} {cs:List Int}:∀ {k:Nat} {s0 s:Nat × Nat × Nat},itn (zjR st cs) k s0=some s→s.1=s0.1 - k
 | 0,s0,s,h=>by cases h;rfl
 |
  k+1,s0,s,h=>by
  rw[itn] at h;unfold zjR at h;split at h
  · cases h
  ·
   rename_i x s' hx;split at hx
   · simp only[Wx,WF] at hx;have:=zqv (st:=st) (cs:=cs) h;rw[this,←hx.2];simp only;omega
   · cases hx
theorem Qav {p:Prop}(h:p:=by(try simp only[evWB,Nat.reduceBEq,Nat.reduceAdd,Nat.reduceSub,Nat.reduceLeDiff,Nat.reduceLT,implies_true,boxN])<;>exact fin1):p:=h
theorem Qaw {p:Prop}(h:p:=by(try simp only[evWB,Nat.reduceBEq,Nat.reduceAdd,Nat.reduceSub,Nat.reduceLeDiff,Nat.reduceLT,implies_true,boxN,List.length_append,List.map_append,List.map_cons,List.map_nil,List.length_cons,List.length_nil,cI])<;>exact fin1):p:=h
theorem zoj (st:List PSt) (cs:List Int) (hst:OkR st) (hcs:cs.length≤1000000) (hw:∀c∈cs,0≤c∧c < 4294967296) (n:Int) (hn:n≤1000000) :
  zak Tryz.prog zc5 [.fn (.func zbU) (zw7 st cs),.int .i64 n] (zcf 0) 3 (fun v H nx=>v=za (zmN st cs n.toNat)∧H=zcf (zgZ st cs n.toNat)∧nx=3):=by
 refine zan (fn_x zkE rfl ?_);unfold zhE;have hB:=hBig
 by_cases h0:n≤0
 ·
  have e:n.toNat=0:=by omega
  unfold zmN zgZ;rw[e];simp only[zcf]
  (refine QS ?_;intros)
  exact retN (e:=0) (fun r o h=>by
   refine Wz (AH.look_app2 r (zcf 0) [_,_]) ?_
   rw[h]) (.nil0 _ _ _)
 ·
  have hit:=zp2 st cs hst hcs hw n.toNat (by omega)
  have hval:∀s x s',zjR st cs s=some (x,s')→x=[.int .i64 (valR st cs s)]:=fun s x s' h=>by
   unfold zjR at h;unfold valR;split at h
   · simp only[Wx,WF] at h;rw[←h.1]
   · cases h
  simp only[zcf]
  (refine Qk ?_;intros)
  unfold zmN zgZ;generalize hS:zqC (zjR st cs) n.toNat (n.toNat,0,0)=S;generalize hR:itv (zjR st cs) (valR st cs) n.toNat (n.toNat,0,0)=R
  have hRl:R.length≤n.toNat:=by rw[←hR];exact zus _ _ _ _
  have hcaps:∀c∈zw7 st cs,AV.Below 3 c:=fun c hc=>by
   rcases Wi.1 hc with h|hc
   · rw[h];exact .iptr _ _
   rcases Wi.1 hc with h|hc
   · rw[h];exact .iptr _ _
   · rw[Wa.1 hc];exact .ptr _ _ _ _ _ (by decide)
  refine zoS 3 (zcf 0) (fun s H=>H=zcf (match s with|some s=>endR st cs s|none=>0)) (by kernel_rfl) hcaps hit (fun s x s' h=>by rw[hval s x s' h];rfl) [(3,.iptr 1 fun j=>[AV.int .i64 n].getD j .undef),(5,.ptr 4 0 0 0 0)] boxN 6
   (fun a s=>a++itv (zjR st cs) (valR st cs) (n.toNat - a.length) s=R∧a.length < n.toNat∧itn (zjR st cs) a.length (n.toNat,0,0)=some s∧zqC (zjR st cs) (n.toNat - a.length) s=S) (fun a e=>e=.exit 0∧a=R∧S=none) []
   ⟨Wc _,lowN,fun s H' h=>by rw[h];exact lowN,zxs,fun i=>?_⟩ (fun a s h=>by have:=zqv h.2.2.1;have:=h.2.1;dsimp only at *;omega) ⟨hR,by simp;omega,rfl,hS⟩ ?_ ?_ ?_ ?_
  ·
   simp only[Kn.get];cases Wh 3 i
   ·
    simp only[cond_false];cases Wh 5 i
    · exact .undef
    · exact .ptr _ _ _ _ _ (by decide)
   · exact .iptr _ _
  ·
   refine Ent.lowB (by decide) ?_ (.cons (by decide) (fun c h=>by cases h) (.cons (by decide) (zq5 (.int _ _)) (.cons (by decide) (zq5 (.fn _ _ fun a ha=>by rw[Wa.1 ha];exact .ptr _ _ _ _ _ (by decide))) (.cons (by decide) (zq5 .nilsl) (.nil 6))))) ⟨⟨rfl,.iptr _ _⟩,⟨rfl,.ptr _ _ _ _ _ (by decide)⟩,trivial⟩;intro r o h;refine Wz (AH.look_app2 r (zcf 0) [(3,.row 1 [] 0),(4,.row 1 [[.nilsl]] 0)]) ?_;rw[AH.look_app2] at h
   cases hr:AH.look (zcf 0) r with
   | some o=>rw[hr] at h;exact h
   |
    none =>
    rw[hr] at h;simp only[boxN,AH.look] at h ⊢
    cases h3:Wh 4 r with
    | false=>rw[h3] at h;cases h
    |
     true =>
     rw[h3] at h;rw[←zU h3];exact h
  ·
   rintro a s x s' ⟨h1,h2,h3,h6⟩ hx wf;have hxv:=hval _ _ _ hx;subst hxv;clear wf;simp only[zjj];unfold zeZ
   have hm:n.toNat - a.length=(n.toNat - a.length - 1)+1:=by omega
   rw[hm,itv,hx] at h1;rw[hm,zqC,hx] at h6;simp only at h1 h6;have h4:=zra h3 hx;generalize valR st cs s=v at *
   cases a with
   |
    nil =>
    simp only[boxN]
    (refine Qa ?_;intros)
    unfold zcb
    (refine Qa ?_;intros)
    (refine zE (fun hc=>?_) (fun hc=>?_))<;>(try simp only[dcd] at hc)
    ·
     (refine Qa ?_;intros)
     have e:n.toNat - ([]:List Int).length - 1=0:=by simp only[Wn];omega
     exact⟨[v],⟨by rw[←h1,e,itv];rfl,by rw[←h6,e];rfl⟩,(Ent.tabB [(0,0,0),(1,1,0),(2,2,0),(4,4,0),(5,7,0)] [] rfl rfl rfl Qav Qav)⟩
    ·
     (refine Qa ?_;intros)
     refine⟨[v],⟨by rw[←h1];rfl,by simp only[Wk,Wn];omega,h4,by rw[←h6];rfl⟩,(Ent.tabB [(0,0,0),(1,1,0),(2,2,0),(4,4,0),(5,7,0)] [] rfl rfl rfl Qav Qav)⟩
   |
    cons y l =>
    simp only[boxN]
    have h5:l.length+1 < n.toNat:=by simpa using h2
    (refine Qa ?_;intros)
    unfold zcb
    (refine Qa ?_;intros)
    (refine zE (fun hc=>?_) (fun hc=>?_))<;>(try simp only[dcd] at hc)
    ·
     (refine Qa ?_;intros)
     have e:n.toNat - (y::l).length - 1=0:=by simp only[Wk];omega
     exact⟨y::(l++[v]),⟨by rw[←h1,e,itv];rfl,by rw[←h6,e];rfl⟩,(Ent.tabB [(0,0,0),(1,1,0),(2,2,0),(4,4,0),(5,5,1)] [] rfl rfl rfl Qaw Qaw)⟩
    ·
     (refine Qa ?_;intros)
     have e:(y::(l++[v])).length=(y::l).length+1:=by simp
     exact⟨y::(l++[v]),⟨by rw[←h1,e];simp[Nat.sub_sub],by rw[e];simp only[Wk] at h2 hc ⊢;omega,by rw[e];exact h4,by rw[←h6,e];simp only[Nat.sub_sub]⟩,(Ent.tabB [(0,0,0),(1,1,0),(2,2,0),(4,4,0),(5,5,1)] [] rfl rfl rfl Qaw Qaw)⟩
  ·
   rintro a s H' ⟨h1,h2,h3,h6⟩ hx rfl
   have hm:n.toNat - a.length=(n.toNat - a.length - 1)+1:=by omega
   rw[hm,itv,hx] at h1;simp only[W5] at h1;subst h1;rw[hm,zqC,hx] at h6;simp only at h6;subst h6
   cases a with
   |
    nil =>
    simp only[boxN,zcf,Wu,Wv]
    (refine Qa ?_;intros)
    unfold zaw
    (refine Qr ?_;intros)
    exact retN (fun r o h=>by
     refine Wz (AH.look_app2 r (zcf _) _) ?_
     rw[h]) (.nil0 _ _ _)
   |
    cons y l =>
    simp only[boxN,zcf,Wu,Wv]
    (refine Qa ?_;intros)
    unfold zaw
    (refine Qr ?_;intros)
    exact retN (fun r o h=>by
     refine Wz (AH.look_app2 r (zcf _) _) ?_
     rw[h]) (z6 (l:=y::l) (show 3≤5 by decide) rfl (by omega))
  ·
   rintro a e H' ⟨rfl,rfl,rfl⟩ rfl
   cases a with
   |
    nil =>
    simp only[boxN,zcf,Wu,Wv]
    (refine Qa ?_;intros)
    unfold zaw
    (refine Qr ?_;intros)
    exact retN (fun r o h=>by
     refine Wz (AH.look_app2 r (zcf _) _) ?_
     rw[h]) (.nil0 _ _ _)
   |
    cons y l =>
    simp only[boxN,zcf,Wu,Wv]
    (refine Qa ?_;intros)
    unfold zaw
    (refine Qr ?_;intros)
    exact retN (fun r o h=>by
     refine Wz (AH.look_app2 r (zcf _) _) ?_
     rw[h]) (z6 (l:=y::l) (show 3≤5 by decide) rfl (by omega))
theorem zmL (st:List PSt) (cs:List Int) (hcs:cs.length≤1000000) (hst:st.length≤1000000):zak Tryz.prog zfx [zqP st,encL 1 cW cs,.fn (.func zct) [.ptr 1 0 0 0 0]] [(0,.row 1 [] 0),(1,.row 1 [[.int .i64 0]] 0)] 2
  (fun v H nx=>v=.fn (.func zbU) (zw7 st cs)∧H=zcf 0∧nx=3):=by
 refine fn_x zmF rfl ?_;unfold zh0;have hB:=hBig;unfold zqP zw7 zcf
 (repeat first|simp(disch:=try exact dis1) only[evD,Nat.reduceBEq,Nat.reduceAdd,Nat.reduceLeDiff,za,zhU]|with_reducible first|intro _|refine aJ ?_)
 exact⟨⟨rfl,rfl⟩,rfl⟩
mutual
theorem zse:∀(e:Nd) (b:Bool),zd5 e b=zkz e b
 |
  .mk f c l,b=>by
  rw[zd5,zkz,zqk l,Bool.or_assoc];simp only[zhP,Bool.decide_or]
theorem zqk:∀(l:List Nd) (b:Bool),zaY l b=zef l b
 | [],b=>by rw[zaY,zef]
 | e::l,b=>by rw[zaY,zef,zse e,zqk l]
end
def zrW (g:G) (e:Nd) (cs:List Int) (most:Int):AV :=
 if zl4 g e≠0 then .tup [za [],.int .i64 (zl4 g e)] else if 65536 < most then .tup [za [],.int .i64 6] else
 if zgZ (zcs e).st cs most.toNat≠0 then .tup [za [],.int .i64 (zgZ (zcs e).st cs most.toNat)] else .tup [za (zmN (zcs e).st cs most.toNat),.int .i64 0]
theorem Qam {p q:Prop}(k:q)(h:Im q p:=by(repeat first|simp(disch:=try exact dis1) only[evD,Nat.reduceBEq,Nat.reduceAdd,Nat.reduceLeDiff,dT,zdS] | ((with_reducible apply Im.i);intro _) | ((with_reducible apply Im.a);omega));exact Im.r):p:=h k
theorem zq3 (g:G) (hf:midG g) (e:Nd) (hs:zaJ e≤1000) (cs:List Int) (most:Int) (hcs:cs.length≤1000000) (hw:∀c∈cs,0≤c∧c < 4294967296) :
  zr Tryz.prog zfl [.agg (encN e),.agg g.cells,encL 1 cW cs,.int .i64 most] (·=zrW g e cs most):=by
 refine fn_x zq7 rfl ?_;unfold zmj;have hB:=hBig;have hck:=zlH g hf e hs;simp only[G.cells] at hck ⊢;have htr:=zlz e hs
 have retE:∀(H:AH) (v:AV) (l:List Int) (n:Int),Vw H [] nos allR false v (za l)→∃a,Frz H (.tup [v,.int .i64 n]) a∧a=.tup [za l,.int .i64 n]:=fun H v l n hv=>⟨.tup [za l,.int .i64 n],.tup _ _ _ rfl (fun j x y h1 h2=>match j with
  | 0=>by cases h1;cases h2;exact hv
  | 1=>by cases h1;cases h2;exact .int _ _ _
  | j+2=>by cases h1),rfl⟩
 (repeat first|simp(disch:=try exact dis1) only[evD,Nat.reduceBEq,Nat.reduceAdd,Nat.reduceLeDiff,fldP,zjw,tab,zb1,zd,zbp,Wq,Wr]|with_reducible first|intro _|refine aJ ?_)
 refine zh (zm hck (flN rfl)) ?_;unfold zrW
 have hst:zl4 g e=0→zft e=true∧zkz e false=false:=fun h=>by
  unfold zl4 at h;split at h
  · exact absurd h (by assumption)
  split at h
  · cases h
  split at h
  · cases h
  split at h
  · cases h
  rename_i h1 h2 h3 h4;exact⟨by simpa using h2,by simpa using h4⟩
 generalize zl4 g e=c at hst ⊢
 by_cases h0:c=0
 case neg =>
  rw[if_pos h0]
  (refine Qam ?_;intros)
  exact retE _ _ [] _ (z6 (l:=[]) trivial rfl (by simp only[Wn];omega))
 rw[if_neg (fun h=>h h0)]
 by_cases h1:65536 < most
 ·
  rw[if_pos h1]
  (repeat first|simp(disch:=try exact dis1) only[evD,Nat.reduceBEq,Nat.reduceAdd,Nat.reduceLeDiff,dT,dF,zdS]|with_reducible first|intro _|refine aJ ?_)
  exact retE _ _ [] _ (z6 (l:=[]) trivial rfl (by simp only[Wn];omega))
 rw[if_neg h1];obtain⟨hfm,hsy⟩:=hst h0
 (repeat first|simp(disch:=try exact dis1) only[evD,Nat.reduceBEq,Nat.reduceAdd,Nat.reduceLeDiff,dF,zbp,zjw,tab,Wq,Wr]|with_reducible first|intro _|refine aJ ?_)
 refine zh (zm (htr (by rw[zse];exact hsy)) (flN rfl)) ?_;have hok:=zzb hs hfm;have hrun:=zmL (zcs e).st cs hcs hok.len;have hfirst:=zoj (zcs e).st cs hok hcs hw most (by omega);generalize (zcs e).st=st at hok hrun hfirst ⊢
 (refine Qa ?_;intros)
 refine zii hrun ?_;rintro v H' nx' ⟨rfl,rfl,rfl⟩
 (refine Qa ?_;intros)
 refine zii hfirst ?_;rintro v H' nx' ⟨rfl,rfl,rfl⟩
 have hwf:∀n:Int,n=0∨n=15→InR .i64 n:=fun n h=>by
  rcases h with rfl|rfl<;>exact⟨by decide,by decide⟩
 have hE:zgZ st cs most.toNat=0∨zgZ st cs most.toNat=15:=by
  unfold zgZ;split
  ·
   unfold endR
   split<;>simp
  · exact .inl rfl
 generalize zgZ st cs most.toNat=er at hE ⊢;generalize zmN st cs most.toNat=li
 by_cases h2:er=0
 ·
  rw[if_neg (fun h=>h h2)];simp only[zcf]
  (repeat first|simp(disch:=try exact dis1) only[evD,Nat.reduceBEq,Nat.reduceAdd,Nat.reduceLeDiff,dF,zdS]|with_reducible first|intro _|refine aJ ?_)
  exact retE _ _ _ _ (.sl _ _ _ _)
 ·
  rw[if_pos h2]
  have h3:er=15:=by omega
  simp only[zcf]
  (refine Qam ?_;intros)
  have r:=retE [(0,.row 1 [] 0),(1,.row 1 [[.int .i64 er]] 0),(2,.row 1 [[.fn (.func zct) [.ptr 1 0 0 0 0]]] 0),(3,.row 1 [] 0)] (.own 3 0 0 0 0) [] er (z6 (l:=[]) trivial rfl (by simp only[Wn];omega));exact⟨r,r⟩
theorem zy7 {g:G} (hm:midG g) (h:zbA g=0):OkG g:=by
 have h0:=znj h;have hfull:=zpo h0;unfold zm7 at h0;split at h0
 case isFalse=>cases h0
 rename_i h1;rw[Wd,WD] at h1;refine⟨?_,Wm hm.blocks (by decide),fun b hb=>?_,fun b hb=>Wm (hm.stmts b hb).1 (by decide),fun b hb=>Wm (zee (by decide) (hm.stmts b hb).2) (by decide),fun b hb t ht=>?_⟩
 ·
  cases hb:g.blocks with
  | nil=>rw[hb] at h1;simp at h1
  | cons a l=>simp
 · have:=hfull b hb;omega
 · have h2:=h1.2 b hb;unfold zdJ at h2;rw[Wd,Wd,WD] at h2;have h3:=h2.2.2 t ht;unfold inN at h3;rw[decide_eq_true_eq] at h3;exact h3
theorem zzF (g:G) (cs:List Int) (most:Int) (hm:midG g) (hcs:cs.length≤1000000) (hmo:most≤1000000∨65536 < most) (hw:∀c∈cs,0≤c∧c < 4294967296) :
  zr Tryz.prog zbE [.agg g.cells,encL 1 cW cs,.int .i64 most] (·=if zbA g≠0 then .tup [za [],.int .i64 (zbA g)] else if 65536 < most then .tup [za [],.int .i64 6] else .tup [za (zkF g cs most),.int .i64 0]) :=
 zkx g cs most (zj3 hm) (zqx hm) hcs hmo hw (zy7 hm)
theorem zvx (g:G) (most:Int) (hm:midG g) (hmo:most≤1000∨65536 < most):zr Tryz.prog zd2 [.agg g.cells,.int .i64 most] (·=zae (znm g most)) :=
 zpX g most (zj3 hm) (fun b hb s hs=>Wm ((hm.stmts b hb).2 s hs) (by decide)) hmo (zy7 hm)
def gA:G:=⟨0,[⟨0,[zmJ 1 2]⟩,⟨0,[stX 6 3 0 []]⟩,⟨0,[stX 6 3 0 []]⟩,⟨0,[stX 9 0 0 []]⟩]⟩
def hA:G:=⟨0,[⟨0,[stX 6 1 0 []]⟩,⟨0,[zmJ 2 3]⟩,⟨0,[stX 6 1 0 []]⟩,⟨0,[stX 10 0 0 []]⟩]⟩
def oneA:G:=⟨0,[⟨0,[stX 10 0 0 []]⟩]⟩
def ndX (kind:Int) (l:List Nd):Nd:=.mk ⟨kind,0,0⟩ [] l
def zAh:Nd:=ndX 1 [ndX 4 [ndX 1 []],ndX 2 []]
theorem zxZ {g:G} (h:ziY g 8=true):midG g:=zqF h
theorem zt1:zbA gA=0∧zkF gA [] 9=[0,1,3]∧zkF gA [3] 9=[0,2,3]∧zkF gA [] 2=[0,1]∧znm gA 9=[[0,1,3],[0,2,3]]:=by decide +kernel
theorem hA_ok:zbA hA=0∧zkF hA [0,0,1] 20=[0,1,2,1,2,1,3]:=by decide +kernel
theorem midA:ziY gA 8=true∧ziY hA 8=true∧ziY oneA 8=true:=by decide +kernel
theorem zsY:zl4 oneA zAh=0∧zgZ (zcs zAh).st [] 5=15∧zl4 oneA (ndX 2 [])=0∧zgZ (zcs (ndX 2 [])).st [] 5=0∧zmN (zcs (ndX 2 [])).st [] 5=[0]:=by decide +kernel
theorem zmy (b:Bl) (hl:b.stmts.length≤1000000):zr Tryz.prog zfB [.agg b.cells] (·=za (zH b.stmts)):=by
 refine fn_x zmW rfl ?_;unfold zh2;have hB:=hBig;obtain⟨ad,l⟩:=b;simp only at hl;simp only[Bl.cells];unfold zH
 by_cases h0:l.length=0
 ·
  obtain rfl:l=[]:=WK h0
  (repeat first|simp(disch:=try exact dis1) only[evD,Nat.reduceBEq,Nat.reduceAdd,Nat.reduceLeDiff,fldP,dT,Wn,ze0]|with_reducible first|intro _|refine aJ ?_)
  exact⟨_,z6 (l:=[]) trivial rfl (by simp only[Wn];omega),rfl⟩
 ·
  have hi:l.length - 1 < l.length:=by omega
  have hg:=zp (f:=St.cells) (d:=[]) hi;have hw1:IntKind.i64.wrap ((l.length:Int) - 1)=(l.length:Int) - 1:=zpu (by omega) (by omega)
  have hidx:(((l.length:Nat):Int) - 1).toNat=l.length - 1:=by omega
  have hla:l.getLast? = some l[l.length - 1]:=by rw[List.getLast?_eq_getElem?,Ww hi]
  rw[hla];have ht:=zk0 l[l.length - 1];generalize l[l.length - 1]=s at hg ht;obtain⟨op,var,width,next,els,tgt,e,cases⟩:=s;simp only[St.cells] at hg ht
  (repeat first|simp(disch:=try exact dis1) only[evD,Nat.reduceBEq,Nat.reduceAdd,Nat.reduceLeDiff,fldP,dF,hw1,hidx,hg,za]|with_reducible first|intro _|refine aJ ?_)
  refine zh (zm ht rfl) ?_
  (repeat first|simp(disch:=try exact dis1) only[evD,Nat.reduceBEq,Nat.reduceAdd,Nat.reduceLeDiff,ze0]|with_reducible first|intro _|refine aJ ?_)
  exact⟨_,.sl _ _ _ _,rfl⟩
theorem zo3 {l:List (List Int)} {i:Nat} (h:i≤l.length) {H:AH}:zdt 1 (.sl 1 i fun a j=>((l.map cP).getD (Int.toNat 0+a) []).getD j .undef) H=some ((l.take i).map cP):=by
 simp only[zdt,show Wh 1 1=true from rfl,cond_true,Wx];apply WH
 · simp<;>omega
 ·
  intro k h1 h2;simp only[We,WJ] at h1
  have hk:k < l.length:=by omega
  simp only[W3,WI,tab,Int.toNat_zero,WR,W8];rw[zp hk]
  try rfl
theorem zpy {l:List (List Int)} {i:Nat} (h:i≤l.length) {H:AH}:zdt 1 (.sl 1 (l.length - i) fun a j=>((l.map cP).getD (i+a) []).getD j .undef) H=some ((l.drop i).map cP):=by
 simp only[zdt,show Wh 1 1=true from rfl,cond_true,Wx];apply WH
 · simp<;>omega
 ·
  intro k h1 h2;simp only[We,WJ] at h1
  have hk:i+k < l.length:=by omega
  simp only[W3,WI,tab,List.getElem_drop];rw[zp hk]
  try rfl
theorem zyW {sz n:Nat} {f:Nat→Nat→AV}:lenV (.sl sz n f)=some n:=rfl
theorem zx7 {sz n:Nat} {f:Nat→Nat→AV} {H:AH}:fits H (.sl sz n f)=True:=rfl
theorem zk2 (l:List (List Int)) (a:List Int) (hl:l.length≤10000000) (ha:a.length≤1000000) (hm:∀x∈l,x.length≤1000000):zr Tryz.prog zgg [zae l,za a] (·=zae (zam l a)):=by
 refine fn_x zpI rfl ?_;unfold zkX;have hB:=hBig
 (refine Qa ?_;intros)
 refine zq (fun k:Nat=>([(0,zae l),(1,za a),(5,.int .i64 k)],[])) 0 (fun k=>k≤l.length∧∀i (h:i < l.length),i < k→zdO l[i] a=true) (fun k=>l.length - k) 0 ⟨Wg _,fun i h h2=>by omega⟩ (Ent.tab [] [] rfl Qar Qar) ?_;rintro k ⟨hk,hlt⟩ wf;clear wf;unfold zie
 have hat:=fun hx=>zoZ (l:=l) (a:=a) hk (fun i h=>hlt i (by omega) h) hx
 have hto:((k:Nat):Int).toNat=k:=Waf k;have hsol:(za a).solid=true:=rfl;have hcel:(za a).cells=[za a]:=rfl
 have ret:∀(H:AH) (r γ:Nat) (R:List (List Int)),R.length≤20000000→H.get r 0=some (.row 1 (R.map cP) γ)→∃v,Frz H (.own r 0 γ 0 R.length) v∧v=zae R:=fun H r γ R hR h=>⟨_,zhq trivial h (by omega),rfl⟩
 by_cases hkl:k < l.length
 ·
  have gk:(l.map cP).getD k []=[za l[k]]:=zp (f:=cP) (d:=[]) hkl;have hle:=zum l[k] a (hm _ (Wl hkl))
  cases hc:zdO l[k] a with
  |
   true =>
   rw[hc] at hle
   (repeat first|simp(disch:=try exact dis1) only[evD,Nat.reduceBEq,Nat.reduceAdd,Nat.reduceLeDiff,dT,zae,gk]|with_reducible first|intro _|refine aJ ?_)
   refine zh (zm hle rfl) ?_
   (refine Qa ?_;intros)
   refine⟨k+1,⟨hkl,fun i h h2=>?_⟩,by omega,(Ent.tab [] [] rfl Qar Qar)⟩
   rcases Nat.lt_succ_iff_lt_or_eq.1 h2 with h3|rfl
   · exact hlt i h h3
   · exact hc
  |
   false =>
   rw[hc] at hle;have hR:=hat (fun _=>hc);have hsi:=zgo l[k] a
   (repeat first|simp(disch:=try exact dis1) only[evD,Nat.reduceBEq,Nat.reduceAdd,Nat.reduceLeDiff,dT,zae,gk]|with_reducible first|intro _|refine aJ ?_)
   refine zh (zm hle rfl) ?_
   (refine Qa ?_;intros)
   unfold ze1
   (repeat first|simp(disch:=try exact dis1) only[evD,Nat.reduceBEq,Nat.reduceAdd,Nat.reduceLeDiff,dT,zae,gk]|with_reducible first|intro _|refine aJ ?_)
   refine zh (zm hsi rfl) ?_
   have hgd:l.getD k []=l[k]:=by simp[Wf,hkl]
   by_cases he:l[k]=a
   ·
    rw[decide_eq_true he];rw[dif_pos ⟨hkl,hgd.trans he⟩] at hR;rw[hR]
    (repeat first|simp(disch:=try exact dis1) only[evD,Nat.reduceBEq,Nat.reduceAdd,Nat.reduceLeDiff,ze2]|with_reducible first|intro _|refine aJ ?_)
    exact⟨_,zah rfl,rfl⟩
   ·
    rw[decide_eq_false he];rw[dif_neg (fun h=>he (hgd.symm.trans h.2))] at hR;rw[hR]
    have e1:=fun H=>zo3 (H:=H) hk
    have e2:=fun H=>zpy (H:=H) hk
    have k1:(l.take k).length=k:=by rw[WM];omega
    have k2:((l.take k).map cP).take k=(l.take k).map cP:=WC (by rw[We];omega);have k3:(((l.take k).map cP)++[[za a]]).take (k+1)=((l.take k).map cP)++[[za a]]:=WC (by simp;omega)
    have k4:(((l.take k).map cP)++[[za a]]).length=k+1:=by simp;omega
    have t1:((k:Int) - 0).toNat=k:=by omega
    have t2:((l.length:Int) - (k:Int)).toNat=l.length - k:=by omega
    (repeat first|simp(disch:=try exact dis1) only[evD,Nat.reduceBEq,Nat.reduceAdd,Nat.reduceLeDiff,dT,dF,zae,gk,zoo,zpl,e1,e2,zyW,zx7,hsol,hcel,t1,t2,k1,k2,k3,k4,hto,ze2]|with_reducible first|intro _|refine aJ ?_)
    have er:(l.take k).map cP++[[za a]]++(l.drop k).map cP=(l.take k++a::l.drop k).map cP:=by simp[cP]
    have el:k+1+(l.length - k)=(l.take k++a::l.drop k).length:=by rw[Wy,Wk,Waq,k1];omega
    rw[er,el];exact⟨_,zhq trivial rfl (by rw[←el];omega),rfl⟩
 ·
  have hR:=hat (fun h=>absurd h hkl);rw[dif_neg (fun h=>hkl h.1)] at hR;rw[hR]
  (refine Qu ?_;intros)
  unfold ze1
  have e1:=fun H=>zo3 (H:=H) hk
  have e2:=fun H=>zpy (H:=H) hk
  have k1:(l.take k).length=k:=by rw[WM];omega
  have k2:((l.take k).map cP).take k=(l.take k).map cP:=WC (by rw[We];omega);have k3:(((l.take k).map cP)++[[za a]]).take (k+1)=((l.take k).map cP)++[[za a]]:=WC (by simp;omega)
  have k4:(((l.take k).map cP)++[[za a]]).length=k+1:=by simp;omega
  have t1:((k:Int) - 0).toNat=k:=by omega
  have t2:((l.length:Int) - (k:Int)).toNat=l.length - k:=by omega
  (repeat first|simp(disch:=try exact dis1) only[evD,Nat.reduceBEq,Nat.reduceAdd,Nat.reduceLeDiff,dF,zae,zoo,zpl,e1,e2,zyW,zx7,hsol,hcel,t1,t2,k1,k2,k3,k4,hto,ze2]|with_reducible first|intro _|refine aJ ?_)
  have er:(l.take k).map cP++[[za a]]++(l.drop k).map cP=(l.take k++a::l.drop k).map cP:=by simp[cP]
  have el:k+1+(l.length - k)=(l.take k++a::l.drop k).length:=by rw[Wy,Wk,Waq,k1];omega
  rw[er,el];exact⟨_,zhq trivial rfl (by rw[←el];omega),rfl⟩
end Go.Ab
