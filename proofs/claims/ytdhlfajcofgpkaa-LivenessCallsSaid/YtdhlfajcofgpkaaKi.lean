/-
  Part 9 of the proof: how the calls of this program run, over values instead of memory, and what each function computes.
-/
import Derived.KernelRfl
import Derived.Test.YtdhlfajcofgpkaaKh
set_option maxRecDepth 100000
set_option linter.unusedVariables false
set_option linter.unusedSimpArgs false
set_option linter.unnecessarySimpa false
set_option linter.unusedSectionVars false
namespace Go.Ab
open Go.RowKit Go.Proofs
mutual
theorem zrZ:∀ e:Ex,(occX e).length≤zc9 e
 |
  .mk op _ v _ l=>by
  have h:=zl8 l
  rw [occX,zc9,List.length_append]
  have:(if op=2 then [v] else ([]:List Int)).length≤1:=by split<;>simp
  omega
theorem zl8:∀ l:List Ex,(zdz l).length≤zt l
 | []=>by rw [zdz,zt];simp
 |
  x::l=>by
  have h1:=zl8 l
  have h2:=zrZ x
  rw [zdz,zt,List.length_append]
  omega
end
theorem zkQ:∀ l m:List Ex,zdz (l++m)=zdz l++zdz m
 | [],m=>by rw [zdz];rfl
 | x::l,m=>by rw [List.cons_append,zdz,zdz,zkQ l m,List.append_assoc]
theorem zu2:∀ e:Ex,1≤zc9 e
 | .mk _ _ _ _ _=>by rw [zc9];omega
theorem ziQ:∀ l:List Ex,l.length≤zt l
 | []=>by rw [zt];simp
 | x::l=>by rw [List.length_cons,zt];have:=ziQ l;have:=zu2 x;omega
theorem zfB:∀ l m:List Ex,zt (l++m)=zt l+zt m
 | [],m=>by rw [zt];simp
 | x::l,m=>by rw [List.cons_append,zt,zt,zfB l m];omega
def visH (xs:List Int) (g:Nat):AH:=[(0, .row 1 [[.own 1 0 g 0 xs.length]] 0),(1, .row 1 (xs.map cI) g)]
def zi3 (op v:Int):List Int:=if op=2 then [v] else []
theorem zte {op v:Int}:(zi3 op v).length≤1:=by unfold zi3;split<;>simp
theorem zm5 (op n v w:Int) (l:List Ex) (xs:List Int) (g:Nat) (hx:xs.length≤200000) :
  zN Try.prog zfW [.agg (encX (.mk op n v w l)), .ptr 0 0 0 0 0] (visH xs g) 2 (fun r H nx=>∃ g',r=.tup []∧H=visH (xs++zi3 op v) g'∧nx=2):=by
 refine z7 (fn_x zpt rfl ?_)
 unfold zkY
 have hB:=hBig
 rw [zdW]
 unfold zi3
 by_cases h:op=2
 ·
  rw [if_pos h]
  (repeat first | simp (disch:=try exact dis1) only [evD,Nat.reduceBEq,Nat.reduceAdd,Nat.reduceLeDiff,visH,dT h] | with_reducible intro _ | ((with_reducible apply And.intro);omega))
  (repeat first | simp (disch:=try exact dis1) only [evD,Nat.reduceBEq,Nat.reduceAdd,Nat.reduceLeDiff,zix] | with_reducible intro _ | ((with_reducible apply And.intro);omega))
  exact ⟨.tup [],visH (xs++[v]) (g+1),2,(Ent.tabB [(0,0,0),(1,1,0)] [] rfl rfl rfl (by (try simp only [evWB,Nat.reduceBEq,Nat.reduceAdd,Nat.reduceSub,Nat.reduceLeDiff,Nat.reduceLT,implies_true,visH])<;>exact fin1) (by (try simp only [evWB,Nat.reduceBEq,Nat.reduceAdd,Nat.reduceSub,Nat.reduceLeDiff,Nat.reduceLT,implies_true,visH])<;>exact fin1)),g+1,rfl,rfl,rfl⟩
 ·
  rw [if_neg h]
  (repeat first | simp (disch:=try exact dis1) only [evD,Nat.reduceBEq,Nat.reduceAdd,Nat.reduceLeDiff,visH,dF h,zix] | with_reducible intro _ | ((with_reducible apply And.intro);omega))
  refine ⟨.tup [],visH xs g,2,?_,g,rfl,rfl,rfl⟩
  exact (Ent.tabB [(0,0,0),(1,1,0)] [] rfl rfl rfl (by (try simp only [evWB,Nat.reduceBEq,Nat.reduceAdd,Nat.reduceSub,Nat.reduceLeDiff,Nat.reduceLT,implies_true,visH])<;>exact fin1) (by (try simp only [evWB,Nat.reduceBEq,Nat.reduceAdd,Nat.reduceSub,Nat.reduceLeDiff,Nat.reduceLT,implies_true,visH])<;>exact fin1))
def visF:AV:=.fn (.func zfW) [.ptr 0 0 0 0 0]
theorem zow:∀ (k:Nat) (e:Ex) (xs:List Int) (g:Nat),zc9 e≤k→xs.length+zc9 e≤100000 →
  zN Try.prog ziT [.agg (encX e),visF] (visH xs g) 2 (fun r H nx=>∃ g',r=.tup []∧H=visH (xs++occX e) g'∧nx=2):=by
 intro k
 induction k with
 | zero=>intro e xs g h;obtain ⟨_,_,_,_,l⟩:=e;rw [zc9] at h;omega
 | succ k ih =>
 intro e xs g hk hx
 obtain ⟨op,n,v,w,l⟩:=e
 rw [zc9] at hk hx
 refine z7 (fn_x zrN rfl ?_)
 unfold zmh
 have hB:=hBig
 have hlen:=ziQ l
 have h1:=zm5 op n v w l xs g (by omega)
 have hv1:=zte (op:=op) (v:=v)
 rw [zdW] at h1 ⊢
 (repeat first | simp (disch:=try exact dis1) only [evD,Nat.reduceBEq,Nat.reduceAdd,Nat.reduceLeDiff,visF,visH] | with_reducible intro _ | ((with_reducible apply And.intro);omega))
 refine ⟨by kernel_rfl,?_⟩
 refine zw [(0,0,0),(1,1,0)] 2 _ (h1) rfl rfl (by (try simp only [evWB,Nat.reduceBEq,Nat.reduceAdd,Nat.reduceSub,Nat.reduceLeDiff,Nat.reduceLT,implies_true,visH])<;>exact fin1) (by (try simp only [evWB,Nat.reduceBEq,Nat.reduceAdd,Nat.reduceSub,Nat.reduceLeDiff,Nat.reduceLT,implies_true,visH])<;>exact fin1) ?_
 rintro r H' nx' ⟨g',rfl,rfl,rfl⟩
 (repeat first | simp (disch:=try exact dis1) only [evD,Nat.reduceBEq,Nat.reduceAdd,Nat.reduceLeDiff,visH] | with_reducible intro _ | ((with_reducible apply And.intro);omega))
 have hocc:occX (.mk op n v w l)=zi3 op v++zdz l:=by rw [occX];rfl
 rw [hocc]
 refine zf (fun a:Nat × Nat=>([(1, .fn (.func zfW) [.ptr 0 0 0 0 0]),(10,encL 5 encX l),(11, .int .i64 l.length),(12, .int .i64 a.1)],visH (xs++(zi3 op v++zdz (l.take a.1))) a.2)) 2
  (fun a=>a.1≤l.length) (fun a=>l.length - a.1) (0,g') (Nat.zero_le _) (Ent.tabB [(0,0,0),(1,1,0)] [] rfl rfl rfl (by (try simp only [evWB,Nat.reduceBEq,Nat.reduceAdd,Nat.reduceSub,Nat.reduceLeDiff,Nat.reduceLT,implies_true,List.take_zero,zdz,List.append_nil,visH])<;>exact fin1) (by (try simp only [evWB,Nat.reduceBEq,Nat.reduceAdd,Nat.reduceSub,Nat.reduceLeDiff,Nat.reduceLT,implies_true,List.take_zero,zdz,List.append_nil,visH])<;>exact fin1)) ?_
 rintro ⟨i,gi⟩ hi wf
 simp only at hi
 unfold zje
 (repeat first | simp (disch:=try exact dis1) only [evD,Nat.reduceBEq,Nat.reduceAdd,Nat.reduceLeDiff,visH] | with_reducible intro _ | ((with_reducible apply And.intro);omega))
 (refine z6 (fun h=>?_) (fun h=>?_))<;>(try simp only [dcd] at h)
 ·
  have hi':i < l.length:=by omega
  have htk:zdz (l.take (i+1))=zdz (l.take i)++occX l[i]:=by
   rw [List.take_add_one,List.getElem?_eq_getElem hi',zkQ]
   congr 1
   show zdz [l[i]]=_
   rw [zdz,zdz,List.append_nil]
  have hs:zt l=zt (l.take i)+zt (l.drop i):=by rw [← zfB,List.take_append_drop]
  have hs2:=zmt hi'
  have ho:=zl8 (l.take i)
  have hc:=ih l[i] (xs++(zi3 op v++zdz (l.take i))) gi (by omega) (by simp only [List.length_append];omega)
  have e1:xs++(zi3 op v++zdz (l.take i))++occX l[i]=xs++(zi3 op v++zdz (l.take (i+1))):=by rw [htk];simp
  rw [e1] at hc
  (repeat first | simp (disch:=try exact dis1) only [evD,Nat.reduceBEq,Nat.reduceAdd,Nat.reduceLeDiff,zz hi'] | with_reducible intro _ | ((with_reducible apply And.intro);omega))
  generalize l[i]=x at hc ⊢
  obtain ⟨o2,n2,v2,w2,l2⟩:=x
  simp only [zdW] at hc ⊢
  (repeat first | simp (disch:=try exact dis1) only [evD,Nat.reduceBEq,Nat.reduceAdd,Nat.reduceLeDiff] | with_reducible intro _ | ((with_reducible apply And.intro);omega))
  refine zw [(0,0,0),(1,1,0)] 2 _ (hc) rfl rfl (by (try simp only [evWB,Nat.reduceBEq,Nat.reduceAdd,Nat.reduceSub,Nat.reduceLeDiff,Nat.reduceLT,implies_true,visH,visF])<;>exact fin1) (by (try simp only [evWB,Nat.reduceBEq,Nat.reduceAdd,Nat.reduceSub,Nat.reduceLeDiff,Nat.reduceLT,implies_true,visH,visF])<;>exact fin1) ?_
  rintro r H' nx' ⟨g2,rfl,rfl,rfl⟩
  (repeat first | simp (disch:=try exact dis1) only [evD,Nat.reduceBEq,Nat.reduceAdd,Nat.reduceLeDiff,visH] | with_reducible intro _ | ((with_reducible apply And.intro);omega))
  exact ⟨(i+1,g2),by simp only;omega,by simp only;omega,(Ent.tabB [(0,0,0),(1,1,0)] [] rfl rfl rfl (by (try simp only [evWB,Nat.reduceBEq,Nat.reduceAdd,Nat.reduceSub,Nat.reduceLeDiff,Nat.reduceLT,implies_true,visH])<;>exact fin1) (by (try simp only [evWB,Nat.reduceBEq,Nat.reduceAdd,Nat.reduceSub,Nat.reduceLeDiff,Nat.reduceLT,implies_true,visH])<;>exact fin1))⟩
 ·
  have hi':l.length≤i:=by omega
  (repeat first | simp (disch:=try exact dis1) only [evD,Nat.reduceBEq,Nat.reduceAdd,Nat.reduceLeDiff,zmf] | with_reducible intro _ | ((with_reducible apply And.intro);omega))
  refine ⟨.tup [],visH (xs++(zi3 op v++zdz l)) gi,2,?_,gi,rfl,rfl,rfl⟩
  rw [List.take_of_length_le hi']
  exact (Ent.tabB [(0,0,0),(1,1,0)] [] rfl rfl rfl (by (try simp only [evWB,Nat.reduceBEq,Nat.reduceAdd,Nat.reduceSub,Nat.reduceLeDiff,Nat.reduceLT,implies_true,visH])<;>exact fin1) (by (try simp only [evWB,Nat.reduceBEq,Nat.reduceAdd,Nat.reduceSub,Nat.reduceLeDiff,Nat.reduceLT,implies_true,visH])<;>exact fin1))
theorem znz {l:List Int} (hs:l.Pairwise (·≤·)):∀ n,n≤l.length→Asc (zK l n)∧∀ x,x∈zK l n↔∃ j,∃ h:j < l.length,j < n∧l[j]=x
 |
  0,_=>by
  refine ⟨List.Pairwise.nil,fun x=>⟨fun h=>?_,fun ⟨j,_,h,_⟩=>absurd h (Nat.not_lt_zero _)⟩⟩
  have:zK l 0=[]:=rfl
  rw [this] at h
  cases h
 |
  n+1,hn=>by
  obtain ⟨h1,h2⟩:=znz hs n (by omega)
  have hp:=List.pairwise_iff_getElem.1 hs
  cases hk:zdM l n with
  |
   true =>
   rw [ziM (by omega) hk]
   refine ⟨List.pairwise_append.2 ⟨h1,List.pairwise_singleton _ _,fun a ha b hb=>?_⟩,fun x=>?_⟩
   ·
    obtain ⟨j,hj,hjn,rfl⟩:=(h2 a).1 ha
    rw [List.mem_singleton] at hb
    subst hb
    have hne:l[n]≠l[n - 1]:=by
     have:=zdL (l:=l) (j:=n) (by omega) (by omega)
     rw [hk] at this
     simpa using this.symm
    have a1:=hp (n - 1) n (by omega) (by omega) (by omega)
    rcases Nat.lt_or_ge j (n - 1) with h3 | h3
    ·
     have:=hp j (n - 1) hj (by omega) h3
     omega
    ·
     obtain rfl:j=n - 1:=by omega
     omega
   ·
    rw [List.mem_append,List.mem_singleton,h2]
    constructor
    ·
     rintro (⟨j,hj,hjn,rfl⟩ | rfl)
     · exact ⟨j,hj,by omega,rfl⟩
     · exact ⟨n,by omega,by omega,rfl⟩
    ·
     rintro ⟨j,hj,hjn,rfl⟩
     rcases Nat.lt_or_ge j n with h3 | h3
     · exact .inl ⟨j,hj,h3,rfl⟩
     ·
      obtain rfl:j=n:=by omega
      exact .inr rfl
  |
   false =>
   rw [zin hk]
   refine ⟨h1,fun x=>?_⟩
   rw [h2]
   constructor
   ·
    rintro ⟨j,hj,hjn,rfl⟩
    exact ⟨j,hj,by omega,rfl⟩
   ·
    rintro ⟨j,hj,hjn,rfl⟩
    rcases Nat.lt_or_ge j n with h3 | h3
    · exact ⟨j,hj,h3,rfl⟩
    ·
     obtain rfl:j=n:=by omega
     have h0:1≤j:=by
      rcases Nat.eq_zero_or_pos j with rfl | h
      · cases hk
      · exact h
     have:=zdL (l:=l) (j:=j) h0 hj
     rw [hk] at this
     have he:l[j]=l[j - 1]:=by simpa using this.symm
     exact ⟨j - 1,by omega,by omega,he.symm⟩
theorem zkZ (l m:List Int) (hm:Asc m) (h:∀ x,x∈m↔x∈l):zbf (zcd l)=m:=by
 obtain ⟨h1,h2⟩:=znz (zcJ l) (zcd l).length (Nat.le_refl _)
 refine zoJ h1 hm fun x=>?_
 rw [h,← (zZ l).mem_iff]
 show x∈zK _ _↔_
 rw [h2,List.mem_iff_getElem]
 exact ⟨fun ⟨j,hj,_,e⟩=>⟨j,hj,e⟩,fun ⟨j,hj,e⟩=>⟨j,hj,hj,e⟩⟩
theorem zs7 (e:Ex) (hk:zc9 e≤100000):zE Try.prog zmw [.agg (encX e)] (·=za (zf8 e)):=by
 refine fn_x zsU rfl ?_
 unfold znx
 have hB:=hBig
 have hc:=zow (zc9 e) e [] 0 (Nat.le_refl _) (by simp only [List.length_nil];omega)
 have hl:=zrZ e
 have hcs:=zkZ (occX e) (zf8 e) (zvk e) fun x=>zjS e
 rw [List.nil_append] at hc
 generalize occX e=xs at hc hl hcs
 generalize zf8 e=vs at hcs ⊢
 obtain ⟨op,n,v,w,l⟩:=e
 simp only [zdW] at hc ⊢
 (repeat first | simp (disch:=try exact dis1) only [evD,Nat.reduceBEq,Nat.reduceAdd,Nat.reduceLeDiff] | with_reducible intro _ | ((with_reducible apply And.intro);omega))
 refine zw [(0,1,0)] 2 _ (hc) rfl rfl (by (try simp only [evWB,Nat.reduceBEq,Nat.reduceAdd,Nat.reduceSub,Nat.reduceLeDiff,Nat.reduceLT,implies_true,visH,visF])<;>exact fin1) (by (try simp only [evWB,Nat.reduceBEq,Nat.reduceAdd,Nat.reduceSub,Nat.reduceLeDiff,Nat.reduceLT,implies_true,visH,visF])<;>exact fin1) ?_
 rintro r H' nx' ⟨g',rfl,rfl,rfl⟩
 (repeat first | simp (disch:=try exact dis1) only [evD,Nat.reduceBEq,Nat.reduceAdd,Nat.reduceLeDiff,visH] | with_reducible intro _ | ((with_reducible apply And.intro);omega))
 refine zks (zmP (zs:=xs) rfl (by omega)) ?_
 rintro _ _ _ hres
 simp only [Prod.mk.injEq] at hres
 obtain ⟨rfl,rfl,rfl⟩:=hres
 have hsl:(zcd xs).length=xs.length:=(zZ xs).length_eq
 have hcl:=zny (l:=zcd xs) (n:=(zcd xs).length)
 rw [← hsl]
 generalize zcd xs=ss at hcs hsl hcl ⊢
 (repeat first | simp (disch:=try exact dis1) only [evD,Nat.reduceBEq,Nat.reduceAdd,Nat.reduceLeDiff] | with_reducible intro _ | ((with_reducible apply And.intro);omega))
 refine zw [(0,3,0)] 1 _ (znX ss g' (by omega)) rfl rfl (by (try simp only [evWB,Nat.reduceBEq,Nat.reduceAdd,Nat.reduceSub,Nat.reduceLeDiff,Nat.reduceLT,implies_true])<;>exact fin1) (by (try simp only [evWB,Nat.reduceBEq,Nat.reduceAdd,Nat.reduceSub,Nat.reduceLeDiff,Nat.reduceLT,implies_true])<;>exact fin1) ?_
 rintro _ _ _ ⟨m,rfl,rfl,rfl⟩
 have hcl2:(zbf ss).length≤ss.length:=hcl
 rw [hcs] at hcl2 ⊢
 (repeat first | simp (disch:=try exact dis1) only [evD,Nat.reduceBEq,Nat.reduceAdd,Nat.reduceLeDiff,zng] | with_reducible intro _ | ((with_reducible apply And.intro);omega))
 refine ⟨_,?_,rfl⟩
 exact zxD (m:=m) trivial rfl (by omega)
theorem zjX {c:Int} {ps:List (Int × Int)} (h:SetS c ps) {m:List Int} (hm:Asc m) (he:∀ x,x∈m↔x∈ps.map (·.1)):zcd (ps.map (·.1))=m:=by
 refine zoJ ?_ hm fun x=>?_
 ·
  have h1:=zcJ (ps.map (·.1))
  have h2:(zcd (ps.map (·.1))).Nodup:=(zZ _).nodup_iff.2 h.keys
  refine List.Pairwise.imp₂ (fun a b hle hne=>?_) h1 h2
  omega
 · rw [he,(zZ _).mem_iff]
theorem renM {ρ:Nat→Nat} {l:List MC} {g:Nat}:AObj.ren ρ (.row 3 (l.map cm) g)=.row 3 (l.map cm) g:=by
 simp only [AObj.ren]
 rw [zfO (ze zQ)]
theorem renF {ρ:Nat→Nat} {n:Nat} {S:Nat→MS}:AObj.ren ρ (famS n S)=famS n S:=by
 unfold famS fi
 simp only [AObj.ren,List.map_map]
 congr 1
 refine List.map_congr_left fun i _=>?_
 show (List.map _ _,_)=_
 rw [zfO (ze zQ)]
theorem renE {ρ:Nat→Nat} {l:List Int}:AV.ren ρ (za l)=za l:=zlF rfl
def zgY (s:MS) (l:List Ex):MS:=l.foldl (fun a x=>addL a (zf8 x)) s
theorem zsR {s:MS} {l:List Ex} {i:Nat} (h:i < l.length):zgY s (l.take (i+1))=addL (zgY s (l.take i)) (zf8 l[i]):=by
 unfold zgY
 rw [List.take_add_one,List.getElem?_eq_getElem h,List.foldl_append]
 rfl
theorem zpG {y:Int}:∀ {l:List Ex} {s:MS},y∈(zgY s l).keys↔y∈s.keys∨y∈zdz l
 | [],s=>by rw [zdz];simp [zgY]
 |
  x::l,s=>by
  show y∈(zgY (addL s (zf8 x)) l).keys↔_
  rw [zpG,zeV,zjS,zdz,List.mem_append,or_assoc]
theorem zsq:∀ {l:List Ex} {s:MS},s.ok→s.1+zt l≤1000000→s.2.length+zt l≤1000000→(zgY s l).ok∧(zgY s l).1≤s.1+zt l∧(zgY s l).2.length≤s.2.length+zt l
 |
  [],s,h,_,_=>by
  rw [zt]
  exact ⟨h,by show s.1≤_;omega,by show s.2.length≤_;omega⟩
 |
  x::l,s,h,h1,h2=>by
  rw [zt] at h1 h2 ⊢
  have hb:=zei (l:=zf8 x) (s:=s)
  have hv:=zjV x
  have h3:=zji (l:=zf8 x) h (by omega) (by omega)
  obtain ⟨h4,h5,h6⟩:=zsq (l:=l) h3 (by omega) (by omega)
  exact ⟨h4,by show (zgY (addL s (zf8 x)) l).1≤_;omega,by show (zgY (addL s (zf8 x)) l).2.length≤_;omega⟩
theorem zmn:MS.ok (0,[]):=⟨List.nodup_nil,List.nodup_nil,(fun _ h=>nomatch h),by simp,by simp⟩
theorem zmB {l:List Ex} {i:Nat}:zt (l.take i)≤zt l:=by
 have:zt l=zt (l.take i)+zt (l.drop i):=by rw [← zfB,List.take_append_drop]
 omega
theorem zhG (s:St) (hs:zt s.e≤100000):zE Try.prog zek [.agg s.cells] (·=za (zfD s)):=by
 refine fn_x zli rfl ?_
 unfold zhQ
 have hB:=hBig
 obtain ⟨op,var,width,next,els,tgt,l,cs⟩:=s
 simp only at hs
 have hasc:=zvx ⟨op,var,width,next,els,tgt,l,cs⟩
 have hmem:∀ x,x∈zfD ⟨op,var,width,next,els,tgt,l,cs⟩↔x∈(zgY (0,[]) l).2.map (·.1):=fun x=>by
  show x∈zlH [] l↔x∈(zgY (0,[]) l).keys
  rw [zpX,zpG]
  simp [MS.keys]
 have hok:=fun i=>zsq (l:=l.take i) (s:=(0,[])) zmn (by have:=zmB (l:=l) (i:=i);simp only;omega) (by have:=zmB (l:=l) (i:=i);simp only [List.length_nil];omega)
 generalize zfD ⟨op,var,width,next,els,tgt,l,cs⟩=R at hasc hmem ⊢
 (repeat first | simp (disch:=try exact dis1) only [evD,Nat.reduceBEq,Nat.reduceAdd,Nat.reduceLeDiff,fldP,St.cells,za] | with_reducible intro _ | ((with_reducible apply And.intro);omega))
 refine zf (fun i:Nat=>([(3, .mp 0 0),(8,encL 5 encX l),(9, .int .i64 l.length),(10, .int .i64 i)],[(0, .row 3 ((setM (zgY (0,[]) (l.take i)).1 (zgY (0,[]) (l.take i)).2).map cm) 0)])) 1
  (fun i=>i≤l.length) (fun i=>l.length - i) 0 (Nat.zero_le _) (by rw [List.take_zero,show zgY (0,[]) []=(0,[]) from rfl];exact (Ent.tab [(0,1,0)] [] rfl (by (try simp only [evWB,Nat.reduceBEq,Nat.reduceAdd,Nat.reduceSub,Nat.reduceLeDiff,Nat.reduceLT,implies_true,zn])<;>exact fin6) (by (try simp only [evWB,Nat.reduceBEq,Nat.reduceAdd,Nat.reduceSub,Nat.reduceLeDiff,Nat.reduceLT,implies_true,zn])<;>exact fin6))) ?_
 rintro i hi wf
 unfold zfS
 by_cases hil:i < l.length
 ·
  have hsd:=zmt hil
  have hst:zt l=zt (l.take i)+zt (l.drop i):=by rw [← zfB,List.take_append_drop]
  obtain ⟨h1,h2,h3⟩:=hok i
  have hvl:=zjV l[i]
  have htk:=zsR (s:=(0,[])) hil
  (repeat first | simp (disch:=try exact dis1) only [evD,Nat.reduceBEq,Nat.reduceAdd,Nat.reduceLeDiff,fldP,dT,zz hil,zdt,zcx,zn] | with_reducible intro _ | ((with_reducible apply And.intro);omega))
  refine zp (zm (zs7 l[i] (by omega)) (flX rfl)) ?_
  generalize zf8 l[i]=u at hvl htk ⊢
  generalize zgY (0,[]) (l.take i)=a at h1 h2 h3 htk ⊢
  simp only [List.length_nil,Nat.zero_add,Int.zero_add] at h2 h3
  (repeat first | simp (disch:=try exact dis1) only [evD,Nat.reduceBEq,Nat.reduceAdd,Nat.reduceLeDiff] | with_reducible intro _ | ((with_reducible apply And.intro);omega))
  refine zw [(0,0,0)] 1 _ (zgT a u h1 (by omega) (by omega)) rfl rfl (by (try simp only [evWB,Nat.reduceBEq,Nat.reduceAdd,Nat.reduceSub,Nat.reduceLeDiff,Nat.reduceLT,implies_true,zn])<;>exact fin6) (by (try simp only [evWB,Nat.reduceBEq,Nat.reduceAdd,Nat.reduceSub,Nat.reduceLeDiff,Nat.reduceLT,implies_true,zn])<;>exact fin6) ?_
  rintro _ _ _ ⟨rfl,rfl,rfl⟩
  (repeat first | simp (disch:=try exact dis1) only [evD,Nat.reduceBEq,Nat.reduceAdd,Nat.reduceLeDiff,renM] | with_reducible intro _ | ((with_reducible apply And.intro);omega))
  exact ⟨i+1,by omega,by omega,(Ent.tab [(0,0,0)] [] rfl (by (try simp only [evWB,Nat.reduceBEq,Nat.reduceAdd,Nat.reduceSub,Nat.reduceLeDiff,Nat.reduceLT,implies_true,zn,htk])<;>exact fin6) (by (try simp only [evWB,Nat.reduceBEq,Nat.reduceAdd,Nat.reduceSub,Nat.reduceLeDiff,Nat.reduceLT,implies_true,zn,htk])<;>exact fin6))⟩
 ·
  (repeat first | simp (disch:=try exact dis1) only [evD,Nat.reduceBEq,Nat.reduceAdd,Nat.reduceLeDiff,dF] | with_reducible intro _ | ((with_reducible apply And.intro);omega))
  unfold zf1
  obtain ⟨h1,h2,h3⟩:=hok l.length
  have hso:=zjX (c:=(zgY (0,[]) l).1) (ps:=(zgY (0,[]) l).2) (by rw [List.take_length] at h1;exact h1) hasc hmem
  rw [List.take_length] at h1 h2 h3
  rw [List.take_of_length_le (by omega)]
  generalize zgY (0,[]) l=a at h1 h2 h3 hso ⊢
  (repeat first | simp (disch:=try exact dis1) only [evD,Nat.reduceBEq,Nat.reduceAdd,Nat.reduceLeDiff,zn] | with_reducible intro _ | ((with_reducible apply And.intro);omega))
  refine zw [(0,0,0)] 1 _ (zmT a.1 a.2 h1) rfl rfl (by (try simp only [evWB,Nat.reduceBEq,Nat.reduceAdd,Nat.reduceSub,Nat.reduceLeDiff,Nat.reduceLT,implies_true,zn])<;>exact fin6) (by (try simp only [evWB,Nat.reduceBEq,Nat.reduceAdd,Nat.reduceSub,Nat.reduceLeDiff,Nat.reduceLT,implies_true,zn])<;>exact fin6) ?_
  rintro _ _ _ ⟨rfl,rfl,rfl⟩
  rw [hso]
  (repeat first | simp (disch:=try exact dis1) only [evD,Nat.reduceBEq,Nat.reduceAdd,Nat.reduceLeDiff,renM,renE,zhM] | with_reducible intro _ | ((with_reducible apply And.intro);omega))
  exact ⟨_,zaF rfl,rfl⟩
def del1 (s:MS) (v:Int):MS:=(s.1,s.2.filter fun p=>p.1 != v)
def delL (s:MS) (l:List Int):MS:=l.foldl del1 s
theorem zvV {s:MS} {l:List Int} {i:Nat} (h:i < l.length):delL s (l.take (i+1))=del1 (delL s (l.take i)) l[i]:=by
 unfold delL
 rw [List.take_add_one,List.getElem?_eq_getElem h,List.foldl_append]
 rfl
theorem zqh {s:MS} {v:Int} (h:v∉s.2.map (·.1)):del1 s v=s:=by
 unfold del1
 rw [List.filter_eq_self.2 fun p hp=>?_]
 simp only [bne_iff_ne,ne_eq]
 exact fun e=>h (List.mem_map.2 ⟨p,hp,e⟩)
theorem zkS {v:Int}:∀ {ps:List (Int × Int)} {j:Nat},(ps.map (·.1)).Nodup→(h:j < ps.length)→ps[j].1=v→ps.eraseIdx j=ps.filter fun p=>p.1 != v
 |
  p::ps,0,hn,_,he=>by
  simp only [List.map_cons,List.nodup_cons] at hn
  simp only [List.getElem_cons_zero] at he
  have h1:=zqh (s:=((0:Int),ps)) (v:=v) (by rw [← he];exact hn.1)
  have h2:ps.filter (fun p=>p.1 != v)=ps:=congrArg Prod.snd h1
  rw [List.eraseIdx_cons_zero,List.filter_cons,he,h2]
  simp
 |
  p::ps,j+1,hn,hj,he=>by
  simp only [List.map_cons,List.nodup_cons] at hn
  simp only [List.getElem_cons_succ] at he
  have hj':j < ps.length:=by simpa using hj
  have hne:p.1≠v:=fun e=>hn.1 (List.mem_map.2 ⟨ps[j],List.getElem_mem hj',by rw [he,e]⟩)
  rw [List.eraseIdx_cons_succ,List.filter_cons,zkS hn.2 hj' he]
  simp [hne]
theorem SetS.filter {c:Int} {ps:List (Int × Int)} (h:SetS c ps) (f:Int × Int→Bool):SetS c (ps.filter f):=by
 have hsub:(ps.filter f).Sublist ps:=List.filter_sublist
 exact ⟨h.keys.sublist (hsub.map _),h.borns.sublist (hsub.map _),fun p hp=>h.lt p (hsub.mem hp),h.top,Nat.le_trans hsub.length_le h.len⟩
theorem zq9:∀ {l:List Int} {s:MS},s.ok→(delL s l).ok∧(delL s l).1=s.1∧(delL s l).2.length≤s.2.length
 | [],s,h=>⟨h,rfl,Nat.le_refl _⟩
 |
  v::l,s,h=>by
  obtain ⟨h1,h2,h3⟩:=zq9 (l:=l) (s:=del1 s v) (SetS.filter h _)
  exact ⟨h1,h2,Nat.le_trans h3 (List.length_filter_le _ _)⟩
theorem zoq {y:Int}:∀ {l:List Int} {s:MS},y∈(delL s l).keys↔y∈s.keys∧y∉l
 | [],s=>by simp [delL]
 |
  v::l,s=>by
  show y∈(delL (del1 s v) l).keys↔_
  rw [zoq]
  have:y∈(del1 s v).keys↔y∈s.keys∧y≠v:=by
   simp only [MS.keys,del1,List.mem_map,List.mem_filter,bne_iff_ne,ne_eq]
   constructor
   · rintro ⟨p,⟨h1,h2⟩,rfl⟩;exact ⟨⟨p,h1,rfl⟩,h2⟩
   · rintro ⟨⟨p,h1,rfl⟩,h2⟩;exact ⟨p,⟨h1,h2⟩,rfl⟩
  rw [this,List.mem_cons,not_or,and_assoc]
theorem zpB {α β:Type} {f:α→β}:∀ {l:List α} {j:Nat},(l.map f).eraseIdx j=(l.eraseIdx j).map f
 | [],_=>rfl
 | _::_,0=>rfl
 | a::l,j+1=>congrArg (f a::·) (zpB (l:=l) (j:=j))
theorem zud {ps:List (Int × Int)} {j:Nat}:((enL ps).map cm).eraseIdx j=(enL (ps.eraseIdx j)).map cm:=by
 unfold enL
 rw [List.map_map,List.map_map,zpB]
def zeA (exit:List Int) (s:St) (a:MS):MS :=
 let b:=addL (delL a (zlt s)) (zfD s)
 if zjz s=true then addL b exit else b
theorem zlD (s:St):(zfD s).length≤zt s.e:=by
 have:∀ (l:List Ex) (a:List Int),(zlH a l).length≤a.length+zt l:=by
  intro l
  induction l with
  | nil=>intro a;rw [zlH,zt];simp
  |
   cons x l ih =>
   intro a
   rw [zlH,zt]
   have h1:=ih (zcf a (zf8 x))
   have h2:=zns (a:=a) (b:=zf8 x)
   have h3:=zjV x
   omega
 have:=this s.e []
 show (zlH [] s.e).length≤_
 simpa using this
theorem zst {exit:List Int} {s:St} {a:MS} (h:a.ok) (h1:a.1+zt s.e+exit.length≤1000000) (h2:a.2.length+zt s.e+exit.length≤1000000) :
  (zeA exit s a).ok∧(zeA exit s a).1≤a.1+zt s.e+exit.length∧(zeA exit s a).2.length≤a.2.length+zt s.e+exit.length:=by
 obtain ⟨d1,d2,d3⟩:=zq9 (l:=zlt s) h
 have hu:=zlD s
 have u1:=zei (l:=zfD s) (s:=delL a (zlt s))
 have u2:=zji (l:=zfD s) d1 (by omega) (by omega)
 unfold zeA
 simp only
 split
 ·
  have e1:=zei (l:=exit) (s:=addL (delL a (zlt s)) (zfD s))
  have e2:=zji (l:=exit) u2 (by omega) (by omega)
  exact ⟨e2,by omega,by omega⟩
 · exact ⟨u2,by omega,by omega⟩
theorem zl1 {exit:List Int} {s:St} {a:MS} {l:List Int} (h:∀ x,x∈a.keys↔x∈l) (y:Int):y∈(zeA exit s a).keys↔y∈zgf exit s l:=by
 unfold zeA
 simp only
 rw [zho]
 split
 ·
  rename_i hl
  rw [zeV,zeV,zoq,h]
  simp [hl,or_assoc]
 ·
  rename_i hl
  rw [zeV,zoq,h]
  simp [hl]
theorem zhC (a:MS) (s:St) (exit:List Int) (ha:a.ok) (hsz:zt s.e≤100000) (h1:a.1+zt s.e+exit.length≤1000000) (h2:a.2.length+zt s.e+exit.length≤1000000) :
  zN Try.prog zey [.mp 0 0, .agg s.cells,za exit] [(0, .row 3 ((setM a.1 a.2).map cm) 0)] 1
  (fun v H nx=>v=.tup []∧H=[(0, .row 3 ((setM (zeA exit s a).1 (zeA exit s a).2).map cm) 0)]∧nx=1):=by
 refine z7 (fn_x zls rfl ?_)
 unfold zhP
 have hB:=hBig
 have hdef:=zlj s
 have huse:=zhG s hsz
 have hlv:=zke s
 have hb:zeA exit s a=if zjz s=true then addL (addL (delL a (zlt s)) (zfD s)) exit else addL (delL a (zlt s)) (zfD s):=rfl
 have hu:=zlD s
 rw [hb]
 generalize zeA exit s a=bs at hb
 generalize zlt s=ds at hdef ⊢
 generalize zfD s=us at huse hu ⊢
 generalize zjz s=lv at hlv ⊢
 have hok:=fun i=>zq9 (l:=ds.take i) ha
 obtain ⟨op,var,width,next,els,tgt,l,cs⟩:=s
 simp only at h1 h2 hu
 (repeat first | simp (disch:=try exact dis1) only [evD,Nat.reduceBEq,Nat.reduceAdd,Nat.reduceLeDiff,St.cells,za] | with_reducible intro _ | ((with_reducible apply And.intro);omega))
 refine zp (zm hdef rfl) ?_
 (repeat first | simp (disch:=try exact dis1) only [evD,Nat.reduceBEq,Nat.reduceAdd,Nat.reduceLeDiff,za] | with_reducible intro _ | ((with_reducible apply And.intro);omega))
 refine zf (fun i:Nat=>([(0, .mp 0 0),(2,za exit),(4,encP 8 (St.cells ⟨op,var,width,next,els,tgt,l,cs⟩)),(9,za ds),(10, .int .i64 ds.length),(11, .int .i64 i)],[(0, .row 3 ((setM (delL a (ds.take i)).1 (delL a (ds.take i)).2).map cm) 0)])) 1
  (fun i=>i≤ds.length) (fun i=>ds.length - i) 0 (Nat.zero_le _) (by rw [List.take_zero,show delL a []=a from rfl];exact (Ent.tabB [(0,0,0)] [] rfl rfl rfl (by (try simp only [evWB,Nat.reduceBEq,Nat.reduceAdd,Nat.reduceSub,Nat.reduceLeDiff,Nat.reduceLT,implies_true,zn,za,St.cells])<;>exact fin6) (by (try simp only [evWB,Nat.reduceBEq,Nat.reduceAdd,Nat.reduceSub,Nat.reduceLeDiff,Nat.reduceLT,implies_true,zn,za,St.cells])<;>exact fin6))) ?_
 rintro i hi wf
 unfold zgj
 by_cases hil:i < ds.length
 ·
  have hgl:=zz (f:=cI) (d:=[]) hil
  have htk:=zvV (s:=a) hil
  obtain ⟨g1,g2,g3⟩:=hok i
  generalize delL a (ds.take i)=b at g1 g2 g3 htk ⊢
  obtain ⟨c,ps⟩:=b
  by_cases hm:ds[i]∈ps.map (·.1)
  ·
   obtain ⟨j,hj,hje,hf⟩:=zj2 hm
   have e1:del1 (c,ps) ds[i]=(c,ps.eraseIdx j):=by unfold del1;rw [zkS g1.keys hj hje]
   rw [e1] at htk
   (repeat first | simp (disch:=try exact dis1) only [evD,Nat.reduceBEq,Nat.reduceAdd,Nat.reduceLeDiff,dT,hgl,za,zn,evM,zps,hf,mdTo,zud] | with_reducible intro _ | ((with_reducible apply And.intro);omega))
   exact ⟨i+1,by omega,by omega,(Ent.tabB [(0,0,0)] [] rfl rfl rfl (by (try simp only [evWB,Nat.reduceBEq,Nat.reduceAdd,Nat.reduceSub,Nat.reduceLeDiff,Nat.reduceLT,implies_true,zn,za,htk,St.cells])<;>exact fin6) (by (try simp only [evWB,Nat.reduceBEq,Nat.reduceAdd,Nat.reduceSub,Nat.reduceLeDiff,Nat.reduceLT,implies_true,zn,za,htk,St.cells])<;>exact fin6))⟩
  ·
   have hf:=ziR hm
   have e1:del1 (c,ps) ds[i]=(c,ps):=zqh hm
   rw [e1] at htk
   (repeat first | simp (disch:=try exact dis1) only [evD,Nat.reduceBEq,Nat.reduceAdd,Nat.reduceLeDiff,dT,hgl,za,zn,evM,zps,hf,mdTo] | with_reducible intro _ | ((with_reducible apply And.intro);omega))
   exact ⟨i+1,by omega,by omega,(Ent.tabB [(0,0,0)] [] rfl rfl rfl (by (try simp only [evWB,Nat.reduceBEq,Nat.reduceAdd,Nat.reduceSub,Nat.reduceLeDiff,Nat.reduceLT,implies_true,zn,za,htk,St.cells])<;>exact fin6) (by (try simp only [evWB,Nat.reduceBEq,Nat.reduceAdd,Nat.reduceSub,Nat.reduceLeDiff,Nat.reduceLT,implies_true,zn,za,htk,St.cells])<;>exact fin6))⟩
 ·
  obtain ⟨g1,g2,g3⟩:=hok i
  rw [List.take_of_length_le (by omega)] at g1 g2 g3 ⊢
  generalize delL a ds=b at g1 g2 g3 ⊢
  (repeat first | simp (disch:=try exact dis1) only [evD,Nat.reduceBEq,Nat.reduceAdd,Nat.reduceLeDiff,dF] | with_reducible intro _ | ((with_reducible apply And.intro);omega))
  unfold zfZ
  (repeat first | simp (disch:=try exact dis1) only [evD,Nat.reduceBEq,Nat.reduceAdd,Nat.reduceLeDiff,encP,za,St.cells] | with_reducible intro _ | ((with_reducible apply And.intro);omega))
  refine zp (zm huse rfl) ?_
  (repeat first | simp (disch:=try exact dis1) only [evD,Nat.reduceBEq,Nat.reduceAdd,Nat.reduceLeDiff,zn] | with_reducible intro _ | ((with_reducible apply And.intro);omega))
  refine zw [(0,0,0)] 1 _ (zgT b us g1 (by omega) (by omega)) rfl rfl (by (try simp only [evWB,Nat.reduceBEq,Nat.reduceAdd,Nat.reduceSub,Nat.reduceLeDiff,Nat.reduceLT,implies_true,zn])<;>exact fin6) (by (try simp only [evWB,Nat.reduceBEq,Nat.reduceAdd,Nat.reduceSub,Nat.reduceLeDiff,Nat.reduceLT,implies_true,zn])<;>exact fin6) ?_
  rintro _ _ _ ⟨rfl,rfl,rfl⟩
  have hb1:=zei (l:=us) (s:=b)
  have hb2:=zji (l:=us) g1 (by omega) (by omega)
  generalize addL b us=d at hb1 hb2 ⊢
  (repeat first | simp (disch:=try exact dis1) only [evD,Nat.reduceBEq,Nat.reduceAdd,Nat.reduceLeDiff,renM,encP,za,St.cells] | with_reducible intro _ | ((with_reducible apply And.intro);omega))
  refine zp (zm hlv rfl) ?_
  cases lv with
  |
   true =>
   rw [if_pos rfl]
   (repeat first | simp (disch:=try exact dis1) only [evD,Nat.reduceBEq,Nat.reduceAdd,Nat.reduceLeDiff,zn] | with_reducible intro _ | ((with_reducible apply And.intro);omega))
   refine zw [(0,0,0)] 1 _ (zgT d exit hb2 (by omega) (by omega)) rfl rfl (by (try simp only [evWB,Nat.reduceBEq,Nat.reduceAdd,Nat.reduceSub,Nat.reduceLeDiff,Nat.reduceLT,implies_true,zn])<;>exact fin6) (by (try simp only [evWB,Nat.reduceBEq,Nat.reduceAdd,Nat.reduceSub,Nat.reduceLeDiff,Nat.reduceLT,implies_true,zn])<;>exact fin6) ?_
   rintro _ _ _ ⟨rfl,rfl,rfl⟩
   (repeat first | simp (disch:=try exact dis1) only [evD,Nat.reduceBEq,Nat.reduceAdd,Nat.reduceLeDiff,renM,zfe] | with_reducible intro _ | ((with_reducible apply And.intro);omega))
   exact ⟨_,_,_,(Ent.tabB [(0,0,0)] [] rfl rfl rfl (by (try simp only [evWB,Nat.reduceBEq,Nat.reduceAdd,Nat.reduceSub,Nat.reduceLeDiff,Nat.reduceLT,implies_true,zn])<;>exact fin6) (by (try simp only [evWB,Nat.reduceBEq,Nat.reduceAdd,Nat.reduceSub,Nat.reduceLeDiff,Nat.reduceLT,implies_true,zn])<;>exact fin6)),rfl,rfl,rfl⟩
  |
   false =>
   rw [if_neg (by simp)]
   (repeat first | simp (disch:=try exact dis1) only [evD,Nat.reduceBEq,Nat.reduceAdd,Nat.reduceLeDiff,zfe] | with_reducible intro _ | ((with_reducible apply And.intro);omega))
   exact ⟨_,_,_,(Ent.tabB [(0,0,0)] [] rfl rfl rfl (by (try simp only [evWB,Nat.reduceBEq,Nat.reduceAdd,Nat.reduceSub,Nat.reduceLeDiff,Nat.reduceLT,implies_true,zn])<;>exact fin6) (by (try simp only [evWB,Nat.reduceBEq,Nat.reduceAdd,Nat.reduceSub,Nat.reduceLeDiff,Nat.reduceLT,implies_true,zn])<;>exact fin6)),rfl,rfl,rfl⟩
def mps (F n:Nat):List (List AV):=(List.range n).map fun i=>[.mp F (i+1)]
theorem zgP {F n:Nat}:(mps F n).length=n:=by simp [mps]
theorem zfb {F n i:Nat} (h:i < n):(mps F n).getD i []=[.mp F (i+1)]:=by simp [mps,List.getD_eq_getElem?_getD,h]
def bdH (n:Nat) (S T:Nat→MS):AH:=[(0, .row 1 (mps 2 n) 0),(1, .row 1 (mps 3 n) 0),(2,famS n S),(3,famS n T)]
theorem zhs {H HH:AH} {σ:Nat→Nat→Option (Nat × Nat × Nat)} {D:Nat→Nat→Prop} {F F' n:Nat} (h:∀ i,σ F' (i+1)=some (F,i+1,0)):RowV H HH σ D (mps F n) (mps F' n):=by
 refine ⟨by simp [mps],fun i c2 hi=>?_⟩
 unfold mps at hi ⊢
 simp only [List.getElem?_map,Option.map_eq_some_iff] at hi ⊢
 obtain ⟨k,hk,rfl⟩:=hi
 refine ⟨_,⟨k,hk,rfl⟩,rfl,fun j x y h1 h2=>?_⟩
 cases j with
 | succ j=>cases h1
 |
  zero =>
  cases h1
  cases h2
  exact .mp _ _ _ _ (h k)
def zaY (s:MS):List Int:=zcd s.keys
def addT (n:Nat) (S:Nat→MS) (a:MS) (t:Int):MS:=if 0≤t∧t < n then addL a (zaY (S t.toNat)) else a
theorem bd_l1 {Q:QT} (n b:Nat) (hb:b < n) (S T:Nat→MS) (ts exit:List Int) (sts:List St) (ch:Bool)
  (hS:∀ i,i < n→(S i).ok) (hT:(T b).ok) (hroom:∀ i,i < ts.length→(((ts.take i).foldl (addT n S) (T b)).ok∧∀ j,j < n→((ts.take i).foldl (addT n S) (T b)).1+(S j).2.length≤1000000∧((ts.take i).foldl (addT n S) (T b)).2.length+(S j).2.length≤1000000))
  (hlen:ts.length≤1000000) (hn:n≤1000000) (bl:List Bl) (ad:Int) (hbl:bl.length=n)
  (hfin:wpX Try.prog 0 zaq Q [(1,za exit),(2,encP 2 [.int .u32 ad,encL 2 Bl.cells bl]),(6, .own 0 0 0 0 n),(7, .own 1 0 0 0 n),(9, .bool ch),(10, .int .i64 b),(11,encL 8 St.cells sts),(62,za ts),(63, .int .i64 ts.length),(64, .int .i64 ts.length),(65, .bool false)] (bdH n S (updF T b (ts.foldl (addT n S) (T b)))) 4)
  {K:Kn} {H:AH} {nx:Nat} (hent:Ent 0 K H nx [(1,za exit),(2,encP 2 [.int .u32 ad,encL 2 Bl.cells bl]),(6, .own 0 0 0 0 n),(7, .own 1 0 0 0 n),(9, .bool ch),(10, .int .i64 b),(11,encL 8 St.cells sts),(62,za ts),(63, .int .i64 ts.length),(64, .int .i64 0)] (bdH n S T) 4) :
  zjO Try.prog 0 zcm (zcF 6 (seqQ Try.prog 0 zaq Q)) K H nx:=by
 have hB:=hBig
 refine zf (fun i:Nat=>([(1,za exit),(2,encP 2 [.int .u32 ad,encL 2 Bl.cells bl]),(6, .own 0 0 0 0 n),(7, .own 1 0 0 0 n),(9, .bool ch),(10, .int .i64 b),(11,encL 8 St.cells sts),(62,za ts),(63, .int .i64 ts.length),(64, .int .i64 i)],bdH n S (updF T b ((ts.take i).foldl (addT n S) (T b))))) 4
  (fun i=>i≤ts.length) (fun i=>ts.length - i) 0 (Nat.zero_le _) (by rw [List.take_zero,List.foldl_nil,zpr];exact hent) ?_
 rintro i hi wf
 unfold zcm
 by_cases hil:i < ts.length
 ·
  have hgl:=zz (f:=cI) (d:=[]) hil
  obtain ⟨r1,r2⟩:=hroom i hil
  have hst:(ts.take (i+1)).foldl (addT n S) (T b)=addT n S ((ts.take i).foldl (addT n S) (T b)) ts[i]:=zmv hil
  generalize (ts.take i).foldl (addT n S) (T b)=a at r1 r2 hst ⊢
  generalize ts[i]=t at hgl hst
  by_cases hin:0≤t∧t < n
  ·
   obtain ⟨t',rfl⟩:=Int.eq_ofNat_of_zero_le hin.1
   have ht:t' < n:=by omega
   (repeat first | simp (disch:=try exact dis1) only [evD,Nat.reduceBEq,Nat.reduceAdd,Nat.reduceLeDiff,dT,hgl,fldP,za,bdH,zgP,zfb ht,zfb hb] | with_reducible intro _ | ((with_reducible apply And.intro);omega))
   have hkl:(zaY (S t')).length=(S t').2.length:=by unfold zaY MS.keys;rw [(zZ _).length_eq,List.length_map]
   have hadd:=addL a (zaY (S t'))
   have e1:addT n S a (t':Int)=addL a (zaY (S t')):=by unfold addT;rw [if_pos hin];rfl
   rw [e1] at hst
   have hks:zcd ((S t').2.map (·.1))=zaY (S t'):=rfl
   have hT2:updF T b a b=a:=zir
   have hsa:=zlS n b hb (updF T b a) (zaY (S t')) (by rw [hT2];exact r1) (by rw [hT2,hkl];exact (r2 t' ht).1) (by rw [hT2,hkl];exact (r2 t' ht).2)
   rw [hT2,znJ] at hsa
   (repeat' with_reducible apply And.intro)
   all_goals try omega
   all_goals (refine zw [(0,2,0)] 1 _ (zdf n t' ht S (hS t' ht)) rfl rfl (by (try simp only [evWB,Nat.reduceBEq,Nat.reduceAdd,Nat.reduceSub,Nat.reduceLeDiff,Nat.reduceLT,implies_true,famS])<;>exact fin8) (by (try simp only [evWB,Nat.reduceBEq,Nat.reduceAdd,Nat.reduceSub,Nat.reduceLeDiff,Nat.reduceLT,implies_true,famS])<;>exact fin8) ?_)
   all_goals (rintro _ _ _ ⟨rfl,rfl,rfl⟩;(repeat first | simp (disch:=try exact dis1) only [evD,Nat.reduceBEq,Nat.reduceAdd,Nat.reduceLeDiff,renE,renF,hks,bdH,za,zgP,zfb ht,zfb hb] | with_reducible intro _ | ((with_reducible apply And.intro);omega)))
   all_goals (repeat' with_reducible apply And.intro)
   all_goals try omega
   all_goals (refine zw [(0,3,0)] 1 _ (hsa) rfl rfl (by (try simp only [evWB,Nat.reduceBEq,Nat.reduceAdd,Nat.reduceSub,Nat.reduceLeDiff,Nat.reduceLT,implies_true,famS])<;>exact fin8) (by (try simp only [evWB,Nat.reduceBEq,Nat.reduceAdd,Nat.reduceSub,Nat.reduceLeDiff,Nat.reduceLT,implies_true,famS])<;>exact fin8) ?_)
   all_goals (rintro _ _ _ ⟨rfl,rfl,rfl⟩;(repeat first | simp (disch:=try exact dis1) only [evD,Nat.reduceBEq,Nat.reduceAdd,Nat.reduceLeDiff,renF,bdH,za] | with_reducible intro _ | ((with_reducible apply And.intro);omega)))
   all_goals exact ⟨i+1,by omega,by omega,(Ent.tab [(0,0,0),(1,1,0),(2,2,0),(3,3,0)] [] rfl (by (try simp only [evWB,Nat.reduceBEq,Nat.reduceAdd,Nat.reduceSub,Nat.reduceLeDiff,Nat.reduceLT,implies_true,bdH,za,hst,famS])<;>exact fin8) (by (try simp only [evWB,Nat.reduceBEq,Nat.reduceAdd,Nat.reduceSub,Nat.reduceLeDiff,Nat.reduceLT,implies_true,bdH,za,hst,famS])<;>exact fin8))⟩
  ·
   have e1:addT n S a t=a:=if_neg hin
   rw [e1] at hst
   by_cases h0:0≤t
   ·
    have h1:¬ t < bl.length:=by omega
    (repeat first | simp (disch:=try exact dis1) only [evD,Nat.reduceBEq,Nat.reduceAdd,Nat.reduceLeDiff,dT,dF,hgl,fldP,za,bdH] | with_reducible intro _ | ((with_reducible apply And.intro);omega))
    exact ⟨i+1,by omega,by omega,(Ent.tab [(0,0,0),(1,1,0),(2,2,0),(3,3,0)] [] rfl (by (try simp only [evWB,Nat.reduceBEq,Nat.reduceAdd,Nat.reduceSub,Nat.reduceLeDiff,Nat.reduceLT,implies_true,bdH,za,hst,famS])<;>exact fin8) (by (try simp only [evWB,Nat.reduceBEq,Nat.reduceAdd,Nat.reduceSub,Nat.reduceLeDiff,Nat.reduceLT,implies_true,bdH,za,hst,famS])<;>exact fin8))⟩
   ·
    (repeat first | simp (disch:=try exact dis1) only [evD,Nat.reduceBEq,Nat.reduceAdd,Nat.reduceLeDiff,dT,dF,hgl,fldP,za,bdH] | with_reducible intro _ | ((with_reducible apply And.intro);omega))
    exact ⟨i+1,by omega,by omega,(Ent.tab [(0,0,0),(1,1,0),(2,2,0),(3,3,0)] [] rfl (by (try simp only [evWB,Nat.reduceBEq,Nat.reduceAdd,Nat.reduceSub,Nat.reduceLeDiff,Nat.reduceLT,implies_true,bdH,za,hst,famS])<;>exact fin8) (by (try simp only [evWB,Nat.reduceBEq,Nat.reduceAdd,Nat.reduceSub,Nat.reduceLeDiff,Nat.reduceLT,implies_true,bdH,za,hst,famS])<;>exact fin8))⟩
 ·
  obtain rfl:i=ts.length:=by omega
  rw [List.take_length]
  (repeat first | simp (disch:=try exact dis1) only [evD,Nat.reduceBEq,Nat.reduceAdd,Nat.reduceLeDiff,dF] | with_reducible intro _ | ((with_reducible apply And.intro);omega))
  exact hfin
def zeP (exit:List Int) (sts:List St) (i:Nat) (a:MS):MS:=(sts.drop i).foldr (zeA exit) a
theorem zxi {exit:List Int} {sts:List St} {i:Nat} {a:MS} (h:i < sts.length):zeP exit sts i a=zeA exit sts[i] (zeP exit sts (i+1) a):=by
 unfold zeP
 rw [List.drop_eq_getElem_cons h]
 rfl
theorem bd_l2 {Q:QT} (n b:Nat) (S T:Nat→MS) (exit:List Int) (sts:List St) (ch:Bool) (a:MS)
  (hroom:∀ i (hi:i < sts.length),(zeP exit sts (i+1) a).ok∧zt sts[i].e≤100000∧(zeP exit sts (i+1) a).1+zt sts[i].e+exit.length≤1000000∧(zeP exit sts (i+1) a).2.length+zt sts[i].e+exit.length≤1000000)
  (hlen:sts.length≤1000000) (bl:List Bl) (ad:Int)
  (hfin:wpX Try.prog 0 zau Q [(1,za exit),(2,encP 2 [.int .u32 ad,encL 2 Bl.cells bl]),(6, .own 0 0 0 0 n),(7, .own 1 0 0 0 n),(9, .bool ch),(10, .int .i64 b),(11,encL 8 St.cells sts),(14, .mp 4 0),(15, .int .i64 (-1)),(100, .bool false)] (bdH n S T++[(4, .row 3 ((setM (zeP exit sts 0 a).1 (zeP exit sts 0 a).2).map cm) 0)]) 5)
  {K:Kn} {H:AH} {nx:Nat} (hent:Ent 0 K H nx [(1,za exit),(2,encP 2 [.int .u32 ad,encL 2 Bl.cells bl]),(6, .own 0 0 0 0 n),(7, .own 1 0 0 0 n),(9, .bool ch),(10, .int .i64 b),(11,encL 8 St.cells sts),(14, .mp 4 0),(15, .int .i64 ((sts.length:Int) - 1))] (bdH n S T++[(4, .row 3 ((setM a.1 a.2).map cm) 0)]) 5) :
  zjO Try.prog 0 zcq (zcF 8 (seqQ Try.prog 0 zau Q)) K H nx:=by
 have hB:=hBig
 have hz:zeP exit sts sts.length a=a:=by unfold zeP;rw [List.drop_length];rfl
 refine zf (fun i:Nat=>([(1,za exit),(2,encP 2 [.int .u32 ad,encL 2 Bl.cells bl]),(6, .own 0 0 0 0 n),(7, .own 1 0 0 0 n),(9, .bool ch),(10, .int .i64 b),(11,encL 8 St.cells sts),(14, .mp 4 0),(15, .int .i64 ((i:Int) - 1))],bdH n S T++[(4, .row 3 ((setM (zeP exit sts i a).1 (zeP exit sts i a).2).map cm) 0)])) 5
  (fun i=>i≤sts.length) (fun i=>i) sts.length (Nat.le_refl _) (by rw [hz];exact hent) ?_
 rintro i hi wf
 unfold zcq
 rcases Nat.eq_zero_or_pos i with rfl | hp
 ·
  (repeat first | simp (disch:=try exact dis1) only [evD,Nat.reduceBEq,Nat.reduceAdd,Nat.reduceLeDiff,dF,Int.natCast_zero,bdH,List.cons_append,List.nil_append] | with_reducible intro _ | ((with_reducible apply And.intro);omega))
  exact hfin
 ·
  obtain ⟨i,rfl⟩:∃ k,i=k+1:=⟨i - 1,by omega⟩
  have hil:i < sts.length:=by omega
  have hgl:=zz (f:=St.cells) (d:=[]) hil
  obtain ⟨r1,r2,r3,r4⟩:=hroom i hil
  have hat:=zxi (exit:=exit) (a:=a) hil
  have ei:((i+1:Nat):Int) - 1=i:=by omega
  have hbk:=zhC (zeP exit sts (i+1) a) sts[i] exit r1 r2 r3 r4
  rw [← hat] at hbk
  generalize zeP exit sts (i+1) a=c at r1 r3 r4 hbk ⊢
  (repeat first | simp (disch:=try exact dis1) only [evD,Nat.reduceBEq,Nat.reduceAdd,Nat.reduceLeDiff,ei,dT,hgl,bdH,List.cons_append,List.nil_append] | with_reducible intro _ | ((with_reducible apply And.intro);omega))
  refine zw [(0,4,0)] 1 _ (hbk) rfl rfl fin8 fin8 ?_
  rintro _ _ _ ⟨rfl,rfl,rfl⟩
  (repeat first | simp (disch:=try exact dis1) only [evD,Nat.reduceBEq,Nat.reduceAdd,Nat.reduceLeDiff,renM] | with_reducible intro _ | ((with_reducible apply And.intro);omega))
  exact ⟨i,by omega,by omega,(Ent.tab [(0,0,0),(1,1,0),(2,2,0),(3,3,0),(4,4,0)] [] rfl (by (try simp only [evWB,Nat.reduceBEq,Nat.reduceAdd,Nat.reduceSub,Nat.reduceLeDiff,Nat.reduceLT,implies_true,bdH,za,famS,List.cons_append,List.nil_append])<;>exact fin8) (by (try simp only [evWB,Nat.reduceBEq,Nat.reduceAdd,Nat.reduceSub,Nat.reduceLeDiff,Nat.reduceLT,implies_true,bdH,za,famS,List.cons_append,List.nil_append])<;>exact fin8))⟩
theorem bd_k3 {Q:QT} (n b:Nat) (hb:b < n) (hn:n≤1000000) (S T:Nat→MS) (exit:List Int) (sts:List St) (ch:Bool) (a:MS) (z:Int) (y:Bool)
  (ha:a.ok) (hS:(S b).ok) (h1:(S b).1+a.2.length≤1000000) (h2:(S b).2.length+a.2.length≤1000000) (bl:List Bl) (ad:Int)
  (hfin:∀ K H nx,Ent 0 K H nx [(1,za exit),(2,encP 2 [.int .u32 ad,encL 2 Bl.cells bl]),(6, .own 0 0 0 0 n),(7, .own 1 0 0 0 n),(9, .bool (ch||decide ((S b).2.length < (addL (S b) (zaY a)).2.length))),(10, .int .i64 ((b:Int) - 1))] (bdH n (updF S b (addL (S b) (zaY a))) T) 4→Q .normal K H nx) :
  wpX Try.prog 0 zau (zcF 5 (seqQ Try.prog 0 zY Q)) [(1,za exit),(2,encP 2 [.int .u32 ad,encL 2 Bl.cells bl]),(6, .own 0 0 0 0 n),(7, .own 1 0 0 0 n),(9, .bool ch),(10, .int .i64 b),(11,encL 8 St.cells sts),(14, .mp 4 0),(15, .int .i64 z),(100, .bool y)] (bdH n S T++[(4, .row 3 ((setM a.1 a.2).map cm) 0)]) 5:=by
 have hB:=hBig
 unfold zau
 have hks:zcd (a.2.map (·.1))=zaY a:=rfl
 have hkl:(zaY a).length=a.2.length:=by unfold zaY MS.keys;rw [(zZ _).length_eq,List.length_map]
 have hsa:=zlS n b hb S (zaY a) hS (by rw [hkl];exact h1) (by rw [hkl];exact h2)
 (repeat first | simp (disch:=try exact dis1) only [evD,Nat.reduceBEq,Nat.reduceAdd,Nat.reduceLeDiff,bdH,za,zgP,zfb hb,List.cons_append,List.nil_append] | with_reducible intro _ | ((with_reducible apply And.intro);omega))
 (repeat' with_reducible apply And.intro)
 all_goals try omega
 all_goals (refine zw [(0,4,0)] 1 _ (zmT a.1 a.2 ha) rfl rfl fin8 fin8 ?_)
 all_goals (rintro _ _ _ ⟨rfl,rfl,rfl⟩;(repeat first | simp (disch:=try exact dis1) only [evD,Nat.reduceBEq,Nat.reduceAdd,Nat.reduceLeDiff,renE,renM,hks,za,zgP,zfb hb] | with_reducible intro _ | ((with_reducible apply And.intro);omega)))
 all_goals (repeat' with_reducible apply And.intro)
 all_goals try omega
 all_goals (refine zw [(0,2,0)] 1 _ (hsa) rfl rfl (by (try simp only [evWB,Nat.reduceBEq,Nat.reduceAdd,Nat.reduceSub,Nat.reduceLeDiff,Nat.reduceLT,implies_true,famS])<;>exact fin8) (by (try simp only [evWB,Nat.reduceBEq,Nat.reduceAdd,Nat.reduceSub,Nat.reduceLeDiff,Nat.reduceLT,implies_true,famS])<;>exact fin8) ?_)
 all_goals (rintro _ _ _ ⟨rfl,rfl,rfl⟩;(repeat first | simp (disch:=try exact dis1) only [evD,Nat.reduceBEq,Nat.reduceAdd,Nat.reduceLeDiff,renF,za] | with_reducible intro _ | ((with_reducible apply And.intro);omega)))
 all_goals (by_cases hg:(S b).2.length < (addL (S b) (zaY a)).2.length)
 all_goals first
  | ((repeat first | simp (disch:=try exact dis1) only [evD,Nat.reduceBEq,Nat.reduceAdd,Nat.reduceLeDiff,dT hg] | with_reducible intro _ | ((with_reducible apply And.intro);omega));unfold zY;(repeat first | simp (disch:=try exact dis1) only [evD,Nat.reduceBEq,Nat.reduceAdd,Nat.reduceLeDiff,zr0] | with_reducible intro _ | ((with_reducible apply And.intro);omega));refine hfin _ _ _ ?_;rw [decide_eq_true hg,Bool.or_true];exact (Ent.tab [(0,0,0),(1,1,0),(2,2,0),(3,3,0)] [] rfl (by (try simp only [evWB,Nat.reduceBEq,Nat.reduceAdd,Nat.reduceSub,Nat.reduceLeDiff,Nat.reduceLT,implies_true,bdH,za,famS])<;>exact fin8) (by (try simp only [evWB,Nat.reduceBEq,Nat.reduceAdd,Nat.reduceSub,Nat.reduceLeDiff,Nat.reduceLT,implies_true,bdH,za,famS])<;>exact fin8)))
  | ((repeat first | simp (disch:=try exact dis1) only [evD,Nat.reduceBEq,Nat.reduceAdd,Nat.reduceLeDiff,dF hg] | with_reducible intro _ | ((with_reducible apply And.intro);omega));unfold zY;(repeat first | simp (disch:=try exact dis1) only [evD,Nat.reduceBEq,Nat.reduceAdd,Nat.reduceLeDiff,zr0] | with_reducible intro _ | ((with_reducible apply And.intro);omega));refine hfin _ _ _ ?_;rw [decide_eq_false hg,Bool.or_false];exact (Ent.tab [(0,0,0),(1,1,0),(2,2,0),(3,3,0)] [] rfl (by (try simp only [evWB,Nat.reduceBEq,Nat.reduceAdd,Nat.reduceSub,Nat.reduceLeDiff,Nat.reduceLT,implies_true,bdH,za,famS])<;>exact fin8) (by (try simp only [evWB,Nat.reduceBEq,Nat.reduceAdd,Nat.reduceSub,Nat.reduceLeDiff,Nat.reduceLT,implies_true,bdH,za,famS])<;>exact fin8)))
def zhh (exit:List Int) (sts:List St) (t:MS):MS:=zeP exit sts 0 (addL (0,[]) (zaY t))
theorem bd_k4 {Q:QT} (n b:Nat) (hb:b < n) (hn:n≤1000000) (S T:Nat→MS) (exit ts:List Int) (sts:List St) (ch:Bool)
  (hT:(T b).ok) (hroom:∀ i (hi:i < sts.length),(zeP exit sts (i+1) (addL (0,[]) (zaY (T b)))).ok∧zt sts[i].e≤100000∧(zeP exit sts (i+1) (addL (0,[]) (zaY (T b)))).1+zt sts[i].e+exit.length≤1000000∧(zeP exit sts (i+1) (addL (0,[]) (zaY (T b)))).2.length+zt sts[i].e+exit.length≤1000000)
  (hlen:sts.length≤1000000) (ha:(zhh exit sts (T b)).ok) (hS:(S b).ok) (h1:(S b).1+(zhh exit sts (T b)).2.length≤1000000) (h2:(S b).2.length+(zhh exit sts (T b)).2.length≤1000000) (bl:List Bl) (ad:Int)
  (hfin:∀ K H nx,Ent 0 K H nx [(1,za exit),(2,encP 2 [.int .u32 ad,encL 2 Bl.cells bl]),(6, .own 0 0 0 0 n),(7, .own 1 0 0 0 n),(9, .bool (ch||decide ((S b).2.length < (addL (S b) (zaY (zhh exit sts (T b)))).2.length))),(10, .int .i64 ((b:Int) - 1))] (bdH n (updF S b (addL (S b) (zaY (zhh exit sts (T b))))) T) 4→Q .normal K H nx) :
  wpX Try.prog 0 zaq (zcF 5 (seqQ Try.prog 0 zY Q)) [(1,za exit),(2,encP 2 [.int .u32 ad,encL 2 Bl.cells bl]),(6, .own 0 0 0 0 n),(7, .own 1 0 0 0 n),(9, .bool ch),(10, .int .i64 b),(11,encL 8 St.cells sts),(62,za ts),(63, .int .i64 ts.length),(64, .int .i64 ts.length),(65, .bool false)] (bdH n S T) 4:=by
 have hB:=hBig
 unfold zaq
 have hks:zcd ((T b).2.map (·.1))=zaY (T b):=rfl
 have hkl:(zaY (T b)).length=(T b).2.length:=by unfold zaY MS.keys;rw [(zZ _).length_eq,List.length_map]
 have htop:=hT.len
 have hsa:zN Try.prog zo [.mp 0 0,za (zaY (T b))] [(0, .row 3 [[.int .i64 0, .undef, .undef]] 0)] 1
   (fun v H nx=>v=.bool (decide (([]:List (Int × Int)).length < (addL (0,[]) (zaY (T b))).2.length))∧H=[(0, .row 3 ((setM (addL (0,[]) (zaY (T b))).1 (addL (0,[]) (zaY (T b))).2).map cm) 0)]∧nx=1) :=
  zgT (0,[]) (zaY (T b)) zmn (by rw [hkl];simp only;omega) (by rw [hkl];simp only [List.length_nil];omega)
 (repeat first | simp (disch:=try exact dis1) only [evD,Nat.reduceBEq,Nat.reduceAdd,Nat.reduceLeDiff,bdH,za,zgP,zfb hb] | with_reducible intro _ | ((with_reducible apply And.intro);omega))
 refine zw [(0,3,0)] 1 _ (zdf n b hb T hT) rfl rfl (by (try simp only [evWB,Nat.reduceBEq,Nat.reduceAdd,Nat.reduceSub,Nat.reduceLeDiff,Nat.reduceLT,implies_true,famS])<;>exact fin8) (by (try simp only [evWB,Nat.reduceBEq,Nat.reduceAdd,Nat.reduceSub,Nat.reduceLeDiff,Nat.reduceLT,implies_true,famS])<;>exact fin8) ?_
 rintro _ _ _ ⟨rfl,rfl,rfl⟩
 (repeat first | simp (disch:=try exact dis1) only [evD,Nat.reduceBEq,Nat.reduceAdd,Nat.reduceLeDiff,renE,renF,hks,za] | with_reducible intro _ | ((with_reducible apply And.intro);omega))
 refine zw [(0,4,0)] 1 _ (hsa) rfl rfl fin8 fin8 ?_
 rintro _ _ _ ⟨rfl,rfl,rfl⟩
 (repeat first | simp (disch:=try exact dis1) only [evD,Nat.reduceBEq,Nat.reduceAdd,Nat.reduceLeDiff,renM,za] | with_reducible intro _ | ((with_reducible apply And.intro);omega))
 refine bd_l2 n b S T exit sts ch (addL (0,[]) (zaY (T b))) hroom hlen bl ad (bd_k3 n b hb hn S T exit sts ch (zhh exit sts (T b)) (-1) false ha hS h1 h2 bl ad hfin) ?_
 exact (Ent.tab [(0,0,0),(1,1,0),(2,2,0),(3,3,0),(4,4,0)] [] rfl (by (try simp only [evWB,Nat.reduceBEq,Nat.reduceAdd,Nat.reduceSub,Nat.reduceLeDiff,Nat.reduceLT,implies_true,bdH,za,famS,zn,List.cons_append,List.nil_append])<;>exact fin8) (by (try simp only [evWB,Nat.reduceBEq,Nat.reduceAdd,Nat.reduceSub,Nat.reduceLeDiff,Nat.reduceLT,implies_true,bdH,za,famS,zn,List.cons_append,List.nil_append])<;>exact fin8))
structure SetU (U:List Int) (s:MS):Prop where
 ok:s.ok
 clock:s.1=s.2.length
 sub:∀ x∈s.keys,x∈U
theorem SetU.len {U:List Int} {s:MS} (h:SetU U s):s.2.length≤U.length:=by
 have:=List.Nodup.length_le_of_subset h.ok.keys (show ∀ a∈s.2.map (·.1),a∈U from h.sub)
 rwa [List.length_map] at this
theorem SetU.none {U:List Int}:SetU U (0,[]):=⟨zmn,rfl,fun x h=>by simp [MS.keys] at h⟩
theorem zsV {s:MS} {v:Int} (h:s.1=s.2.length):(add1 s v).1=(add1 s v).2.length:=by
 unfold add1
 split
 · exact h
 · simp [h]
theorem znF:∀ {l:List Int} {s:MS},s.1=s.2.length→(addL s l).1=(addL s l).2.length
 | [],_,h=>h
 |
  v::l,s,h=>by
  show (addL (add1 s v) l).1=_
  exact znF (l:=l) (zsV h)
theorem SetU.add {U:List Int} {s:MS} {l:List Int} (h:SetU U s) (hl:∀ x∈l,x∈U) (hU:U.length+l.length≤1000000):SetU U (addL s l):=by
 have h1:=h.len
 have h2:=h.clock
 refine ⟨zji h.ok (by omega) (by omega),znF h.clock,fun x hx=>?_⟩
 rcases zeV.1 hx with h3 | h3
 · exact h.sub x h3
 · exact hl x h3
theorem zh8 {s:MS} {x:Int}:x∈zaY s↔x∈s.keys:=(zZ _).mem_iff
theorem zid {s:MS}:(zaY s).length=s.2.length:=by unfold zaY MS.keys;rw [(zZ _).length_eq,List.length_map]
def zby (k:Nat):List St→Nat
 | []=>0
 | s::l=>zt s.e+k+zby k l
theorem znH {k:Nat} {l:List St} {i:Nat} (h:i < l.length):zby k (l.drop i)=zt l[i].e+k+zby k (l.drop (i+1)):=by
 rw [List.drop_eq_getElem_cons h]
 rfl
theorem zoo {exit:List Int}:∀ {l:List St} {a:MS},a.ok→a.1+zby exit.length l≤1000000→a.2.length+zby exit.length l≤1000000 →
  (l.foldr (zeA exit) a).ok∧(l.foldr (zeA exit) a).1≤a.1+zby exit.length l∧(l.foldr (zeA exit) a).2.length≤a.2.length+zby exit.length l
 | [],a,h,_,_=>⟨h,by show a.1≤a.1+(0:Nat);omega,Nat.le_refl _⟩
 |
  s::l,a,h,h1,h2=>by
  have e:zby exit.length (s::l)=zt s.e+exit.length+zby exit.length l:=rfl
  rw [e] at h1 h2 ⊢
  obtain ⟨i1,i2,i3⟩:=zoo (exit:=exit) (l:=l) h (by omega) (by omega)
  obtain ⟨j1,j2,j3⟩:=zst (exit:=exit) (s:=s) i1 (by omega) (by omega)
  exact ⟨j1,by show (zeA exit s (l.foldr (zeA exit) a)).1≤_;omega,by show (zeA exit s (l.foldr (zeA exit) a)).2.length≤_;omega⟩
theorem zo4 {exit:List Int} {a:MS} {m:List Int} (h:∀ x,x∈a.keys↔x∈m):∀ (l:List St) (x:Int),x∈(l.foldr (zeA exit) a).keys↔x∈zi8 exit l m
 | [],x=>h x
 | s::l,x=>zl1 (fun y=>zo4 h l y) x
abbrev BS:=(Nat→MS) × (Nat→MS) × Bool
def outM (n:Nat) (sts:List St) (p:BS) (b:Nat):Nat→MS:=updF p.2.1 b ((zD sts).foldl (addT n p.1) (p.2.1 b))
def stM (exit:List Int) (bl:List Bl) (p:BS) (b:Nat):BS :=
 let sts:=(bl.map (·.stmts)).getD b []
 if sts.length=0 then p else
 let a:=zhh exit sts (outM bl.length sts p b b)
 (updF p.1 b (addL (p.1 b) (zaY a)),outM bl.length sts p b,p.2.2||decide ((p.1 b).2.length < (addL (p.1 b) (zaY a)).2.length))
def zjB (exit:List Int) (bl:List Bl):Nat→BS→BS
 | 0,p=>p
 | k+1,p=>zjB exit bl k (stM exit bl p k)
def ziE:List St→Int
 | []=>0
 | s::l=>if s.check≠0 then s.check else ziE l
def zkO:List Bl→Int
 | []=>0
 | b::l=>if ziE b.stmts≠0 then ziE b.stmts else zkO l
def zx (l:List Bl):Nat:=(l.map fun b=>b.stmts.length).sum
theorem zqu {l:List Bl} {i:Nat} (h:i < l.length):zx (l.take (i+1))=zx (l.take i)+l[i].stmts.length:=by
 unfold zx
 rw [List.take_add_one,List.getElem?_eq_getElem h,List.map_append,List.sum_append]
 simp
def zyx (g:G):Int:=if (!g.blocks.isEmpty&&g.blocks.all fun b=>zjq b.stmts g.blocks.length)=true then zkO g.blocks else 18
theorem zrI {l:List St} {i:Nat} (h:i < l.length):ziE (l.drop i)=if l[i].check≠0 then l[i].check else ziE (l.drop (i+1)):=by
 rw [List.drop_eq_getElem_cons h,ziE]
theorem zrb {l:List Bl} {i:Nat} (h:i < l.length):zkO (l.drop i)=if ziE l[i].stmts≠0 then ziE l[i].stmts else zkO (l.drop (i+1)):=by
 rw [List.drop_eq_getElem_cons h,zkO]
def znA (g:G):Int:=if 256 < g.blocks.length∨1024 < zx g.blocks then 6 else zyx g
structure fewB (g:G):Prop where
 blocks:g.blocks.length≤300
 stmts:∀ b∈g.blocks,b.stmts.length≤1100
structure PredT (fv:AV) (l:List St) (p:St→Bool):Prop where
 ex:∃ f caps,fv=.fn (.func f) caps∧zfu Try.prog f=true∧zF caps=true∧∀ s∈l,zE Try.prog f ([.agg s.cells]++caps) (·=.bool (p s))
theorem zrp {fv:AV} {l:List St} {p:St→Bool} (hp:PredT fv l p) {s:St} (hs:s∈l) {H:AH} {nx:Nat} {k:AV→AH→Nat→Prop} (hk:k (.bool (p s)) H nx):zms Try.prog fv [.agg s.cells] H nx k:=by
 obtain ⟨f,caps,rfl,hg,hf,hx⟩:=hp.ex
 rw [zkd]
 refine ⟨hg,zp (zm (hx s hs) ?_) hk⟩
 simp only [List.cons_append,List.nil_append,List.all_cons,Bool.and_eq_true]
 exact ⟨rfl,zhc hf⟩
theorem zrR {fv:AV} {l:List St} {p:St→Bool} (hp:PredT fv l p) {H H2:AH} {σ:Nat→Nat→Option (Nat × Nat × Nat)} {D:Nat→Nat→Prop} {t:Bool}:Vw H H2 σ D t fv fv:=by
 obtain ⟨f,caps,rfl,hg,hf,hx⟩:=hp.ex
 refine .fn _ _ _ _ rfl fun i a b h1 h2=>?_
 rw [h1] at h2
 cases h2
 exact zdo (zbr hf h1)
theorem ziX (l:List St) (fv:AV) (p:St→Bool) (hp:PredT fv l p):zE Try.prog zaz [encL 8 St.cells l,fv] (·=.int .i64 (idxI (l.findIdx? p))):=by
 refine fn_x zdK rfl ?_
 unfold zbu
 have hB:=hBig
 (repeat first | simp (disch:=try exact dis1) only [evD,Nat.reduceBEq,Nat.reduceAdd,Nat.reduceLeDiff] | with_reducible intro _ | ((with_reducible apply And.intro);omega))
 refine zf (fun i:Nat=>([(0,encL 8 St.cells l),(1,fv),(7, .int .i64 l.length),(8, .int .i64 i)],[])) 0 (fun i=>i≤l.length∧∀ j (h:j < l.length),j < i→p l[j]=false) (fun i=>l.length - i) 0 ⟨Nat.zero_le _,fun j _ h=>by omega⟩ (Ent.keep rfl fin5) ?_
 intro i ⟨hi,hno⟩ wf
 unfold zbb
 (repeat first | simp (disch:=try exact dis1) only [evD,Nat.reduceBEq,Nat.reduceAdd,Nat.reduceLeDiff] | with_reducible intro _ | ((with_reducible apply And.intro);omega))
 (refine z6 (fun h=>?_) (fun h=>?_))<;>(try simp only [dcd] at h)
 ·
  have hi':i < l.length:=by omega
  (repeat first | simp (disch:=try exact dis1) only [evD,Nat.reduceBEq,Nat.reduceAdd,Nat.reduceLeDiff,zz hi',St.len,St.eight] | with_reducible intro _ | ((with_reducible apply And.intro);omega))
  refine zrp hp (List.getElem_mem hi') ?_
  (repeat first | simp (disch:=try exact dis1) only [evD,Nat.reduceBEq,Nat.reduceAdd,Nat.reduceLeDiff] | with_reducible intro _ | ((with_reducible apply And.intro);omega))
  (refine z6 (fun h2=>?_) (fun h2=>?_))<;>(try simp only [dcd] at h2)
  ·
   (repeat first | simp (disch:=try exact dis1) only [evD,Nat.reduceBEq,Nat.reduceAdd,Nat.reduceLeDiff,zak] | with_reducible intro _ | ((with_reducible apply And.intro);omega))
   have e:l.findIdx? p=some i:=by
    rw [List.findIdx?_eq_some_iff_getElem]
    exact ⟨hi',h2,fun j hj=>by rw [hno j (by omega) hj];simp⟩
   rw [e]
   exact ⟨_, .int _ _ _,rfl⟩
  ·
   (repeat first | simp (disch:=try exact dis1) only [evD,Nat.reduceBEq,Nat.reduceAdd,Nat.reduceLeDiff] | with_reducible intro _ | ((with_reducible apply And.intro);omega))
   refine ⟨i+1,⟨by omega,fun j hj hji=>?_⟩,by omega,Ent.keep rfl fin5⟩
   by_cases hje:j=i
   · subst hje;simpa using h2
   · exact hno j hj (by omega)
 ·
  unfold za3
  (repeat first | simp (disch:=try exact dis1) only [evD,Nat.reduceBEq,Nat.reduceAdd,Nat.reduceLeDiff,zak] | with_reducible intro _ | ((with_reducible apply And.intro);omega))
  have e:l.findIdx? p=none:=by
   rw [List.findIdx?_eq_none_iff]
   intro x hx
   obtain ⟨j,hj,rfl⟩:=List.mem_iff_getElem.1 hx
   exact hno j hj (by omega)
  rw [e]
  exact ⟨_, .int _ _ _,rfl⟩
theorem zxQ {l:List St} {p:St→Bool}:decide (idxI (l.findIdx? p) ≥ 0)=l.any p:=by
 cases h:l.findIdx? p with
 |
  none =>
  have:=List.findIdx?_eq_none_iff.1 h
  rw [decide_eq_false (by simp [idxI])]
  symm
  rw [List.any_eq_false]
  intro x hx
  rw [this x hx];simp
 |
  some i =>
  obtain ⟨h1,h2,_⟩:=List.findIdx?_eq_some_iff_getElem.1 h
  rw [decide_eq_true (by simp [idxI])]
  exact (zrx h1 h2).symm
theorem zhp (l:List St) (fv:AV) (p:St→Bool) (hp:PredT fv l p):zE Try.prog zae [encL 8 St.cells l,fv] (·=.bool (l.any p)):=by
 refine fn_x zda rfl ?_
 unfold zbc
 (repeat first | simp (disch:=try exact dis1) only [evD,Nat.reduceBEq,Nat.reduceAdd,Nat.reduceLeDiff] | with_reducible intro _ | ((with_reducible apply And.intro);omega))
 refine zp (zaQ (D:=noR) (ziX l fv p hp) (.cons (zaF rfl) (.cons (zrR hp) .nil)) (.inl rfl)) ?_
 (repeat first | simp (disch:=try exact dis1) only [evD,Nat.reduceBEq,Nat.reduceAdd,Nat.reduceLeDiff,za8] | with_reducible intro _ | ((with_reducible apply And.intro);omega))
 refine ⟨_, .bool _ _,?_⟩
 rw [← zxQ]
structure PredI (fv:AV) (l:List Int) (p:Int→Bool):Prop where
 ex:∃ f caps,fv=.fn (.func f) caps∧zfu Try.prog f=true∧zF caps=true∧∀ s∈l,zE Try.prog f ([.int .i64 s]++caps) (·=.bool (p s))
theorem zrg {fv:AV} {l:List Int} {p:Int→Bool} (hp:PredI fv l p) {s:Int} (hs:s∈l) {H:AH} {nx:Nat} {k:AV→AH→Nat→Prop} (hk:k (.bool (p s)) H nx):zms Try.prog fv [.int .i64 s] H nx k:=by
 obtain ⟨f,caps,rfl,hg,hf,hx⟩:=hp.ex
 rw [zkd]
 refine ⟨hg,zp (zm (hx s hs) ?_) hk⟩
 simp only [List.cons_append,List.nil_append,List.all_cons,Bool.and_eq_true]
 exact ⟨rfl,zhc hf⟩
theorem zse {fv:AV} {l:List Int} {p:Int→Bool} (hp:PredI fv l p) {H H2:AH} {σ:Nat→Nat→Option (Nat × Nat × Nat)} {D:Nat→Nat→Prop} {t:Bool}:Vw H H2 σ D t fv fv:=by
 obtain ⟨f,caps,rfl,hg,hf,hx⟩:=hp.ex
 refine .fn _ _ _ _ rfl fun i a b h1 h2=>?_
 rw [h1] at h2
 cases h2
 exact zdo (zbr hf h1)
theorem ziV (l:List Int) (fv:AV) (p:Int→Bool) (hp:PredI fv l p):zE Try.prog zb9 [za l,fv] (·=.int .i64 (idxI (l.findIdx? p))):=by
 refine fn_x zf9 rfl ?_
 unfold zdm
 have hB:=hBig
 (repeat first | simp (disch:=try exact dis1) only [evD,Nat.reduceBEq,Nat.reduceAdd,Nat.reduceLeDiff,za] | with_reducible intro _ | ((with_reducible apply And.intro);omega))
 refine zf (fun i:Nat=>([(0,za l),(1,fv),(7, .int .i64 l.length),(8, .int .i64 i)],[])) 0 (fun i=>i≤l.length∧∀ j (h:j < l.length),j < i→p l[j]=false) (fun i=>l.length - i) 0 ⟨Nat.zero_le _,fun j _ h=>by omega⟩ (Ent.keep rfl fin5) ?_
 intro i ⟨hi,hno⟩ wf
 unfold zcE
 (repeat first | simp (disch:=try exact dis1) only [evD,Nat.reduceBEq,Nat.reduceAdd,Nat.reduceLeDiff] | with_reducible intro _ | ((with_reducible apply And.intro);omega))
 (refine z6 (fun h=>?_) (fun h=>?_))<;>(try simp only [dcd] at h)
 ·
  have hi':i < l.length:=by omega
  (repeat first | simp (disch:=try exact dis1) only [evD,Nat.reduceBEq,Nat.reduceAdd,Nat.reduceLeDiff,za,zz hi'] | with_reducible intro _ | ((with_reducible apply And.intro);omega))
  refine zrg hp (List.getElem_mem hi') ?_
  (repeat first | simp (disch:=try exact dis1) only [evD,Nat.reduceBEq,Nat.reduceAdd,Nat.reduceLeDiff] | with_reducible intro _ | ((with_reducible apply And.intro);omega))
  (refine z6 (fun h2=>?_) (fun h2=>?_))<;>(try simp only [dcd] at h2)
  ·
   (repeat first | simp (disch:=try exact dis1) only [evD,Nat.reduceBEq,Nat.reduceAdd,Nat.reduceLeDiff,zbW] | with_reducible intro _ | ((with_reducible apply And.intro);omega))
   have e:l.findIdx? p=some i:=by
    rw [List.findIdx?_eq_some_iff_getElem]
    exact ⟨hi',h2,fun j hj=>by rw [hno j (by omega) hj];simp⟩
   rw [e]
   exact ⟨_, .int _ _ _,rfl⟩
  ·
   (repeat first | simp (disch:=try exact dis1) only [evD,Nat.reduceBEq,Nat.reduceAdd,Nat.reduceLeDiff] | with_reducible intro _ | ((with_reducible apply And.intro);omega))
   refine ⟨i+1,⟨by omega,fun j hj hji=>?_⟩,by omega,Ent.keep rfl fin5⟩
   by_cases hje:j=i
   · subst hje;simpa using h2
   · exact hno j hj (by omega)
 ·
  unfold zcH
  (repeat first | simp (disch:=try exact dis1) only [evD,Nat.reduceBEq,Nat.reduceAdd,Nat.reduceLeDiff,zbW] | with_reducible intro _ | ((with_reducible apply And.intro);omega))
  have e:l.findIdx? p=none:=by
   rw [List.findIdx?_eq_none_iff]
   intro x hx
   obtain ⟨j,hj,rfl⟩:=List.mem_iff_getElem.1 hx
   exact hno j hj (by omega)
  rw [e]
  exact ⟨_, .int _ _ _,rfl⟩
theorem zwI {l:List Int} {p:Int→Bool}:decide (idxI (l.findIdx? p) ≥ 0)=l.any p:=by
 cases h:l.findIdx? p with
 |
  none =>
  have:=List.findIdx?_eq_none_iff.1 h
  rw [decide_eq_false (by simp [idxI])]
  symm
  rw [List.any_eq_false]
  intro x hx
  rw [this x hx];simp
 |
  some i =>
  obtain ⟨h1,h2,_⟩:=List.findIdx?_eq_some_iff_getElem.1 h
  rw [decide_eq_true (by simp [idxI])]
  exact (zrx h1 h2).symm
theorem zhz (l:List Int) (fv:AV) (p:Int→Bool) (hp:PredI fv l p):zE Try.prog zbq [za l,fv] (·=.bool (l.any p)):=by
 refine fn_x ze1 rfl ?_
 unfold zcK
 (repeat first | simp (disch:=try exact dis1) only [evD,Nat.reduceBEq,Nat.reduceAdd,Nat.reduceLeDiff] | with_reducible intro _ | ((with_reducible apply And.intro);omega))
 refine zp (zaQ (D:=noR) (ziV l fv p hp) (.cons (zaF rfl) (.cons (zse hp) .nil)) (.inl rfl)) ?_
 (repeat first | simp (disch:=try exact dis1) only [evD,Nat.reduceBEq,Nat.reduceAdd,Nat.reduceLeDiff,zcI] | with_reducible intro _ | ((with_reducible apply And.intro);omega))
 refine ⟨_, .bool _ _,?_⟩
 rw [← zwI]
theorem zp6 (l:List Int) (hl:l.length≤100000000):zN Try.prog zbX [za l] [] 0 (fun v H nx=>v=.own 0 0 0 0 l.length∧H=[(0, .row 1 (l.map cI) 0)]∧nx=1):=by
 refine z7 (fn_x zha rfl ?_)
 unfold zep za
 have hB:=hBig
 have hel:∀ H,zeB 1 (encL 1 (fun n=>[.int .i64 n]) l) H=some (l.map cI):=fun H=>ztx
 (repeat first | simp (disch:=try exact dis1) only [evD,Nat.reduceBEq,Nat.reduceAdd,Nat.reduceLeDiff,zu4] | with_reducible intro _ | ((with_reducible apply And.intro);omega))
 cases h0:(l.length == 0) with
 |
  true =>
  have e:l=[]:=List.eq_nil_of_length_eq_zero (by simpa using h0)
  subst e
  (repeat first | simp (disch:=try exact dis1) only [evD,Nat.reduceBEq,Nat.reduceAdd,Nat.reduceLeDiff] | with_reducible intro _ | ((with_reducible apply And.intro);omega))
  rename_i b
  cases b
  ·
   (repeat first | simp (disch:=try exact dis1) only [evD,Nat.reduceBEq,Nat.reduceAdd,Nat.reduceLeDiff,hel,zbx] | with_reducible intro _ | ((with_reducible apply And.intro);omega))
   exact ⟨.own 0 0 0 0 0,[(0, .row 1 [] 0)],1,(Ent.tab [(0,1,1)] [] rfl (by (try simp only [evWB,Nat.reduceBEq,Nat.reduceAdd,Nat.reduceSub,Nat.reduceLeDiff,Nat.reduceLT,implies_true])<;>exact fin2) (by (try simp only [evWB,Nat.reduceBEq,Nat.reduceAdd,Nat.reduceSub,Nat.reduceLeDiff,Nat.reduceLT,implies_true])<;>exact fin2)),rfl,rfl,rfl⟩
  ·
   (repeat first | simp (disch:=try exact dis1) only [evD,Nat.reduceBEq,Nat.reduceAdd,Nat.reduceLeDiff,zbx] | with_reducible intro _ | ((with_reducible apply And.intro);omega))
   exact ⟨.own 0 0 0 0 0,[(0, .row 1 [] 0)],1,(Ent.tab [(0,1,0)] [] rfl (by (try simp only [evWB,Nat.reduceBEq,Nat.reduceAdd,Nat.reduceSub,Nat.reduceLeDiff,Nat.reduceLT,implies_true])<;>exact fin2) (by (try simp only [evWB,Nat.reduceBEq,Nat.reduceAdd,Nat.reduceSub,Nat.reduceLeDiff,Nat.reduceLT,implies_true])<;>exact fin2)),rfl,rfl,rfl⟩
 |
  false =>
  (repeat first | simp (disch:=try exact dis1) only [evD,Nat.reduceBEq,Nat.reduceAdd,Nat.reduceLeDiff,hel,zbx] | with_reducible intro _ | ((with_reducible apply And.intro);omega))
  exact ⟨.own 0 0 0 0 l.length,[(0, .row 1 (l.map cI) 0)],1,(Ent.tab [(0,1,1)] [] rfl (by (try simp only [evWB,Nat.reduceBEq,Nat.reduceAdd,Nat.reduceSub,Nat.reduceLeDiff,Nat.reduceLT,implies_true])<;>exact fin2) (by (try simp only [evWB,Nat.reduceBEq,Nat.reduceAdd,Nat.reduceSub,Nat.reduceLeDiff,Nat.reduceLT,implies_true])<;>exact fin2)),rfl,rfl,rfl⟩
theorem renI {ρ:Nat→Nat} {l:List Int} {g:Nat}:AObj.ren ρ (.row 1 (l.map cI) g)=.row 1 (l.map cI) g:=by
 simp only [AObj.ren]
 rw [zfO (ze fun _=>rfl)]
theorem zhR (b:Bl) (hc:∀ s∈b.stmts,s.cases.length≤100000000):zE Try.prog zeq [.agg b.cells] (·=za (zD b.stmts)):=by
 refine fn_x zlp rfl ?_
 unfold zhT
 have hB:=hBig
 obtain ⟨ad,l⟩:=b
 simp only at hc
 simp only [Bl.cells]
 by_cases h0:l.length=0
 ·
  obtain rfl:l=[]:=List.eq_nil_of_length_eq_zero h0
  (repeat first | simp (disch:=try exact dis1) only [evD,Nat.reduceBEq,Nat.reduceAdd,Nat.reduceLeDiff,fldP,dT,List.length_nil,zcc] | with_reducible intro _ | ((with_reducible apply And.intro);omega))
  exact ⟨_,zcT (l:=[]) trivial rfl (by simp only [List.length_nil];omega),rfl⟩
 have hlast:l.length - 1 < l.length:=by omega
 have hidx:(((l.length:Nat):Int) - 1).toNat=l.length - 1:=by omega
 have hcs:=hc _ (List.getElem_mem hlast)
 have hg:=zz (f:=St.cells) (d:=[]) hlast
 rw [zlW hlast]
 generalize l[l.length - 1]=s at hg hcs
 obtain ⟨op,var,width,next,els,tgt,e,cs⟩:=s
 simp only [St.cells] at hg hcs
 unfold zj9
 simp only
 (repeat first | simp (disch:=try exact dis1) only [evD,Nat.reduceBEq,Nat.reduceAdd,Nat.reduceLeDiff,fldP,dT,dF,hidx,hg] | with_reducible intro _ | ((with_reducible apply And.intro);omega))
 by_cases h6:op=6
 ·
  rw [if_pos h6]
  (repeat first | simp (disch:=try exact dis1) only [evD,Nat.reduceBEq,Nat.reduceAdd,Nat.reduceLeDiff,dT,dF,fldP,za,St.cells,zcc] | with_reducible intro _ | ((with_reducible apply And.intro);omega))
  exact ⟨_,zcT (l:=[next]) trivial rfl (by simp only [List.length_singleton];omega),rfl⟩
 rw [if_neg h6]
 by_cases h7:op=7
 ·
  rw [if_pos h7]
  (repeat first | simp (disch:=try exact dis1) only [evD,Nat.reduceBEq,Nat.reduceAdd,Nat.reduceLeDiff,dT,dF,fldP,za,St.cells,zcc] | with_reducible intro _ | ((with_reducible apply And.intro);omega))
  exact ⟨_,zcT (l:=[next,els]) trivial rfl (by simp only [List.length_cons,List.length_nil];omega),rfl⟩
 rw [if_neg h7]
 by_cases h8:op=8
 ·
  rw [if_pos h8]
  (repeat first | simp (disch:=try exact dis1) only [evD,Nat.reduceBEq,Nat.reduceAdd,Nat.reduceLeDiff,dT,dF,fldP,St.cells] | with_reducible intro _ | ((with_reducible apply And.intro);omega))
  refine zw [] 0 _ (zp6 cs hcs) rfl rfl (by (try simp only [evWB,Nat.reduceBEq,Nat.reduceAdd,Nat.reduceSub,Nat.reduceLeDiff,Nat.reduceLT,implies_true])<;>exact fin1) (by (try simp only [evWB,Nat.reduceBEq,Nat.reduceAdd,Nat.reduceSub,Nat.reduceLeDiff,Nat.reduceLT,implies_true])<;>exact fin1) ?_
  rintro _ _ _ ⟨rfl,rfl,rfl⟩
  (repeat first | simp (disch:=try exact dis1) only [evD,Nat.reduceBEq,Nat.reduceAdd,Nat.reduceLeDiff,renI,zcc] | with_reducible intro _ | ((with_reducible apply And.intro);omega))
  exact ⟨_,zcT (l:=cs) trivial rfl (by omega),rfl⟩
 rw [if_neg h8]
 (repeat first | simp (disch:=try exact dis1) only [evD,Nat.reduceBEq,Nat.reduceAdd,Nat.reduceLeDiff,dT,dF,fldP,za,St.cells,zcc] | with_reducible intro _ | ((with_reducible apply And.intro);omega))
 exact ⟨_,zcT (l:=[]) trivial rfl (by simp only [List.length_nil];omega),rfl⟩
theorem bd_l6 {Q:QT} (exit:List Int) (bl:List Bl) (ad:Int) (U:List Int) (R p0:BS) (hn:bl.length≤1000000)
  (hstep:∀ (p:BS) k,k < bl.length→(∀ i,SetU U (p.1 i))→(∀ i,SetU U (p.2.1 i))→(∀ i,SetU U ((stM exit bl p k).1 i))∧(∀ i,SetU U ((stM exit bl p k).2.1 i)))
  (hcs:∀ b∈bl,(∀ s∈b.stmts,s.cases.length≤100000000)∧b.stmts.length≤1000000∧(zD b.stmts).length≤1000000)
  (hroom:∀ (p:BS) k (hk:k < bl.length),(∀ i,SetU U (p.1 i))→(∀ i,SetU U (p.2.1 i)) →
   (∀ i,i < (zD bl[k].stmts).length→(((zD bl[k].stmts).take i).foldl (addT bl.length p.1) (p.2.1 k)).ok∧∀ j,j < bl.length→(((zD bl[k].stmts).take i).foldl (addT bl.length p.1) (p.2.1 k)).1+(p.1 j).2.length≤1000000∧(((zD bl[k].stmts).take i).foldl (addT bl.length p.1) (p.2.1 k)).2.length+(p.1 j).2.length≤1000000) ∧
   SetU U (outM bl.length bl[k].stmts p k k) ∧
   ∀ t,SetU U t→(∀ i (hi:i < bl[k].stmts.length),(zeP exit bl[k].stmts (i+1) (addL (0,[]) (zaY t))).ok∧zt bl[k].stmts[i].e≤100000∧(zeP exit bl[k].stmts (i+1) (addL (0,[]) (zaY t))).1+zt bl[k].stmts[i].e+exit.length≤1000000∧(zeP exit bl[k].stmts (i+1) (addL (0,[]) (zaY t))).2.length+zt bl[k].stmts[i].e+exit.length≤1000000) ∧
    (zhh exit bl[k].stmts t).ok∧(p.1 k).1+(zhh exit bl[k].stmts t).2.length≤1000000∧(p.1 k).2.length+(zhh exit bl[k].stmts t).2.length≤1000000)
  (h0:zjB exit bl bl.length p0=R) (h1:∀ i,SetU U (p0.1 i)) (h2:∀ i,SetU U (p0.2.1 i))
  (hfin:∀ K H nx,Ent 0 K H nx [(1,za exit),(2,encP 2 [.int .u32 ad,encL 2 Bl.cells bl]),(6, .own 0 0 0 0 bl.length),(7, .own 1 0 0 0 bl.length),(9, .bool R.2.2)] (bdH bl.length R.1 R.2.1) 4→Q .normal K H nx)
  {K:Kn} {H:AH} {nx:Nat} (hent:Ent 0 K H nx [(1,za exit),(2,encP 2 [.int .u32 ad,encL 2 Bl.cells bl]),(6, .own 0 0 0 0 bl.length),(7, .own 1 0 0 0 bl.length),(9, .bool p0.2.2),(10, .int .i64 ((bl.length:Int) - 1))] (bdH bl.length p0.1 p0.2.1) 4) :
  zjO Try.prog 0 zcp (zcF 4 Q) K H nx:=by
 have hB:=hBig
 refine zf (fun a:Nat × BS=>([(1,za exit),(2,encP 2 [.int .u32 ad,encL 2 Bl.cells bl]),(6, .own 0 0 0 0 bl.length),(7, .own 1 0 0 0 bl.length),(9, .bool a.2.2.2),(10, .int .i64 ((a.1:Int) - 1))],bdH bl.length a.2.1 a.2.2.1)) 4
  (fun a=>a.1≤bl.length∧zjB exit bl a.1 a.2=R∧(∀ i,SetU U (a.2.1 i))∧∀ i,SetU U (a.2.2.1 i)) (fun a=>a.1) (bl.length,p0) ⟨Nat.le_refl _,h0,h1,h2⟩ hent ?_
 rintro ⟨k,p⟩ ⟨hk,hR,hS,hT⟩ wf
 simp only at hk hR hS hT
 unfold zcp
 rcases Nat.eq_zero_or_pos k with rfl | hp
 ·
  have hR:p=R:=hR
  subst hR
  (repeat first | simp (disch:=try exact dis1) only [evD,Nat.reduceBEq,Nat.reduceAdd,Nat.reduceLeDiff,dF,Int.natCast_zero,bdH] | with_reducible intro _ | ((with_reducible apply And.intro);omega))
  refine hfin _ _ _ ?_
  exact (Ent.tab [(0,0,0),(1,1,0),(2,2,0),(3,3,0)] [] rfl (by (try simp only [evWB,Nat.reduceBEq,Nat.reduceAdd,Nat.reduceSub,Nat.reduceLeDiff,Nat.reduceLT,implies_true,bdH,za,famS])<;>exact fin8) (by (try simp only [evWB,Nat.reduceBEq,Nat.reduceAdd,Nat.reduceSub,Nat.reduceLeDiff,Nat.reduceLT,implies_true,bdH,za,famS])<;>exact fin8))
 ·
  obtain ⟨k,rfl⟩:∃ j,k=j+1:=⟨k - 1,by omega⟩
  have hkl:k < bl.length:=by omega
  have hgl:=zz (f:=Bl.cells) (d:=[]) hkl
  have ei:((k+1:Nat):Int) - 1=k:=by omega
  have hbk:(bl.map (·.stmts)).getD k []=bl[k].stmts:=zz hkl
  have hR':zjB exit bl k (stM exit bl p k)=R:=hR
  obtain ⟨s1,s2⟩:=hstep p k hkl hS hT
  obtain ⟨c1,c2,c3⟩:=hcs _ (List.getElem_mem hkl)
  obtain ⟨r1,r2,r3⟩:=hroom p k hkl hS hT
  obtain ⟨q1,q2,q3,q4⟩:=r3 _ r2
  generalize bl[k]=B at hgl hbk c1 c2 c3 r1 r2 q1 q2 q3 q4
  obtain ⟨ad2,sts⟩:=B
  simp only at hbk c1 c2 c3 r1 r2 q1 q2 q3 q4
  by_cases hz:sts.length=0
  ·
   have e1:stM exit bl p k=p:=by unfold stM;rw [hbk];exact if_pos hz
   rw [e1] at hR'
   (repeat first | simp (disch:=try exact dis1) only [evD,Nat.reduceBEq,Nat.reduceAdd,Nat.reduceLeDiff,ei,dT,hgl,fldP,bdH,Bl.cells] | with_reducible intro _ | ((with_reducible apply And.intro);omega))
   unfold zY
   (repeat first | simp (disch:=try exact dis1) only [evD,Nat.reduceBEq,Nat.reduceAdd,Nat.reduceLeDiff] | with_reducible intro _ | ((with_reducible apply And.intro);omega))
   exact ⟨(k,p),⟨by simp only;omega,hR',hS,hT⟩,by simp only;omega,(Ent.tab [(0,0,0),(1,1,0),(2,2,0),(3,3,0)] [] rfl (by (try simp only [evWB,Nat.reduceBEq,Nat.reduceAdd,Nat.reduceSub,Nat.reduceLeDiff,Nat.reduceLT,implies_true,bdH,za,famS])<;>exact fin8) (by (try simp only [evWB,Nat.reduceBEq,Nat.reduceAdd,Nat.reduceSub,Nat.reduceLeDiff,Nat.reduceLT,implies_true,bdH,za,famS])<;>exact fin8))⟩
  ·
   (repeat first | simp (disch:=try exact dis1) only [evD,Nat.reduceBEq,Nat.reduceAdd,Nat.reduceLeDiff,ei,dT,dF,hgl,fldP,bdH,Bl.cells] | with_reducible intro _ | ((with_reducible apply And.intro);omega))
   refine zp (zm (zhR ⟨ad2,sts⟩ c1) rfl) ?_
   (repeat first | simp (disch:=try exact dis1) only [evD,Nat.reduceBEq,Nat.reduceAdd,Nat.reduceLeDiff,za] | with_reducible intro _ | ((with_reducible apply And.intro);omega))
   have e1:stM exit bl p k=(updF p.1 k (addL (p.1 k) (zaY (zhh exit sts (outM bl.length sts p k k)))),outM bl.length sts p k,p.2.2||decide ((p.1 k).2.length < (addL (p.1 k) (zaY (zhh exit sts (outM bl.length sts p k k)))).2.length)):=by unfold stM;rw [hbk];exact if_neg hz
   rw [e1] at hR' s1 s2
   refine bd_l1 bl.length k hkl p.1 p.2.1 (zD sts) exit sts p.2.2 (fun i _=>(hS i).ok) (hT k).ok r1 c3 hn bl ad rfl (bd_k4 bl.length k hkl hn p.1 (outM bl.length sts p k) exit (zD sts) sts p.2.2 r2.ok q1 c2 q2 (hS k).ok q3 q4 bl ad ?_) ?_
   ·
    intro K2 H2 nx2 he
    exact ⟨(k,_),⟨by simp only;omega,hR',s1,s2⟩,by simp only;omega,he⟩
   · exact (Ent.tab [(0,0,0),(1,1,0),(2,2,0),(3,3,0)] [] rfl (by (try simp only [evWB,Nat.reduceBEq,Nat.reduceAdd,Nat.reduceSub,Nat.reduceLeDiff,Nat.reduceLT,implies_true,bdH,za,famS])<;>exact fin8) (by (try simp only [evWB,Nat.reduceBEq,Nat.reduceAdd,Nat.reduceSub,Nat.reduceLeDiff,Nat.reduceLT,implies_true,bdH,za,famS])<;>exact fin8))
theorem SetU.keysIn {U:List Int} {s:MS} (h:SetU U s):∀ x∈zaY s,x∈U:=fun x hx=>h.sub x (zh8.1 hx)
theorem zrs {U:List Int} {n:Nat} {S:Nat→MS} (hS:∀ i,SetU U (S i)) (hU:2 * U.length≤1000000):∀ {ts:List Int} {a:MS},SetU U a→SetU U (ts.foldl (addT n S) a)
 | [],_,h=>h
 |
  t::ts,a,h=>by
  rw [List.foldl_cons]
  refine zrs hS hU ?_
  unfold addT
  split
  ·
   have hl:=(hS t.toNat).len
   exact h.add (hS t.toNat).keysIn (by rw [zid];omega)
  · exact h
theorem zyu {U:List Int} {n:Nat} {sts:List St} {p:BS} {b:Nat} (hS:∀ i,SetU U (p.1 i)) (hT:∀ i,SetU U (p.2.1 i)) (hU:2 * U.length≤1000000) (i:Nat):SetU U (outM n sts p b i):=by
 unfold outM updF
 split
 · exact zrs hS hU (hT b)
 · exact hT i
theorem zqB {U exit:List Int} (he:∀ x∈exit,x∈U) {a:MS} (ha:∀ x∈a.keys,x∈U):∀ {l:List St},(∀ s∈l,∀ x∈zfD s,x∈U)→∀ x∈(l.foldr (zeA exit) a).keys,x∈U
 | [],_,x,hx=>ha x hx
 |
  s::l,hu,x,hx=>by
  have ih:=zqB he ha (l:=l) (fun s hs=>hu s (List.mem_cons_of_mem _ hs))
  have:=(zl1 (exit:=exit) (s:=s) (a:=l.foldr (zeA exit) a) (l:=(l.foldr (zeA exit) a).keys) (fun _=>Iff.rfl) x).1 hx
  rcases zho.1 this with ⟨h1,_⟩ | h1 | ⟨_,h1⟩
  · exact ih x h1
  · exact hu s (by simp) x h1
  · exact he x h1
theorem zly {k:Nat}:∀ {l:List St} {i:Nat},zby k (l.drop i)≤zby k l
 | [],i=>by simp
 | s::l,0=>Nat.le_refl _
 |
  s::l,i+1=>by
  have:=zly (k:=k) (l:=l) (i:=i)
  show zby k (l.drop i)≤zt s.e+k+zby k l
  omega
theorem znw {U exit:List Int} {sts:List St} {t:MS} (ht:SetU U t) (he:∀ x∈exit,x∈U) (hu:∀ s∈sts,∀ x∈zfD s,x∈U) (hsz:∀ s∈sts,zt s.e≤100000) (hU:2 * U.length+zby exit.length sts≤1000000) :
  (∀ i (hi:i < sts.length),(zeP exit sts (i+1) (addL (0,[]) (zaY t))).ok∧zt sts[i].e≤100000∧(zeP exit sts (i+1) (addL (0,[]) (zaY t))).1+zt sts[i].e+exit.length≤1000000∧(zeP exit sts (i+1) (addL (0,[]) (zaY t))).2.length+zt sts[i].e+exit.length≤1000000) ∧
  (zhh exit sts t).ok∧(zhh exit sts t).2.length≤U.length:=by
 have hl:=ht.len
 have ha:SetU U (addL (0,[]) (zaY t)):=SetU.none.add ht.keysIn (by rw [zid];omega)
 have hal:=ha.len
 have hac:=ha.clock
 refine ⟨fun i hi=>?_,?_⟩
 ·
  have c1:=znH (k:=exit.length) hi
  have c2:=zly (k:=exit.length) (l:=sts) (i:=i)
  obtain ⟨f1,f2,f3⟩:=zoo (exit:=exit) (l:=sts.drop (i+1)) ha.ok (by omega) (by omega)
  exact ⟨f1,hsz _ (List.getElem_mem hi),by show ((sts.drop (i+1)).foldr (zeA exit) _).1+_+_≤_;omega,by show ((sts.drop (i+1)).foldr (zeA exit) _).2.length+_+_≤_;omega⟩
 ·
  obtain ⟨f1,f2,f3⟩:=zoo (exit:=exit) (l:=sts) ha.ok (by omega) (by omega)
  refine ⟨f1,?_⟩
  have:=List.Nodup.length_le_of_subset f1.keys (show ∀ x∈(sts.foldr (zeA exit) (addL (0,[]) (zaY t))).2.map (·.1),x∈U from zqB he ha.sub hu)
  rwa [List.length_map] at this
structure UnivB (U exit:List Int) (bl:List Bl):Prop where
 he:∀ x∈exit,x∈U
 hu:∀ b∈bl,∀ s∈b.stmts,∀ x∈zfD s,x∈U
 hsz:∀ b∈bl,∀ s∈b.stmts,zt s.e≤100000
 cost:∀ b∈bl,2 * U.length+zby exit.length b.stmts≤1000000
 cs:∀ b∈bl,(∀ s∈b.stmts,s.cases.length≤100000000)∧b.stmts.length≤1000000∧(zD b.stmts).length≤1000000
 len:bl.length≤1000000
theorem UnivB.step {U exit:List Int} {bl:List Bl} (h:UnivB U exit bl) (p:BS) (k:Nat) (hk:k < bl.length) (hS:∀ i,SetU U (p.1 i)) (hT:∀ i,SetU U (p.2.1 i)) :
  (∀ i,SetU U ((stM exit bl p k).1 i))∧(∀ i,SetU U ((stM exit bl p k).2.1 i)):=by
 have hm:=List.getElem_mem hk
 have hc:=h.cost _ hm
 have hbk:(bl.map (·.stmts)).getD k []=bl[k].stmts:=zz hk
 unfold stM
 simp only [hbk]
 split
 · exact ⟨hS,hT⟩
 ·
  have hT':=fun i=>zyu (n:=bl.length) (sts:=bl[k].stmts) (b:=k) hS hT (by omega) i
  obtain ⟨_,r2,r3⟩:=znw (hT' k) h.he (h.hu _ hm) (h.hsz _ hm) hc
  refine ⟨fun i=>?_,hT'⟩
  simp only [updF]
  split
  ·
   refine (hS k).add (fun x hx=>?_) (by rw [zid];omega)
   have ha:SetU U (addL (0,[]) (zaY (outM bl.length bl[k].stmts p k k))):=SetU.none.add (hT' k).keysIn (by have:=(hT' k).len;rw [zid];omega)
   exact zqB h.he ha.sub (h.hu _ hm) x (zh8.1 hx)
  · exact hS i
theorem UnivB.room {U exit:List Int} {bl:List Bl} (h:UnivB U exit bl) (p:BS) (k:Nat) (hk:k < bl.length) (hS:∀ i,SetU U (p.1 i)) (hT:∀ i,SetU U (p.2.1 i)) :
   (∀ i,i < (zD bl[k].stmts).length→(((zD bl[k].stmts).take i).foldl (addT bl.length p.1) (p.2.1 k)).ok∧∀ j,j < bl.length→(((zD bl[k].stmts).take i).foldl (addT bl.length p.1) (p.2.1 k)).1+(p.1 j).2.length≤1000000∧(((zD bl[k].stmts).take i).foldl (addT bl.length p.1) (p.2.1 k)).2.length+(p.1 j).2.length≤1000000) ∧
   SetU U (outM bl.length bl[k].stmts p k k) ∧
   ∀ t,SetU U t→(∀ i (hi:i < bl[k].stmts.length),(zeP exit bl[k].stmts (i+1) (addL (0,[]) (zaY t))).ok∧zt bl[k].stmts[i].e≤100000∧(zeP exit bl[k].stmts (i+1) (addL (0,[]) (zaY t))).1+zt bl[k].stmts[i].e+exit.length≤1000000∧(zeP exit bl[k].stmts (i+1) (addL (0,[]) (zaY t))).2.length+zt bl[k].stmts[i].e+exit.length≤1000000) ∧
    (zhh exit bl[k].stmts t).ok∧(p.1 k).1+(zhh exit bl[k].stmts t).2.length≤1000000∧(p.1 k).2.length+(zhh exit bl[k].stmts t).2.length≤1000000:=by
 have hm:=List.getElem_mem hk
 have hc:=h.cost _ hm
 refine ⟨fun i _=>?_,zyu hS hT (by omega) k,fun t ht=>?_⟩
 ·
  have hf:=zrs (n:=bl.length) hS (by omega) (ts:=(zD bl[k].stmts).take i) (hT k)
  have l1:=hf.len
  have l2:=hf.clock
  refine ⟨hf.ok,fun j _=>?_⟩
  have l3:=(hS j).len
  exact ⟨by omega,by omega⟩
 ·
  obtain ⟨r1,r2,r3⟩:=znw ht h.he (h.hu _ hm) (h.hsz _ hm) hc
  have l1:=(hS k).len
  have l2:=(hS k).clock
  exact ⟨r1,r2,by omega,by omega⟩
structure LinkB (exit:List Int) (bl:List Bl) (p:BS) (ins:List (List Int)):Prop where
 inv:LInvU exit bl ins
 s:∀ i,i < bl.length→∀ x,x∈(p.1 i).keys↔x∈ins.getD i []
 t:∀ i,i < bl.length→∀ x∈(p.2.1 i).keys,x∈endB ins ((bl.map (·.stmts)).getD i [])
theorem zp8 {n:Nat} {S:Nat→MS} {x:Int}:∀ {ts:List Int} {a:MS},x∈(ts.foldl (addT n S) a).keys↔x∈a.keys∨∃ t∈ts,(0≤t∧t < n)∧x∈(S t.toNat).keys
 | [],a=>by simp
 |
  t::ts,a=>by
  rw [List.foldl_cons,zp8]
  unfold addT
  split
  ·
   rename_i h
   rw [zeV,zh8]
   constructor
   ·
    rintro ((h1 | h1) | ⟨t',h1,h2⟩)
    · exact .inl h1
    · exact .inr ⟨t,by simp,h,h1⟩
    · exact .inr ⟨t',List.mem_cons_of_mem _ h1,h2⟩
   ·
    rintro (h1 | ⟨t',h1,h2,h3⟩)
    · exact .inl (.inl h1)
    ·
     rcases List.mem_cons.1 h1 with rfl | h1
     · exact .inl (.inr h3)
     · exact .inr ⟨t',h1,h2,h3⟩
  ·
   rename_i h
   constructor
   ·
    rintro (h1 | ⟨t',h1,h2⟩)
    · exact .inl h1
    · exact .inr ⟨t',List.mem_cons_of_mem _ h1,h2⟩
   ·
    rintro (h1 | ⟨t',h1,h2,h3⟩)
    · exact .inl h1
    ·
     rcases List.mem_cons.1 h1 with rfl | h1
     · exact absurd h2 h
     · exact .inr ⟨t',h1,h2,h3⟩
theorem LinkB.out {exit:List Int} {bl:List Bl} {p:BS} {ins:List (List Int)} (h:LinkB exit bl p ins) {b:Nat} (hb:b < bl.length) (x:Int) :
  x∈(outM bl.length ((bl.map (·.stmts)).getD b []) p b b).keys↔x∈endB ins ((bl.map (·.stmts)).getD b []):=by
 unfold outM
 rw [zir,zp8]
 constructor
 ·
  rintro (h1 | ⟨t,h1,h2,h3⟩)
  · exact h.t b hb x h1
  · exact zgG.2 ⟨t,h1,⟨h2.1,by rw [h.inv.len];exact h2.2⟩,(h.s _ (by omega) x).1 h3⟩
 ·
  intro h1
  obtain ⟨t,h1,h2,h3⟩:=zgG.1 h1
  rw [h.inv.len] at h2
  exact .inr ⟨t,h1,h2,(h.s _ (by omega) x).2 h3⟩
theorem zvB {a b:List (List Int)} (hl:a.length=b.length) (h:∀ i,∀ x∈a.getD i [],x∈b.getD i []) {l:List St}:∀ x∈endB a l,x∈endB b l:=fun x hx=>by
 obtain ⟨t,h1,h2,h3⟩:=zgG.1 hx
 exact zgG.2 ⟨t,h1,⟨h2.1,by omega⟩,h _ x h3⟩
theorem zoR {U:List Int} {s:MS} (h:SetU U s) {l:List Int} (hl:Asc l) (he:∀ x,x∈s.keys↔x∈l):s.2.length=l.length:=by
 have h1:zaY s=l:=zjX h.ok hl fun x=>(he x).symm
 rw [← h1,zid]
theorem LinkB.step {U exit:List Int} {bl:List Bl} (hU:UnivB U exit bl) {p:BS} {ins:List (List Int)} (h:LinkB exit bl p ins) {b:Nat} (hb:b < bl.length) (hS:∀ i,SetU U (p.1 i)) (hT:∀ i,SetU U (p.2.1 i)) :
  LinkB exit bl (stM exit bl p b) (zfH exit bl ins b)∧((stM exit bl p b).2.2=true↔p.2.2=true∨zds ins < zds (zfH exit bl ins b)):=by
 obtain ⟨i1,i2,i3⟩:=h.inv.toLInv.step hb
 have iU:=h.inv.step hb
 obtain ⟨t1,t2⟩:=h.inv.total_step hb
 obtain ⟨uS,_⟩:=hU.step p b hb hS hT
 have hout:=h.out hb
 have hlen:ins.length=(zfH exit bl ins b).length:=by rw [h.inv.len,iU.len]
 have hmono:=fun l=>zvB (l:=l) hlen i2
 unfold stM at uS ⊢
 generalize hg:(bl.map (·.stmts)).getD b []=sts at hout uS ⊢
 simp only at uS ⊢
 by_cases hz:sts.length=0
 ·
  rw [if_pos hz]
  have hnew:newB exit bl ins b=[]:=by unfold newB zjy;rw [hg,if_pos hz]
  have hnil:ins.getD b []=[]:=by
   rw [List.eq_nil_iff_forall_not_mem]
   intro x hx
   have:=h.inv.sub b x hx
   rw [hnew] at this
   cases this
  have hst:zfH exit bl ins b=ins:=by unfold zfH;rw [hnew,hnil,if_pos rfl]
  rw [hst]
  exact ⟨h,by simp⟩
 ·
  rw [if_neg hz] at uS ⊢
  simp only at uS ⊢
  have hnew:newB exit bl ins b=zi8 exit sts (endB ins sts):=by unfold newB zjy;rw [hg,if_neg hz]
  have hlive:∀ x,x∈(zhh exit sts (outM bl.length sts p b b)).keys↔x∈newB exit bl ins b:=fun x=>by
   rw [hnew]
   refine zo4 (fun y=>?_) sts x
   rw [zeV,zh8,hout]
   simp [MS.keys]
  have hSb:∀ x,x∈(addL (p.1 b) (zaY (zhh exit sts (outM bl.length sts p b b)))).keys↔x∈newB exit bl ins b:=fun x=>by
   rw [zeV,zh8,hlive,h.s b hb]
   exact ⟨fun hh=>hh.elim (h.inv.sub b x) id, .inr⟩
  have uSb:=uS b
  simp only [zir] at uSb
  have l1:=zoR uSb zjL hSb
  have l0:=zoR (hS b) (h.inv.asc b) (h.s b hb)
  refine ⟨⟨iU,fun i hi x=>?_,fun i hi x hx=>?_⟩,?_⟩
  ·
   simp only [updF]
   by_cases hib:i=b
   ·
    subst hib
    rw [if_pos rfl,hSb,i3]
   ·
    rw [if_neg hib,h.s i hi]
    unfold zfH
    split
    · rfl
    · rw [ziJ (by rw [h.inv.len];exact hb),if_neg hib]
  ·
   by_cases hib:i=b
   ·
    subst hib
    rw [hout] at hx
    rw [hg]
    exact hmono _ x hx
   ·
    have:outM bl.length sts p b i=p.2.1 i:=by unfold outM updF;rw [if_neg hib]
    have hx:x∈(outM bl.length sts p b i).keys:=hx
    rw [this] at hx
    exact hmono _ x (h.t i hi x hx)
  ·
   rw [Bool.or_eq_true,decide_eq_true_eq,l0,l1]
   refine or_congr_right ?_
   unfold zfH
   have h2:=zlQ (h.inv.asc b) zjL (h.inv.sub b)
   have h3:=zlR ins b (newB exit bl ins b) (by rw [h.inv.len];exact hb)
   split
   · exact ⟨fun hh=>by omega,fun hh=>by omega⟩
   · exact ⟨fun hh=>by omega,fun hh=>by omega⟩
theorem znT {exit:List Int} {bl:List Bl}:∀ (n:Nat) {p:BS} {i:Nat},n≤i→(zjB exit bl n p).2.1 i=p.2.1 i
 | 0,p,i,_=>rfl
 |
  n+1,p,i,h=>by
  show (zjB exit bl n (stM exit bl p n)).2.1 i=_
  rw [znT n (by omega)]
  unfold stM
  simp only
  split
  · rfl
  ·
   simp only [outM,updF]
   rw [if_neg (by omega)]
structure PassB (U exit:List Int) (bl:List Bl) (n:Nat) (p:BS) (ins:List (List Int)):Prop where
 link:LinkB exit bl (zjB exit bl n p) (ziw exit bl n ins)
 ch:(zjB exit bl n p).2.2=true↔p.2.2=true∨zds ins < zds (ziw exit bl n ins)
 s:∀ i,SetU U ((zjB exit bl n p).1 i)
 t:∀ i,SetU U ((zjB exit bl n p).2.1 i)
 full:ziw exit bl n ins=ins→zds (ziw exit bl n ins)=zds ins→∀ i,i < n→∀ x∈endB ins ((bl.map (·.stmts)).getD i []),x∈((zjB exit bl n p).2.1 i).keys
theorem LinkB.pass {U exit:List Int} {bl:List Bl} (hU:UnivB U exit bl):∀ (n:Nat) {p:BS} {ins:List (List Int)},LinkB exit bl p ins→n≤bl.length→(∀ i,SetU U (p.1 i))→(∀ i,SetU U (p.2.1 i))→PassB U exit bl n p ins
 | 0,p,ins,h,_,hS,hT=>⟨h,by show p.2.2=true↔_∨zds ins < zds ins;simp,hS,hT,fun _ _ i hi=>absurd hi (Nat.not_lt_zero _)⟩
 |
  n+1,p,ins,h,hn,hS,hT=>by
  obtain ⟨l1,c1⟩:=h.step hU (b:=n) (by omega) hS hT
  obtain ⟨s1,t1⟩:=hU.step p n (by omega) hS hT
  obtain ⟨m1,m2⟩:=h.inv.total_step (i:=n) (by omega)
  obtain ⟨_,m3,m4⟩:=l1.inv.pass (n:=n) (by omega)
  have ih:=LinkB.pass hU n l1 (by omega) s1 t1
  have e1:zjB exit bl (n+1) p=zjB exit bl n (stM exit bl p n):=rfl
  have e2:ziw exit bl (n+1) ins=ziw exit bl n (zfH exit bl ins n):=rfl
  refine ⟨by rw [e1,e2];exact ih.link,?_,by rw [e1];exact ih.s,by rw [e1];exact ih.t,fun _ htot i hi x hx=>?_⟩
  ·
   rw [e1,e2,ih.ch,c1,or_assoc]
   refine or_congr_right ?_
   omega
  ·
   rw [e2] at htot
   have e3:=m2 (by omega)
   rw [e1]
   by_cases hin:i=n
   ·
    subst hin
    rw [znT i (Nat.le_refl _)]
    have hb:i < bl.length:=by omega
    have ho:=(h.out hb x).2 hx
    unfold stM
    generalize hg:(bl.map (·.stmts)).getD i []=sts at ho hx ⊢
    simp only
    split
    ·
     rename_i hz
     obtain rfl:sts=[]:=List.eq_nil_of_length_eq_zero hz
     obtain ⟨t,h1,_⟩:=zgG.1 hx
     cases h1
    · exact ho
   ·
    have e4:ziw exit bl n (zfH exit bl ins n)=zfH exit bl ins n:=(m4 (by omega)).1
    exact ih.full e4 (by rw [e4]) i (by omega) x (by rw [e3];exact hx)
structure RunB (U exit:List Int) (bl:List Bl) (p:BS) (ins:List (List Int)) (k:Nat):Prop where
 link:LinkB exit bl p ins
 s:∀ i,SetU U (p.1 i)
 t:∀ i,SetU U (p.2.1 i)
 fuel:zkc exit bl≤k+zds ins
 go:fixL exit bl k ins=zgA exit bl
 done:p.2.2=false→ins=zgA exit bl∧∀ i,i < bl.length→∀ x∈endB ins ((bl.map (·.stmts)).getD i []),x∈(p.2.1 i).keys
def setB (p:BS) (c:Bool):BS:=(p.1,p.2.1,c)
def runM (exit:List Int) (bl:List Bl) (p:BS):BS:=zjB exit bl bl.length (setB p false)
def zuT (exit:List Int) (bl:List Bl) (p:BS) (ins:List (List Int)):Nat:=2 * (zkc exit bl - zds ins)+bif p.2.2 then 1 else 0
theorem RunB.next {U exit:List Int} {bl:List Bl} (hU:UnivB U exit bl) {p:BS} {ins:List (List Int)} {k:Nat} (h:RunB U exit bl p ins k) (hc:p.2.2=true) :
  ∃ ins' k',RunB U exit bl (runM exit bl p) ins' k'∧zuT exit bl (runM exit bl p) ins' < zuT exit bl p ins:=by
 have l0:LinkB exit bl (setB p false) ins:=⟨h.link.inv,h.link.s,h.link.t⟩
 have hp:=l0.pass hU bl.length (Nat.le_refl _) h.s h.t
 obtain ⟨i1,i2,i3⟩:=h.link.inv.pass (n:=bl.length) (Nat.le_refl _)
 have hb:=h.link.inv.bound
 have hb2:=i1.bound
 have hbd:zkc exit bl=bl.length * (univ exit bl).length+1:=rfl
 have hch:=hp.ch
 simp only [setB,Bool.false_eq_true,false_or] at hch
 have hfu:=h.fuel
 have hgo:=h.go
 cases k with
 | zero=>omega
 | succ k =>
 rw [fixL] at hgo
 by_cases he:zds (ziw exit bl bl.length ins)=zds ins
 ·
  rw [if_pos he] at hgo
  obtain ⟨e1,e2⟩:=i3 he.symm
  have hcf:(runM exit bl p).2.2=false:=by
   cases hx:(runM exit bl p).2.2 with
   | false=>rfl
   | true=>have:=hch.1 hx;omega
  refine ⟨ins,k+1,⟨?_,hp.s,hp.t,hfu,?_,fun _=>⟨hgo,hp.full e1 he⟩⟩,?_⟩
  ·
   have:=hp.link
   rw [e1] at this
   exact this
  · rw [fixL,if_pos he];exact hgo
  ·
   unfold zuT
   rw [hcf,hc]
   simp only [cond_true,cond_false]
   omega
 ·
  rw [if_neg he] at hgo
  have hct:(runM exit bl p).2.2=true:=hch.2 (by omega)
  refine ⟨_,k,⟨hp.link,hp.s,hp.t,by omega,hgo,fun hx=>?_⟩,?_⟩
  · rw [hct] at hx;cases hx
  ·
   unfold zuT
   rw [hct,hc]
   simp only [cond_true]
   omega
def zyF:BS:=(fun _=>(0,[]),fun _=>(0,[]),true)
theorem RunB.start {U exit:List Int} {bl:List Bl}:RunB U exit bl zyF (bl.map fun _=>[]) (zkc exit bl):=by
 have e:∀ i,(bl.map fun _=>([]:List Int)).getD i []=[]:=fun i=>by
  rw [List.getD_eq_getElem?_getD,List.getElem?_map]
  cases bl[i]? <;> rfl
 exact ⟨⟨zp9 exit bl,fun i _ x=>by rw [e];exact Iff.rfl,fun i _ x hx=>by cases hx⟩,fun _=>SetU.none,fun _=>SetU.none,by omega,rfl,fun h=>by cases h⟩
structure EndB (U exit:List Int) (bl:List Bl) (S T:Nat→MS):Prop where
 s:∀ i,SetU U (S i)
 t:∀ i,SetU U (T i)
 mS:∀ i,i < bl.length→∀ x,x∈(S i).keys↔x∈(zgA exit bl).getD i []
 mT:∀ i,i < bl.length→∀ x,x∈(T i).keys↔x∈zcz exit bl i
theorem RunB.end {U exit:List Int} {bl:List Bl} {p:BS} {ins:List (List Int)} {k:Nat} (h:RunB U exit bl p ins k) (hc:p.2.2=false):EndB U exit bl p.1 p.2.1:=by
 obtain ⟨e,hd⟩:=h.done hc
 subst e
 exact ⟨h.s,h.t,h.link.s,fun i hi x=>⟨h.link.t i hi x,hd i hi x⟩⟩
theorem EndB.keyS {U exit:List Int} {bl:List Bl} {S T:Nat→MS} (h:EndB U exit bl S T) {i:Nat} (hi:i < bl.length):zaY (S i)=(zgA exit bl).getD i [] :=
 zjX (h.s i).ok ((znM exit bl).1.asc i) fun x=>(h.mS i hi x).symm
theorem EndB.keyT {U exit:List Int} {bl:List Bl} {S T:Nat→MS} (h:EndB U exit bl S T) {i:Nat} (hi:i < bl.length):zaY (T i)=zcz exit bl i :=
 zjX (h.t i).ok zsD fun x=>(h.mT i hi x).symm
theorem bd_l7 {Q:QT} (exit:List Int) (bl:List Bl) (ad:Int) (U:List Int) (hU:UnivB U exit bl)
  (hfin:∀ S T,EndB U exit bl S T→wpX Try.prog 0 zam Q [(1,za exit),(2,encP 2 [.int .u32 ad,encL 2 Bl.cells bl]),(6, .own 0 0 0 0 bl.length),(7, .own 1 0 0 0 bl.length),(39, .bool false)] (bdH bl.length S T) 4)
  {K:Kn} {H:AH} {nx:Nat} (hent:Ent 0 K H nx [(1,za exit),(2,encP 2 [.int .u32 ad,encL 2 Bl.cells bl]),(6, .own 0 0 0 0 bl.length),(7, .own 1 0 0 0 bl.length),(9, .bool true)] (bdH bl.length (fun _=>(0,[])) (fun _=>(0,[]))) 4) :
  zjO Try.prog 0 zcj (zcF 2 (seqQ Try.prog 0 zam Q)) K H nx:=by
 have hB:=hBig
 refine zf (fun a:BS × List (List Int) × Nat=>([(1,za exit),(2,encP 2 [.int .u32 ad,encL 2 Bl.cells bl]),(6, .own 0 0 0 0 bl.length),(7, .own 1 0 0 0 bl.length),(9, .bool a.1.2.2)],bdH bl.length a.1.1 a.1.2.1)) 4
  (fun a=>RunB U exit bl a.1 a.2.1 a.2.2) (fun a=>zuT exit bl a.1 a.2.1) (zyF,bl.map fun _=>[],zkc exit bl) RunB.start hent ?_
 rintro ⟨p,ins,k⟩ hrun wf
 simp only at hrun
 unfold zcj
 cases hc:p.2.2 with
 |
  false =>
  (repeat first | simp (disch:=try exact dis1) only [evD,Nat.reduceBEq,Nat.reduceAdd,Nat.reduceLeDiff,bdH] | with_reducible intro _ | ((with_reducible apply And.intro);omega))
  exact hfin p.1 p.2.1 (hrun.end hc)
 |
  true =>
  obtain ⟨ins',k',h1,h2⟩:=hrun.next hU hc
  have hlen:=hU.len
  (repeat first | simp (disch:=try exact dis1) only [evD,Nat.reduceBEq,Nat.reduceAdd,Nat.reduceLeDiff,fldP,bdH] | with_reducible intro _ | ((with_reducible apply And.intro);omega))
  refine bd_l6 exit bl ad U (runM exit bl p) (setB p false) hlen (fun q k hk hS hT=>hU.step q k hk hS hT) hU.cs (fun q k hk hS hT=>hU.room q k hk hS hT) rfl hrun.s hrun.t ?_ ?_
  ·
   intro K2 H2 nx2 he
   exact ⟨(_,ins',k'),h1,h2,he⟩
  · exact (Ent.tab [(0,0,0),(1,1,0),(2,2,0),(3,3,0)] [] rfl (by (try simp only [evWB,Nat.reduceBEq,Nat.reduceAdd,Nat.reduceSub,Nat.reduceLeDiff,Nat.reduceLT,implies_true,bdH,za,famS,setB])<;>exact fin8) (by (try simp only [evWB,Nat.reduceBEq,Nat.reduceAdd,Nat.reduceSub,Nat.reduceLeDiff,Nat.reduceLT,implies_true,bdH,za,famS,setB])<;>exact fin8))
def mpsI (F n i:Nat):List (List AV):=(List.range n).map fun j=>if j < i then [.mp F (j+1)] else [.nilmp]
def zjC (i:Nat):Nat→List MC:=fun j=>if j < i then setM 0 [] else []
def famI (n i:Nat):AObj:=.fam 3 (fi cm n (zjC i) (fun _=>0))
def bdI (n i:Nat):AH:=[(0, .row 1 (mpsI 2 n i) 0),(1, .row 1 (mpsI 3 n i) 0),(2,famI n i),(3,famI n i)]
theorem zwv {F n i:Nat}:(mpsI F n i).length=n:=by simp [mpsI]
theorem zqc {F n:Nat}:mpsI F n n=mps F n:=by
 unfold mpsI mps
 refine List.map_congr_left fun j hj=>?_
 rw [if_pos (List.mem_range.1 hj)]
theorem zvw {F n:Nat}:List.replicate n [AV.nilmp]=mpsI F n 0:=by
 apply List.ext_getElem
 · simp [mpsI]
 · intro k h1 h2;simp [mpsI]
theorem zus {n:Nat}:famI n n=famS n (fun _=>(0,[])):=by
 unfold famI famS fi
 congr 1
 refine List.map_congr_left fun j hj=>?_
 unfold zjC
 rw [if_pos (List.mem_range.1 hj)]
theorem zxP {n:Nat}:bdI n n=bdH n (fun _=>(0,[])) (fun _=>(0,[])):=by
 unfold bdI bdH
 rw [zqc,zqc,zus]
abbrev T4:Tab:=[(0,0,0),(1,1,0),(2,2,0),(3,3,0)]
abbrev F4 (i a b:Nat):Fds:=[(2,i+1,a),(3,i+1,b)]
theorem beqN {a b:Nat} (h:a≠b):Nat.beq a b=false:=by
 cases hx:Nat.beq a b with
 | false=>rfl
 | true=>exact absurd (Nat.eq_of_beq_eq_true hx) h
theorem f4_2 {i k a b:Nat}:fsig T4 (F4 i a b) 2 (k+1)=if k=i then some (a,0,0) else some (2,k+1,0):=by
 unfold fsig F4
 simp only [fat]
 by_cases h:k=i
 ·
  subst h
  rw [if_pos rfl,show Nat.beq 2 2=true from rfl,Nat.beq_refl]
  rfl
 ·
  rw [if_neg h,beqN (show i+1≠k+1 by omega),Bool.and_false,Bool.and_false]
  rfl
theorem f4_3 {i k a b:Nat}:fsig T4 (F4 i a b) 3 (k+1)=if k=i then some (b,0,0) else some (3,k+1,0):=by
 unfold fsig F4
 simp only [fat]
 by_cases h:k=i
 ·
  subst h
  rw [if_pos rfl,show Nat.beq 3 3=true from rfl,show Nat.beq 2 3=false from rfl,Nat.beq_refl]
  rfl
 ·
  rw [if_neg h,beqN (show i+1≠k+1 by omega),Bool.and_false,Bool.and_false]
  rfl
theorem zpO {H HH:AH} {σ:Nat→Nat→Option (Nat × Nat × Nat)} {D:Nat→Nat→Prop} {F n i a:Nat} (h1:∀ k,σ F (k+1)=if k=i then some (a,0,0) else some (F,k+1,0)) :
  RowV H HH σ D ((mpsI F n i).set i [.mp a 0]) (mpsI F n (i+1)):=by
 refine ⟨by simp [mpsI],fun j c2 hj=>?_⟩
 unfold mpsI at hj ⊢
 simp only [List.getElem?_map,Option.map_eq_some_iff] at hj
 obtain ⟨k,hk,rfl⟩:=hj
 obtain ⟨hkl,hkk⟩:=List.getElem?_eq_some_iff.1 hk
 simp only [List.length_range] at hkl
 rw [List.getElem_range] at hkk
 subst hkk
 by_cases hji:j=i
 ·
  subst hji
  rw [if_pos (Nat.lt_succ_self j)]
  refine ⟨[.mp a 0],by simp [hkl],rfl,fun z x y h3 h4=>?_⟩
  cases z with
  | succ z=>cases h3
  |
   zero =>
   cases h3
   cases h4
   exact .mp _ _ _ _ (by rw [h1,if_pos rfl])
 ·
  by_cases hlt:j < i
  ·
   rw [if_pos (by omega)]
   refine ⟨[.mp F (j+1)],?_,rfl,fun z x y h3 h4=>?_⟩
   ·
    rw [List.getElem?_set_ne (fun e=>hji e.symm)]
    simp [hkl,hlt]
   ·
    cases z with
    | succ z=>cases h3
    |
     zero =>
     cases h3
     cases h4
     exact .mp _ _ _ _ (by rw [h1,if_neg hji])
  ·
   rw [if_neg (by omega)]
   refine ⟨[.nilmp],?_,rfl,fun z x y h3 h4=>?_⟩
   ·
    rw [List.getElem?_set_ne (fun e=>hji e.symm)]
    simp [hkl,hlt]
   ·
    cases z with
    | succ z=>cases h3
    |
     zero =>
     cases h3
     cases h4
     exact .nilmp _
theorem zt3 {H:AH} {F n i k:Nat} (h:H.look F=some (famI n i)) (hk:k < n):H.get F (k+1)=some (.row 3 ((zjC i k).map cm) 0):=by
 unfold AH.get
 rw [h]
 simp only [Option.bind_some,famI,AObj.part,zml hk,Option.map_some]
theorem zsy {H HH:AH} {σ:Nat→Nat→Option (Nat × Nat × Nat)} {F n i a:Nat} (h1:∀ k,σ F (k+1)=if k=i then some (a,0,0) else some (F,k+1,0))
  (hF:H.look F=some (famI n i)) (ha:H.get a 0=some (.row 3 [[.int .i64 0, .undef, .undef]] 0)) (k:Nat) (p:List (List AV) × Nat) (hp:(fi cm n (zjC (i+1)) (fun _=>0))[k]? = some p) :
  match σ F (k+1) with
   | some (r,q,d)=>∃ els,H.get r q=some (.row 3 els (p.2+d))∧RowV H HH σ noQ els p.1
   | none=>p=([],0):=by
 rw [zob] at hp
 split at hp
 case isFalse=>cases hp
 rename_i hk
 cases hp
 rw [h1]
 by_cases hki:k=i
 ·
  subst hki
  rw [if_pos rfl]
  refine ⟨_,ha,?_⟩
  have:zjC (k+1) k=setM 0 []:=if_pos (Nat.lt_succ_self k)
  rw [this]
  exact RowV.of_flat (by simp only [zfI,zgB,and_true];rfl)
 ·
  rw [if_neg hki]
  refine ⟨_,zt3 hF hk,?_⟩
  have:zjC (i+1) k=zjC i k:=by
   unfold zjC
   by_cases hlt:k < i
   · rw [if_pos hlt,if_pos (by omega)]
   · rw [if_neg hlt,if_neg (by omega)]
  rw [this]
  exact RowV.of_flat (ze zQ)
theorem zvN {K K2:Kn} {H:AH} {nx n i:Nat} (h0:H.get 0 0=some (.row 1 ((mpsI 2 n i).set i [.mp 4 0]) 0)) (h1:H.get 1 0=some (.row 1 ((mpsI 3 n i).set i [.mp 5 0]) 0))
  (h2:H.look 2=some (famI n i)) (h3:H.look 3=some (famI n i)) (h4:H.get 4 0=some (.row 3 [[.int .i64 0, .undef, .undef]] 0)) (h5:H.get 5 0=some (.row 3 [[.int .i64 0, .undef, .undef]] 0))
  (hK:zso H (bdI n (i+1)) (fsig T4 (F4 i 4 5)) K2 K):Ent 0 K H nx K2 (bdI n (i+1)) 4 :=
 Ent.fold T4 (F4 i 4 5) rfl rfl ⟨rfl,⟨_,h0,zpO fun _=>f4_2⟩,rfl,⟨_,h1,zpO fun _=>f4_3⟩,rfl,fun k p hp=>zsy (fun _=>f4_2) h2 h4 k p hp,rfl,fun k p hp=>zsy (fun _=>f4_3) h3 h5 k p hp,trivial⟩ hK
theorem zpq {H HH:AH} {σ:Nat→Nat→Option (Nat × Nat × Nat)} {D:Nat→Nat→Prop} {F n:Nat}:RowV H HH σ D (List.replicate n [.nilmp]) (mpsI F n 0):=by
 rw [← zvw]
 refine ⟨rfl,fun i c2 hi=>⟨c2,hi,rfl,fun j x y h1 h2=>?_⟩⟩
 obtain ⟨_,rfl⟩:=List.getElem?_eq_some_iff.1 hi
 rw [List.getElem_replicate] at h1 h2
 rw [h1] at h2
 cases h2
 cases j with
 | succ j=>cases h1
 | zero=>cases h1;exact .nilmp _
theorem zpP {n:Nat} (i:Nat) (p:List (List AV) × Nat) (hp:(fi cm n (zjC 0) (fun _=>0))[i]? = some p):p=([],0):=by
 rw [zob] at hp
 split at hp
 · cases hp;rfl
 · cases hp
theorem znB {K K2:Kn} {H:AH} {nx n a b:Nat} (h0:H.get a 0=some (.row 1 (List.replicate n [.nilmp]) 0)) (h1:H.get b 0=some (.row 1 (List.replicate n [.nilmp]) 0))
  (hok:Tab.ok 4 [] [(0,a,0),(1,b,0)]=true) (hK:zkU H (bdI n 0) [(0,a,0),(1,b,0)] [] K2 K):Ent 0 K H nx K2 (bdI n 0) 4 :=
 Ent.tab [(0,a,0),(1,b,0)] [] hok ⟨rfl,⟨_,h0,zpq⟩,rfl,⟨_,h1,zpq⟩,rfl,zpP,rfl,zpP,trivial⟩ hK
theorem bd_l0 {Q:QT} (exit:List Int) (bl:List Bl) (ad:Int) (U:List Int) (hU:UnivB U exit bl)
  (hfin:∀ S T,EndB U exit bl S T→wpX Try.prog 0 zam Q [(1,za exit),(2,encP 2 [.int .u32 ad,encL 2 Bl.cells bl]),(6, .own 0 0 0 0 bl.length),(7, .own 1 0 0 0 bl.length),(39, .bool false)] (bdH bl.length S T) 4)
  {K:Kn} {H:AH} {nx:Nat} (hent:Ent 0 K H nx [(1,za exit),(2,encP 2 [.int .u32 ad,encL 2 Bl.cells bl]),(6, .own 0 0 0 0 bl.length),(7, .own 1 0 0 0 bl.length),(26, .int .i64 bl.length),(27, .int .i64 0)] (bdI bl.length 0) 4) :
  zjO Try.prog 0 zcl (zcF 0 (seqQ Try.prog 0 zcn Q)) K H nx:=by
 have hB:=hBig
 have hlen:=hU.len
 refine zf (fun i:Nat=>([(1,za exit),(2,encP 2 [.int .u32 ad,encL 2 Bl.cells bl]),(6, .own 0 0 0 0 bl.length),(7, .own 1 0 0 0 bl.length),(26, .int .i64 bl.length),(27, .int .i64 i)],bdI bl.length i)) 4
  (fun i=>i≤bl.length) (fun i=>bl.length - i) 0 (Nat.zero_le _) hent ?_
 rintro i hi wf
 unfold zcl
 by_cases hil:i < bl.length
 ·
  (repeat first | simp (disch:=try exact dis1) only [evD,Nat.reduceBEq,Nat.reduceAdd,Nat.reduceLeDiff,dT,bdI,zwv] | with_reducible intro _ | ((with_reducible apply And.intro);omega))
  exact ⟨i+1,by omega,by omega,zvN rfl rfl rfl rfl rfl rfl ⟨zaF rfl,zaF rfl, .own _ _ _ 0 _ _ _ _ _ rfl rfl, .own _ _ _ 0 _ _ _ _ _ rfl rfl, .int _ _ _, .int _ _ _,trivial⟩⟩
 ·
  obtain rfl:i=bl.length:=by omega
  rw [zxP]
  (repeat first | simp (disch:=try exact dis1) only [evD,Nat.reduceBEq,Nat.reduceAdd,Nat.reduceLeDiff,dF] | with_reducible intro _ | ((with_reducible apply And.intro);omega))
  unfold zcn
  (repeat first | simp (disch:=try exact dis1) only [evD,Nat.reduceBEq,Nat.reduceAdd,Nat.reduceLeDiff] | with_reducible intro _ | ((with_reducible apply And.intro);omega))
  refine bd_l7 exit bl ad U hU hfin ?_
  exact (Ent.tab [(0,0,0),(1,1,0),(2,2,0),(3,3,0)] [] rfl (by (try simp only [evWB,Nat.reduceBEq,Nat.reduceAdd,Nat.reduceSub,Nat.reduceLeDiff,Nat.reduceLT,implies_true,bdH,za,famS])<;>exact fin8) (by (try simp only [evWB,Nat.reduceBEq,Nat.reduceAdd,Nat.reduceSub,Nat.reduceLeDiff,Nat.reduceLT,implies_true,bdH,za,famS])<;>exact fin8))
theorem zjZ (g:G) (exit:List Int) (U:List Int) (hU:UnivB U exit g.blocks):zN Try.prog zce [.agg g.cells,za exit] [] 0
  (fun v H nx=>∃ S T,v=.tup [.own 0 0 0 0 g.blocks.length, .own 1 0 0 0 g.blocks.length]∧H=bdH g.blocks.length S T∧nx=4∧EndB U exit g.blocks S T):=by
 refine z7 (fn_x zhW rfl ?_)
 unfold zeF
 have hB:=hBig
 have hlen:=hU.len
 obtain ⟨ad,bl⟩:=g
 simp only at hU hlen ⊢
 (repeat first | simp (disch:=try exact dis1) only [evD,Nat.reduceBEq,Nat.reduceAdd,Nat.reduceLeDiff,fldP,G.cells,za] | with_reducible intro _ | ((with_reducible apply And.intro);omega))
 (repeat' with_reducible apply And.intro)
 all_goals try omega
 all_goals intro _ _
 all_goals refine bd_l0 exit bl ad U hU ?_ ?_
 all_goals first
  | (rintro S T hend;unfold zam;(repeat first | simp (disch:=try exact dis1) only [evD,Nat.reduceBEq,Nat.reduceAdd,Nat.reduceLeDiff,zeG,bdH] | with_reducible intro _ | ((with_reducible apply And.intro);omega));exact ⟨.tup [.own 0 0 0 0 bl.length, .own 1 0 0 0 bl.length],_,4,(Ent.tab [(0,0,0),(1,1,0),(2,2,0),(3,3,0)] [] rfl (by (try simp only [evWB,Nat.reduceBEq,Nat.reduceAdd,Nat.reduceSub,Nat.reduceLeDiff,Nat.reduceLT,implies_true,bdH,za,famS])<;>exact fin8) (by (try simp only [evWB,Nat.reduceBEq,Nat.reduceAdd,Nat.reduceSub,Nat.reduceLeDiff,Nat.reduceLT,implies_true,bdH,za,famS])<;>exact fin8)),S,T,rfl,rfl,rfl,hend⟩)
  | exact znB (a:=2) (b:=3) rfl rfl rfl ⟨zaF rfl,zaF rfl, .own _ _ _ 0 _ _ _ _ _ rfl rfl, .own _ _ _ 0 _ _ _ _ _ rfl rfl, .int _ _ _, .int _ _ _,trivial⟩
  | exact znB (a:=3) (b:=2) rfl rfl rfl ⟨zaF rfl,zaF rfl, .own _ _ _ 0 _ _ _ _ _ rfl rfl, .own _ _ _ 0 _ _ _ _ _ rfl rfl, .int _ _ _, .int _ _ _,trivial⟩
def cLL (l:List Int):List AV:=[za l]
def zkp (A:List (List Int)):AV:=encL 1 cLL A
theorem zxT:∀ l,zF (cLL l)=true:=fun _=>rfl
theorem zr4 {H H2:AH} {σ:Nat→Nat→Option (Nat × Nat × Nat)} {D:Nat→Nat→Prop} {t:Bool} {r q g:Nat} {l:List (List Int)} (hD:D r q) (hg:H.get r q=some (.row 1 (l.map cLL) g)) (hb:l.length≤big) :
  Vw H H2 σ D t (.own r q g 0 l.length) (zkp l) :=
 zhx hD hg hb fun a _ j hj=>by
  obtain rfl:j=0:=by omega
  exact zaF rfl
def rowI (L:Nat→List Int) (n i:Nat):List (List AV):=(List.range n).map fun j=>if j < i then cLL (L j) else [.nilsl]
theorem zw4 {L:Nat→List Int} {n i:Nat}:(rowI L n i).length=n:=by simp [rowI]
theorem zyg {L:Nat→List Int} {n i:Nat}:(rowI L n i).set i [za (L i)]=rowI L n (i+1):=by
 unfold rowI
 rw [zfF]
 refine List.map_congr_left fun j hj=>?_
 unfold updF
 by_cases h:j=i
 · subst h;rw [if_pos rfl,if_pos (Nat.lt_succ_self j)];rfl
 ·
  rw [if_neg h]
  simp only
  by_cases h2:j < i
  · rw [if_pos h2,if_pos (by omega)]
  · rw [if_neg h2,if_neg (by omega)]
theorem zpj {L:Nat→List Int} {n i:Nat}:(rowI L n i).set i [encL 1 (fun n=>[.int .i64 n]) (L i)]=rowI L n (i+1):=zyg
theorem zo2 {L:Nat→List Int} {n:Nat}:rowI L n n=((List.range n).map L).map cLL:=by
 unfold rowI
 rw [List.map_map]
 refine List.map_congr_left fun j hj=>?_
 rw [if_pos (List.mem_range.1 hj)]
 rfl
theorem zjI {L:Nat→List Int} {n:Nat}:List.replicate n [AV.nilsl]=rowI L n 0:=by
 apply List.ext_getElem
 · simp [rowI]
 · intro k h1 h2;simp [rowI]
theorem zas {L:Nat→List Int} {n i:Nat}:zq (rowI L n i):=by
 intro c hc
 obtain ⟨j,_,rfl⟩:=List.mem_map.1 hc
 split<;>rfl
theorem renP {ρ:Nat→Nat} {F n g:Nat}:AObj.ren ρ (.row 1 (mps F n) g)=.row 1 (mps (ρ F) n) g:=by
 simp only [AObj.ren,mps,List.map_map]
 congr 1
 refine List.map_congr_left fun i _=>?_
 simp [AV.ren]
def outsL (exit:List Int) (bl:List Bl):List (List Int):=(List.range bl.length).map (zcz exit bl)
theorem ztQ {α:Type} {l:List α} {d:α}:(List.range l.length).map (fun i=>l.getD i d)=l:=by
 apply List.ext_getElem
 · simp
 · intro k h1 h2;simp [List.getD_eq_getElem?_getD,h2]
def znf (n:Nat) (S T:Nat→MS) (LS LT:Nat→List Int) (i:Nat):AH:=[(0, .row 1 (mps 2 n) 0),(1, .row 1 (mps 3 n) 0),(2,famS n S),(3,famS n T),(4, .row 1 (rowI LS n i) 0),(5, .row 1 (rowI LT n i) 0)]
theorem lv_l0 (n:Nat) (S T:Nat→MS) (LS LT:Nat→List Int) (A B:List (List Int)) (hn:n≤1000000) (hS:∀ i,i < n→(S i).ok∧zaY (S i)=LS i) (hT:∀ i,i < n→(T i).ok∧zaY (T i)=LT i)
  (hA:(List.range n).map LS=A) (hC:(List.range n).map LT=B)
  {K:Kn} {H:AH} {nx:Nat} (hent:Ent 0 K H nx [(6, .own 0 0 0 0 n),(7, .own 1 0 0 0 n),(8, .own 4 0 0 0 n),(9, .own 5 0 0 0 n),(24, .int .i64 n),(25, .int .i64 0)] (znf n S T LS LT 0) 6) :
  zjO Try.prog 0 zd2 (zcF 0 (seqQ Try.prog 0 zdX (retK zfa fun v H' _=>∃ a,Frz H' v a∧a=.tup [zkp A,zkp B]))) K H nx:=by
 have hB:=hBig
 refine zf (fun i:Nat=>([(6, .own 0 0 0 0 n),(7, .own 1 0 0 0 n),(8, .own 4 0 0 0 n),(9, .own 5 0 0 0 n),(24, .int .i64 n),(25, .int .i64 i)],znf n S T LS LT i)) 6
  (fun i=>i≤n) (fun i=>n - i) 0 (Nat.zero_le _) hent ?_
 rintro i hi wf
 unfold zd2
 by_cases hil:i < n
 ·
  obtain ⟨s1,s2⟩:=hS i hil
  obtain ⟨t1,t2⟩:=hT i hil
  have s3:zcd ((S i).2.map (·.1))=LS i:=s2
  have t3:zcd ((T i).2.map (·.1))=LT i:=t2
  (repeat first | simp (disch:=try exact dis1) only [evD,Nat.reduceBEq,Nat.reduceAdd,Nat.reduceLeDiff,dT,znf,zgP,zfb hil] | with_reducible intro _ | ((with_reducible apply And.intro);omega))
  (repeat' with_reducible apply And.intro)
  all_goals try omega
  all_goals first
   | (refine zw [(0,2,0)] 1 _ (zdf n i hil S s1) rfl rfl (by (try simp only [evWB,Nat.reduceBEq,Nat.reduceAdd,Nat.reduceSub,Nat.reduceLeDiff,Nat.reduceLT,implies_true,famS])<;>exact fin8) (by (try simp only [evWB,Nat.reduceBEq,Nat.reduceAdd,Nat.reduceSub,Nat.reduceLeDiff,Nat.reduceLT,implies_true,famS])<;>exact fin8) ?_)
   | (refine zw [(0,3,0)] 1 _ (zdf n i hil T t1) rfl rfl (by (try simp only [evWB,Nat.reduceBEq,Nat.reduceAdd,Nat.reduceSub,Nat.reduceLeDiff,Nat.reduceLT,implies_true,famS])<;>exact fin8) (by (try simp only [evWB,Nat.reduceBEq,Nat.reduceAdd,Nat.reduceSub,Nat.reduceLeDiff,Nat.reduceLT,implies_true,famS])<;>exact fin8) ?_)
  all_goals (rintro _ _ _ ⟨rfl,rfl,rfl⟩;(repeat first | simp (disch:=try exact dis1) only [evD,Nat.reduceBEq,Nat.reduceAdd,Nat.reduceLeDiff,renE,renF,s3,t3,zgP,zfb hil] | with_reducible intro _ | ((with_reducible apply And.intro);omega)))
  all_goals (repeat' with_reducible apply And.intro)
  all_goals try omega
  all_goals first
   | (refine zw [(0,3,0)] 1 _ (zdf n i hil T t1) rfl rfl (by (try simp only [evWB,Nat.reduceBEq,Nat.reduceAdd,Nat.reduceSub,Nat.reduceLeDiff,Nat.reduceLT,implies_true,famS])<;>exact fin8) (by (try simp only [evWB,Nat.reduceBEq,Nat.reduceAdd,Nat.reduceSub,Nat.reduceLeDiff,Nat.reduceLT,implies_true,famS])<;>exact fin8) ?_)
   | (refine zw [(0,2,0)] 1 _ (zdf n i hil S s1) rfl rfl (by (try simp only [evWB,Nat.reduceBEq,Nat.reduceAdd,Nat.reduceSub,Nat.reduceLeDiff,Nat.reduceLT,implies_true,famS])<;>exact fin8) (by (try simp only [evWB,Nat.reduceBEq,Nat.reduceAdd,Nat.reduceSub,Nat.reduceLeDiff,Nat.reduceLT,implies_true,famS])<;>exact fin8) ?_)
  all_goals (rintro _ _ _ ⟨rfl,rfl,rfl⟩;(repeat first | simp (disch:=try exact dis1) only [evD,Nat.reduceBEq,Nat.reduceAdd,Nat.reduceLeDiff,renE,renF,s3,t3,zgP,zfb hil,zw4] | with_reducible intro _ | ((with_reducible apply And.intro);omega)))
  all_goals refine ⟨⟨hil,rfl,rfl⟩,⟨by omega,by omega⟩,⟨hil,rfl,rfl⟩,i+1,by omega,by omega,?_⟩
  all_goals exact (Ent.tab [(0,0,0),(1,1,0),(2,2,0),(3,3,0),(4,4,0),(5,5,0)] [] rfl (by (try simp only [evWB,Nat.reduceBEq,Nat.reduceAdd,Nat.reduceSub,Nat.reduceLeDiff,Nat.reduceLT,implies_true,znf,famS,zpj])<;>exact fin8) (by (try simp only [evWB,Nat.reduceBEq,Nat.reduceAdd,Nat.reduceSub,Nat.reduceLeDiff,Nat.reduceLT,implies_true,znf,famS,zpj])<;>exact fin8))
 ·
  obtain rfl:i=n:=by omega
  (repeat first | simp (disch:=try exact dis1) only [evD,Nat.reduceBEq,Nat.reduceAdd,Nat.reduceLeDiff,dF] | with_reducible intro _ | ((with_reducible apply And.intro);omega))
  unfold zdX
  (repeat first | simp (disch:=try exact dis1) only [evD,Nat.reduceBEq,Nat.reduceAdd,Nat.reduceLeDiff,zfa,znf] | with_reducible intro _ | ((with_reducible apply And.intro);omega))
  rw [zo2,zo2,hA,hC]
  have la:A.length=i:=by rw [← hA];simp
  have lb:B.length=i:=by rw [← hC];simp
  refine ⟨.tup [zkp A,zkp B], .tup _ _ _ rfl ?_,rfl⟩
  intro k x y h1 h2
  rcases k with _ | _ | k
  ·
   cases h1;cases h2
   have:=@zr4 [(0, .row 1 (mps 2 i) 0),(1, .row 1 (mps 3 i) 0),(2,famS i S),(3,famS i T),(4, .row 1 (A.map cLL) 0),(5, .row 1 (B.map cLL) 0)] [] nos allR false 4 0 0 A trivial rfl (by omega)
   rw [la] at this
   exact this
  ·
   cases h1;cases h2
   have:=@zr4 [(0, .row 1 (mps 2 i) 0),(1, .row 1 (mps 3 i) 0),(2,famS i S),(3,famS i T),(4, .row 1 (A.map cLL) 0),(5, .row 1 (B.map cLL) 0)] [] nos allR false 5 0 0 B trivial rfl (by omega)
   rw [lb] at this
   exact this
  · cases h1
theorem zlu (g:G) (exit U:List Int) (hU:UnivB U exit g.blocks):zE Try.prog zf4 [.agg g.cells,za exit] (·=.tup [zkp (zgA exit g.blocks),zkp (outsL exit g.blocks)]):=by
 refine fn_x zlw rfl ?_
 unfold zhS
 have hB:=hBig
 have hlen:=hU.len
 have hbd:=zjZ g exit U hU
 obtain ⟨ad,bl⟩:=g
 simp only at hU hlen hbd ⊢
 simp only [G.cells] at hbd
 (repeat first | simp (disch:=try exact dis1) only [evD,Nat.reduceBEq,Nat.reduceAdd,Nat.reduceLeDiff,fldP,G.cells,za] | with_reducible intro _ | ((with_reducible apply And.intro);omega))
 refine zw [] 0 _ (hbd) rfl rfl fin8 fin8 ?_
 rintro _ _ _ ⟨S,T,rfl,rfl,rfl,hend⟩
 (repeat first | simp (disch:=try exact dis1) only [evD,Nat.reduceBEq,Nat.reduceAdd,Nat.reduceLeDiff,bdH,renP,renF] | with_reducible intro _ | ((with_reducible apply And.intro);omega))
 (repeat' with_reducible apply And.intro)
 all_goals try omega
 all_goals try intro _
 all_goals refine lv_l0 bl.length S T (fun i=>(zgA exit bl).getD i []) (zcz exit bl) _ _ hlen (fun i hi=>⟨(hend.s i).ok,hend.keyS hi⟩) (fun i hi=>⟨(hend.t i).ok,hend.keyT hi⟩) (by have:=@ztQ _ (zgA exit bl) [];rw [(znM exit bl).1.len] at this;exact this) rfl ?_
 · exact (Ent.tab [(0,2,0),(1,3,0),(2,4,0),(3,5,0),(4,6,0),(5,7,0)] [] rfl (by (try simp only [evWB,Nat.reduceBEq,Nat.reduceAdd,Nat.reduceSub,Nat.reduceLeDiff,Nat.reduceLT,implies_true,znf,famS,← zjI])<;>exact fin8) (by (try simp only [evWB,Nat.reduceBEq,Nat.reduceAdd,Nat.reduceSub,Nat.reduceLeDiff,Nat.reduceLT,implies_true,znf,famS,← zjI])<;>exact fin8))
 · exact (Ent.tab [(0,2,0),(1,3,0),(2,4,0),(3,5,0),(4,7,0),(5,6,0)] [] rfl (by (try simp only [evWB,Nat.reduceBEq,Nat.reduceAdd,Nat.reduceSub,Nat.reduceLeDiff,Nat.reduceLT,implies_true,znf,famS,← zjI])<;>exact fin8) (by (try simp only [evWB,Nat.reduceBEq,Nat.reduceAdd,Nat.reduceSub,Nat.reduceLeDiff,Nat.reduceLT,implies_true,znf,famS,← zjI])<;>exact fin8))
structure FewV (exit:List Int) (bl:List Bl):Prop where
 sz:∀ b∈bl,∀ s∈b.stmts,zt s.e≤100000
 len:bl.length≤1000000
 stmts:∀ b∈bl,b.stmts.length≤1000000
 ts:∀ b∈bl,(zD b.stmts).length≤1000000
 uni:(univ exit bl).length+exit.length≤400000
theorem zuv {exit:List Int} {bl:List Bl} {b:Bl} (hb:b∈bl) {s:St} (hs:s∈b.stmts):∀ x∈zfD s,x∈univ exit bl:=fun x hx =>
 List.mem_append_right _ (List.mem_flatMap.2 ⟨b,hb,List.mem_flatMap.2 ⟨s,hs,hx⟩⟩)
theorem renL {ρ:Nat→Nat} {l:List (List Int)} {g:Nat}:AObj.ren ρ (.row 1 (l.map cLL) g)=.row 1 (l.map cLL) g:=by
 simp only [AObj.ren]
 rw [zfO (ze zxT)]
structure RunL (exit:List Int) (bl:List Bl) (ins:List (List Int)) (k:Nat) (c:Bool):Prop where
 inv:LInvU exit bl ins
 fuel:zkc exit bl≤k+zds ins
 go:fixL exit bl k ins=zgA exit bl
 done:c=false→ins=zgA exit bl
theorem zla:∀ (l:List St) (h:l.length - 1 < l.length),zmo l=(zna (l[l.length - 1]'h) && !((l.take (l.length - 1)).any zna))
 | [],h=>by simp at h
 |
  [x],h=>by
  rw [zmo,zmo]
  simp
 |
  x::y::l,h=>by
  have ih:=zla (y::l) (by simp)
  rw [zmo,ih]
  simp only [List.length_cons,Nat.add_sub_cancel,List.isEmpty_cons,List.take_succ_cons,List.any_cons]
  have e:(x::y::l)[l.length+1]=(y::l)[l.length]:=rfl
  rw [e]
  cases zna x<;>cases zna (y::l)[l.length]<;>simp
theorem zxI {α:Type} {f:α→List AV} {H H2:AH} {σ:Nat→Nat→Option (Nat × Nat × Nat)} {D:Nat→Nat→Prop} {t:Bool} {l:List α} {sz i n z:Nat} (hi:i≤l.length) (hn:n=i) (hz:z=0) (hf:∀ a,zF (f a)=true) :
  Vw H H2 σ D t (.sl sz n (fun a j=>((l.map f).getD (z+a) []).getD j .undef)) (encL sz f (l.take i)):=by
 subst hn hz
 have e:(l.take n).length=n:=by rw [List.length_take];omega
 unfold encL
 rw [e]
 refine .slf _ _ _ _ _ (fun a j ha hj=>?_)
 have e2:(List.map f (List.take n l)).getD a []=(l.map f).getD (0+a) []:=by
  rw [Nat.zero_add,List.map_take,List.getD_eq_getElem?_getD,List.getElem?_take_of_lt ha,List.getD_eq_getElem?_getD]
 rw [e2,zz (show 0+a < l.length by omega),List.getD_eq_getElem?_getD]
 cases hx:(f l[0+a])[j]? with
 | none=>exact .undef _ _
 | some x=>exact zdo (zbr (hf _) hx)
theorem znP (l:List St):PredT (.fn (.func zdb) []) l zna:=⟨_,_,rfl,by kernel_rfl,rfl,fun s _=>zhO s⟩
theorem zm1 (t ad:Int) (l:List Bl):zE Try.prog zfK [.int .i64 t,encP 2 [.int .u32 ad,encL 2 Bl.cells l]] (·=.bool (!inN l.length t)):=by
 refine fn_x zne rfl ?_
 unfold zi6 inN
 have hB:=hBig
 by_cases h0:0≤t
 ·
  by_cases h1:t < l.length
  ·
   rw [decide_eq_true ⟨h0,h1⟩]
   (repeat first | simp (disch:=try exact dis1) only [evD,Nat.reduceBEq,Nat.reduceAdd,Nat.reduceLeDiff,fldP,dT,dF,zeY] | with_reducible intro _ | ((with_reducible apply And.intro);omega))
   exact ⟨_, .bool _ _,rfl⟩
  ·
   rw [decide_eq_false (fun h=>h1 h.2)]
   (repeat first | simp (disch:=try exact dis1) only [evD,Nat.reduceBEq,Nat.reduceAdd,Nat.reduceLeDiff,fldP,dT,dF,zeY] | with_reducible intro _ | ((with_reducible apply And.intro);omega))
   exact ⟨_, .bool _ _,rfl⟩
 ·
  rw [decide_eq_false (fun h=>h0 h.1)]
  (repeat first | simp (disch:=try exact dis1) only [evD,Nat.reduceBEq,Nat.reduceAdd,Nat.reduceLeDiff,fldP,dT,dF,zeY] | with_reducible intro _ | ((with_reducible apply And.intro);omega))
  exact ⟨_, .bool _ _,rfl⟩
theorem zk6 (ad:Int) (l:List Bl) (m:List Int):PredI (.fn (.func zfK) [encP 2 [.int .u32 ad,encL 2 Bl.cells l]]) m (fun t => !inN l.length t):=⟨_,_,rfl,by kernel_rfl,rfl,fun s _=>zm1 s ad l⟩
theorem zp0 (g:G) (hf:fewB g) (hc:∀ b∈g.blocks,∀ s∈b.stmts,s.cases.length≤100000000):zE Try.prog zju [.agg g.cells] (·=.bool (!g.blocks.isEmpty&&g.blocks.all fun b=>zjq b.stmts g.blocks.length)):=by
 refine fn_x zo8 rfl ?_
 unfold zk8
 have hB:=hBig
 obtain ⟨hb,hs⟩:=hf
 obtain ⟨ad,l⟩:=g
 simp only at hb hs hc
 simp only [G.cells]
 by_cases h0:l.length=0
 ·
  obtain rfl:l=[]:=List.eq_nil_of_length_eq_zero h0
  (repeat first | simp (disch:=try exact dis1) only [evD,Nat.reduceBEq,Nat.reduceAdd,Nat.reduceLeDiff,fldP,dT,List.length_nil,zdl] | with_reducible intro _ | ((with_reducible apply And.intro);omega))
  exact ⟨_, .bool _ _,rfl⟩
 have he:l.isEmpty=false:=by cases l with | nil=>simp at h0 | cons a l=>rfl
 rw [he]
 generalize hR:(l.all fun b=>zjq b.stmts l.length)=R
 (repeat first | simp (disch:=try exact dis1) only [evD,Nat.reduceBEq,Nat.reduceAdd,Nat.reduceLeDiff,fldP,dF] | with_reducible intro _ | ((with_reducible apply And.intro);omega))
 refine zf (fun i:Nat=>([(1,encP 2 [.int .u32 ad,encL 2 Bl.cells l]),(11,encL 2 Bl.cells l),(12, .int .i64 l.length),(13, .int .i64 i)],[])) 0 (fun i=>i≤l.length∧((l.drop i).all fun b=>zjq b.stmts l.length)=R) (fun i=>l.length - i) 0 ⟨Nat.zero_le _,hR⟩ (Ent.keep rfl fin5) ?_
 rintro i ⟨hi,hgo⟩ wf
 unfold zim
 by_cases hl:i < l.length
 ·
  have hg:(l.map Bl.cells).getD i []=[.int .u32 l[i].addr,encL 8 St.cells l[i].stmts]:=zz hl
  have hss:=zhR l[i] (hc _ (List.getElem_mem hl))
  rw [List.drop_eq_getElem_cons hl,List.all_cons] at hgo
  simp only [Bl.cells] at hss
  generalize l[i].stmts=m at hg hgo hss
  generalize l[i].addr=ad' at hg hss
  by_cases hm0:m.length=0
  ·
   obtain rfl:m=[]:=List.eq_nil_of_length_eq_zero hm0
   replace hgo:R=false:=by rw [← hgo];rfl
   subst hgo
   (repeat first | simp (disch:=try exact dis1) only [evD,Nat.reduceBEq,Nat.reduceAdd,Nat.reduceLeDiff,fldP,dT,hg,List.length_nil,zdl] | with_reducible intro _ | ((with_reducible apply And.intro);omega))
   exact ⟨_, .bool _ _,rfl⟩
  have hlast:m.length - 1 < m.length:=by omega
  have hidx:(((m.length:Nat):Int) - 1).toNat=m.length - 1:=by omega
  have hme:m.isEmpty=false:=by cases m with | nil=>simp at hm0 | cons a l=>rfl
  unfold zjq at hgo
  rw [hme,zla m hlast] at hgo
  (repeat first | simp (disch:=try exact dis1) only [evD,Nat.reduceBEq,Nat.reduceAdd,Nat.reduceLeDiff,fldP,dT,dF,hg,hidx,zz hlast,St.len,St.eight] | with_reducible intro _ | ((with_reducible apply And.intro);omega))
  refine zp (zm (zhO m[m.length - 1]) rfl) ?_
  generalize zna m[m.length - 1]=q at hgo
  cases q with
  |
   false =>
   replace hgo:R=false:=by rw [← hgo];rfl
   subst hgo
   (repeat first | simp (disch:=try exact dis1) only [evD,Nat.reduceBEq,Nat.reduceAdd,Nat.reduceLeDiff,zdl] | with_reducible intro _ | ((with_reducible apply And.intro);omega))
   exact ⟨_, .bool _ _,rfl⟩
  |
   true =>
   (repeat first | simp (disch:=try exact dis1) only [evD,Nat.reduceBEq,Nat.reduceAdd,Nat.reduceLeDiff,fldP,zmC,hidx] | with_reducible intro _ | ((with_reducible apply And.intro);omega))
   refine zp (zaQ (D:=noR) (zhp (m.take (m.length - 1)) _ _ (znP _)) (.cons (zxI (by omega) (by omega) rfl (fun _=>rfl)) (.cons (zrR (znP (m.take (m.length - 1)))) .nil)) (.inl rfl)) ?_
   generalize (m.take (m.length - 1)).any zna=q at hgo
   cases q with
   |
    true =>
    replace hgo:R=false:=by rw [← hgo];rfl
    subst hgo
    (repeat first | simp (disch:=try exact dis1) only [evD,Nat.reduceBEq,Nat.reduceAdd,Nat.reduceLeDiff,zdl] | with_reducible intro _ | ((with_reducible apply And.intro);omega))
    exact ⟨_, .bool _ _,rfl⟩
   |
    false =>
    (repeat first | simp (disch:=try exact dis1) only [evD,Nat.reduceBEq,Nat.reduceAdd,Nat.reduceLeDiff,fldP] | with_reducible intro _ | ((with_reducible apply And.intro);omega))
    refine zp (zm hss rfl) ?_
    (repeat first | simp (disch:=try exact dis1) only [evD,Nat.reduceBEq,Nat.reduceAdd,Nat.reduceLeDiff,fldP] | with_reducible intro _ | ((with_reducible apply And.intro);omega))
    refine zp (zaQ (D:=noR) (zhz (zD m) _ _ (zk6 ad l _)) (.cons (zaF rfl) (.cons (zse (zk6 ad l (zD m))) .nil)) (.inl rfl)) ?_
    rw [List.all_eq_not_any_not] at hgo
    generalize ((zD m).any fun t => !inN l.length t)=q at hgo
    cases q with
    |
     true =>
     replace hgo:R=false:=by rw [← hgo];rfl
     subst hgo
     (repeat first | simp (disch:=try exact dis1) only [evD,Nat.reduceBEq,Nat.reduceAdd,Nat.reduceLeDiff,zdl] | with_reducible intro _ | ((with_reducible apply And.intro);omega))
     exact ⟨_, .bool _ _,rfl⟩
    |
     false =>
     replace hgo:((l.drop (i+1)).all fun b=>zjq b.stmts l.length)=R:=by rw [← hgo];rfl
     (repeat first | simp (disch:=try exact dis1) only [evD,Nat.reduceBEq,Nat.reduceAdd,Nat.reduceLeDiff] | with_reducible intro _ | ((with_reducible apply And.intro);omega))
     exact ⟨i+1,⟨by omega,hgo⟩,by omega,(Ent.tab [] [] rfl (by (try simp only [evWB,Nat.reduceBEq,Nat.reduceAdd,Nat.reduceSub,Nat.reduceLeDiff,Nat.reduceLT,implies_true])<;>exact fin2) (by (try simp only [evWB,Nat.reduceBEq,Nat.reduceAdd,Nat.reduceSub,Nat.reduceLeDiff,Nat.reduceLT,implies_true])<;>exact fin2))⟩
 ·
  rw [List.drop_of_length_le (by omega)] at hgo
  replace hgo:R=true:=by rw [← hgo];rfl
  subst hgo
  (repeat first | simp (disch:=try exact dis1) only [evD,Nat.reduceBEq,Nat.reduceAdd,Nat.reduceLeDiff,fldP,dF] | with_reducible intro _ | ((with_reducible apply And.intro);omega))
  unfold zh9
  (repeat first | simp (disch:=try exact dis1) only [evD,Nat.reduceBEq,Nat.reduceAdd,Nat.reduceLeDiff,zdl] | with_reducible intro _ | ((with_reducible apply And.intro);omega))
  exact ⟨_, .bool _ _,rfl⟩
theorem zlr (g:G) (hf:fewB g) (hc:∀ b∈g.blocks,∀ s∈b.stmts,s.cases.length≤100000000):zE Try.prog zfU [.agg g.cells] (·=.int .i64 (znA g)):=by
 refine fn_x zlq rfl ?_
 unfold zhD
 have hB:=hBig
 have hsh:=zp0 g hf hc
 obtain ⟨hb,hs⟩:=hf
 obtain ⟨ad,l⟩:=g
 simp only at hb hs hsh
 simp only [G.cells,znA,zyx] at hsh ⊢
 (repeat first | simp (disch:=try exact dis1) only [evD,Nat.reduceBEq,Nat.reduceAdd,Nat.reduceLeDiff,fldP] | with_reducible intro _ | ((with_reducible apply And.intro);omega))
 refine zf (fun s:Nat × Nat=>([(1,encP 2 [.int .u32 ad,encL 2 Bl.cells l]),(3, .int .i64 s.2),(12,encL 2 Bl.cells l),(13, .int .i64 l.length),(14, .int .i64 s.1)],[])) 0 (fun s=>s.1≤l.length∧s.2=zx (l.take s.1)∧s.2≤1100 * s.1) (fun s=>l.length - s.1) (0,0) ⟨Nat.zero_le _,rfl,Nat.le_refl _⟩ (Ent.keep rfl fin5) ?_
 rintro ⟨i,n⟩ ⟨hi,hct,hn⟩ wf
 simp only at hi hn hct
 unfold zgh
 by_cases hl:i < l.length
 ·
  have hg:(l.map Bl.cells).getD i []=[.int .u32 l[i].addr,encL 8 St.cells l[i].stmts]:=zz hl
  have hsl:=hs l[i] (List.getElem_mem hl)
  (repeat first | simp (disch:=try exact dis1) only [evD,Nat.reduceBEq,Nat.reduceAdd,Nat.reduceLeDiff,fldP,dT,hg] | with_reducible intro _ | ((with_reducible apply And.intro);omega))
  exact ⟨(i+1,n+l[i].stmts.length),⟨by simp only;omega,by simp only;rw [zqu hl,hct],by simp only;omega⟩,by simp only;omega,(Ent.tab [] [] rfl (by (try simp only [evWB,Nat.reduceBEq,Nat.reduceAdd,Nat.reduceSub,Nat.reduceLeDiff,Nat.reduceLT,implies_true])<;>exact fin2) (by (try simp only [evWB,Nat.reduceBEq,Nat.reduceAdd,Nat.reduceSub,Nat.reduceLeDiff,Nat.reduceLT,implies_true])<;>exact fin2))⟩
 rw [List.take_of_length_le (by omega)] at hct
 (repeat first | simp (disch:=try exact dis1) only [evD,Nat.reduceBEq,Nat.reduceAdd,Nat.reduceLeDiff,fldP,dF] | with_reducible intro _ | ((with_reducible apply And.intro);omega))
 unfold zgl
 by_cases h256:256 < l.length
 ·
  rw [if_pos (.inl h256)]
  (repeat first | simp (disch:=try exact dis1) only [evD,Nat.reduceBEq,Nat.reduceAdd,Nat.reduceLeDiff,fldP,dT,zcb] | with_reducible intro _ | ((with_reducible apply And.intro);omega))
  exact ⟨_, .int _ _ _,rfl⟩
 by_cases h1024:1024 < n
 ·
  rw [if_pos (.inr (by omega))]
  (repeat first | simp (disch:=try exact dis1) only [evD,Nat.reduceBEq,Nat.reduceAdd,Nat.reduceLeDiff,fldP,dT,dF,zcb] | with_reducible intro _ | ((with_reducible apply And.intro);omega))
  exact ⟨_, .int _ _ _,rfl⟩
 rw [if_neg (by omega)]
 (repeat first | simp (disch:=try exact dis1) only [evD,Nat.reduceBEq,Nat.reduceAdd,Nat.reduceLeDiff,fldP,dF,ziY,tab,List.getD_cons_zero,List.getD_cons_succ] | with_reducible intro _ | ((with_reducible apply And.intro);omega))
 refine zp (zm hsh rfl) ?_
 generalize (!l.isEmpty&&l.all fun b=>zjq b.stmts l.length)=q
 cases q with
 |
  false =>
  (repeat first | simp (disch:=try exact dis1) only [evD,Nat.reduceBEq,Nat.reduceAdd,Nat.reduceLeDiff,zcb] | with_reducible intro _ | ((with_reducible apply And.intro);omega))
  exact ⟨_, .int _ _ _,rfl⟩
 | true =>
 rw [if_pos rfl]
 (repeat first | simp (disch:=try exact dis1) only [evD,Nat.reduceBEq,Nat.reduceAdd,Nat.reduceLeDiff,fldP] | with_reducible intro _ | ((with_reducible apply And.intro);omega))
 refine zf (fun i:Nat=>([(36,encL 2 Bl.cells l),(37, .int .i64 l.length),(38, .int .i64 i)],[])) 0 (fun i=>i≤l.length∧zkO (l.drop i)=zkO l) (fun i=>l.length - i) 0 ⟨Nat.zero_le _,rfl⟩ (Ent.keep rfl fin5) ?_
 rintro i ⟨hi,hgo⟩ wf
 unfold zgd
 by_cases hl:i < l.length
 ·
  have hg:(l.map Bl.cells).getD i []=[.int .u32 l[i].addr,encL 8 St.cells l[i].stmts]:=zz hl
  have hsl:=hs l[i] (List.getElem_mem hl)
  rw [zrb hl] at hgo
  (repeat first | simp (disch:=try exact dis1) only [evD,Nat.reduceBEq,Nat.reduceAdd,Nat.reduceLeDiff,fldP,dT,hg] | with_reducible intro _ | ((with_reducible apply And.intro);omega))
  generalize l[i].stmts=m at hg hgo hsl
  generalize l[i].addr=ad' at hg
  refine zf (fun j:Nat=>([(36,encL 2 Bl.cells l),(37, .int .i64 l.length),(38, .int .i64 i),(43,encL 8 St.cells m),(44, .int .i64 m.length),(45, .int .i64 j)],[])) 0 (fun j=>j≤m.length∧ziE (m.drop j)=ziE m) (fun j=>m.length - j) 0 ⟨Nat.zero_le _,rfl⟩ (Ent.tab [] [] rfl (by (try simp only [evWB,Nat.reduceBEq,Nat.reduceAdd,Nat.reduceSub,Nat.reduceLeDiff,Nat.reduceLT,implies_true])<;>exact fin2) (by (try simp only [evWB,Nat.reduceBEq,Nat.reduceAdd,Nat.reduceSub,Nat.reduceLeDiff,Nat.reduceLT,implies_true])<;>exact fin2)) ?_
  rintro j ⟨hj,hgo2⟩ wf2
  unfold zf2
  by_cases hm:j < m.length
  ·
   rw [zrI hm] at hgo2
   (repeat first | simp (disch:=try exact dis1) only [evD,Nat.reduceBEq,Nat.reduceAdd,Nat.reduceLeDiff,fldP,dT,zz hm,St.len,St.eight,St.flat] | with_reducible intro _ | ((with_reducible apply And.intro);omega))
   refine zp (zm (zl2 m[j]) rfl) ?_
   by_cases hx:m[j].check=0
   ·
    rw [if_neg (by omega)] at hgo2
    (repeat first | simp (disch:=try exact dis1) only [evD,Nat.reduceBEq,Nat.reduceAdd,Nat.reduceLeDiff,dF] | with_reducible intro _ | ((with_reducible apply And.intro);omega))
    exact ⟨j+1,⟨by omega,hgo2⟩,by omega,(Ent.tab [] [] rfl (by (try simp only [evWB,Nat.reduceBEq,Nat.reduceAdd,Nat.reduceSub,Nat.reduceLeDiff,Nat.reduceLT,implies_true])<;>exact fin2) (by (try simp only [evWB,Nat.reduceBEq,Nat.reduceAdd,Nat.reduceSub,Nat.reduceLeDiff,Nat.reduceLT,implies_true])<;>exact fin2))⟩
   ·
    rw [if_pos hx] at hgo2
    rw [← hgo2,if_pos hx] at hgo
    rw [← hgo]
    (repeat first | simp (disch:=try exact dis1) only [evD,Nat.reduceBEq,Nat.reduceAdd,Nat.reduceLeDiff,dT,zcb] | with_reducible intro _ | ((with_reducible apply And.intro);omega))
    exact ⟨_, .int _ _ _,rfl⟩
  ·
   rw [List.drop_of_length_le (by omega),ziE] at hgo2
   rw [← hgo2,if_neg (by omega)] at hgo
   (repeat first | simp (disch:=try exact dis1) only [evD,Nat.reduceBEq,Nat.reduceAdd,Nat.reduceLeDiff,fldP,dF] | with_reducible intro _ | ((with_reducible apply And.intro);omega))
   unfold zf5
   (repeat first | simp (disch:=try exact dis1) only [evD,Nat.reduceBEq,Nat.reduceAdd,Nat.reduceLeDiff] | with_reducible intro _ | ((with_reducible apply And.intro);omega))
   exact ⟨i+1,⟨by omega,hgo⟩,by omega,Ent.keep rfl fin5⟩
 rw [List.drop_of_length_le (by omega),zkO] at hgo
 rw [← hgo]
 (repeat first | simp (disch:=try exact dis1) only [evD,Nat.reduceBEq,Nat.reduceAdd,Nat.reduceLeDiff,fldP,dF] | with_reducible intro _ | ((with_reducible apply And.intro);omega))
 unfold zga
 (repeat first | simp (disch:=try exact dis1) only [evD,Nat.reduceBEq,Nat.reduceAdd,Nat.reduceLeDiff,zcb] | with_reducible intro _ | ((with_reducible apply And.intro);omega))
 exact ⟨_, .int _ _ _,rfl⟩
mutual
def zlb:Ex→Bool
 | .mk op _ _ _ l=>decide (op=18)||zlX l
def zlX:List Ex→Bool
 | []=>false
 | x::l=>zlb x||zlX l
end
theorem zmE:∀ l:List Ex,zlX l=l.any zlb
 | []=>by rw [zlX];rfl
 | x::l=>by rw [zlX,zmE l];rfl
theorem zkw:∀ (k:Nat) (e:Ex),zc9 e≤k→zE Try.prog zca [.agg (encX e)] (·=.bool (zlb e)):=by
 intro k
 induction k with
 | zero=>intro e h;obtain ⟨_,_,_,_,l⟩:=e;rw [zc9] at h;omega
 | succ k ih =>
 intro e hk
 obtain ⟨op,nn,v,w,l⟩:=e
 refine fn_x zkn rfl ?_
 unfold zgW
 have hB:=hBig
 rw [zc9] at hk
 rw [zdW,zlb,zmE]
 by_cases h1:op=18
 ·
  rw [decide_eq_true h1,Bool.true_or]
  (repeat first | simp (disch:=try exact dis1) only [evD,Nat.reduceBEq,Nat.reduceAdd,Nat.reduceLeDiff,fldP,dT,encP,zeU] | with_reducible intro _ | ((with_reducible apply And.intro);omega))
  exact ⟨_, .bool _ _,rfl⟩
 ·
  rw [decide_eq_false h1,Bool.false_or]
  have hp:PredE (.fn (.func zca) []) l zlb:=⟨_,_,rfl,by kernel_rfl,rfl,fun s hs=>ih s (by have:=zgk hs;omega)⟩
  (repeat first | simp (disch:=try exact dis1) only [evD,Nat.reduceBEq,Nat.reduceAdd,Nat.reduceLeDiff,fldP,dF] | with_reducible intro _ | ((with_reducible apply And.intro);omega))
  refine zp (zaQ (D:=noR) (zB l _ _ hp) (.cons (zaF rfl) (.cons (zdT hp) .nil)) (.inl rfl)) ?_
  (repeat first | simp (disch:=try exact dis1) only [evD,Nat.reduceBEq,Nat.reduceAdd,Nat.reduceLeDiff,zeU] | with_reducible intro _ | ((with_reducible apply And.intro);omega))
  exact ⟨_, .bool _ _,rfl⟩
theorem zmD (l:List Ex):PredE (.fn (.func zca) []) l zlb:=⟨_,_,rfl,by kernel_rfl,rfl,fun s _=>zkw _ s (Nat.le_refl _)⟩
def remS (s:St) (a:List Int):Bool:=decide (s.op=1)&&(!decide (s.var∈a) && !s.e.any zlb)
theorem zh5 (s:St) (a:MS):zN Try.prog zdF [.agg s.cells, .mp 0 0] [(0, .row 3 ((setM a.1 a.2).map cm) 0)] 1
  (fun v H nx=>v=.bool (remS s a.keys)∧H=[(0, .row 3 ((setM a.1 a.2).map cm) 0)]∧nx=1):=by
 refine z7 (fn_x ziF rfl ?_)
 unfold ze0
 have hB:=hBig
 obtain ⟨c,ps⟩:=a
 obtain ⟨op,var,width,next,els,tgt,l,cs⟩:=s
 unfold remS MS.keys
 simp only
 by_cases h1:op=1
 ·
  rw [decide_eq_true h1,Bool.true_and]
  by_cases hm:var∈ps.map (·.1)
  ·
   obtain ⟨j,hj,hje,hf⟩:=zj2 hm
   rw [decide_eq_true hm]
   (repeat first | simp (disch:=try exact dis1) only [evD,Nat.reduceBEq,Nat.reduceAdd,Nat.reduceLeDiff,fldP,St.cells,za,dT,zn,hf,zch,Bool.not_true,Bool.false_and] | with_reducible intro _ | ((with_reducible apply And.intro);omega))
   exact ⟨.bool false,_,_,(Ent.tabB [(0,0,0)] [] rfl rfl rfl (by (try simp only [evWB,Nat.reduceBEq,Nat.reduceAdd,Nat.reduceSub,Nat.reduceLeDiff,Nat.reduceLT,implies_true,zn])<;>exact fin6) (by (try simp only [evWB,Nat.reduceBEq,Nat.reduceAdd,Nat.reduceSub,Nat.reduceLeDiff,Nat.reduceLT,implies_true,zn])<;>exact fin6)),rfl,rfl,rfl⟩
  ·
   have hf:=ziR hm
   rw [decide_eq_false hm]
   (repeat first | simp (disch:=try exact dis1) only [evD,Nat.reduceBEq,Nat.reduceAdd,Nat.reduceLeDiff,fldP,St.cells,za,dT,zn,hf] | with_reducible intro _ | ((with_reducible apply And.intro);omega))
   refine zp (zaQ (D:=noR) (zB l _ _ (zmD l)) (.cons (zaF rfl) (.cons (zdT (zmD l)) .nil)) (.inl rfl)) ?_
   (repeat first | simp (disch:=try exact dis1) only [evD,Nat.reduceBEq,Nat.reduceAdd,Nat.reduceLeDiff,zch,Bool.not_false,Bool.true_and] | with_reducible intro _ | ((with_reducible apply And.intro);omega))
   exact ⟨.bool (!l.any zlb),_,_,(Ent.tabB [(0,0,0)] [] rfl rfl rfl (by (try simp only [evWB,Nat.reduceBEq,Nat.reduceAdd,Nat.reduceSub,Nat.reduceLeDiff,Nat.reduceLT,implies_true,zn])<;>exact fin6) (by (try simp only [evWB,Nat.reduceBEq,Nat.reduceAdd,Nat.reduceSub,Nat.reduceLeDiff,Nat.reduceLT,implies_true,zn])<;>exact fin6)),rfl,rfl,rfl⟩
 ·
  rw [decide_eq_false h1,Bool.false_and]
  (repeat first | simp (disch:=try exact dis1) only [evD,Nat.reduceBEq,Nat.reduceAdd,Nat.reduceLeDiff,fldP,St.cells,za,dF,zn,zch] | with_reducible intro _ | ((with_reducible apply And.intro);omega))
  exact ⟨.bool false,_,_,(Ent.tabB [(0,0,0)] [] rfl rfl rfl (by (try simp only [evWB,Nat.reduceBEq,Nat.reduceAdd,Nat.reduceSub,Nat.reduceLeDiff,Nat.reduceLT,implies_true,zn])<;>exact fin6) (by (try simp only [evWB,Nat.reduceBEq,Nat.reduceAdd,Nat.reduceSub,Nat.reduceLeDiff,Nat.reduceLT,implies_true,zn])<;>exact fin6)),rfl,rfl,rfl⟩
theorem zkj:∀ (k:Nat) (e:Ex),zc9 e≤k→k≤1000000→zE Try.prog zdS [.agg (encX e)] (·=.agg (encX e)):=by
 intro k
 induction k with
 | zero=>intro e h;obtain ⟨_,_,_,_,l⟩:=e;rw [zc9] at h;omega
 | succ k ih =>
 intro e hk hk2
 obtain ⟨op,nn,v,w,l⟩:=e
 refine fn_x zkA rfl ?_
 unfold zgS
 have hB:=hBig
 rw [zc9] at hk
 have hll:l.length≤zt l:=ziQ l
 rw [zdW]
 (repeat first | simp (disch:=try exact dis1) only [evD,Nat.reduceBEq,Nat.reduceAdd,Nat.reduceLeDiff,fldP] | with_reducible intro _ | ((with_reducible apply And.intro);omega))
 refine zf (fun i:Nat=>([(1, .ptr 0 0 0 0 0),(2, .ptr 1 0 0 0 0),(3, .own 2 0 0 0 i),(7,encL 5 encX l),(8, .int .i64 l.length),(9, .int .i64 i)],[(0, .row 5 [[.int .i64 op, .int .u32 nn, .int .i64 v, .int .i64 w,encL 5 encX l]] 0),(1, .row 5 [[.int .i64 0, .int .u32 0, .int .i64 0, .int .i64 0, .nilsl]] 0),(2, .row 5 ((l.take i).map encX) 0)])) 3
  (fun i=>i≤l.length) (fun i=>l.length - i) 0 (Nat.zero_le _) (Ent.tab [(0,0,0),(1,1,0),(2,2,0)] [] rfl (by (try simp only [evWB,Nat.reduceBEq,Nat.reduceAdd,Nat.reduceSub,Nat.reduceLeDiff,Nat.reduceLT,implies_true,List.take_zero])<;>exact fin2) (by (try simp only [evWB,Nat.reduceBEq,Nat.reduceAdd,Nat.reduceSub,Nat.reduceLeDiff,Nat.reduceLT,implies_true,List.take_zero])<;>exact fin2)) ?_
 rintro i hi wf
 unfold zfj
 by_cases hil:i < l.length
 ·
  have hm:=zgk (List.getElem_mem hil)
  have htk:(l.take (i+1)).map encX=(l.take i).map encX++[encX l[i]]:=by rw [List.take_add_one,List.getElem?_eq_getElem hil,List.map_append];rfl
  have htl:((l.take i).map encX).length=i:=by rw [List.length_map,List.length_take];omega
  generalize l.take i=T at htk htl ⊢
  have htT:(T.map encX).take i=T.map encX:=List.take_of_length_le (by omega)
  (repeat first | simp (disch:=try exact dis1) only [evD,Nat.reduceBEq,Nat.reduceAdd,Nat.reduceLeDiff,fldP,dT,zz hil,zdt,zcx,zb] | with_reducible intro _ | ((with_reducible apply And.intro);omega))
  refine zp (zm (ih l[i] (by omega) (by omega)) (flX rfl)) ?_
  (repeat first | simp (disch:=try exact dis1) only [evD,Nat.reduceBEq,Nat.reduceAdd,Nat.reduceLeDiff,zdt,zcx,zb,htl,htT] | with_reducible intro _ | ((with_reducible apply And.intro);omega))
  refine ⟨i+1,by omega,by omega,?_⟩
  exact (Ent.tab [(0,0,0),(1,1,0),(2,2,1)] [] rfl (by (try simp only [evWB,Nat.reduceBEq,Nat.reduceAdd,Nat.reduceSub,Nat.reduceLeDiff,Nat.reduceLT,implies_true,htk])<;>exact fin7) (by (try simp only [evWB,Nat.reduceBEq,Nat.reduceAdd,Nat.reduceSub,Nat.reduceLeDiff,Nat.reduceLT,implies_true,htk])<;>exact fin7))
 ·
  obtain rfl:i=l.length:=by omega
  rw [List.take_length]
  (repeat first | simp (disch:=try exact dis1) only [evD,Nat.reduceBEq,Nat.reduceAdd,Nat.reduceLeDiff,fldP,dF] | with_reducible intro _ | ((with_reducible apply And.intro);omega))
  unfold zfp
  (repeat first | simp (disch:=try exact dis1) only [evD,Nat.reduceBEq,Nat.reduceAdd,Nat.reduceLeDiff,fldP] | with_reducible intro _ | ((with_reducible apply And.intro);omega))
  (repeat first | simp (disch:=try exact dis1) only [evD,Nat.reduceBEq,Nat.reduceAdd,Nat.reduceLeDiff,zg0] | with_reducible intro _ | ((with_reducible apply And.intro);omega))
  refine ⟨.agg [.int .i64 op, .int .u32 nn, .int .i64 v, .int .i64 w,encL 5 encX l], .agg _ _ _ rfl (fun j a c h1 h2=>?_),rfl⟩
  match j with
  | 0=>cases h1;cases h2;exact .int _ _ _
  | 1=>cases h1;cases h2;exact .int _ _ _
  | 2=>cases h1;cases h2;exact .int _ _ _
  | 3=>cases h1;cases h2;exact .int _ _ _
  | 4=>cases h1;cases h2;exact zrX trivial rfl (by omega)
  | j+5=>cases h1
theorem zym {H H2:AH} {σ:Nat→Nat→Option (Nat × Nat × Nat)} {D:Nat→Nat→Prop} {t:Bool} {r q g:Nat} {l:List St} (hD:D r q) (hg:H.get r q=some (.row 8 (l.map St.cells) g)) (hb:l.length≤big):Vw H H2 σ D t (.own r q g 0 l.length) (encL 8 St.cells l) :=
 zhx hD hg hb fun a _ j _=>by
  rw [List.getD_eq_getElem?_getD]
  cases hx:a.cells[j]? with
  | none=>exact .undef _ _
  | some x=>exact zdo (zbr a.flat hx)
theorem ztZ {H H2:AH} {σ:Nat→Nat→Option (Nat × Nat × Nat)} {D:Nat→Nat→Prop} {t:Bool} {r q g:Nat} {l:List Bl} (hD:D r q) (hg:H.get r q=some (.row 2 (l.map Bl.cells) g)) (hb:l.length≤big):Vw H H2 σ D t (.own r q g 0 l.length) (encL 2 Bl.cells l) :=
 zhx hD hg hb fun a _ j _=>by
  rw [List.getD_eq_getElem?_getD]
  cases hx:a.cells[j]? with
  | none=>exact .undef _ _
  | some x=>exact zdo (zbr (show zF a.cells=true from rfl) hx)
theorem zv6 {Q:QT} (ad ad2:Int) (bl:List Bl) (done:List Bl) (i:Nat) (sts:List St) (j:Nat) (op var width next els tgt:Int) (l:List Ex) (cs:List Int) (hsz:zt l≤100000)
  (hcs:cs.length≤1000000) (hj:j < sts.length) (hjl:sts.length≤1000000) (hst:sts[j]=⟨op,var,width,next,els,tgt,l,cs⟩)
  (hfin:∀ K H nx,Ent 0 K H nx [(2, .ptr 0 0 0 0 0),(3, .ptr 1 0 0 0 0),(6, .ptr 3 0 0 0 0),(16,encL 2 Bl.cells bl),(17, .int .i64 bl.length),(18, .int .i64 i),(26,encL 8 St.cells sts),(27, .int .i64 sts.length),(28, .int .i64 ((j+1:Nat):Int))]
   [(0, .row 2 [[.int .u32 0, .nilsl]] 0),(1, .row 2 [[.int .u32 ad, .own 2 0 0 0 done.length]] 0),(2, .row 2 (done.map Bl.cells) 0),(3, .row 2 [[.int .u32 ad2, .own 4 0 0 0 (j+1)]] 0),(4, .row 8 ((sts.take (j+1)).map St.cells) 0)] 5→Q .normal K H nx)
  {K:Kn} {H:AH} {nx:Nat} (hent:Ent 0 K H nx [(2, .ptr 0 0 0 0 0),(3, .ptr 1 0 0 0 0),(6, .ptr 3 0 0 0 0),(8, .ptr 5 0 0 0 0),(9, .own 6 0 0 0 0),(16,encL 2 Bl.cells bl),(17, .int .i64 bl.length),(18, .int .i64 i),(26,encL 8 St.cells sts),(27, .int .i64 sts.length),(28, .int .i64 j),(33,encL 5 encX l),(34, .int .i64 l.length),(35, .int .i64 0)]
   [(0, .row 2 [[.int .u32 0, .nilsl]] 0),(1, .row 2 [[.int .u32 ad, .own 2 0 0 0 done.length]] 0),(2, .row 2 (done.map Bl.cells) 0),(3, .row 2 [[.int .u32 ad2, .own 4 0 0 0 j]] 0),(4, .row 8 ((sts.take j).map St.cells) 0),(5, .row 8 [[.int .i64 op, .int .i64 var, .int .i64 width, .int .i64 next, .int .i64 els, .int .u32 tgt,encL 5 encX l,za cs]] 0),(6, .row 5 [] 0)] 7) :
  zjO Try.prog 0 zde (zcF 4 (seqQ Try.prog 0 zdh (zcF 3 (seqQ Try.prog 0 zdj Q)))) K H nx:=by
 have hB:=hBig
 have hll:l.length≤zt l:=ziQ l
 refine zf (fun m:Nat=>([(2, .ptr 0 0 0 0 0),(3, .ptr 1 0 0 0 0),(6, .ptr 3 0 0 0 0),(8, .ptr 5 0 0 0 0),(9, .own 6 0 0 0 m),(16,encL 2 Bl.cells bl),(17, .int .i64 bl.length),(18, .int .i64 i),(26,encL 8 St.cells sts),(27, .int .i64 sts.length),(28, .int .i64 j),(33,encL 5 encX l),(34, .int .i64 l.length),(35, .int .i64 m)],
   [(0, .row 2 [[.int .u32 0, .nilsl]] 0),(1, .row 2 [[.int .u32 ad, .own 2 0 0 0 done.length]] 0),(2, .row 2 (done.map Bl.cells) 0),(3, .row 2 [[.int .u32 ad2, .own 4 0 0 0 j]] 0),(4, .row 8 ((sts.take j).map St.cells) 0),(5, .row 8 [[.int .i64 op, .int .i64 var, .int .i64 width, .int .i64 next, .int .i64 els, .int .u32 tgt,encL 5 encX l,za cs]] 0),(6, .row 5 ((l.take m).map encX) 0)])) 7
  (fun m=>m≤l.length) (fun m=>l.length - m) 0 (Nat.zero_le _) hent ?_
 rintro m hm wf
 unfold zde
 by_cases hil:m < l.length
 ·
  have hmm:=zgk (List.getElem_mem hil)
  have htk:(l.take (m+1)).map encX=(l.take m).map encX++[encX l[m]]:=by rw [List.take_add_one,List.getElem?_eq_getElem hil,List.map_append];rfl
  have htl:((l.take m).map encX).length=m:=by rw [List.length_map,List.length_take];omega
  generalize l.take m=T at htk htl ⊢
  generalize sts.take j=S at *
  have htT:(T.map encX).take m=T.map encX:=List.take_of_length_le (by omega)
  (repeat first | simp (disch:=try exact dis1) only [evD,Nat.reduceBEq,Nat.reduceAdd,Nat.reduceLeDiff,fldP,dT,zz hil,zdt,zcx,zb] | with_reducible intro _ | ((with_reducible apply And.intro);omega))
  refine zp (zm (zkj (zc9 l[m]) l[m] (Nat.le_refl _) (by omega)) (flX rfl)) ?_
  (repeat first | simp (disch:=try exact dis1) only [evD,Nat.reduceBEq,Nat.reduceAdd,Nat.reduceLeDiff,zdt,zcx,zb,htl,htT] | with_reducible intro _ | ((with_reducible apply And.intro);omega))
  refine ⟨m+1,by omega,by omega,?_⟩
  exact (Ent.tab [(0,0,0),(1,1,0),(2,2,0),(3,3,0),(4,4,0),(5,5,0),(6,6,1)] [] rfl (by (try simp only [evWB,Nat.reduceBEq,Nat.reduceAdd,Nat.reduceSub,Nat.reduceLeDiff,Nat.reduceLT,implies_true,htk])<;>exact fin7) (by (try simp only [evWB,Nat.reduceBEq,Nat.reduceAdd,Nat.reduceSub,Nat.reduceLeDiff,Nat.reduceLT,implies_true,htk])<;>exact fin7))
 ·
  obtain rfl:m=l.length:=by omega
  rw [List.take_length]
  (repeat first | simp (disch:=try exact dis1) only [evD,Nat.reduceBEq,Nat.reduceAdd,Nat.reduceLeDiff,dF] | with_reducible intro _ | ((with_reducible apply And.intro);omega))
  unfold zdh
  (repeat first | simp (disch:=try exact dis1) only [evD,Nat.reduceBEq,Nat.reduceAdd,Nat.reduceLeDiff] | with_reducible intro _ | ((with_reducible apply And.intro);omega))
  refine zw [] 0 _ (zp6 cs (by omega)) rfl rfl (by (try simp only [evWB,Nat.reduceBEq,Nat.reduceAdd,Nat.reduceSub,Nat.reduceLeDiff,Nat.reduceLT,implies_true])<;>exact fin1) (by (try simp only [evWB,Nat.reduceBEq,Nat.reduceAdd,Nat.reduceSub,Nat.reduceLeDiff,Nat.reduceLT,implies_true])<;>exact fin1) ?_
  rintro _ _ _ ⟨rfl,rfl,rfl⟩
  have hl8:((sts.take j).map St.cells).length=j:=by rw [List.length_map,List.length_take];omega
  have hsj:sts.take (j+1)=sts.take j++[⟨op,var,width,next,els,tgt,l,cs⟩]:=by rw [List.take_add_one,List.getElem?_eq_getElem hj,hst];rfl
  rw [hsj] at hfin
  generalize sts.take j=S at *
  have hS8:(S.map St.cells).take j=S.map St.cells:=List.take_of_length_le (by omega)
  (repeat first | simp (disch:=try exact dis1) only [evD,Nat.reduceBEq,Nat.reduceAdd,Nat.reduceLeDiff,renI,hl8,hS8] | with_reducible intro _ | ((with_reducible apply And.intro);omega))
  unfold zdj
  (repeat first | simp (disch:=try exact dis1) only [evD,Nat.reduceBEq,Nat.reduceAdd,Nat.reduceLeDiff] | with_reducible intro _ | ((with_reducible apply And.intro);omega))
  refine hfin _ _ _ ?_
  exact (Ent.tab [(0,0,0),(1,1,0),(2,2,0),(3,3,0),(4,4,1)] [6,7] rfl (by (try simp only [evWB,Nat.reduceBEq,Nat.reduceAdd,Nat.reduceSub,Nat.reduceLeDiff,Nat.reduceLT,implies_true,List.map_append,List.map_cons,List.map_nil,St.cells])<;>exact fin7) (by (try simp only [evWB,Nat.reduceBEq,Nat.reduceAdd,Nat.reduceSub,Nat.reduceLeDiff,Nat.reduceLT,implies_true,List.map_append,List.map_cons,List.map_nil,St.cells])<;>exact fin7))
theorem zvi {Q:QT} (ad ad2:Int) (bl:List Bl) (i:Nat) (hi:i < bl.length) (hbl:bl.length≤1000000) (sts:List St) (hb:bl[i]=⟨ad2,sts⟩) (hjl:sts.length≤1000000)
  (hsz:∀ s∈sts,zt s.e≤100000∧s.cases.length≤1000000)
  (hfin:∀ K H nx,Ent 0 K H nx [(2, .ptr 0 0 0 0 0),(3, .ptr 1 0 0 0 0),(16,encL 2 Bl.cells bl),(17, .int .i64 bl.length),(18, .int .i64 ((i+1:Nat):Int))]
   [(0, .row 2 [[.int .u32 0, .nilsl]] 0),(1, .row 2 [[.int .u32 ad, .own 2 0 0 0 (i+1)]] 0),(2, .row 2 ((bl.take (i+1)).map Bl.cells) 0)] 3→Q .normal K H nx)
  {K:Kn} {H:AH} {nx:Nat} (hent:Ent 0 K H nx [(2, .ptr 0 0 0 0 0),(3, .ptr 1 0 0 0 0),(6, .ptr 3 0 0 0 0),(16,encL 2 Bl.cells bl),(17, .int .i64 bl.length),(18, .int .i64 i),(26,encL 8 St.cells sts),(27, .int .i64 sts.length),(28, .int .i64 0)]
   [(0, .row 2 [[.int .u32 0, .nilsl]] 0),(1, .row 2 [[.int .u32 ad, .own 2 0 0 0 i]] 0),(2, .row 2 ((bl.take i).map Bl.cells) 0),(3, .row 2 [[.int .u32 ad2, .own 4 0 0 0 0]] 0),(4, .row 8 [] 0)] 5) :
  zjO Try.prog 0 zdk (zcF 2 (seqQ Try.prog 0 zdi (zcF 1 (seqQ Try.prog 0 zdn Q)))) K H nx:=by
 have hB:=hBig
 refine zf (fun j:Nat=>([(2, .ptr 0 0 0 0 0),(3, .ptr 1 0 0 0 0),(6, .ptr 3 0 0 0 0),(16,encL 2 Bl.cells bl),(17, .int .i64 bl.length),(18, .int .i64 i),(26,encL 8 St.cells sts),(27, .int .i64 sts.length),(28, .int .i64 j)],
   [(0, .row 2 [[.int .u32 0, .nilsl]] 0),(1, .row 2 [[.int .u32 ad, .own 2 0 0 0 i]] 0),(2, .row 2 ((bl.take i).map Bl.cells) 0),(3, .row 2 [[.int .u32 ad2, .own 4 0 0 0 j]] 0),(4, .row 8 ((sts.take j).map St.cells) 0)])) 5
  (fun j=>j≤sts.length) (fun j=>sts.length - j) 0 (Nat.zero_le _) hent ?_
 rintro j hj wf
 unfold zdk
 have hdl:(bl.take i).length=i:=by rw [List.length_take];omega
 by_cases hil:j < sts.length
 ·
  obtain ⟨z1,z2⟩:=hsz _ (List.getElem_mem hil)
  have hgs:=zz (f:=St.cells) (d:=[]) hil
  have hst:sts[j]=⟨sts[j].op,sts[j].var,sts[j].width,sts[j].next,sts[j].els,sts[j].tgt,sts[j].e,sts[j].cases⟩:=rfl
  have hl0:=fun (Q:QT)=>zv6 (Q:=Q) ad ad2 bl (bl.take i) i sts j sts[j].op sts[j].var sts[j].width sts[j].next sts[j].els sts[j].tgt sts[j].e sts[j].cases z1 z2 hil hjl hst
  rw [hdl] at hl0
  simp only [St.cells] at hgs
  (repeat first | simp (disch:=try exact dis1) only [evD,Nat.reduceBEq,Nat.reduceAdd,Nat.reduceLeDiff,fldP,dT,hgs] | with_reducible intro _ | ((with_reducible apply And.intro);omega))
  refine hl0 _ ?_ ?_
  ·
   intro K2 H2 nx2 he
   exact ⟨j+1,by omega,by show sts.length - (j+1) < sts.length - j;omega,he⟩
  · exact (Ent.tab [(0,0,0),(1,1,0),(2,2,0),(3,3,0),(4,4,0),(5,5,0),(6,6,0)] [] rfl (by (try simp only [evWB,Nat.reduceBEq,Nat.reduceAdd,Nat.reduceSub,Nat.reduceLeDiff,Nat.reduceLT,implies_true])<;>exact fin7) (by (try simp only [evWB,Nat.reduceBEq,Nat.reduceAdd,Nat.reduceSub,Nat.reduceLeDiff,Nat.reduceLT,implies_true])<;>exact fin7))
 ·
  obtain rfl:j=sts.length:=by omega
  rw [List.take_length]
  have hbk:bl.take (i+1)=bl.take i++[⟨ad2,sts⟩]:=by rw [List.take_add_one,List.getElem?_eq_getElem hi,hb];rfl
  rw [hbk] at hfin
  generalize bl.take i=D at *
  have hD:(D.map Bl.cells).take i=D.map Bl.cells:=List.take_of_length_le (by rw [List.length_map];omega)
  have hDl:(D.map Bl.cells).length=i:=by rw [List.length_map];omega
  (repeat first | simp (disch:=try exact dis1) only [evD,Nat.reduceBEq,Nat.reduceAdd,Nat.reduceLeDiff,dF] | with_reducible intro _ | ((with_reducible apply And.intro);omega))
  unfold zdi
  (repeat first | simp (disch:=try exact dis1) only [evD,Nat.reduceBEq,Nat.reduceAdd,Nat.reduceLeDiff,hD,hDl] | with_reducible intro _ | ((with_reducible apply And.intro);omega))
  unfold zdn
  (repeat first | simp (disch:=try exact dis1) only [evD,Nat.reduceBEq,Nat.reduceAdd,Nat.reduceLeDiff] | with_reducible intro _ | ((with_reducible apply And.intro);omega))
  refine hfin _ _ _ ?_
  exact (Ent.tab [(0,0,0),(1,1,0),(2,2,1)] [4] rfl (by (try simp only [evWB,Nat.reduceBEq,Nat.reduceAdd,Nat.reduceSub,Nat.reduceLeDiff,Nat.reduceLT,implies_true,List.map_append,List.map_cons,List.map_nil,Bl.cells])<;>exact fin7) (by (try simp only [evWB,Nat.reduceBEq,Nat.reduceAdd,Nat.reduceSub,Nat.reduceLeDiff,Nat.reduceLT,implies_true,List.map_append,List.map_cons,List.map_nil,Bl.cells])<;>exact fin7))
theorem zuz (g:G) (hbl:g.blocks.length≤1000000) (hst:∀ b∈g.blocks,b.stmts.length≤1000000) (hsz:∀ b∈g.blocks,∀ s∈b.stmts,zt s.e≤100000∧s.cases.length≤1000000) :
  zN Try.prog zeO [.agg g.cells] [] 0 (fun v H nx=>v=.agg [.int .u32 g.addr, .own 0 0 0 0 g.blocks.length]∧H=[(0, .row 2 (g.blocks.map Bl.cells) 0)]∧nx=1):=by
 refine z7 (fn_x zjY rfl ?_)
 unfold zgp
 have hB:=hBig
 obtain ⟨ad,bl⟩:=g
 simp only at hbl hst hsz ⊢
 (repeat first | simp (disch:=try exact dis1) only [evD,Nat.reduceBEq,Nat.reduceAdd,Nat.reduceLeDiff,fldP,G.cells] | with_reducible intro _ | ((with_reducible apply And.intro);omega))
 refine zf (fun i:Nat=>([(2, .ptr 0 0 0 0 0),(3, .ptr 1 0 0 0 0),(16,encL 2 Bl.cells bl),(17, .int .i64 bl.length),(18, .int .i64 i)],
   [(0, .row 2 [[.int .u32 0, .nilsl]] 0),(1, .row 2 [[.int .u32 ad, .own 2 0 0 0 i]] 0),(2, .row 2 ((bl.take i).map Bl.cells) 0)])) 3
  (fun i=>i≤bl.length) (fun i=>bl.length - i) 0 (Nat.zero_le _) (Ent.tab [(0,0,0),(1,1,0)] [] rfl (by (try simp only [evWB,Nat.reduceBEq,Nat.reduceAdd,Nat.reduceSub,Nat.reduceLeDiff,Nat.reduceLT,implies_true,List.take_zero,List.map_nil])<;>exact fin2) (by (try simp only [evWB,Nat.reduceBEq,Nat.reduceAdd,Nat.reduceSub,Nat.reduceLeDiff,Nat.reduceLT,implies_true,List.take_zero,List.map_nil])<;>exact fin2)) ?_
 rintro i hi wf
 unfold ze6
 by_cases hil:i < bl.length
 ·
  have hm:=List.getElem_mem hil
  have hgl:=zz (f:=Bl.cells) (d:=[]) hil
  have hl3:=fun (Q:QT)=>zvi (Q:=Q) ad bl[i].addr bl i hil hbl bl[i].stmts rfl (hst _ hm) (hsz _ hm)
  simp only [Bl.cells] at hgl
  (repeat first | simp (disch:=try exact dis1) only [evD,Nat.reduceBEq,Nat.reduceAdd,Nat.reduceLeDiff,fldP,dT,hgl] | with_reducible intro _ | ((with_reducible apply And.intro);omega))
  refine hl3 _ ?_ ?_
  ·
   intro K2 H2 nx2 he
   exact ⟨i+1,by omega,by show bl.length - (i+1) < bl.length - i;omega,he⟩
  · exact (Ent.tab [(0,0,0),(1,1,0),(2,2,0),(3,4,0)] [] rfl (by (try simp only [evWB,Nat.reduceBEq,Nat.reduceAdd,Nat.reduceSub,Nat.reduceLeDiff,Nat.reduceLT,implies_true])<;>exact fin7) (by (try simp only [evWB,Nat.reduceBEq,Nat.reduceAdd,Nat.reduceSub,Nat.reduceLeDiff,Nat.reduceLT,implies_true])<;>exact fin7))
 ·
  obtain rfl:i=bl.length:=by omega
  rw [List.take_length]
  (repeat first | simp (disch:=try exact dis1) only [evD,Nat.reduceBEq,Nat.reduceAdd,Nat.reduceLeDiff,dF] | with_reducible intro _ | ((with_reducible apply And.intro);omega))
  unfold ze2
  (repeat first | simp (disch:=try exact dis1) only [evD,Nat.reduceBEq,Nat.reduceAdd,Nat.reduceLeDiff,zgr] | with_reducible intro _ | ((with_reducible apply And.intro);omega))
  exact ⟨.agg [.int .u32 ad, .own 0 0 0 0 bl.length],[(0, .row 2 (bl.map Bl.cells) 0)],1,(Ent.tab [(0,2,0)] [] rfl (by (try simp only [evWB,Nat.reduceBEq,Nat.reduceAdd,Nat.reduceSub,Nat.reduceLeDiff,Nat.reduceLT,implies_true])<;>exact fin7) (by (try simp only [evWB,Nat.reduceBEq,Nat.reduceAdd,Nat.reduceSub,Nat.reduceLeDiff,Nat.reduceLT,implies_true])<;>exact fin7)),rfl,rfl,rfl⟩
def zj8 (exit:List Int):List St→List Int→List St × List Int
 | [],a=>([],a)
 | s::l,a=>if remS s (zj8 exit l a).2=true then zj8 exit l a else (s::(zj8 exit l a).1,zgf exit s (zj8 exit l a).2)
def keepM (exit:List Int):List St→MS→List St × MS
 | [],a=>([],a)
 | s::l,a=>if remS s (keepM exit l a).2.keys=true then keepM exit l a else (s::(keepM exit l a).1,zeA exit s (keepM exit l a).2)
theorem ztO {s:St} {a b:List Int} (h:∀ x,x∈a↔x∈b):remS s a=remS s b:=by
 unfold remS
 rw [decide_eq_decide.2 (h s.var)]
theorem zpu {exit:List Int} {a:MS} {e:List Int} (h:∀ x,x∈a.keys↔x∈e):∀ l:List St,(keepM exit l a).1=(zj8 exit l e).1∧∀ x,x∈(keepM exit l a).2.keys↔x∈(zj8 exit l e).2
 | []=>⟨rfl,h⟩
 |
  s::l=>by
  obtain ⟨h1,h2⟩:=zpu h l
  unfold keepM zj8
  rw [ztO h2]
  split
  · exact ⟨h1,h2⟩
  · exact ⟨by rw [h1],zl1 h2⟩
theorem zif {exit:List Int} {e:List Int}:∀ l:List St,((zj8 exit l e).1).Sublist l
 | []=>List.Sublist.slnil
 |
  s::l=>by
  unfold zj8
  split
  · exact (zif l).cons s
  · exact (zif l).cons_cons s
theorem zlN {exit:List Int} {e:MS}:∀ l:List St,((keepM exit l e).1).Sublist l
 | []=>List.Sublist.slnil
 |
  s::l=>by
  unfold keepM
  split
  · exact (zlN l).cons s
  · exact (zlN l).cons_cons s
theorem zsp {exit:List Int}:∀ {l:List St} {a:MS},a.ok→a.1+zby exit.length l≤1000000→a.2.length+zby exit.length l≤1000000 →
  (keepM exit l a).2.ok∧(keepM exit l a).2.1≤a.1+zby exit.length l∧(keepM exit l a).2.2.length≤a.2.length+zby exit.length l
 | [],a,h,_,_=>⟨h,by show a.1≤a.1+(0:Nat);omega,Nat.le_refl _⟩
 |
  s::l,a,h,h1,h2=>by
  have e:zby exit.length (s::l)=zt s.e+exit.length+zby exit.length l:=rfl
  rw [e] at h1 h2 ⊢
  obtain ⟨i1,i2,i3⟩:=zsp (exit:=exit) (l:=l) h (by omega) (by omega)
  unfold keepM
  split
  · exact ⟨i1,by omega,by omega⟩
  ·
   obtain ⟨j1,j2,j3⟩:=zst (exit:=exit) (s:=s) i1 (by omega) (by omega)
   exact ⟨j1,by simp only;omega,by simp only;omega⟩
def blkD (exit:List Int) (bl:List Bl) (i:Nat) (b:Bl):Bl:=⟨b.addr,(zj8 exit b.stmts (zcz exit bl i)).1⟩
def zdx (exit:List Int) (bl:List Bl):List Bl:=bl.mapIdx (blkD exit bl)
theorem ziO {exit:List Int} {bl:List Bl}:(zdx exit bl).length=bl.length:=by simp [zdx]
theorem zsW {exit:List Int} {bl:List Bl} {i:Nat} (h:i < bl.length):(zdx exit bl)[i]'(by rw [ziO];exact h)=blkD exit bl i bl[i]:=by simp [zdx]
def SubB (a b:List Bl):Prop:=a.length=b.length∧∀ i (h1:i < a.length) (h2:i < b.length),a[i].addr=b[i].addr∧(a[i].stmts).Sublist b[i].stmts
theorem SubB.rfl' {a:List Bl}:SubB a a:=⟨rfl,fun _ _ _=>⟨rfl,List.Sublist.refl _⟩⟩
theorem SubB.trans {a b c:List Bl} (h:SubB a b) (k:SubB b c):SubB a c:=⟨h.1.trans k.1,fun i h1 h2=>by
 obtain ⟨x1,x2⟩:=h.2 i h1 (by have:=h.1;omega)
 obtain ⟨y1,y2⟩:=k.2 i (by have:=h.1;omega) h2
 exact ⟨x1.trans y1,x2.trans y2⟩⟩
theorem zec {exit:List Int} {bl:List Bl}:SubB (zdx exit bl) bl:=⟨ziO,fun i h1 h2=>by rw [zsW h2];exact ⟨rfl,zif _⟩⟩
theorem SubB.mem {a b:List Bl} (h:SubB a b) {x:Bl} (hx:x∈a):∃ y∈b,x.addr=y.addr∧(x.stmts).Sublist y.stmts:=by
 obtain ⟨i,hi,rfl⟩:=List.mem_iff_getElem.1 hx
 have hl:=h.1
 obtain ⟨h1,h2⟩:=h.2 i hi (by omega)
 exact ⟨_,List.getElem_mem _,h1,h2⟩
theorem SubB.count:∀ {a b:List Bl},SubB a b→zx a≤zx b
 | [],[],_=>Nat.le_refl _
 | [],y::b,h=>by have:=h.1;simp at this
 | x::a,[],h=>by have:=h.1;simp at this
 |
  x::a,y::b,h=>by
  have h1:=(h.2 0 (by simp) (by simp)).2.length_le
  have h2:SubB a b:=⟨by have:=h.1;simpa using this,fun i h1 h2=>h.2 (i+1) (by simpa using h1) (by simpa using h2)⟩
  have h3:=SubB.count h2
  simp only [List.getElem_cons_zero] at h1
  simp only [zx,List.map_cons,List.sum_cons] at h3 ⊢
  omega
theorem SubB.same:∀ {a b:List Bl},SubB a b→zx a=zx b→a=b
 | [],[],_,_=>rfl
 | [],y::b,h,_=>by have:=h.1;simp at this
 | x::a,[],h,_=>by have:=h.1;simp at this
 |
  x::a,y::b,h,hc=>by
  obtain ⟨ha,hs⟩:=h.2 0 (by simp) (by simp)
  have h2:SubB a b:=⟨by have:=h.1;simpa using this,fun i h1 h2=>h.2 (i+1) (by simpa using h1) (by simpa using h2)⟩
  have h3:=h2.count
  simp only [List.getElem_cons_zero] at ha hs
  have hl:=hs.length_le
  simp only [zx,List.map_cons,List.sum_cons] at hc h3
  have e1:x.stmts=y.stmts:=hs.eq_of_length (by omega)
  rw [SubB.same h2 (by simp only [zx];omega)]
  congr 1
  obtain ⟨a1,s1⟩:=x
  obtain ⟨a2,s2⟩:=y
  simp only at ha e1
  rw [ha,e1]
theorem zvs {k:Nat} {a b:List St} (h:a.Sublist b):zby k a≤zby k b:=by
 induction h with
 | slnil=>exact Nat.le_refl _
 | cons s _ ih=>show _≤zt s.e+k+_;omega
 | cons_cons s _ ih=>show zt s.e+k+_≤zt s.e+k+_;omega
structure GoodB (U exit:List Int) (bl:List Bl):Prop where
 he:∀ x∈exit,x∈U
 hu:∀ b∈bl,∀ s∈b.stmts,∀ x∈zfD s,x∈U
 hsz:∀ b∈bl,∀ s∈b.stmts,zt s.e≤100000∧s.cases.length≤100000
 cost:∀ b∈bl,2 * U.length+zby exit.length b.stmts≤1000000
 cnt:zx bl≤1000000
 len:bl.length≤1000000
theorem zp2 {s:St}:(zj9 s).length≤s.cases.length+2:=by
 unfold zj9
 split
 · simp
 ·
  split
  · simp
  ·
   split
   · omega
   · simp
theorem zmA {l:List St} {n:Nat} (h:∀ s∈l,s.cases.length≤n):(zD l).length≤n+2:=by
 unfold zD
 split
 · simp
 ·
  rename_i s hs
  have:=h s (List.mem_of_getLast? hs)
  have:=zp2 (s:=s)
  omega
theorem zkm {bl:List Bl} {b:Bl} (h:b∈bl):b.stmts.length≤zx bl:=by
 induction bl with
 | nil=>cases h
 |
  cons x l ih =>
  simp only [zx,List.map_cons,List.sum_cons] at ih ⊢
  rcases List.mem_cons.1 h with rfl | h
  · omega
  · have:=ih h;omega
theorem GoodB.univ {U exit:List Int} {bl:List Bl} (h:GoodB U exit bl):UnivB U exit bl:=by
 refine ⟨h.he,h.hu,fun b hb s hs=>(h.hsz b hb s hs).1,h.cost,fun b hb=>⟨fun s hs=>?_,?_,?_⟩,h.len⟩
 · have:=(h.hsz b hb s hs).2;omega
 · exact Nat.le_trans (zkm hb) h.cnt
 ·
  have:=zmA (l:=b.stmts) (n:=100000) fun s hs=>(h.hsz b hb s hs).2
  omega
theorem GoodB.sub {U exit:List Int} {a b:List Bl} (h:GoodB U exit b) (k:SubB a b):GoodB U exit a:=by
 refine ⟨h.he,fun x hx s hs=>?_,fun x hx s hs=>?_,fun x hx=>?_,Nat.le_trans k.count h.cnt,by rw [k.1];exact h.len⟩
 ·
  obtain ⟨y,hy,_,h2⟩:=k.mem hx
  exact h.hu y hy s (h2.mem hs)
 ·
  obtain ⟨y,hy,_,h2⟩:=k.mem hx
  exact h.hsz y hy s (h2.mem hs)
 ·
  obtain ⟨y,hy,_,h2⟩:=k.mem hx
  have:=zvs (k:=exit.length) h2
  have:=h.cost y hy
  omega
def zoO (exit:List Int):Nat→List Bl→List Bl
 | 0,bl=>bl
 | k+1,bl=>if zx (zdx exit bl)=zx bl then bl else zoO exit k (zdx exit bl)
theorem zpx {exit:List Int}:∀ (k:Nat) (bl:List Bl),SubB (zoO exit k bl) bl
 | 0,bl=>SubB.rfl'
 |
  k+1,bl=>by
  unfold zoO
  split
  · exact SubB.rfl'
  · exact (zpx k _).trans zec
theorem znk {exit:List Int}:∀ (k k':Nat) (bl:List Bl),zx bl < k→zx bl < k'→zoO exit k bl=zoO exit k' bl
 | 0,_,bl,h,_=>absurd h (Nat.not_lt_zero _)
 | _+1,0,bl,_,h=>absurd h (Nat.not_lt_zero _)
 |
  k+1,k'+1,bl,h,h'=>by
  unfold zoO
  split
  · rfl
  ·
   have:=(zec (exit:=exit) (bl:=bl)).count
   exact znk k k' _ (by omega) (by omega)
def zm2 (exit:List Int) (bl:List Bl):List Bl:=zoO exit (zx bl+1) bl
end Go.Ab
