/-
  Part 4 of the proof: how the calls of this program run, over values instead of memory, and what each function computes.
-/
import Derived.ProofKit
import Derived.LoopN
import Derived.Test.YtdhlfajcofgpkaaGreatKc
set_option maxRecDepth 100000
set_option linter.unusedVariables false
set_option linter.unusedSimpArgs false
set_option linter.unnecessarySimpa false
set_option linter.unusedSectionVars false
open Nat renaming beq→Wa,blt→Wc,ble→Wd,blt_eq→Wn,le_of_ble_eq_true→Wp,add_sub_cancel_left→WD,le_of_not_lt→WJ
open Bool renaming and_eq_true→Wb,or_eq_true→Wu,not_eq_true'→Ww,or_eq_true_iff→WC
open List renaming all_eq_true→We,replicate→Wf,getElem?_map→Wi,range→Wj,getElem?_eq_getElem→Wk,mem_filter→Wl,mem_cons→Wm,map_cons→Wo,getD_eq_getElem?_getD→Wq,mem_of_getElem?→Ws,any_eq_true→Wt,getElem?_eq_some_iff→Wv,mem_map→Wy,mem_cons_of_mem→WA,mem_range→WB,getElem?_append_left→WE,map_congr_left→WF,getElem_mem→WG,filter_congr→WH,length_cons→WI
open Option renaming map_eq_some_iff→Wg,isSome_iff_exists→Wr,bind_eq_some_iff→Wz
open Option.some renaming injEq→Wh
open Prod.mk renaming injEq→Wx
namespace Go.Ab
open Go.RowKit
section
variable {H HH:AH} {σ:Nat→Nat→Option (Nat × Nat × Nat)} {D:Nat→Nat→Prop} {t:Bool}
theorem zAl {k k':IntKind} {n m:Int}:Vw H HH σ D t (.int k n) (.int k' m)=(k=k'∧n=m):=by refine propext ⟨fun h=>by cases h;exact⟨rfl,rfl⟩,?_⟩;rintro⟨rfl,rfl⟩;exact .int _ _ _
theorem zv5 {a b:Bool}:Vw H HH σ D t (.bool a) (.bool b)=(a=b):=by refine propext ⟨fun h=>by cases h;rfl,?_⟩;rintro rfl;exact .bool _ _
theorem zzi {r q g o n r' q' g' o' n':Nat}:Vw H HH σ D true (.own r q g o n) (.own r' q' g' o' n')=((σ r' q'=some (r,q,g - g')∧g'≤g)∧o=o'∧n=n'):=by
 refine propext ⟨fun h=>?_,?_⟩
 · cases h;rename_i d hs hg;subst hg;exact⟨⟨by rw[hs,WD],by omega⟩,rfl,rfl⟩
 · rintro⟨⟨h1,h2⟩,rfl,rfl⟩;exact .own r q g (g - g') o n r' q' g' h1 (by omega)
theorem zzS {r q g i f r' q' g' i' f':Nat}:Vw H HH σ D true (.ptr r q g i f) (.ptr r' q' g' i' f')=((σ r' q'=some (r,q,g - g')∧g'≤g)∧i=i'∧f=f'):=by
 refine propext ⟨fun h=>?_,?_⟩
 · cases h;rename_i d hs hg;subst hg;exact⟨⟨by rw[hs,WD],by omega⟩,rfl,rfl⟩
 · rintro⟨⟨h1,h2⟩,rfl,rfl⟩;exact .ptr r q g (g - g') i f r' q' g' h1 (by omega)
def VwL (H HH:AH) (σ:Nat→Nat→Option (Nat × Nat × Nat)) (D:Nat→Nat→Prop) (t:Bool):List AV→List AV→Prop
 | [],[]=>True
 | a::l,b::m=>Vw H HH σ D t a b∧VwL H HH σ D t l m
 | _,_=>False
theorem VwL.get:∀ {l m:List AV},VwL H HH σ D t l m→l.length=m.length∧∀(i:Nat) (a b:AV),l[i]? = some a→m[i]? = some b→Vw H HH σ D t a b
 | [],[],_=>⟨rfl,fun i a b h=>by cases h⟩
 |
  a::l,b::m,h=>by
  obtain⟨h1,h2⟩:=VwL.get h.2;refine⟨by simp[h1],fun i x y hx hy=>?_⟩
  cases i with
  | zero=>cases hx;cases hy;exact h.1
  | succ i=>exact h2 i x y (by simpa using hx) (by simpa using hy)
 | [],b::m,h=>h.elim
 | a::l,[],h=>h.elim
theorem VwL.of:∀ {l m:List AV},l.length=m.length→(∀(i:Nat) (a b:AV),l[i]? = some a→m[i]? = some b→Vw H HH σ D t a b)→VwL H HH σ D t l m
 | [],[],_,_=>trivial
 | a::l,b::m,h,hh=>⟨hh 0 a b rfl rfl,VwL.of (by simpa using h) (fun i x y hx hy=>hh (i+1) x y (by simpa using hx) (by simpa using hy))⟩
 | [],b::m,h,_=>by cases h
 | a::l,[],h,_=>by cases h
theorem zBe {f f':Fn} {l m:List AV}:Vw H HH σ D t (.fn f l) (.fn f' m)=(f=f'∧VwL H HH σ D t l m):=by
 refine propext ⟨fun h=>?_,?_⟩
 ·
  cases h with
  | fn _ _ _ _ hl h=>exact⟨rfl,VwL.of hl h⟩
 · rintro⟨rfl,h⟩;exact .fn _ _ _ _ h.get.1 h.get.2
theorem zy9 {l m:List AV}:Vw H HH σ D t (.agg l) (.agg m)=VwL H HH σ D t l m:=by
 refine propext ⟨fun h=>?_,fun h=>.agg _ _ _ h.get.1 h.get.2⟩
 cases h with
 | agg _ _ _ hl h=>exact VwL.of hl h
theorem zAi {l m:List AV}:Vw H HH σ D t (.tup l) (.tup m)=VwL H HH σ D t l m:=by
 refine propext ⟨fun h=>?_,fun h=>.tup _ _ _ h.get.1 h.get.2⟩
 cases h with
 | tup _ _ _ hl h=>exact VwL.of hl h
theorem zzN {r' q' g' o n:Nat}:Vw H HH σ D true .nilsl (.own r' q' g' o n)=(σ r' q'=none∧(∃sz,HH.get r' q'=some (.row sz [] 0))∧g'=0∧o=0∧n=0):=by
 refine propext ⟨fun h=>?_,?_⟩
 ·
  cases h with
  | new _ _ sz hs hg=>exact⟨hs,⟨sz,hg⟩,rfl,rfl,rfl⟩
 · rintro⟨h1,⟨sz,h2⟩,rfl,rfl,rfl⟩;exact .new _ _ sz h1 h2
def zFa (H HH:AH) (σ:Nat→Nat→Option (Nat × Nat × Nat)) (D:Nat→Nat→Prop) (sz:Nat) (els2:List (List AV)) (g:Nat) (o:Option AObj):Prop:=match o with
 | some (.row sz' els g')=>(sz'=sz∧g'=g)∧RowV H HH σ D els els2
 | _=>False
def zCS (H HH:AH) (tb:Tab) (ds:List Nat) (sz:Nat) (els2:List (List AV)) (g2:Nat):Option (Nat × Nat)→Prop
 | some (r,d)=>zFa H HH tb.sig (inD ds) sz els2 (g2+d) (H.get r 0)
 | none=>els2=[]∧g2=0
theorem ztw {tb:Tab} {ds:List Nat} {n r' sz g2:Nat} {els2:List (List AV)} {u:AH} :
  zkk H HH tb ds n ((r',.row sz els2 g2)::u)=(r' < n∧zCS H HH tb ds sz els2 g2 (tb.at r')∧zkk H HH tb ds n u):=by
 simp only[zkk,Wn]
 congr 2
 cases tb.at r' with
 | none=>rfl
 |
  some p =>
  obtain⟨r,d⟩:=p;simp only[zCS,zFa];refine propext ⟨?_,fun h=>?_⟩
  · rintro⟨els,h1,h2⟩;rw[h1];exact⟨⟨rfl,rfl⟩,h2⟩
  ·
   cases ho:H.get r 0 with
   | none=>rw[ho] at h;exact h.elim
   |
    some o =>
    rw[ho] at h
    cases o with
    | fam _ _=>exact h.elim
    |
     row sz' els g' =>
     obtain⟨⟨rfl,rfl⟩,h⟩:=h;exact⟨els,rfl,h⟩
theorem zj2 {els:List (List AV)} (h:∀c∈els,zM c=true):RowV H HH σ D els els:=by refine⟨rfl,fun i c2 hi=>?_⟩;refine⟨c2,hi,rfl,fun j x y h1 h2=>?_⟩;rw[h1] at h2;cases h2;exact zO (zbf (h c2 (Ws hi)) h1)
theorem zsU {els:List (List AV)} (h:∀c∈els,zM c=true):RowV H HH σ D els els=True:=eq_true (zj2 h)
def zy (els:List (List AV)):Prop:=∀c∈els,zM c=true
theorem zgZ:zy []=True:=by simp[zy]
theorem zfR {c:List AV} {l:List (List AV)}:zy (c::l)=(zM c=true∧zy l):=by simp[zy]
theorem zgl {l m:List (List AV)}:zy (l++m)=(zy l∧zy m):=by unfold zy;simp only[List.mem_append,eq_iff_iff];exact⟨fun h=>⟨fun c hc=>h c (.inl hc),fun c hc=>h c (.inr hc)⟩,fun h c hc=>hc.elim (h.1 c) (h.2 c)⟩
theorem zjO {α:Type} {f:α→List AV} {l:List α}:zy (l.map f)=∀a∈l,zM (f a)=true:=by simp[zy]
theorem zkf {n:Nat} {c:List AV} (h:zM c=true):zy (Wf n c)=True:=by
 refine eq_true fun x hx=>?_
 rw[(List.mem_replicate.1 hx).2];exact h
theorem zjE {l:List (List AV)} {i:Nat} {c:List AV} (h:zM c=true) (hl:zy l):zy (l.set i c)=True:=by
 refine eq_true fun x hx=>?_
 rcases List.mem_or_eq_of_mem_set hx with hx|rfl
 · exact hl x hx
 · exact h
theorem zBK {A:List (List AV)} {a b:List AV} (h:zy A):RowV H HH σ D (A++[a]) (A++[b])=VwL H HH σ D true a b:=by
 refine propext ⟨fun hr=>?_,fun hv=>?_⟩
 · obtain⟨c,h1,h2,h3⟩:=hr.2 A.length b (by simp);simp at h1;subst h1;exact VwL.of h2.symm h3
 ·
  refine⟨by simp,fun i c2 hi=>?_⟩
  by_cases hlt:i < A.length
  · rw[WE hlt] at hi;refine⟨c2,by rw[WE hlt];exact hi,rfl,fun j x y h1 h2=>?_⟩;rw[h1] at h2;cases h2;exact zO (zbf (h c2 (Ws hi)) h1)
  ·
   have he:i=A.length:=by have:=(Wv.1 hi).1;simp at this;omega
   subst he;simp at hi;subst hi;exact⟨a,by simp,hv.get.1.symm,hv.get.2⟩
abbrev cI (n:Int):List AV:=[.int .i64 n]
abbrev cN (n:Nat):List AV:=[.int .i64 (n:Int)]
theorem zuW:RowV H HH σ D [] []=True:=eq_true (zj2 (by simp))
theorem zFk {a b:List AV}:RowV H HH σ D [a] [b]=VwL H HH σ D true a b:=by
 refine propext ⟨fun h=>?_,fun h=>?_⟩
 · obtain⟨c,h1,h2,h3⟩:=h.2 0 b rfl;cases h1;exact VwL.of h2.symm h3
 ·
  refine⟨rfl,fun i c2 hi=>?_⟩
  cases i with
  | zero=>cases hi;exact⟨a,rfl,h.get.1.symm,h.get.2⟩
  | succ i=>simp at hi
theorem zGj {r' q':Nat}:Tab.sig [] r' q'=none:=rfl
theorem zEg {a b d r' q':Nat} {tb:Tab}:Tab.sig ((a,b,d)::tb) r' q'=bif a == r' then some (b,q',d) else Tab.sig tb r' q':=by
 unfold Tab.sig;simp only[Tab.at,zeV]
 cases a == r'<;>rfl
theorem at_nil {x:Nat}:Tab.at [] x=none:=rfl
theorem zA0 {a b d x:Nat} {tb:Tab}:Tab.at ((a,b,d)::tb) x=bif a == x then some (b,d) else Tab.at tb x:=by simp only[Tab.at,zeV]
end
theorem zve {α β:Type} {f:α→β} {l:List α}:(l.map f).take l.length=l.map f:=by rw[List.take_of_length_le (by simp)]
theorem evU:(∀ {α β:Type} {f:α→β} {asv:List α},(asv.map f).length=asv.length)∧(∀ {α β:Type} {f:α→β} {l:List α},(l.map f).take l.length=l.map f)∧(∀ {α:Type} {l:List α},l.take l.length=l) ∧
  (∀n:Nat,n * 1=n)∧(∀n:Nat,1 * n=n)∧((!true)=false)∧((!false)=true)∧(∀ {α β:Type} {f:α→β} {a:α},(some a).map f=some (f a))∧(∀ {h:Decidable True},@decide True h=true)∧(∀ {h:Decidable False},@decide False h=false) ∧
  (∀b:Bool,(false != b)=b)∧(∀b:Bool,(true != b) = !b)∧(∀b:Bool,(b != false)=b)∧(∀b:Bool,(b != true) = !b) :=
 ⟨List.length_map _,zve,List.take_length,Nat.mul_one,Nat.one_mul,rfl,rfl,rfl,decide_true _,decide_false _,Bool.false_bne,Bool.true_bne,Bool.bne_false,Bool.bne_true⟩
theorem evV:(∀n:Nat,(n < n)=False)∧(∀ {α β:Type} {f:α→β} {a b:List α},(a++b).map f=a.map f++b.map f)∧(∀ {α β:Type} {f:α→β} {a:α} {l:List α},(a::l).map f=f a::l.map f)∧(∀ {α β:Type} {f:α→β},[].map f=[]) ∧
  (∀ {α:Type} {a b:List α},(a++b).length=a.length+b.length)∧(∀ {α:Type} {a:α} {l:List α},(a::l).length=l.length+1)∧(∀ {α:Type},([]:List α).length=0)∧(∀ {α:Type} {p:α→Bool},[].filter p=[])∧(∀ {α:Type} {l:List α},l.take 0=[]) ∧
  (∀ {α β:Type} {f:α→β} {l:List α},(l.map f).length=l.length)∧(∀ {α:Type} {n:Nat} {a:α},(Wf n a).length=n)∧(∀ {α:Type} {l:List α} {i:Nat} {a:α},(l.set i a).length=l.length) ∧
  (∀a b:Nat,((a+b:Nat):Int)=a+b)∧(∀a:Int,0+a=a)∧(∀n:Nat,n+0=n)∧(∀n:Nat,n - n=0)∧(∀n:Nat,n - 0=n) :=
 ⟨fun _=>eq_false (Nat.lt_irrefl _),List.map_append,rfl,rfl,List.length_append,rfl,rfl,rfl,List.take_zero,List.length_map _,List.length_replicate,List.length_set,Int.natCast_add,Int.zero_add,Nat.add_zero,Nat.sub_self,Nat.sub_zero⟩
theorem evW :
 (∀ {H HH:AH} {tb:Tab} {ds:List Nat} {K:Kn},zof H HH tb ds [] K=True) ∧
 (∀ {H HH:AH} {tb:Tab} {ds:List Nat} {K:Kn} {j:Nat} {v:AV} {u:Kn},zof H HH tb ds ((j,v)::u) K=(Vw H HH tb.sig (inD ds) true (K.get j) v∧zof H HH tb ds u K)) ∧
 (∀ {H HH:AH} {tb:Tab} {ds:List Nat} {n:Nat},zkk H HH tb ds n []=True) ∧
 (∀ {H HH:AH} {tb:Tab} {ds:List Nat} {n r' sz g2:Nat} {els2:List (List AV)} {u:AH},zkk H HH tb ds n ((r',.row sz els2 g2)::u)=(r' < n∧zCS H HH tb ds sz els2 g2 (tb.at r')∧zkk H HH tb ds n u)) ∧
 (∀ {H HH:AH} {tb:Tab} {ds:List Nat} {sz g2 r d:Nat} {els2:List (List AV)},zCS H HH tb ds sz els2 g2 (some (r,d))=zFa H HH tb.sig (inD ds) sz els2 (g2+d) (H.get r 0)) ∧
 (∀ {H HH:AH} {tb:Tab} {ds:List Nat} {sz g2:Nat} {els2:List (List AV)},zCS H HH tb ds sz els2 g2 none=(els2=[]∧g2=0)) ∧
 (∀ {H HH:AH} {σ:Nat→Nat→Option (Nat × Nat × Nat)} {D:Nat→Nat→Prop} {sz g sz' g':Nat} {els els2:List (List AV)},zFa H HH σ D sz els2 g (some (.row sz' els g'))=((sz'=sz∧g'=g)∧RowV H HH σ D els els2)) ∧
 (∀ {H HH:AH} {σ:Nat→Nat→Option (Nat × Nat × Nat)} {D:Nat→Nat→Prop},RowV H HH σ D [] []=True) ∧
 (∀ {H HH:AH} {σ:Nat→Nat→Option (Nat × Nat × Nat)} {D:Nat→Nat→Prop} {A:List (List AV)} {a b:List AV},zy A→RowV H HH σ D (A++[a]) (A++[b])=VwL H HH σ D true a b) ∧
 (∀ {H HH:AH} {σ:Nat→Nat→Option (Nat × Nat × Nat)} {D:Nat→Nat→Prop} {els:List (List AV)},zy els→RowV H HH σ D els els=True) ∧
 (zy []=True)∧(∀ {c:List AV} {l:List (List AV)},zy (c::l)=(zM c=true∧zy l))∧(∀ {l m:List (List AV)},zy (l++m)=(zy l∧zy m)) ∧
 (∀ {α:Type} {f:α→List AV} {l:List α},zy (l.map f)=∀a∈l,zM (f a)=true)∧(∀ {n:Nat} {c:List AV},zM c=true→zy (Wf n c)=True) ∧
 (∀ {l:List (List AV)} {i:Nat} {c:List AV},zM c=true→zy l→zy (l.set i c)=True) ∧
 (∀ {H HH:AH} {σ:Nat→Nat→Option (Nat × Nat × Nat)} {D:Nat→Nat→Prop} {t:Bool} {a:AV},a.flat0=true→Vw H HH σ D t a a=True) ∧
 (∀ {H HH:AH} {σ:Nat→Nat→Option (Nat × Nat × Nat)} {D:Nat→Nat→Prop} {a b:List AV},RowV H HH σ D [a] [b]=VwL H HH σ D true a b) ∧
 (∀ {H HH:AH} {σ:Nat→Nat→Option (Nat × Nat × Nat)} {D:Nat→Nat→Prop} {t:Bool},VwL H HH σ D t [] []=True) ∧
 (∀ {H HH:AH} {σ:Nat→Nat→Option (Nat × Nat × Nat)} {D:Nat→Nat→Prop} {t:Bool} {a b:AV} {l m:List AV},VwL H HH σ D t (a::l) (b::m)=(Vw H HH σ D t a b∧VwL H HH σ D t l m)) ∧
 (∀ {H HH:AH} {σ:Nat→Nat→Option (Nat × Nat × Nat)} {D:Nat→Nat→Prop} {t:Bool} {k k':IntKind} {n m:Int},Vw H HH σ D t (.int k n) (.int k' m)=(k=k'∧n=m)) ∧
 (∀ {H HH:AH} {σ:Nat→Nat→Option (Nat × Nat × Nat)} {D:Nat→Nat→Prop} {t:Bool} {a b:Bool},Vw H HH σ D t (.bool a) (.bool b)=(a=b)) ∧
 (∀ {H HH:AH} {σ:Nat→Nat→Option (Nat × Nat × Nat)} {D:Nat→Nat→Prop} {r q g o n r' q' g' o' n':Nat},Vw H HH σ D true (.own r q g o n) (.own r' q' g' o' n')=((σ r' q'=some (r,q,g - g')∧g'≤g)∧o=o'∧n=n')) ∧
 (∀ {H HH:AH} {σ:Nat→Nat→Option (Nat × Nat × Nat)} {D:Nat→Nat→Prop} {r q g i f r' q' g' i' f':Nat},Vw H HH σ D true (.ptr r q g i f) (.ptr r' q' g' i' f')=((σ r' q'=some (r,q,g - g')∧g'≤g)∧i=i'∧f=f')) ∧
 (∀ {H HH:AH} {σ:Nat→Nat→Option (Nat × Nat × Nat)} {D:Nat→Nat→Prop} {t:Bool} {f f':Fn} {l m:List AV},Vw H HH σ D t (.fn f l) (.fn f' m)=(f=f'∧VwL H HH σ D t l m)) ∧
 (∀ {H HH:AH} {σ:Nat→Nat→Option (Nat × Nat × Nat)} {D:Nat→Nat→Prop} {t:Bool} {l m:List AV},Vw H HH σ D t (.agg l) (.agg m)=VwL H HH σ D t l m) ∧
 (∀ {H HH:AH} {σ:Nat→Nat→Option (Nat × Nat × Nat)} {D:Nat→Nat→Prop} {t:Bool} {l m:List AV},Vw H HH σ D t (.tup l) (.tup m)=VwL H HH σ D t l m) ∧
 (∀ {H HH:AH} {σ:Nat→Nat→Option (Nat × Nat × Nat)} {D:Nat→Nat→Prop} {r' q' g' o n:Nat},Vw H HH σ D true .nilsl (.own r' q' g' o n)=(σ r' q'=none∧(∃sz,HH.get r' q'=some (.row sz [] 0))∧g'=0∧o=0∧n=0)) ∧
 (∀ {H HH:AH} {σ:Nat→Nat→Option (Nat × Nat × Nat)} {D:Nat→Nat→Prop} {t:Bool} {a:AV},Vw H HH σ D t a .undef=True) ∧
 (∀ {H HH:AH} {σ:Nat→Nat→Option (Nat × Nat × Nat)} {D:Nat→Nat→Prop} {t:Bool},Vw H HH σ D t .nilsl .nilsl=True) ∧
 (∀ {H HH:AH} {σ:Nat→Nat→Option (Nat × Nat × Nat)} {D:Nat→Nat→Prop} {t:Bool},Vw H HH σ D t .nilfn .nilfn=True) ∧
 (∀ {H HH:AH} {σ:Nat→Nat→Option (Nat × Nat × Nat)} {D:Nat→Nat→Prop} {t:Bool},Vw H HH σ D t .nilp .nilp=True) ∧
 (∀ {H HH:AH} {σ:Nat→Nat→Option (Nat × Nat × Nat)} {D:Nat→Nat→Prop} {t:Bool},Vw H HH σ D t .cut .cut=True) ∧
 (∀ {H HH:AH} {σ:Nat→Nat→Option (Nat × Nat × Nat)} {D:Nat→Nat→Prop} {t:Bool} {s:ByteArray},Vw H HH σ D t (.str s) (.str s)=True) ∧
 (∀ {H HH:AH} {σ:Nat→Nat→Option (Nat × Nat × Nat)} {D:Nat→Nat→Prop} {t:Bool} {n:Nat} {c:Nat→AV},Vw H HH σ D t (.iptr n c) (.iptr n c)=True) ∧
 (∀ {H HH:AH} {σ:Nat→Nat→Option (Nat × Nat × Nat)} {D:Nat→Nat→Prop} {t:Bool} {sz n:Nat} {f:Nat→Nat→AV},Vw H HH σ D t (.sl sz n f) (.sl sz n f)=True) ∧
 (∀ {H HH:AH} {σ:Nat→Nat→Option (Nat × Nat × Nat)} {D:Nat→Nat→Prop} {t:Bool} {α:Type} {sz:Nat} {f:α→List AV} {l:List α},Vw H HH σ D t (encL sz f l) (encL sz f l)=True) ∧
 (∀ {H HH:AH} {σ:Nat→Nat→Option (Nat × Nat × Nat)} {D:Nat→Nat→Prop} {t:Bool} {α:Type} {sz:Nat} {f:α→List AV},Vw H HH σ D t .nilsl (encL sz f [])=True) ∧
 (∀ {r' q':Nat},Tab.sig [] r' q'=none) ∧
 (∀ {a b d r' q':Nat} {tb:Tab},Tab.sig ((a,b,d)::tb) r' q'=bif a == r' then some (b,q',d) else Tab.sig tb r' q') ∧
 (∀ {x:Nat},Tab.at [] x=none) ∧
 (∀ {a b d x:Nat} {tb:Tab},Tab.at ((a,b,d)::tb) x=bif a == x then some (b,d) else Tab.at tb x) ∧
 (∀ {ds:List Nat} {r q:Nat},inD ds r q=(memN ds r=true)):=by
 refine⟨rfl,rfl,rfl,ztw,rfl,rfl,rfl,zuW,zBK,zsU,zgZ,zfR,zgl,zjO,zkf,zjE,fun h=>eq_true (zO h),zFk,rfl,rfl,zAl,zv5,zzi,zzS,zBe,zy9,zAi,zzN,eq_true (.undef _ _),eq_true (.nilsl _),eq_true (.nilfn _),eq_true (.nilp _),eq_true (.cut _),eq_true (.str _ _),eq_true (.iptr _ _ _),eq_true (.sl _ _ _ _),eq_true (.sl _ _ _ _),eq_true vw_nil,zGj,zEg,at_nil,zA0,rfl⟩
def Tab.to (tb:Tab) (nx r:Nat):Nat:=match tb.at r with
 | some (r',_)=>r'
 | none=>nx+r
def AH.renL (ρ:Nat→Nat):AH→AH
 | []=>[]
 | (r,o)::t=>(ρ r,o.ren ρ)::AH.renL ρ t
def AH.cutL (olds:List Nat):AH→AH
 | []=>[]
 | (r,o)::t=>bif memN olds r then AH.cutL olds t else (r,o)::AH.cutL olds t
def AH.over (H:AH) (tb:Tab) (nx:Nat) (H0:AH):AH:=H.cutL (tb.map (·.2.1))++H0.renL (tb.to nx)
def Tab.plain (nx:Nat):Tab→Bool
 | []=>true
 | (r',r,d)::t=>Wc r nx&&Wa d 0 && !(memN (t.map (·.1)) r')&&Tab.plain nx t
theorem Tab.plain_at {nx:Nat}:∀ {t:Tab},t.plain nx=true→∀ {x r d},t.at x=some (r,d)→r < nx∧d=0
 | [],_,x,r,d,h=>by cases h
 |
  (r',r0,d0)::t,h,x,r,d,hx=>by
  simp only[Tab.plain,Wb] at h;obtain⟨⟨⟨h1,h2⟩,_⟩,h3⟩:=h;simp only[Tab.at] at hx
  cases hb:Wa r' x with
  | true=>rw[hb] at hx;cases hx;exact⟨by simpa [Wn] using h1,zl h2⟩
  | false=>rw[hb] at hx;exact Tab.plain_at h3 hx
theorem Tab.at_mem:∀ {t:Tab} {x r d},t.at x=some (r,d)→x∈t.map (·.1)∧r∈t.map (·.2.1)
 | [],x,r,d,h=>by cases h
 |
  (r',r0,d0)::t,x,r,d,h=>by
  simp only[Tab.at] at h
  cases hb:Wa r' x with
  | true=>rw[hb] at h;cases h;rw[←zl hb];simp
  |
   false =>
   rw[hb] at h;have:=Tab.at_mem h;exact⟨by simp only[Wo,Wm];exact .inr this.1,by simp only[Wo,Wm];exact .inr this.2⟩
theorem Tab.at_of_old {nx:Nat}:∀ {t:Tab},t.plain nx=true→∀ {r},r∈t.map (·.2.1)→∃x d,t.at x=some (r,d)
 | [],_,r,h=>by cases h
 |
  (r',r0,d0)::t,h,r,hr=>by
  simp only[Tab.plain,Wb,Ww] at h;obtain⟨⟨_,h2⟩,h3⟩:=h;simp only[Wo,Wm] at hr
  rcases hr with rfl|hr
  · exact⟨r',d0,by simp[Tab.at]⟩
  ·
   obtain⟨x,d,hx⟩:=Tab.at_of_old h3 hr;refine⟨x,d,?_⟩
   have:r'≠x:=fun e=>by have:=(zY _ _).2 (Tab.at_mem hx).1;rw[←e,h2] at this;cases this
   simp only[Tab.at];rw[zbJ this];exact hx
section
variable {tb:Tab} {nx nx0:Nat} {H H0:AH}
theorem Tab.to_inj (hok:tb.ok nx0 []=true) (hp:tb.plain nx=true) {x y:Nat} (h:tb.to nx x=tb.to nx y):x=y:=by
 unfold Tab.to at h
 cases hx:tb.at x with
 |
  none =>
  cases hy:tb.at y with
  | none=>rw[hx,hy] at h;simp only at h;omega
  | some p=>rw[hx,hy] at h;have:=(Tab.plain_at hp (d:=p.2) hy).1;simp only at h;omega
 |
  some p =>
  cases hy:tb.at y with
  | none=>rw[hx,hy] at h;have:=(Tab.plain_at hp (d:=p.2) hx).1;simp only at h;omega
  |
   some p' =>
   rw[hx,hy] at h;simp only at h;exact Tab.ok_inj hok (d:=p.2) (e:=p'.2) hx (by rw[hy,h])
theorem AH.look_append (A B:AH) (r:Nat):AH.look (A++B) r=match A.look r with
  | some o=>some o
  | none=>B.look r:=by
 induction A with
 | nil=>rfl
 |
  cons p t ih =>
  obtain⟨j,o⟩:=p;simp only[List.cons_append,AH.look,ih]
  cases Wa j r<;>rfl
theorem AH.look_cutL (l:List Nat) (H:AH) (r:Nat):(H.cutL l).look r=bif memN l r then none else H.look r:=by
 induction H with
 | nil=>simp only[AH.cutL,AH.look];cases memN l r<;>rfl
 |
  cons p t ih =>
  obtain⟨j,o⟩:=p;simp only[AH.cutL]
  cases hm:memN l j with
  |
   true =>
   simp only[cond_true,ih,AH.look]
   cases hb:Wa j r with
   | true=>rw[←zl hb,hm];rfl
   | false=>rfl
  |
   false =>
   simp only[cond_false,AH.look,ih]
   cases hb:Wa j r with
   | true=>rw[←zl hb,hm];rfl
   | false=>rfl
theorem AH.look_renL {ρ:Nat→Nat} (hρ:∀x y,ρ x=ρ y→x=y) (H:AH) (r:Nat):(H.renL ρ).look (ρ r)=(H.look r).map (AObj.ren ρ):=by
 induction H with
 | nil=>rfl
 |
  cons p t ih =>
  obtain⟨j,o⟩:=p;simp only[AH.renL,AH.look,ih]
  by_cases h:j=r
  · subst h;simp
  · rw[zbJ h,zbJ (fun e=>h (hρ _ _ e))];rfl
theorem AH.look_renL_no {ρ:Nat→Nat} (H:AH) (x:Nat) (hx:∀r,ρ r≠x):(H.renL ρ).look x=none:=by
 induction H with
 | nil=>rfl
 |
  cons p t ih =>
  obtain⟨j,o⟩:=p;simp only[AH.renL,AH.look,ih];rw[zbJ (hx j)];rfl
theorem AH.over_in (hok:tb.ok nx0 []=true) (hp:tb.plain nx=true) (hH:∀r o,H.look r=some o→r < nx) (r q:Nat) :
  (H.over tb nx H0).get (tb.to nx r) q=(H0.get r q).map (AObj.ren (tb.to nx)):=by
 unfold AH.get AH.over;rw[AH.look_append,AH.look_cutL,AH.look_renL (fun x y h=>Tab.to_inj hok hp h)]
 have:(bif memN (tb.map (·.2.1)) (tb.to nx r) then none else H.look (tb.to nx r))=none:=by
  unfold Tab.to
  cases hx:tb.at r with
  |
   some p =>
   simp only;rw[(zY _ _).2 (Tab.at_mem (d:=p.2) hx).2];rfl
  |
   none =>
   simp only
   cases hl:H.look (nx+r) with
   | none=>cases memN (tb.map (·.2.1)) (nx+r)<;>rfl
   | some o=>have:=hH _ _ hl;omega
 rw[this];simp only
 cases H0.look r with
 | none=>rfl
 | some o=>simp[AObj.part_ren]
theorem AH.over_out (r q:Nat) (hp:tb.plain nx=true) (hr:∀r0,tb.to nx r0≠r):(H.over tb nx H0).get r q=H.get r q:=by
 unfold AH.get AH.over;rw[AH.look_append,AH.look_cutL,AH.look_renL_no _ _ hr]
 have:memN (tb.map (·.2.1)) r=false:=by
  cases hm:memN (tb.map (·.2.1)) r with
  | false=>rfl
  |
   true =>
   obtain⟨x,d,hx⟩:=Tab.at_of_old hp ((zY _ _).1 hm);exact absurd (by unfold Tab.to;rw[hx]) (hr x)
 rw[this];simp only[cond_false]
 cases H.look r<;>rfl
theorem AH.over_lt (hok:tb.ok nx0 []=true) (hp:tb.plain nx=true) (hH:∀r o,H.look r=some o→r < nx) {nx':Nat} (h0:∀r o,H0.look r=some o→r < nx') (r:Nat) (o:AObj) (h:(H.over tb nx H0).look r=some o):r < nx+nx':=by
 unfold AH.over at h;rw[AH.look_append,AH.look_cutL] at h
 cases hl:H.look r with
 | some o'=>have:=hH _ _ hl;omega
 |
  none =>
  rw[hl] at h
  have h2:(H0.renL (tb.to nx)).look r=some o:=by cases hm:memN (tb.map (·.2.1)) r<;>rw[hm] at h<;>exact h
  by_cases hx:∃r0,tb.to nx r0=r
  ·
   obtain⟨r0,rfl⟩:=hx;rw[AH.look_renL (fun x y h=>Tab.to_inj hok hp h)] at h2;obtain⟨o1,h3,_⟩:=Wg.1 h2;have:=h0 _ _ h3;unfold Tab.to
   cases hx:tb.at r0 with
   | none=>simp only;omega
   | some p=>have:=(Tab.plain_at hp (d:=p.2) hx).1;simp only;omega
  · rw[AH.look_renL_no _ _ (fun r0 e=>hx ⟨r0,e⟩)] at h2;cases h2
theorem zBk {H H2 HH:AH} {σ:Nat→Nat→Option (Nat × Nat × Nat)} {t:Bool} {a b:AV} (h:Vw H HH σ (inD []) t a b):Vw H2 HH σ (inD []) t a b:=by
 induction h with
 | undef=>exact .undef _ _
 | int=>exact .int _ _ _
 | bool=>exact .bool _ _
 | str=>exact .str _ _
 | nilp=>exact .nilp _
 | nilfn=>exact .nilfn _
 | cut=>exact .cut _
 | mp=>exact .mp _ _ _ _ ‹_›
 | nilmp=>exact .nilmp _
 | it=>exact .it _ _ ‹_›
 | nilsl=>exact .nilsl _
 | iptr=>exact .iptr _ _ _
 | sl=>exact .sl _ _ _ _
 | nil0=>exact .nil0 _ _ _
 | slf _ _ _ _ _ _ ih=>exact .slf _ _ _ _ _ ih
 | iptrf _ _ _ _ _ ih=>exact .iptrf _ _ _ _ ih
 | own=>exact .own _ _ _ _ _ _ _ _ _ ‹_› ‹_›
 | ptr=>exact .ptr _ _ _ _ _ _ _ _ _ ‹_› ‹_›
 | new=>exact .new _ _ _ ‹_› ‹_›
 | frz=>rename_i hD _ _ _ _ _;cases hD
 | frzp=>rename_i hD _ _ _ _ _;cases hD
 | fn _ _ _ _ hl _ ih=>exact .fn _ _ _ _ hl ih
 | agg _ _ _ hl _ ih=>exact .agg _ _ _ hl ih
 | tup _ _ _ hl _ ih=>exact .tup _ _ _ hl ih
end
section
variable {P:Program} {L:Nat→Prop} {H H0 H':AH} {nx nx0 nx':Nat} {tb:Tab}
def othr (ι:Inj) (H:AH) (tb:Tab) (nx b:Nat):Prop:=∃r q sz els g l,(∀r0,tb.to nx r0≠r)∧H.get r q=some (.row sz els g)∧ι r q g=some l∧0 < l.cap * l.sz∧l.block=b
def AH.keepL (l:List Nat):AH→AH
 | []=>[]
 | (r,o)::t=>bif memN l r then (r,o)::AH.keepL l t else AH.keepL l t
theorem AH.look_keepL (l:List Nat) (H:AH) (r:Nat):(H.keepL l).look r=bif memN l r then H.look r else none:=by
 induction H with
 | nil=>simp only[AH.keepL,AH.look];cases memN l r<;>rfl
 |
  cons p t ih =>
  obtain⟨j,o⟩:=p;simp only[AH.keepL]
  cases hm:memN l j with
  |
   true =>
   simp only[cond_true,AH.look,ih]
   cases hb:Wa j r with
   | true=>rw[←zl hb,hm];rfl
   | false=>rfl
  |
   false =>
   simp only[cond_false,ih,AH.look]
   cases hb:Wa j r with
   | true=>rw[←zl hb,hm];rfl
   | false=>rfl
theorem AH.get_keepL (l:List Nat) (H:AH) (r q:Nat):(H.keepL l).get r q=bif memN l r then H.get r q else none:=by
 unfold AH.get;rw[AH.look_keepL]
 cases memN l r<;>rfl
theorem zFJ (hp:tb.plain nx=true) {r:Nat} (hr:r < nx):memN (tb.map (·.2.1)) r=true↔∃r0,tb.to nx r0=r:=by
 constructor
 · intro h;obtain⟨x,d,hx⟩:=Tab.at_of_old hp ((zY _ _).1 h);exact⟨x,by unfold Tab.to;rw[hx]⟩
 ·
  rintro⟨x,rfl⟩;unfold Tab.to at hr ⊢
  cases hx:tb.at x with
  | none=>rw[hx] at hr;simp only at hr;omega
  | some p=>exact(zY _ _).2 (Tab.at_mem (d:=p.2) hx).2
open Classical in
noncomputable def zkX (ι ι':Inj) (tb:Tab) (nx:Nat):Inj:=fun r q g=>if h:∃r0,tb.to nx r0=r then ι' h.choose q g else ι r q g
theorem zDv (hok:tb.ok nx0 []=true) (hp:tb.plain nx=true) (ι ι':Inj) (r q g:Nat):zkX ι ι' tb nx (tb.to nx r) q g=ι' r q g:=by unfold zkX;have h:∃r0,tb.to nx r0=tb.to nx r:=⟨r,rfl⟩;rw[dif_pos h,Tab.to_inj hok hp h.choose_spec]
theorem zCJ (ι ι':Inj) (r q g:Nat) (hr:∀r0,tb.to nx r0≠r):zkX ι ι' tb nx r q g=ι r q g:=by unfold zkX;rw[dif_neg (fun⟨r0,h⟩=>hr r0 h)]
variable {w w':World} {ι:Inj}
theorem zey (hp:tb.plain nx=true) (rel:RelH w L ι H nx) (b:Nat):live ι H b↔othr ι H tb nx b∨live ι (H.keepL (tb.map (·.2.1))) b:=by
 constructor
 ·
  rintro⟨r,q,sz,els,g,l,h1,h2,h3,rfl⟩;have hr:=rel.idx _ _ _ _ h2
  by_cases hx:∃r0,tb.to nx r0=r
  · refine .inr ⟨r,q,sz,els,g,l,?_,h2,h3,rfl⟩;rw[AH.get_keepL,(zFJ hp hr).2 hx];exact h1
  · exact .inl ⟨r,q,sz,els,g,l,fun r0 e=>hx ⟨r0,e⟩,h1,h2,h3,rfl⟩
 ·
  rintro(⟨r,q,sz,els,g,l,_,h1,h2,h3,rfl⟩ | ⟨r,q,sz,els,g,l,h1,h2,h3,rfl⟩)
  · exact⟨r,q,sz,els,g,l,h1,h2,h3,rfl⟩
  ·
   rw[AH.get_keepL] at h1
   cases hm:memN (tb.map (·.2.1)) r with
   | false=>rw[hm] at h1;cases h1
   | true=>rw[hm] at h1;exact⟨r,q,sz,els,g,l,h1,h2,h3,rfl⟩
theorem RelH.keep (hp:tb.plain nx=true) (rel:RelH w L ι H nx) :
  (∀b,Lt (fun b=>L b∨othr ι H tb nx b) ι (H.keepL (tb.map (·.2.1))) b↔Lt L ι H b)∧RelH w (fun b=>L b∨othr ι H tb nx b) ι (H.keepL (tb.map (·.2.1))) nx:=by
 have hlt:∀b,Lt (fun b=>L b∨othr ι H tb nx b) ι (H.keepL (tb.map (·.2.1))) b↔Lt L ι H b:=by intro b;simp only[Lt,zey hp rel b,or_assoc]
 have hget:∀ {r q o},(H.keepL (tb.map (·.2.1))).get r q=some o→H.get r q=some o∧memN (tb.map (·.2.1)) r=true:=by
  intro r q o h;rw[AH.get_keepL] at h
  cases hm:memN (tb.map (·.2.1)) r with
  | false=>rw[hm] at h;cases h
  | true=>rw[hm] at h;exact⟨h,rfl⟩
 refine⟨hlt,fun r q sz els g h=>?_,fun r1 q1 r2 q2 s1 e1 g1 l1 s2 e2 g2 l2 h1 h2=>rel.apart _ _ _ _ _ _ _ _ _ _ _ _ (hget h1).1 (hget h2).1,fun b hb hL=>?_,rel.idx,fun r o h=>?_,fun r q sz els g h=>rel.gen _ _ _ _ _ (hget h).1,fun b hb=>?_⟩
 ·
  have:Lt (fun b=>L b∨othr ι H tb nx b) ι (H.keepL (tb.map (·.2.1)))=Lt L ι H:=by funext b;exact propext (hlt b)
  rw[this];exact rel.row _ _ _ _ _ (hget h).1
 ·
  rcases hL with hL | ⟨r,q,sz,els,g,l,h1,h2,h3,h4,h5⟩
  · exact rel.out b ((zey hp rel b).2 (.inr hb)) hL
  · obtain⟨r',q',sz',els',g',l',k1,k2,k3,k4⟩:=hb;obtain⟨k1,k5⟩:=hget k1;obtain⟨rfl,rfl⟩:=rel.apart _ _ _ _ _ _ _ _ _ _ _ _ h2 k1 h3 k2 h4 k3 (h5.trans k4.symm);obtain⟨r0,e⟩:=(zFJ hp (rel.idx _ _ _ _ h3)).1 k5;exact h1 r0 e
 ·
  rw[AH.look_keepL] at h
  cases hm:memN (tb.map (·.2.1)) r with
  | false=>rw[hm] at h;cases h
  | true=>rw[hm] at h;exact rel.dom _ _ h
 ·
  rcases hb with hb|hb
  · exact rel.Lsz b hb
  · exact rel.live_lt ((zey hp rel b).2 (.inl hb))
theorem Step.over (hok:tb.ok nx0 []=true) (hp:tb.plain nx=true) (rel:RelH w L ι H nx) {ι0 ι':Inj} (h0:∀r q g l,ι (tb.to nx r) q g=some l→tb.at r≠none→ι0 r q g=some l)
  (hl0:∀b,live ι0 H0 b→live ι (H.keepL (tb.map (·.2.1))) b) (st:Step w (fun b=>L b∨othr ι H tb nx b) ι0 H0 nx0 w' ι' H' nx') :
  Step w L ι H nx w' (zkX ι ι' tb nx) (H.over tb nx H') (nx+nx')∧∀v a,VR w' (Lt (fun b=>L b∨othr ι H tb nx b) ι' H') ι' v a→VR w' (Lt L (zkX ι ι' tb nx) (H.over tb nx H')) (zkX ι ι' tb nx) v (a.ren (tb.to nx)):=by
 have hin:=fun r q=>AH.over_in (H0:=H') hok hp rel.dom r q
 have hout:=fun r q hr=>AH.over_out (H:=H) (H0:=H') r q hp hr
 have iin:=zDv hok hp ι ι'
 have iout:=fun r q g hr=>zCJ (tb:=tb) (nx:=nx) ι ι' r q g hr
 have hlive:∀b,live (zkX ι ι' tb nx) (H.over tb nx H') b↔live ι' H' b∨othr ι H tb nx b:=by
  intro b;constructor
  ·
   rintro⟨r,q,sz,els,g,l,h1,h2,h3,rfl⟩
   by_cases hx:∃r0,tb.to nx r0=r
   ·
    obtain⟨r0,rfl⟩:=hx;rw[hin] at h1;rw[iin] at h2;obtain⟨o,h4,h5⟩:=Wg.1 h1
    cases o with
    | fam _ _=>cases h5
    | row sz0 els0 g0=>cases h5;exact .inl ⟨_,_,_,_,_,_,h4,h2,h3,rfl⟩
   ·
    have hr:∀r0,tb.to nx r0≠r:=fun r0 e=>hx ⟨r0,e⟩
    rw[hout r q hr] at h1;rw[iout r q g hr] at h2;exact .inr ⟨r,q,sz,els,g,l,hr,h1,h2,h3,rfl⟩
  ·
   rintro(⟨r,q,sz,els,g,l,h1,h2,h3,rfl⟩ | ⟨r,q,sz,els,g,l,hr,h1,h2,h3,rfl⟩)
   · exact⟨tb.to nx r,q,sz,_,g,l,by rw[hin,h1];rfl,by rw[iin];exact h2,h3,rfl⟩
   · exact⟨r,q,sz,els,g,l,by rw[hout r q hr];exact h1,by rw[iout r q g hr];exact h2,h3,rfl⟩
 have hLt:Lt L (zkX ι ι' tb nx) (H.over tb nx H')=Lt (fun b=>L b∨othr ι H tb nx b) ι' H':=by
  funext b
  apply propext;simp only[Lt,hlive];constructor
  ·
   rintro(h|h|h)
   · exact .inl (.inl h)
   · exact .inr h
   · exact .inl (.inr h)
  ·
   rintro((h|h)|h)
   · exact .inl h
   · exact .inr (.inr h)
   · exact .inr (.inl h)
 have hold0:∀b,live ι0 H0 b→live ι H b:=fun b hb=>(zey hp rel b).2 (.inr (hl0 b hb))
 have hsame:∀b,b < w.heap.size→¬live ι0 H0 b→w'.heap[b]? = w.heap[b]? := st.ext.block
 have inj:∀r q g l,ι r q g=some l→zkX ι ι' tb nx r q g=some l:=by
  intro r q g l h
  by_cases hx:∃r0,tb.to nx r0=r
  · obtain⟨r0,rfl⟩:=hx;rw[iin];refine st.inj _ _ _ _ (h0 _ _ _ _ h fun hn=>?_);have:=rel.idx _ _ _ _ h;unfold Tab.to at this;rw[hn] at this;simp only at this;omega
  · rw[iout r q g (fun r0 e=>hx ⟨r0,e⟩)];exact h
 have hnew:∀ {v a},VR w' (Lt (fun b=>L b∨othr ι H tb nx b) ι' H') ι' v a→VR w' (Lt L (zkX ι ι' tb nx) (H.over tb nx H')) (zkX ι ι' tb nx) v (a.ren (tb.to nx)):=by intro v a h;rw[hLt];exact h.ren (fun r q g l h=>by rw[iin];exact h)
 have hold:∀ {v a},VR w (Lt L ι H) ι v a→VR w' (Lt L (zkX ι ι' tb nx) (H.over tb nx H')) (zkX ι ι' tb nx) v a:=by
  intro v a h;refine h.mono (fun b hb hn=>⟨hsame b hb fun h'=>hn (.inr (hold0 b h')),fun h'=>?_⟩) inj;rw[hLt] at h'
  rcases h' with (h' | h')|h'
  · exact hn (.inl h')
  · exact hn (.inr ((zey hp rel b).2 (.inl h')))
  ·
   rcases st.lv b h' with h' | h'
   · exact hn (.inr (hold0 b h'))
   · omega
 have oth_no:∀b,othr ι H tb nx b→¬live ι0 H0 b:=fun b h1 h2=>(rel.keep hp).2.out b (hl0 b h2) (.inr h1)
 have lv:∀b,live (zkX ι ι' tb nx) (H.over tb nx H') b→live ι H b∨w.heap.size≤b:=by
  intro b hb
  rcases(hlive b).1 hb with hb|hb
  ·
   rcases st.lv b hb with hb|hb
   · exact .inl (hold0 b hb)
   · exact .inr hb
  · exact .inl ((zey hp rel b).2 (.inl hb))
 refine⟨⟨⟨st.ext.os,st.ext.tape,st.ext.output,st.ext.size,fun b hb hn=>hsame b hb fun h=>hn (hold0 b h)⟩,inj,?_,lv⟩,fun v a h=>hnew h⟩;constructor
 ·
  intro r q sz els g h
  by_cases hx:∃r0,tb.to nx r0=r
  ·
   obtain⟨r0,rfl⟩:=hx;rw[hin] at h;obtain⟨o,h4,h5⟩:=Wg.1 h
   cases o with
   | fam _ _=>cases h5
   |
    row sz0 els0 g0 =>
    cases h5;obtain⟨l,h1,ok⟩:=st.rel.row _ _ _ _ _ h4;refine⟨l,by rw[iin];exact h1,ok.view (fun _=>rfl) (by simp) (fun i c hi=>?_)⟩;rw[Wi] at hi;obtain⟨c0,h2,rfl⟩:=Wg.1 hi;refine⟨c0,h2,by simp,fun j a a' hj hj' v hv=>?_⟩;rw[Wi,hj] at hj';cases hj';exact hnew hv
  ·
   have hr:∀r0,tb.to nx r0≠r:=fun r0 e=>hx ⟨r0,e⟩
   rw[hout r q hr] at h;obtain⟨l,h1,ok⟩:=rel.row _ _ _ _ _ h;exact⟨l,by rw[iout r q g hr];exact h1,ok.trans (fun hp=>hsame _ (ok.blk_lt hp) (oth_no _ ⟨r,q,sz,els,g,l,hr,h,h1,hp,rfl⟩)) (fun v a hv=>hold hv)⟩
 ·
  intro r1 q1 r2 q2 s1 e1 g1 l1 s2 e2 g2 l2 h1 h2 h3 h4 h5 h6 h7
  have key:∀r q s e g l,(H.over tb nx H').get r q=some (.row s e g)→zkX ι ι' tb nx r q g=some l→0 < l.cap * l.sz →
    (∃r0 e0,tb.to nx r0=r∧H'.get r0 q=some (.row s e0 g)∧ι' r0 q g=some l)∨((∀r0,tb.to nx r0≠r)∧H.get r q=some (.row s e g)∧ι r q g=some l):=by
   intro r q s e g l a1 a2 a3
   by_cases hx:∃r0,tb.to nx r0=r
   ·
    obtain⟨r0,rfl⟩:=hx;rw[hin] at a1;rw[iin] at a2;obtain⟨o,a4,a5⟩:=Wg.1 a1
    cases o with
    | fam _ _=>cases a5
    | row sz0 els0 g0=>cases a5;exact .inl ⟨r0,_,rfl,a4,a2⟩
   ·
    have hr:∀r0,tb.to nx r0≠r:=fun r0 e=>hx ⟨r0,e⟩
    rw[hout r q hr] at a1;rw[iout r q g hr] at a2;exact .inr ⟨hr,a1,a2⟩
  have cross:∀ {r q s e g l r' q' s' e' g' l'},H'.get r q=some (.row s e g)→ι' r q g=some l→0 < l.cap * l.sz→(∀r0,tb.to nx r0≠r')→H.get r' q'=some (.row s' e' g')→ι r' q' g'=some l'→0 < l'.cap * l'.sz→l.block=l'.block→False:=by intro r q s e g l r' q' s' e' g' l' a1 a2 a3 b0 b1 b2 b3 b4;exact st.rel.out l.block ⟨_,_,_,_,_,_,a1,a2,a3,rfl⟩ (.inr ⟨_,_,_,_,_,_,b0,b1,b2,b3,b4.symm⟩)
  rcases key _ _ _ _ _ _ h1 h3 h5 with ⟨x,ex,rfl,a1,a2⟩ | ⟨a0,a1,a2⟩
  ·
   rcases key _ _ _ _ _ _ h2 h4 h6 with ⟨y,ey,rfl,b1,b2⟩ | ⟨b0,b1,b2⟩
   · obtain⟨rfl,rfl⟩:=st.rel.apart _ _ _ _ _ _ _ _ _ _ _ _ a1 b1 a2 b2 h5 h6 h7;exact⟨rfl,rfl⟩
   · exact(cross a1 a2 h5 b0 b1 b2 h6 h7).elim
  ·
   rcases key _ _ _ _ _ _ h2 h4 h6 with ⟨y,ey,rfl,b1,b2⟩ | ⟨b0,b1,b2⟩
   · exact(cross b1 b2 h6 a0 a1 a2 h5 h7.symm).elim
   · exact rel.apart _ _ _ _ _ _ _ _ _ _ _ _ a1 b1 a2 b2 h5 h6 h7
 ·
  intro b hb hL
  rcases(hlive b).1 hb with hb|hb
  · exact st.rel.out b hb (.inl hL)
  · exact rel.out b ((zey hp rel b).2 (.inl hb)) hL
 ·
  intro r q g l h
  by_cases hx:∃r0,tb.to nx r0=r
  ·
   obtain⟨r0,rfl⟩:=hx;rw[iin] at h;have:=st.rel.idx _ _ _ _ h;unfold Tab.to
   cases hx:tb.at r0 with
   | none=>simp only;omega
   | some p=>have:=(Tab.plain_at hp (d:=p.2) hx).1;simp only;omega
  · rw[iout r q g (fun r0 e=>hx ⟨r0,e⟩)] at h;have:=rel.idx _ _ _ _ h;omega
 · exact fun r o h=>AH.over_lt hok hp rel.dom st.rel.dom r o h
 ·
  intro r q sz els g h g2 l h2
  by_cases hx:∃r0,tb.to nx r0=r
  ·
   obtain⟨r0,rfl⟩:=hx;rw[hin] at h;rw[iin] at h2;obtain⟨o,h4,h5⟩:=Wg.1 h
   cases o with
   | fam _ _=>cases h5
   | row sz0 els0 g0=>cases h5;exact st.rel.gen _ _ _ _ _ h4 _ _ h2
  ·
   have hr:∀r0,tb.to nx r0≠r:=fun r0 e=>hx ⟨r0,e⟩
   rw[hout r q hr] at h;rw[iout r q g2 hr] at h2;exact rel.gen _ _ _ _ _ h _ _ h2
 · intro b hb;exact Nat.lt_of_lt_of_le (rel.Lsz b hb) st.ext.size
theorem z6 {f:FuncId} {asv bs:List AV} {Post k:AV→AH→Nat→Prop} (tb:Tab) (nx0:Nat) (H0:AH) (h:zab P f bs H0 nx0 Post) (hok:tb.ok nx0 []=true) (hp:tb.plain nx=true)
  (hr:zkk H H0 tb [] nx0 H0) (ha:VwL H H0 tb.sig (inD []) true asv bs) (hk:∀v H' nx',Post v H' nx'→k (v.ren (tb.to nx)) (H.over tb nx H') (nx+nx')):zab P f asv H nx k:=by
 intro w L ι vs rel hv;obtain⟨hlt,relS⟩:=rel.keep hp (L:=L)
 have hltE:Lt (fun b=>L b∨othr ι H tb nx b) ι (H.keepL (tb.map (·.2.1)))=Lt L ι H:=by funext b;exact propext (hlt b)
 have hsig:∀ {r' q' r q d},tb.sig r' q'=some (r,q,d)→tb.at r'=some (r,d)∧q=q'∧d=0:=by
  intro r' q' r q d h;unfold Tab.sig at h
  cases e1:tb.at r' with
  | none=>rw[e1] at h;cases h
  |
   some p1 =>
   rw[e1] at h;simp only[Wh,Wx] at h;obtain⟨rfl,rfl,rfl⟩:=h;exact⟨rfl,rfl,(Tab.plain_at hp (d:=p1.2) e1).2⟩
 have vw:View 0 (H.keepL (tb.map (·.2.1))) H0 nx0 tb.sig (inD []):=by
  refine⟨Nat.zero_le _,fun r q h=>absurd h (Nat.not_lt_zero _),?_,fun _ _ _ _ _ _ h=>(by cases h),?_,zmC hr,fun r' q' sz els2 g2 h2=>?_⟩
  · intro r1 q1 r2 q2 r q d1 d2 h1 h2;obtain⟨a1,a2,_⟩:=hsig h1;obtain⟨b1,b2,_⟩:=hsig h2;exact⟨Tab.ok_inj hok a1 b1,by rw[←a2,←b2]⟩
  ·
   intro r' q' x h;unfold Tab.sig at h
   cases e1:tb.at r' with
   | none=>rw[e1] at h;cases h
   | some p1=>exact(Tab.ok_at hok (d:=p1.2) e1).1
  ·
   rcases zmr hr r' q' sz els2 g2 h2 with ⟨r,q,d,els,a1,a2,a3⟩|h3
   ·
    refine .inl ⟨r,q,d,els,a1,?_,a3.1,fun i c2 hi=>?_⟩
    · rw[AH.get_keepL,(zY _ _).2 (Tab.at_mem (d:=d) (hsig a1).1).2];exact a2
    · obtain⟨c,hc,hl,hv⟩:=a3.2 i c2 hi;exact⟨c,hc,hl,fun j a b ha hb=>zBk (hv j a b ha hb)⟩
   · exact .inr h3
 have args:∀ {asv bs:List AV} {us:List Value},VwL H H0 tb.sig (inD []) true asv bs→VRs w (Lt L ι H) ι us asv→VRs w (Lt (fun b=>L b∨othr ι H tb nx b) (zbI H0 tb.sig ι) H0) (zbI H0 tb.sig ι) us bs:=by
  intro asv bs us h hv
  induction hv generalizing bs with
  |
   nil =>
   cases bs with
   | nil=>exact .nil
   | cons b bs=>exact h.elim
  |
   cons h1 _ ih =>
   cases bs with
   | nil=>exact h.elim
   |
    cons b bs =>
    refine .cons ?_ (ih h.2);rw[←hltE] at h1;exact vw.vr relS (zBk h.1) h1
 refine(h w _ _ vs (vw.rel relS) (args ha hv)).mono fun e w' ⟨v,ι',H',nx',a,h3,h4,_,h6,h7⟩=>?_
 have hi:∀r q g l,ι (tb.to nx r) q g=some l→tb.at r≠none→zbI H0 tb.sig ι r q g=some l:=by
  intro r q g l h hn;unfold zbI Tab.sig;unfold Tab.to at h
  cases e1:tb.at r with
  | none=>exact absurd e1 hn
  |
   some p =>
   rw[e1] at h;have:=(Tab.plain_at hp (d:=p.2) e1).2;simp only[this];exact h
 obtain⟨h8,h9⟩:=Step.over hok hp rel hi (fun b hb=>vw.lv hb) h4;exact⟨v,_,_,_,_,h3,h8,Nat.le_add_right _ _,h9 v a h6,hk _ _ _ h7⟩
end
theorem zpp {ρ:Nat→Nat} {a:AV} (h:a.flat0=true):a.ren ρ=a:=by
 cases a<;>first | (cases h;done)|simp[AV.ren]
theorem zpb {ρ:Nat→Nat}:∀ {l:List AV},zM l=true→l.map (AV.ren ρ)=l
 | [],_=>rfl
 |
  a::l,h=>by
  simp only[zM,Wb] at h;rw[Wo,zpp h.1,zpb h.2]
theorem zg0 {ρ:Nat→Nat} {els:List (List AV)} (h:zy els):els.map (fun c=>c.map (AV.ren ρ))=els:=by
 conv=>rhs;rw[←List.map_id els]
 exact WF fun c hc=>zpb (h c hc)
theorem to_nil {nx r:Nat}:Tab.to [] nx r=nx+r:=rfl
theorem zGr {a b d nx r:Nat} {tb:Tab}:Tab.to ((a,b,d)::tb) nx r=bif a == r then b else Tab.to tb nx r:=by
 unfold Tab.to;rw[zA0]
 cases a == r<;>rfl
theorem evZ :
 (∀ {nx r:Nat},Tab.to [] nx r=nx+r)∧(∀ {a b d nx r:Nat} {tb:Tab},Tab.to ((a,b,d)::tb) nx r=bif a == r then b else Tab.to tb nx r) ∧
 (∀ {H H0:AH} {tb:Tab} {nx:Nat},H.over tb nx H0=H.cutL (tb.map (·.2.1))++H0.renL (tb.to nx)) ∧
 (∀ {l:List Nat},AH.cutL l []=[])∧(∀ {l:List Nat} {r:Nat} {o:AObj} {t:AH},AH.cutL l ((r,o)::t)=bif memN l r then AH.cutL l t else (r,o)::AH.cutL l t) ∧
 (∀ {ρ:Nat→Nat},AH.renL ρ []=[])∧(∀ {ρ:Nat→Nat} {r:Nat} {o:AObj} {t:AH},AH.renL ρ ((r,o)::t)=(ρ r,o.ren ρ)::AH.renL ρ t) ∧
 (∀ {ρ:Nat→Nat} {sz g:Nat} {els:List (List AV)},zy els→AObj.ren ρ (.row sz els g)=.row sz els g) ∧
 (∀ {ρ:Nat→Nat} {sz g:Nat} {c:List AV},AObj.ren ρ (.row sz [c] g)=.row sz [c.map (AV.ren ρ)] g) ∧
 (∀ {ρ:Nat→Nat} {a:AV},a.flat0=true→AV.ren ρ a=a) ∧
 (∀ {ρ:Nat→Nat} {r q g o n:Nat},AV.ren ρ (.own r q g o n)=.own (ρ r) q g o n)∧(∀ {ρ:Nat→Nat} {r q g o n:Nat},AV.ren ρ (.ptr r q g o n)=.ptr (ρ r) q g o n) ∧
 (∀ {ρ:Nat→Nat} {l:List AV},AV.ren ρ (.agg l)=.agg (l.map (AV.ren ρ)))∧(∀ {ρ:Nat→Nat} {l:List AV},AV.ren ρ (.tup l)=.tup (l.map (AV.ren ρ))) ∧
 (∀ {ρ:Nat→Nat} {f:Fn} {l:List AV},AV.ren ρ (.fn f l)=.fn f (l.map (AV.ren ρ))) ∧
 (∀ {α β:Type} {f:α→β},List.map f []=[])∧(∀ {α β:Type} {f:α→β} {a:α} {l:List α},List.map f (a::l)=f a::List.map f l) ∧
 (zy []=True)∧(∀ {c:List AV} {l:List (List AV)},zy (c::l)=(zM c=true∧zy l))∧(∀ {l m:List (List AV)},zy (l++m)=(zy l∧zy m)) ∧
 (∀ {α:Type} {f:α→List AV} {l:List α},zy (l.map f)=∀a∈l,zM (f a)=true)∧(∀ {n:Nat} {c:List AV},zM c=true→zy (Wf n c)=True) ∧
 (∀ {l:List (List AV)} {i:Nat} {c:List AV},zM c=true→zy l→zy (l.set i c)=True):=by
 refine⟨to_nil,zGr,rfl,rfl,rfl,rfl,rfl,fun h=>?_,rfl,zpp,?_,?_,?_,?_,?_,rfl,rfl,zgZ,zfR,zgl,zjO,zkf,zjE⟩
 · simp only[AObj.ren];exact congrArg (fun e=>AObj.row _ e _) (zg0 h)
 all_goals (intros;simp[AV.ren])
theorem evF :
 (zy []=True)∧(∀ {c:List AV} {l:List (List AV)},zy (c::l)=(zM c=true∧zy l))∧(∀ {l m:List (List AV)},zy (l++m)=(zy l∧zy m)) ∧
 (∀ {α:Type} {f:α→List AV} {l:List α},zy (l.map f)=∀a∈l,zM (f a)=true)∧(∀ {n:Nat} {c:List AV},zM c=true→zy (Wf n c)=True) ∧
 (∀ {l:List (List AV)} {i:Nat} {c:List AV},zM c=true→zy l→zy (l.set i c)=True) :=
 ⟨zgZ,zfR,zgl,zjO,zkf,zjE⟩
def Tab.idB (t:Tab):Nat→Bool
 | 0=>true
 |
  B+1=>(match t.at B with
  | some (r,d)=>Wa r B&&Wa d 0
  | none=>false)&&Tab.idB t B
theorem Tab.idB_at {t:Tab}:∀ {B:Nat},t.idB B=true→∀r,r < B→t.at r=some (r,0)
 | 0,_,r,h=>absurd h (Nat.not_lt_zero _)
 |
  B+1,hb,r,h=>by
  simp only[Tab.idB,Wb] at hb
  by_cases e:r=B
  ·
   subst e
   cases hx:t.at r with
   | none=>rw[hx] at hb;simp at hb
   |
    some p =>
    obtain⟨a,d⟩:=p;rw[hx] at hb;simp only[Wb] at hb;rw[zl hb.1.1,zl hb.1.2]
  · exact Tab.idB_at hb.2 r (by omega)
theorem Ent.tabB {B:Nat} {K K2:Kn} {H H2:AH} {nx nx2:Nat} (t:Tab) (ds:List Nat) (hB:Wd B nx2=true) (hid:t.idB B=true) (hok:t.ok nx2 ds=true) (hr:zkk H H2 t ds nx2 H2) (hK:zof H H2 t ds K2 K):Ent B K H nx K2 H2 nx2:=by
 refine Ent.view t.sig (inD ds) ⟨Wp hB,fun r q h=>?_,?_,?_,?_,zmC hr,zmr hr⟩ (znx hK)
 · unfold Tab.sig;rw[Tab.idB_at hid r h]
 ·
  intro r1 q1 r2 q2 r q d1 d2 h1 h2;unfold Tab.sig at h1 h2
  cases e1:t.at r1 with
  | none=>rw[e1] at h1;cases h1
  |
   some p1 =>
   cases e2:t.at r2 with
   | none=>rw[e2] at h2;cases h2
   |
    some p2 =>
    rw[e1] at h1;rw[e2] at h2;simp only[Wh,Wx] at h1 h2;obtain⟨rfl,rfl,rfl⟩:=h1;obtain⟨h3,rfl,rfl⟩:=h2;refine⟨Tab.ok_inj hok (d:=p1.2) (e:=p2.2) e1 ?_,rfl⟩;rw[e2,←h3]
 ·
  intro r' q' r q d h;unfold Tab.sig at h
  cases e1:t.at r' with
  | none=>rw[e1] at h;cases h
  |
   some p1 =>
   rw[e1] at h;simp only[Wh,Wx] at h;obtain⟨rfl,_,rfl⟩:=h;have:=(Tab.ok_at hok (d:=p1.2) e1).2.1;unfold inD;rw[this];exact Bool.false_ne_true
 ·
  intro r' q' x h;unfold Tab.sig at h
  cases e1:t.at r' with
  | none=>rw[e1] at h;cases h
  | some p1=>exact(Tab.ok_at hok (d:=p1.2) e1).1
def zgg (B:Nat) (Q:AV→AH→Nat→Prop) (v:AV) (H:AH) (nx:Nat):Prop:=∃v2 H2 nx2,Ent B [(0,v)] H nx [(0,v2)] H2 nx2∧Q v2 H2 nx2
theorem zbc {P:Program} {f:FuncId} {args:List AV} {H:AH} {nx:Nat} {Q:AV→AH→Nat→Prop} (h:zab P f args H nx (zgg nx Q)):zab P f args H nx Q:=by
 intro w L ι vs rel hv
 refine(h w L ι vs rel hv).mono fun e w' ⟨v,ι',H',nx',a,h1,st,h3,h4,v2,H2,nx2,⟨h5,h6⟩,h7⟩=>?_
 obtain⟨ι2,r1,r2,r3,r4⟩:=h6 w' L ι' #[v] st.rel (fun i=>by
  cases i with
  | zero=>exact h4
  | succ i=>exact .undef _ _)
 exact⟨v,ι2,H2,nx2,v2,h1,⟨st.ext,fun r q g l hl=>r4 r q g l (rel.idx _ _ _ _ hl) (st.inj _ _ _ _ hl),r1,fun b hb=>st.lv b (r3 b hb)⟩,h5,r2 0,h7⟩
section
variable {α:Type} {c:α→List AV} {sz:Nat}
def fe (F n:Nat) (ll:Nat→List α) (gs:Nat→Nat):List (List AV):=(Wj n).map fun i=>[.own F (i+1) (gs i) 0 (ll i).length]
def fi (c:α→List AV) (n:Nat) (ll:Nat→List α) (gs:Nat→Nat):List (List (List AV) × Nat):=(Wj n).map fun i=>((ll i).map c,gs i)
def updF {β:Type} (f:Nat→β) (k:Nat) (v:β):Nat→β:=fun i=>if i=k then v else f i
theorem zjp {β:Type} {f:Nat→β} {k:Nat} {v:β}:updF f k v k=v:=by simp[updF]
theorem zFR {F n:Nat} {ll:Nat→List α} {gs:Nat→Nat}:(fe F n ll gs).length=n:=by simp[fe]
theorem zp0 {n k:Nat} {ll:Nat→List α} {gs:Nat→Nat} (h:k < n):(fi c n ll gs)[k]? = some ((ll k).map c,gs k):=by simp[fi,h]
theorem zfX {β:Type} {f:Nat→β} {n k:Nat} {v:β}:((Wj n).map f).set k v=(Wj n).map (updF f k v):=by
 apply List.ext_getElem?;intro i;rw[List.getElem?_set]
 by_cases hk:k=i
 ·
  subst hk
  by_cases hn:k < n
  · simp[hn,updF]
  · simp[hn]
 ·
  rw[if_neg hk];simp only[Wi]
  by_cases hn:i < n
  · simp[hn,updF,Ne.symm hk]
  · simp[hn]
theorem fi_set {n k g:Nat} {ll:Nat→List α} {gs:Nat→Nat} {l:List α}:(fi c n ll gs).set k (l.map c,g)=fi c n (updF ll k l) (updF gs k g):=by
 unfold fi;rw[zfX]
 refine WF fun i hi=>?_
 unfold updF
 split<;>rfl
theorem ztr {n k:Nat} {ll:Nat→List α} {gs:Nat→Nat}:(fi c n ll gs)[k]? = if k < n then some ((ll k).map c,gs k) else none:=by
 split
 · exact zp0 ‹_›
 · simp[fi];omega
variable {H HH:AH} {σ:Nat→Nat→Option (Nat × Nat × Nat)} {D:Nat→Nat→Prop} {t:Bool}
theorem zhs {F F' n:Nat} {ll:Nat→List α} {gs:Nat→Nat} (h:∀i,σ F' (i+1)=some (F,i+1,0)):RowV H HH σ D (fe F n ll gs) (fe F' n ll gs):=by
 refine⟨by simp[zFR],fun i c2 hi=>?_⟩;unfold fe at hi ⊢;simp only[Wi,Wg] at hi ⊢;obtain⟨k,hk,rfl⟩:=hi;refine⟨_,⟨k,hk,rfl⟩,rfl,fun j x y h1 h2=>?_⟩
 cases j with
 | succ j=>cases h1
 |
  zero =>
  cases h1;cases h2;exact .own _ _ _ 0 _ _ _ _ _ (h k) rfl
theorem zwb {F' n:Nat} (h:∀i,σ F' (i+1)=none) (hg:∀i,i < n→∃sz,HH.get F' (i+1)=some (.row sz [] 0)):RowV H HH σ D (Wf n [.nilsl]) (fe (α:=α) F' n (fun _=>[]) (fun _=>0)):=by
 refine⟨by simp[zFR],fun i c2 hi=>?_⟩;unfold fe at hi;simp only[Wi,Wg] at hi;obtain⟨k,hk,rfl⟩:=hi;obtain⟨hkl,rfl⟩:=Wv.1 hk;simp at hkl;refine⟨[.nilsl],by simp[hkl],rfl,fun j x y h1 h2=>?_⟩
 cases j with
 | succ j=>cases h1
 |
  zero =>
  cases h1;cases h2;simp only[List.getElem_range,List.length_nil];obtain⟨s,hs⟩:=hg i hkl;exact .new _ _ s (h i) hs
theorem zBq {F n:Nat} {ll:Nat→List α} {gs:Nat→Nat} (h:HH.look F=some (.fam sz (fi c n ll gs))) {i:Nat} (hi:i < n):HH.get F (i+1)=some (.row sz ((ll i).map c) (gs i)):=by unfold AH.get;rw[h];simp only[Option.bind_some,AObj.part,zp0 hi,Option.map_some]
theorem ztc {F' n:Nat} (h:∀i,σ F' (i+1)=none) (hF:HH.look F'=some (.fam sz (fi c n (fun _=>[]) (fun _=>0)))):RowV H HH σ D (Wf n [.nilsl]) (fe (α:=α) F' n (fun _=>[]) (fun _=>0)) :=
 zwb h (fun i hi=>⟨sz,zBq hF hi⟩)
def famIs (sz:Nat) (c:α→List AV) (n:Nat) (ll:Nat→List α) (gs:Nat→Nat) (d:Nat) (o:Option AObj):Prop:=o=some (.fam sz (fi c n ll gs))∧d=0
def famAt (H:AH) (sz:Nat) (c:α→List AV) (n:Nat) (ll:Nat→List α) (gs:Nat→Nat):Option (Nat × Nat)→Prop
 | some (r,d)=>famIs sz c n ll gs d (H.look r)
 | none=>∀i,i < n→ll i=[]∧gs i=0
theorem zL {tb:Tab} {ds:List Nat} {n r' m:Nat} {ll:Nat→List α} {gs:Nat→Nat} {u:AH} (hc:∀a,zM (c a)=true) (h1:r' < n) (h2:famAt H sz c m ll gs (tb.at r')) (h3:zkk H HH tb ds n u) :
  zkk H HH tb ds n ((r',.fam sz (fi c m ll gs))::u):=by
 refine⟨by simpa [Wn] using h1,?_,h3⟩
 cases hx:tb.at r' with
 |
  none =>
  rw[hx] at h2;intro i p hp;rw[ztr] at hp;split at hp
  · rename_i hi;cases hp;obtain⟨e1,e2⟩:=h2 i hi;rw[e1,e2];rfl
  · cases hp
 |
  some p =>
  obtain⟨r,d⟩:=p;rw[hx] at h2;obtain⟨h4,rfl⟩:=h2;intro i p hp;rw[ztr] at hp;split at hp
  · rename_i hi;cases hp;exact⟨_,zBq h4 hi,zj2 (by intro x hx;obtain⟨a,_,rfl⟩:=Wy.1 hx;exact hc a)⟩
  · cases hp
end
section
variable {HH:Type} {enc:TypeId × Value→HH} {P:Program} {w:World} {base:Nat} {spare:Nat→Bool} {held:Bool} {L:Nat→Prop}
theorem ztE {α β:Type} {f:α→Option β}:∀ {l:List α} {r:List β},l.mapM f=some r→r.length=l.length∧∀(i:Nat) (a:α),l[i]? = some a→∃b,r[i]? = some b∧f a=some b
 |
  [],r,h=>by
  simp only[List.mapM_nil,Option.pure_def,Wh] at h;subst h;exact⟨rfl,fun i a h=>by simp at h⟩
 |
  x::l,r,h=>by
  simp only[List.mapM_cons,Option.bind_eq_bind,Wz,Option.pure_def,Wh] at h;obtain⟨b,h1,bs,h2,rfl⟩:=h;obtain⟨h3,h4⟩:=ztE h2;refine⟨by simp[h3],fun i a hi=>?_⟩
  cases i with
  | zero=>cases hi;exact⟨b,rfl,h1⟩
  | succ i=>exact h4 i a hi
theorem ztH {a:Addr} {n:Nat} {cs:List Value} (h:w.cells? base a n=some cs):cs.length=n∧∀j,j < n→w.cell? (a.add j)=some (cs.getD j undef):=by
 unfold World.cells? at h;split at h
 · obtain⟨h1,h2⟩:=ztE h;refine⟨by simpa using h1,fun j hj=>?_⟩;obtain⟨b,h3,h4⟩:=h2 j j (by simp[hj]);rw[h4,Wq,h3];rfl
 · cases h
def ElOk (w:World) (L:Nat→Prop) (vs:List Value) (asv:List AV):Prop:=∀j,j < vs.length→VR w L noI (vs.getD j undef) (asv.getD j .undef)∧(vs.getD j undef).oneCell'=true
theorem zsQ {α:Type} {cells:α→List AV} {t e:TypeId} {sz:Nat} (ht:P.underlying t=some (.slice e)) (hs:P.cellsOf e=sz) (hL:∀b,¬L b)
  (hel:∀fuel cs y,DataW.trod enc P w base spare held fuel e cs=some y→cs.length=sz→∃x:α,ElOk w L cs (cells x)) {fuel:Nat} {cs:List Value} {y:DataW HH × List MemPlace}
  (h:DataW.trod enc P w base spare held fuel t cs=some y):∃(l:List α) (v:Value),cs=[v]∧v.oneCell'=true∧∀ι,VR w L ι v (encL sz cells l):=by
 rcases DataW.trod_slice ht h with ⟨rfl,rfl⟩ | ⟨a,len,cap,elems,rest,n,rfl,rfl,rfl,hb,hl,hc,he,hi,_,_⟩
 · exact⟨[],_,rfl,rfl,fun ι=>.sl0 _ _ _⟩
 ·
  rw[hs] at hi
  have key:∀i:Fin len,∃p:α × List Value,p.2.length=sz∧(∀j,j < sz→w.cell? ((a.add (i.1 * sz)).add j)=some (p.2.getD j undef))∧ElOk w L p.2 (cells p.1):=by intro i;have h1:=hi i.1 i.2;rw[Wk (by omega),Wz] at h1;obtain⟨cs',h2,h3⟩:=h1;obtain⟨h4,h5⟩:=ztH h2;obtain⟨x,hx⟩:=hel _ _ _ h3 h4;exact⟨(x,cs'),h4,h5,hx⟩
  obtain⟨F,hF⟩:=Classical.axiomOfChoice key;refine⟨List.ofFn fun i=>(F i).1,_,rfl,rfl,fun ι=>?_⟩;have hlen:(List.ofFn fun i=>(F i).1).length=len:=List.length_ofFn;unfold encL;rw[hlen];refine .sl ι a sz len cap _ (fun i j=>if hi:i < len then (F ⟨i,hi⟩).2.getD j undef else undef) hl (by unfold maxLen at hc;unfold big;omega) (fun i j hi hj=>?_) (fun _=>hL _) (fun i j hi hj=>?_)
  · obtain⟨h1,h2,h3⟩:=hF ⟨i,hi⟩;rw[dif_pos hi];exact⟨h2 j hj,(h3 j (by omega)).2⟩
  ·
   obtain⟨h1,h2,h3⟩:=hF ⟨i,hi⟩;rw[dif_pos hi]
   have e:((List.ofFn fun i=>(F i).1).map cells).getD i []=cells (F ⟨i,hi⟩).1:=by rw[zkN (a:=(F ⟨i,hi⟩).1)];rw[Wk (by rw[hlen];exact hi),List.getElem_ofFn]
   rw[e];exact(h3 j (by omega)).1
theorem inR_wf {k:IntKind} {n:Int} (h:(Lit.int k n).wf=true):InR k n:=by
 unfold Lit.wf at h
 simpa [InR] using h
theorem zhF {k:IntKind} {t:TypeId} (ht:P.underlying t=some (.int k)) {fuel:Nat} {cs:List Value} {y:DataW HH × List MemPlace} (h:DataW.trod enc P w base spare held fuel t cs=some y) :
  ∃n:Int,cs=[.int k n]∧InR k n:=by
 obtain⟨n,rfl,_,hw⟩:=DataW.trod_int ht h;exact⟨n,rfl,inR_wf hw⟩
theorem zBi {k:IntKind} {t e:TypeId} (ht:P.underlying t=some (.slice e)) (he:P.underlying e=some (.int k)) (hs:P.cellsOf e=1) (hL:∀b,¬L b) {fuel:Nat} {cs:List Value} {y:DataW HH × List MemPlace}
  (h:DataW.trod enc P w base spare held fuel t cs=some y):∃(l:List Int) (v:Value),cs=[v]∧v.oneCell'=true∧(∀ι,VR w L ι v (encL 1 (fun n=>[.int k n]) l)):=by
 refine zsQ ht hs hL (fun fuel cs y h hl=>?_) h;obtain⟨n,rfl,hn⟩:=zhF he h;refine⟨n,fun j hj=>?_⟩
 obtain rfl:j=0:=by simpa using hj
 exact⟨.int _ _ _ hn,rfl⟩
end
theorem zq {α β:Type} {f:α→β} {l:List α} {i:Nat} {d:β} (h:i < l.length):(l.map f).getD i d=f l[i]:=zkN (Wk h)
theorem zo6 {α β:Type} {f:β→α→β} {b:β} {l:List α} {i:Nat} (h:i < l.length):(l.take (i+1)).foldl f b=f ((l.take i).foldl f b) l[i]:=by rw[List.take_add_one,Wk h,List.foldl_append];rfl
theorem zvX {α:Type} {p:α→Bool} {l:List α} {i:Nat} (h:i < l.length) (hp:p l[i]=true):l.any p=true:=Wt.2 ⟨_,WG h,hp⟩
theorem zgv {sz s:Nat} {α:Type} {f:α→List AV} {l:List α} {k:IntKind} {b:Int} {H:AH} {nx:Nat}:zdH s (encL sz f l) none (some (.int k b)) H nx=⟨sz=s∧(0:Int)≤0∧0≤b∧b≤l.length,True,.sl s (b - 0).toNat (fun i j=>((l.map f).getD ((0:Int).toNat+i) []).getD j .undef),H,nx⟩:=rfl
theorem zf7 {sz s:Nat} {α:Type} {f:α→List AV} {l:List α} {k:IntKind} {a:Int} {H:AH} {nx:Nat}:zdH s (encL sz f l) (some (.int k a)) none H nx=⟨sz=s∧0≤a∧a≤l.length∧(l.length:Int)≤l.length,True,.sl s ((l.length:Int) - a).toNat (fun i j=>((l.map f).getD (a.toNat+i) []).getD j .undef),H,nx⟩:=rfl
theorem dF {p:Prop} (h:¬p) {inst:Decidable p}:@decide p inst=false:=decide_eq_false h
theorem dT {p:Prop} (h:p) {inst:Decidable p}:@decide p inst=true:=decide_eq_true h
section
variable {P:Program}
def KEq (K K':Kn):Prop:=∀i,K.get i=K'.get i
theorem Kn.get_drop' (K:Kn) (l:List Nat) (x:Nat):(K.drop l).get x=bif memN l x then .undef else K.get x:=by
 induction K with
 | nil=>cases memN l x<;>rfl
 |
  cons p t ih =>
  obtain⟨j,u⟩:=p;simp only[Kn.drop]
  cases hm:memN l j with
  |
   true =>
   simp only[cond_true,ih,Kn.get]
   cases hb:Wa j x with
   | true=>rw[zl hb] at hm;rw[hm];rfl
   | false=>rfl
  |
   false =>
   simp only[cond_false,Kn.get,ih]
   cases hb:Wa j x with
   | true=>rw[zl hb] at hm;rw[hm];rfl
   | false=>rfl
theorem KEq.fn {K K':Kn} (h:KEq K K'):K.get=K'.get:=funext h
theorem KEq.rfl' (K:Kn):KEq K K:=fun _=>rfl
theorem KEq.set {K K':Kn} (h:KEq K K') (d:Nat) (v:AV):KEq (K.set d v) (K'.set d v):=fun i=>by rw[Kn.get_set,Kn.get_set,h i]
theorem KEq.setO {K K':Kn} (h:KEq K K') (d:Option Nat) (v:AV):KEq (Go.Ab.setO K d v) (Go.Ab.setO K' d v):=by
 cases d with
 | none=>exact h
 | some d=>exact h.set d v
theorem KEq.drop {K K':Kn} (h:KEq K K') (l:List Nat):KEq (K.drop l) (K'.drop l):=fun i=>by rw[Kn.get_drop',Kn.get_drop',h i]
theorem zw4 {fx:Bool} {o:AOper} {K K':Kn} {H:AH} {nx:Nat} {k k':Kn→AH→Nat→Prop} (hk:∀K K' H nx,KEq K K'→k K H nx→k' K' H nx) (hK:KEq K K') (h:ExK P fx o K H nx k):ExK P fx o K' H nx k':=by
 have key:zb1 P fx o.op K.get H nx (fun v H' nx'=>k (setO K o.dst v) H' nx')→zb1 P fx o.op K'.get H nx (fun v H' nx'=>k' (setO K' o.dst v) H' nx'):=fun h=>by rw[←hK.fn];exact zbX (fun v H nx h=>hk _ _ _ _ (hK.setO _ _) h) h
 unfold ExK at *
 cases hg:o.guard with
 | none=>rw[hg] at h;exact key h
 |
  some p =>
  obtain⟨t,want⟩:=p;rw[hg] at h;simp only at h ⊢;rw[←hK t]
  cases hv:grd want (K.get t) with
  | some b=>rw[hv] at h;exact⟨fun e=>key (h.1 e),fun e=>hk _ _ _ _ (hK.setO _ _) (h.2 e)⟩
  | none=>rw[hv] at h;exact h
def QLe (Q Q':QT):Prop:=∀e K K' H nx,KEq K K'→Q e K H nx→Q' e K' H nx
def QExt (Q:QT):Prop:=QLe Q Q
theorem zx2 {Q Q':QT} (hq:QLe Q Q') {drop:List Nat}:∀ {os:List AOper} {K K':Kn} {H:AH} {nx:Nat},KEq K K'→aops P os drop Q K H nx→aops P os drop Q' K' H nx
 | [],_,_,_,_,hK,h=>hq _ _ _ _ _ (hK.drop _) h
 | _::_,_,_,_,_,hK,h=>zw4 (fun _ _ _ _ hK h=>zx2 hq hK h) hK h
theorem zoT {Q Q':QT} (hq:QLe Q Q') {drop:List Nat}:∀ {t:DTree} {K K':Kn} {H:AH} {nx:Nat},KEq K K'→awpT P t drop Q K H nx→awpT P t drop Q' K' H nx
 | .done,_,_,_,_,hK,h=>hq _ _ _ _ _ (hK.drop _) h
 | .stop,_,_,_,_,_,_=>trivial
 | .step _ _,_,_,_,_,hK,h=>zw4 (fun _ _ _ _ hK h=>zoT hq hK h) hK h
 | .alt _ _ _,_,_,_,_,hK,h=>⟨zw4 (fun _ _ _ _ hK h=>zoT hq hK h) hK h.1,zoT hq hK h.2⟩
theorem Ent.ext {B:Nat} {K K' K2:Kn} {H H2:AH} {nx nx2:Nat} (hK:KEq K K') (h:Ent B K H nx K2 H2 nx2):Ent B K' H nx K2 H2 nx2:=⟨h.1,fun w L ι tmps rel hk=>h.2 w L ι tmps rel (by rw[hK.fn];exact hk)⟩
theorem zGm {B:Nat}:∀ {c:ACode} {Q Q':QT} {K K':Kn} {H:AH} {nx:Nat},QLe Q Q'→KEq K K'→awp P B c Q K H nx→awp P B c Q' K' H nx:=by
 intro c
 induction c with
 | skip=>intro Q Q' K K' H nx hq hK h;exact hq _ _ _ _ _ hK h
 | region os drop=>intro Q Q' K K' H nx hq hK h;exact zx2 hq hK h
 | draw t drop=>intro Q Q' K K' H nx hq hK h;exact zoT hq hK h
 |
  seq a b iha ihb =>
  intro Q Q' K K' H nx hq hK h;refine iha (fun e K K' H nx hK h=>?_) hK h
  cases e with
  | normal=>exact @ihb Q Q' K K' H nx hq hK h
  | exit id=>exact hq _ _ _ _ _ hK h
  | ret=>exact hq _ _ _ _ _ hK h
  | goto l=>exact hq _ _ _ _ _ hK h
 |
  cond c a b iha ihb =>
  intro Q Q' K K' H nx hq hK h;unfold awp at h ⊢
  have e:ev K'.get c=ev K.get c:=by rw[hK.fn]
  rw[e]
  cases hv:ev K.get c<;>rw[hv] at h<;>first|exact h|skip
  exact⟨fun e=>iha hq hK (h.1 e),fun e=>ihb hq hK (h.2 e)⟩
 |
  block id c ih =>
  intro Q Q' K K' H nx hq hK h;refine ih (fun e K K' H nx hK h=>?_) hK h
  cases e with
  | normal=>exact hq _ _ _ _ _ hK h
  |
   exit id' =>
   simp only at h ⊢
   cases hb:Wa id' id<;>rw[hb] at h<;>exact hq _ _ _ _ _ hK h
  | ret=>exact hq _ _ _ _ _ hK h
  | goto l=>exact hq _ _ _ _ _ hK h
 |
  loop c ih =>
  intro Q Q' K K' H nx hq hK h;obtain⟨α,S,N,inv,μ,⟨a,ha,he⟩,hb⟩:=h;refine⟨α,S,N,inv,μ,⟨a,ha,he.ext hK⟩,fun a ha hw=>ih (fun e K K' H nx hK h=>?_) (KEq.rfl' _) (hb a ha hw)⟩
  cases e with
  | normal=>obtain⟨a',h1,h2,h3⟩:=h;exact⟨a',h1,h2,h3.ext hK⟩
  | exit id=>exact hq _ _ _ _ _ hK h
  | ret=>exact hq _ _ _ _ _ hK h
  | goto l=>exact hq _ _ _ _ _ hK h
 | exit id=>intro Q Q' K K' H nx hq hK h;exact hq _ _ _ _ _ hK h
 | ret=>intro Q Q' K K' H nx hq hK h;exact hq _ _ _ _ _ hK h
 |
  mark n c ih =>
  intro Q Q' K K' H nx hq hK h hw;obtain⟨K2,H2,nx2,h1,h2⟩:=h (fun i=>by rw[hK i];exact hw i);exact⟨K2,H2,nx2,h1.ext hK,ih hq (KEq.rfl' _) h2⟩
 |
  join a b iha ihb =>
  intro Q Q' K K' H nx hq hK h;obtain⟨α,S,N,inv,h1,h2⟩:=h;refine⟨α,S,N,inv,iha (fun e K K' H nx hK h=>?_) hK h1,fun x hx hw=>ihb hq (KEq.rfl' _) (h2 x hx hw)⟩
  cases e with
  | normal=>obtain⟨a',h1,h2⟩:=h;exact⟨a',h1,h2.ext hK⟩
  | exit id=>exact hq _ _ _ _ _ hK h
  | ret=>exact hq _ _ _ _ _ hK h
  | goto l=>exact hq _ _ _ _ _ hK h
 |
  scope c ih =>
  intro Q Q' K K' H nx hq hK h;refine ih (fun e K K' H nx hK h=>?_) hK h
  cases e with
  | goto l=>exact h
  | normal=>exact hq _ _ _ _ _ hK h
  | exit id=>exact hq _ _ _ _ _ hK h
  | ret=>exact hq _ _ _ _ _ hK h
 | label l=>intro Q Q' K K' H nx hq hK h;exact hq _ _ _ _ _ hK h
 | goto l=>intro Q Q' K K' H nx hq hK h;exact hq _ _ _ _ _ hK h
 |
  jump l a b iha ihb =>
  intro Q Q' K K' H nx hq hK h;obtain⟨α,S,N,inv,μ,h1,h2⟩:=h;refine⟨α,S,N,inv,μ,iha (fun e K K' H nx hK h=>?_) hK h1,fun x hx hw=>ihb (fun e K K' H nx hK h=>?_) (KEq.rfl' _) (h2 x hx hw)⟩
  ·
   cases e with
   | goto l=>obtain⟨h0,a',h1,h2⟩:=h;exact⟨h0,a',h1,h2.ext hK⟩
   | normal=>exact hq _ _ _ _ _ hK h
   | exit id=>exact hq _ _ _ _ _ hK h
   | ret=>exact hq _ _ _ _ _ hK h
  ·
   cases e with
   | goto l=>obtain⟨h0,a',h1,h2,h3⟩:=h;exact⟨h0,a',h1,h2,h3.ext hK⟩
   | normal=>exact hq _ _ _ _ _ hK h
   | exit id=>exact hq _ _ _ _ _ hK h
   | ret=>exact hq _ _ _ _ _ hK h
theorem QExt.seq {B:Nat} {b:ACode} {Q:QT} (h:QExt Q):QExt (seqQ P B b Q):=by
 intro e K K' H nx hK h'
 cases e with
 | normal=>exact zGm h hK h'
 | exit id=>exact h _ _ _ _ _ hK h'
 | ret=>exact h _ _ _ _ _ hK h'
 | goto l=>exact h _ _ _ _ _ hK h'
theorem QExt.block {id:Nat} {Q:QT} (h:QExt Q):QExt (zbv id Q):=by
 intro e K K' H nx hK h'
 cases e with
 | normal=>exact h _ _ _ _ _ hK h'
 |
  exit id' =>
  unfold zbv at *;simp only at h' ⊢
  cases hb:Wa id' id<;>rw[hb] at h'<;>exact h _ _ _ _ _ hK h'
 | ret=>exact h _ _ _ _ _ hK h'
 | goto l=>exact h _ _ _ _ _ hK h'
theorem QExt.loop {B:Nat} {α:Type} {S:α→Kn × AH} {N:Nat} {inv:α→Prop} {μ:α→Nat} {a:α} {Q:QT} (h:QExt Q):QExt (zqS B S N inv μ a Q):=by
 intro e K K' H nx hK h'
 cases e with
 | normal=>obtain⟨a',h1,h2,h3⟩:=h';exact⟨a',h1,h2,h3.ext hK⟩
 | exit id=>exact h _ _ _ _ _ hK h'
 | ret=>exact h _ _ _ _ _ hK h'
 | goto l=>exact h _ _ _ _ _ hK h'
theorem QExt.join {B:Nat} {α:Type} {S:α→Kn × AH} {N:Nat} {inv:α→Prop} {Q:QT} (h:QExt Q):QExt (zsL B S N inv Q):=by
 intro e K K' H nx hK h'
 cases e with
 | normal=>obtain⟨a',h1,h2⟩:=h';exact⟨a',h1,h2.ext hK⟩
 | exit id=>exact h _ _ _ _ _ hK h'
 | ret=>exact h _ _ _ _ _ hK h'
 | goto l=>exact h _ _ _ _ _ hK h'
theorem zqo {K K':Kn} {H:AH} {nx:Nat} (hK:KEq K K') (rs:List ARet) (h:zbk K H nx rs):zbk K' H nx rs:=by
 induction rs with
 | nil=>exact h
 |
  cons r rs ih =>
  cases r with
  | tmp t=>exact ih h
  |
   cell t a n =>
   unfold zbk at h ⊢;rw[←hK t];exact⟨h.1,ih h.2⟩
theorem zpK {K K':Kn} {H:AH} {nx:Nat} (hK:KEq K K') (rs:List ARet):zaE K H nx rs=zaE K' H nx rs:=by
 induction rs with
 | nil=>rfl
 |
  cons r rs ih =>
  cases r with
  |
   tmp t =>
   unfold zaE;rw[hK t,ih]
  |
   cell t a n =>
   unfold zaE;rw[hK t,ih]
theorem QExt.retK {rs:List ARet} {Post:AV→AH→Nat→Prop}:QExt (retK rs Post):=by
 intro e K K' H nx hK h';unfold Go.Ab.retK at *
 cases e with
 | exit id=>exact h'
 | goto l=>exact h'
 | normal=>exact⟨zqo hK _ h'.1,by rw[←zpK hK];exact h'.2⟩
 | ret=>exact⟨zqo hK _ h'.1,by rw[←zpK hK];exact h'.2⟩
theorem zxQ {fx:Bool} {o:AOper} {K:Kn} {H:AH} {nx:Nat} {k k':Kn→AH→Nat→Prop} (hk:∀K H nx,k K H nx→k' K H nx) (h:ExK P fx o K H nx k):ExK P fx o K H nx k':=by
 unfold ExK at *
 cases hg:o.guard with
 | none=>rw[hg] at h;exact zbX (fun v H nx h=>hk _ _ _ h) h
 |
  some p =>
  obtain⟨t,want⟩:=p;rw[hg] at h;simp only at h ⊢
  cases hv:grd want (K.get t) with
  | some b=>rw[hv] at h;exact⟨fun e=>zbX (fun v H nx h=>hk _ _ _ h) (h.1 e),fun e=>hk _ _ _ (h.2 e)⟩
  | none=>rw[hv] at h;exact h
theorem alt_of {drop:List Nat} {Q:QT} {K:Kn} {H:AH} {nx:Nat} (l:List (AOper × DTree)) (h:∀p∈l,ExK P false p.1 K H nx (awpT P p.2 drop Q)):awpT P (zEU l) drop Q K H nx:=by
 induction l with
 | nil=>trivial
 | cons p l ih=>exact⟨h p (List.mem_cons_self ..),ih fun q hq=>h q (WA _ hq)⟩
theorem zx8 {ops:List AOper} {deps:List (List Nat)} {drop:List Nat} {Q:QT} (Inv:List Bool→Kn→AH→Nat→Prop)
  (hstep:∀l K H nx i,l.length=ops.length→Inv l K H nx→i < ops.length→zbi deps l i=true→ExK P false (ops.getD i default) K H nx (Inv (l.set i true)))
  (hend:∀l K H nx,l.length=ops.length→Inv l K H nx→(∀i,i < ops.length→zbi deps l i=false)→Q .normal (K.drop drop) H nx) :
  ∀(fuel:Nat) (l:List Bool) (K:Kn) (H:AH) (nx:Nat),l.length=ops.length→zfB l≤fuel→Inv l K H nx→awpT P (ze4 ops deps fuel l) drop Q K H nx
 |
  0,l,K,H,nx,hl,hc,h=>by
  refine hend l K H nx hl h fun i hi=>?_
  have:=zh8 (l:=l) (by omega) i (by omega);unfold zbi;rw[this];rfl
 |
  fuel+1,l,K,H,nx,hl,hc,h=>by
  simp only[ze4]
  have mem:∀i,i∈(Wj ops.length).filter (zbi deps l)→i < ops.length∧zbi deps l i=true:=fun i hi=>by have:=Wl.1 hi;exact⟨WB.1 this.1,this.2⟩
  have next:∀i,i < ops.length→zbi deps l i=true→ExK P false (ops.getD i default) K H nx (awpT P (ze4 ops deps fuel (l.set i true)) drop Q):=fun i hi hr=>by refine zxQ (fun K H nx hh=>?_) (hstep l K H nx i hl h hi hr);refine zx8 Inv hstep hend fuel _ K H nx (by simpa using hl) ?_ hh;have:=zky (l:=l) (i:=i) (by omega) (zaQ.1 hr).1;omega
  cases hr:(Wj ops.length).filter (zbi deps l) with
  |
   nil =>
   refine hend l K H nx hl h fun i hi=>?_
   cases hb:zbi deps l i with
   | false=>rfl
   |
    true =>
    have:i∈(Wj ops.length).filter (zbi deps l):=Wl.2 ⟨WB.2 hi,hb⟩;rw[hr] at this;simp at this
  |
   cons i0 r0 =>
   simp only
   cases hf:(i0::r0).find? (zEv ops deps l) with
   |
    some i =>
    have:=mem i (by rw[hr];exact List.mem_of_find?_eq_some hf);exact next i this.1 this.2
   |
    none =>
    refine alt_of _ fun p hp=>?_
    obtain⟨i,hi,rfl⟩:=Wy.1 hp;have:=mem i (by rw[hr];exact hi);exact next i this.1 this.2
def zap:Kn→List (Nat × AV)→Kn
 | K,[]=>K
 | K,(d,v)::r=>zap (K.set d v) r
def zwm (Kf:Kn):Option Nat→Kn→Prop
 | none,_=>True
 | some d,K=>K.get d=Kf.get d
def zm5 (P:Program) (Kf:Kn) (o:AOper) (a b:AH × Nat):Prop:=zaI P (.tree (.step o .done)) [] (fun _ K H nx=>zwm Kf o.dst K∧H=b.1∧nx=b.2) Kf a.1 a.2
abbrev Plan:=List (Nat × List Nat × List Nat)
def zwl (P:Program) (ops:List AOper) (Kf:Kn) (hs:List Nat→AH × Nat):Plan→Prop
 | []=>True
 | (i,S,S')::r=>zm5 P Kf (ops.getD i default) (hs S) (hs S')∧zwl P ops Kf hs r
def beqL:List Nat→List Nat→Bool
 | [],[]=>true
 | a::l,b::m=>Wa a b&&beqL l m
 | _,_=>false
theorem ze6:∀ {l m:List Nat},beqL l m=true→l=m
 | [],[],_=>rfl
 |
  a::l,b::m,h=>by
  simp only[beqL,Wb] at h;rw[zl h.1,ze6 h.2]
 | [],_::_,h=>by cases h
 | _::_,[],h=>by cases h
def memP:Plan→Nat→List Nat→List Nat→Bool
 | [],_,_,_=>false
 | (i,k,k')::r,a,b,c=>(Wa i a&&(beqL k b&&beqL k' c))||memP r a b c
def anyP:Plan→Nat→Bool
 | [],_=>false
 | (i,k,k')::r,a=>(Wa i a&&beqL k k')||anyP r a
def memS:List (List Nat)→List Nat→Bool
 | [],_=>false
 | a::r,b=>beqL a b||memS r b
theorem ztv:∀ {l:List (List Nat)} {b:List Nat},memS l b=true→b∈l
 | [],_,h=>by cases h
 |
  a::r,b,h=>by
  simp only[memS,Wu] at h
  rcases h with h|h
  · rw[ze6 h];simp
  · exact WA _ (ztv h)
theorem zpJ {ops:List AOper} {Kf:Kn} {hs:List Nat→AH × Nat}:∀ {l:Plan},zwl P ops Kf hs l→∀ {a:Nat} {b c:List Nat},memP l a b c=true→zm5 P Kf (ops.getD a default) (hs b) (hs c)
 | [],_,_,_,_,h=>by cases h
 |
  (i,k,k')::r,h,a,b,c,hm=>by
  simp only[memP,Wu,Wb] at hm
  rcases hm with ⟨h1,h2,h3⟩|hm
  · rw[←zl h1,←ze6 h2,←ze6 h3];exact h.1
  · exact zpJ h.2 hm
theorem zvb {ops:List AOper} {Kf:Kn} {hs:List Nat→AH × Nat}:∀ {l:Plan},zwl P ops Kf hs l→∀ {a:Nat},anyP l a=true→∃b,zm5 P Kf (ops.getD a default) (hs b) (hs b)
 | [],_,_,h=>by cases h
 |
  (i,k,k')::r,h,a,hm=>by
  simp only[anyP,Wu,Wb] at hm
  rcases hm with ⟨h1,h2⟩|hm
  · rw[←zl h1];have:=h.1;rw[←ze6 h2] at this;exact⟨_,this⟩
  · exact zvb h.2 hm
def zdL (Ls:List Nat) (A:List (List Nat)) (i:Nat) (S:List Nat):Bool :=
 !memN S i&&(Ls.all (fun m => !memN (A.getD i []) m||memN S m)&&S.all fun m => !memN (A.getD m []) i)
def zkS (Ls:List Nat) (i:Nat) (S:List Nat):List Nat:=Ls.filter fun m=>Wa m i||memN S m
structure DrawOk (ops:List AOper) (deps:List (List Nat)) (Ls:List Nat) (A:List (List Nat)) (St:List (List Nat)) (plan:Plan) (ks:List Nat):Prop where
 low:∀(i:Nat),i < ops.length→∀j∈deps.getD i [],j < i
 clo:∀(i:Nat),i < ops.length→∀j∈A.getD i [],j∈deps.getD i []∨∃d∈deps.getD i [],j∈A.getD d []
 one:∀(i j d:Nat),i < ops.length→j < ops.length→(ops.getD i default).dst=some d→(ops.getD j default).dst=some d→i=j
 keys:∀k∈ks,∃o∈ops,o.dst=some k
 look:∀(i:Nat),i < ops.length→∀t∈(ops.getD i default).looks,(∃j∈A.getD i [],(ops.getD j default).dst=some t)∨∀o∈ops,o.dst≠some t
 lin:∀i∈Ls,i < ops.length
 st0:[]∈St
 stc:∀S∈St,∀i∈Ls,zdL Ls A i S=true→zkS Ls i S∈St
 plan:∀(i:Nat),i < ops.length→((ops.getD i default).fixed=true∧(ops.getD i default).sees=false∧i∉Ls∧anyP plan i=true) ∨
  (i∉Ls∧∀S∈St,zdL Ls A i S=true→memP plan i S S=true)∨(i∈Ls∧∀S∈St,zdL Ls A i S=true→memP plan i S (zkS Ls i S)=true)
def allB (n:Nat) (p:Nat→Bool):Bool:=(Wj n).all p
def zyr (ops:List AOper) (deps:List (List Nat)) (Ls:List Nat) (A:List (List Nat)) (St:List (List Nat)) (plan:Plan) (ks:List Nat):Bool :=
 allB ops.length (fun i=>(deps.getD i []).all fun j=>Wc j i) &&
 allB ops.length (fun i=>(A.getD i []).all fun j=>memN (deps.getD i []) j||(deps.getD i []).any fun d=>memN (A.getD d []) j) &&
 allB ops.length (fun i=>allB i fun j=>match (ops.getD i default).dst,(ops.getD j default).dst with|some d,some e => !Nat.beq d e|_,_=>true) &&
 ks.all (fun k=>ops.any fun o=>match o.dst with|some d=>Wa d k|none=>false) &&
 allB ops.length (fun i=>(ops.getD i default).looks.all fun t=>((A.getD i []).any fun j=>match (ops.getD j default).dst with|some d=>Wa d t|none=>false)||ops.all fun o=>match o.dst with|some d => !Nat.beq d t|none=>true) &&
 Ls.all (fun i=>Wc i ops.length) &&
 memS St [] &&
 St.all (fun S=>Ls.all fun i => !zdL Ls A i S||memS St (zkS Ls i S)) &&
 allB ops.length (fun i=>bif memN Ls i then St.all fun S => !zdL Ls A i S||memP plan i S (zkS Ls i S)
  else ((ops.getD i default).fixed&&(!(ops.getD i default).sees&&anyP plan i))||St.all fun S => !zdL Ls A i S||memP plan i S S)
theorem za7 {n:Nat} {p:Nat→Bool} (h:allB n p=true) {i:Nat} (hi:i < n):p i=true:=We.1 h i (WB.2 hi)
theorem impB {a b:Bool} (h:(!a||b)=true) (ha:a=true):b=true:=by
 subst ha
 simpa using h
theorem zuB {ops:List AOper} {deps:List (List Nat)} {Ls:List Nat} {A:List (List Nat)} {St:List (List Nat)} {plan:Plan} {ks:List Nat} (h:zyr ops deps Ls A St plan ks=true):DrawOk ops deps Ls A St plan ks:=by
 unfold zyr at h;simp only[Wb] at h;obtain⟨⟨⟨⟨⟨⟨⟨⟨h1,h2⟩,h3⟩,h4⟩,h5⟩,h6⟩,h7⟩,h8⟩,h9⟩:=h
 have hone:∀i j d,i < ops.length→j < i→(ops.getD i default).dst=some d→(ops.getD j default).dst=some d→False:=fun i j d hi hj e1 e2=>by have:=za7 (za7 h3 hi) hj;rw[e1,e2] at this;simp[zaG] at this
 constructor
 · intro i hi j hj;exact Wp (We.1 (za7 h1 hi) j hj)
 ·
  intro i hi j hj;have:=We.1 (za7 h2 hi) j hj
  rcases WC.1 this with this|this
  · exact .inl ((zY _ _).1 this)
  · obtain⟨d,hd,hm⟩:=Wt.1 this;exact .inr ⟨d,hd,(zY _ _).1 hm⟩
 ·
  intro i j d hi hj e1 e2
  rcases Nat.lt_trichotomy i j with h|h|h
  · exact(hone j i d hj h e2 e1).elim
  · exact h
  · exact(hone i j d hi h e1 e2).elim
 ·
  intro k hk;obtain⟨o,ho,hd⟩:=Wt.1 (We.1 h4 k hk);refine⟨o,ho,?_⟩
  cases e:o.dst with
  | none=>rw[e] at hd;cases hd
  | some d=>rw[e] at hd;rw[zl hd]
 ·
  intro i hi t ht;have:=We.1 (za7 h5 hi) t ht
  rcases WC.1 this with this|this
  ·
   obtain⟨j,hj,hd⟩:=Wt.1 this;refine .inl ⟨j,hj,?_⟩
   cases e:(ops.getD j default).dst with
   | none=>rw[e] at hd;cases hd
   | some d=>rw[e] at hd;rw[zl hd]
  ·
   refine .inr fun o ho e=>?_
   have:=We.1 this o ho;rw[e] at this;simp[zaG] at this
 · intro i hi;exact Wp (We.1 h6 i hi)
 · exact ztv h7
 · intro S hS i hi hc;exact ztv (impB (We.1 (We.1 h8 S hS) i hi) hc)
 ·
  intro i hi;have:=za7 h9 hi
  cases hm:memN Ls i with
  |
   true =>
   rw[hm] at this;exact .inr (.inr ⟨(zY _ _).1 hm,fun S hS hc=>impB (We.1 this S hS) hc⟩)
  |
   false =>
   rw[hm] at this;have hno:=znN hm
   rcases WC.1 this with this|this
   · simp only[Wb,Ww] at this;exact .inl ⟨this.1,this.2.1,hno,this.2.2⟩
   · exact .inr (.inl ⟨hno,fun S hS hc=>impB (We.1 this S hS) hc⟩)
theorem zer:∀ {vs:List (Nat × AV)} {K:Kn} {t:Nat},t∉vs.map (·.1)→(zap K vs).get t=K.get t
 | [],_,_,_=>rfl
 |
  (d,v)::r,K,t,h=>by
  simp only[Wo,Wm,not_or] at h;rw[zap,zer h.2,Kn.get_set,if_neg h.1]
def zrb:List (Nat × AV)→Nat→Option AV
 | [],_=>none
 |
  (d,v)::r,t=>match zrb r t with
  | some u=>some u
  | none=>bif Wa d t then some v else none
def zzD (K:Kn) (t:Nat):Option AV→AV
 | some v=>v
 | none=>K.get t
theorem zc:∀ {vs:List (Nat × AV)} {K:Kn} {t:Nat},(zap K vs).get t=zzD K t (zrb vs t)
 | [],_,_=>rfl
 |
  (d,v)::r,K,t=>by
  rw[zap,zc];simp only[zrb]
  cases zrb r t with
  | some u=>rfl
  |
   none =>
   simp only[zzD,Kn.get_set]
   by_cases h:t=d
   · subst h;simp[zaG,zzD]
   · simp[h,zbJ (Ne.symm h),zzD]
structure DInv (ops:List AOper) (deps:List (List Nat)) (Ls:List Nat) (St:List (List Nat)) (Kf:Kn) (hs:List Nat→AH × Nat) (l:List Bool) (K:Kn) (H:AH) (nx:Nat):Prop where
 clo:∀i,i < ops.length→getB l i=true→∀j∈deps.getD i [],getB l j=true
 done:∀i d,i < ops.length→getB l i=true→(ops.getD i default).dst=some d→K.get d=Kf.get d
 rest:∀t,(∀o∈ops,o.dst≠some t)→K.get t=Kf.get t
 here:Ls.filter (getB l)∈St
 rows:(H,nx)=hs (Ls.filter (getB l))
theorem zEW {ops:List AOper} {i:Nat} (h:i < ops.length):ops.getD i default∈ops:=by rw[Wq,Wk h];exact WG h
theorem zxH {ops:List AOper} {deps:List (List Nat)} {Ls:List Nat} {A:List (List Nat)} {St:List (List Nat)} {plan:Plan} {ks:List Nat} (ok:DrawOk ops deps Ls A St plan ks) {l:List Bool}
  (hc:∀i,i < ops.length→getB l i=true→∀j∈deps.getD i [],getB l j=true):∀(i:Nat),i < ops.length→(∀j∈deps.getD i [],getB l j=true)→∀j∈A.getD i [],getB l j=true:=by
 intro i
 induction i using Nat.strongRecOn with
 |
  _ i ih =>
  intro hi hd j hj
  rcases ok.clo i hi j hj with h | ⟨d,h1,h2⟩
  · exact hd j h
  · have hlt:=ok.low i hi d h1;exact ih d hlt (by omega) (hc d (by omega) (hd d h1)) j h2
theorem zgT (K:Kn) (t:Nat):(K.drop []).get t=K.get t:=by rw[Kn.get_drop'];rfl
theorem zui {Kf:Kn} {o:AOper} {H:AH} {nx:Nat} {v:AV} (hf:o.fixed=true) (hy:Yld P o Kf.get H nx v) (hv:∀d,o.dst=some d→upd Kf.get o.dst v d=Kf.get d):zm5 P Kf o (H,nx) (H,nx):=by
 have h:=zka (k:=fun ρ H2 nx2=>(∀d,o.dst=some d→ρ d=Kf.get d)∧H2=H∧nx2=nx) hy ⟨hv,rfl,rfl⟩;unfold zm5 zaI;simp only[awpT];unfold ExF at h;unfold ExK
 have conv:∀ {v:AV} {H2:AH} {nx2:Nat},((∀d,o.dst=some d→upd Kf.get o.dst v d=Kf.get d)∧H2=H∧nx2=nx)→zwm Kf o.dst ((setO Kf o.dst v).drop [])∧H2=H∧nx2=nx:=fun {v H2 nx2} hh=>by
  refine⟨?_,hh.2⟩
  cases e:o.dst with
  | none=>trivial
  |
   some d =>
   have h1:=hh.1 d e;rw[e,←zl4] at h1;show Kn.get _ d=_;rw[zgT];exact h1
 cases hg:o.guard with
 | none=>rw[hg] at h;exact zbX (fun v H nx h=>conv h) h
 |
  some p =>
  obtain⟨t,want⟩:=p;rw[hg] at h;simp only at h ⊢
  cases hw:grd want (Kf.get t) with
  | some b=>rw[hw] at h;exact⟨fun e=>zbX (fun v H nx h=>conv h) (h.1 e),fun e=>by simpa using conv (v:=.tup []) (H2:=H) (nx2:=nx) ⟨(h.2 e).1,rfl,rfl⟩⟩
  | none=>rw[hw] at h;exact h
theorem zv9 {Kf K:Kn} {o:AOper} {H:AH} {nx:Nat} {b:AH × Nat} (hK:∀t∈o.looks,K.get t=Kf.get t) (h:zm5 P Kf o (H,nx) b) :
  ExK P false o K H nx (fun K2 H2 nx2=>zwm Kf o.dst K2∧(∀t,o.dst≠some t→K2.get t=K.get t)∧(H2,nx2)=b):=by
 unfold zm5 zaI at h;simp only[awpT] at h
 have conv:∀ {v:AV} {H2:AH} {nx2:Nat},(zwm Kf o.dst ((setO Kf o.dst v).drop [])∧H2=b.1∧nx2=b.2)→zwm Kf o.dst (setO K o.dst v)∧(∀t,o.dst≠some t→(setO K o.dst v).get t=K.get t)∧(H2,nx2)=b:=fun {v H2 nx2} hh=>by
  obtain⟨h1,h2,h3⟩:=hh;refine⟨?_,fun t ht=>?_,by rw[h2,h3]⟩
  ·
   cases e:o.dst with
   | none=>trivial
   |
    some d =>
    rw[e] at h1;have h4:Kn.get _ d=_:=h1;rw[zgT] at h4;show Kn.get _ d=_;rw[←h4];simp only[setO,Kn.get_set,if_true]
  ·
   cases e:o.dst with
   | none=>rfl
   |
    some d =>
    have:¬t=d:=fun e'=>ht (by rw[e,e'])
    simp only[setO,Kn.get_set,if_neg this]
 unfold ExK at *
 cases hg:o.guard with
 |
  none =>
  rw[hg] at h;simp only at h ⊢;rw[ziO (ρ':=Kf.get) (fun t ht=>hK t (zkM ht))];exact zbX (fun v H nx h=>conv h) h
 |
  some p =>
  obtain⟨t,want⟩:=p;rw[hg] at h;simp only at h ⊢;rw[hK t (ziI hg)]
  cases hw:grd want (Kf.get t) with
  |
   some b =>
   rw[hw] at h;refine⟨fun e=>?_,fun e=>conv (h.2 e)⟩;rw[ziO (ρ':=Kf.get) (fun t ht=>hK t (zkM ht))];exact zbX (fun v H nx h=>conv h) (h.1 e)
  | none=>rw[hw] at h;exact h
theorem zmO {ops:List AOper} {Kf:Kn} {hs:List Nat→AH × Nat}:zwl P ops Kf hs []=True:=rfl
theorem zkB {ops:List AOper} {Kf:Kn} {hs:List Nat→AH × Nat} {i:Nat} {S S':List Nat} {r:Plan}:zwl P ops Kf hs ((i,S,S')::r)=(zm5 P Kf (ops.getD i default) (hs S) (hs S')∧zwl P ops Kf hs r):=rfl
theorem zdd {Kf:Kn} {d:Nat} {v:AV}:zwm Kf (some d) ((Kf.set d v).drop [])=(v=Kf.get d):=by show (((Kf.set d v).drop []).get d=Kf.get d)=_;rw[zgT,Kn.get_set,if_pos rfl]
theorem zcR {Kf K:Kn}:zwm Kf none K=True:=rfl
def zAp (drop:List Nat):List (Nat × AV)→List (Nat × AV)
 | []=>[]
 | (d,v)::r=>bif memN drop d then zAp drop r else (d,v)::zAp drop r
theorem zsj {drop:List Nat} {t:Nat}:∀ {vs:List (Nat × AV)},zrb (zAp drop vs) t=bif memN drop t then none else zrb vs t
 | []=>by cases memN drop t<;>rfl
 |
  (d,v)::r=>by
  have ih:=zsj (drop:=drop) (t:=t) (vs:=r);simp only[zAp,zrb]
  cases hd:memN drop d with
  |
   true =>
   simp only[cond_true,ih]
   cases ht:memN drop t with
   | true=>rfl
   |
    false =>
    have:Wa d t=false:=zbJ fun e=>by rw[e,ht] at hd;cases hd
    simp only[cond_false,this]
    cases zrb r t<;>rfl
  |
   false =>
   simp only[cond_false,zrb,ih]
   cases ht:memN drop t with
   |
    true =>
    have:Wa d t=false:=zbJ fun e=>by rw[e,ht] at hd;cases hd
    simp only[cond_true,this,cond_false]
   | false=>simp only[cond_false]
theorem zDG {drop:List Nat} {vs kept:List (Nat × AV)} {K0:Kn} (h:zAp drop vs=kept):KEq (zap (K0.drop drop) kept) ((zap K0 vs).drop drop):=fun t=>by
 rw[←h,zc,zsj,Kn.get_drop',zc]
 cases ht:memN drop t with
 | true=>simp only[cond_true,zzD,Kn.get_drop',ht]
 |
  false =>
  simp only[cond_false]
  cases zrb vs t with
  | some v=>rfl
  | none=>simp only[zzD,Kn.get_drop',ht,cond_false]
def hsOf (l:List (AH × Nat)) (S:List Nat):AH × Nat:=l.getD S.length ([],0)
theorem zoR {ops:List AOper} {deps:List (List Nat)} {drop:List Nat} {Q:QT} {K0:Kn} {H0:AH} {nx0 n:Nat} (Ls:List Nat) (A St:List (List Nat)) (plan:Plan) (vs:List (Nat × AV)) (hs:List Nat→AH × Nat)
  (hc:zyr ops deps Ls A St plan (vs.map (·.1))=true) (hn:n=ops.length) (h0:hs []=(H0,nx0)) (hq:QExt Q) (hp':∀(Kf:Kn) (hs':List Nat→AH × Nat),Kf=zap K0 vs→hs'=hs→zwl P ops Kf hs' plan)
  (kept:List (Nat × AV)) (hkept:zAp drop vs=kept)
  (he:Q .normal (zap (K0.drop drop) kept) (hs Ls).1 (hs Ls).2) :
  zaI P (.tree (ze4 ops deps n (Wf n false))) drop Q K0 H0 nx0:=by
 have ok:=zuB hc;have hp:=hp' _ _ rfl rfl;subst hn
 have getR:∀i,getB (Wf ops.length false) i=false:=fun i=>by
  unfold getB;rw[Wq,List.getElem?_replicate]
  split<;>rfl
 have noR:Ls.filter (getB (Wf ops.length false))=[]:=by rw[List.filter_eq_nil_iff];intro i _;rw[getR];simp
 have hcome:∀m,zfB (Wf m false)=m:=by
  intro m
  induction m with
  | zero=>rfl
  | succ m ih=>rw[List.replicate_succ,zfB,ih];simp;omega
 refine zx8 (DInv ops deps Ls St (zap K0 vs) hs) ?_ ?_ ops.length _ K0 H0 nx0 (by simp) (by rw[hcome];omega) ⟨fun i _ h=>(by rw[getR] at h;cases h),fun i d _ h=>(by rw[getR] at h;cases h),fun t ht=>?_,?_,?_⟩
 ·
  intro l K H nx i hl inv hi hr;obtain⟨hun,hdeps⟩:=zaQ.1 hr;have hA:=zxH ok inv.clo i hi hdeps
  have hlk:∀t∈(ops.getD i default).looks,K.get t=(zap K0 vs).get t:=fun t ht=>by
   rcases ok.look i hi t ht with ⟨j,hj,hd⟩|h
   ·
    have hjl:=hA j hj
    have hjn:j < ops.length:=by apply Classical.byContradiction;intro hcon;unfold getB at hjl;rw[Wq,List.getElem?_eq_none (by omega)] at hjl;cases hjl
    exact inv.done j t hjn hjl hd
   · exact inv.rest t h
  have hcomp:zdL Ls A i (Ls.filter (getB l))=true:=by
   unfold zdL;simp only[Wb,Ww,We,Wu];refine⟨?_,fun m hm=>?_,fun m hm=>?_⟩
   ·
    cases hb:memN (Ls.filter (getB l)) i with
    | false=>rfl
    |
     true =>
     have:=(Wl.1 ((zY _ _).1 hb)).2;rw[hun] at this;cases this
   ·
    cases hb:memN (A.getD i []) m with
    | false=>exact .inl rfl
    | true=>exact .inr ((zY _ _).2 (Wl.2 ⟨hm,hA m ((zY _ _).1 hb)⟩))
   ·
    obtain⟨hmL,hml⟩:=Wl.1 hm
    cases hb:memN (A.getD m []) i with
    | false=>rfl
    |
     true =>
     have:=zxH ok inv.clo m (ok.lin m hmL) (inv.clo m (ok.lin m hmL) hml) i ((zY _ _).1 hb);rw[hun] at this;cases this
  have key:∃b,zm5 P (zap K0 vs) (ops.getD i default) (H,nx) b∧b=hs (Ls.filter (getB (l.set i true)))∧Ls.filter (getB (l.set i true))∈St:=by
   have notin:i∉Ls→Ls.filter (getB (l.set i true))=Ls.filter (getB l):=fun hni=>by
    refine WH fun m hm=>?_
    rw[zea (by omega),if_neg (fun e:m=i=>hni (by rw[←e];exact hm))]
   rcases ok.plan i hi with ⟨hf,hse,hni,ha⟩ | ⟨hni,hk⟩ | ⟨hin,hk⟩
   ·
    obtain⟨b,hb⟩:=zvb hp ha;refine⟨(H,nx),?_,by rw[notin hni];exact inv.rows,by rw[notin hni];exact inv.here⟩;unfold zm5 zaI at hb;simp only[awpT] at hb
    have h1:=zsT (k':=fun ρ H2 nx2=>∀d,(ops.getD i default).dst=some d→ρ d=(zap K0 vs).get d) (fun K2 H2 nx2 hh d e=>by
     have h3:=hh.1;rw[e] at h3;have h4:Kn.get _ d=_:=h3;rw[zgT] at h4
     exact h4) hb
    obtain⟨v,hy,hv⟩:=zm4 hf h1;exact zui hf (ztk (H':=H) (nx':=nx) hse hy) hv
   · refine⟨(H,nx),?_,by rw[notin hni];exact inv.rows,by rw[notin hni];exact inv.here⟩;have:=zpJ hp (hk _ inv.here hcomp);rw[←inv.rows] at this;exact this
   ·
    have hnx:zkS Ls i (Ls.filter (getB l))=Ls.filter (getB (l.set i true)):=by
     unfold zkS
     refine WH fun m hm=>?_
     rw[zea (by omega)]
     by_cases hmi:m=i
     · subst hmi;simp[zaG]
     ·
      rw[if_neg hmi,zbJ hmi,Bool.false_or]
      cases hb:getB l m with
      | true=>exact(zY _ _).2 (Wl.2 ⟨hm,hb⟩)
      |
       false =>
       cases hb2:memN (Ls.filter (getB l)) m with
       | false=>rfl
       |
        true =>
        have:=(Wl.1 ((zY _ _).1 hb2)).2;rw[hb] at this;cases this
    have h1:=zpJ hp (hk _ inv.here hcomp);have h2:=ok.stc _ inv.here i hin hcomp;rw[hnx] at h1 h2;rw[←inv.rows] at h1;exact⟨_,h1,rfl,h2⟩
  obtain⟨b,hb,hbe,hbs⟩:=key;refine zxQ (fun K2 H2 nx2 hh=>?_) (zv9 hlk hb);obtain⟨h1,h2,h3⟩:=hh;refine⟨?_,?_,?_,hbs,?_⟩
  ·
   intro j hj hjl m hm;rw[zea (by omega)] at hjl ⊢
   by_cases hmi:m=i
   · rw[if_pos hmi]
   ·
    rw[if_neg hmi]
    by_cases hji:j=i
    · subst hji;exact hdeps m hm
    · rw[if_neg hji] at hjl;exact inv.clo j hj hjl m hm
  ·
   intro j d hj hjl hd;rw[zea (by omega)] at hjl
   by_cases hji:j=i
   · subst hji;rw[hd] at h1;exact h1
   · rw[if_neg hji] at hjl;rw[h2 d (fun e=>hji (ok.one j i d hj hi hd e))];exact inv.done j d hj hjl hd
  · intro t ht;rw[h2 t (ht _ (zEW hi))];exact inv.rest t ht
  · rw[←hbe,h3]
 ·
  intro l K H nx hl inv hnone
  have hall:∀i,i < ops.length→getB l i=true:=by
   intro i
   induction i using Nat.strongRecOn with
   |
    _ i ih =>
    intro hi;have:=hnone i hi
    cases hb:getB l i with
    | true=>rfl
    |
     false =>
     have hr:zbi deps l i=true:=zaQ.2 ⟨hb,fun j hj=>ih j (ok.low i hi j hj) (by have:=ok.low i hi j hj;omega)⟩;rw[this] at hr;cases hr
  have hK:KEq (zap K0 vs) K:=fun t=>by
   by_cases h:∃o∈ops,o.dst=some t
   ·
    obtain⟨o,ho,hd⟩:=h;obtain⟨i,hi,he⟩:=List.mem_iff_getElem.1 ho
    have e:ops.getD i default=o:=by rw[Wq,Wk hi,he];rfl
    exact(inv.done i t hi (hall i hi) (by rw[e];exact hd)).symm
   · exact(inv.rest t (fun o ho e=>h ⟨o,ho,e⟩)).symm
  have hcnt:Ls.filter (getB l)=Ls:=List.filter_eq_self.2 (fun m hm=>hall m (ok.lin m hm));have hr:=inv.rows;rw[hcnt] at hr;rw[←hr] at he;exact hq _ _ _ _ _ (fun t=>(zDG hkept t).trans (hK.drop drop t)) he
 · rw[zer];intro hm;obtain⟨o,ho,hd⟩:=ok.keys t hm;exact ht o ho hd
 · rw[noR];exact ok.st0
 · rw[noR];exact h0.symm
end
def AV.lt0 (n:Nat):AV→Bool
 | .ptr r _ _ _ _=>Wc r n
 | .own r _ _ _ _=>Wc r n
 | .mp r _=>Wc r n
 | .it r=>Wc r n
 | .fn _ _ | .agg _ | .tup _=>false
 | _=>true
def AV.lt1 (n:Nat):AV→Bool
 | .fn _ l=>l.all (AV.lt0 n)
 | .agg l=>l.all (AV.lt0 n)
 | .tup l=>l.all (AV.lt0 n)
 | a=>a.lt0 n
def zkY (n:Nat) (els:List (List AV)):Prop:=∀c∈els,c.all (AV.lt0 n)=true
def zem (n:Nat):AH→Prop
 | []=>True
 | (r,.row _ els _)::t=>(r < n∧zkY n els)∧zem n t
 | (r,.fam _ ins)::t=>(r < n∧∀p∈ins,zkY n p.1)∧zem n t
theorem zsa {n:Nat} {c:List AV} (h:zM c=true):c.all (AV.lt0 n)=true:=by
 induction c with
 | nil=>rfl
 |
  cons a c ih =>
  simp only[zM,Wb] at h;simp only[List.all_cons,Wb];refine⟨?_,ih h.2⟩
  cases a<;>first|rfl | (have:=h.1;cases this;done)
theorem zbV {n:Nat} {els:List (List AV)} (h:∀c∈els,zM c=true):zkY n els:=fun c hc=>zsa (h c hc)
theorem zuV {n:Nat}:zkY n []:=fun c hc=>by cases hc
theorem zyL {n:Nat} {c:List AV} {l:List (List AV)}:zkY n (c::l)=(c.all (AV.lt0 n)=true∧zkY n l):=by simp[zkY]
theorem zgF {n:Nat}:∀ {H:AH},zem n H→∀ {r:Nat} {o:AObj},H.look r=some o→r < n∧∀q sz els g,o.part q=some (.row sz els g)→zkY n els
 | [],_,_,_,h=>by cases h
 |
  (j,.row s e g0)::t,h,r,o,hl=>by
  simp only[AH.look] at hl
  cases hb:Wa j r with
  |
   true =>
   rw[hb] at hl;simp only[cond_true,Wh] at hl;subst hl;rw[←zl hb];refine⟨h.1.1,fun q sz els g hp=>?_⟩
   cases q with
   | zero=>simp only[AObj.part,Wh,AObj.row.injEq] at hp;rw[←hp.2.1];exact h.1.2
   | succ q=>simp[AObj.part] at hp
  | false=>rw[hb] at hl;exact zgF h.2 hl
 |
  (j,.fam s ins)::t,h,r,o,hl=>by
  simp only[AH.look] at hl
  cases hb:Wa j r with
  |
   true =>
   rw[hb] at hl;simp only[cond_true,Wh] at hl;subst hl;rw[←zl hb];refine⟨h.1.1,fun q sz els g hp=>?_⟩
   cases q with
   | zero=>simp[AObj.part] at hp
   |
    succ i =>
    simp only[AObj.part] at hp;obtain⟨p,hp1,hp2⟩:=Wg.1 hp;cases hp2;exact h.1.2 p (Ws hp1)
  | false=>rw[hb] at hl;exact zgF h.2 hl
theorem zsf {n:Nat} {H:AH} (h:zem n H) {r q sz:Nat} {els:List (List AV)} {g:Nat} (hg:H.get r q=some (.row sz els g)):r < n∧zkY n els:=by unfold AH.get at hg;obtain⟨o,h1,h2⟩:=Wz.1 hg;have:=zgF h h1;exact⟨this.1,this.2 q sz els g h2⟩
theorem zj {α:Type} {f:α→List AV} {l:List α} (h:∀a,zM (f a)=true):zy (l.map f):=fun c hc=>by obtain⟨a,_,rfl⟩:=Wy.1 hc;exact h a
theorem zx {c:List AV} (h:zM c=true):zy [c]:=fun d hd=>by rw[List.mem_singleton.1 hd];exact h
theorem zaj:zy []:=fun d hd=>by cases hd
theorem zm {c:List AV} {l:List (List AV)} (h:zM c=true) (h2:zy l):zy (c::l):=fun d hd=>by
 rcases Wm.1 hd with rfl|hd
 · exact h
 · exact h2 d hd
theorem zag {l m:List (List AV)} (h:zy l) (h2:zy m):zy (l++m):=fun d hd=>by
 rcases List.mem_append.1 hd with hd|hd
 · exact h d hd
 · exact h2 d hd
theorem zcU {H HH:AH} {σ:Nat→Nat→Option (Nat × Nat × Nat)} {D:Nat→Nat→Prop} {t:Bool}:∀ {l:List AV},zM l=true→VwL H HH σ D t l l
 | [],_=>trivial
 |
  a::l,h=>by
  simp only[zM,Wb] at h;exact⟨zO h.1,zcU h.2⟩
theorem RowV.of_flat {H HH:AH} {σ:Nat→Nat→Option (Nat × Nat × Nat)} {D:Nat→Nat→Prop} {els:List (List AV)} (h:zy els):RowV H HH σ D els els:=zj2 h
def hsAt:List (List Nat × AH × Nat)→List Nat→AH × Nat
 | [],_=>([],0)
 | (T,x)::r,S=>bif beqL T S then x else hsAt r S
theorem evA:type_of% @evS∧type_of% @evZ∧type_of% @evX∧type_of% @evK∧type_of% @evB∧type_of% @evL∧type_of% @evR:=⟨@evS,@evZ,@evX,@evK,@evB,@evL,@evR⟩
theorem evWA:type_of% @evW∧type_of% @evK∧type_of% @evB∧type_of% @evL:=⟨@evW,@evK,@evB,@evL⟩
theorem dis1 {p:Prop} (h:p:=by first|omega | (simp only[evF,evL,implies_true,and_self];done)|fail):p:=h
def Im (q p:Prop):Prop:=q→p
theorem Im.i {α:Sort _}{q p:α→Prop}(h:∀x,Im (q x) (p x)):Im (∀x,q x) (∀x,p x):=fun k x=>h x (k x)
theorem Im.a {q a b:Prop}(ha:a)(h:Im q b):Im q (a∧b):=fun k=>⟨ha,h k⟩
theorem Im.r {p:Prop}:Im p p:=fun h=>h
theorem aJ {a b:Prop}(hb:b)(ha:a:=by with_unfolding_all omega):a∧b:=⟨ha,hb⟩
theorem fin1 {p:Prop} (h:p:=by(repeat' with_reducible apply And.intro)<;>first|omega|exact zhk rfl rfl (by omega)|exact zbQ rfl rfl (by omega)|exact zeP rfl rfl (by omega)|exact zj2 (by repeat' first|exact bytes_flat|exact flat1|refine flat_app ?_ ?_)|exact zhs (fun _=>rfl)|exact ztc (c:=cN) (fun _=>rfl) rfl|exact zL (fun _=>rfl) (by decide) ⟨rfl,rfl⟩ trivial|exact zL (fun _=>rfl) (by decide) (fun _ _=>⟨rfl,rfl⟩) trivial | (simp;done)|fail):p:=h
theorem fin2 {p:Prop} (h:p:=by((repeat' with_reducible apply And.intro)<;>first|omega|rfl|exact zcU rfl | (refine RowV.of_flat ?_;(repeat' (first|exact zj (fun _=>rfl)|exact zj (fun _=>zn)|exact zj (fun _=>zb)|exact zx zn|exact zx zb|exact zaC rfl|exact zaj|exact zx rfl|refine zag ?_ ?_|refine zm rfl ?_|refine zm zn ?_|refine zm zb ?_));done) | ((repeat' (first|exact zj (fun _=>rfl)|exact zj (fun _=>zn)|exact zj (fun _=>zb)|exact zx zn|exact zx zb|exact zaC rfl|exact zaj|exact zx rfl|refine zag ?_ ?_|refine zm rfl ?_|refine zm zn ?_|refine zm zb ?_));done)|exact zhk rfl rfl (by omega)|exact zbQ rfl rfl (by omega)|exact zeP rfl rfl (by omega)|exact zhs (fun _=>rfl)|exact zL (fun _=>rfl) (by decide) ⟨rfl,rfl⟩ trivial|exact zL (fun _=>rfl) (by decide) (fun _ _=>⟨rfl,rfl⟩) trivial | (simp;done)|fail)):p:=h
def zB8 (n:Nat) (p:AV) (H:AH):Bool :=
 match p with
 |
  .ptr r q g i f=>match H.get r q with
  | some (.row sz els g')=>Wa g g'&&(Wc i els.length&&Wd (f+n) sz)
  | _=>false
 | .iptr m _=>Wd n m
 | _=>false
def zyB (n:Nat) (p v:AV) (H:AH):Bool :=
 match p with
 |
  .ptr r q g i f=>match H.get r q with
  | some (.row sz els g')=>Wa g g'&&(Wc i els.length&&(Wd (f+n) sz&&(v.solid&&Wa v.cells.length n)))
  | _=>false
 | _=>false
def idxS (sz:Nat) (x i:AV) (H:AH):Bool :=
 match x,i with
 | .sl sz' n _,.int _ k=>Wa sz' sz&&(decide (0≤k)&&decide (k < n))
 |
  .own r q g _ n,.int _ k=>match H.get r q with
  | some (.row sz' _ g')=>Wa sz' sz&&(Wa g g'&&(decide (0≤k)&&decide (k < n)))
  | _=>false
 | _,_=>false
def zto (off n:Nat) (x:AV):Bool :=
 match x with
 | .ptr ..=>true
 | .iptr m _=>Wd (off+n) m
 | _=>false
def fldS (off n:Nat) (x:AV):Bool :=
 match x with
 | .agg cs=>Wd (off+n) cs.length
 | _=>false
def lenS (x:AV):Bool :=
 match x with
 | .sl .. | .own .. | .nilsl | .cut=>true
 | _=>false
def slenS (x:AV):Bool :=
 match x with
 | .str _=>true
 | _=>false
def binS (op:BinOp) (x y:AV):Bool :=
 match x,y with
 |
  .int k _,.int k' b=>match op with
  | .quo | .rem=>decide (k=k')&&decide (b≠0)
  | .shl | .shr=>decide (0≤b)
  | _=>decide (k=k')
 | _,_=>false
def eqbS (x y:AV):Bool :=
 match x,y with
 | .bool _,.bool _=>true
 | _,_=>false
def unS (op:UnOp) (x:AV):Bool :=
 match op,x with
 | .not,.bool _=>true
 | .neg,.int _ _=>true
 | _,_=>false
def convS (x:AV):Bool :=
 match x with
 | .int _ _=>true
 | _=>false
def zGy (c:AV):Bool :=
 match c with
 | .bool _=>true
 | _=>false
def zEu (n:Nat):List (Nat × Nat × AV)→Bool
 | []=>true
 | (off,size,v)::r=>(v.solid&&(Wa v.cells.length size&&Wd (off+size) n))&&zEu n r
def setS (n sz:Nat):List (Nat × AV)→Bool
 | []=>true
 | (i,v)::r=>(v.solid&&(Wa v.cells.length sz&&Wc i n))&&setS n sz r
def mkslS (bytes:Nat) (l c:AV):Bool :=
 match l,c with
 | .int k n,.int k' m=>decide (k=.i64)&&(decide (k'=.i64)&&(decide (0≤n)&&(decide (n≤m)&&(decide (bytes * m≤140737488355328)&&Wc 0 bytes))))
 | _,_=>false
def loI:Option AV→Option Int
 | none=>some 0
 | some (.int _ k)=>some k
 | _=>none
def hiI (n:Nat):Option AV→Option Int
 | none=>some n
 | some (.int _ k)=>some k
 | _=>none
def zA6 (sz:Nat) (x:AV) (lo hi:Option AV) (H:AH):Bool :=
 match x with
 |
  .sl sz' n _=>match loI lo,hiI n hi with
  | some a,some b=>Wa sz' sz&&(decide (0≤a)&&(decide (a≤b)&&decide (b≤n)))
  | _,_=>false
 |
  .own r q g _ n=>match H.get r q,loI lo,hiI n hi with
  | some (.row sz' _ g'),some a,some b=>Wa sz' sz&&(Wa g g'&&(decide (0≤a)&&(decide (a≤b)&&decide (b≤n))))
  | _,_,_=>false
 |
  .nilsl=>match loI lo,hiI 0 hi with
  | some a,some b=>decide (a=0)&&decide (b=0)
  | _,_=>false
 | _=>false
def cutS (x:AV):Bool :=
 match x with
 | .sl _ _ _ | .own _ _ _ _ _ | .nilsl | .cut=>true
 | _=>false
def zCs (H:AH):AV→Bool
 |
  .own r q _ off n=>match H.get r q with
  | some (.row _ els _)=>Wd (off+n) els.length
  | _=>false
 | _=>true
def zsG (sz bytes:Nat) (x y:AV) (H:AH):Bool :=
 match zdU sz y H,lenV y with
 |
  some _,some m=>match x with
  |
   .own r q g off n=>match H.get r q with
   | some (.row sz' els g')=>Wa sz' sz&&(Wa g g'&&(Wd (off+n) els.length&&(zCs H y&&Wd ((n+m) * bytes) 140737488355328)))
   | _=>false
  | .nilsl | .cut=>zCs H y&&Wd (m * bytes) 140737488355328
  | _=>false
 | _,_=>false
def zAC (sz:Nat) (x:AV) (H:AH):Bool :=
 match x with
 |
  .own r q g off n=>match H.get r q with
  | some (.row sz' els g')=>Wa sz' sz&&(Wa g g'&&Wd (off+n) els.length)
  | _=>false
 | _=>false
def extS (i:Nat) (x:AV):Bool :=
 match x with
 | .tup vs=>Wc i vs.length
 | _=>false
def keyS:Option IntKind→AV→Bool
 | some q,.int k _=>decide (q=k)
 | none,.str _=>true
 | _,_=>false
def xopS:XOp→List AV→AH→Bool
 |
  .mark,[.own r q g _ n],H=>match H.get r q with
  | some (.row sz _ g')=>Wa sz 1&&(Wa g g'&&Wc 0 n)
  | _=>false
 | .nilck,[.ptr ..],_=>true
 | .nilck,[.iptr ..],_=>true
 | .seq _,[.str _,.str _],_=>true
 | .sidx,[.str s,.int _ k],_=>decide (0≤k)&&decide (k < s.size)
 |
  .b2s,[x],H=>match zdU 1 x H with
  | some els=>(zez els).isSome&&(zCs H x&&(lenV x).isSome)
  | none=>false
 | .s2b,[.str _],_=>true
 |
  .sapp,[.own r q g off n,.str s],H=>match H.get r q with
  | some (.row sz' els g')=>Wa sz' 1&&(Wa g g'&&(Wd (off+n) els.length&&Wd (n+s.size) 140737488355328))
  | _=>false
 | .sapp,[.nilsl,.str s],_=>Wd s.size 140737488355328
 | .sapp,[.cut,.str s],_=>Wd s.size 140737488355328
 | .min,[.int k _,.int k' _],_=>decide (k=k')
 | .max,[.int k _,.int k' _],_=>decide (k=k')
 | .eqs _ ss,[.agg a,.agg b],_=>(zS ss a b).isSome
 | .sl3 sz,[.sl sz' n _,.int _ b,.int _ c],_=>Wa sz' sz&&(decide (0≤b)&&(decide (b≤c)&&decide (c≤n)))
 |
  .sl3 sz,[.own r q g _ n,.int _ b,.int _ c],H=>match H.get r q with
  | some (.row sz' _ g')=>Wa sz' sz&&(Wa g g'&&(decide (0≤b)&&(decide (b≤c)&&decide (c≤n))))
  | _=>false
 | .sl3 _,[.nilsl,.int _ b,.int _ c],_=>decide (b=0)&&decide (c=0)
 | .capn,[.nilsl],_=>true
 | .apz sz bytes _,[.nilsl,.int _ n],_=>decide (0≤n)&&(decide (n * bytes≤140737488355328)&&(Wc 0 sz&&Wc 0 bytes))
 | .mkmap,[],_=>true
 | .mlook str _ _,[.nilmp,k],_=>keyS str k
 |
  .mlook str _ _,[.mp r q,k],H=>match H.get r q with
  | some (.row sz (_::es) g)=>(zfa k es 0).isSome&&(Wa sz 3&&(Wa g 0&&keyS str k))
  | _=>false
 |
  .mset str,[.mp r q,k,_],H=>match H.get r q with
  | some (.row sz ([.int .i64 c,_,_]::es) g)=>(zfa k es 0).isSome&&(Wa sz 3&&(Wa g 0&&(keyS str k&&decide (c < 1152921504606846976))))
  | _=>false
 | .mlen,[.nilmp],_=>true
 |
  .mlen,[.mp r q],H=>match H.get r q with
  | some (.row sz (_::es) g)=>Wa sz 3&&(Wa g 0&&Wd es.length big)
  | _=>false
 | .mdel str,[.nilmp,k],_=>keyS str k
 |
  .mdel str,[.mp r q,k],H=>match H.get r q with
  | some (.row sz (_::es) g)=>(zfa k es 0).isSome&&(Wa sz 3&&(Wa g 0&&keyS str k))
  | _=>false
 | .mrange,[.nilmp],_=>true
 |
  .mrange,[.mp r q],H=>match H.get r q with
  | some (.row sz ([.int .i64 _,_,_]::_) g)=>Wa sz 3&&Wa g 0
  | _=>false
 | .aidx len sz _,[.agg cs,.int _ k],_=>decide (0≤k)&&(decide (k < len)&&Wd (len * sz) cs.length)
 | .aaddr len _,[.ptr ..,.int _ k],_=>decide (0≤k)&&decide (k < len)
 | .aaddr len sz,[.iptr m _,.int _ k],_=>decide (0≤k)&&(decide (k < len)&&Wd (len * sz) m)
 | _,_,_=>false
def zjJ:AOp→(Nat→AV)→AH→Bool
 | .mov _,_,_=>true
 | .mknil _,_,_=>true
 | .pick c _ _,K,_=>zGy (ev K c)
 | .load _ n p,K,H=>zB8 n (ev K p) H
 | .store n p v,K,H=>zyB n (ev K p) (ev K v) H
 | .idx sz x i,K,H=>idxS sz (ev K x) (ev K i) H
 | .fldaddr off n x,K,_=>zto off n (ev K x)
 | .fld off n _ x,K,_=>fldS off n (ev K x)
 | .len x,K,_=>lenS (ev K x)
 | .slen x,K,_=>slenS (ev K x)
 | .bin op x y,K,_=>binS op (ev K x) (ev K y)
 | .eqb _ x y,K,_=>eqbS (ev K x) (ev K y)
 | .un op x,K,_=>unS op (ev K x)
 | .conv _ x,K,_=>convS (ev K x)
 | .build zero parts,K,_=>zEu zero.length (zc6 K parts)
 | .buildSl sz len _ parts,K,_=>setS len sz (zh4 K parts)
 | .box x,K,_=>(ev K x).solid
 | .rbox x,K,_=>(ev K x).solid&&zM (ev K x).cells
 | .rbuildSl sz len z parts,K,_=>setS len sz (zh4 K parts)&&(zel (Wf len z) (zh4 K parts)).all zM
 | .alloc _,_,_=>true
 | .mksl _ bytes _ l c,K,_=>mkslS bytes (ev K l) (ev K c)
 | .slice sz x lo hi,K,H=>zA6 sz (ev K x) (evO K lo) (evO K hi) H
 | .cut x,K,_=>cutS (ev K x)
 | .mkfn _ _,_,_=>true
 | .append sz bytes x y,K,H=>zsG sz bytes (ev K x) (ev K y) H
 | .clear sz _ x,K,H=>zAC sz (ev K x) H
 | .ext i x,K,_=>extS i (ev K x)
 | .xop x args,K,H=>xopS x (evs K args) H
 | _,_,_=>false
theorem beqT {a b:Nat} (h:Wa a b=true):a=b:=zl h
theorem bltT {a b:Nat} (h:Wc a b=true):a < b:=Wp h
theorem bleT {a b:Nat} (h:Wd a b=true):a≤b:=Wp h
theorem zoX {H:AH} {y:AV} (h:zCs H y=true):fits H y:=by
 unfold zCs at h;unfold fits;split at h
 ·
  split at h
  · rename_i e;simp only[e];exact bleT h
  · cases h
 ·
  rename_i hne;split
  · rename_i r q g off n;exact absurd rfl (hne r q g off n)
  · trivial
theorem zxM {n:Nat}:∀ {l:List (Nat × Nat × AV)},zEu n l=true→zpC n l
 | [],_=>trivial
 |
  (off,size,v)::r,h=>by
  simp only[zEu,Wb] at h;exact⟨⟨h.1.1,beqT h.1.2.1,bleT h.1.2.2⟩,zxM h.2⟩
theorem zwE {n sz:Nat}:∀ {l:List (Nat × AV)},setS n sz l=true→ztW n sz l
 | [],_=>trivial
 |
  (i,v)::r,h=>by
  simp only[setS,Wb] at h;exact⟨⟨h.1.1,beqT h.1.2.1,bltT h.1.2.2⟩,zwE h.2⟩
theorem zlG {k:Option IntKind} {v:AV} (h:keyS k v=true):zgK k v:=by
 unfold keyS at h;split at h
 · rename_i q k n;exact(of_decide_eq_true h:q=k)
 · trivial
 · cases h
theorem zye {agg:Bool} {n:Nat} {p:AV} {H:AH} {nx:Nat} (h:zB8 n p H=true):(zcP agg n p H nx).side:=by
 unfold zB8 at h;unfold zcP;split at h
 ·
  split at h
  · rename_i e;simp only[e];simp only[Wb] at h;exact⟨beqT h.1,bltT h.2.1,bleT h.2.2⟩
  · cases h
 · exact bleT h
 · cases h
theorem zDi {n:Nat} {p v:AV} {H:AH} {nx:Nat} (h:zyB n p v H=true):(zd9 n p v H nx).side:=by
 unfold zyB at h;unfold zd9;split at h
 ·
  split at h
  · rename_i e;simp only[e];simp only[Wb] at h;exact⟨beqT h.1,bltT h.2.1,bleT h.2.2.1,h.2.2.2.1,beqT h.2.2.2.2⟩
  · cases h
 · cases h
theorem zGA {sz:Nat} {x i:AV} {H:AH} {nx:Nat} (h:idxS sz x i H=true):(idxR sz x i H nx).side:=by
 unfold idxS at h;unfold idxR;split at h
 · simp only[Wb,decide_eq_true_eq] at h;exact⟨beqT h.1,h.2.1,h.2.2⟩
 ·
  split at h
  · rename_i e;simp only[e];simp only[Wb,decide_eq_true_eq] at h;exact⟨beqT h.1,beqT h.2.1,h.2.2.1,h.2.2.2⟩
  · cases h
 · cases h
theorem zGE {op:BinOp} {x y:AV} {H:AH} {nx:Nat} (h:binS op x y=true):(binI op x y H nx).side:=by
 unfold binS at h;unfold binI;split at h
 · cases op<;>simp only[Wb,decide_eq_true_eq] at h<;>exact h
 · cases h
theorem zCN {sz:Nat} {x:AV} {lo hi:Option AV} {H:AH} {nx:Nat} (h:zA6 sz x lo hi H=true):(zdH sz x lo hi H nx).side:=by
 unfold zA6 at h
 cases x with
 |
  sl sz' n f =>
  simp only at h;split at h
  · rename_i a b e1 e2;simp only[Wb,decide_eq_true_eq] at h;have:(zdH sz (.sl sz' n f) lo hi H nx).side=(match loI lo,hiI n hi with|some a,some b=>(⟨sz'=sz∧0≤a∧a≤b∧b≤n,True,.sl sz (b - a).toNat (fun i j=>f (a.toNat+i) j),H,nx⟩:ORes)|_,_=>bad H nx).side:=rfl;rw[this,e1,e2];exact⟨beqT h.1,h.2.1,h.2.2.1,h.2.2.2⟩
  · cases h
 |
  own r q g off n =>
  simp only at h;split at h
  · rename_i sz' els g' a b e1 e2 e3;simp only[Wb,decide_eq_true_eq] at h;have:(zdH sz (.own r q g off n) lo hi H nx).side=(match H.get r q,loI lo,hiI n hi with|some (.row sz' _ g'),some a,some b=>(⟨sz'=sz∧g=g'∧0≤a∧a≤b∧b≤n,True,.own r q g (off+a.toNat) (b - a).toNat,H,nx⟩:ORes)|_,_,_=>bad H nx).side:=rfl;rw[this,e1,e2,e3];exact⟨beqT h.1,beqT h.2.1,h.2.2.1,h.2.2.2.1,h.2.2.2.2⟩
  · cases h
 |
  nilsl =>
  simp only at h;split at h
  · rename_i a b e1 e2;simp only[Wb,decide_eq_true_eq] at h;have:(zdH sz .nilsl lo hi H nx).side=(match loI lo,hiI 0 hi with|some a,some b=>(⟨a=0∧b=0,True,.nilsl,H,nx⟩:ORes)|_,_=>bad H nx).side:=rfl;rw[this,e1,e2];exact⟨h.1,h.2⟩
  · cases h
 | _=>cases h
theorem zyG {sz bytes:Nat} {x y:AV} {H:AH} {nx:Nat} (h:zsG sz bytes x y H=true):(zdp sz bytes x y H nx).side:=by
 unfold zsG at h;unfold zdp;split at h
 ·
  rename_i e1 e2;simp only[e1,e2];split at h
  ·
   split at h
   · rename_i e3;simp only[e3];simp only[Wb] at h;exact⟨beqT h.1,beqT h.2.1,bleT h.2.2.1,zoX h.2.2.2.1,bleT h.2.2.2.2⟩
   · cases h
  · simp only[Wb] at h;exact⟨zoX h.1,bleT h.2⟩
  · simp only[Wb] at h;exact⟨zoX h.1,bleT h.2⟩
  · cases h
 · cases h
theorem zDc {sz:Nat} {zero:List AV} {x:AV} {H:AH} {nx:Nat} (h:zAC sz x H=true):(zgH sz zero x H nx).side:=by
 unfold zAC at h;unfold zgH;split at h
 ·
  split at h
  · rename_i e;simp only[e];simp only[Wb] at h;exact⟨beqT h.1,beqT h.2.1,bleT h.2.2⟩
  · cases h
 · cases h
theorem zF7 {x:XOp} {l:List AV} {H:AH} {nx:Nat} (h:xopS x l H=true):(xopR x l H nx).side:=by
 unfold xopS at h;split at h
 ·
  split at h
  · rename_i e;simp only[Wb] at h;simp only[xopR,zoJ,e];exact⟨beqT h.1,beqT h.2.1,bltT h.2.2⟩
  · cases h
 · trivial
 · trivial
 · trivial
 · simp only[Wb,decide_eq_true_eq] at h;exact⟨h.1,h.2⟩
 ·
  split at h
  · rename_i e;simp only[Wb] at h;obtain⟨l,hl⟩:=Wr.1 h.1;simp only[xopR,b2sR,e,hl];exact⟨zoX h.2.1,h.2.2⟩
  · cases h
 · trivial
 ·
  split at h
  · rename_i e;simp only[Wb] at h;simp only[xopR,znb,e];exact⟨beqT h.1,beqT h.2.1,bleT h.2.2.1,bleT h.2.2.2⟩
  · cases h
 · exact bleT h
 · exact bleT h
 · rename_i k a k' b;exact(of_decide_eq_true h:k=k')
 · rename_i k a k' b;exact(of_decide_eq_true h:k=k')
 · obtain⟨t,ht⟩:=Wr.1 h;simp only[xopR,eqsR,ht]
 · simp only[Wb,decide_eq_true_eq] at h;exact⟨beqT h.1,h.2.1,h.2.2.1,h.2.2.2⟩
 ·
  split at h
  · rename_i e;simp only[Wb,decide_eq_true_eq] at h;simp only[xopR,sl3R,e];exact⟨beqT h.1,beqT h.2.1,h.2.2.1,h.2.2.2.1,h.2.2.2.2⟩
  · cases h
 · simp only[Wb,decide_eq_true_eq] at h;exact⟨h.1,h.2⟩
 · trivial
 · simp only[Wb,decide_eq_true_eq] at h;exact⟨h.1,h.2.1,bltT h.2.2.1,bltT h.2.2.2⟩
 · trivial
 · exact zlG h
 ·
  split at h
  · rename_i e;simp only[Wb] at h;obtain⟨t,ht⟩:=Wr.1 h.1;simp only[xopR,zgY,e,ht];exact⟨beqT h.2.1,beqT h.2.2.1,zlG h.2.2.2⟩
  · cases h
 ·
  split at h
  ·
   rename_i e;simp only[Wb,decide_eq_true_eq] at h;obtain⟨t,ht⟩:=Wr.1 h.1;simp only[xopR,zkW,e,ht]
   cases t with
   | none=>exact⟨beqT h.2.1,beqT h.2.2.1,zlG h.2.2.2.1,h.2.2.2.2⟩
   | some p=>exact⟨beqT h.2.1,beqT h.2.2.1,zlG h.2.2.2.1⟩
  · cases h
 · trivial
 ·
  split at h
  · rename_i e;simp only[Wb] at h;simp only[xopR,zpD,e];exact⟨beqT h.1,beqT h.2.1,bleT h.2.2⟩
  · cases h
 · exact zlG h
 ·
  split at h
  ·
   rename_i e;simp only[Wb] at h;obtain⟨t,ht⟩:=Wr.1 h.1;simp only[xopR,zmA,e,ht]
   cases t with
   | none=>exact⟨beqT h.2.1,beqT h.2.2.1,zlG h.2.2.2⟩
   | some p=>exact⟨beqT h.2.1,beqT h.2.2.1,zlG h.2.2.2⟩
  · cases h
 · trivial
 ·
  split at h
  · rename_i e;simp only[Wb] at h;simp only[xopR,zdW,e];exact⟨beqT h.1,beqT h.2⟩
  · cases h
 · simp only[Wb,decide_eq_true_eq] at h;exact⟨h.1,h.2.1,bleT h.2.2⟩
 · simp only[Wb,decide_eq_true_eq] at h;exact h
 · simp only[Wb,decide_eq_true_eq] at h;exact⟨h.1,h.2.1,bleT h.2.2⟩
 · cases h
theorem zD8 {op:AOp} {K:Nat→AV} {H:AH} {nx:Nat} (h:zjJ op K H=true):(aop op K H nx).side:=by
 cases op with
 | mov|mknil|alloc|mkfn=>trivial
 | load a n p=>exact zye h
 | store n p v=>exact zDi h
 | idx s x i=>exact zGA h
 | slice s x lo hi=>exact zCN h
 | append s b x y=>exact zyG h
 | clear s z x=>exact zDc h
 | bin op x y=>exact zGE h
 | xop x xs=>exact zF7 h
 | build z ps=>exact zxM h
 | buildSl s l z ps=>exact zwE h
 |
  rbuildSl s l z ps =>
  simp only[zjJ,Wb] at h;exact⟨zwE h.1,h.2⟩
 | box x=>exact h
 |
  rbox x =>
  simp only[zjJ,Wb] at h;exact h
 |
  mksl s b z l c =>
  simp only[zjJ,mkslS] at h;simp only[aop,zmj];generalize ev K l=ul at h ⊢;generalize ev K c=uc at h ⊢;split at h
  · simp only[Wb,decide_eq_true_eq] at h;exact⟨h.1,h.2.1,h.2.2.1,h.2.2.2.1,h.2.2.2.2.1,bltT h.2.2.2.2.2⟩
  · cases h
 |
  pick c x y =>
  simp only[zjJ,zGy] at h;simp only[aop,zmZ];generalize ev K c=uc at h ⊢;split at h
  · trivial
  · cases h
 |
  fldaddr o n x =>
  simp only[zjJ,zto] at h;simp only[aop,zbS];generalize ev K x=ux at h ⊢;split at h
  · trivial
  · exact bleT h
  · cases h
 |
  fld o n a x =>
  simp only[zjJ,fldS] at h;simp only[aop,fldR];generalize ev K x=ux at h ⊢;split at h
  · exact bleT h
  · cases h
 |
  len x =>
  simp only[zjJ,lenS] at h;simp only[aop,lenR];generalize ev K x=ux at h ⊢
  split at h<;>first|trivial|cases h
 |
  slen x =>
  simp only[zjJ,slenS] at h;simp only[aop,zpN];generalize ev K x=ux at h ⊢
  split at h<;>first|trivial|cases h
 |
  eqb n x y =>
  simp only[zjJ,eqbS] at h;simp only[aop,eqB];generalize ev K x=ux at h ⊢;generalize ev K y=uy at h ⊢
  split at h<;>first|trivial|cases h
 |
  un o x =>
  simp only[zjJ,unS] at h;simp only[aop,unR];generalize ev K x=ux at h ⊢
  split at h<;>first|trivial|cases h
 |
  conv k x =>
  simp only[zjJ,convS] at h;simp only[aop,zmk];generalize ev K x=ux at h ⊢
  split at h<;>first|trivial|cases h
 |
  cut x =>
  simp only[zjJ,cutS] at h;simp only[aop,cutR];generalize ev K x=ux at h ⊢
  split at h<;>first|trivial|cases h
 |
  ext i x =>
  simp only[zjJ,extS] at h;simp only[aop,extR];generalize ev K x=ux at h ⊢;split at h
  · exact bltT h
  · cases h
 | _=>cases h
def frzV:Nat→AH→AV→AV
 | 0,_,_=>.undef
 |
  d+1,H,v=>match v with
  |
   .own r q g off n=>match H.get r q with
   | some (.row sz els g')=>bif Wa g g'&&(Wd n big&&Wd (off+n) els.length) then .sl sz n (fun i j=>frzV d H ((els.getD (off+i) []).getD j .undef)) else .undef
   | _=>.undef
  |
   .ptr r q g i o=>match H.get r q with
   | some (.row sz els g')=>bif Wa g g'&&(Wc i els.length&&Wd o sz) then .iptr (sz - o) (fun j=>frzV d H ((els.getD i []).getD (o+j) .undef)) else .undef
   | _=>.undef
  | .agg l=>.agg (l.map (frzV d H))
  | .tup l=>.tup (l.map (frzV d H))
  | .fn f l=>.fn f (l.map (frzV d H))
  | .mp _ _=>.undef
  | .it _=>.undef
  | .nilmp=>.undef
  | v=>v
theorem zjI {H:AH}:∀(d:Nat) (v:AV),Frz H v (frzV d H v)
 | 0,v=>.undef _ _
 |
  d+1,v=>by
  unfold frzV
  cases v with
  |
   own r q g off n =>
   simp only;split
   ·
    rename_i sz els g' e
    cases hb:Wa g g'&&(Wd n big&&Wd (off+n) els.length) with
    | false=>exact .undef _ _
    |
     true =>
     simp only[Wb] at hb;have hg:=beqT hb.1;subst hg
     exact .frz _ r q g off n sz els _ trivial e (bleT hb.2.1) (bleT hb.2.2) fun i j _ _=>zjI d _
   · exact .undef _ _
  |
   ptr r q g i o =>
   simp only;split
   ·
    rename_i sz els g' e
    cases hb:Wa g g'&&(Wc i els.length&&Wd o sz) with
    | false=>exact .undef _ _
    |
     true =>
     simp only[Wb] at hb;have hg:=beqT hb.1;subst hg;have h2:=bleT hb.2.2
     exact .frzp _ r q g i o (sz - o) sz els _ trivial e (bltT hb.2.1) (by omega) fun j _=>zjI d _
   · exact .undef _ _
  |
   agg l =>
   refine .agg _ _ _ (by simp) fun i a b h1 h2=>?_
   rw[Wi,h1] at h2;cases h2;exact zjI d a
  |
   tup l =>
   refine .tup _ _ _ (by simp) fun i a b h1 h2=>?_
   rw[Wi,h1] at h2;cases h2;exact zjI d a
  |
   fn f l =>
   refine .fn _ _ _ _ (by simp) fun i a b h1 h2=>?_
   rw[Wi,h1] at h2;cases h2;exact zjI d a
  | undef=>exact .undef _ _
  | int=>exact .int _ _ _
  | bool=>exact .bool _ _
  | str=>exact .str _ _
  | nilp=>exact .nilp _
  | iptr n c=>exact .iptr _ _ _
  | sl sz n f=>exact .sl _ _ _ _
  | nilsl=>exact .nilsl _
  | cut=>exact .cut _
  | nilfn=>exact .nilfn _
  | mp|it|nilmp=>exact .undef _ _
abbrev zbA:=FuncId→List AV→AH→Nat→Option (AV × AH × Nat)
def zbA.Sound (P:Program) (call:zbA):Prop:=∀f args H nx r,call f args H nx=some r→zab P f args H nx (fun v H' nx'=>(v,H',nx')=r)
def zDe (call:zbA) (f:FuncId) (args:List AV) (H:AH):Option AV :=
 bif args.all AV.flat then
  match call f args [] 0 with
  | some (v,H',_)=>some (frzV 9 H' v)
  | none=>none
 else
  match call f (args.map (frzV 9 H)) [] 0 with
  | some (v,H',_)=>bif (frzV 9 H' v).scal then some (frzV 9 H' v) else none
  | none=>none
def zqx (P:Program) (call:zbA) (op:AOp) (ρ:Nat→AV) (H:AH) (nx:Nat):Option (AV × AH × Nat) :=
 match op with
 | .call f args=>call f (evs ρ args) H nx
 |
  .callq f args=>match zDe call f (evs ρ args) H with
  | some v=>some (v,H,nx)
  | none=>none
 |
  .isnil neg p x=>match nilB p (ev ρ x) with
  | some (some b)=>some (.bool (b != neg),H,nx)
  | _=>none
 | .mnext _=>none
 |
  .callv x args=>match ev ρ x with
  | .fn (.func f) caps=>bif zfv P f then call f (evs ρ args++caps) H nx else none
  | _=>none
 | op=>bif zjJ op ρ H then some ((aop op ρ H nx).v,(aop op ρ H nx).H,(aop op ρ H nx).nx) else none
theorem zxJ {H:AH}:∀(l:List AV),Lend H allR l (l.map (frzV 9 H))
 | []=>.nil
 | a::l=>.cons (zjI 9 a) (zxJ l)
theorem zCc {P:Program} {call:zbA} (hs:call.Sound P) {f:FuncId} {args:List AV} {H:AH} {nx:Nat} {v:AV} (h:zDe call f args H=some v):zc0 P f args H nx v:=by
 unfold zDe at h
 cases hb:args.all AV.flat with
 |
  true =>
  rw[hb] at h;simp only[cond_true] at h;split at h
  ·
   rename_i v0 H' nx' e;cases h;refine zd ?_ hb
   exact(hs f args [] 0 _ e).mono fun v1 H1 nx1 e1=>by cases e1;exact⟨_,zjI 9 _,rfl⟩
  · cases h
 |
  false =>
  rw[hb] at h;simp only[cond_false] at h;split at h
  ·
   rename_i v0 H' nx' e
   cases hc:(frzV 9 H' v0).scal with
   | false=>rw[hc] at h;cases h
   |
    true =>
    rw[hc] at h;cases h;refine zbd (D:=allR) ?_ (zxJ args) (.inl hc)
    exact(hs f _ [] 0 _ e).mono fun v1 H1 nx1 e1=>by cases e1;exact⟨_,zjI 9 _,rfl⟩
  · cases h
theorem zsI {P:Program} {call:zbA} (hs:call.Sound P) {fx:Bool} {op:AOp} {ρ:Nat→AV} {H:AH} {nx:Nat} {r:AV × AH × Nat} {k:AV→AH→Nat→Prop} (h:zqx P call op ρ H nx=some r) (hk:k r.1 r.2.1 r.2.2) :
  zb1 P fx op ρ H nx k:=by
 have key:∀op':AOp,(bif zjJ op' ρ H then some ((aop op' ρ H nx).v,(aop op' ρ H nx).H,(aop op' ρ H nx).nx) else none)=some r→zk5 fx (aop op' ρ H nx) k:=fun op' h=>by
  cases hb:zjJ op' ρ H with
  | false=>rw[hb] at h;cases h
  |
   true =>
   rw[hb] at h;simp only[cond_true,Wh] at h;subst h;exact⟨zD8 hb,fun _=>hk⟩
 cases op with
 | call f args=>exact(hs f _ H nx r h).mono fun v H' nx' e _=>by subst e;exact hk
 |
  callq f args =>
  simp only[zqx] at h;split at h
  · rename_i v e;cases h;exact⟨v,zCc hs e,hk⟩
  · cases h
 | mnext x=>cases h
 |
  isnil neg p x =>
  simp only[zqx] at h;simp only[zb1];split at h
  · rename_i b e;cases h;rw[e];exact hk
  · cases h
 |
  callv x args =>
  simp only[zqx] at h;simp only[zb1];split at h
  ·
   rename_i f caps e
   cases hg:zfv P f with
   | false=>rw[hg] at h;cases h
   |
    true =>
    rw[hg] at h;rw[e];exact⟨hg,(hs f _ H nx r h).mono fun v H' nx' e _=>by subst e;exact hk⟩
  · cases h
 | _=>exact key _ h
abbrev St3:=Kn × AH × Nat
def oneX (P:Program) (call:zbA) (o:AOper) (K:Kn) (H:AH) (nx:Nat):Option St3 :=
 match o.guard with
 |
  none=>match zqx P call o.op K.get H nx with
  | some (v,H',nx')=>some (setO K o.dst v,H',nx')
  | none=>none
 |
  some (t,want)=>match grd want (K.get t) with
  |
   some true=>match zqx P call o.op K.get H nx with
   | some (v,H',nx')=>some (setO K o.dst v,H',nx')
   | none=>none
  | some false=>some (setO K o.dst (.tup []),H,nx)
  | none=>none
theorem zwJ {P:Program} {call:zbA} (hs:call.Sound P) {fx:Bool} {o:AOper} {K:Kn} {H:AH} {nx:Nat} {r:St3} {k:Kn→AH→Nat→Prop} (h:oneX P call o K H nx=some r) (hk:k r.1 r.2.1 r.2.2):ExK P fx o K H nx k:=by
 unfold oneX at h;unfold ExK
 cases hg:o.guard with
 |
  none =>
  rw[hg] at h;simp only at h ⊢;split at h
  · rename_i v H' nx' e;cases h;exact zsI hs e hk
  · cases h
 |
  some p =>
  obtain⟨t,want⟩:=p;rw[hg] at h;simp only at h ⊢
  cases hw:grd want (K.get t) with
  | none=>rw[hw] at h;cases h
  |
   some b =>
   rw[hw] at h
   cases b with
   |
    true =>
    simp only at h;split at h
    · rename_i v H' nx' e;cases h;exact⟨fun _=>zsI hs e hk,fun hf=>(by cases hf)⟩
    · cases h
   |
    false =>
    cases h;exact⟨fun hf=>(by cases hf),fun _=>hk⟩
def zDb (P:Program) (call:zbA):List AOper→Kn→AH→Nat→Option St3
 | [],K,H,nx=>some (K,H,nx)
 |
  o::os,K,H,nx=>match oneX P call o K H nx with
  | some (K',H',nx')=>zDb P call os K' H' nx'
  | none=>none
theorem zyb {P:Program} {call:zbA} (hs:call.Sound P) {drop:List Nat} {Q:QT}:∀ {os:List AOper} {K:Kn} {H:AH} {nx:Nat} {r:St3},zDb P call os K H nx=some r→Q .normal (r.1.drop drop) r.2.1 r.2.2→aops P os drop Q K H nx
 |
  [],K,H,nx,r,h,hq=>by
  cases h;exact hq
 |
  o::os,K,H,nx,r,h,hq=>by
  simp only[zDb] at h;split at h
  · rename_i K' H' nx' e;exact zwJ hs e (zyb hs h hq)
  · cases h
def zn8 (P:Program) (call:zbA):DTree→Kn→AH→Nat→Option St3
 | .done,K,H,nx=>some (K,H,nx)
 | .stop,_,_,_=>none
 |
  .step o t,K,H,nx=>match oneX P call o K H nx with
  | some (K',H',nx')=>zn8 P call t K' H' nx'
  | none=>none
 |
  .alt o t .stop,K,H,nx=>match oneX P call o K H nx with
  | some (K',H',nx')=>zn8 P call t K' H' nx'
  | none=>none
 | .alt _ _ _,_,_,_=>none
theorem zqb {P:Program} {call:zbA} (hs:call.Sound P) {drop:List Nat} {Q:QT}:∀ {t:DTree} {K:Kn} {H:AH} {nx:Nat} {r:St3},zn8 P call t K H nx=some r→Q .normal (r.1.drop drop) r.2.1 r.2.2→awpT P t drop Q K H nx
 |
  .done,K,H,nx,r,h,hq=>by
  cases h;exact hq
 | .stop,_,_,_,_,h,_=>by cases h
 |
  .step o t,K,H,nx,r,h,hq=>by
  simp only[zn8] at h;split at h
  · rename_i K' H' nx' e;exact zwJ hs e (zqb hs h hq)
  · cases h
 |
  .alt o t .stop,K,H,nx,r,h,hq=>by
  simp only[zn8] at h;split at h
  · rename_i K' H' nx' e;exact⟨zwJ hs e (zqb hs h hq),trivial⟩
  · cases h
 | .alt _ _ .done,_,_,_,_,h,_=>by cases h
 | .alt _ _ (.step _ _),_,_,_,_,h,_=>by cases h
 | .alt _ _ (.alt _ _ _),_,_,_,_,h,_=>by cases h
abbrev Out:=AExit × Kn × AH × Nat
def retS (K:Kn) (H:AH):List ARet→Bool
 | []=>true
 | .tmp _::r=>retS K H r
 | .cell t _ n::r=>zB8 n (K.get t) H&&retS K H r
theorem zta {K:Kn} {H:AH} {nx:Nat}:∀ {rs:List ARet},retS K H rs=true→zbk K H nx rs
 | [],_=>trivial
 | .tmp _::r,h=>zta (rs:=r) h
 |
  .cell t a n::r,h=>by
  simp only[retS,Wb] at h;exact⟨zye h.1,zta h.2⟩
section
variable {P:Program} {qf:FuncId→Nat→List Nat} {orc:zbA}
def QX (r:Out):QT:=fun e K H nx=>(e,K,H,nx)=r
def noOrc:zbA:=fun _ _ _ _=>none
theorem zlC:noOrc.Sound P:=fun _ _ _ _ _ h=>by cases h
end
abbrev Sg:=Nat→Option Nat
def Sg.two (σ:Sg):Nat→Nat→Option (Nat × Nat × Nat):=fun r' q'=>match σ r' with
 | some r=>some (r,q',0)
 | none=>none
theorem Sg.two_some {σ:Sg} {r' q' r:Nat} (h:σ r'=some r):σ.two r' q'=some (r,q',0):=by unfold Sg.two;rw[h]
theorem Sg.of_two {σ:Sg} {r' q':Nat} {x:Nat × Nat × Nat} (h:σ.two r' q'=some x):σ r'=some x.1∧x=(x.1,q',0):=by
 unfold Sg.two at h;split at h
 · rename_i r e;cases h;exact⟨e,rfl⟩
 · cases h
def isS (σ:Sg) (r' r:Nat):Bool:=match σ r' with
 | some x=>Wa x r
 | none=>false
theorem zol {σ:Sg} {r' r:Nat} (h:isS σ r' r=true):σ r'=some r:=by
 unfold isS at h;split at h
 · rename_i x e;rw[e,zl h]
 · cases h
def okB (σ:Sg):Nat→AV→Bool
 | 0,_=>false
 |
  d+1,v=>match v with
  | .own r _ _ _ _=>isS σ r r
  | .ptr r _ _ _ _=>isS σ r r
  | .mp r _=>isS σ r r
  | .it r=>isS σ r r
  | .agg l=>l.all (okB σ d)
  | .tup l=>l.all (okB σ d)
  | .fn _ l=>l.all (okB σ d)
  | _=>true
def noD:Nat→Nat→Prop:=fun _ _=>False
theorem zCM {H H2:AH} {σ:Sg}:∀(d:Nat) (v:AV),okB σ d v=true→Vw H H2 σ.two noD true v v
 | 0,_,h=>by cases h
 |
  d+1,v,h=>by
  unfold okB at h
  have inl:∀l:List AV,l.all (okB σ d)=true→∀(i:Nat) (a b:AV),l[i]? = some a→l[i]? = some b→Vw H H2 σ.two noD true a b:=fun l hl i a b h1 h2=>by rw[h1] at h2;cases h2;exact zCM d a (We.1 hl a (Ws h1))
  cases v with
  | own r q g o n=>exact .own _ _ _ 0 _ _ _ _ g (Sg.two_some (zol h)) rfl
  | ptr r q g i f=>exact .ptr _ _ _ 0 _ _ _ _ g (Sg.two_some (zol h)) rfl
  | mp r q=>exact .mp _ _ _ _ (Sg.two_some (zol h))
  | it r=>exact .it _ _ (Sg.two_some (zol h))
  | agg l=>exact .agg _ _ _ rfl (inl l h)
  | tup l=>exact .tup _ _ _ rfl (inl l h)
  | fn f l=>exact .fn _ _ _ _ rfl (inl l h)
  | undef=>exact .undef _ _
  | int=>exact .int _ _ _
  | bool=>exact .bool _ _
  | str=>exact .str _ _
  | nilp=>exact .nilp _
  | iptr=>exact .iptr _ _ _
  | sl=>exact .sl _ _ _ _
  | nilsl=>exact .nilsl _
  | cut=>exact .cut _
  | nilfn=>exact .nilfn _
  | nilmp=>exact .nilmp _
def zkV {α β:Type} (p:α→β→Bool):List α→List β→Bool
 | [],[]=>true
 | a::l,b::m=>p a b&&zkV p l m
 | _,_=>false
theorem zdh {α β:Type} {p:α→β→Bool}:∀ {l:List α} {m:List β},zkV p l m=true→l.length=m.length
 | [],[],_=>rfl
 |
  a::l,b::m,h=>by
  simp only[zkV,Wb] at h;rw[WI,WI,zdh h.2]
 | [],_::_,h=>by cases h
 | _::_,[],h=>by cases h
theorem zjL {α β:Type} {p:α→β→Bool}:∀ {l:List α} {m:List β},zkV p l m=true→∀(i:Nat) (a:α) (b:β),l[i]? = some a→m[i]? = some b→p a b=true
 | [],[],_,i,a,b,h,_=>by simp at h
 |
  a::l,b::m,h,i,x,y,hx,hy=>by
  simp only[zkV,Wb] at h
  cases i with
  | zero=>simp at hx hy;subst hx hy;exact h.1
  | succ i=>exact zjL h.2 i x y (by simpa using hx) (by simpa using hy)
 | [],_::_,h,_,_,_,_,_=>by cases h
 | _::_,[],h,_,_,_,_,_=>by cases h
def zyU:IntKind→Nat
 | .i8=>0 | .i16=>1 | .i32=>2 | .i64=>3 | .u8=>4 | .u16=>5 | .u32=>6 | .u64=>7
theorem zuP {k k':IntKind} (h:zyU k=zyU k'):k=k':=by
 cases k<;>cases k'<;>first|rfl|cases h
def beqI:Int→Int→Bool
 | .ofNat a,.ofNat b=>Wa a b
 | .negSucc a,.negSucc b=>Wa a b
 | _,_=>false
theorem zDg:∀ {a b:Int},beqI a b=true→a=b
 | .ofNat a,.ofNat b,h=>by rw[zl h]
 | .negSucc a,.negSucc b,h=>by rw[zl (a:=a) (b:=b) h]
 | .ofNat _,.negSucc _,h=>by cases h
 | .negSucc _,.ofNat _,h=>by cases h
def beqU:List UInt8→List UInt8→Bool
 | [],[]=>true
 | a::l,b::m=>Wa a.toNat b.toNat&&beqU l m
 | _,_=>false
theorem zBP:∀ {l m:List UInt8},beqU l m=true→l=m
 | [],[],_=>rfl
 |
  a::l,b::m,h=>by
  simp only[beqU,Wb] at h;rw[UInt8.toNat_inj.1 (zl h.1),zBP h.2]
 | [],_::_,h=>by cases h
 | _::_,[],h=>by cases h
def beqS (s t:ByteArray):Bool:=beqU s.data.toList t.data.toList
theorem zBL {s t:ByteArray} (h:beqS s t=true):s=t:=by obtain⟨⟨l⟩⟩:=s;obtain⟨⟨m⟩⟩:=t;have:=zBP h;simp only at this;rw[this]
def fnN:Fn→Option Nat
 | .func f=>some f
 | _=>none
theorem zFH {f g:Fn} {n:Nat} (h:fnN f=some n) (h':fnN g=some n):f=g:=by
 cases f<;>cases g<;>simp_all [fnN]
def vw0B:Nat→AV→AV→Bool
 | 0,_,_=>false
 |
  d+1,a,b=>match a,b with
  | _,.undef=>true
  | .int k n,.int k' n'=>Wa (zyU k) (zyU k')&&beqI n n'
  | .bool x,.bool y=>x == y
  | .str s,.str t=>beqS s t
  | .nilp,.nilp=>true
  | .nilsl,.nilsl=>true
  | .nilfn,.nilfn=>true
  | .nilmp,.nilmp=>true
  | .cut,.cut=>true
  | .sl sz n f,.sl sz' n' f'=>Wa sz sz'&&(Wa n n'&&allB n fun i=>allB sz fun j=>vw0B d (f i j) (f' i j))
  | .iptr n c,.iptr n' c'=>Wa n n'&&allB n fun j=>vw0B d (c j) (c' j)
  | .agg l,.agg m=>zkV (vw0B d) l m
  | .tup l,.tup m=>zkV (vw0B d) l m
  | .fn f l,.fn g m=>(match fnN f,fnN g with|some x,some y=>Wa x y|_,_=>false)&&zkV (vw0B d) l m
  | _,_=>false
theorem zqM {H H2:AH} {σ:Sg}:∀(d:Nat) (a b:AV),vw0B d a b=true→∀t,Vw H H2 σ.two noD t a b
 | 0,_,_,h,_=>by cases h
 |
  d+1,a,b,h,t=>by
  have inl:∀l m:List AV,zkV (vw0B d) l m=true→∀(i:Nat) (a b:AV),l[i]? = some a→m[i]? = some b→Vw H H2 σ.two noD t a b:=fun l m hl i a b h1 h2 =>
   zqM d a b (zjL hl i a b h1 h2) t
  unfold vw0B at h;split at h
  · exact .undef _ _
  · simp only[Wb] at h;rw[zuP (zl h.1),zDg h.2];exact .int _ _ _
  · rw[beq_iff_eq] at h;subst h;exact .bool _ _
  · rw[zBL h];exact .str _ _
  · exact .nilp _
  · exact .nilsl _
  · exact .nilfn _
  · exact .nilmp _
  · exact .cut _
  ·
   simp only[Wb] at h;obtain⟨h1,h2,h3⟩:=h;cases zl h1;cases zl h2
   exact .slf _ _ _ _ _ fun i j hi hj=>zqM d _ _ (za7 (za7 h3 hi) hj) false
  ·
   simp only[Wb] at h;obtain⟨h1,h2⟩:=h;cases zl h1
   exact .iptrf _ _ _ _ fun j hj=>zqM d _ _ (za7 h2 hj) false
  · exact .agg _ _ _ (zdh h) (inl _ _ h)
  · exact .tup _ _ _ (zdh h) (inl _ _ h)
  ·
   rename_i f l g m;simp only[Wb] at h;obtain⟨h1,h2⟩:=h
   cases e1:fnN f with
   | none=>rw[e1] at h1;cases h1
   |
    some x =>
    cases e2:fnN g with
    | none=>rw[e1,e2] at h1;cases h1
    |
     some y =>
     rw[e1,e2] at h1;cases zl h1;rw[zFH e1 e2];exact .fn _ _ _ _ (zdh h2) (inl _ _ h2)
  · cases h
def vwB (σ:Sg):Nat→AV→AV→Bool
 | 0,_,_=>false
 |
  d+1,a,b=>match a,b with
  | _,.undef=>true
  | .int k n,.int k' n'=>Wa (zyU k) (zyU k')&&beqI n n'
  | .bool x,.bool y=>x == y
  | .str s,.str t=>beqS s t
  | .nilp,.nilp=>true
  | .nilsl,.nilsl=>true
  | .nilfn,.nilfn=>true
  | .nilmp,.nilmp=>true
  | .cut,.cut=>true
  | .own r q g o n,.own r' q' g' o' n'=>isS σ r' r&&(Wa q q'&&(Wa g g'&&(Wa o o'&&Wa n n')))
  | .ptr r q g o n,.ptr r' q' g' o' n'=>isS σ r' r&&(Wa q q'&&(Wa g g'&&(Wa o o'&&Wa n n')))
  | .mp r q,.mp r' q'=>isS σ r' r&&Wa q q'
  | .it r,.it r'=>isS σ r' r
  | .sl sz n f,.sl sz' n' f'=>vw0B (d+1) (.sl sz n f) (.sl sz' n' f')
  | .iptr n c,.iptr n' c'=>vw0B (d+1) (.iptr n c) (.iptr n' c')
  | .agg l,.agg m=>zkV (vwB σ d) l m
  | .tup l,.tup m=>zkV (vwB σ d) l m
  | .fn f l,.fn g m=>(match fnN f,fnN g with|some x,some y=>Wa x y|_,_=>false)&&zkV (vwB σ d) l m
  | _,_=>false
theorem zxZ {H H2:AH} {σ:Sg}:∀(d:Nat) (a b:AV),vwB σ d a b=true→Vw H H2 σ.two noD true a b
 | 0,_,_,h=>by cases h
 |
  d+1,a,b,h=>by
  have inl:∀l m:List AV,zkV (vwB σ d) l m=true→∀(i:Nat) (a b:AV),l[i]? = some a→m[i]? = some b→Vw H H2 σ.two noD true a b:=fun l m hl i a b h1 h2 =>
   zxZ d a b (zjL hl i a b h1 h2)
  unfold vwB at h;split at h
  · exact .undef _ _
  · simp only[Wb] at h;rw[zuP (zl h.1),zDg h.2];exact .int _ _ _
  · rw[beq_iff_eq] at h;subst h;exact .bool _ _
  · rw[zBL h];exact .str _ _
  · exact .nilp _
  · exact .nilsl _
  · exact .nilfn _
  · exact .nilmp _
  · exact .cut _
  · simp only[Wb] at h;obtain⟨h1,h2,h3,h4,h5⟩:=h;cases zl h2;cases zl h3;cases zl h4;cases zl h5;exact .own _ _ _ 0 _ _ _ _ _ (Sg.two_some (zol h1)) rfl
  · simp only[Wb] at h;obtain⟨h1,h2,h3,h4,h5⟩:=h;cases zl h2;cases zl h3;cases zl h4;cases zl h5;exact .ptr _ _ _ 0 _ _ _ _ _ (Sg.two_some (zol h1)) rfl
  · simp only[Wb] at h;cases zl h.2;exact .mp _ _ _ _ (Sg.two_some (zol h.1))
  · exact .it _ _ (Sg.two_some (zol h))
  · exact zqM _ _ _ h _
  · exact zqM _ _ _ h _
  · exact .agg _ _ _ (zdh h) (inl _ _ h)
  · exact .tup _ _ _ (zdh h) (inl _ _ h)
  ·
   rename_i f l g m;simp only[Wb] at h;obtain⟨h1,h2⟩:=h
   cases e1:fnN f with
   | none=>rw[e1] at h1;cases h1
   |
    some x =>
    cases e2:fnN g with
    | none=>rw[e1,e2] at h1;cases h1
    |
     some y =>
     rw[e1,e2] at h1;cases zl h1;rw[zFH e1 e2];exact .fn _ _ _ _ (zdh h2) (inl _ _ h2)
  · cases h
def sgR (lo cnt top nx2:Nat):Sg:=fun r' =>
 bif Wd lo r'&&Wc r' (lo+cnt) then some (r' - lo+top) else bif Wc r' top&&Wc r' nx2 then some r' else none
def rowB (σ:Sg):List AV→List AV→Bool:=zkV (vwB σ 30)
def zDd (σ:Sg) (nx2:Nat) (H:AH):AH→Bool
 | []=>true
 | (r',o)::t=>(Wc r' nx2&&(match o with
   |
    .row sz els2 g2=>match σ r' with
    |
     some r=>match H.look r with
     | some (.row sz' els g)=>Wa sz sz'&&(Wa g g2&&zkV (rowB σ) els els2)
     | _=>false
    | none=>false
   | _=>false))&&zDd σ nx2 H t
theorem zsJ:∀ {H:AH} {r:Nat} {o:AObj},H.look r=some o→(r,o)∈H
 | [],r,o,h=>by cases h
 |
  (j,u)::t,r,o,h=>by
  simp only[AH.look] at h
  cases hb:Wa j r with
  |
   true =>
   rw[hb] at h;cases h;rw[zl hb];simp
  |
   false =>
   rw[hb] at h;exact WA _ (zsJ h)
theorem zpO {σ:Sg} {nx2:Nat} {H:AH}:∀ {H2:AH},zDd σ nx2 H H2=true→∀ {r':Nat} {o:AObj},(r',o)∈H2→r' < nx2∧∃sz els2 g r els,o=.row sz els2 g∧σ r'=some r∧H.look r=some (.row sz els g)∧zkV (rowB σ) els els2=true
 | [],_,_,_,hm=>by simp at hm
 |
  (j,u)::t,h,r',o,hm=>by
  simp only[zDd,Wb] at h;obtain⟨⟨h1,h2⟩,h3⟩:=h
  rcases Wm.1 hm with e|hm
  ·
   cases e;refine⟨bltT h1,?_⟩;split at h2
   ·
    rename_i sz els2 g2;split at h2
    ·
     rename_i r hr;split at h2
     · rename_i sz' els g hl;simp only[Wb] at h2;obtain⟨a1,a2,a3⟩:=h2;cases zl a1;cases zl a2;exact⟨_,_,_,r,els,rfl,hr,hl,a3⟩
     · cases h2
    · cases h2
   · cases h2
  · exact zpO h3 hm
theorem zE4 {B lo cnt top nx2:Nat} {H H2:AH} (hB:B≤lo) (hBt:B≤top) (hB2:B≤nx2) (hlo:lo+cnt≤nx2) (hr:zDd (sgR lo cnt top nx2) nx2 H H2=true):View B H H2 nx2 (sgR lo cnt top nx2).two noD:=by
 have cases':∀ {r' r:Nat},sgR lo cnt top nx2 r'=some r→(lo≤r'∧r' < lo+cnt∧r=r' - lo+top)∨(r' < top∧r' < nx2∧r=r'):=fun {r' r} h=>by
  unfold sgR at h
  cases hb:Wd lo r'&&Wc r' (lo+cnt) with
  |
   true =>
   rw[hb] at h;simp only[Wb] at hb;cases h;exact .inl ⟨bleT hb.1,bltT hb.2,rfl⟩
  |
   false =>
   rw[hb] at h
   cases hc:Wc r' top&&Wc r' nx2 with
   |
    true =>
    rw[hc] at h;simp only[Wb] at hc;cases h;exact .inr ⟨bltT hc.1,bltT hc.2,rfl⟩
   | false=>rw[hc] at h;cases h
 refine⟨hB2,fun r q h=>?_,?_,fun _ _ _ _ _ _ h=>h,?_,fun r o h=>(zpO hr (zsJ h)).1,fun r' q' sz els2 g2 h=>?_⟩
 ·
  refine Sg.two_some ?_;unfold sgR
  have h1:Wd lo r=false:=by
   cases hb:Wd lo r with
   | false=>rfl
   | true=>have:=bleT hb;omega
  have h2:Wc r top=true:=by
   cases hb:Wc r top with
   | true=>rfl
   |
    false =>
    have:=WJ (fun h:r < top=>by
     have:Wc r top=true:=by simpa [Wn] using h
     rw[hb] at this
     cases this)
    omega
  have h3:Wc r nx2=true:=by
   cases hb:Wc r nx2 with
   | true=>rfl
   |
    false =>
    have:=WJ (fun h:r < nx2=>by
     have:Wc r nx2=true:=by simpa [Wn] using h
     rw[hb] at this
     cases this)
    omega
  rw[h1,h2,h3];rfl
 ·
  intro r1 q1 r2 q2 r q d1 d2 h1 h2;obtain⟨a1,a2⟩:=Sg.of_two h1;obtain⟨b1,b2⟩:=Sg.of_two h2;cases a2;cases b2;refine⟨?_,rfl⟩
  rcases cases' a1 with ⟨x1,x2,x3⟩ | ⟨x1,x2,x3⟩<;>rcases cases' b1 with ⟨y1,y2,y3⟩ | ⟨y1,y2,y3⟩<;>simp only at x3 y3<;>omega
 ·
  intro r' q' x h;obtain⟨a1,_⟩:=Sg.of_two h
  rcases cases' a1 with ⟨x1,x2,_⟩ | ⟨_,x2,_⟩<;>omega
 ·
  unfold AH.get at h
  cases hl:H2.look r' with
  | none=>rw[hl] at h;cases h
  |
   some o =>
   rw[hl] at h;obtain⟨_,sz',els2',g',r,els,rfl,h2,h3,h4⟩:=zpO hr (zsJ hl)
   cases q' with
   | succ q'=>cases h
   |
    zero =>
    cases h;refine .inl ⟨r,0,0,els,Sg.two_some h2,?_,?_⟩
    · unfold AH.get;rw[h3];rfl
    ·
     refine⟨(zdh h4).symm,fun i c2 hi=>?_⟩
     have hi':i < els.length:=by rw[zdh h4];exact(Wv.1 hi).1
     have hc:=zjL h4 i _ _ (Wk hi') hi;exact⟨_,Wk hi',(zdh hc).symm,fun j a b h5 h6=>zxZ 30 a b (zjL hc j a b h5 h6)⟩
end Go.Ab
