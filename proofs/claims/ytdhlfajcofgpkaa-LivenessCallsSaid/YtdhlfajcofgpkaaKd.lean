/-
  Part 4 of the proof: how the calls of this program run, over values instead of memory, and what each function computes.
-/
import Derived.ProofKit
import Derived.LoopN
import Derived.Test.YtdhlfajcofgpkaaKc
set_option maxRecDepth 100000
set_option linter.unusedVariables false
set_option linter.unusedSimpArgs false
set_option linter.unnecessarySimpa false
set_option linter.unusedSectionVars false
namespace Go.Ab
open Go.RowKit
section
variable {H HH:AH} {σ:Nat→Nat→Option (Nat × Nat × Nat)} {D:Nat→Nat→Prop} {t:Bool}
theorem ztr {k k':IntKind} {n m:Int}:Vw H HH σ D t (.int k n) (.int k' m)=(k=k'∧n=m):=by
 refine propext ⟨fun h=>by cases h;exact ⟨rfl,rfl⟩,?_⟩
 rintro ⟨rfl,rfl⟩
 exact .int _ _ _
theorem zrw {a b:Bool}:Vw H HH σ D t (.bool a) (.bool b)=(a=b):=by
 refine propext ⟨fun h=>by cases h;rfl,?_⟩
 rintro rfl
 exact .bool _ _
theorem zsY {r q g o n r' q' g' o' n':Nat}:Vw H HH σ D true (.own r q g o n) (.own r' q' g' o' n')=((σ r' q'=some (r,q,g - g')∧g'≤g)∧o=o'∧n=n'):=by
 refine propext ⟨fun h=>?_,?_⟩
 ·
  cases h
  rename_i d hs hg
  subst hg
  exact ⟨⟨by rw [hs,Nat.add_sub_cancel_left],by omega⟩,rfl,rfl⟩
 ·
  rintro ⟨⟨h1,h2⟩,rfl,rfl⟩
  exact .own r q g (g - g') o n r' q' g' h1 (by omega)
theorem zsK {r q g i f r' q' g' i' f':Nat}:Vw H HH σ D true (.ptr r q g i f) (.ptr r' q' g' i' f')=((σ r' q'=some (r,q,g - g')∧g'≤g)∧i=i'∧f=f'):=by
 refine propext ⟨fun h=>?_,?_⟩
 ·
  cases h
  rename_i d hs hg
  subst hg
  exact ⟨⟨by rw [hs,Nat.add_sub_cancel_left],by omega⟩,rfl,rfl⟩
 ·
  rintro ⟨⟨h1,h2⟩,rfl,rfl⟩
  exact .ptr r q g (g - g') i f r' q' g' h1 (by omega)
def VwL (H HH:AH) (σ:Nat→Nat→Option (Nat × Nat × Nat)) (D:Nat→Nat→Prop) (t:Bool):List AV→List AV→Prop
 | [],[]=>True
 | a::l,b::m=>Vw H HH σ D t a b∧VwL H HH σ D t l m
 | _,_=>False
theorem VwL.get:∀ {l m:List AV},VwL H HH σ D t l m→l.length=m.length∧∀ (i:Nat) (a b:AV),l[i]? = some a→m[i]? = some b→Vw H HH σ D t a b
 | [],[],_=>⟨rfl,fun i a b h=>by cases h⟩
 |
  a::l,b::m,h=>by
  obtain ⟨h1,h2⟩:=VwL.get h.2
  refine ⟨by simp [h1],fun i x y hx hy=>?_⟩
  cases i with
  | zero=>cases hx;cases hy;exact h.1
  | succ i=>exact h2 i x y (by simpa using hx) (by simpa using hy)
 | [],b::m,h=>h.elim
 | a::l,[],h=>h.elim
theorem VwL.of:∀ {l m:List AV},l.length=m.length→(∀ (i:Nat) (a b:AV),l[i]? = some a→m[i]? = some b→Vw H HH σ D t a b)→VwL H HH σ D t l m
 | [],[],_,_=>trivial
 | a::l,b::m,h,hh=>⟨hh 0 a b rfl rfl,VwL.of (by simpa using h) (fun i x y hx hy=>hh (i+1) x y (by simpa using hx) (by simpa using hy))⟩
 | [],b::m,h,_=>by cases h
 | a::l,[],h,_=>by cases h
theorem zuY {f f':Fn} {l m:List AV}:Vw H HH σ D t (.fn f l) (.fn f' m)=(f=f'∧VwL H HH σ D t l m):=by
 refine propext ⟨fun h=>?_,?_⟩
 ·
  cases h with
  | fn _ _ _ _ hl h=>exact ⟨rfl,VwL.of hl h⟩
 ·
  rintro ⟨rfl,h⟩
  exact .fn _ _ _ _ h.get.1 h.get.2
theorem ztj {l m:List AV}:Vw H HH σ D t (.agg l) (.agg m)=VwL H HH σ D t l m:=by
 refine propext ⟨fun h=>?_,fun h=>.agg _ _ _ h.get.1 h.get.2⟩
 cases h with
 | agg _ _ _ hl h=>exact VwL.of hl h
theorem ztm {l m:List AV}:Vw H HH σ D t (.tup l) (.tup m)=VwL H HH σ D t l m:=by
 refine propext ⟨fun h=>?_,fun h=>.tup _ _ _ h.get.1 h.get.2⟩
 cases h with
 | tup _ _ _ hl h=>exact VwL.of hl h
theorem zsG {r' q' g' o n:Nat}:Vw H HH σ D true .nilsl (.own r' q' g' o n)=(σ r' q'=none∧(∃ sz,HH.get r' q'=some (.row sz [] 0))∧g'=0∧o=0∧n=0):=by
 refine propext ⟨fun h=>?_,?_⟩
 ·
  cases h with
  | new _ _ sz hs hg=>exact ⟨hs,⟨sz,hg⟩,rfl,rfl,rfl⟩
 ·
  rintro ⟨h1,⟨sz,h2⟩,rfl,rfl,rfl⟩
  exact .new _ _ sz h1 h2
def zxg (H HH:AH) (σ:Nat→Nat→Option (Nat × Nat × Nat)) (D:Nat→Nat→Prop) (sz:Nat) (els2:List (List AV)) (g:Nat) (o:Option AObj):Prop:=match o with
 | some (.row sz' els g')=>(sz'=sz∧g'=g)∧RowV H HH σ D els els2
 | _=>False
def ztY (H HH:AH) (tb:Tab) (ds:List Nat) (sz:Nat) (els2:List (List AV)) (g2:Nat):Option (Nat × Nat)→Prop
 | some (r,d)=>zxg H HH tb.sig (inD ds) sz els2 (g2+d) (H.get r 0)
 | none=>els2=[]∧g2=0
theorem zon {tb:Tab} {ds:List Nat} {n r' sz g2:Nat} {els2:List (List AV)} {u:AH} :
  zhY H HH tb ds n ((r', .row sz els2 g2)::u)=(r' < n∧ztY H HH tb ds sz els2 g2 (tb.at r')∧zhY H HH tb ds n u):=by
 simp only [zhY,Nat.blt_eq]
 congr 2
 cases tb.at r' with
 | none=>rfl
 |
  some p =>
  obtain ⟨r,d⟩:=p
  simp only [ztY,zxg]
  refine propext ⟨?_,fun h=>?_⟩
  ·
   rintro ⟨els,h1,h2⟩
   rw [h1]
   exact ⟨⟨rfl,rfl⟩,h2⟩
  ·
   cases ho:H.get r 0 with
   | none=>rw [ho] at h;exact h.elim
   |
    some o =>
    rw [ho] at h
    cases o with
    | fam _ _=>exact h.elim
    |
     row sz' els g' =>
     obtain ⟨⟨rfl,rfl⟩,h⟩:=h
     exact ⟨els,rfl,h⟩
theorem zh2 {els:List (List AV)} (h:∀ c∈els,zF c=true):RowV H HH σ D els els:=by
 refine ⟨rfl,fun i c2 hi=>?_⟩
 refine ⟨c2,hi,rfl,fun j x y h1 h2=>?_⟩
 rw [h1] at h2
 cases h2
 exact zdo (zbr (h c2 (List.mem_of_getElem? hi)) h1)
theorem zoa {els:List (List AV)} (h:∀ c∈els,zF c=true):RowV H HH σ D els els=True:=eq_true (zh2 h)
def zq (els:List (List AV)):Prop:=∀ c∈els,zF c=true
theorem zgB:zq []=True:=by simp [zq]
theorem zfI {c:List AV} {l:List (List AV)}:zq (c::l)=(zF c=true∧zq l):=by simp [zq]
theorem zgc {l m:List (List AV)}:zq (l++m)=(zq l∧zq m):=by
 unfold zq
 simp only [List.mem_append,eq_iff_iff]
 exact ⟨fun h=>⟨fun c hc=>h c (.inl hc),fun c hc=>h c (.inr hc)⟩,fun h c hc=>hc.elim (h.1 c) (h.2 c)⟩
theorem zih {α:Type} {f:α→List AV} {l:List α}:zq (l.map f)=∀ a∈l,zF (f a)=true:=by simp [zq]
theorem zik {n:Nat} {c:List AV} (h:zF c=true):zq (List.replicate n c)=True:=by
 refine eq_true fun x hx=>?_
 rw [(List.mem_replicate.1 hx).2]
 exact h
theorem zh3 {l:List (List AV)} {i:Nat} {c:List AV} (h:zF c=true) (hl:zq l):zq (l.set i c)=True:=by
 refine eq_true fun x hx=>?_
 rcases List.mem_or_eq_of_mem_set hx with hx | rfl
 · exact hl x hx
 · exact h
theorem zve {A:List (List AV)} {a b:List AV} (h:zq A):RowV H HH σ D (A++[a]) (A++[b])=VwL H HH σ D true a b:=by
 refine propext ⟨fun hr=>?_,fun hv=>?_⟩
 ·
  obtain ⟨c,h1,h2,h3⟩:=hr.2 A.length b (by simp)
  simp at h1
  subst h1
  exact VwL.of h2.symm h3
 ·
  refine ⟨by simp,fun i c2 hi=>?_⟩
  by_cases hlt:i < A.length
  ·
   rw [List.getElem?_append_left hlt] at hi
   refine ⟨c2,by rw [List.getElem?_append_left hlt];exact hi,rfl,fun j x y h1 h2=>?_⟩
   rw [h1] at h2
   cases h2
   exact zdo (zbr (h c2 (List.mem_of_getElem? hi)) h1)
  ·
   have he:i=A.length:=by
    have:=(List.getElem?_eq_some_iff.1 hi).1
    simp at this
    omega
   subst he
   simp at hi
   subst hi
   exact ⟨a,by simp,hv.get.1.symm,hv.get.2⟩
abbrev cI (n:Int):List AV:=[.int .i64 n]
abbrev cN (n:Nat):List AV:=[.int .i64 (n:Int)]
theorem zpw:RowV H HH σ D [] []=True:=eq_true (zh2 (by simp))
theorem zyh {a b:List AV}:RowV H HH σ D [a] [b]=VwL H HH σ D true a b:=by
 refine propext ⟨fun h=>?_,fun h=>?_⟩
 ·
  obtain ⟨c,h1,h2,h3⟩:=h.2 0 b rfl
  cases h1
  exact VwL.of h2.symm h3
 ·
  refine ⟨rfl,fun i c2 hi=>?_⟩
  cases i with
  | zero=>cases hi;exact ⟨a,rfl,h.get.1.symm,h.get.2⟩
  | succ i=>simp at hi
theorem zy5 {r' q':Nat}:Tab.sig [] r' q'=none:=rfl
theorem zwM {a b d r' q':Nat} {tb:Tab}:Tab.sig ((a,b,d)::tb) r' q'=bif a == r' then some (b,q',d) else Tab.sig tb r' q':=by
 unfold Tab.sig
 simp only [Tab.at,zjG]
 cases a == r'<;>rfl
theorem at_nil {x:Nat}:Tab.at [] x=none:=rfl
theorem zvd {a b d x:Nat} {tb:Tab}:Tab.at ((a,b,d)::tb) x=bif a == x then some (b,d) else Tab.at tb x:=by simp only [Tab.at,zjG]
end
theorem zpI {α β:Type} {f:α→β} {l:List α}:(l.map f).take l.length=l.map f:=by rw [List.take_of_length_le (by simp)]
theorem evU:(∀ {α β:Type} {f:α→β} {asv:List α},(asv.map f).length=asv.length)∧(∀ {α β:Type} {f:α→β} {l:List α},(l.map f).take l.length=l.map f)∧(∀ {α:Type} {l:List α},l.take l.length=l) ∧
  (∀ n:Nat,n * 1=n)∧(∀ n:Nat,1 * n=n)∧((!true)=false)∧((!false)=true)∧(∀ {α β:Type} {f:α→β} {a:α},(some a).map f=some (f a))∧(∀ {h:Decidable True},@decide True h=true)∧(∀ {h:Decidable False},@decide False h=false) ∧
  (∀ b:Bool,(false != b)=b)∧(∀ b:Bool,(true != b) = !b)∧(∀ b:Bool,(b != false)=b)∧(∀ b:Bool,(b != true) = !b) :=
 ⟨List.length_map _,zpI,List.take_length,Nat.mul_one,Nat.one_mul,rfl,rfl,rfl,decide_true _,decide_false _,Bool.false_bne,Bool.true_bne,Bool.bne_false,Bool.bne_true⟩
theorem evV:(∀ n:Nat,(n < n)=False)∧(∀ {α β:Type} {f:α→β} {a b:List α},(a++b).map f=a.map f++b.map f)∧(∀ {α β:Type} {f:α→β} {a:α} {l:List α},(a::l).map f=f a::l.map f)∧(∀ {α β:Type} {f:α→β},[].map f=[]) ∧
  (∀ {α:Type} {a b:List α},(a++b).length=a.length+b.length)∧(∀ {α:Type} {a:α} {l:List α},(a::l).length=l.length+1)∧(∀ {α:Type},([]:List α).length=0)∧(∀ {α:Type} {p:α→Bool},[].filter p=[])∧(∀ {α:Type} {l:List α},l.take 0=[]) ∧
  (∀ {α β:Type} {f:α→β} {l:List α},(l.map f).length=l.length)∧(∀ {α:Type} {n:Nat} {a:α},(List.replicate n a).length=n)∧(∀ {α:Type} {l:List α} {i:Nat} {a:α},(l.set i a).length=l.length) ∧
  (∀ a b:Nat,((a+b:Nat):Int)=a+b)∧(∀ a:Int,0+a=a)∧(∀ n:Nat,n+0=n)∧(∀ n:Nat,n - n=0)∧(∀ n:Nat,n - 0=n) :=
 ⟨fun _=>eq_false (Nat.lt_irrefl _),List.map_append,rfl,rfl,List.length_append,rfl,rfl,rfl,List.take_zero,List.length_map _,List.length_replicate,List.length_set,Int.natCast_add,Int.zero_add,Nat.add_zero,Nat.sub_self,Nat.sub_zero⟩
theorem evW :
 (∀ {H HH:AH} {tb:Tab} {ds:List Nat} {K:Kn},zkU H HH tb ds [] K=True) ∧
 (∀ {H HH:AH} {tb:Tab} {ds:List Nat} {K:Kn} {j:Nat} {v:AV} {u:Kn},zkU H HH tb ds ((j,v)::u) K=(Vw H HH tb.sig (inD ds) true (K.get j) v∧zkU H HH tb ds u K)) ∧
 (∀ {H HH:AH} {tb:Tab} {ds:List Nat} {n:Nat},zhY H HH tb ds n []=True) ∧
 (∀ {H HH:AH} {tb:Tab} {ds:List Nat} {n r' sz g2:Nat} {els2:List (List AV)} {u:AH},zhY H HH tb ds n ((r', .row sz els2 g2)::u)=(r' < n∧ztY H HH tb ds sz els2 g2 (tb.at r')∧zhY H HH tb ds n u)) ∧
 (∀ {H HH:AH} {tb:Tab} {ds:List Nat} {sz g2 r d:Nat} {els2:List (List AV)},ztY H HH tb ds sz els2 g2 (some (r,d))=zxg H HH tb.sig (inD ds) sz els2 (g2+d) (H.get r 0)) ∧
 (∀ {H HH:AH} {tb:Tab} {ds:List Nat} {sz g2:Nat} {els2:List (List AV)},ztY H HH tb ds sz els2 g2 none=(els2=[]∧g2=0)) ∧
 (∀ {H HH:AH} {σ:Nat→Nat→Option (Nat × Nat × Nat)} {D:Nat→Nat→Prop} {sz g sz' g':Nat} {els els2:List (List AV)},zxg H HH σ D sz els2 g (some (.row sz' els g'))=((sz'=sz∧g'=g)∧RowV H HH σ D els els2)) ∧
 (∀ {H HH:AH} {σ:Nat→Nat→Option (Nat × Nat × Nat)} {D:Nat→Nat→Prop},RowV H HH σ D [] []=True) ∧
 (∀ {H HH:AH} {σ:Nat→Nat→Option (Nat × Nat × Nat)} {D:Nat→Nat→Prop} {A:List (List AV)} {a b:List AV},zq A→RowV H HH σ D (A++[a]) (A++[b])=VwL H HH σ D true a b) ∧
 (∀ {H HH:AH} {σ:Nat→Nat→Option (Nat × Nat × Nat)} {D:Nat→Nat→Prop} {els:List (List AV)},zq els→RowV H HH σ D els els=True) ∧
 (zq []=True)∧(∀ {c:List AV} {l:List (List AV)},zq (c::l)=(zF c=true∧zq l))∧(∀ {l m:List (List AV)},zq (l++m)=(zq l∧zq m)) ∧
 (∀ {α:Type} {f:α→List AV} {l:List α},zq (l.map f)=∀ a∈l,zF (f a)=true)∧(∀ {n:Nat} {c:List AV},zF c=true→zq (List.replicate n c)=True) ∧
 (∀ {l:List (List AV)} {i:Nat} {c:List AV},zF c=true→zq l→zq (l.set i c)=True) ∧
 (∀ {H HH:AH} {σ:Nat→Nat→Option (Nat × Nat × Nat)} {D:Nat→Nat→Prop} {t:Bool} {a:AV},a.flat0=true→Vw H HH σ D t a a=True) ∧
 (∀ {H HH:AH} {σ:Nat→Nat→Option (Nat × Nat × Nat)} {D:Nat→Nat→Prop} {a b:List AV},RowV H HH σ D [a] [b]=VwL H HH σ D true a b) ∧
 (∀ {H HH:AH} {σ:Nat→Nat→Option (Nat × Nat × Nat)} {D:Nat→Nat→Prop} {t:Bool},VwL H HH σ D t [] []=True) ∧
 (∀ {H HH:AH} {σ:Nat→Nat→Option (Nat × Nat × Nat)} {D:Nat→Nat→Prop} {t:Bool} {a b:AV} {l m:List AV},VwL H HH σ D t (a::l) (b::m)=(Vw H HH σ D t a b∧VwL H HH σ D t l m)) ∧
 (∀ {H HH:AH} {σ:Nat→Nat→Option (Nat × Nat × Nat)} {D:Nat→Nat→Prop} {t:Bool} {k k':IntKind} {n m:Int},Vw H HH σ D t (.int k n) (.int k' m)=(k=k'∧n=m)) ∧
 (∀ {H HH:AH} {σ:Nat→Nat→Option (Nat × Nat × Nat)} {D:Nat→Nat→Prop} {t:Bool} {a b:Bool},Vw H HH σ D t (.bool a) (.bool b)=(a=b)) ∧
 (∀ {H HH:AH} {σ:Nat→Nat→Option (Nat × Nat × Nat)} {D:Nat→Nat→Prop} {r q g o n r' q' g' o' n':Nat},Vw H HH σ D true (.own r q g o n) (.own r' q' g' o' n')=((σ r' q'=some (r,q,g - g')∧g'≤g)∧o=o'∧n=n')) ∧
 (∀ {H HH:AH} {σ:Nat→Nat→Option (Nat × Nat × Nat)} {D:Nat→Nat→Prop} {r q g i f r' q' g' i' f':Nat},Vw H HH σ D true (.ptr r q g i f) (.ptr r' q' g' i' f')=((σ r' q'=some (r,q,g - g')∧g'≤g)∧i=i'∧f=f')) ∧
 (∀ {H HH:AH} {σ:Nat→Nat→Option (Nat × Nat × Nat)} {D:Nat→Nat→Prop} {t:Bool} {f f':Fn} {l m:List AV},Vw H HH σ D t (.fn f l) (.fn f' m)=(f=f'∧VwL H HH σ D t l m)) ∧
 (∀ {H HH:AH} {σ:Nat→Nat→Option (Nat × Nat × Nat)} {D:Nat→Nat→Prop} {t:Bool} {l m:List AV},Vw H HH σ D t (.agg l) (.agg m)=VwL H HH σ D t l m) ∧
 (∀ {H HH:AH} {σ:Nat→Nat→Option (Nat × Nat × Nat)} {D:Nat→Nat→Prop} {t:Bool} {l m:List AV},Vw H HH σ D t (.tup l) (.tup m)=VwL H HH σ D t l m) ∧
 (∀ {H HH:AH} {σ:Nat→Nat→Option (Nat × Nat × Nat)} {D:Nat→Nat→Prop} {r' q' g' o n:Nat},Vw H HH σ D true .nilsl (.own r' q' g' o n)=(σ r' q'=none∧(∃ sz,HH.get r' q'=some (.row sz [] 0))∧g'=0∧o=0∧n=0)) ∧
 (∀ {H HH:AH} {σ:Nat→Nat→Option (Nat × Nat × Nat)} {D:Nat→Nat→Prop} {t:Bool} {a:AV},Vw H HH σ D t a .undef=True) ∧
 (∀ {H HH:AH} {σ:Nat→Nat→Option (Nat × Nat × Nat)} {D:Nat→Nat→Prop} {t:Bool},Vw H HH σ D t .nilsl .nilsl=True) ∧
 (∀ {H HH:AH} {σ:Nat→Nat→Option (Nat × Nat × Nat)} {D:Nat→Nat→Prop} {t:Bool},Vw H HH σ D t .nilfn .nilfn=True) ∧
 (∀ {H HH:AH} {σ:Nat→Nat→Option (Nat × Nat × Nat)} {D:Nat→Nat→Prop} {t:Bool},Vw H HH σ D t .nilp .nilp=True) ∧
 (∀ {H HH:AH} {σ:Nat→Nat→Option (Nat × Nat × Nat)} {D:Nat→Nat→Prop} {t:Bool},Vw H HH σ D t .cut .cut=True) ∧
 (∀ {H HH:AH} {σ:Nat→Nat→Option (Nat × Nat × Nat)} {D:Nat→Nat→Prop} {t:Bool} {s:ByteArray},Vw H HH σ D t (.str s) (.str s)=True) ∧
 (∀ {H HH:AH} {σ:Nat→Nat→Option (Nat × Nat × Nat)} {D:Nat→Nat→Prop} {t:Bool} {n:Nat} {c:Nat→AV},Vw H HH σ D t (.iptr n c) (.iptr n c)=True) ∧
 (∀ {H HH:AH} {σ:Nat→Nat→Option (Nat × Nat × Nat)} {D:Nat→Nat→Prop} {t:Bool} {sz n:Nat} {f:Nat→Nat→AV},Vw H HH σ D t (.sl sz n f) (.sl sz n f)=True) ∧
 (∀ {H HH:AH} {σ:Nat→Nat→Option (Nat × Nat × Nat)} {D:Nat→Nat→Prop} {t:Bool} {α:Type} {sz:Nat} {f:α→List AV} {l:List α},Vw H HH σ D t (encL sz f l) (encL sz f l)=True) ∧
 (∀ {H HH:AH} {σ:Nat→Nat→Option (Nat × Nat × Nat)} {D:Nat→Nat→Prop} {t:Bool} {α:Type} {sz:Nat} {f:α→List AV},Vw H HH σ D t .nilsl (encL sz f [])=True) ∧
 (∀ {r' q':Nat},Tab.sig [] r' q'=none) ∧
 (∀ {a b d r' q':Nat} {tb:Tab},Tab.sig ((a,b,d)::tb) r' q'=bif a == r' then some (b,q',d) else Tab.sig tb r' q') ∧
 (∀ {x:Nat},Tab.at [] x=none) ∧
 (∀ {a b d x:Nat} {tb:Tab},Tab.at ((a,b,d)::tb) x=bif a == x then some (b,d) else Tab.at tb x) ∧
 (∀ {ds:List Nat} {r q:Nat},inD ds r q=(memN ds r=true)):=by
 refine ⟨rfl,rfl,rfl,zon,rfl,rfl,rfl,zpw,zve,zoa,zgB,zfI,zgc,zih,zik,zh3,fun h=>eq_true (zdo h),zyh,rfl,rfl,ztr,zrw,zsY,zsK,zuY,ztj,ztm,zsG,eq_true (.undef _ _),eq_true (.nilsl _),eq_true (.nilfn _),eq_true (.nilp _),eq_true (.cut _),eq_true (.str _ _),eq_true (.iptr _ _ _),eq_true (.sl _ _ _ _),eq_true (.sl _ _ _ _),eq_true vw_nil,zy5,zwM,at_nil,zvd,rfl⟩
def Tab.to (tb:Tab) (nx r:Nat):Nat:=match tb.at r with
 | some (r',_)=>r'
 | none=>nx+r
def AH.renL (ρ:Nat→Nat):AH→AH
 | []=>[]
 | (r,o)::t=>(ρ r,o.ren ρ)::AH.renL ρ t
def AH.cutL (olds:List Nat):AH→AH
 | []=>[]
 | (r,o)::t=>bif memN olds r then AH.cutL olds t else (r,o)::AH.cutL olds t
def AH.over (H:AH) (tb:Tab) (nx:Nat) (H0:AH):AH:=H.cutL (tb.map (·.2.1))++H0.renL (tb.to nx)
def Tab.plain (nx:Nat):Tab→Bool
 | []=>true
 | (r',r,d)::t=>Nat.blt r nx&&Nat.beq d 0 && !(memN (t.map (·.1)) r')&&Tab.plain nx t
theorem Tab.plain_at {nx:Nat}:∀ {t:Tab},t.plain nx=true→∀ {x r d},t.at x=some (r,d)→r < nx∧d=0
 | [],_,x,r,d,h=>by cases h
 |
  (r',r0,d0)::t,h,x,r,d,hx=>by
  simp only [Tab.plain,Bool.and_eq_true] at h
  obtain ⟨⟨⟨h1,h2⟩,_⟩,h3⟩:=h
  simp only [Tab.at] at hx
  cases hb:Nat.beq r' x with
  | true=>rw [hb] at hx;cases hx;exact ⟨by simpa [Nat.blt_eq] using h1,zj h2⟩
  | false=>rw [hb] at hx;exact Tab.plain_at h3 hx
theorem Tab.at_mem:∀ {t:Tab} {x r d},t.at x=some (r,d)→x∈t.map (·.1)∧r∈t.map (·.2.1)
 | [],x,r,d,h=>by cases h
 |
  (r',r0,d0)::t,x,r,d,h=>by
  simp only [Tab.at] at h
  cases hb:Nat.beq r' x with
  | true=>rw [hb] at h;cases h;rw [← zj hb];simp
  |
   false =>
   rw [hb] at h
   have:=Tab.at_mem h
   exact ⟨by simp only [List.map_cons,List.mem_cons];exact .inr this.1,by simp only [List.map_cons,List.mem_cons];exact .inr this.2⟩
theorem Tab.at_of_old {nx:Nat}:∀ {t:Tab},t.plain nx=true→∀ {r},r∈t.map (·.2.1)→∃ x d,t.at x=some (r,d)
 | [],_,r,h=>by cases h
 |
  (r',r0,d0)::t,h,r,hr=>by
  simp only [Tab.plain,Bool.and_eq_true,Bool.not_eq_true'] at h
  obtain ⟨⟨_,h2⟩,h3⟩:=h
  simp only [List.map_cons,List.mem_cons] at hr
  rcases hr with rfl | hr
  · exact ⟨r',d0,by simp [Tab.at]⟩
  ·
   obtain ⟨x,d,hx⟩:=Tab.at_of_old h3 hr
   refine ⟨x,d,?_⟩
   have:r'≠x:=fun e=>by
    have:=(zad _ _).2 (Tab.at_mem hx).1
    rw [← e,h2] at this
    cases this
   simp only [Tab.at]
   rw [ze7 this]
   exact hx
section
variable {tb:Tab} {nx nx0:Nat} {H H0:AH}
theorem Tab.to_inj (hok:tb.ok nx0 []=true) (hp:tb.plain nx=true) {x y:Nat} (h:tb.to nx x=tb.to nx y):x=y:=by
 unfold Tab.to at h
 cases hx:tb.at x with
 |
  none =>
  cases hy:tb.at y with
  | none=>rw [hx,hy] at h;simp only at h;omega
  | some p=>rw [hx,hy] at h;have:=(Tab.plain_at hp (d:=p.2) hy).1;simp only at h;omega
 |
  some p =>
  cases hy:tb.at y with
  | none=>rw [hx,hy] at h;have:=(Tab.plain_at hp (d:=p.2) hx).1;simp only at h;omega
  |
   some p' =>
   rw [hx,hy] at h
   simp only at h
   exact Tab.ok_inj hok (d:=p.2) (e:=p'.2) hx (by rw [hy,h])
theorem AH.look_append (A B:AH) (r:Nat):AH.look (A++B) r=match A.look r with
  | some o=>some o
  | none=>B.look r:=by
 induction A with
 | nil=>rfl
 |
  cons p t ih =>
  obtain ⟨j,o⟩:=p
  simp only [List.cons_append,AH.look,ih]
  cases Nat.beq j r<;>rfl
theorem AH.look_cutL (l:List Nat) (H:AH) (r:Nat):(H.cutL l).look r=bif memN l r then none else H.look r:=by
 induction H with
 | nil=>simp only [AH.cutL,AH.look];cases memN l r<;>rfl
 |
  cons p t ih =>
  obtain ⟨j,o⟩:=p
  simp only [AH.cutL]
  cases hm:memN l j with
  |
   true =>
   simp only [cond_true,ih,AH.look]
   cases hb:Nat.beq j r with
   | true=>rw [← zj hb,hm];rfl
   | false=>rfl
  |
   false =>
   simp only [cond_false,AH.look,ih]
   cases hb:Nat.beq j r with
   | true=>rw [← zj hb,hm];rfl
   | false=>rfl
theorem AH.look_renL {ρ:Nat→Nat} (hρ:∀ x y,ρ x=ρ y→x=y) (H:AH) (r:Nat):(H.renL ρ).look (ρ r)=(H.look r).map (AObj.ren ρ):=by
 induction H with
 | nil=>rfl
 |
  cons p t ih =>
  obtain ⟨j,o⟩:=p
  simp only [AH.renL,AH.look,ih]
  by_cases h:j=r
  · subst h;simp
  · rw [ze7 h,ze7 (fun e=>h (hρ _ _ e))];rfl
theorem AH.look_renL_no {ρ:Nat→Nat} (H:AH) (x:Nat) (hx:∀ r,ρ r≠x):(H.renL ρ).look x=none:=by
 induction H with
 | nil=>rfl
 |
  cons p t ih =>
  obtain ⟨j,o⟩:=p
  simp only [AH.renL,AH.look,ih]
  rw [ze7 (hx j)]
  rfl
theorem AH.over_in (hok:tb.ok nx0 []=true) (hp:tb.plain nx=true) (hH:∀ r o,H.look r=some o→r < nx) (r q:Nat) :
  (H.over tb nx H0).get (tb.to nx r) q=(H0.get r q).map (AObj.ren (tb.to nx)):=by
 unfold AH.get AH.over
 rw [AH.look_append,AH.look_cutL,AH.look_renL (fun x y h=>Tab.to_inj hok hp h)]
 have:(bif memN (tb.map (·.2.1)) (tb.to nx r) then none else H.look (tb.to nx r))=none:=by
  unfold Tab.to
  cases hx:tb.at r with
  |
   some p =>
   simp only
   rw [(zad _ _).2 (Tab.at_mem (d:=p.2) hx).2]
   rfl
  |
   none =>
   simp only
   cases hl:H.look (nx+r) with
   | none=>cases memN (tb.map (·.2.1)) (nx+r)<;>rfl
   | some o=>have:=hH _ _ hl;omega
 rw [this]
 simp only
 cases H0.look r with
 | none=>rfl
 | some o=>simp [AObj.part_ren]
theorem AH.over_out (r q:Nat) (hp:tb.plain nx=true) (hr:∀ r0,tb.to nx r0≠r):(H.over tb nx H0).get r q=H.get r q:=by
 unfold AH.get AH.over
 rw [AH.look_append,AH.look_cutL,AH.look_renL_no _ _ hr]
 have:memN (tb.map (·.2.1)) r=false:=by
  cases hm:memN (tb.map (·.2.1)) r with
  | false=>rfl
  |
   true =>
   obtain ⟨x,d,hx⟩:=Tab.at_of_old hp ((zad _ _).1 hm)
   exact absurd (by unfold Tab.to;rw [hx]) (hr x)
 rw [this]
 simp only [cond_false]
 cases H.look r<;>rfl
theorem AH.over_lt (hok:tb.ok nx0 []=true) (hp:tb.plain nx=true) (hH:∀ r o,H.look r=some o→r < nx) {nx':Nat} (h0:∀ r o,H0.look r=some o→r < nx') (r:Nat) (o:AObj) (h:(H.over tb nx H0).look r=some o):r < nx+nx':=by
 unfold AH.over at h
 rw [AH.look_append,AH.look_cutL] at h
 cases hl:H.look r with
 | some o'=>have:=hH _ _ hl;omega
 |
  none =>
  rw [hl] at h
  have h2:(H0.renL (tb.to nx)).look r=some o:=by cases hm:memN (tb.map (·.2.1)) r<;>rw [hm] at h<;>exact h
  by_cases hx:∃ r0,tb.to nx r0=r
  ·
   obtain ⟨r0,rfl⟩:=hx
   rw [AH.look_renL (fun x y h=>Tab.to_inj hok hp h)] at h2
   obtain ⟨o1,h3,_⟩:=Option.map_eq_some_iff.1 h2
   have:=h0 _ _ h3
   unfold Tab.to
   cases hx:tb.at r0 with
   | none=>simp only;omega
   | some p=>have:=(Tab.plain_at hp (d:=p.2) hx).1;simp only;omega
  ·
   rw [AH.look_renL_no _ _ (fun r0 e=>hx ⟨r0,e⟩)] at h2
   cases h2
theorem zt1 {H H2 HH:AH} {σ:Nat→Nat→Option (Nat × Nat × Nat)} {t:Bool} {a b:AV} (h:Vw H HH σ (inD []) t a b):Vw H2 HH σ (inD []) t a b:=by
 induction h with
 | undef=>exact .undef _ _
 | int=>exact .int _ _ _
 | bool=>exact .bool _ _
 | str=>exact .str _ _
 | nilp=>exact .nilp _
 | nilfn=>exact .nilfn _
 | cut=>exact .cut _
 | mp=>exact .mp _ _ _ _ ‹_›
 | nilmp=>exact .nilmp _
 | it=>exact .it _ _ ‹_›
 | nilsl=>exact .nilsl _
 | iptr=>exact .iptr _ _ _
 | sl=>exact .sl _ _ _ _
 | nil0=>exact .nil0 _ _ _
 | slf _ _ _ _ _ _ ih=>exact .slf _ _ _ _ _ ih
 | iptrf _ _ _ _ _ ih=>exact .iptrf _ _ _ _ ih
 | own=>exact .own _ _ _ _ _ _ _ _ _ ‹_› ‹_›
 | ptr=>exact .ptr _ _ _ _ _ _ _ _ _ ‹_› ‹_›
 | new=>exact .new _ _ _ ‹_› ‹_›
 | frz=>rename_i hD _ _ _ _ _;cases hD
 | frzp=>rename_i hD _ _ _ _ _;cases hD
 | fn _ _ _ _ hl _ ih=>exact .fn _ _ _ _ hl ih
 | agg _ _ _ hl _ ih=>exact .agg _ _ _ hl ih
 | tup _ _ _ hl _ ih=>exact .tup _ _ _ hl ih
end
section
variable {P:Program} {L:Nat→Prop} {H H0 H':AH} {nx nx0 nx':Nat} {tb:Tab}
def othr (ι:Inj) (H:AH) (tb:Tab) (nx b:Nat):Prop:=∃ r q sz els g l,(∀ r0,tb.to nx r0≠r)∧H.get r q=some (.row sz els g)∧ι r q g=some l∧0 < l.cap * l.sz∧l.block=b
def AH.keepL (l:List Nat):AH→AH
 | []=>[]
 | (r,o)::t=>bif memN l r then (r,o)::AH.keepL l t else AH.keepL l t
theorem AH.look_keepL (l:List Nat) (H:AH) (r:Nat):(H.keepL l).look r=bif memN l r then H.look r else none:=by
 induction H with
 | nil=>simp only [AH.keepL,AH.look];cases memN l r<;>rfl
 |
  cons p t ih =>
  obtain ⟨j,o⟩:=p
  simp only [AH.keepL]
  cases hm:memN l j with
  |
   true =>
   simp only [cond_true,AH.look,ih]
   cases hb:Nat.beq j r with
   | true=>rw [← zj hb,hm];rfl
   | false=>rfl
  |
   false =>
   simp only [cond_false,ih,AH.look]
   cases hb:Nat.beq j r with
   | true=>rw [← zj hb,hm];rfl
   | false=>rfl
theorem AH.get_keepL (l:List Nat) (H:AH) (r q:Nat):(H.keepL l).get r q=bif memN l r then H.get r q else none:=by
 unfold AH.get
 rw [AH.look_keepL]
 cases memN l r<;>rfl
theorem zyy (hp:tb.plain nx=true) {r:Nat} (hr:r < nx):memN (tb.map (·.2.1)) r=true↔∃ r0,tb.to nx r0=r:=by
 constructor
 ·
  intro h
  obtain ⟨x,d,hx⟩:=Tab.at_of_old hp ((zad _ _).1 h)
  exact ⟨x,by unfold Tab.to;rw [hx]⟩
 ·
  rintro ⟨x,rfl⟩
  unfold Tab.to at hr ⊢
  cases hx:tb.at x with
  | none=>rw [hx] at hr;simp only at hr;omega
  | some p=>exact (zad _ _).2 (Tab.at_mem (d:=p.2) hx).2
open Classical in
noncomputable def zi0 (ι ι':Inj) (tb:Tab) (nx:Nat):Inj:=fun r q g=>if h:∃ r0,tb.to nx r0=r then ι' h.choose q g else ι r q g
theorem zwB (hok:tb.ok nx0 []=true) (hp:tb.plain nx=true) (ι ι':Inj) (r q g:Nat):zi0 ι ι' tb nx (tb.to nx r) q g=ι' r q g:=by
 unfold zi0
 have h:∃ r0,tb.to nx r0=tb.to nx r:=⟨r,rfl⟩
 rw [dif_pos h,Tab.to_inj hok hp h.choose_spec]
theorem ztS (ι ι':Inj) (r q g:Nat) (hr:∀ r0,tb.to nx r0≠r):zi0 ι ι' tb nx r q g=ι r q g:=by
 unfold zi0
 rw [dif_neg (fun ⟨r0,h⟩=>hr r0 h)]
variable {w w':World} {ι:Inj}
theorem zeI (hp:tb.plain nx=true) (rel:RelH w L ι H nx) (b:Nat):live ι H b↔othr ι H tb nx b∨live ι (H.keepL (tb.map (·.2.1))) b:=by
 constructor
 ·
  rintro ⟨r,q,sz,els,g,l,h1,h2,h3,rfl⟩
  have hr:=rel.idx _ _ _ _ h2
  by_cases hx:∃ r0,tb.to nx r0=r
  ·
   refine .inr ⟨r,q,sz,els,g,l,?_,h2,h3,rfl⟩
   rw [AH.get_keepL,(zyy hp hr).2 hx]
   exact h1
  · exact .inl ⟨r,q,sz,els,g,l,fun r0 e=>hx ⟨r0,e⟩,h1,h2,h3,rfl⟩
 ·
  rintro (⟨r,q,sz,els,g,l,_,h1,h2,h3,rfl⟩ | ⟨r,q,sz,els,g,l,h1,h2,h3,rfl⟩)
  · exact ⟨r,q,sz,els,g,l,h1,h2,h3,rfl⟩
  ·
   rw [AH.get_keepL] at h1
   cases hm:memN (tb.map (·.2.1)) r with
   | false=>rw [hm] at h1;cases h1
   | true=>rw [hm] at h1;exact ⟨r,q,sz,els,g,l,h1,h2,h3,rfl⟩
theorem RelH.keep (hp:tb.plain nx=true) (rel:RelH w L ι H nx) :
  (∀ b,Lt (fun b=>L b∨othr ι H tb nx b) ι (H.keepL (tb.map (·.2.1))) b↔Lt L ι H b)∧RelH w (fun b=>L b∨othr ι H tb nx b) ι (H.keepL (tb.map (·.2.1))) nx:=by
 have hlt:∀ b,Lt (fun b=>L b∨othr ι H tb nx b) ι (H.keepL (tb.map (·.2.1))) b↔Lt L ι H b:=by
  intro b
  simp only [Lt,zeI hp rel b,or_assoc]
 have hget:∀ {r q o},(H.keepL (tb.map (·.2.1))).get r q=some o→H.get r q=some o∧memN (tb.map (·.2.1)) r=true:=by
  intro r q o h
  rw [AH.get_keepL] at h
  cases hm:memN (tb.map (·.2.1)) r with
  | false=>rw [hm] at h;cases h
  | true=>rw [hm] at h;exact ⟨h,rfl⟩
 refine ⟨hlt,fun r q sz els g h=>?_,fun r1 q1 r2 q2 s1 e1 g1 l1 s2 e2 g2 l2 h1 h2=>rel.apart _ _ _ _ _ _ _ _ _ _ _ _ (hget h1).1 (hget h2).1,fun b hb hL=>?_,rel.idx,fun r o h=>?_,fun r q sz els g h=>rel.gen _ _ _ _ _ (hget h).1,fun b hb=>?_⟩
 ·
  have:Lt (fun b=>L b∨othr ι H tb nx b) ι (H.keepL (tb.map (·.2.1)))=Lt L ι H:=by funext b;exact propext (hlt b)
  rw [this]
  exact rel.row _ _ _ _ _ (hget h).1
 ·
  rcases hL with hL | ⟨r,q,sz,els,g,l,h1,h2,h3,h4,h5⟩
  · exact rel.out b ((zeI hp rel b).2 (.inr hb)) hL
  ·
   obtain ⟨r',q',sz',els',g',l',k1,k2,k3,k4⟩:=hb
   obtain ⟨k1,k5⟩:=hget k1
   obtain ⟨rfl,rfl⟩:=rel.apart _ _ _ _ _ _ _ _ _ _ _ _ h2 k1 h3 k2 h4 k3 (h5.trans k4.symm)
   obtain ⟨r0,e⟩:=(zyy hp (rel.idx _ _ _ _ h3)).1 k5
   exact h1 r0 e
 ·
  rw [AH.look_keepL] at h
  cases hm:memN (tb.map (·.2.1)) r with
  | false=>rw [hm] at h;cases h
  | true=>rw [hm] at h;exact rel.dom _ _ h
 ·
  rcases hb with hb | hb
  · exact rel.Lsz b hb
  · exact rel.live_lt ((zeI hp rel b).2 (.inl hb))
theorem Step.over (hok:tb.ok nx0 []=true) (hp:tb.plain nx=true) (rel:RelH w L ι H nx) {ι0 ι':Inj} (h0:∀ r q g l,ι (tb.to nx r) q g=some l→tb.at r≠none→ι0 r q g=some l)
  (hl0:∀ b,live ι0 H0 b→live ι (H.keepL (tb.map (·.2.1))) b) (st:Step w (fun b=>L b∨othr ι H tb nx b) ι0 H0 nx0 w' ι' H' nx') :
  Step w L ι H nx w' (zi0 ι ι' tb nx) (H.over tb nx H') (nx+nx')∧∀ v a,VR w' (Lt (fun b=>L b∨othr ι H tb nx b) ι' H') ι' v a→VR w' (Lt L (zi0 ι ι' tb nx) (H.over tb nx H')) (zi0 ι ι' tb nx) v (a.ren (tb.to nx)):=by
 have hin:=fun r q=>AH.over_in (H0:=H') hok hp rel.dom r q
 have hout:=fun r q hr=>AH.over_out (H:=H) (H0:=H') r q hp hr
 have iin:=zwB hok hp ι ι'
 have iout:=fun r q g hr=>ztS (tb:=tb) (nx:=nx) ι ι' r q g hr
 have hlive:∀ b,live (zi0 ι ι' tb nx) (H.over tb nx H') b↔live ι' H' b∨othr ι H tb nx b:=by
  intro b
  constructor
  ·
   rintro ⟨r,q,sz,els,g,l,h1,h2,h3,rfl⟩
   by_cases hx:∃ r0,tb.to nx r0=r
   ·
    obtain ⟨r0,rfl⟩:=hx
    rw [hin] at h1
    rw [iin] at h2
    obtain ⟨o,h4,h5⟩:=Option.map_eq_some_iff.1 h1
    cases o with
    | fam _ _=>cases h5
    | row sz0 els0 g0=>cases h5;exact .inl ⟨_,_,_,_,_,_,h4,h2,h3,rfl⟩
   ·
    have hr:∀ r0,tb.to nx r0≠r:=fun r0 e=>hx ⟨r0,e⟩
    rw [hout r q hr] at h1
    rw [iout r q g hr] at h2
    exact .inr ⟨r,q,sz,els,g,l,hr,h1,h2,h3,rfl⟩
  ·
   rintro (⟨r,q,sz,els,g,l,h1,h2,h3,rfl⟩ | ⟨r,q,sz,els,g,l,hr,h1,h2,h3,rfl⟩)
   · exact ⟨tb.to nx r,q,sz,_,g,l,by rw [hin,h1];rfl,by rw [iin];exact h2,h3,rfl⟩
   · exact ⟨r,q,sz,els,g,l,by rw [hout r q hr];exact h1,by rw [iout r q g hr];exact h2,h3,rfl⟩
 have hLt:Lt L (zi0 ι ι' tb nx) (H.over tb nx H')=Lt (fun b=>L b∨othr ι H tb nx b) ι' H':=by
  funext b
  apply propext
  simp only [Lt,hlive]
  constructor
  ·
   rintro (h | h | h)
   · exact .inl (.inl h)
   · exact .inr h
   · exact .inl (.inr h)
  ·
   rintro ((h | h) | h)
   · exact .inl h
   · exact .inr (.inr h)
   · exact .inr (.inl h)
 have hold0:∀ b,live ι0 H0 b→live ι H b:=fun b hb=>(zeI hp rel b).2 (.inr (hl0 b hb))
 have hsame:∀ b,b < w.heap.size→¬ live ι0 H0 b→w'.heap[b]? = w.heap[b]? := st.ext.block
 have inj:∀ r q g l,ι r q g=some l→zi0 ι ι' tb nx r q g=some l:=by
  intro r q g l h
  by_cases hx:∃ r0,tb.to nx r0=r
  ·
   obtain ⟨r0,rfl⟩:=hx
   rw [iin]
   refine st.inj _ _ _ _ (h0 _ _ _ _ h fun hn=>?_)
   have:=rel.idx _ _ _ _ h
   unfold Tab.to at this
   rw [hn] at this
   simp only at this
   omega
  ·
   rw [iout r q g (fun r0 e=>hx ⟨r0,e⟩)]
   exact h
 have hnew:∀ {v a},VR w' (Lt (fun b=>L b∨othr ι H tb nx b) ι' H') ι' v a→VR w' (Lt L (zi0 ι ι' tb nx) (H.over tb nx H')) (zi0 ι ι' tb nx) v (a.ren (tb.to nx)):=by
  intro v a h
  rw [hLt]
  exact h.ren (fun r q g l h=>by rw [iin];exact h)
 have hold:∀ {v a},VR w (Lt L ι H) ι v a→VR w' (Lt L (zi0 ι ι' tb nx) (H.over tb nx H')) (zi0 ι ι' tb nx) v a:=by
  intro v a h
  refine h.mono (fun b hb hn=>⟨hsame b hb fun h'=>hn (.inr (hold0 b h')),fun h'=>?_⟩) inj
  rw [hLt] at h'
  rcases h' with (h' | h') | h'
  · exact hn (.inl h')
  · exact hn (.inr ((zeI hp rel b).2 (.inl h')))
  ·
   rcases st.lv b h' with h' | h'
   · exact hn (.inr (hold0 b h'))
   · omega
 have oth_no:∀ b,othr ι H tb nx b→¬ live ι0 H0 b:=fun b h1 h2=>(rel.keep hp).2.out b (hl0 b h2) (.inr h1)
 have lv:∀ b,live (zi0 ι ι' tb nx) (H.over tb nx H') b→live ι H b∨w.heap.size≤b:=by
  intro b hb
  rcases (hlive b).1 hb with hb | hb
  ·
   rcases st.lv b hb with hb | hb
   · exact .inl (hold0 b hb)
   · exact .inr hb
  · exact .inl ((zeI hp rel b).2 (.inl hb))
 refine ⟨⟨⟨st.ext.os,st.ext.tape,st.ext.output,st.ext.size,fun b hb hn=>hsame b hb fun h=>hn (hold0 b h)⟩,inj,?_,lv⟩,fun v a h=>hnew h⟩
 constructor
 ·
  intro r q sz els g h
  by_cases hx:∃ r0,tb.to nx r0=r
  ·
   obtain ⟨r0,rfl⟩:=hx
   rw [hin] at h
   obtain ⟨o,h4,h5⟩:=Option.map_eq_some_iff.1 h
   cases o with
   | fam _ _=>cases h5
   |
    row sz0 els0 g0 =>
    cases h5
    obtain ⟨l,h1,ok⟩:=st.rel.row _ _ _ _ _ h4
    refine ⟨l,by rw [iin];exact h1,ok.view (fun _=>rfl) (by simp) (fun i c hi=>?_)⟩
    rw [List.getElem?_map] at hi
    obtain ⟨c0,h2,rfl⟩:=Option.map_eq_some_iff.1 hi
    refine ⟨c0,h2,by simp,fun j a a' hj hj' v hv=>?_⟩
    rw [List.getElem?_map,hj] at hj'
    cases hj'
    exact hnew hv
  ·
   have hr:∀ r0,tb.to nx r0≠r:=fun r0 e=>hx ⟨r0,e⟩
   rw [hout r q hr] at h
   obtain ⟨l,h1,ok⟩:=rel.row _ _ _ _ _ h
   exact ⟨l,by rw [iout r q g hr];exact h1,ok.trans (fun hp=>hsame _ (ok.blk_lt hp) (oth_no _ ⟨r,q,sz,els,g,l,hr,h,h1,hp,rfl⟩)) (fun v a hv=>hold hv)⟩
 ·
  intro r1 q1 r2 q2 s1 e1 g1 l1 s2 e2 g2 l2 h1 h2 h3 h4 h5 h6 h7
  have key:∀ r q s e g l,(H.over tb nx H').get r q=some (.row s e g)→zi0 ι ι' tb nx r q g=some l→0 < l.cap * l.sz →
    (∃ r0 e0,tb.to nx r0=r∧H'.get r0 q=some (.row s e0 g)∧ι' r0 q g=some l)∨((∀ r0,tb.to nx r0≠r)∧H.get r q=some (.row s e g)∧ι r q g=some l):=by
   intro r q s e g l a1 a2 a3
   by_cases hx:∃ r0,tb.to nx r0=r
   ·
    obtain ⟨r0,rfl⟩:=hx
    rw [hin] at a1
    rw [iin] at a2
    obtain ⟨o,a4,a5⟩:=Option.map_eq_some_iff.1 a1
    cases o with
    | fam _ _=>cases a5
    | row sz0 els0 g0=>cases a5;exact .inl ⟨r0,_,rfl,a4,a2⟩
   ·
    have hr:∀ r0,tb.to nx r0≠r:=fun r0 e=>hx ⟨r0,e⟩
    rw [hout r q hr] at a1
    rw [iout r q g hr] at a2
    exact .inr ⟨hr,a1,a2⟩
  have cross:∀ {r q s e g l r' q' s' e' g' l'},H'.get r q=some (.row s e g)→ι' r q g=some l→0 < l.cap * l.sz→(∀ r0,tb.to nx r0≠r')→H.get r' q'=some (.row s' e' g')→ι r' q' g'=some l'→0 < l'.cap * l'.sz→l.block=l'.block→False:=by
   intro r q s e g l r' q' s' e' g' l' a1 a2 a3 b0 b1 b2 b3 b4
   exact st.rel.out l.block ⟨_,_,_,_,_,_,a1,a2,a3,rfl⟩ (.inr ⟨_,_,_,_,_,_,b0,b1,b2,b3,b4.symm⟩)
  rcases key _ _ _ _ _ _ h1 h3 h5 with ⟨x,ex,rfl,a1,a2⟩ | ⟨a0,a1,a2⟩
  ·
   rcases key _ _ _ _ _ _ h2 h4 h6 with ⟨y,ey,rfl,b1,b2⟩ | ⟨b0,b1,b2⟩
   ·
    obtain ⟨rfl,rfl⟩:=st.rel.apart _ _ _ _ _ _ _ _ _ _ _ _ a1 b1 a2 b2 h5 h6 h7
    exact ⟨rfl,rfl⟩
   · exact (cross a1 a2 h5 b0 b1 b2 h6 h7).elim
  ·
   rcases key _ _ _ _ _ _ h2 h4 h6 with ⟨y,ey,rfl,b1,b2⟩ | ⟨b0,b1,b2⟩
   · exact (cross b1 b2 h6 a0 a1 a2 h5 h7.symm).elim
   · exact rel.apart _ _ _ _ _ _ _ _ _ _ _ _ a1 b1 a2 b2 h5 h6 h7
 ·
  intro b hb hL
  rcases (hlive b).1 hb with hb | hb
  · exact st.rel.out b hb (.inl hL)
  · exact rel.out b ((zeI hp rel b).2 (.inl hb)) hL
 ·
  intro r q g l h
  by_cases hx:∃ r0,tb.to nx r0=r
  ·
   obtain ⟨r0,rfl⟩:=hx
   rw [iin] at h
   have:=st.rel.idx _ _ _ _ h
   unfold Tab.to
   cases hx:tb.at r0 with
   | none=>simp only;omega
   | some p=>have:=(Tab.plain_at hp (d:=p.2) hx).1;simp only;omega
  ·
   rw [iout r q g (fun r0 e=>hx ⟨r0,e⟩)] at h
   have:=rel.idx _ _ _ _ h
   omega
 · exact fun r o h=>AH.over_lt hok hp rel.dom st.rel.dom r o h
 ·
  intro r q sz els g h g2 l h2
  by_cases hx:∃ r0,tb.to nx r0=r
  ·
   obtain ⟨r0,rfl⟩:=hx
   rw [hin] at h
   rw [iin] at h2
   obtain ⟨o,h4,h5⟩:=Option.map_eq_some_iff.1 h
   cases o with
   | fam _ _=>cases h5
   | row sz0 els0 g0=>cases h5;exact st.rel.gen _ _ _ _ _ h4 _ _ h2
  ·
   have hr:∀ r0,tb.to nx r0≠r:=fun r0 e=>hx ⟨r0,e⟩
   rw [hout r q hr] at h
   rw [iout r q g2 hr] at h2
   exact rel.gen _ _ _ _ _ h _ _ h2
 ·
  intro b hb
  exact Nat.lt_of_lt_of_le (rel.Lsz b hb) st.ext.size
theorem zw {f:FuncId} {asv bs:List AV} {Post k:AV→AH→Nat→Prop} (tb:Tab) (nx0:Nat) (H0:AH) (h:zN P f bs H0 nx0 Post) (hok:tb.ok nx0 []=true) (hp:tb.plain nx=true)
  (hr:zhY H H0 tb [] nx0 H0) (ha:VwL H H0 tb.sig (inD []) true asv bs) (hk:∀ v H' nx',Post v H' nx'→k (v.ren (tb.to nx)) (H.over tb nx H') (nx+nx')):zN P f asv H nx k:=by
 intro w L ι vs rel hv
 obtain ⟨hlt,relS⟩:=rel.keep hp (L:=L)
 have hltE:Lt (fun b=>L b∨othr ι H tb nx b) ι (H.keepL (tb.map (·.2.1)))=Lt L ι H:=by funext b;exact propext (hlt b)
 have hsig:∀ {r' q' r q d},tb.sig r' q'=some (r,q,d)→tb.at r'=some (r,d)∧q=q'∧d=0:=by
  intro r' q' r q d h
  unfold Tab.sig at h
  cases e1:tb.at r' with
  | none=>rw [e1] at h;cases h
  |
   some p1 =>
   rw [e1] at h
   simp only [Option.some.injEq,Prod.mk.injEq] at h
   obtain ⟨rfl,rfl,rfl⟩:=h
   exact ⟨rfl,rfl,(Tab.plain_at hp (d:=p1.2) e1).2⟩
 have vw:View 0 (H.keepL (tb.map (·.2.1))) H0 nx0 tb.sig (inD []):=by
  refine ⟨Nat.zero_le _,fun r q h=>absurd h (Nat.not_lt_zero _),?_,fun _ _ _ _ _ _ h=>(by cases h),?_,zjF hr,fun r' q' sz els2 g2 h2=>?_⟩
  ·
   intro r1 q1 r2 q2 r q d1 d2 h1 h2
   obtain ⟨a1,a2,_⟩:=hsig h1
   obtain ⟨b1,b2,_⟩:=hsig h2
   exact ⟨Tab.ok_inj hok a1 b1,by rw [← a2,← b2]⟩
  ·
   intro r' q' x h
   unfold Tab.sig at h
   cases e1:tb.at r' with
   | none=>rw [e1] at h;cases h
   | some p1=>exact (Tab.ok_at hok (d:=p1.2) e1).1
  ·
   rcases zjT hr r' q' sz els2 g2 h2 with ⟨r,q,d,els,a1,a2,a3⟩ | h3
   ·
    refine .inl ⟨r,q,d,els,a1,?_,a3.1,fun i c2 hi=>?_⟩
    ·
     rw [AH.get_keepL,(zad _ _).2 (Tab.at_mem (d:=d) (hsig a1).1).2]
     exact a2
    ·
     obtain ⟨c,hc,hl,hv⟩:=a3.2 i c2 hi
     exact ⟨c,hc,hl,fun j a b ha hb=>zt1 (hv j a b ha hb)⟩
   · exact .inr h3
 have args:∀ {asv bs:List AV} {us:List Value},VwL H H0 tb.sig (inD []) true asv bs→VRs w (Lt L ι H) ι us asv→VRs w (Lt (fun b=>L b∨othr ι H tb nx b) (zd6 H0 tb.sig ι) H0) (zd6 H0 tb.sig ι) us bs:=by
  intro asv bs us h hv
  induction hv generalizing bs with
  |
   nil =>
   cases bs with
   | nil=>exact .nil
   | cons b bs=>exact h.elim
  |
   cons h1 _ ih =>
   cases bs with
   | nil=>exact h.elim
   |
    cons b bs =>
    refine .cons ?_ (ih h.2)
    rw [← hltE] at h1
    exact vw.vr relS (zt1 h.1) h1
 refine (h w _ _ vs (vw.rel relS) (args ha hv)).mono fun e w' ⟨v,ι',H',nx',a,h3,h4,_,h6,h7⟩=>?_
 have hi:∀ r q g l,ι (tb.to nx r) q g=some l→tb.at r≠none→zd6 H0 tb.sig ι r q g=some l:=by
  intro r q g l h hn
  unfold zd6 Tab.sig
  unfold Tab.to at h
  cases e1:tb.at r with
  | none=>exact absurd e1 hn
  |
   some p =>
   rw [e1] at h
   have:=(Tab.plain_at hp (d:=p.2) e1).2
   simp only [this]
   exact h
 obtain ⟨h8,h9⟩:=Step.over hok hp rel hi (fun b hb=>vw.lv hb) h4
 exact ⟨v,_,_,_,_,h3,h8,Nat.le_add_right _ _,h9 v a h6,hk _ _ _ h7⟩
end
theorem zlF {ρ:Nat→Nat} {a:AV} (h:a.flat0=true):a.ren ρ=a:=by
 cases a<;>first | (cases h;done) | simp [AV.ren]
theorem zlO {ρ:Nat→Nat}:∀ {l:List AV},zF l=true→l.map (AV.ren ρ)=l
 | [],_=>rfl
 |
  a::l,h=>by
  simp only [zF,Bool.and_eq_true] at h
  rw [List.map_cons,zlF h.1,zlO h.2]
theorem zfO {ρ:Nat→Nat} {els:List (List AV)} (h:zq els):els.map (fun c=>c.map (AV.ren ρ))=els:=by
 conv=>rhs;rw [← List.map_id els]
 exact List.map_congr_left fun c hc=>zlO (h c hc)
theorem to_nil {nx r:Nat}:Tab.to [] nx r=nx+r:=rfl
theorem zyP {a b d nx r:Nat} {tb:Tab}:Tab.to ((a,b,d)::tb) nx r=bif a == r then b else Tab.to tb nx r:=by
 unfold Tab.to
 rw [zvd]
 cases a == r<;>rfl
theorem evZ :
 (∀ {nx r:Nat},Tab.to [] nx r=nx+r)∧(∀ {a b d nx r:Nat} {tb:Tab},Tab.to ((a,b,d)::tb) nx r=bif a == r then b else Tab.to tb nx r) ∧
 (∀ {H H0:AH} {tb:Tab} {nx:Nat},H.over tb nx H0=H.cutL (tb.map (·.2.1))++H0.renL (tb.to nx)) ∧
 (∀ {l:List Nat},AH.cutL l []=[])∧(∀ {l:List Nat} {r:Nat} {o:AObj} {t:AH},AH.cutL l ((r,o)::t)=bif memN l r then AH.cutL l t else (r,o)::AH.cutL l t) ∧
 (∀ {ρ:Nat→Nat},AH.renL ρ []=[])∧(∀ {ρ:Nat→Nat} {r:Nat} {o:AObj} {t:AH},AH.renL ρ ((r,o)::t)=(ρ r,o.ren ρ)::AH.renL ρ t) ∧
 (∀ {ρ:Nat→Nat} {sz g:Nat} {els:List (List AV)},zq els→AObj.ren ρ (.row sz els g)=.row sz els g) ∧
 (∀ {ρ:Nat→Nat} {sz g:Nat} {c:List AV},AObj.ren ρ (.row sz [c] g)=.row sz [c.map (AV.ren ρ)] g) ∧
 (∀ {ρ:Nat→Nat} {a:AV},a.flat0=true→AV.ren ρ a=a) ∧
 (∀ {ρ:Nat→Nat} {r q g o n:Nat},AV.ren ρ (.own r q g o n)=.own (ρ r) q g o n)∧(∀ {ρ:Nat→Nat} {r q g o n:Nat},AV.ren ρ (.ptr r q g o n)=.ptr (ρ r) q g o n) ∧
 (∀ {ρ:Nat→Nat} {l:List AV},AV.ren ρ (.agg l)=.agg (l.map (AV.ren ρ)))∧(∀ {ρ:Nat→Nat} {l:List AV},AV.ren ρ (.tup l)=.tup (l.map (AV.ren ρ))) ∧
 (∀ {ρ:Nat→Nat} {f:Fn} {l:List AV},AV.ren ρ (.fn f l)=.fn f (l.map (AV.ren ρ))) ∧
 (∀ {α β:Type} {f:α→β},List.map f []=[])∧(∀ {α β:Type} {f:α→β} {a:α} {l:List α},List.map f (a::l)=f a::List.map f l) ∧
 (zq []=True)∧(∀ {c:List AV} {l:List (List AV)},zq (c::l)=(zF c=true∧zq l))∧(∀ {l m:List (List AV)},zq (l++m)=(zq l∧zq m)) ∧
 (∀ {α:Type} {f:α→List AV} {l:List α},zq (l.map f)=∀ a∈l,zF (f a)=true)∧(∀ {n:Nat} {c:List AV},zF c=true→zq (List.replicate n c)=True) ∧
 (∀ {l:List (List AV)} {i:Nat} {c:List AV},zF c=true→zq l→zq (l.set i c)=True):=by
 refine ⟨to_nil,zyP,rfl,rfl,rfl,rfl,rfl,fun h=>?_,rfl,zlF,?_,?_,?_,?_,?_,rfl,rfl,zgB,zfI,zgc,zih,zik,zh3⟩
 ·
  simp only [AObj.ren]
  exact congrArg (fun e=>AObj.row _ e _) (zfO h)
 all_goals (intros;simp [AV.ren])
theorem evF :
 (zq []=True)∧(∀ {c:List AV} {l:List (List AV)},zq (c::l)=(zF c=true∧zq l))∧(∀ {l m:List (List AV)},zq (l++m)=(zq l∧zq m)) ∧
 (∀ {α:Type} {f:α→List AV} {l:List α},zq (l.map f)=∀ a∈l,zF (f a)=true)∧(∀ {n:Nat} {c:List AV},zF c=true→zq (List.replicate n c)=True) ∧
 (∀ {l:List (List AV)} {i:Nat} {c:List AV},zF c=true→zq l→zq (l.set i c)=True) :=
 ⟨zgB,zfI,zgc,zih,zik,zh3⟩
def Tab.idB (t:Tab):Nat→Bool
 | 0=>true
 |
  B+1=>(match t.at B with
  | some (r,d)=>Nat.beq r B&&Nat.beq d 0
  | none=>false)&&Tab.idB t B
theorem Tab.idB_at {t:Tab}:∀ {B:Nat},t.idB B=true→∀ r,r < B→t.at r=some (r,0)
 | 0,_,r,h=>absurd h (Nat.not_lt_zero _)
 |
  B+1,hb,r,h=>by
  simp only [Tab.idB,Bool.and_eq_true] at hb
  by_cases e:r=B
  ·
   subst e
   cases hx:t.at r with
   | none=>rw [hx] at hb;simp at hb
   |
    some p =>
    obtain ⟨a,d⟩:=p
    rw [hx] at hb
    simp only [Bool.and_eq_true] at hb
    rw [zj hb.1.1,zj hb.1.2]
  · exact Tab.idB_at hb.2 r (by omega)
theorem Ent.tabB {B:Nat} {K K2:Kn} {H H2:AH} {nx nx2:Nat} (t:Tab) (ds:List Nat) (hB:Nat.ble B nx2=true) (hid:t.idB B=true) (hok:t.ok nx2 ds=true) (hr:zhY H H2 t ds nx2 H2) (hK:zkU H H2 t ds K2 K):Ent B K H nx K2 H2 nx2:=by
 refine Ent.view t.sig (inD ds) ⟨Nat.le_of_ble_eq_true hB,fun r q h=>?_,?_,?_,?_,zjF hr,zjT hr⟩ (zkv hK)
 ·
  unfold Tab.sig
  rw [Tab.idB_at hid r h]
 ·
  intro r1 q1 r2 q2 r q d1 d2 h1 h2
  unfold Tab.sig at h1 h2
  cases e1:t.at r1 with
  | none=>rw [e1] at h1;cases h1
  |
   some p1 =>
   cases e2:t.at r2 with
   | none=>rw [e2] at h2;cases h2
   |
    some p2 =>
    rw [e1] at h1
    rw [e2] at h2
    simp only [Option.some.injEq,Prod.mk.injEq] at h1 h2
    obtain ⟨rfl,rfl,rfl⟩:=h1
    obtain ⟨h3,rfl,rfl⟩:=h2
    refine ⟨Tab.ok_inj hok (d:=p1.2) (e:=p2.2) e1 ?_,rfl⟩
    rw [e2,← h3]
 ·
  intro r' q' r q d h
  unfold Tab.sig at h
  cases e1:t.at r' with
  | none=>rw [e1] at h;cases h
  |
   some p1 =>
   rw [e1] at h
   simp only [Option.some.injEq,Prod.mk.injEq] at h
   obtain ⟨rfl,_,rfl⟩:=h
   have:=(Tab.ok_at hok (d:=p1.2) e1).2.1
   unfold inD
   rw [this]
   exact Bool.false_ne_true
 ·
  intro r' q' x h
  unfold Tab.sig at h
  cases e1:t.at r' with
  | none=>rw [e1] at h;cases h
  | some p1=>exact (Tab.ok_at hok (d:=p1.2) e1).1
def zyo (B:Nat) (Q:AV→AH→Nat→Prop) (v:AV) (H:AH) (nx:Nat):Prop:=∃ v2 H2 nx2,Ent B [(0,v)] H nx [(0,v2)] H2 nx2∧Q v2 H2 nx2
theorem z7 {P:Program} {f:FuncId} {args:List AV} {H:AH} {nx:Nat} {Q:AV→AH→Nat→Prop} (h:zN P f args H nx (zyo nx Q)):zN P f args H nx Q:=by
 intro w L ι vs rel hv
 refine (h w L ι vs rel hv).mono fun e w' ⟨v,ι',H',nx',a,h1,st,h3,h4,v2,H2,nx2,⟨h5,h6⟩,h7⟩=>?_
 obtain ⟨ι2,r1,r2,r3,r4⟩:=h6 w' L ι' #[v] st.rel (fun i=>by
  cases i with
  | zero=>exact h4
  | succ i=>exact .undef _ _)
 exact ⟨v,ι2,H2,nx2,v2,h1,⟨st.ext,fun r q g l hl=>r4 r q g l (rel.idx _ _ _ _ hl) (st.inj _ _ _ _ hl),r1,fun b hb=>st.lv b (r3 b hb)⟩,h5,r2 0,h7⟩
section
variable {α:Type} {c:α→List AV} {sz:Nat}
def fe (F n:Nat) (ll:Nat→List α) (gs:Nat→Nat):List (List AV):=(List.range n).map fun i=>[.own F (i+1) (gs i) 0 (ll i).length]
def fi (c:α→List AV) (n:Nat) (ll:Nat→List α) (gs:Nat→Nat):List (List (List AV) × Nat):=(List.range n).map fun i=>((ll i).map c,gs i)
def updF {β:Type} (f:Nat→β) (k:Nat) (v:β):Nat→β:=fun i=>if i=k then v else f i
theorem zir {β:Type} {f:Nat→β} {k:Nat} {v:β}:updF f k v k=v:=by simp [updF]
theorem zyq {F n:Nat} {ll:Nat→List α} {gs:Nat→Nat}:(fe F n ll gs).length=n:=by simp [fe]
theorem zml {n k:Nat} {ll:Nat→List α} {gs:Nat→Nat} (h:k < n):(fi c n ll gs)[k]? = some ((ll k).map c,gs k):=by simp [fi,h]
theorem zfF {β:Type} {f:Nat→β} {n k:Nat} {v:β}:((List.range n).map f).set k v=(List.range n).map (updF f k v):=by
 apply List.ext_getElem?
 intro i
 rw [List.getElem?_set]
 by_cases hk:k=i
 ·
  subst hk
  by_cases hn:k < n
  · simp [hn,updF]
  · simp [hn]
 ·
  rw [if_neg hk]
  simp only [List.getElem?_map]
  by_cases hn:i < n
  · simp [hn,updF,Ne.symm hk]
  · simp [hn]
theorem fi_set {n k g:Nat} {ll:Nat→List α} {gs:Nat→Nat} {l:List α}:(fi c n ll gs).set k (l.map c,g)=fi c n (updF ll k l) (updF gs k g):=by
 unfold fi
 rw [zfF]
 refine List.map_congr_left fun i hi=>?_
 unfold updF
 split<;>rfl
theorem zob {n k:Nat} {ll:Nat→List α} {gs:Nat→Nat}:(fi c n ll gs)[k]? = if k < n then some ((ll k).map c,gs k) else none:=by
 split
 · exact zml ‹_›
 · simp [fi];omega
variable {H HH:AH} {σ:Nat→Nat→Option (Nat × Nat × Nat)} {D:Nat→Nat→Prop} {t:Bool}
theorem zgK {F F' n:Nat} {ll:Nat→List α} {gs:Nat→Nat} (h:∀ i,σ F' (i+1)=some (F,i+1,0)):RowV H HH σ D (fe F n ll gs) (fe F' n ll gs):=by
 refine ⟨by simp [zyq],fun i c2 hi=>?_⟩
 unfold fe at hi ⊢
 simp only [List.getElem?_map,Option.map_eq_some_iff] at hi ⊢
 obtain ⟨k,hk,rfl⟩:=hi
 refine ⟨_,⟨k,hk,rfl⟩,rfl,fun j x y h1 h2=>?_⟩
 cases j with
 | succ j=>cases h1
 |
  zero =>
  cases h1
  cases h2
  exact .own _ _ _ 0 _ _ _ _ _ (h k) rfl
theorem zrk {F' n:Nat} (h:∀ i,σ F' (i+1)=none) (hg:∀ i,i < n→∃ sz,HH.get F' (i+1)=some (.row sz [] 0)):RowV H HH σ D (List.replicate n [.nilsl]) (fe (α:=α) F' n (fun _=>[]) (fun _=>0)):=by
 refine ⟨by simp [zyq],fun i c2 hi=>?_⟩
 unfold fe at hi
 simp only [List.getElem?_map,Option.map_eq_some_iff] at hi
 obtain ⟨k,hk,rfl⟩:=hi
 obtain ⟨hkl,rfl⟩:=List.getElem?_eq_some_iff.1 hk
 simp at hkl
 refine ⟨[.nilsl],by simp [hkl],rfl,fun j x y h1 h2=>?_⟩
 cases j with
 | succ j=>cases h1
 |
  zero =>
  cases h1
  cases h2
  simp only [List.getElem_range,List.length_nil]
  obtain ⟨s,hs⟩:=hg i hkl
  exact .new _ _ s (h i) hs
theorem zu5 {F n:Nat} {ll:Nat→List α} {gs:Nat→Nat} (h:HH.look F=some (.fam sz (fi c n ll gs))) {i:Nat} (hi:i < n):HH.get F (i+1)=some (.row sz ((ll i).map c) (gs i)):=by
 unfold AH.get
 rw [h]
 simp only [Option.bind_some,AObj.part,zml hi,Option.map_some]
theorem zn9 {F' n:Nat} (h:∀ i,σ F' (i+1)=none) (hF:HH.look F'=some (.fam sz (fi c n (fun _=>[]) (fun _=>0)))):RowV H HH σ D (List.replicate n [.nilsl]) (fe (α:=α) F' n (fun _=>[]) (fun _=>0)) :=
 zrk h (fun i hi=>⟨sz,zu5 hF hi⟩)
def famIs (sz:Nat) (c:α→List AV) (n:Nat) (ll:Nat→List α) (gs:Nat→Nat) (d:Nat) (o:Option AObj):Prop:=o=some (.fam sz (fi c n ll gs))∧d=0
def famAt (H:AH) (sz:Nat) (c:α→List AV) (n:Nat) (ll:Nat→List α) (gs:Nat→Nat):Option (Nat × Nat)→Prop
 | some (r,d)=>famIs sz c n ll gs d (H.look r)
 | none=>∀ i,i < n→ll i=[]∧gs i=0
theorem zA {tb:Tab} {ds:List Nat} {n r' m:Nat} {ll:Nat→List α} {gs:Nat→Nat} {u:AH} (hc:∀ a,zF (c a)=true) (h1:r' < n) (h2:famAt H sz c m ll gs (tb.at r')) (h3:zhY H HH tb ds n u) :
  zhY H HH tb ds n ((r', .fam sz (fi c m ll gs))::u):=by
 refine ⟨by simpa [Nat.blt_eq] using h1,?_,h3⟩
 cases hx:tb.at r' with
 |
  none =>
  rw [hx] at h2
  intro i p hp
  rw [zob] at hp
  split at hp
  ·
   rename_i hi
   cases hp
   obtain ⟨e1,e2⟩:=h2 i hi
   rw [e1,e2]
   rfl
  · cases hp
 |
  some p =>
  obtain ⟨r,d⟩:=p
  rw [hx] at h2
  obtain ⟨h4,rfl⟩:=h2
  intro i p hp
  rw [zob] at hp
  split at hp
  ·
   rename_i hi
   cases hp
   exact ⟨_,zu5 h4 hi,zh2 (by intro x hx;obtain ⟨a,_,rfl⟩:=List.mem_map.1 hx;exact hc a)⟩
  · cases hp
end
section
variable {HH:Type} {enc:TypeId × Value→HH} {P:Program} {w:World} {base:Nat} {spare:Nat→Bool} {held:Bool} {L:Nat→Prop}
theorem zoN {α β:Type} {f:α→Option β}:∀ {l:List α} {r:List β},l.mapM f=some r→r.length=l.length∧∀ (i:Nat) (a:α),l[i]? = some a→∃ b,r[i]? = some b∧f a=some b
 |
  [],r,h=>by
  simp only [List.mapM_nil,Option.pure_def,Option.some.injEq] at h
  subst h
  exact ⟨rfl,fun i a h=>by simp at h⟩
 |
  x::l,r,h=>by
  simp only [List.mapM_cons,Option.bind_eq_bind,Option.bind_eq_some_iff,Option.pure_def,Option.some.injEq] at h
  obtain ⟨b,h1,bs,h2,rfl⟩:=h
  obtain ⟨h3,h4⟩:=zoN h2
  refine ⟨by simp [h3],fun i a hi=>?_⟩
  cases i with
  | zero=>cases hi;exact ⟨b,rfl,h1⟩
  | succ i=>exact h4 i a hi
theorem zo5 {a:Addr} {n:Nat} {cs:List Value} (h:w.cells? base a n=some cs):cs.length=n∧∀ j,j < n→w.cell? (a.add j)=some (cs.getD j undef):=by
 unfold World.cells? at h
 split at h
 ·
  obtain ⟨h1,h2⟩:=zoN h
  refine ⟨by simpa using h1,fun j hj=>?_⟩
  obtain ⟨b,h3,h4⟩:=h2 j j (by simp [hj])
  rw [h4,List.getD_eq_getElem?_getD,h3]
  rfl
 · cases h
def ElOk (w:World) (L:Nat→Prop) (vs:List Value) (asv:List AV):Prop:=∀ j,j < vs.length→VR w L noI (vs.getD j undef) (asv.getD j .undef)∧(vs.getD j undef).oneCell'=true
theorem zov {α:Type} {cells:α→List AV} {t e:TypeId} {sz:Nat} (ht:P.underlying t=some (.slice e)) (hs:P.cellsOf e=sz) (hL:∀ b,¬ L b)
  (hel:∀ fuel cs y,DataW.trod enc P w base spare held fuel e cs=some y→cs.length=sz→∃ x:α,ElOk w L cs (cells x)) {fuel:Nat} {cs:List Value} {y:DataW HH × List MemPlace}
  (h:DataW.trod enc P w base spare held fuel t cs=some y):∃ (l:List α) (v:Value),cs=[v]∧v.oneCell'=true∧∀ ι,VR w L ι v (encL sz cells l):=by
 rcases DataW.trod_slice ht h with ⟨rfl,rfl⟩ | ⟨a,len,cap,elems,rest,n,rfl,rfl,rfl,hb,hl,hc,he,hi,_,_⟩
 · exact ⟨[],_,rfl,rfl,fun ι=>.sl0 _ _ _⟩
 ·
  rw [hs] at hi
  have key:∀ i:Fin len,∃ p:α × List Value,p.2.length=sz∧(∀ j,j < sz→w.cell? ((a.add (i.1 * sz)).add j)=some (p.2.getD j undef))∧ElOk w L p.2 (cells p.1):=by
   intro i
   have h1:=hi i.1 i.2
   rw [List.getElem?_eq_getElem (by omega),Option.bind_eq_some_iff] at h1
   obtain ⟨cs',h2,h3⟩:=h1
   obtain ⟨h4,h5⟩:=zo5 h2
   obtain ⟨x,hx⟩:=hel _ _ _ h3 h4
   exact ⟨(x,cs'),h4,h5,hx⟩
  obtain ⟨F,hF⟩:=Classical.axiomOfChoice key
  refine ⟨List.ofFn fun i=>(F i).1,_,rfl,rfl,fun ι=>?_⟩
  have hlen:(List.ofFn fun i=>(F i).1).length=len:=List.length_ofFn
  unfold encL
  rw [hlen]
  refine .sl ι a sz len cap _ (fun i j=>if hi:i < len then (F ⟨i,hi⟩).2.getD j undef else undef) hl (by unfold maxLen at hc;unfold big;omega) (fun i j hi hj=>?_) (fun _=>hL _) (fun i j hi hj=>?_)
  ·
   obtain ⟨h1,h2,h3⟩:=hF ⟨i,hi⟩
   rw [dif_pos hi]
   exact ⟨h2 j hj,(h3 j (by omega)).2⟩
  ·
   obtain ⟨h1,h2,h3⟩:=hF ⟨i,hi⟩
   rw [dif_pos hi]
   have e:((List.ofFn fun i=>(F i).1).map cells).getD i []=cells (F ⟨i,hi⟩).1:=by
    rw [ziI (a:=(F ⟨i,hi⟩).1)]
    rw [List.getElem?_eq_getElem (by rw [hlen];exact hi),List.getElem_ofFn]
   rw [e]
   exact (h3 j (by omega)).1
theorem inR_wf {k:IntKind} {n:Int} (h:(Lit.int k n).wf=true):InR k n:=by
 unfold Lit.wf at h
 simpa [InR] using h
theorem zgZ {k:IntKind} {t:TypeId} (ht:P.underlying t=some (.int k)) {fuel:Nat} {cs:List Value} {y:DataW HH × List MemPlace} (h:DataW.trod enc P w base spare held fuel t cs=some y) :
  ∃ n:Int,cs=[.int k n]∧InR k n:=by
 obtain ⟨n,rfl,_,hw⟩:=DataW.trod_int ht h
 exact ⟨n,rfl,inR_wf hw⟩
theorem zzK {k:IntKind} {t e:TypeId} (ht:P.underlying t=some (.slice e)) (he:P.underlying e=some (.int k)) (hs:P.cellsOf e=1) (hL:∀ b,¬ L b) {fuel:Nat} {cs:List Value} {y:DataW HH × List MemPlace}
  (h:DataW.trod enc P w base spare held fuel t cs=some y):∃ (l:List Int) (v:Value),cs=[v]∧v.oneCell'=true∧(∀ ι,VR w L ι v (encL 1 (fun n=>[.int k n]) l)):=by
 refine zov ht hs hL (fun fuel cs y h hl=>?_) h
 obtain ⟨n,rfl,hn⟩:=zgZ he h
 refine ⟨n,fun j hj=>?_⟩
 obtain rfl:j=0:=by simpa using hj
 exact ⟨.int _ _ _ hn,rfl⟩
end
theorem zz {α β:Type} {f:α→β} {l:List α} {i:Nat} {d:β} (h:i < l.length):(l.map f).getD i d=f l[i]:=ziI (List.getElem?_eq_getElem h)
theorem zmv {α β:Type} {f:β→α→β} {b:β} {l:List α} {i:Nat} (h:i < l.length):(l.take (i+1)).foldl f b=f ((l.take i).foldl f b) l[i]:=by
 rw [List.take_add_one,List.getElem?_eq_getElem h,List.foldl_append]
 rfl
theorem zrx {α:Type} {p:α→Bool} {l:List α} {i:Nat} (h:i < l.length) (hp:p l[i]=true):l.any p=true:=List.any_eq_true.2 ⟨_,List.getElem_mem h,hp⟩
theorem zmC {sz s:Nat} {α:Type} {f:α→List AV} {l:List α} {k:IntKind} {b:Int} {H:AH} {nx:Nat}:zef s (encL sz f l) none (some (.int k b)) H nx=⟨sz=s∧(0:Int)≤0∧0≤b∧b≤l.length,True, .sl s (b - 0).toNat (fun i j=>((l.map f).getD ((0:Int).toNat+i) []).getD j .undef),H,nx⟩:=rfl
theorem zmO {sz s:Nat} {α:Type} {f:α→List AV} {l:List α} {k:IntKind} {a:Int} {H:AH} {nx:Nat}:zef s (encL sz f l) (some (.int k a)) none H nx=⟨sz=s∧0≤a∧a≤l.length∧(l.length:Int)≤l.length,True, .sl s ((l.length:Int) - a).toNat (fun i j=>((l.map f).getD (a.toNat+i) []).getD j .undef),H,nx⟩:=rfl
theorem dF {p:Prop} (h:¬ p) {inst:Decidable p}:@decide p inst=false:=decide_eq_false h
theorem dT {p:Prop} (h:p) {inst:Decidable p}:@decide p inst=true:=decide_eq_true h
section
variable {P:Program}
def zb3:Kn→List (Nat × AV)→Kn
 | K,[]=>K
 | K,(d,v)::r=>zb3 (K.set d v) r
abbrev Plan:=List (Nat × List Nat × List Nat)
def beqL:List Nat→List Nat→Bool
 | [],[]=>true
 | a::l,b::m=>Nat.beq a b&&beqL l m
 | _,_=>false
theorem zio:∀ {l m:List Nat},beqL l m=true→l=m
 | [],[],_=>rfl
 |
  a::l,b::m,h=>by
  simp only [beqL,Bool.and_eq_true] at h
  rw [zj h.1,zio h.2]
 | [],_::_,h=>by cases h
 | _::_,[],h=>by cases h
def memP:Plan→Nat→List Nat→List Nat→Bool
 | [],_,_,_=>false
 | (i,k,k')::r,a,b,c=>(Nat.beq i a&&(beqL k b&&beqL k' c))||memP r a b c
def anyP:Plan→Nat→Bool
 | [],_=>false
 | (i,k,k')::r,a=>(Nat.beq i a&&beqL k k')||anyP r a
def memS:List (List Nat)→List Nat→Bool
 | [],_=>false
 | a::r,b=>beqL a b||memS r b
theorem znW:∀ {l:List (List Nat)} {b:List Nat},memS l b=true→b∈l
 | [],_,h=>by cases h
 |
  a::r,b,h=>by
  simp only [memS,Bool.or_eq_true] at h
  rcases h with h | h
  · rw [zio h];simp
  · exact List.mem_cons_of_mem _ (znW h)
def zgg (Ls:List Nat) (A:List (List Nat)) (i:Nat) (S:List Nat):Bool :=
 !memN S i&&(Ls.all (fun m => !memN (A.getD i []) m||memN S m)&&S.all fun m => !memN (A.getD m []) i)
def zln (Ls:List Nat) (i:Nat) (S:List Nat):List Nat:=Ls.filter fun m=>Nat.beq m i||memN S m
structure DrawOk (ops:List AOper) (deps:List (List Nat)) (Ls:List Nat) (A:List (List Nat)) (St:List (List Nat)) (plan:Plan) (ks:List Nat):Prop where
 low:∀ (i:Nat),i < ops.length→∀ j∈deps.getD i [],j < i
 clo:∀ (i:Nat),i < ops.length→∀ j∈A.getD i [],j∈deps.getD i []∨∃ d∈deps.getD i [],j∈A.getD d []
 one:∀ (i j d:Nat),i < ops.length→j < ops.length→(ops.getD i default).dst=some d→(ops.getD j default).dst=some d→i=j
 keys:∀ k∈ks,∃ o∈ops,o.dst=some k
 look:∀ (i:Nat),i < ops.length→∀ t∈(ops.getD i default).looks,(∃ j∈A.getD i [],(ops.getD j default).dst=some t)∨∀ o∈ops,o.dst≠some t
 lin:∀ i∈Ls,i < ops.length
 st0:[]∈St
 stc:∀ S∈St,∀ i∈Ls,zgg Ls A i S=true→zln Ls i S∈St
 plan:∀ (i:Nat),i < ops.length→((ops.getD i default).fixed=true∧(ops.getD i default).sees=false∧i∉Ls∧anyP plan i=true) ∨
  (i∉Ls∧∀ S∈St,zgg Ls A i S=true→memP plan i S S=true)∨(i∈Ls∧∀ S∈St,zgg Ls A i S=true→memP plan i S (zln Ls i S)=true)
def allB (n:Nat) (p:Nat→Bool):Bool:=(List.range n).all p
def zwi (ops:List AOper) (deps:List (List Nat)) (Ls:List Nat) (A:List (List Nat)) (St:List (List Nat)) (plan:Plan) (ks:List Nat):Bool :=
 allB ops.length (fun i=>(deps.getD i []).all fun j=>Nat.blt j i) &&
 allB ops.length (fun i=>(A.getD i []).all fun j=>memN (deps.getD i []) j||(deps.getD i []).any fun d=>memN (A.getD d []) j) &&
 allB ops.length (fun i=>allB i fun j=>match (ops.getD i default).dst,(ops.getD j default).dst with | some d,some e => !Nat.beq d e | _,_=>true) &&
 ks.all (fun k=>ops.any fun o=>match o.dst with | some d=>Nat.beq d k | none=>false) &&
 allB ops.length (fun i=>(ops.getD i default).looks.all fun t=>((A.getD i []).any fun j=>match (ops.getD j default).dst with | some d=>Nat.beq d t | none=>false)||ops.all fun o=>match o.dst with | some d => !Nat.beq d t | none=>true) &&
 Ls.all (fun i=>Nat.blt i ops.length) &&
 memS St [] &&
 St.all (fun S=>Ls.all fun i => !zgg Ls A i S||memS St (zln Ls i S)) &&
 allB ops.length (fun i=>bif memN Ls i then St.all fun S => !zgg Ls A i S||memP plan i S (zln Ls i S)
  else ((ops.getD i default).fixed&&(!(ops.getD i default).sees&&anyP plan i))||St.all fun S => !zgg Ls A i S||memP plan i S S)
theorem zbk {n:Nat} {p:Nat→Bool} (h:allB n p=true) {i:Nat} (hi:i < n):p i=true:=List.all_eq_true.1 h i (List.mem_range.2 hi)
theorem impB {a b:Bool} (h:(!a||b)=true) (ha:a=true):b=true:=by
 subst ha
 simpa using h
theorem zuM {ops:List AOper} {deps:List (List Nat)} {Ls:List Nat} {A:List (List Nat)} {St:List (List Nat)} {plan:Plan} {ks:List Nat} (h:zwi ops deps Ls A St plan ks=true):DrawOk ops deps Ls A St plan ks:=by
 unfold zwi at h
 simp only [Bool.and_eq_true] at h
 obtain ⟨⟨⟨⟨⟨⟨⟨⟨h1,h2⟩,h3⟩,h4⟩,h5⟩,h6⟩,h7⟩,h8⟩,h9⟩:=h
 have hone:∀ i j d,i < ops.length→j < i→(ops.getD i default).dst=some d→(ops.getD j default).dst=some d→False:=fun i j d hi hj e1 e2=>by
  have:=zbk (zbk h3 hi) hj
  rw [e1,e2] at this
  simp [zcg] at this
 constructor
 ·
  intro i hi j hj
  exact Nat.le_of_ble_eq_true (List.all_eq_true.1 (zbk h1 hi) j hj)
 ·
  intro i hi j hj
  have:=List.all_eq_true.1 (zbk h2 hi) j hj
  rcases Bool.or_eq_true_iff.1 this with this | this
  · exact .inl ((zad _ _).1 this)
  ·
   obtain ⟨d,hd,hm⟩:=List.any_eq_true.1 this
   exact .inr ⟨d,hd,(zad _ _).1 hm⟩
 ·
  intro i j d hi hj e1 e2
  rcases Nat.lt_trichotomy i j with h | h | h
  · exact (hone j i d hj h e2 e1).elim
  · exact h
  · exact (hone i j d hi h e1 e2).elim
 ·
  intro k hk
  obtain ⟨o,ho,hd⟩:=List.any_eq_true.1 (List.all_eq_true.1 h4 k hk)
  refine ⟨o,ho,?_⟩
  cases e:o.dst with
  | none=>rw [e] at hd;cases hd
  | some d=>rw [e] at hd;rw [zj hd]
 ·
  intro i hi t ht
  have:=List.all_eq_true.1 (zbk h5 hi) t ht
  rcases Bool.or_eq_true_iff.1 this with this | this
  ·
   obtain ⟨j,hj,hd⟩:=List.any_eq_true.1 this
   refine .inl ⟨j,hj,?_⟩
   cases e:(ops.getD j default).dst with
   | none=>rw [e] at hd;cases hd
   | some d=>rw [e] at hd;rw [zj hd]
  ·
   refine .inr fun o ho e=>?_
   have:=List.all_eq_true.1 this o ho
   rw [e] at this
   simp [zcg] at this
 ·
  intro i hi
  exact Nat.le_of_ble_eq_true (List.all_eq_true.1 h6 i hi)
 · exact znW h7
 ·
  intro S hS i hi hc
  exact znW (impB (List.all_eq_true.1 (List.all_eq_true.1 h8 S hS) i hi) hc)
 ·
  intro i hi
  have:=zbk h9 hi
  cases hm:memN Ls i with
  |
   true =>
   rw [hm] at this
   exact .inr (.inr ⟨(zad _ _).1 hm,fun S hS hc=>impB (List.all_eq_true.1 this S hS) hc⟩)
  |
   false =>
   rw [hm] at this
   have hno:=zkJ hm
   rcases Bool.or_eq_true_iff.1 this with this | this
   ·
    simp only [Bool.and_eq_true,Bool.not_eq_true'] at this
    exact .inl ⟨this.1,this.2.1,hno,this.2.2⟩
   · exact .inr (.inl ⟨hno,fun S hS hc=>impB (List.all_eq_true.1 this S hS) hc⟩)
theorem zfP:∀ {vs:List (Nat × AV)} {K:Kn} {t:Nat},t∉vs.map (·.1)→(zb3 K vs).get t=K.get t
 | [],_,_,_=>rfl
 |
  (d,v)::r,K,t,h=>by
  simp only [List.map_cons,List.mem_cons,not_or] at h
  rw [zb3,zfP h.2,Kn.get_set,if_neg h.1]
structure DInv (ops:List AOper) (deps:List (List Nat)) (Ls:List Nat) (St:List (List Nat)) (Kf:Kn) (hs:List Nat→AH × Nat) (l:List Bool) (K:Kn) (H:AH) (nx:Nat):Prop where
 clo:∀ i,i < ops.length→getB l i=true→∀ j∈deps.getD i [],getB l j=true
 done:∀ i d,i < ops.length→getB l i=true→(ops.getD i default).dst=some d→K.get d=Kf.get d
 rest:∀ t,(∀ o∈ops,o.dst≠some t)→K.get t=Kf.get t
 here:Ls.filter (getB l)∈St
 rows:(H,nx)=hs (Ls.filter (getB l))
end
theorem ze {α:Type} {f:α→List AV} {l:List α} (h:∀ a,zF (f a)=true):zq (l.map f):=fun c hc=>by
 obtain ⟨a,_,rfl⟩:=List.mem_map.1 hc
 exact h a
theorem zk {c:List AV} (h:zF c=true):zq [c]:=fun d hd=>by rw [List.mem_singleton.1 hd];exact h
theorem zaB:zq []:=fun d hd=>by cases hd
theorem zg {c:List AV} {l:List (List AV)} (h:zF c=true) (h2:zq l):zq (c::l):=fun d hd=>by
 rcases List.mem_cons.1 hd with rfl | hd
 · exact h
 · exact h2 d hd
theorem zW {l m:List (List AV)} (h:zq l) (h2:zq m):zq (l++m):=fun d hd=>by
 rcases List.mem_append.1 hd with hd | hd
 · exact h d hd
 · exact h2 d hd
theorem zeW {H HH:AH} {σ:Nat→Nat→Option (Nat × Nat × Nat)} {D:Nat→Nat→Prop} {t:Bool}:∀ {l:List AV},zF l=true→VwL H HH σ D t l l
 | [],_=>trivial
 |
  a::l,h=>by
  simp only [zF,Bool.and_eq_true] at h
  exact ⟨zdo h.1,zeW h.2⟩
theorem RowV.of_flat {H HH:AH} {σ:Nat→Nat→Option (Nat × Nat × Nat)} {D:Nat→Nat→Prop} {els:List (List AV)} (h:zq els):RowV H HH σ D els els:=zh2 h
theorem evA:type_of% @evS∧type_of% @evZ∧type_of% @evX∧type_of% @evK∧type_of% @evB∧type_of% @evL∧type_of% @evR:=⟨@evS,@evZ,@evX,@evK,@evB,@evL,@evR⟩
theorem evWA:type_of% @evW∧type_of% @evK∧type_of% @evB∧type_of% @evL:=⟨@evW,@evK,@evB,@evL⟩
theorem dis1 {p:Prop} (h:p:=by first | omega | (simp only [evF,evL,implies_true,and_self];done) | fail):p:=h
theorem fin1 {p:Prop} (h:p:=by (repeat' with_reducible apply And.intro)<;>first | omega | exact zgJ rfl rfl (by omega) | exact zcT rfl rfl (by omega) | exact zeZ rfl rfl (by omega) | exact zh2 (by repeat' first | exact bytes_flat | exact flat1 | refine flat_app ?_ ?_) | exact zgK (fun _=>rfl) | exact zn9 (c:=cN) (fun _=>rfl) rfl | exact zA (fun _=>rfl) (by decide) ⟨rfl,rfl⟩ trivial | exact zA (fun _=>rfl) (by decide) (fun _ _=>⟨rfl,rfl⟩) trivial | (simp;done) | fail):p:=h
theorem fin2 {p:Prop} (h:p:=by ((repeat' with_reducible apply And.intro)<;>first | omega | rfl | exact zeW rfl | (refine RowV.of_flat ?_;(repeat' (first | exact ze (fun _=>rfl) | exact ze (fun _=>zh) | exact ze (fun _=>zb) | exact zk zh | exact zk zb | exact zaA rfl | exact zaB | exact zk rfl | refine zW ?_ ?_ | refine zg rfl ?_ | refine zg zh ?_ | refine zg zb ?_));done) | ((repeat' (first | exact ze (fun _=>rfl) | exact ze (fun _=>zh) | exact ze (fun _=>zb) | exact zk zh | exact zk zb | exact zaA rfl | exact zaB | exact zk rfl | refine zW ?_ ?_ | refine zg rfl ?_ | refine zg zh ?_ | refine zg zb ?_));done) | exact zgJ rfl rfl (by omega) | exact zcT rfl rfl (by omega) | exact zeZ rfl rfl (by omega) | exact zgK (fun _=>rfl) | exact zA (fun _=>rfl) (by decide) ⟨rfl,rfl⟩ trivial | exact zA (fun _=>rfl) (by decide) (fun _ _=>⟨rfl,rfl⟩) trivial | (simp;done) | fail)):p:=h
def zwm (n:Nat) (p:AV) (H:AH):Bool :=
 match p with
 |
  .ptr r q g i f=>match H.get r q with
  | some (.row sz els g')=>Nat.beq g g'&&(Nat.blt i els.length&&Nat.ble (f+n) sz)
  | _=>false
 | .iptr m _=>Nat.ble n m
 | _=>false
def zsf (n:Nat) (p v:AV) (H:AH):Bool :=
 match p with
 |
  .ptr r q g i f=>match H.get r q with
  | some (.row sz els g')=>Nat.beq g g'&&(Nat.blt i els.length&&(Nat.ble (f+n) sz&&(v.solid&&Nat.beq v.cells.length n)))
  | _=>false
 | _=>false
def idxS (sz:Nat) (x i:AV) (H:AH):Bool :=
 match x,i with
 | .sl sz' n _, .int _ k=>Nat.beq sz' sz&&(decide (0≤k)&&decide (k < n))
 |
  .own r q g _ n, .int _ k=>match H.get r q with
  | some (.row sz' _ g')=>Nat.beq sz' sz&&(Nat.beq g g'&&(decide (0≤k)&&decide (k < n)))
  | _=>false
 | _,_=>false
def zn7 (off n:Nat) (x:AV):Bool :=
 match x with
 | .ptr ..=>true
 | .iptr m _=>Nat.ble (off+n) m
 | _=>false
def fldS (off n:Nat) (x:AV):Bool :=
 match x with
 | .agg cs=>Nat.ble (off+n) cs.length
 | _=>false
def lenS (x:AV):Bool :=
 match x with
 | .sl .. | .own .. | .nilsl | .cut=>true
 | _=>false
def slenS (x:AV):Bool :=
 match x with
 | .str _=>true
 | _=>false
def binS (op:BinOp) (x y:AV):Bool :=
 match x,y with
 |
  .int k _, .int k' b=>match op with
  | .quo | .rem=>decide (k=k')&&decide (b≠0)
  | .shl | .shr=>decide (0≤b)
  | _=>decide (k=k')
 | _,_=>false
def eqbS (x y:AV):Bool :=
 match x,y with
 | .bool _, .bool _=>true
 | _,_=>false
def unS (op:UnOp) (x:AV):Bool :=
 match op,x with
 | .not, .bool _=>true
 | .neg, .int _ _=>true
 | _,_=>false
def convS (x:AV):Bool :=
 match x with
 | .int _ _=>true
 | _=>false
def zyS (c:AV):Bool :=
 match c with
 | .bool _=>true
 | _=>false
def zww (n:Nat):List (Nat × Nat × AV)→Bool
 | []=>true
 | (off,size,v)::r=>(v.solid&&(Nat.beq v.cells.length size&&Nat.ble (off+size) n))&&zww n r
def setS (n sz:Nat):List (Nat × AV)→Bool
 | []=>true
 | (i,v)::r=>(v.solid&&(Nat.beq v.cells.length sz&&Nat.blt i n))&&setS n sz r
def mkslS (bytes:Nat) (l c:AV):Bool :=
 match l,c with
 | .int k n, .int k' m=>decide (k=.i64)&&(decide (k'=.i64)&&(decide (0≤n)&&(decide (n≤m)&&(decide (bytes * m≤140737488355328)&&Nat.blt 0 bytes))))
 | _,_=>false
def loI:Option AV→Option Int
 | none=>some 0
 | some (.int _ k)=>some k
 | _=>none
def hiI (n:Nat):Option AV→Option Int
 | none=>some n
 | some (.int _ k)=>some k
 | _=>none
def zvH (sz:Nat) (x:AV) (lo hi:Option AV) (H:AH):Bool :=
 match x with
 |
  .sl sz' n _=>match loI lo,hiI n hi with
  | some a,some b=>Nat.beq sz' sz&&(decide (0≤a)&&(decide (a≤b)&&decide (b≤n)))
  | _,_=>false
 |
  .own r q g _ n=>match H.get r q,loI lo,hiI n hi with
  | some (.row sz' _ g'),some a,some b=>Nat.beq sz' sz&&(Nat.beq g g'&&(decide (0≤a)&&(decide (a≤b)&&decide (b≤n))))
  | _,_,_=>false
 |
  .nilsl=>match loI lo,hiI 0 hi with
  | some a,some b=>decide (a=0)&&decide (b=0)
  | _,_=>false
 | _=>false
def cutS (x:AV):Bool :=
 match x with
 | .sl _ _ _ | .own _ _ _ _ _ | .nilsl | .cut=>true
 | _=>false
def zvQ (H:AH):AV→Bool
 |
  .own r q _ off n=>match H.get r q with
  | some (.row _ els _)=>Nat.ble (off+n) els.length
  | _=>false
 | _=>true
def zn0 (sz bytes:Nat) (x y:AV) (H:AH):Bool :=
 match zeB sz y H,lenV y with
 |
  some _,some m=>match x with
  |
   .own r q g off n=>match H.get r q with
   | some (.row sz' els g')=>Nat.beq sz' sz&&(Nat.beq g g'&&(Nat.ble (off+n) els.length&&(zvQ H y&&Nat.ble ((n+m) * bytes) 140737488355328)))
   | _=>false
  | .nilsl | .cut=>zvQ H y&&Nat.ble (m * bytes) 140737488355328
  | _=>false
 | _,_=>false
def zuy (sz:Nat) (x:AV) (H:AH):Bool :=
 match x with
 |
  .own r q g off n=>match H.get r q with
  | some (.row sz' els g')=>Nat.beq sz' sz&&(Nat.beq g g'&&Nat.ble (off+n) els.length)
  | _=>false
 | _=>false
def extS (i:Nat) (x:AV):Bool :=
 match x with
 | .tup vs=>Nat.blt i vs.length
 | _=>false
def keyS:Option IntKind→AV→Bool
 | some q, .int k _=>decide (q=k)
 | none, .str _=>true
 | _,_=>false
def xopS:XOp→List AV→AH→Bool
 |
  .mark,[.own r q g _ n],H=>match H.get r q with
  | some (.row sz _ g')=>Nat.beq sz 1&&(Nat.beq g g'&&Nat.blt 0 n)
  | _=>false
 | .nilck,[.ptr ..],_=>true
 | .nilck,[.iptr ..],_=>true
 | .seq _,[.str _, .str _],_=>true
 | .sidx,[.str s, .int _ k],_=>decide (0≤k)&&decide (k < s.size)
 |
  .b2s,[x],H=>match zeB 1 x H with
  | some els=>(zeJ els).isSome&&(zvQ H x&&(lenV x).isSome)
  | none=>false
 | .s2b,[.str _],_=>true
 |
  .sapp,[.own r q g off n, .str s],H=>match H.get r q with
  | some (.row sz' els g')=>Nat.beq sz' 1&&(Nat.beq g g'&&(Nat.ble (off+n) els.length&&Nat.ble (n+s.size) 140737488355328))
  | _=>false
 | .sapp,[.nilsl, .str s],_=>Nat.ble s.size 140737488355328
 | .sapp,[.cut, .str s],_=>Nat.ble s.size 140737488355328
 | .min,[.int k _, .int k' _],_=>decide (k=k')
 | .max,[.int k _, .int k' _],_=>decide (k=k')
 | .eqs _ ss,[.agg a, .agg b],_=>(zG ss a b).isSome
 | .sl3 sz,[.sl sz' n _, .int _ b, .int _ c],_=>Nat.beq sz' sz&&(decide (0≤b)&&(decide (b≤c)&&decide (c≤n)))
 |
  .sl3 sz,[.own r q g _ n, .int _ b, .int _ c],H=>match H.get r q with
  | some (.row sz' _ g')=>Nat.beq sz' sz&&(Nat.beq g g'&&(decide (0≤b)&&(decide (b≤c)&&decide (c≤n))))
  | _=>false
 | .sl3 _,[.nilsl, .int _ b, .int _ c],_=>decide (b=0)&&decide (c=0)
 | .capn,[.nilsl],_=>true
 | .apz sz bytes _,[.nilsl, .int _ n],_=>decide (0≤n)&&(decide (n * bytes≤140737488355328)&&(Nat.blt 0 sz&&Nat.blt 0 bytes))
 | .mkmap,[],_=>true
 | .mlook str _ _,[.nilmp,k],_=>keyS str k
 |
  .mlook str _ _,[.mp r q,k],H=>match H.get r q with
  | some (.row sz (_::es) g)=>(zfh k es 0).isSome&&(Nat.beq sz 3&&(Nat.beq g 0&&keyS str k))
  | _=>false
 |
  .mset str,[.mp r q,k,_],H=>match H.get r q with
  | some (.row sz ([.int .i64 c,_,_]::es) g)=>(zfh k es 0).isSome&&(Nat.beq sz 3&&(Nat.beq g 0&&(keyS str k&&decide (c < 1152921504606846976))))
  | _=>false
 | .mlen,[.nilmp],_=>true
 |
  .mlen,[.mp r q],H=>match H.get r q with
  | some (.row sz (_::es) g)=>Nat.beq sz 3&&(Nat.beq g 0&&Nat.ble es.length big)
  | _=>false
 | .mdel str,[.nilmp,k],_=>keyS str k
 |
  .mdel str,[.mp r q,k],H=>match H.get r q with
  | some (.row sz (_::es) g)=>(zfh k es 0).isSome&&(Nat.beq sz 3&&(Nat.beq g 0&&keyS str k))
  | _=>false
 | .mrange,[.nilmp],_=>true
 |
  .mrange,[.mp r q],H=>match H.get r q with
  | some (.row sz ([.int .i64 _,_,_]::_) g)=>Nat.beq sz 3&&Nat.beq g 0
  | _=>false
 | .aidx len sz _,[.agg cs, .int _ k],_=>decide (0≤k)&&(decide (k < len)&&Nat.ble (len * sz) cs.length)
 | .aaddr len _,[.ptr .., .int _ k],_=>decide (0≤k)&&decide (k < len)
 | .aaddr len sz,[.iptr m _, .int _ k],_=>decide (0≤k)&&(decide (k < len)&&Nat.ble (len * sz) m)
 | _,_,_=>false
def zig:AOp→(Nat→AV)→AH→Bool
 | .mov _,_,_=>true
 | .mknil _,_,_=>true
 | .pick c _ _,K,_=>zyS (ev K c)
 | .load _ n p,K,H=>zwm n (ev K p) H
 | .store n p v,K,H=>zsf n (ev K p) (ev K v) H
 | .idx sz x i,K,H=>idxS sz (ev K x) (ev K i) H
 | .fldaddr off n x,K,_=>zn7 off n (ev K x)
 | .fld off n _ x,K,_=>fldS off n (ev K x)
 | .len x,K,_=>lenS (ev K x)
 | .slen x,K,_=>slenS (ev K x)
 | .bin op x y,K,_=>binS op (ev K x) (ev K y)
 | .eqb _ x y,K,_=>eqbS (ev K x) (ev K y)
 | .un op x,K,_=>unS op (ev K x)
 | .conv _ x,K,_=>convS (ev K x)
 | .build zero parts,K,_=>zww zero.length (zdA K parts)
 | .buildSl sz len _ parts,K,_=>setS len sz (zgV K parts)
 | .box x,K,_=>(ev K x).solid
 | .rbox x,K,_=>(ev K x).solid&&zF (ev K x).cells
 | .rbuildSl sz len z parts,K,_=>setS len sz (zgV K parts)&&(zeD (List.replicate len z) (zgV K parts)).all zF
 | .alloc _,_,_=>true
 | .mksl _ bytes _ l c,K,_=>mkslS bytes (ev K l) (ev K c)
 | .slice sz x lo hi,K,H=>zvH sz (ev K x) (evO K lo) (evO K hi) H
 | .cut x,K,_=>cutS (ev K x)
 | .mkfn _ _,_,_=>true
 | .append sz bytes x y,K,H=>zn0 sz bytes (ev K x) (ev K y) H
 | .clear sz _ x,K,H=>zuy sz (ev K x) H
 | .ext i x,K,_=>extS i (ev K x)
 | .xop x args,K,H=>xopS x (evs K args) H
 | _,_,_=>false
theorem beqT {a b:Nat} (h:Nat.beq a b=true):a=b:=zj h
theorem bltT {a b:Nat} (h:Nat.blt a b=true):a < b:=Nat.le_of_ble_eq_true h
theorem bleT {a b:Nat} (h:Nat.ble a b=true):a≤b:=Nat.le_of_ble_eq_true h
theorem zlA {H:AH} {y:AV} (h:zvQ H y=true):fits H y:=by
 unfold zvQ at h
 unfold fits
 split at h
 ·
  split at h
  ·
   rename_i e
   simp only [e]
   exact bleT h
  · cases h
 ·
  rename_i hne
  split
  ·
   rename_i r q g off n
   exact absurd rfl (hne r q g off n)
  · trivial
theorem zsv {n:Nat}:∀ {l:List (Nat × Nat × AV)},zww n l=true→zmM n l
 | [],_=>trivial
 |
  (off,size,v)::r,h=>by
  simp only [zww,Bool.and_eq_true] at h
  exact ⟨⟨h.1.1,beqT h.1.2.1,bleT h.1.2.2⟩,zsv h.2⟩
theorem zrD {n sz:Nat}:∀ {l:List (Nat × AV)},setS n sz l=true→zoS n sz l
 | [],_=>trivial
 |
  (i,v)::r,h=>by
  simp only [setS,Bool.and_eq_true] at h
  exact ⟨⟨h.1.1,beqT h.1.2.1,bltT h.1.2.2⟩,zrD h.2⟩
theorem zjx {k:Option IntKind} {v:AV} (h:keyS k v=true):zgm k v:=by
 unfold keyS at h
 split at h
 ·
  rename_i q k n
  exact (of_decide_eq_true h:q=k)
 · trivial
 · cases h
theorem zsn {agg:Bool} {n:Nat} {p:AV} {H:AH} {nx:Nat} (h:zwm n p H=true):(zdq agg n p H nx).side:=by
 unfold zwm at h
 unfold zdq
 split at h
 ·
  split at h
  ·
   rename_i e
   simp only [e]
   simp only [Bool.and_eq_true] at h
   exact ⟨beqT h.1,bltT h.2.1,bleT h.2.2⟩
  · cases h
 · exact bleT h
 · cases h
theorem zvM {n:Nat} {p v:AV} {H:AH} {nx:Nat} (h:zsf n p v H=true):(zej n p v H nx).side:=by
 unfold zsf at h
 unfold zej
 split at h
 ·
  split at h
  ·
   rename_i e
   simp only [e]
   simp only [Bool.and_eq_true] at h
   exact ⟨beqT h.1,bltT h.2.1,bleT h.2.2.1,h.2.2.2.1,beqT h.2.2.2.2⟩
  · cases h
 · cases h
theorem zyR {sz:Nat} {x i:AV} {H:AH} {nx:Nat} (h:idxS sz x i H=true):(idxR sz x i H nx).side:=by
 unfold idxS at h
 unfold idxR
 split at h
 ·
  simp only [Bool.and_eq_true,decide_eq_true_eq] at h
  exact ⟨beqT h.1,h.2.1,h.2.2⟩
 ·
  split at h
  ·
   rename_i e
   simp only [e]
   simp only [Bool.and_eq_true,decide_eq_true_eq] at h
   exact ⟨beqT h.1,beqT h.2.1,h.2.2.1,h.2.2.2⟩
  · cases h
 · cases h
theorem zyT {op:BinOp} {x y:AV} {H:AH} {nx:Nat} (h:binS op x y=true):(binI op x y H nx).side:=by
 unfold binS at h
 unfold binI
 split at h
 · cases op<;>simp only [Bool.and_eq_true,decide_eq_true_eq] at h<;>exact h
 · cases h
theorem zwk {sz:Nat} {x:AV} {lo hi:Option AV} {H:AH} {nx:Nat} (h:zvH sz x lo hi H=true):(zef sz x lo hi H nx).side:=by
 unfold zvH at h
 cases x with
 |
  sl sz' n f =>
  simp only at h
  split at h
  ·
   rename_i a b e1 e2
   simp only [Bool.and_eq_true,decide_eq_true_eq] at h
   have:(zef sz (.sl sz' n f) lo hi H nx).side=(match loI lo,hiI n hi with | some a,some b=>(⟨sz'=sz∧0≤a∧a≤b∧b≤n,True, .sl sz (b - a).toNat (fun i j=>f (a.toNat+i) j),H,nx⟩:ORes) | _,_=>bad H nx).side:=rfl
   rw [this,e1,e2]
   exact ⟨beqT h.1,h.2.1,h.2.2.1,h.2.2.2⟩
  · cases h
 |
  own r q g off n =>
  simp only at h
  split at h
  ·
   rename_i sz' els g' a b e1 e2 e3
   simp only [Bool.and_eq_true,decide_eq_true_eq] at h
   have:(zef sz (.own r q g off n) lo hi H nx).side=(match H.get r q,loI lo,hiI n hi with | some (.row sz' _ g'),some a,some b=>(⟨sz'=sz∧g=g'∧0≤a∧a≤b∧b≤n,True, .own r q g (off+a.toNat) (b - a).toNat,H,nx⟩:ORes) | _,_,_=>bad H nx).side:=rfl
   rw [this,e1,e2,e3]
   exact ⟨beqT h.1,beqT h.2.1,h.2.2.1,h.2.2.2.1,h.2.2.2.2⟩
  · cases h
 |
  nilsl =>
  simp only at h
  split at h
  ·
   rename_i a b e1 e2
   simp only [Bool.and_eq_true,decide_eq_true_eq] at h
   have:(zef sz .nilsl lo hi H nx).side=(match loI lo,hiI 0 hi with | some a,some b=>(⟨a=0∧b=0,True, .nilsl,H,nx⟩:ORes) | _,_=>bad H nx).side:=rfl
   rw [this,e1,e2]
   exact ⟨h.1,h.2⟩
  · cases h
 | _=>cases h
theorem ztb {sz bytes:Nat} {x y:AV} {H:AH} {nx:Nat} (h:zn0 sz bytes x y H=true):(zd5 sz bytes x y H nx).side:=by
 unfold zn0 at h
 unfold zd5
 split at h
 ·
  rename_i e1 e2
  simp only [e1,e2]
  split at h
  ·
   split at h
   ·
    rename_i e3
    simp only [e3]
    simp only [Bool.and_eq_true] at h
    exact ⟨beqT h.1,beqT h.2.1,bleT h.2.2.1,zlA h.2.2.2.1,bleT h.2.2.2.2⟩
   · cases h
  ·
   simp only [Bool.and_eq_true] at h
   exact ⟨zlA h.1,bleT h.2⟩
  ·
   simp only [Bool.and_eq_true] at h
   exact ⟨zlA h.1,bleT h.2⟩
  · cases h
 · cases h
theorem zuB {sz:Nat} {zero:List AV} {x:AV} {H:AH} {nx:Nat} (h:zuy sz x H=true):(zge sz zero x H nx).side:=by
 unfold zuy at h
 unfold zge
 split at h
 ·
  split at h
  ·
   rename_i e
   simp only [e]
   simp only [Bool.and_eq_true] at h
   exact ⟨beqT h.1,beqT h.2.1,bleT h.2.2⟩
  · cases h
 · cases h
theorem zyO {x:XOp} {l:List AV} {H:AH} {nx:Nat} (h:xopS x l H=true):(xopR x l H nx).side:=by
 unfold xopS at h
 split at h
 ·
  split at h
  ·
   rename_i e
   simp only [Bool.and_eq_true] at h
   simp only [xopR,zlm,e]
   exact ⟨beqT h.1,beqT h.2.1,bltT h.2.2⟩
  · cases h
 · trivial
 · trivial
 · trivial
 ·
  simp only [Bool.and_eq_true,decide_eq_true_eq] at h
  exact ⟨h.1,h.2⟩
 ·
  split at h
  ·
   rename_i e
   simp only [Bool.and_eq_true] at h
   obtain ⟨l,hl⟩:=Option.isSome_iff_exists.1 h.1
   simp only [xopR,b2sR,e,hl]
   exact ⟨zlA h.2.1,h.2.2⟩
  · cases h
 · trivial
 ·
  split at h
  ·
   rename_i e
   simp only [Bool.and_eq_true] at h
   simp only [xopR,zkF,e]
   exact ⟨beqT h.1,beqT h.2.1,bleT h.2.2.1,bleT h.2.2.2⟩
  · cases h
 · exact bleT h
 · exact bleT h
 ·
  rename_i k a k' b
  exact (of_decide_eq_true h:k=k')
 ·
  rename_i k a k' b
  exact (of_decide_eq_true h:k=k')
 ·
  obtain ⟨t,ht⟩:=Option.isSome_iff_exists.1 h
  simp only [xopR,eqsR,ht]
 ·
  simp only [Bool.and_eq_true,decide_eq_true_eq] at h
  exact ⟨beqT h.1,h.2.1,h.2.2.1,h.2.2.2⟩
 ·
  split at h
  ·
   rename_i e
   simp only [Bool.and_eq_true,decide_eq_true_eq] at h
   simp only [xopR,sl3R,e]
   exact ⟨beqT h.1,beqT h.2.1,h.2.2.1,h.2.2.2.1,h.2.2.2.2⟩
  · cases h
 ·
  simp only [Bool.and_eq_true,decide_eq_true_eq] at h
  exact ⟨h.1,h.2⟩
 · trivial
 ·
  simp only [Bool.and_eq_true,decide_eq_true_eq] at h
  exact ⟨h.1,h.2.1,bltT h.2.2.1,bltT h.2.2.2⟩
 · trivial
 · exact zjx h
 ·
  split at h
  ·
   rename_i e
   simp only [Bool.and_eq_true] at h
   obtain ⟨t,ht⟩:=Option.isSome_iff_exists.1 h.1
   simp only [xopR,zgt,e,ht]
   exact ⟨beqT h.2.1,beqT h.2.2.1,zjx h.2.2.2⟩
  · cases h
 ·
  split at h
  ·
   rename_i e
   simp only [Bool.and_eq_true,decide_eq_true_eq] at h
   obtain ⟨t,ht⟩:=Option.isSome_iff_exists.1 h.1
   simp only [xopR,ziW,e,ht]
   cases t with
   | none=>exact ⟨beqT h.2.1,beqT h.2.2.1,zjx h.2.2.2.1,h.2.2.2.2⟩
   | some p=>exact ⟨beqT h.2.1,beqT h.2.2.1,zjx h.2.2.2.1⟩
  · cases h
 · trivial
 ·
  split at h
  ·
   rename_i e
   simp only [Bool.and_eq_true] at h
   simp only [xopR,zmb,e]
   exact ⟨beqT h.1,beqT h.2.1,bleT h.2.2⟩
  · cases h
 · exact zjx h
 ·
  split at h
  ·
   rename_i e
   simp only [Bool.and_eq_true] at h
   obtain ⟨t,ht⟩:=Option.isSome_iff_exists.1 h.1
   simp only [xopR,zj1,e,ht]
   cases t with
   | none=>exact ⟨beqT h.2.1,beqT h.2.2.1,zjx h.2.2.2⟩
   | some p=>exact ⟨beqT h.2.1,beqT h.2.2.1,zjx h.2.2.2⟩
  · cases h
 · trivial
 ·
  split at h
  ·
   rename_i e
   simp only [Bool.and_eq_true] at h
   simp only [xopR,zes,e]
   exact ⟨beqT h.1,beqT h.2⟩
  · cases h
 ·
  simp only [Bool.and_eq_true,decide_eq_true_eq] at h
  exact ⟨h.1,h.2.1,bleT h.2.2⟩
 ·
  simp only [Bool.and_eq_true,decide_eq_true_eq] at h
  exact h
 ·
  simp only [Bool.and_eq_true,decide_eq_true_eq] at h
  exact ⟨h.1,h.2.1,bleT h.2.2⟩
 · cases h
theorem zwC {op:AOp} {K:Nat→AV} {H:AH} {nx:Nat} (h:zig op K H=true):(aop op K H nx).side:=by
 cases op with
 | mov | mknil | alloc | mkfn=>trivial
 | load a n p=>exact zsn h
 | store n p v=>exact zvM h
 | idx s x i=>exact zyR h
 | slice s x lo hi=>exact zwk h
 | append s b x y=>exact ztb h
 | clear s z x=>exact zuB h
 | bin op x y=>exact zyT h
 | xop x xs=>exact zyO h
 | build z ps=>exact zsv h
 | buildSl s l z ps=>exact zrD h
 |
  rbuildSl s l z ps =>
  simp only [zig,Bool.and_eq_true] at h
  exact ⟨zrD h.1,h.2⟩
 | box x=>exact h
 |
  rbox x =>
  simp only [zig,Bool.and_eq_true] at h
  exact h
 |
  mksl s b z l c =>
  simp only [zig,mkslS] at h
  simp only [aop,zjM]
  generalize ev K l=ul at h ⊢
  generalize ev K c=uc at h ⊢
  split at h
  ·
   simp only [Bool.and_eq_true,decide_eq_true_eq] at h
   exact ⟨h.1,h.2.1,h.2.2.1,h.2.2.2.1,h.2.2.2.2.1,bltT h.2.2.2.2.2⟩
  · cases h
 |
  pick c x y =>
  simp only [zig,zyS] at h
  simp only [aop,zj7]
  generalize ev K c=uc at h ⊢
  split at h
  · trivial
  · cases h
 |
  fldaddr o n x =>
  simp only [zig,zn7] at h
  simp only [aop,zcv]
  generalize ev K x=ux at h ⊢
  split at h
  · trivial
  · exact bleT h
  · cases h
 |
  fld o n a x =>
  simp only [zig,fldS] at h
  simp only [aop,fldR]
  generalize ev K x=ux at h ⊢
  split at h
  · exact bleT h
  · cases h
 |
  len x =>
  simp only [zig,lenS] at h
  simp only [aop,lenR]
  generalize ev K x=ux at h ⊢
  split at h<;>first | trivial | cases h
 |
  slen x =>
  simp only [zig,slenS] at h
  simp only [aop,zl9]
  generalize ev K x=ux at h ⊢
  split at h<;>first | trivial | cases h
 |
  eqb n x y =>
  simp only [zig,eqbS] at h
  simp only [aop,eqB]
  generalize ev K x=ux at h ⊢
  generalize ev K y=uy at h ⊢
  split at h<;>first | trivial | cases h
 |
  un o x =>
  simp only [zig,unS] at h
  simp only [aop,unR]
  generalize ev K x=ux at h ⊢
  split at h<;>first | trivial | cases h
 |
  conv k x =>
  simp only [zig,convS] at h
  simp only [aop,zlk]
  generalize ev K x=ux at h ⊢
  split at h<;>first | trivial | cases h
 |
  cut x =>
  simp only [zig,cutS] at h
  simp only [aop,cutR]
  generalize ev K x=ux at h ⊢
  split at h<;>first | trivial | cases h
 |
  ext i x =>
  simp only [zig,extS] at h
  simp only [aop,extR]
  generalize ev K x=ux at h ⊢
  split at h
  · exact bltT h
  · cases h
 | _=>cases h
def frzV:Nat→AH→AV→AV
 | 0,_,_=>.undef
 |
  d+1,H,v=>match v with
  |
   .own r q g off n=>match H.get r q with
   | some (.row sz els g')=>bif Nat.beq g g'&&(Nat.ble n big&&Nat.ble (off+n) els.length) then .sl sz n (fun i j=>frzV d H ((els.getD (off+i) []).getD j .undef)) else .undef
   | _=>.undef
  |
   .ptr r q g i o=>match H.get r q with
   | some (.row sz els g')=>bif Nat.beq g g'&&(Nat.blt i els.length&&Nat.ble o sz) then .iptr (sz - o) (fun j=>frzV d H ((els.getD i []).getD (o+j) .undef)) else .undef
   | _=>.undef
  | .agg l=>.agg (l.map (frzV d H))
  | .tup l=>.tup (l.map (frzV d H))
  | .fn f l=>.fn f (l.map (frzV d H))
  | .mp _ _=>.undef
  | .it _=>.undef
  | .nilmp=>.undef
  | v=>v
theorem zip {H:AH}:∀ (d:Nat) (v:AV),Frz H v (frzV d H v)
 | 0,v=>.undef _ _
 |
  d+1,v=>by
  unfold frzV
  cases v with
  |
   own r q g off n =>
   simp only
   split
   ·
    rename_i sz els g' e
    cases hb:Nat.beq g g'&&(Nat.ble n big&&Nat.ble (off+n) els.length) with
    | false=>exact .undef _ _
    |
     true =>
     simp only [Bool.and_eq_true] at hb
     have hg:=beqT hb.1
     subst hg
     exact .frz _ r q g off n sz els _ trivial e (bleT hb.2.1) (bleT hb.2.2) fun i j _ _=>zip d _
   · exact .undef _ _
  |
   ptr r q g i o =>
   simp only
   split
   ·
    rename_i sz els g' e
    cases hb:Nat.beq g g'&&(Nat.blt i els.length&&Nat.ble o sz) with
    | false=>exact .undef _ _
    |
     true =>
     simp only [Bool.and_eq_true] at hb
     have hg:=beqT hb.1
     subst hg
     have h2:=bleT hb.2.2
     exact .frzp _ r q g i o (sz - o) sz els _ trivial e (bltT hb.2.1) (by omega) fun j _=>zip d _
   · exact .undef _ _
  |
   agg l =>
   refine .agg _ _ _ (by simp) fun i a b h1 h2=>?_
   rw [List.getElem?_map,h1] at h2
   cases h2
   exact zip d a
  |
   tup l =>
   refine .tup _ _ _ (by simp) fun i a b h1 h2=>?_
   rw [List.getElem?_map,h1] at h2
   cases h2
   exact zip d a
  |
   fn f l =>
   refine .fn _ _ _ _ (by simp) fun i a b h1 h2=>?_
   rw [List.getElem?_map,h1] at h2
   cases h2
   exact zip d a
  | undef=>exact .undef _ _
  | int=>exact .int _ _ _
  | bool=>exact .bool _ _
  | str=>exact .str _ _
  | nilp=>exact .nilp _
  | iptr n c=>exact .iptr _ _ _
  | sl sz n f=>exact .sl _ _ _ _
  | nilsl=>exact .nilsl _
  | cut=>exact .cut _
  | nilfn=>exact .nilfn _
  | mp | it | nilmp=>exact .undef _ _
abbrev zb8:=FuncId→List AV→AH→Nat→Option (AV × AH × Nat)
def zb8.Sound (P:Program) (call:zb8):Prop:=∀ f args H nx r,call f args H nx=some r→zN P f args H nx (fun v H' nx'=>(v,H',nx')=r)
def zvW (call:zb8) (f:FuncId) (args:List AV) (H:AH):Option AV :=
 bif args.all AV.flat then
  match call f args [] 0 with
  | some (v,H',_)=>some (frzV 9 H' v)
  | none=>none
 else
  match call f (args.map (frzV 9 H)) [] 0 with
  | some (v,H',_)=>bif (frzV 9 H' v).scal then some (frzV 9 H' v) else none
  | none=>none
def zmL (P:Program) (call:zb8) (op:AOp) (ρ:Nat→AV) (H:AH) (nx:Nat):Option (AV × AH × Nat) :=
 match op with
 | .call f args=>call f (evs ρ args) H nx
 |
  .callq f args=>match zvW call f (evs ρ args) H with
  | some v=>some (v,H,nx)
  | none=>none
 |
  .isnil neg p x=>match nilB p (ev ρ x) with
  | some (some b)=>some (.bool (b != neg),H,nx)
  | _=>none
 | .mnext _=>none
 |
  .callv x args=>match ev ρ x with
  | .fn (.func f) caps=>bif zfu P f then call f (evs ρ args++caps) H nx else none
  | _=>none
 | op=>bif zig op ρ H then some ((aop op ρ H nx).v,(aop op ρ H nx).H,(aop op ρ H nx).nx) else none
theorem zsm {H:AH}:∀ (l:List AV),Lend H allR l (l.map (frzV 9 H))
 | []=>.nil
 | a::l=>.cons (zip 9 a) (zsm l)
theorem zva {P:Program} {call:zb8} (hs:call.Sound P) {f:FuncId} {args:List AV} {H:AH} {nx:Nat} {v:AV} (h:zvW call f args H=some v):zdJ P f args H nx v:=by
 unfold zvW at h
 cases hb:args.all AV.flat with
 |
  true =>
  rw [hb] at h
  simp only [cond_true] at h
  split at h
  ·
   rename_i v0 H' nx' e
   cases h
   refine zm ?_ hb
   exact (hs f args [] 0 _ e).mono fun v1 H1 nx1 e1=>by
    cases e1
    exact ⟨_,zip 9 _,rfl⟩
  · cases h
 |
  false =>
  rw [hb] at h
  simp only [cond_false] at h
  split at h
  ·
   rename_i v0 H' nx' e
   cases hc:(frzV 9 H' v0).scal with
   | false=>rw [hc] at h;cases h
   |
    true =>
    rw [hc] at h
    cases h
    refine zaQ (D:=allR) ?_ (zsm args) (.inl hc)
    exact (hs f _ [] 0 _ e).mono fun v1 H1 nx1 e1=>by
     cases e1
     exact ⟨_,zip 9 _,rfl⟩
  · cases h
theorem zox {P:Program} {call:zb8} (hs:call.Sound P) {fx:Bool} {op:AOp} {ρ:Nat→AV} {H:AH} {nx:Nat} {r:AV × AH × Nat} {k:AV→AH→Nat→Prop} (h:zmL P call op ρ H nx=some r) (hk:k r.1 r.2.1 r.2.2) :
  zcS P fx op ρ H nx k:=by
 have key:∀ op':AOp,(bif zig op' ρ H then some ((aop op' ρ H nx).v,(aop op' ρ H nx).H,(aop op' ρ H nx).nx) else none)=some r→zjb fx (aop op' ρ H nx) k:=fun op' h=>by
  cases hb:zig op' ρ H with
  | false=>rw [hb] at h;cases h
  |
   true =>
   rw [hb] at h
   simp only [cond_true,Option.some.injEq] at h
   subst h
   exact ⟨zwC hb,fun _=>hk⟩
 cases op with
 | call f args=>exact (hs f _ H nx r h).mono fun v H' nx' e _=>by subst e;exact hk
 |
  callq f args =>
  simp only [zmL] at h
  split at h
  ·
   rename_i v e
   cases h
   exact ⟨v,zva hs e,hk⟩
  · cases h
 | mnext x=>cases h
 |
  isnil neg p x =>
  simp only [zmL] at h
  simp only [zcS]
  split at h
  ·
   rename_i b e
   cases h
   rw [e]
   exact hk
  · cases h
 |
  callv x args =>
  simp only [zmL] at h
  simp only [zcS]
  split at h
  ·
   rename_i f caps e
   cases hg:zfu P f with
   | false=>rw [hg] at h;cases h
   |
    true =>
    rw [hg] at h
    rw [e]
    exact ⟨hg,(hs f _ H nx r h).mono fun v H' nx' e _=>by subst e;exact hk⟩
  · cases h
 | _=>exact key _ h
abbrev St3:=Kn × AH × Nat
def oneX (P:Program) (call:zb8) (o:AOper) (K:Kn) (H:AH) (nx:Nat):Option St3 :=
 match o.guard with
 |
  none=>match zmL P call o.op K.get H nx with
  | some (v,H',nx')=>some (setO K o.dst v,H',nx')
  | none=>none
 |
  some (t,want)=>match grd want (K.get t) with
  |
   some true=>match zmL P call o.op K.get H nx with
   | some (v,H',nx')=>some (setO K o.dst v,H',nx')
   | none=>none
  | some false=>some (setO K o.dst (.tup []),H,nx)
  | none=>none
theorem zqN {P:Program} {call:zb8} (hs:call.Sound P) {fx:Bool} {o:AOper} {K:Kn} {H:AH} {nx:Nat} {r:St3} {k:Kn→AH→Nat→Prop} (h:oneX P call o K H nx=some r) (hk:k r.1 r.2.1 r.2.2):ExK P fx o K H nx k:=by
 unfold oneX at h
 unfold ExK
 cases hg:o.guard with
 |
  none =>
  rw [hg] at h
  simp only at h ⊢
  split at h
  ·
   rename_i v H' nx' e
   cases h
   exact zox hs e hk
  · cases h
 |
  some p =>
  obtain ⟨t,want⟩:=p
  rw [hg] at h
  simp only at h ⊢
  cases hw:grd want (K.get t) with
  | none=>rw [hw] at h;cases h
  |
   some b =>
   rw [hw] at h
   cases b with
   |
    true =>
    simp only at h
    split at h
    ·
     rename_i v H' nx' e
     cases h
     exact ⟨fun _=>zox hs e hk,fun hf=>(by cases hf)⟩
    · cases h
   |
    false =>
    cases h
    exact ⟨fun hf=>(by cases hf),fun _=>hk⟩
def zup (P:Program) (call:zb8):List AOper→Kn→AH→Nat→Option St3
 | [],K,H,nx=>some (K,H,nx)
 |
  o::os,K,H,nx=>match oneX P call o K H nx with
  | some (K',H',nx')=>zup P call os K' H' nx'
  | none=>none
theorem zr2 {P:Program} {call:zb8} (hs:call.Sound P) {drop:List Nat} {Q:QT}:∀ {os:List AOper} {K:Kn} {H:AH} {nx:Nat} {r:St3},zup P call os K H nx=some r→Q .normal (r.1.drop drop) r.2.1 r.2.2→aops P os drop Q K H nx
 |
  [],K,H,nx,r,h,hq=>by
  cases h
  exact hq
 |
  o::os,K,H,nx,r,h,hq=>by
  simp only [zup] at h
  split at h
  ·
   rename_i K' H' nx' e
   exact zqN hs e (zr2 hs h hq)
  · cases h
def zk5 (P:Program) (call:zb8):DTree→Kn→AH→Nat→Option St3
 | .done,K,H,nx=>some (K,H,nx)
 | .stop,_,_,_=>none
 |
  .step o t,K,H,nx=>match oneX P call o K H nx with
  | some (K',H',nx')=>zk5 P call t K' H' nx'
  | none=>none
 |
  .alt o t .stop,K,H,nx=>match oneX P call o K H nx with
  | some (K',H',nx')=>zk5 P call t K' H' nx'
  | none=>none
 | .alt _ _ _,_,_,_=>none
theorem zmm {P:Program} {call:zb8} (hs:call.Sound P) {drop:List Nat} {Q:QT}:∀ {t:DTree} {K:Kn} {H:AH} {nx:Nat} {r:St3},zk5 P call t K H nx=some r→Q .normal (r.1.drop drop) r.2.1 r.2.2→awpT P t drop Q K H nx
 |
  .done,K,H,nx,r,h,hq=>by
  cases h
  exact hq
 | .stop,_,_,_,_,h,_=>by cases h
 |
  .step o t,K,H,nx,r,h,hq=>by
  simp only [zk5] at h
  split at h
  ·
   rename_i K' H' nx' e
   exact zqN hs e (zmm hs h hq)
  · cases h
 |
  .alt o t .stop,K,H,nx,r,h,hq=>by
  simp only [zk5] at h
  split at h
  ·
   rename_i K' H' nx' e
   exact ⟨zqN hs e (zmm hs h hq),trivial⟩
  · cases h
 | .alt _ _ .done,_,_,_,_,h,_=>by cases h
 | .alt _ _ (.step _ _),_,_,_,_,h,_=>by cases h
 | .alt _ _ (.alt _ _ _),_,_,_,_,h,_=>by cases h
abbrev Out:=AExit × Kn × AH × Nat
def retS (K:Kn) (H:AH):List ARet→Bool
 | []=>true
 | .tmp _::r=>retS K H r
 | .cell t _ n::r=>zwm n (K.get t) H&&retS K H r
theorem zoi {K:Kn} {H:AH} {nx:Nat}:∀ {rs:List ARet},retS K H rs=true→zco K H nx rs
 | [],_=>trivial
 | .tmp _::r,h=>zoi (rs:=r) h
 |
  .cell t a n::r,h=>by
  simp only [retS,Bool.and_eq_true] at h
  exact ⟨zsn h.1,zoi h.2⟩
section
variable {P:Program} {qf:FuncId→Nat→List Nat} {orc:zb8}
def QX (r:Out):QT:=fun e K H nx=>(e,K,H,nx)=r
def noOrc:zb8:=fun _ _ _ _=>none
theorem zrC:noOrc.Sound P:=fun _ _ _ _ _ h=>by cases h
end
abbrev Sg:=Nat→Option Nat
def Sg.two (σ:Sg):Nat→Nat→Option (Nat × Nat × Nat):=fun r' q'=>match σ r' with
 | some r=>some (r,q',0)
 | none=>none
theorem Sg.two_some {σ:Sg} {r' q' r:Nat} (h:σ r'=some r):σ.two r' q'=some (r,q',0):=by unfold Sg.two;rw [h]
theorem Sg.of_two {σ:Sg} {r' q':Nat} {x:Nat × Nat × Nat} (h:σ.two r' q'=some x):σ r'=some x.1∧x=(x.1,q',0):=by
 unfold Sg.two at h
 split at h
 · rename_i r e;cases h;exact ⟨e,rfl⟩
 · cases h
def isS (σ:Sg) (r' r:Nat):Bool:=match σ r' with
 | some x=>Nat.beq x r
 | none=>false
theorem zle {σ:Sg} {r' r:Nat} (h:isS σ r' r=true):σ r'=some r:=by
 unfold isS at h
 split at h
 · rename_i x e;rw [e,zj h]
 · cases h
def okB (σ:Sg):Nat→AV→Bool
 | 0,_=>false
 |
  d+1,v=>match v with
  | .own r _ _ _ _=>isS σ r r
  | .ptr r _ _ _ _=>isS σ r r
  | .mp r _=>isS σ r r
  | .it r=>isS σ r r
  | .agg l=>l.all (okB σ d)
  | .tup l=>l.all (okB σ d)
  | .fn _ l=>l.all (okB σ d)
  | _=>true
def noD:Nat→Nat→Prop:=fun _ _=>False
theorem zvS {H H2:AH} {σ:Sg}:∀ (d:Nat) (v:AV),okB σ d v=true→Vw H H2 σ.two noD true v v
 | 0,_,h=>by cases h
 |
  d+1,v,h=>by
  unfold okB at h
  have inl:∀ l:List AV,l.all (okB σ d)=true→∀ (i:Nat) (a b:AV),l[i]? = some a→l[i]? = some b→Vw H H2 σ.two noD true a b:=fun l hl i a b h1 h2=>by
   rw [h1] at h2
   cases h2
   exact zvS d a (List.all_eq_true.1 hl a (List.mem_of_getElem? h1))
  cases v with
  | own r q g o n=>exact .own _ _ _ 0 _ _ _ _ g (Sg.two_some (zle h)) rfl
  | ptr r q g i f=>exact .ptr _ _ _ 0 _ _ _ _ g (Sg.two_some (zle h)) rfl
  | mp r q=>exact .mp _ _ _ _ (Sg.two_some (zle h))
  | it r=>exact .it _ _ (Sg.two_some (zle h))
  | agg l=>exact .agg _ _ _ rfl (inl l h)
  | tup l=>exact .tup _ _ _ rfl (inl l h)
  | fn f l=>exact .fn _ _ _ _ rfl (inl l h)
  | undef=>exact .undef _ _
  | int=>exact .int _ _ _
  | bool=>exact .bool _ _
  | str=>exact .str _ _
  | nilp=>exact .nilp _
  | iptr=>exact .iptr _ _ _
  | sl=>exact .sl _ _ _ _
  | nilsl=>exact .nilsl _
  | cut=>exact .cut _
  | nilfn=>exact .nilfn _
  | nilmp=>exact .nilmp _
def ziZ {α β:Type} (p:α→β→Bool):List α→List β→Bool
 | [],[]=>true
 | a::l,b::m=>p a b&&ziZ p l m
 | _,_=>false
theorem zdQ {α β:Type} {p:α→β→Bool}:∀ {l:List α} {m:List β},ziZ p l m=true→l.length=m.length
 | [],[],_=>rfl
 |
  a::l,b::m,h=>by
  simp only [ziZ,Bool.and_eq_true] at h
  rw [List.length_cons,List.length_cons,zdQ h.2]
 | [],_::_,h=>by cases h
 | _::_,[],h=>by cases h
theorem zh7 {α β:Type} {p:α→β→Bool}:∀ {l:List α} {m:List β},ziZ p l m=true→∀ (i:Nat) (a:α) (b:β),l[i]? = some a→m[i]? = some b→p a b=true
 | [],[],_,i,a,b,h,_=>by simp at h
 |
  a::l,b::m,h,i,x,y,hx,hy=>by
  simp only [ziZ,Bool.and_eq_true] at h
  cases i with
  | zero=>simp at hx hy;subst hx hy;exact h.1
  | succ i=>exact zh7 h.2 i x y (by simpa using hx) (by simpa using hy)
 | [],_::_,h,_,_,_,_,_=>by cases h
 | _::_,[],h,_,_,_,_,_=>by cases h
def zs0:IntKind→Nat
 | .i8=>0 | .i16=>1 | .i32=>2 | .i64=>3 | .u8=>4 | .u16=>5 | .u32=>6 | .u64=>7
theorem zoX {k k':IntKind} (h:zs0 k=zs0 k'):k=k':=by
 cases k<;>cases k'<;>first | rfl | cases h
def beqI:Int→Int→Bool
 | .ofNat a, .ofNat b=>Nat.beq a b
 | .negSucc a, .negSucc b=>Nat.beq a b
 | _,_=>false
theorem zvl:∀ {a b:Int},beqI a b=true→a=b
 | .ofNat a, .ofNat b,h=>by rw [zj h]
 | .negSucc a, .negSucc b,h=>by rw [zj (a:=a) (b:=b) h]
 | .ofNat _, .negSucc _,h=>by cases h
 | .negSucc _, .ofNat _,h=>by cases h
def beqU:List UInt8→List UInt8→Bool
 | [],[]=>true
 | a::l,b::m=>Nat.beq a.toNat b.toNat&&beqU l m
 | _,_=>false
theorem zwj:∀ {l m:List UInt8},beqU l m=true→l=m
 | [],[],_=>rfl
 |
  a::l,b::m,h=>by
  simp only [beqU,Bool.and_eq_true] at h
  rw [UInt8.toNat_inj.1 (zj h.1),zwj h.2]
 | [],_::_,h=>by cases h
 | _::_,[],h=>by cases h
def beqS (s t:ByteArray):Bool:=beqU s.data.toList t.data.toList
theorem zvn {s t:ByteArray} (h:beqS s t=true):s=t:=by
 obtain ⟨⟨l⟩⟩:=s
 obtain ⟨⟨m⟩⟩:=t
 have:=zwj h
 simp only at this
 rw [this]
def fnN:Fn→Option Nat
 | .func f=>some f
 | _=>none
theorem zyn {f g:Fn} {n:Nat} (h:fnN f=some n) (h':fnN g=some n):f=g:=by
 cases f<;>cases g<;>simp_all [fnN]
def vw0B:Nat→AV→AV→Bool
 | 0,_,_=>false
 |
  d+1,a,b=>match a,b with
  | _, .undef=>true
  | .int k n, .int k' n'=>Nat.beq (zs0 k) (zs0 k')&&beqI n n'
  | .bool x, .bool y=>x == y
  | .str s, .str t=>beqS s t
  | .nilp, .nilp=>true
  | .nilsl, .nilsl=>true
  | .nilfn, .nilfn=>true
  | .nilmp, .nilmp=>true
  | .cut, .cut=>true
  | .sl sz n f, .sl sz' n' f'=>Nat.beq sz sz'&&(Nat.beq n n'&&allB n fun i=>allB sz fun j=>vw0B d (f i j) (f' i j))
  | .iptr n c, .iptr n' c'=>Nat.beq n n'&&allB n fun j=>vw0B d (c j) (c' j)
  | .agg l, .agg m=>ziZ (vw0B d) l m
  | .tup l, .tup m=>ziZ (vw0B d) l m
  | .fn f l, .fn g m=>(match fnN f,fnN g with | some x,some y=>Nat.beq x y | _,_=>false)&&ziZ (vw0B d) l m
  | _,_=>false
theorem zl6 {H H2:AH} {σ:Sg}:∀ (d:Nat) (a b:AV),vw0B d a b=true→∀ t,Vw H H2 σ.two noD t a b
 | 0,_,_,h,_=>by cases h
 |
  d+1,a,b,h,t=>by
  have inl:∀ l m:List AV,ziZ (vw0B d) l m=true→∀ (i:Nat) (a b:AV),l[i]? = some a→m[i]? = some b→Vw H H2 σ.two noD t a b:=fun l m hl i a b h1 h2 =>
   zl6 d a b (zh7 hl i a b h1 h2) t
  unfold vw0B at h
  split at h
  · exact .undef _ _
  ·
   simp only [Bool.and_eq_true] at h
   rw [zoX (zj h.1),zvl h.2]
   exact .int _ _ _
  ·
   rw [beq_iff_eq] at h
   subst h
   exact .bool _ _
  ·
   rw [zvn h]
   exact .str _ _
  · exact .nilp _
  · exact .nilsl _
  · exact .nilfn _
  · exact .nilmp _
  · exact .cut _
  ·
   simp only [Bool.and_eq_true] at h
   obtain ⟨h1,h2,h3⟩:=h
   cases zj h1;cases zj h2
   exact .slf _ _ _ _ _ fun i j hi hj=>zl6 d _ _ (zbk (zbk h3 hi) hj) false
  ·
   simp only [Bool.and_eq_true] at h
   obtain ⟨h1,h2⟩:=h
   cases zj h1
   exact .iptrf _ _ _ _ fun j hj=>zl6 d _ _ (zbk h2 hj) false
  · exact .agg _ _ _ (zdQ h) (inl _ _ h)
  · exact .tup _ _ _ (zdQ h) (inl _ _ h)
  ·
   rename_i f l g m
   simp only [Bool.and_eq_true] at h
   obtain ⟨h1,h2⟩:=h
   cases e1:fnN f with
   | none=>rw [e1] at h1;cases h1
   |
    some x =>
    cases e2:fnN g with
    | none=>rw [e1,e2] at h1;cases h1
    |
     some y =>
     rw [e1,e2] at h1
     cases zj h1
     rw [zyn e1 e2]
     exact .fn _ _ _ _ (zdQ h2) (inl _ _ h2)
  · cases h
def vwB (σ:Sg):Nat→AV→AV→Bool
 | 0,_,_=>false
 |
  d+1,a,b=>match a,b with
  | _, .undef=>true
  | .int k n, .int k' n'=>Nat.beq (zs0 k) (zs0 k')&&beqI n n'
  | .bool x, .bool y=>x == y
  | .str s, .str t=>beqS s t
  | .nilp, .nilp=>true
  | .nilsl, .nilsl=>true
  | .nilfn, .nilfn=>true
  | .nilmp, .nilmp=>true
  | .cut, .cut=>true
  | .own r q g o n, .own r' q' g' o' n'=>isS σ r' r&&(Nat.beq q q'&&(Nat.beq g g'&&(Nat.beq o o'&&Nat.beq n n')))
  | .ptr r q g o n, .ptr r' q' g' o' n'=>isS σ r' r&&(Nat.beq q q'&&(Nat.beq g g'&&(Nat.beq o o'&&Nat.beq n n')))
  | .mp r q, .mp r' q'=>isS σ r' r&&Nat.beq q q'
  | .it r, .it r'=>isS σ r' r
  | .sl sz n f, .sl sz' n' f'=>vw0B (d+1) (.sl sz n f) (.sl sz' n' f')
  | .iptr n c, .iptr n' c'=>vw0B (d+1) (.iptr n c) (.iptr n' c')
  | .agg l, .agg m=>ziZ (vwB σ d) l m
  | .tup l, .tup m=>ziZ (vwB σ d) l m
  | .fn f l, .fn g m=>(match fnN f,fnN g with | some x,some y=>Nat.beq x y | _,_=>false)&&ziZ (vwB σ d) l m
  | _,_=>false
theorem zrW {H H2:AH} {σ:Sg}:∀ (d:Nat) (a b:AV),vwB σ d a b=true→Vw H H2 σ.two noD true a b
 | 0,_,_,h=>by cases h
 |
  d+1,a,b,h=>by
  have inl:∀ l m:List AV,ziZ (vwB σ d) l m=true→∀ (i:Nat) (a b:AV),l[i]? = some a→m[i]? = some b→Vw H H2 σ.two noD true a b:=fun l m hl i a b h1 h2 =>
   zrW d a b (zh7 hl i a b h1 h2)
  unfold vwB at h
  split at h
  · exact .undef _ _
  ·
   simp only [Bool.and_eq_true] at h
   rw [zoX (zj h.1),zvl h.2]
   exact .int _ _ _
  ·
   rw [beq_iff_eq] at h
   subst h
   exact .bool _ _
  ·
   rw [zvn h]
   exact .str _ _
  · exact .nilp _
  · exact .nilsl _
  · exact .nilfn _
  · exact .nilmp _
  · exact .cut _
  ·
   simp only [Bool.and_eq_true] at h
   obtain ⟨h1,h2,h3,h4,h5⟩:=h
   cases zj h2;cases zj h3;cases zj h4;cases zj h5
   exact .own _ _ _ 0 _ _ _ _ _ (Sg.two_some (zle h1)) rfl
  ·
   simp only [Bool.and_eq_true] at h
   obtain ⟨h1,h2,h3,h4,h5⟩:=h
   cases zj h2;cases zj h3;cases zj h4;cases zj h5
   exact .ptr _ _ _ 0 _ _ _ _ _ (Sg.two_some (zle h1)) rfl
  ·
   simp only [Bool.and_eq_true] at h
   cases zj h.2
   exact .mp _ _ _ _ (Sg.two_some (zle h.1))
  · exact .it _ _ (Sg.two_some (zle h))
  · exact zl6 _ _ _ h _
  · exact zl6 _ _ _ h _
  · exact .agg _ _ _ (zdQ h) (inl _ _ h)
  · exact .tup _ _ _ (zdQ h) (inl _ _ h)
  ·
   rename_i f l g m
   simp only [Bool.and_eq_true] at h
   obtain ⟨h1,h2⟩:=h
   cases e1:fnN f with
   | none=>rw [e1] at h1;cases h1
   |
    some x =>
    cases e2:fnN g with
    | none=>rw [e1,e2] at h1;cases h1
    |
     some y =>
     rw [e1,e2] at h1
     cases zj h1
     rw [zyn e1 e2]
     exact .fn _ _ _ _ (zdQ h2) (inl _ _ h2)
  · cases h
def sgR (lo cnt top nx2:Nat):Sg:=fun r' =>
 bif Nat.ble lo r'&&Nat.blt r' (lo+cnt) then some (r' - lo+top) else bif Nat.blt r' top&&Nat.blt r' nx2 then some r' else none
def rowB (σ:Sg):List AV→List AV→Bool:=ziZ (vwB σ 30)
def zuP (σ:Sg) (nx2:Nat) (H:AH):AH→Bool
 | []=>true
 | (r',o)::t=>(Nat.blt r' nx2&&(match o with
   |
    .row sz els2 g2=>match σ r' with
    |
     some r=>match H.look r with
     | some (.row sz' els g)=>Nat.beq sz sz'&&(Nat.beq g g2&&ziZ (rowB σ) els els2)
     | _=>false
    | none=>false
   | _=>false))&&zuP σ nx2 H t
theorem zoI:∀ {H:AH} {r:Nat} {o:AObj},H.look r=some o→(r,o)∈H
 | [],r,o,h=>by cases h
 |
  (j,u)::t,r,o,h=>by
  simp only [AH.look] at h
  cases hb:Nat.beq j r with
  |
   true =>
   rw [hb] at h
   cases h
   rw [zj hb]
   simp
  |
   false =>
   rw [hb] at h
   exact List.mem_cons_of_mem _ (zoI h)
theorem zme {σ:Sg} {nx2:Nat} {H:AH}:∀ {H2:AH},zuP σ nx2 H H2=true→∀ {r':Nat} {o:AObj},(r',o)∈H2→r' < nx2∧∃ sz els2 g r els,o=.row sz els2 g∧σ r'=some r∧H.look r=some (.row sz els g)∧ziZ (rowB σ) els els2=true
 | [],_,_,_,hm=>by simp at hm
 |
  (j,u)::t,h,r',o,hm=>by
  simp only [zuP,Bool.and_eq_true] at h
  obtain ⟨⟨h1,h2⟩,h3⟩:=h
  rcases List.mem_cons.1 hm with e | hm
  ·
   cases e
   refine ⟨bltT h1,?_⟩
   split at h2
   ·
    rename_i sz els2 g2
    split at h2
    ·
     rename_i r hr
     split at h2
     ·
      rename_i sz' els g hl
      simp only [Bool.and_eq_true] at h2
      obtain ⟨a1,a2,a3⟩:=h2
      cases zj a1;cases zj a2
      exact ⟨_,_,_,r,els,rfl,hr,hl,a3⟩
     · cases h2
    · cases h2
   · cases h2
  · exact zme h3 hm
theorem zwQ {B lo cnt top nx2:Nat} {H H2:AH} (hB:B≤lo) (hBt:B≤top) (hB2:B≤nx2) (hlo:lo+cnt≤nx2) (hr:zuP (sgR lo cnt top nx2) nx2 H H2=true):View B H H2 nx2 (sgR lo cnt top nx2).two noD:=by
 have cases':∀ {r' r:Nat},sgR lo cnt top nx2 r'=some r→(lo≤r'∧r' < lo+cnt∧r=r' - lo+top)∨(r' < top∧r' < nx2∧r=r'):=fun {r' r} h=>by
  unfold sgR at h
  cases hb:Nat.ble lo r'&&Nat.blt r' (lo+cnt) with
  |
   true =>
   rw [hb] at h
   simp only [Bool.and_eq_true] at hb
   cases h
   exact .inl ⟨bleT hb.1,bltT hb.2,rfl⟩
  |
   false =>
   rw [hb] at h
   cases hc:Nat.blt r' top&&Nat.blt r' nx2 with
   |
    true =>
    rw [hc] at h
    simp only [Bool.and_eq_true] at hc
    cases h
    exact .inr ⟨bltT hc.1,bltT hc.2,rfl⟩
   | false=>rw [hc] at h;cases h
 refine ⟨hB2,fun r q h=>?_,?_,fun _ _ _ _ _ _ h=>h,?_,fun r o h=>(zme hr (zoI h)).1,fun r' q' sz els2 g2 h=>?_⟩
 ·
  refine Sg.two_some ?_
  unfold sgR
  have h1:Nat.ble lo r=false:=by
   cases hb:Nat.ble lo r with
   | false=>rfl
   | true=>have:=bleT hb;omega
  have h2:Nat.blt r top=true:=by
   cases hb:Nat.blt r top with
   | true=>rfl
   |
    false =>
    have:=Nat.le_of_not_lt (fun h:r < top=>by
     have:Nat.blt r top=true:=by simpa [Nat.blt_eq] using h
     rw [hb] at this
     cases this)
    omega
  have h3:Nat.blt r nx2=true:=by
   cases hb:Nat.blt r nx2 with
   | true=>rfl
   |
    false =>
    have:=Nat.le_of_not_lt (fun h:r < nx2=>by
     have:Nat.blt r nx2=true:=by simpa [Nat.blt_eq] using h
     rw [hb] at this
     cases this)
    omega
  rw [h1,h2,h3]
  rfl
 ·
  intro r1 q1 r2 q2 r q d1 d2 h1 h2
  obtain ⟨a1,a2⟩:=Sg.of_two h1
  obtain ⟨b1,b2⟩:=Sg.of_two h2
  cases a2
  cases b2
  refine ⟨?_,rfl⟩
  rcases cases' a1 with ⟨x1,x2,x3⟩ | ⟨x1,x2,x3⟩<;>rcases cases' b1 with ⟨y1,y2,y3⟩ | ⟨y1,y2,y3⟩<;>simp only at x3 y3<;>omega
 ·
  intro r' q' x h
  obtain ⟨a1,_⟩:=Sg.of_two h
  rcases cases' a1 with ⟨x1,x2,_⟩ | ⟨_,x2,_⟩<;>omega
 ·
  unfold AH.get at h
  cases hl:H2.look r' with
  | none=>rw [hl] at h;cases h
  |
   some o =>
   rw [hl] at h
   obtain ⟨_,sz',els2',g',r,els,rfl,h2,h3,h4⟩:=zme hr (zoI hl)
   cases q' with
   | succ q'=>cases h
   |
    zero =>
    cases h
    refine .inl ⟨r,0,0,els,Sg.two_some h2,?_,?_⟩
    ·
     unfold AH.get
     rw [h3]
     rfl
    ·
     refine ⟨(zdQ h4).symm,fun i c2 hi=>?_⟩
     have hi':i < els.length:=by rw [zdQ h4];exact (List.getElem?_eq_some_iff.1 hi).1
     have hc:=zh7 h4 i _ _ (List.getElem?_eq_getElem hi') hi
     exact ⟨_,List.getElem?_eq_getElem hi',(zdQ hc).symm,fun j a b h5 h6=>zrW 30 a b (zh7 hc j a b h5 h6)⟩
end Go.Ab
