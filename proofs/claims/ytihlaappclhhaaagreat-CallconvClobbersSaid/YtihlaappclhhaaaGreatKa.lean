/-
  Part 1 of the proof: how the calls of this program run, over values instead of memory, and what each function computes.
-/
import Derived.WalkKit
import Derived.Deep.Upon
import Derived.Deep.MidRow
import Derived.Deep.Quiet
import Derived.Deep.Slices
import Derived.OpenShut
set_option maxRecDepth 100000
set_option linter.unusedVariables false
set_option linter.unusedSimpArgs false
set_option linter.unnecessarySimpa false
set_option linter.unusedSectionVars false
open Nat renaming beq→Wa,le_refl→Wc,add_mul→We,mul_le_mul_right→Wi,mul_pos→Wk,eq_zero_or_pos→Wm,zero_add→Wp,zero_le→Wr,add_assoc→Ws,mul_comm→Wv,lt_of_lt_of_le→Wy,lt_irrefl→Wz,zero_mul→WH,le_trans→WK,lt_succ_self→WL,le_succ→WM,add_zero→WW,mod_eq_of_lt→W8,lt_or_gt_of_ne→W9,mul_le_mul_left→Waa,div_lt_of_lt_mul→Wad
open List renaming getElem?_eq_getElem→Wd,getElem?_eq_some_iff→Wf,replicate→Wh,range→Wj,getD→Wl,eq_nil_of_length_eq_zero→Wq,getElem?_replicate→Wu,getElem?_set→Ww,getElem?_map→Wx,getElem?_append_left→WB,getElem?_append_right→WC,mem_of_getElem?→WD,getElem?_take→WE,getElem?_drop→WF,append_assoc→WG,length_replicate→WI,length_append→WJ,mapM_cons→WN,getElem?_toArray→WR,getElem?_cons_succ→W3,getD_eq_getElem?_getD→W5,getElem?_of_mem→Wab,getElem?_append→Wac,size_toArray→Wae
open Array renaming getElem?_eq_getElem→Wg,range→Wt,getD_eq_getD_getElem?→WU,getElem?_toList→WX,all_eq_true_iff_forall_mem→WZ,mem_of_getElem?→W0,getElem?_eq_some_iff→W6,getElem?_setIfInBounds→W7
open Option.some renaming injEq→Wn
open Option renaming map_eq_some_iff→Wo,bind_eq_bind→WO,pure_def→WP,bind_eq_some_iff→WQ,getD_some→WV,bind_some→WY
open Bool renaming and_eq_true→WA,false_eq_true→WS
namespace Go.Ab
open Go.RowKit
structure Loc where
 block:Nat
 off:Nat
 cap:Nat
 sz:Nat
abbrev Inj:=Nat→Nat→Nat→Option Loc
def noI:Inj:=fun _ _ _=>none
inductive AV where
 | undef
 | int (k:IntKind) (n:Int)
 | bool (b:Bool)
 | str (s:ByteArray)
 | nilp
 | ptr (r q g i f:Nat)
 | iptr (n:Nat) (c:Nat→AV)
 | sl (sz n:Nat) (f:Nat→Nat→AV)
 | nilsl
 | cut
 | own (r q g off n:Nat)
 | fn (f:Fn) (caps:List AV)
 | nilfn
 | agg (cs:List AV)
 | tup (cs:List AV)
 | mp (r q:Nat)
 | nilmp
 | it (r:Nat)
 deriving Inhabited
inductive AObj where
 | row (sz:Nat) (els:List (List AV)) (g:Nat)
 | fam (sz:Nat) (ins:List (List (List AV) × Nat))
abbrev AH:=List (Nat × AObj)
def AH.look:AH→Nat→Option AObj
 | [],_=>none
 | (j,o)::t,r=>bif Wa j r then some o else AH.look t r
def AH.put:AH→Nat→AObj→AH
 | [],r,o=>[(r,o)]
 | (j,u)::t,r,o=>bif Wa j r then (r,o)::t else (j,u)::AH.put t r o
def AObj.part:AObj→Nat→Option AObj
 | .row sz els g,0=>some (.row sz els g)
 | .row _ _ _,_+1=>none
 | .fam _ _,0=>none
 | .fam sz ins,i+1=>(ins[i]?).map fun p=>.row sz p.1 p.2
def AObj.upd:AObj→Nat→AObj→AObj
 | .fam sz ins,i+1,.row _ els g=>.fam sz (ins.set i (els,g))
 | _,_,o=>o
def AH.get(H:AH)(r q:Nat):Option AObj:=(H.look r).bind (·.part q)
def AH.set(H:AH)(r q:Nat)(o:AObj):AH :=
 match H.look r with
 | some u=>H.put r (u.upd q o)
 | none=>H.put r o
theorem zF{a b:Nat}(h:Wa a b=true):a=b:=Nat.eq_of_beq_eq_true h
theorem zep(a:Nat):Wa a a=true:=Nat.beq_refl a
theorem zeL{a b:Nat}(h:a≠b):Wa a b=false:=by
 cases hb:Wa a b
 · rfl
 · exact absurd (zF hb) h
theorem AH.look_put(H:AH)(r:Nat)(o:AObj)(x:Nat):(H.put r o).look x=if x=r then some o else H.look x:=by
 induction H with
 |
  nil =>
  by_cases hx:x=r
  · subst hx;simp[AH.put,AH.look]
  · simp[AH.put,AH.look,zeL (Ne.symm hx),hx]
 |
  cons p t ih =>
  obtain⟨j,u⟩:=p
  by_cases hj:j=r
  ·
   subst hj
   by_cases hx:x=j
   · subst hx;simp[AH.put,AH.look]
   · simp[AH.put,AH.look,zeL (Ne.symm hx),hx]
  ·
   by_cases hx:x=r
   · subst hx;simp[AH.put,AH.look,zeL hj,ih]
   · simp only[AH.put,zeL hj,cond_false,AH.look,ih,if_neg hx]
def zyS(H:AH)(r q sz:Nat):Prop:=(∃els g,H.get r q=some (.row sz els g))∨(H.look r=none∧q=0)
theorem AH.get_set{H:AH}{r q sz:Nat}(h:zyS H r q sz)(els:List (List AV))(g x y:Nat):
  (H.set r q (.row sz els g)).get x y=if x=r∧y=q then some (.row sz els g) else H.get x y:=by
 unfold AH.get AH.set at *
 rcases h with ⟨els0,g0,h⟩ | ⟨h,rfl⟩
 ·
  cases hl:H.look r with
  | none=>unfold AH.get at h;rw[hl] at h;cases h
  |
   some u =>
   unfold AH.get at h;rw[hl] at h;simp only[WY] at h;simp only[AH.look_put]
   by_cases hx:x=r
   ·
    subst hx;rw[if_pos rfl,hl];simp only[WY,true_and]
    cases u with
    |
     row sz1 els1 g1 =>
     cases q with
     |
      zero =>
      simp only[AObj.upd]
      cases y with
      | zero=>rfl
      | succ y=>simp[AObj.part]
     | succ q=>simp[AObj.part] at h
    |
     fam sz1 ins =>
     cases q with
     | zero=>simp[AObj.part] at h
     |
      succ i =>
      simp only[AObj.part] at h;obtain⟨p,hp,he⟩:=Wo.1 h;cases he;have hi:=(Wf.1 hp).1;simp only[AObj.upd]
      cases y with
      | zero=>simp[AObj.part]
      |
       succ y =>
       simp only[AObj.part,Ww,Nat.succ.injEq]
       by_cases hy:y=i
       · subst hy;simp[hi]
       · simp[hy,Ne.symm hy]
   · rw[if_neg hx,if_neg (fun e=>hx e.1)]
 ·
  rw[h];simp only[AH.look_put]
  by_cases hx:x=r
  ·
   subst hx;rw[if_pos rfl,h]
   cases y with
   | zero=>simp[AObj.part]
   | succ y=>simp[AObj.part]
  · rw[if_neg hx,if_neg (fun e=>hx e.1)]
theorem AH.look_set{H:AH}{r q:Nat}{o o':AObj}{x:Nat}(h:(H.set r q o).look x=some o'):x=r∨H.look x=some o':=by
 unfold AH.set at h;split at h
 ·
  rw[AH.look_put] at h;split at h
  · exact .inl ‹_›
  · exact .inr h
 ·
  rw[AH.look_put] at h;split at h
  · exact .inl ‹_›
  · exact .inr h
def big:Nat:=9223372036854775807
def InR(k:IntKind)(n:Int):Prop:=k.min≤n∧n≤k.max
inductive VR(w:World)(L:Nat→Prop):Inj→Value→AV→Prop where
 | undef (ι v):VR w L ι v .undef
 | int (ι k n) (h:InR k n):VR w L ι (.int k n) (.int k n)
 | bool (ι b):VR w L ι (.bool b) (.bool b)
 | str (ι s) (h:s.size≤big):VR w L ι (.string s) (.str s)
 | nilp (ι):VR w L ι (.pointer none) .nilp
 | ptr (ι:Inj) (r q g i f l) (h:ι r q g=some l) (hm:l.cap≤maxLen):VR w L ι (.pointer (some ⟨l.block,l.off+i * l.sz+f,none⟩)) (.ptr r q g i f)
 | iptr (ι) (a:Addr) (n:Nat) (c:Nat→AV) (V:Nat→Value) (hc:∀j,j < n→w.cell? (a.add j)=some (V j)∧(V j).oneCell'=true)
   (hL:0 < n→¬L a.block) (hv:∀j,j < n→VR w L noI (V j) (c j)):VR w L ι (.pointer (some a)) (.iptr n c)
 | sl (ι) (a:Addr) (sz n cap:Nat) (f:Nat→Nat→AV) (V:Nat→Nat→Value) (hn:n≤cap) (hb:n≤big)
   (hc:∀i j,i < n→j < sz→w.cell? ((a.add (i * sz)).add j)=some (V i j)∧(V i j).oneCell'=true)
   (hL:0 < n * sz→¬L a.block) (hv:∀i j,i < n→j < sz→VR w L noI (V i j) (f i j)):VR w L ι (.slice (some a) n cap) (.sl sz n f)
 | sl0 (ι sz f):VR w L ι (.slice none 0 0) (.sl sz 0 f)
 | nilsl (ι):VR w L ι (.slice none 0 0) .nilsl
 | cut (ι a):VR w L ι (.slice a 0 0) .cut
 | own (ι:Inj) (r q g off n:Nat) (a:Option Addr) (c:Nat) (l:Loc) (h:ι r q g=some l) (hm:l.cap≤maxLen) (hn:n≤c) (hc:off+c≤l.cap)
   (ha:0 < c→a=some ⟨l.block,l.off+off * l.sz,none⟩):VR w L ι (.slice a n c) (.own r q g off n)
 | mp (ι:Inj) (r q l) (h:ι r q 0=some l) (hm:l.cap=maxLen+1):VR w L ι (.map (some l.block)) (.mp r q)
 | nilmp (ι):VR w L ι (.map none) .nilmp
 | it (ι:Inj) (r l) (h:ι r 0 0=some l) (hm:l.cap=maxLen+2∨l.cap=maxLen+3):VR w L ι (.pointer (some ⟨l.block,0,none⟩)) (.it r)
 | fn (ι) (f:Fn) (cs:Array Value) (caps:List AV) (hs:cs.size=caps.length) (hv:∀(i:Nat)(v:Value)(a:AV),cs[i]? = some v→caps[i]? = some a→VR w L ι v a):VR w L ι (.func f #[] cs) (.fn f caps)
 | nilfn (ι):VR w L ι .nilFunc .nilfn
 | agg (ι) (cs:Array Value) (asv:List AV) (hs:cs.size=asv.length) (h1:∀(i:Nat)(v:Value),cs[i]? = some v→v.oneCell'=true)
   (hv:∀(i:Nat)(v:Value)(a:AV),cs[i]? = some v→asv[i]? = some a→VR w L ι v a):VR w L ι (.agg cs) (.agg asv)
 | tup (ι) (cs:Array Value) (asv:List AV) (hs:cs.size=asv.length) (hv:∀(i:Nat)(v:Value)(a:AV),cs[i]? = some v→asv[i]? = some a→VR w L ι v a):VR w L ι (.tuple cs) (.tup asv)
theorem zc1(a:Addr)(n:Nat):(a.add n).block=a.block:=by unfold Addr.add;split<;>rfl
theorem zkP{w:World}{a:Addr}{v:Value}(h:w.cell? a=some v):a.block < w.heap.size:=World.block_lt_of_cell? w a h
theorem zjk{w w':World}{a:Addr}(h:w'.heap[a.block]? = w.heap[a.block]?):w'.cell? a=w.cell? a:=World.cell?_of_block h
theorem zrO{w w':World}{a:Addr}(h:w'.heap[a.block]? = w.heap[a.block]?):w'.frozen? a=w.frozen? a:=World.frozen?_of_block h
theorem VR.mono {w w':World} {L L':Nat→Prop} (hw:∀b,b < w.heap.size→¬L b→w'.heap[b]? = w.heap[b]? ∧ ¬L' b)
  {ι:Inj} {v:Value} {a:AV} (h:VR w L ι v a):∀{ι':Inj},(∀r q g l,ι r q g=some l→ι' r q g=some l)→VR w' L' ι' v a:=by
 induction h with
 | undef ι v=>intro ι' _;exact .undef _ _
 | int ι k n h=>intro ι' _;exact .int _ _ _ h
 | bool ι b=>intro ι' _;exact .bool _ _
 | str ι s h=>intro ι' _;exact .str _ _ h
 | nilp ι=>intro ι' _;exact .nilp _
 | ptr ι r q g i f l h hm=>intro ι' hι;exact .ptr _ _ _ _ _ _ _ (hι _ _ _ _ h) hm
 | mp ι r q l h hm=>intro ι' hι;exact .mp _ _ _ _ (hι _ _ _ _ h) hm
 | nilmp ι=>intro ι' _;exact .nilmp _
 | it ι r l h hm=>intro ι' hι;exact .it _ _ _ (hι _ _ _ _ h) hm
 |
  iptr ι a n c V hc hL hv ih =>
  intro ι' _
  have hb:0 < n→w'.heap[a.block]? = w.heap[a.block]? ∧ ¬L' a.block:=fun hn=>by have:=zkP (hc 0 hn).1;rw[zc1] at this;exact hw _ this (hL hn)
  refine .iptr _ a n c V (fun j hj=>?_) (fun hn=>(hb hn).2) (fun j hj=>ih j hj (fun _ _ _ _ h=>by cases h));have e:w'.cell? (a.add j)=w.cell? (a.add j):=zjk (by rw[zc1];exact(hb (by omega)).1);rw[e];exact hc j hj
 |
  sl ι a sz n cap f V hn hbig hc hL hv ih =>
  intro ι' _
  have hb:0 < n * sz→w'.heap[a.block]? = w.heap[a.block]? ∧ ¬L' a.block:=fun hp=>by
   have h1:0 < n:=Nat.pos_of_mul_pos_right hp |> fun _=>by
    rcases Wm n with h|h
    · subst h;simp at hp
    · exact h
   have h2:0 < sz:=by
    rcases Wm sz with h|h
    · subst h;simp at hp
    · exact h
   have:=zkP (hc 0 0 h1 h2).1;rw[zc1,zc1] at this;exact hw _ this (hL hp)
  refine .sl _ a sz n cap f V hn hbig (fun i j hi hj=>?_) (fun hp=>(hb hp).2) (fun i j hi hj=>ih i j hi hj (fun _ _ _ _ h=>by cases h));have e:w'.cell? ((a.add (i * sz)).add j)=w.cell? ((a.add (i * sz)).add j):=zjk (by rw[zc1,zc1];exact(hb (Wk (by omega) (by omega))).1);rw[e];exact hc i j hi hj
 | sl0 ι sz f=>intro ι' _;exact .sl0 _ _ _
 | nilsl ι=>intro ι' _;exact .nilsl _
 | cut ι a=>intro ι' _;exact .cut _ _
 | own ι r q g off n a c l h hm hn hc ha=>intro ι' hι;exact .own _ _ _ _ _ _ _ _ l (hι _ _ _ _ h) hm hn hc ha
 | fn ι f cs caps hs hv ih=>intro ι' hι;exact .fn _ _ _ _ hs (fun i v a h1 h2=>ih i v a h1 h2 hι)
 | nilfn ι=>intro ι' _;exact .nilfn _
 | agg ι cs asv hs h1 hv ih=>intro ι' hι;exact .agg _ _ _ hs h1 (fun i v a h1 h2=>ih i v a h1 h2 hι)
 | tup ι cs asv hs hv ih=>intro ι' hι;exact .tup _ _ _ hs (fun i v a h1 h2=>ih i v a h1 h2 hι)
theorem VR.anti{w:World}{L L':Nat→Prop}{ι:Inj}{v:Value}{a:AV}(h:VR w L ι v a)(hL:∀b,L' b→L b):VR w L' ι v a :=
 h.mono (fun b _ hb=>⟨rfl,fun h'=>hb (hL b h')⟩) (fun _ _ _ _ h=>h)
inductive AV.Below(N:Nat):AV→Prop where
 | undef:AV.Below N .undef
 | int (k n):AV.Below N (.int k n)
 | bool (b):AV.Below N (.bool b)
 | str (s):AV.Below N (.str s)
 | nilp:AV.Below N .nilp
 | ptr (r q g i f) (h:r < N):AV.Below N (.ptr r q g i f)
 | iptr (n c):AV.Below N (.iptr n c)
 | sl (sz n f):AV.Below N (.sl sz n f)
 | nilsl:AV.Below N .nilsl
 | cut:AV.Below N .cut
 | own (r q g off n) (h:r < N):AV.Below N (.own r q g off n)
 | fn (f caps) (h:∀a∈caps,AV.Below N a):AV.Below N (.fn f caps)
 | nilfn:AV.Below N .nilfn
 | agg (asv) (h:∀a∈asv,AV.Below N a):AV.Below N (.agg asv)
 | tup (asv) (h:∀a∈asv,AV.Below N a):AV.Below N (.tup asv)
 | mp (r q) (h:r < N):AV.Below N (.mp r q)
 | nilmp:AV.Below N .nilmp
 | it (r) (h:r < N):AV.Below N (.it r)
def Inj.upto(ι:Inj)(N:Nat):Inj:=fun r q g=>if r < N then ι r q g else none
theorem VR.upto{w:World}{L:Nat→Prop}{N:Nat}{ι:Inj}{v:Value}{a:AV}(h:VR w L ι v a):AV.Below N a→VR w L (ι.upto N) v a:=by
 induction h with
 | undef ι v=>intro _;exact .undef _ _
 | int ι k n h=>intro _;exact .int _ _ _ h
 | bool ι b=>intro _;exact .bool _ _
 | str ι s h=>intro _;exact .str _ _ h
 | nilp ι=>intro _;exact .nilp _
 | ptr ι r q g i f l h hm=>intro hb;cases hb with|ptr _ _ _ _ _ hr=>exact .ptr _ _ _ _ _ _ _ (by simp[Inj.upto,hr,h]) hm
 | mp ι r q l h hm=>intro hb;cases hb with|mp _ _ hr=>exact .mp _ _ _ _ (by simp[Inj.upto,hr,h]) hm
 | nilmp ι=>intro _;exact .nilmp _
 | it ι r l h hm=>intro hb;cases hb with|it _ hr=>exact .it _ _ _ (by simp[Inj.upto,hr,h]) hm
 | iptr ι a n c V hc hL hv ih=>intro _;exact .iptr _ a n c V hc hL hv
 | sl ι a sz n cap f V hn hbig hc hL hv ih=>intro _;exact .sl _ a sz n cap f V hn hbig hc hL hv
 | sl0 ι sz f=>intro _;exact .sl0 _ _ _
 | nilsl ι=>intro _;exact .nilsl _
 | cut ι a=>intro _;exact .cut _ _
 | own ι r q g off n a c l h hm hn hc ha=>intro hb;cases hb with|own _ _ _ _ _ hr=>exact .own _ _ _ _ _ _ _ _ l (by simp[Inj.upto,hr,h]) hm hn hc ha
 | fn ι f cs caps hs hv ih=>intro hb;cases hb with|fn _ _ hr=>exact .fn _ _ _ _ hs (fun i v a h1 h2=>ih i v a h1 h2 (hr a (WD h2)))
 | nilfn ι=>intro _;exact .nilfn _
 | agg ι cs asv hs h1 hv ih=>intro hb;cases hb with|agg _ hr=>exact .agg _ _ _ hs h1 (fun i v a h1 h2=>ih i v a h1 h2 (hr a (WD h2)))
 | tup ι cs asv hs hv ih=>intro hb;cases hb with|tup _ hr=>exact .tup _ _ _ hs (fun i v a h1 h2=>ih i v a h1 h2 (hr a (WD h2)))
def AV.ren(ρ:Nat→Nat):AV→AV
 | .ptr r q g i f=>.ptr (ρ r) q g i f
 | .own r q g off n=>.own (ρ r) q g off n
 | .fn f caps=>.fn f (caps.map (AV.ren ρ))
 | .agg asv=>.agg (asv.map (AV.ren ρ))
 | .tup asv=>.tup (asv.map (AV.ren ρ))
 | .mp r q=>.mp (ρ r) q
 | .nilmp=>.nilmp
 | .it r=>.it (ρ r)
 | .undef=>.undef
 | .int k n=>.int k n
 | .bool b=>.bool b
 | .str s=>.str s
 | .nilp=>.nilp
 | .iptr n c=>.iptr n c
 | .sl sz n f=>.sl sz n f
 | .nilsl=>.nilsl
 | .cut=>.cut
 | .nilfn=>.nilfn
theorem VR.ren{w:World}{L:Nat→Prop}{ρ:Nat→Nat}{ι':Inj}{ι:Inj}{v:Value}{a:AV}(h:VR w L ι v a):(∀r q g l,ι r q g=some l→ι' (ρ r) q g=some l)→VR w L ι' v (a.ren ρ):=by
 induction h with
 | undef ι v=>intro _;simp only[AV.ren];exact .undef _ _
 | int ι k n h=>intro _;simp only[AV.ren];exact .int _ _ _ h
 | bool ι b=>intro _;simp only[AV.ren];exact .bool _ _
 | str ι s h=>intro _;simp only[AV.ren];exact .str _ _ h
 | nilp ι=>intro _;simp only[AV.ren];exact .nilp _
 | ptr ι r q g i f l h hm=>intro hι;simp only[AV.ren];exact .ptr _ _ _ _ _ _ _ (hι _ _ _ _ h) hm
 | mp ι r q l h hm=>intro hι;simp only[AV.ren];exact .mp _ _ _ _ (hι _ _ _ _ h) hm
 | nilmp ι=>intro _;simp only[AV.ren];exact .nilmp _
 | it ι r l h hm=>intro hι;simp only[AV.ren];exact .it _ _ _ (hι _ _ _ _ h) hm
 | iptr ι a n c V hc hL hv ih=>intro _;simp only[AV.ren];exact .iptr _ a n c V hc hL hv
 | sl ι a sz n cap f V hn hbig hc hL hv ih=>intro _;simp only[AV.ren];exact .sl _ a sz n cap f V hn hbig hc hL hv
 | sl0 ι sz f=>intro _;simp only[AV.ren];exact .sl0 _ _ _
 | nilsl ι=>intro _;simp only[AV.ren];exact .nilsl _
 | cut ι a=>intro _;simp only[AV.ren];exact .cut _ _
 | own ι r q g off n a c l h hm hn hc ha=>intro hι;simp only[AV.ren];exact .own _ _ _ _ _ _ _ _ l (hι _ _ _ _ h) hm hn hc ha
 |
  fn ι f cs caps hs hv ih =>
  intro hι;simp only[AV.ren];refine .fn _ _ _ _ (by simpa using hs) (fun i v a h1 h2=>?_);rw[Wx] at h2;obtain⟨a0,h3,rfl⟩:=Wo.1 h2;exact ih i v a0 h1 h3 hι
 | nilfn ι=>intro _;simp only[AV.ren];exact .nilfn _
 |
  agg ι cs asv hs h1 hv ih =>
  intro hι;simp only[AV.ren];refine .agg _ _ _ (by simpa using hs) h1 (fun i v a h1 h2=>?_);rw[Wx] at h2;obtain⟨a0,h3,rfl⟩:=Wo.1 h2;exact ih i v a0 h1 h3 hι
 |
  tup ι cs asv hs hv ih =>
  intro hι;simp only[AV.ren];refine .tup _ _ _ (by simpa using hs) (fun i v a h1 h2=>?_);rw[Wx] at h2;obtain⟨a0,h3,rfl⟩:=Wo.1 h2;exact ih i v a0 h1 h3 hι
def live(ι:Inj)(H:AH)(b:Nat):Prop:=∃r q sz els g l,H.get r q=some (.row sz els g)∧ι r q g=some l∧0 < l.cap * l.sz∧l.block=b
def zeX:Obj→Nat→Nat→Option Value
 | .map _ clock,0,0=>some (.int .i64 clock)
 | .map _ _,0,_+1=>some (.bool false)
 | .map es _,i+1,0=>(es[i]?).map (·.key)
 | .map es _,i+1,1=>(es[i]?).map (·.val)
 | .map es _,i+1,2=>(es[i]?).map fun e=>.int .i64 e.born
 | .mapIter m _ _ _,0,0=>some (.map m)
 | .mapIter _ since _ _,1,0=>some (.int .i64 since)
 | .mapIter _ _ _ stepped,2,0=>some (.int .i64 stepped)
 | .mapIter _ _ seen _,i+3,0=>(seen[i]?).map fun n=>.int .i64 n
 | .cells cs _ _,0,0=>cs[0]?
 | _,_,_=>none
def vlen:Obj→Nat
 | .map es _=>es.size+1
 | .mapIter _ _ seen _=>seen.size+3
 | .cells ..=>1
 | _=>0
def ztR:Obj→Nat
 | .map _ _=>1
 | .mapIter ..=>2
 | .cells ..=>3
 | _=>0
def zfv(w:World)(l:Loc)(sz i j:Nat):Option Value :=
 if l.cap≤maxLen then w.cell? ⟨l.block,l.off+i * sz+j,none⟩ else (w.heap[l.block]?).bind fun o=>zeX o i j
theorem zqG{w w':World}{l:Loc}{sz i j:Nat}(h:w'.heap[l.block]? = w.heap[l.block]?):zfv w' l sz i j=zfv w l sz i j:=by
 unfold zfv;rw[h];split
 · exact zjk h
 · rfl
def FzOk(w:World)(b:Nat):Prop:=∀c e lo hi,w.heap[b]? = some (.cells c e (lo,hi))→lo=hi∨c.size≤lo
theorem FzOk.of_heap{w w':World}{b:Nat}(h:FzOk w b)(hb:w'.heap[b]? = w.heap[b]?):FzOk w' b:=fun c e lo hi hh=>h c e lo hi (by rw[←hb];exact hh)
theorem FzOk.new{w:World}{cs:Array Value}{e:TypeId}:FzOk (w.alloc (.cells cs e)) w.heap.size:=by intro c e' lo hi h;have:(w.alloc (.cells cs e)).heap=w.heap.push (.cells cs e):=rfl;rw[this] at h;simp at h;obtain⟨_,_,rfl,rfl⟩:=h;exact .inl rfl
theorem FzOk.setCell{w:World}{b:Nat}(h:FzOk w b)(a:Addr)(v:Value):FzOk (w.setCell a v) b:=by
 intro c e lo hi hh;unfold World.setCell at hh;simp only[Array.getElem?_modify] at hh;split at hh
 ·
  obtain⟨o,h1,h2⟩:=Wo.1 hh
  cases o<;>simp at h2
  rename_i c0 e0 fr;obtain⟨lo0,hi0⟩:=fr;simp only[Obj.cells.injEq,Prod.mk.injEq] at h2;obtain⟨rfl,rfl,rfl,rfl⟩:=h2;have:=h c0 e0 lo0 hi0 h1;split
  · exact this
  · simpa using this
 · exact h c e lo hi hh
theorem FzOk.setCells{b b':Nat}:∀{vs:List Value}{o:Nat}{w:World},FzOk w b→FzOk (w.setCells b' o vs) b
 | [],_,_,h=>h
 | v::r,o,w,h=>by rw[World.setCells];exact FzOk.setCells (h.setCell _ _)
structure Plain(w:World)(sz:Nat)(els:List (List AV))(l:Loc):Prop where
 len:els.length≤l.cap
 there:∀k,k < l.cap * sz→(w.cell? ⟨l.block,l.off+k,none⟩).isSome=true∧w.frozen? ⟨l.block,l.off+k,none⟩=false
 fz:0 < l.cap * sz→FzOk w l.block
def Spec(w:World)(els:List (List AV))(l:Loc):Prop:=0 < l.sz∧∃o,w.heap[l.block]? = some o∧vlen o=els.length∧ztR o=l.cap - maxLen
structure RowOk(w:World)(Lt:Nat→Prop)(ι:Inj)(sz:Nat)(els:List (List AV))(l:Loc):Prop where
 hsz:l.sz=sz
 wide:∀(i:Nat)(c:List AV),els[i]? = some c→c.length=sz
 plain:l.cap≤maxLen→Plain w sz els l
 spec:¬l.cap≤maxLen→Spec w els l
 hold:∀(i:Nat)(c:List AV)(j:Nat)(a:AV),els[i]? = some c→c[j]? = some a→∃v,zfv w l sz i j=some v∧(l.cap≤maxLen→v.oneCell'=true)∧VR w Lt ι v a
section
variable {w w':World} {M M':Nat→Prop} {ι ι':Inj} {sz:Nat} {els els':List (List AV)} {l:Loc}
theorem RowOk.holds(ok:RowOk w M ι sz els l)(hm:l.cap≤maxLen)(i:Nat)(c:List AV)(j:Nat)(a:AV)(hi:els[i]? = some c)(hj:c[j]? = some a):
  ∃v,w.cell? ⟨l.block,l.off+i * sz+j,none⟩=some v∧v.oneCell'=true∧VR w M ι v a:=by
 obtain⟨v,h1,h2,h3⟩:=ok.hold i c j a hi hj;unfold zfv at h1;rw[if_pos hm] at h1;exact⟨v,h1,h2 hm,h3⟩
theorem RowOk.mk' (hsz:l.sz=sz) (len:els.length≤l.cap) (hm:l.cap≤maxLen) (there:∀k,k < l.cap * sz→(w.cell? ⟨l.block,l.off+k,none⟩).isSome=true∧w.frozen? ⟨l.block,l.off+k,none⟩=false) (fz:0 < l.cap * sz→FzOk w l.block)
  (wide:∀(i:Nat)(c:List AV),els[i]? = some c→c.length=sz)
  (holds:∀(i:Nat)(c:List AV)(j:Nat)(a:AV),els[i]? = some c→c[j]? = some a→∃v,w.cell? ⟨l.block,l.off+i * sz+j,none⟩=some v∧v.oneCell'=true∧VR w M ι v a):RowOk w M ι sz els l:=by
 refine⟨hsz,wide,fun _=>⟨len,there,fz⟩,fun h=>absurd hm h,fun i c j a hi hj=>?_⟩;obtain⟨v,h1,h2,h3⟩:=holds i c j a hi hj;exact⟨v,by unfold zfv;rw[if_pos hm];exact h1,fun _=>h2,h3⟩
theorem RowOk.blk_lt(ok:RowOk w M ι sz els l)(h:0 < l.cap * l.sz):l.block < w.heap.size:=by
 by_cases hm:l.cap≤maxLen
 · obtain⟨v,hv⟩:=Option.isSome_iff_exists.1 ((ok.plain hm).there 0 (by rw[←ok.hsz];exact h)).1;exact zkP hv
 ·
  obtain⟨_,o,h1,_⟩:=ok.spec hm
  rcases Nat.lt_or_ge l.block w.heap.size with h2|h2
  · exact h2
  · rw[Array.getElem?_eq_none h2] at h1;cases h1
theorem RowOk.view (ok:RowOk w M ι sz els l) (hb:0 < l.cap * l.sz→w'.heap[l.block]? = w.heap[l.block]?) (hl:els'.length=els.length)
  (hw:∀(i:Nat)(c':List AV),els'[i]? = some c'→∃c,els[i]? = some c∧c'.length=c.length∧∀(j:Nat)(a a':AV),c[j]? = some a→c'[j]? = some a'→∀v,VR w M ι v a→VR w' M' ι' v a'):RowOk w' M' ι' sz els' l:=by
 refine⟨ok.hsz,fun i c' hi=>?_,fun hm=>⟨by rw[hl];exact(ok.plain hm).len,fun k hk=>?_,fun hp=>((ok.plain hm).fz hp).of_heap (hb (by rw[ok.hsz];exact hp))⟩,fun hm=>?_,fun i c' j a' hi hj=>?_⟩
 · obtain⟨c,h1,h2,_⟩:=hw i c' hi;rw[h2];exact ok.wide i c h1
 · have hbb:=hb (by rw[ok.hsz];omega);have e1:w'.cell? ⟨l.block,l.off+k,none⟩=w.cell? ⟨l.block,l.off+k,none⟩:=zjk hbb;have e2:w'.frozen? ⟨l.block,l.off+k,none⟩=w.frozen? ⟨l.block,l.off+k,none⟩:=zrO hbb;rw[e1,e2];exact(ok.plain hm).there k hk
 · obtain⟨h0,o,h1,h2,h3⟩:=ok.spec hm;exact⟨h0,o,by rw[hb (Wk (by omega) h0)];exact h1,by rw[h2,hl],h3⟩
 ·
  obtain⟨c,h1,h2,h3⟩:=hw i c' hi
  have hjl:j < c.length:=by rw[←h2];exact(Wf.1 hj).1
  obtain⟨v,h4,h5,h6⟩:=ok.hold i c j _ h1 (Wd hjl);refine⟨v,?_,h5,h3 j _ a' (Wd hjl) hj v h6⟩;rw[←h4];refine zqG (hb ?_)
  by_cases hm:l.cap≤maxLen
  · have h7:=(ok.plain hm).len;have h8:=(Wf.1 h1).1;have h9:=ok.wide i c h1;exact Wk (by omega) (by rw[ok.hsz];omega)
  · exact Wk (by omega) (ok.spec hm).1
theorem RowOk.trans(ok:RowOk w M ι sz els l)(hb:0 < l.cap * l.sz→w'.heap[l.block]? = w.heap[l.block]?)(hv:∀v a,VR w M ι v a→VR w' M' ι' v a):RowOk w' M' ι' sz els l :=
 ok.view hb rfl (fun i c hi=>⟨c,hi,rfl,fun j a a' h1 h2 v h3=>by rw[h1] at h2;cases h2;exact hv v a h3⟩)
end
abbrev Lt(L:Nat→Prop)(ι:Inj)(H:AH):Nat→Prop:=fun b=>L b∨live ι H b
structure RelH(w:World)(L:Nat→Prop)(ι:Inj)(H:AH)(nx:Nat):Prop where
 row:∀r q sz els g,H.get r q=some (.row sz els g)→∃l,ι r q g=some l∧RowOk w (Lt L ι H) ι sz els l
 apart:∀r1 q1 r2 q2 s1 e1 g1 l1 s2 e2 g2 l2,H.get r1 q1=some (.row s1 e1 g1)→H.get r2 q2=some (.row s2 e2 g2)→ι r1 q1 g1=some l1→ι r2 q2 g2=some l2 →
  0 < l1.cap * l1.sz→0 < l2.cap * l2.sz→l1.block=l2.block→r1=r2∧q1=q2
 out:∀b,live ι H b→¬L b
 idx:∀r q g l,ι r q g=some l→r < nx
 dom:∀r o,H.look r=some o→r < nx
 gen:∀r q sz els g,H.get r q=some (.row sz els g)→∀g2 l,ι r q g2=some l→g2≤g
 Lsz:∀b,L b→b < w.heap.size
theorem RelH.live_lt{w:World}{L:Nat→Prop}{ι:Inj}{H:AH}{nx:Nat}(h:RelH w L ι H nx){b:Nat}(hb:live ι H b):b < w.heap.size:=by obtain⟨r,q,sz,els,g,l,h1,h2,h3,rfl⟩:=hb;obtain⟨l',h4,ok⟩:=h.row r q sz els g h1;rw[h2] at h4;cases h4;exact ok.blk_lt h3
structure Ext(M:Nat→Prop)(w w':World):Prop where
 os:w'.os=w.os
 tape:w'.tape=w.tape
 output:w'.output=w.output
 size:w.heap.size≤w'.heap.size
 block:∀b,b < w.heap.size→¬M b→w'.heap[b]? = w.heap[b]?
theorem Ext.refl(M:Nat→Prop)(w:World):Ext M w w:=⟨rfl,rfl,rfl,Wc _,fun _ _ _=>rfl⟩
structure Step(w:World)(L:Nat→Prop)(ι:Inj)(H:AH)(nx:Nat)(w':World)(ι':Inj)(H':AH)(nx':Nat):Prop where
 ext:Ext (live ι H) w w'
 inj:∀r q g l,ι r q g=some l→ι' r q g=some l
 rel:RelH w' L ι' H' nx'
 lv:∀b,live ι' H' b→live ι H b∨w.heap.size≤b
theorem Step.refl{w:World}{L:Nat→Prop}{ι:Inj}{H:AH}{nx:Nat}(h:RelH w L ι H nx):Step w L ι H nx w ι H nx :=
 ⟨.refl _ _,fun _ _ _ _ h=>h,h,fun _ h=>.inl h⟩
theorem Step.trans {w:World} {L:Nat→Prop} {ι:Inj} {H:AH} {nx:Nat} {w1:World} {ι1:Inj} {H1:AH} {nx1:Nat} {w2:World} {ι2:Inj} {H2:AH} {nx2:Nat}
  (a:Step w L ι H nx w1 ι1 H1 nx1) (b:Step w1 L ι1 H1 nx1 w2 ι2 H2 nx2):Step w L ι H nx w2 ι2 H2 nx2:=by
 refine⟨⟨b.ext.os.trans a.ext.os,b.ext.tape.trans a.ext.tape,b.ext.output.trans a.ext.output,WK a.ext.size b.ext.size,fun x hx hn=>?_⟩,fun r q g l h=>b.inj _ _ _ _ (a.inj _ _ _ _ h),b.rel,fun x hx=>?_⟩
 · rw[b.ext.block x (Wy hx a.ext.size) (fun h=>by rcases a.lv x h with h|h;exact hn h;omega)];exact a.ext.block x hx hn
 ·
  rcases b.lv x hx with h|h
  · exact a.lv x h
  · exact .inr (WK a.ext.size h)
theorem Step.vr {w:World} {L:Nat→Prop} {ι:Inj} {H:AH} {nx:Nat} {w':World} {ι':Inj} {H':AH} {nx':Nat} (s:Step w L ι H nx w' ι' H' nx') {v:Value} {a:AV}
  (h:VR w (Lt L ι H) ι v a):VR w' (Lt L ι' H') ι' v a:=by
 refine h.mono (fun b hb hn=>⟨s.ext.block b hb (fun hl=>hn (.inr hl)),fun h'=>?_⟩) s.inj
 rcases h' with h' | h'
 · exact hn (.inl h')
 ·
  rcases s.lv b h' with h' | h'
  · exact hn (.inr h')
  · omega
def Inj.put(ι:Inj)(r q g:Nat)(l:Loc):Inj:=fun r' q' g'=>if r'=r∧q'=q∧g'=g then some l else ι r' q' g'
theorem Inj.put_same(ι:Inj)(r q g:Nat)(l:Loc):ι.put r q g l r q g=some l:=by simp[Inj.put]
theorem Inj.put_other{ι:Inj}{r q g:Nat}{l:Loc}{r' q' g':Nat}(h:¬(r'=r∧q'=q)):ι.put r q g l r' q' g'=ι r' q' g':=by unfold Inj.put;rw[if_neg (fun e=>h ⟨e.1,e.2.1⟩)]
def zxT(ι:Inj)(H:AH)(r q:Nat)(b:Nat):Prop:=∃sz els g l,H.get r q=some (.row sz els g)∧ι r q g=some l∧0 < l.cap * l.sz∧l.block=b
theorem zxT.live{ι:Inj}{H:AH}{r q b:Nat}(h:zxT ι H r q b):live ι H b:=let ⟨sz,els,g,l,h1,h2,h3,h4⟩:=h;⟨r,q,sz,els,g,l,h1,h2,h3,h4⟩
structure Chg(w:World)(ι:Inj)(H:AH)(r q g:Nat)(l:Loc)(w':World):Prop where
 os:w'.os=w.os
 tape:w'.tape=w.tape
 output:w'.output=w.output
 size:w.heap.size≤w'.heap.size
 blk:∀b,b < w.heap.size→¬zxT ι H r q b→w'.heap[b]? = w.heap[b]?
 new:0 < l.cap * l.sz→zxT ι H r q l.block∨w.heap.size≤l.block
 same:∀l0,ι r q g=some l0→l0=l
 top:∀g2 l2,ι r q g2=some l2→g2≤g
section
variable {w:World} {L:Nat→Prop} {ι:Inj} {H:AH} {nx:Nat} {r q g:Nat} {l:Loc} {w':World} {sz:Nat} {els:List (List AV)}
theorem Chg.inj(c:Chg w ι H r q g l w'):∀r' q' g' l',ι r' q' g'=some l'→ι.put r q g l r' q' g'=some l':=by
 intro r' q' g' l' h;unfold Inj.put;split
 · rename_i h';obtain⟨rfl,rfl,rfl⟩:=h';rw[c.same l' h]
 · exact h
theorem Chg.lv(c:Chg w ι H r q g l w')(so:zyS H r q sz)(h:RelH w L ι H nx):∀b,live (ι.put r q g l) (H.set r q (.row sz els g)) b→live ι H b∨w.heap.size≤b:=by
 rintro b ⟨r',q',sz',els',g',l',h1,h2,h3,rfl⟩;rw[AH.get_set so] at h1;split at h1
 ·
  rename_i hr';obtain⟨rfl,rfl⟩:=hr';cases h1;rw[Inj.put_same] at h2;cases h2
  rcases c.new h3 with hn|hn
  · exact .inl hn.live
  · exact .inr hn
 ·
  rename_i hr'
  have h2':ι r' q' g'=some l':=by rw[←h2,Inj.put_other hr']
  exact .inl ⟨r',q',sz',els',g',l',h1,h2',h3,rfl⟩
theorem Chg.vr(c:Chg w ι H r q g l w')(so:zyS H r q sz)(h:RelH w L ι H nx){v:Value}{a:AV}(hv:VR w (Lt L ι H) ι v a):
  VR w' (Lt L (ι.put r q g l) (H.set r q (.row sz els g))) (ι.put r q g l) v a:=by
 refine hv.mono (fun b hb hn=>⟨c.blk b hb (fun hl=>hn (.inr hl.live)),fun h'=>?_⟩) c.inj
 rcases h' with h' | h'
 · exact hn (.inl h')
 ·
  rcases c.lv so h b h' with h' | h'
  · exact hn (.inr h')
  · omega
theorem Chg.step (c:Chg w ι H r q g l w') (so:zyS H r q sz) (h:RelH w L ι H nx) {nx':Nat} (hr:r < nx') (hnx:nx≤nx')
  (ok:RowOk w' (Lt L (ι.put r q g l) (H.set r q (.row sz els g))) (ι.put r q g l) sz els l) :
  Step w L ι H nx w' (ι.put r q g l) (H.set r q (.row sz els g)) nx':=by
 refine⟨⟨c.os,c.tape,c.output,c.size,fun b hb hn=>c.blk b hb (fun hl=>hn hl.live)⟩,c.inj,?_,c.lv so h⟩;constructor
 ·
  intro r' q' sz' els' g' h1;rw[AH.get_set so] at h1;split at h1
  · rename_i hr';obtain⟨rfl,rfl⟩:=hr';cases h1;exact⟨l,Inj.put_same _ _ _ _ _,ok⟩
  ·
   rename_i hr';obtain⟨l',h2,ok'⟩:=h.row r' q' sz' els' g' h1
   have notR:∀{b:Nat},l'.block=b→0 < l'.cap * l'.sz→¬zxT ι H r q b:=fun hb hp ⟨s0,e0,g0,l0,a1,a2,a3,a4⟩ =>
    hr' (h.apart r' q' r q sz' els' g' l' s0 e0 g0 l0 h1 a1 h2 a2 hp a3 (hb.trans a4.symm))
   exact⟨l',by rw[Inj.put_other hr'];exact h2,ok'.trans (fun hp=>c.blk l'.block (ok'.blk_lt hp) (notR rfl hp)) (fun v a hv=>c.vr so h hv)⟩
 ·
  intro r1 q1 r2 q2 s1 e1 g1 l1 s2 e2 g2 l2 h1 h2 h3 h4 h5 h6 h7
  have key:∀r' q' s' e' g' l',¬(r'=r∧q'=q)→H.get r' q'=some (.row s' e' g')→ι r' q' g'=some l'→0 < l'.cap * l'.sz→0 < l.cap * l.sz→l'.block=l.block→False:=by
   intro r' q' s' e' g' l' hne a1 a2 a3 a4 a5
   rcases c.new a4 with ⟨s0,e0,g0,l0,b1,b2,b3,b4⟩|hn
   · exact hne (h.apart r' q' r q s' e' g' l' s0 e0 g0 l0 a1 b1 a2 b2 a3 b3 (a5.trans b4.symm))
   · have:=h.live_lt ⟨r',q',s',e',g',l',a1,a2,a3,rfl⟩;omega
  rw[AH.get_set so] at h1 h2
  by_cases hr1:r1=r∧q1=q
  ·
   by_cases hr2:r2=r∧q2=q
   · exact⟨hr1.1.trans hr2.1.symm,hr1.2.trans hr2.2.symm⟩
   · rw[if_pos hr1] at h1;cases h1;rw[if_neg hr2] at h2;obtain⟨rfl,rfl⟩:=hr1;rw[Inj.put_same] at h3;cases h3;rw[Inj.put_other hr2] at h4;exact(key r2 q2 s2 e2 g2 l2 hr2 h2 h4 h6 h5 h7.symm).elim
  ·
   rw[if_neg hr1] at h1;rw[Inj.put_other hr1] at h3
   by_cases hr2:r2=r∧q2=q
   · rw[if_pos hr2] at h2;cases h2;obtain⟨rfl,rfl⟩:=hr2;rw[Inj.put_same] at h4;cases h4;exact(key r1 q1 s1 e1 g1 l1 hr1 h1 h3 h5 h6 h7).elim
   · rw[if_neg hr2] at h2;rw[Inj.put_other hr2] at h4;exact h.apart r1 q1 r2 q2 s1 e1 g1 l1 s2 e2 g2 l2 h1 h2 h3 h4 h5 h6 h7
 ·
  intro b hb hL
  rcases c.lv so h b hb with h' | h'
  · exact h.out b h' hL
  · have:=h.Lsz b hL;omega
 ·
  intro r' q' g' l' h1;unfold Inj.put at h1;split at h1
  · rename_i h';rw[h'.1];exact hr
  · exact Wy (h.idx _ _ _ _ h1) hnx
 ·
  intro r' o h1
  rcases AH.look_set h1 with rfl|h1
  · exact hr
  · exact Wy (h.dom _ _ h1) hnx
 ·
  intro r' q' sz' els' g' h1 g2 l2 h2;rw[AH.get_set so] at h1;split at h1
  ·
   rename_i hr';obtain⟨rfl,rfl⟩:=hr';cases h1;unfold Inj.put at h2;split at h2
   · rename_i h';omega
   · exact c.top _ _ h2
  · rename_i hr';rw[Inj.put_other hr'] at h2;exact h.gen r' q' sz' els' g' h1 g2 l2 h2
 · intro b hb;exact Wy (h.Lsz b hb) c.size
theorem RelH.free(h:RelH w L ι H nx):H.look nx=none:=by
 cases hg:H.look nx with
 | none=>rfl
 | some o=>exact absurd (h.dom _ _ hg) (Wz _)
theorem RelH.sok(h:RelH w L ι H nx)(sz:Nat):zyS H nx 0 sz:=.inr ⟨h.free,rfl⟩
theorem RelH.freshI(h:RelH w L ι H nx)(q g:Nat):ι nx q g=none:=by
 cases hg:ι nx q g with
 | none=>rfl
 | some l=>exact absurd (h.idx _ _ _ _ hg) (Wz _)
theorem Step.alloc (h:RelH w L ι H nx) (cur:Array Value) (e:TypeId) (sz:Nat) (els:List (List AV)) (cap:Nat) (hcap:els.length≤cap) (hm:cap≤maxLen) (hsize:cur.size=cap * sz)
  (hw:∀(i:Nat)(c:List AV),els[i]? = some c→c.length=sz)
  (hv:∀(i:Nat)(c:List AV)(j:Nat)(a:AV),els[i]? = some c→c[j]? = some a→∃v,cur[i * sz+j]? = some v∧v.oneCell'=true∧VR w (Lt L ι H) ι v a) :
  Step w L ι H nx (w.alloc (.cells cur e)) (ι.put nx 0 0 ⟨w.heap.size,0,cap,sz⟩) (H.set nx 0 (.row sz els 0)) (nx+1):=by
 have c:Chg w ι H nx 0 0 ⟨w.heap.size,0,cap,sz⟩ (w.alloc (.cells cur e)) :=
  ⟨rfl,rfl,rfl,by simp,fun b hb _=>Below.heap_alloc w _ b hb,fun _=>.inr (Wc _),fun l0 h0=>(by rw[h.freshI] at h0;cases h0),fun g2 l2 h2=>(by rw[h.freshI] at h2;cases h2)⟩
 refine c.step (h.sok sz) h (WL _) (WM _) (.mk' rfl hcap hm (fun k hk=>?_) (fun _=>FzOk.new) hw (fun i cs j a hi hj=>?_))
 · simp only[Wp];rw[World.cell?_alloc_new,World.frozen?_alloc_new];refine⟨?_,rfl⟩;rw[Wg (by rw[hsize];exact hk)];rfl
 · obtain⟨v,h1,h2,h3⟩:=hv i cs j a hi hj;refine⟨v,?_,h2,c.vr (h.sok sz) h h3⟩;simp only[Wp];rw[World.cell?_alloc_new];exact h1
theorem Step.phantom(h:RelH w L ι H nx)(sz:Nat):
  Step w L ι H nx w (ι.put nx 0 0 ⟨0,0,0,sz⟩) (H.set nx 0 (.row sz [] 0)) (nx+1):=by
 have c:Chg w ι H nx 0 0 ⟨0,0,0,sz⟩ w :=
  ⟨rfl,rfl,rfl,Wc _,fun b hb _=>rfl,fun hp=>by simp at hp,fun l0 h0=>(by rw[h.freshI] at h0;cases h0),fun g2 l2 h2=>(by rw[h.freshI] at h2;cases h2)⟩
 refine c.step (h.sok sz) h (WL _) (WM _) (.mk' rfl (Wc _) (Wr _) (fun k hk=>?_) (fun h=>by simp at h) (fun i c hi=>?_) (fun i cs j a hi hj=>?_))
 · simp at hk
 · simp at hi
 · simp at hi
end
abbrev Kn:=List (Nat × AV)
def Kn.get:Kn→Nat→AV
 | [],_=>.undef
 | (j,v)::t,i=>bif Wa j i then v else Kn.get t i
def Kn.set:Kn→Nat→AV→Kn
 | [],i,v=>[(i,v)]
 | (j,u)::t,i,v=>bif Wa j i then (i,v)::t else (j,u)::Kn.set t i v
def memN:List Nat→Nat→Bool
 | [],_=>false
 | j::t,i=>bif Wa j i then true else memN t i
def Kn.drop:Kn→List Nat→Kn
 | [],_=>[]
 | (j,v)::t,l=>bif memN l j then Kn.drop t l else (j,v)::Kn.drop t l
theorem Kn.get_set(K:Kn)(i:Nat)(v:AV)(x:Nat):(K.set i v).get x=if x=i then v else K.get x:=by
 induction K with
 |
  nil =>
  by_cases hx:x=i
  · subst hx;simp[Kn.set,Kn.get]
  · simp[Kn.set,Kn.get,zeL (Ne.symm hx),hx]
 |
  cons p t ih =>
  obtain⟨j,u⟩:=p
  by_cases hj:j=i
  ·
   subst hj
   by_cases hx:x=j
   · subst hx;simp[Kn.set,Kn.get]
   · simp[Kn.set,Kn.get,zeL (Ne.symm hx),hx]
  ·
   by_cases hx:x=i
   · subst hx;simp[Kn.set,Kn.get,zeL hj,ih]
   · simp only[Kn.set,zeL hj,cond_false,Kn.get,ih,if_neg hx]
theorem Kn.get_drop(K:Kn)(l:List Nat)(x:Nat):(K.drop l).get x=.undef∨(K.drop l).get x=K.get x:=by
 induction K with
 | nil=>exact .inl rfl
 |
  cons p t ih =>
  obtain⟨j,u⟩:=p;simp only[Kn.drop]
  cases hm:memN l j with
  |
   true =>
   simp only[cond_true,Kn.get]
   cases hb:Wa j x with
   |
    true =>
    left;have hjx:=zF hb;subst hjx
    have key:∀t:Kn,(Kn.drop t l).get j=.undef:=by
     intro t
     induction t with
     | nil=>rfl
     |
      cons q t iht =>
      obtain⟨k,u'⟩:=q;simp only[Kn.drop]
      cases hk:memN l k with
      | true=>simpa using iht
      |
       false =>
       simp only[cond_false,Kn.get]
       cases hkj:Wa k j with
       | true=>rw[zF hkj] at hk;rw[hm] at hk;cases hk
       | false=>simpa using iht
    exact key t
   | false=>simpa using ih
  |
   false =>
   simp only[cond_false,Kn.get]
   cases hb:Wa j x with
   | true=>right;rfl
   | false=>simpa using ih
inductive AOpd where
 | t (n:Nat)
 | c (v:AV)
 deriving Inhabited
def ev(ρ:Nat→AV):AOpd→AV
 | .t n=>ρ n
 | .c v=>v
def AV.cells:AV→List AV
 | .agg cs=>cs
 | v=>[v]
def AV.solid:AV→Bool
 | .undef | .tup _=>false
 | _=>true
def AV.wf:AV→Prop
 | .int k n=>InR k n
 | .sl _ n _=>n≤big
 | .str s=>s.size≤big
 | _=>True
structure ORes where
 side:Prop
 fact:Prop
 v:AV
 H:AH
 nx:Nat
def bad(H:AH)(nx:Nat):ORes:=⟨False,True,.undef,H,nx⟩
def tab(c:Nat→AV):Nat→Nat→List AV
 | 0,_=>[]
 | n+1,k=>c k::tab c n (k+1)
def sub(l:List AV)(f n:Nat):List AV:=(l.drop f).take n
def splice(l:List AV)(f:Nat)(vs:List AV):List AV:=l.take f++vs++l.drop (f+vs.length)
def zfo(agg:Bool)(n:Nat)(p:AV)(H:AH)(nx:Nat):ORes :=
 match p with
 |
  .ptr r q g i f=>match H.get r q with
  |
   some (.row sz els g') =>
   let v:=bif agg then .agg (bif Wa f 0&&Wa n sz then els.getD i [] else sub (els.getD i []) f n) else (els.getD i []).getD f .undef
   ⟨g=g'∧i < els.length∧f+n≤sz,v.wf,v,H,nx⟩
  | _=>bad H nx
 |
  .iptr m c =>
  let v:=bif agg then .agg (tab c n 0) else c 0
  ⟨n≤m,v.wf,v,H,nx⟩
 | _=>bad H nx
def zhu(n:Nat)(p v:AV)(H:AH)(nx:Nat):ORes :=
 match p with
 |
  .ptr r q g i f=>match H.get r q with
  |
   some (.row sz els g') =>
   ⟨g=g'∧i < els.length∧f+n≤sz∧v.solid=true∧v.cells.length=n,True,.undef,
    H.set r q (.row sz (els.set i (bif Wa f 0&&Wa n sz then v.cells else splice (els.getD i []) f v.cells)) g'),nx⟩
  | _=>bad H nx
 | _=>bad H nx
def idxR(sz:Nat)(x i:AV)(H:AH)(nx:Nat):ORes :=
 match x,i with
 | .sl sz' n f,.int _ k=>⟨sz'=sz∧0≤k∧k < n,True,.iptr sz (f k.toNat),H,nx⟩
 |
  .own r q g off n,.int _ k=>match H.get r q with
  | some (.row sz' _ g')=>⟨sz'=sz∧g=g'∧0≤k∧k < n,True,.ptr r q g (off+k.toNat) 0,H,nx⟩
  | _=>bad H nx
 | _,_=>bad H nx
def zeg(off n:Nat)(x:AV)(H:AH)(nx:Nat):ORes :=
 match x with
 | .ptr r q g i f=>⟨True,True,.ptr r q g i (f+off),H,nx⟩
 | .iptr m c=>⟨off+n≤m,True,.iptr n (fun j=>c (off+j)),H,nx⟩
 | _=>bad H nx
def fldR(off n:Nat)(agg:Bool)(x:AV)(H:AH)(nx:Nat):ORes :=
 match x with
 |
  .agg cs =>
  let v:=bif agg then .agg (sub cs off n) else cs.getD off .undef
  ⟨off+n≤cs.length,v.wf,v,H,nx⟩
 | _=>bad H nx
def lenV:AV→Option Nat
 | .sl _ n _=>some n
 | .own _ _ _ _ n=>some n
 | .nilsl | .cut=>some 0
 | _=>none
def lenR(x:AV)(H:AH)(nx:Nat):ORes :=
 match x with
 | .sl _ n _=>⟨True,n≤big,.int .i64 n,H,nx⟩
 | .own _ _ _ _ n=>⟨True,n≤9223372036854775807,.int .i64 n,H,nx⟩
 | .nilsl=>⟨True,True,.int .i64 0,H,nx⟩
 | .cut=>⟨True,True,.int .i64 0,H,nx⟩
 | _=>bad H nx
def zrD(x:AV)(H:AH)(nx:Nat):ORes :=
 match x with
 | .str s=>⟨True,s.size≤big,.int .i64 s.size,H,nx⟩
 | _=>bad H nx
def binI(op:BinOp)(x y:AV)(H:AH)(nx:Nat):ORes :=
 match x,y with
 |
  .int k a,.int k' b =>
  match op with
  | .add=>⟨k=k',True,.int k (k.wrap (a+b)),H,nx⟩
  | .sub=>⟨k=k',True,.int k (k.wrap (a - b)),H,nx⟩
  | .mul=>⟨k=k',True,.int k (k.wrap (a * b)),H,nx⟩
  | .quo=>⟨k=k'∧b≠0,True,.int k (k.wrap (a.tdiv b)),H,nx⟩
  | .rem=>⟨k=k'∧b≠0,True,.int k (a.tmod b),H,nx⟩
  | .and=>⟨k=k',True,.int k (k.wrap (BitVec.ofInt k.bits a &&& BitVec.ofInt k.bits b).toNat),H,nx⟩
  | .or=>⟨k=k',True,.int k (k.wrap (BitVec.ofInt k.bits a ||| BitVec.ofInt k.bits b).toNat),H,nx⟩
  | .xor=>⟨k=k',True,.int k (k.wrap (BitVec.ofInt k.bits a ^^^ BitVec.ofInt k.bits b).toNat),H,nx⟩
  | .andNot=>⟨k=k',True,.int k (k.wrap (BitVec.ofInt k.bits a &&& ~~~(BitVec.ofInt k.bits b)).toNat),H,nx⟩
  | .shl=>⟨0≤b,True,.int k (k.wrap (a * 2 ^ (min b.toNat k.bits))),H,nx⟩
  | .shr=>⟨0≤b,True,.int k (a.fdiv (2 ^ (min b.toNat k.bits))),H,nx⟩
  | .eql=>⟨k=k',True,.bool (decide (a=b)),H,nx⟩
  | .neq=>⟨k=k',True,.bool (decide (a≠b)),H,nx⟩
  | .lss=>⟨k=k',True,.bool (decide (a < b)),H,nx⟩
  | .leq=>⟨k=k',True,.bool (decide (a≤b)),H,nx⟩
  | .gtr=>⟨k=k',True,.bool (decide (b < a)),H,nx⟩
  | .geq=>⟨k=k',True,.bool (decide (b≤a)),H,nx⟩
 | _,_=>bad H nx
def eqB(neg:Bool)(x y:AV)(H:AH)(nx:Nat):ORes :=
 match x,y with
 | .bool a,.bool b=>⟨True,True,.bool (bif neg then a != b else a == b),H,nx⟩
 | _,_=>bad H nx
def unR(op:UnOp)(x:AV)(H:AH)(nx:Nat):ORes :=
 match op,x with
 | .not,.bool b=>⟨True,True,.bool (!b),H,nx⟩
 | .neg,.int k n=>⟨True,True,.int k (k.wrap (0 - n)),H,nx⟩
 | _,_=>bad H nx
def zqa(k:IntKind)(x:AV)(H:AH)(nx:Nat):ORes :=
 match x with
 | .int _ n=>⟨True,True,.int k (k.wrap n),H,nx⟩
 | _=>bad H nx
def zpR(c a b:AV)(H:AH)(nx:Nat):ORes :=
 match c with
 | .bool t=>⟨True,True,bif t then a else b,H,nx⟩
 | _=>bad H nx
def zyH:List AV→List (Nat × Nat × AV)→List AV
 | cs,[]=>cs
 | cs,(off,_,v)::r=>zyH (splice cs off v.cells) r
def zst(n:Nat):List (Nat × Nat × AV)→Prop
 | []=>True
 | (off,size,v)::r=>(v.solid=true∧v.cells.length=size∧off+size≤n)∧zst n r
def zli(zero:List AV)(parts:List (Nat × Nat × AV))(H:AH)(nx:Nat):ORes :=
 ⟨zst zero.length parts,True,.agg (zyH zero parts),H,nx⟩
def zfe:List (List AV)→List (Nat × AV)→List (List AV)
 | els,[]=>els
 | els,(i,v)::r=>zfe (els.set i v.cells) r
def ztu(n sz:Nat):List (Nat × AV)→Prop
 | []=>True
 | (i,v)::r=>(v.solid=true∧v.cells.length=sz∧i < n)∧ztu n sz r
def zgf(sz len:Nat)(zero:List AV)(parts:List (Nat × AV))(H:AH)(nx:Nat):ORes :=
 ⟨ztu len sz parts,True,.own nx 0 0 0 len,H.set nx 0 (.row sz (zfe (Wh len zero) parts) 0),nx+1⟩
def boxR(x:AV)(H:AH)(nx:Nat):ORes :=
 ⟨x.solid=true,True,.ptr nx 0 0 0 0,H.set nx 0 (.row x.cells.length [x.cells] 0),nx+1⟩
def AV.flat0:AV→Bool
 | .undef | .int .. | .bool _ | .str _ | .nilp | .nilfn | .nilsl | .cut | .iptr .. | .sl ..=>true
 | _=>false
def zH:List AV→Bool
 | []=>true
 | v::r=>v.flat0&&zH r
def zrt(x:AV)(H:AH)(nx:Nat):ORes :=
 ⟨x.solid=true∧zH x.cells=true,True,.iptr x.cells.length (fun j=>x.cells.getD j .undef),H,nx⟩
def zel(sz len:Nat)(zero:List AV)(parts:List (Nat × AV))(H:AH)(nx:Nat):ORes :=
 ⟨ztu len sz parts∧(zfe (Wh len zero) parts).all zH=true,True,.sl sz len (fun i j=>((zfe (Wh len zero) parts).getD i []).getD j .undef),H,nx⟩
def zn5(zero:List AV)(H:AH)(nx:Nat):ORes :=
 ⟨True,True,.ptr nx 0 0 0 0,H.set nx 0 (.row zero.length [zero] 0),nx+1⟩
def zqk(sz:Nat)(H:AH)(nx:Nat):ORes :=
 ⟨True,True,.own nx 0 0 0 0,H.set nx 0 (.row sz [] 0),nx+1⟩
def zo4(sz bytes:Nat)(zero:List AV)(l c:AV)(H:AH)(nx:Nat):ORes :=
 match l,c with
 | .int k n,.int k' m=>⟨k=.i64∧k'=.i64∧0≤n∧n≤m∧bytes * m≤140737488355328∧0 < bytes,True,.own nx 0 0 0 n.toNat,H.set nx 0 (.row sz (Wh n.toNat zero) 0),nx+1⟩
 | _,_=>bad H nx
def zhR(sz:Nat)(x:AV)(lo hi:Option AV)(H:AH)(nx:Nat):ORes :=
 let l:Option Int:=match lo with|none=>some 0|some (.int _ k)=>some k|_=>none
 let h (n:Nat):Option Int:=match hi with|none=>some n|some (.int _ k)=>some k|_=>none
 match x with
 |
  .sl sz' n f=>match l,h n with
  | some a,some b=>⟨sz'=sz∧0≤a∧a≤b∧b≤n,True,.sl sz (b - a).toNat (fun i j=>f (a.toNat+i) j),H,nx⟩
  | _,_=>bad H nx
 |
  .own r q g off n=>match H.get r q,l,h n with
  | some (.row sz' _ g'),some a,some b=>⟨sz'=sz∧g=g'∧0≤a∧a≤b∧b≤n,True,.own r q g (off+a.toNat) (b - a).toNat,H,nx⟩
  | _,_,_=>bad H nx
 |
  .nilsl=>match l,h 0 with
  | some a,some b=>⟨a=0∧b=0,True,.nilsl,H,nx⟩
  | _,_=>bad H nx
 | _=>bad H nx
def cutR(x:AV)(H:AH)(nx:Nat):ORes :=
 match x with
 | .sl _ _ _ | .own _ _ _ _ _ | .nilsl | .cut=>⟨True,True,.cut,H,nx⟩
 | _=>bad H nx
def zgy(sz:Nat)(x:AV)(H:AH):Option (List (List AV)) :=
 match x with
 | .sl sz' n f=>bif Wa sz' sz then some ((Wj n).map fun i=>tab (f i) sz 0) else none
 |
  .own r q g off n=>match H.get r q with
  | some (.row sz' els g')=>bif Wa sz' sz&&Wa g g' then some ((els.drop off).take n) else none
  | _=>none
 | .nilsl | .cut=>some []
 | _=>none
def fits(H:AH):AV→Prop
 |
  .own r q _ off n=>match H.get r q with
  | some (.row _ els _)=>off+n≤els.length
  | _=>False
 | _=>True
def zhn(sz bytes:Nat)(x y:AV)(H:AH)(nx:Nat):ORes :=
 match zgy sz y H,lenV y with
 |
  some news,some m=>match x with
  |
   .own r q g off n=>match H.get r q with
   |
    some (.row sz' els g') =>
    ⟨sz'=sz∧g=g'∧off+n≤els.length∧fits H y∧(n+m) * bytes≤140737488355328,True,.own r q (g+1) 0 (n+m),H.set r q (.row sz ((els.drop off).take n++news) (g+1)),nx⟩
   | _=>bad H nx
  | .nilsl | .cut=>⟨fits H y∧m * bytes≤140737488355328,True,.own nx 0 0 0 m,H.set nx 0 (.row sz news 0),nx+1⟩
  | _=>bad H nx
 | _,_=>bad H nx
def zj0(sz:Nat)(zero:List AV)(x:AV)(H:AH)(nx:Nat):ORes :=
 match x with
 |
  .own r q g off n=>match H.get r q with
  | some (.row sz' els g')=>⟨sz'=sz∧g=g'∧off+n≤els.length,True,.undef,H.set r q (.row sz (els.take off++Wh n zero++els.drop (off+n)) g'),nx⟩
  | _=>bad H nx
 | _=>bad H nx
def extR(i:Nat)(x:AV)(H:AH)(nx:Nat):ORes :=
 match x with
 | .tup vs=>⟨i < vs.length,True,vs.getD i .undef,H,nx⟩
 | _=>bad H nx
def nilB:Bool→AV→Option (Option Bool)
 | false,.nilsl=>some (some true)
 | false,.sl _ n _=>some (bif Wa n 0 then none else some false)
 | false,.own _ _ _ _ n=>some (bif Wa n 0 then none else some false)
 | false,.cut=>some none
 | true,.nilp=>some (some true)
 | true,.ptr ..=>some (some false)
 | true,.iptr ..=>some (some false)
 | _,_=>none
inductive XOp where
 | mark
 | nilck
 | seq (neg:Bool)
 | sidx
 | b2s
 | s2b
 | sapp
 | min
 | max
 | eqs (neg:Bool) (ss:List Nat)
 | sl3 (sz:Nat)
 | mkmap
 | mlook (kk:Option IntKind) (ok:Bool) (zero:AV)
 | mset (kk:Option IntKind)
 | mlen
 | mdel (kk:Option IntKind)
 | mrange
 | ment
 | aidx (len sz:Nat) (agg:Bool)
 | aaddr (len sz:Nat)
 | capn
 | apz (sz bytes:Nat) (zero:List AV)
 | nope
 deriving Inhabited
def zso(s:ByteArray)(i:Nat):Nat:=(s.data.toList.getD i 0).toNat
def zlC(b:UInt8):List AV:=[.int .u8 (b.toNat:Int)]
def zgN:List (List AV)→Option (List UInt8)
 | []=>some []
 |
  c::r=>match c with
  | [.int .u8 n]=>(zgN r).map (UInt8.ofNat n.toNat::·)
  | _=>none
def zM:List Nat→List AV→List AV→Option Bool
 | [],[],[]=>some true
 | 0::s,.int k a::l,.int k' b::m=>if k=k' then (zM s l m).map (decide (a=b)&&·) else none
 | 1::s,.str a::l,.str b::m=>(zM s l m).map (decide (a=b)&&·)
 | 2::s,.bool a::l,.bool b::m=>(zM s l m).map ((a == b)&&·)
 | _,_,_=>none
def zoP:AV→AV→Option Bool
 | .int k a,.int k' b=>if k=k' then some (decide (a=b)) else none
 | .str a,.str b=>some (decide (a=b))
 | _,_=>none
def zgw:Option IntKind→AV→Prop
 | some q,.int k _=>q=k
 | none,.str _=>True
 | _,_=>False
def zcA(k:AV):List (List AV)→Nat→Option (Option (Nat × AV))
 | [],_=>some none
 |
  c::r,i=>match c with
  |
   [k',v,_]=>match zoP k k' with
   | some true=>some (some (i,v))
   | some false=>zcA k r (i+1)
   | none=>none
  | _=>none
def zq4(x:AV)(H:AH)(nx:Nat):ORes :=
 match x with
 |
  .own r q g off n=>match H.get r q with
  | some (.row sz els g')=>⟨sz=1∧g=g'∧0 < n,True,.own r q g off n,H.set r q (.row sz els g'),nx⟩
  | _=>bad H nx
 | _=>bad H nx
def zm2(x:AV)(H:AH)(nx:Nat):ORes :=
 match x with
 | .ptr .. | .iptr ..=>⟨True,True,x,H,nx⟩
 | _=>bad H nx
def seqR(neg:Bool)(x y:AV)(H:AH)(nx:Nat):ORes :=
 match x,y with
 | .str a,.str b=>⟨True,True,.bool (bif neg then !decide (a=b) else decide (a=b)),H,nx⟩
 | _,_=>bad H nx
def ztv(x i:AV)(H:AH)(nx:Nat):ORes :=
 match x,i with
 | .str s,.int _ k=>⟨0≤k∧k < s.size,True,.int .u8 (zso s k.toNat),H,nx⟩
 | _,_=>bad H nx
def b2sR(x:AV)(H:AH)(nx:Nat):ORes :=
 match zgy 1 x H with
 |
  some els=>match zgN els with
  | some l=>⟨fits H x∧(lenV x).isSome=true,(AV.str ⟨l.toArray⟩).wf,.str ⟨l.toArray⟩,H,nx⟩
  | none=>bad H nx
 | none=>bad H nx
def s2bR(x:AV)(H:AH)(nx:Nat):ORes :=
 match x with
 | .str s=>⟨True,True,.own nx 0 0 0 s.size,H.set nx 0 (.row 1 (s.data.toList.map zlC) 0),nx+1⟩
 | _=>bad H nx
def zpQ(x y:AV)(H:AH)(nx:Nat):ORes :=
 match y with
 |
  .str s=>match x with
  |
   .own r q g off n=>match H.get r q with
   |
    some (.row sz' els g') =>
    ⟨sz'=1∧g=g'∧off+n≤els.length∧n+s.size≤140737488355328,True,.own r q (g+1) 0 (n+s.size),H.set r q (.row 1 ((els.drop off).take n++s.data.toList.map zlC) (g+1)),nx⟩
   | _=>bad H nx
  | .nilsl | .cut=>⟨s.size≤140737488355328,True,.own nx 0 0 0 s.size,H.set nx 0 (.row 1 (s.data.toList.map zlC) 0),nx+1⟩
  | _=>bad H nx
 | _=>bad H nx
def minR(mx:Bool)(x y:AV)(H:AH)(nx:Nat):ORes :=
 match x,y with
 | .int k a,.int k' b=>⟨k=k',True,.int k (bif mx then (if a < b then b else a) else (if b < a then b else a)),H,nx⟩
 | _,_=>bad H nx
def eqsR(neg:Bool)(ss:List Nat)(x y:AV)(H:AH)(nx:Nat):ORes :=
 match x,y with
 |
  .agg a,.agg b=>match zM ss a b with
  | some t=>⟨True,True,.bool (bif neg then !t else t),H,nx⟩
  | none=>bad H nx
 | _,_=>bad H nx
def sl3R(sz:Nat)(x h m:AV)(H:AH)(nx:Nat):ORes :=
 match h,m with
 |
  .int _ b,.int _ c=>match x with
  | .sl sz' n f=>⟨sz'=sz∧0≤b∧b≤c∧c≤n,True,.sl sz b.toNat f,H,nx⟩
  |
   .own r q g off n=>match H.get r q with
   | some (.row sz' _ g')=>⟨sz'=sz∧g=g'∧0≤b∧b≤c∧c≤n,True,.own r q g off b.toNat,H,nx⟩
   | _=>bad H nx
  | .nilsl=>⟨b=0∧c=0,True,.nilsl,H,nx⟩
  | _=>bad H nx
 | _,_=>bad H nx
def zwT(H:AH)(nx:Nat):ORes:=⟨True,True,.mp nx 0,H.set nx 0 (.row 3 [[.int .i64 0,.undef,.undef]] 0),nx+1⟩
def mval(zero:AV):Option (Nat × AV)→AV
 | some (_,v)=>v
 | none=>zero
def mgot(ok:Bool)(zero:AV)(r:Option (Nat × AV)):AV :=
 bif ok then .tup [mval zero r,.bool r.isSome] else mval zero r
def zjV(str:Option IntKind)(ok:Bool)(zero m k:AV)(H:AH)(nx:Nat):ORes :=
 match m with
 | .nilmp=>⟨zgw str k,(mgot ok zero none).wf,mgot ok zero none,H,nx⟩
 |
  .mp r q=>match H.get r q with
  |
   some (.row sz (_::es) g)=>match zcA k es 0 with
   | some res=>⟨sz=3∧g=0∧zgw str k,(mgot ok zero res).wf,mgot ok zero res,H,nx⟩
   | none=>bad H nx
  | _=>bad H nx
 | _=>bad H nx
def znz(str:Option IntKind)(m k v:AV)(H:AH)(nx:Nat):ORes :=
 match m with
 |
  .mp r q=>match H.get r q with
  |
   some (.row sz (hd::es) g)=>match hd with
   |
    [.int .i64 c,u,u']=>match zcA k es 0 with
    | some (some (i,_))=>⟨sz=3∧g=0∧zgw str k,True,.undef,H.set r q (.row 3 ([.int .i64 c,u,u']::es.set i [k,v,(es.getD i []).getD 2 .undef]) 0),nx⟩
    | some none=>⟨sz=3∧g=0∧zgw str k∧c < 9223372036854775807,True,.undef,H.set r q (.row 3 ([.int .i64 (c+1),u,u']::(es++[[k,v,.int .i64 c]])) 0),nx⟩
    | none=>bad H nx
   |
    [.undef,u,u']=>match zcA k es 0 with
    | some (some (i,_))=>⟨sz=3∧g=0∧zgw str k,True,.undef,H.set r q (.row 3 ([.undef,u,u']::es.set i [k,v,(es.getD i []).getD 2 .undef]) 0),nx⟩
    | some none=>⟨sz=3∧g=0∧zgw str k,True,.undef,H.set r q (.row 3 ([.undef,u,u']::(es++[[k,v,.undef]])) 0),nx⟩
    | none=>bad H nx
   | _=>bad H nx
  | _=>bad H nx
 | _=>bad H nx
def zpA(m:AV)(H:AH)(nx:Nat):ORes :=
 match m with
 | .nilmp=>⟨True,True,.int .i64 0,H,nx⟩
 |
  .mp r q=>match H.get r q with
  | some (.row sz (_::es) g)=>⟨sz=3∧g=0∧es.length≤big,True,.int .i64 es.length,H,nx⟩
  | _=>bad H nx
 | _=>bad H nx
def zoH(str:Option IntKind)(m k:AV)(H:AH)(nx:Nat):ORes :=
 match m with
 | .nilmp=>⟨zgw str k,True,.tup [],H,nx⟩
 |
  .mp r q=>match H.get r q with
  |
   some (.row sz (hd::es) g)=>match zcA k es 0 with
   | some (some (i,_))=>⟨sz=3∧g=0∧zgw str k,True,.tup [],H.set r q (.row 3 (hd::es.eraseIdx i) 0),nx⟩
   | some none=>⟨sz=3∧g=0∧zgw str k,True,.tup [],H,nx⟩
   | none=>bad H nx
  | _=>bad H nx
 | _=>bad H nx
def zgQ(m:AV)(H:AH)(nx:Nat):ORes :=
 match m with
 | .nilmp=>⟨True,True,.it nx,H.set nx 0 (.row 1 [[.nilmp],[.int .i64 0],[.int .i64 0]] 0),nx+1⟩
 |
  .mp r q=>match H.get r q with
  |
   some (.row sz (hd::_) g)=>match hd with
   | [.int .i64 c,_,_]=>⟨sz=3∧g=0,True,.it nx,H.set nx 0 (.row 1 [[.mp r q],[.int .i64 c],[.int .i64 c]] 0),nx+1⟩
   | _=>bad H nx
  | _=>bad H nx
 | _=>bad H nx
def zwj(b:Int):List (List AV)→Option (AV × AV)
 | []=>none
 |
  e::r=>match e with
  | [k,v,.int .i64 b']=>if b'=b then some (k,v) else zwj b r
  | _=>none
def ztk(x:AV)(H:AH)(nx:Nat):ORes :=
 match x with
 |
  .it r=>match H.get r 0 with
  |
   some (.row sz (m::sn::st::seen) g)=>match m,st,seen.getLast? with
   |
    [.mp rm qm],[.int .i64 t],some [.int .i64 b]=>match H.get rm qm with
    |
     some (.row sz2 (hd::es) g2)=>match hd,zwj b es with
     | [.int .i64 c,_,_],some (k,v)=>⟨sz=1∧g=0∧sz2=3∧g2=0∧c=t,True,.tup [k,v],H,nx⟩
     | _,_=>bad H nx
    | _=>bad H nx
   | _,_,_=>bad H nx
  | _=>bad H nx
 | _=>bad H nx
def zrq(len sz:Nat)(agg:Bool)(x i:AV)(H:AH)(nx:Nat):ORes :=
 match x,i with
 |
  .agg cs,.int _ k =>
  let v:=bif agg then .agg (sub cs (k.toNat * sz) sz) else cs.getD (k.toNat * sz) .undef
  ⟨0≤k∧k < len∧len * sz≤cs.length,v.wf,v,H,nx⟩
 | _,_=>bad H nx
def zlN(len sz:Nat)(p i:AV)(H:AH)(nx:Nat):ORes :=
 match p,i with
 | .ptr r q g j f,.int _ k=>⟨0≤k∧k < len,True,.ptr r q g j (f+k.toNat * sz),H,nx⟩
 | .iptr m c,.int _ k=>⟨0≤k∧k < len∧len * sz≤m,True,.iptr sz (fun j=>c (k.toNat * sz+j)),H,nx⟩
 | _,_=>bad H nx
def zvV(x:AV)(H:AH)(nx:Nat):ORes :=
 match x with
 | .nilsl=>⟨True,True,.int .i64 0,H,nx⟩
 | _=>bad H nx
def apzR(sz bytes:Nat)(zero:List AV)(x k:AV)(H:AH)(nx:Nat):ORes :=
 match x,k with
 | .nilsl,.int _ n=>⟨0≤n∧n * bytes≤140737488355328∧0 < sz∧0 < bytes,True,.own nx 0 0 0 n.toNat,H.set nx 0 (.row sz (Wh n.toNat zero) 0),nx+1⟩
 | _,_=>bad H nx
def xopR:XOp→List AV→AH→Nat→ORes
 | .mark,[x],H,nx=>zq4 x H nx
 | .nilck,[x],H,nx=>zm2 x H nx
 | .seq neg,[x,y],H,nx=>seqR neg x y H nx
 | .sidx,[x,i],H,nx=>ztv x i H nx
 | .b2s,[x],H,nx=>b2sR x H nx
 | .s2b,[x],H,nx=>s2bR x H nx
 | .sapp,[x,y],H,nx=>zpQ x y H nx
 | .min,[x,y],H,nx=>minR false x y H nx
 | .max,[x,y],H,nx=>minR true x y H nx
 | .eqs neg ss,[x,y],H,nx=>eqsR neg ss x y H nx
 | .sl3 sz,[x,h,m],H,nx=>sl3R sz x h m H nx
 | .mkmap,[],H,nx=>zwT H nx
 | .mlook str ok z,[m,k],H,nx=>zjV str ok z m k H nx
 | .mset str,[m,k,v],H,nx=>znz str m k v H nx
 | .mlen,[m],H,nx=>zpA m H nx
 | .mdel str,[m,k],H,nx=>zoH str m k H nx
 | .mrange,[m],H,nx=>zgQ m H nx
 | .ment,[x],H,nx=>ztk x H nx
 | .aidx len sz agg,[x,i],H,nx=>zrq len sz agg x i H nx
 | .aaddr len sz,[p,i],H,nx=>zlN len sz p i H nx
 | .capn,[x],H,nx=>zvV x H nx
 | .apz sz bytes z,[x,k],H,nx=>apzR sz bytes z x k H nx
 | _,_,H,nx=>bad H nx
def XOp.pure:XOp→Bool
 | .nilck | .seq _ | .sidx | .b2s | .min | .max | .eqs _ _ | .sl3 _ | .mlook .. | .mlen | .aidx .. | .aaddr .. | .capn=>true
 | _=>false
def XOp.reads:XOp→Bool
 | .b2s | .sl3 _ | .mlook .. | .mlen=>true
 | _=>false
inductive AOp where
 | mov (x:AOpd)
 | mknil (sz:Nat)
 | pick (c a b:AOpd)
 | load (agg:Bool) (n:Nat) (p:AOpd)
 | store (n:Nat) (p v:AOpd)
 | idx (sz:Nat) (x i:AOpd)
 | fldaddr (off n:Nat) (x:AOpd)
 | fld (off n:Nat) (agg:Bool) (x:AOpd)
 | len (x:AOpd)
 | slen (x:AOpd)
 | bin (op:BinOp) (x y:AOpd)
 | eqb (neg:Bool) (x y:AOpd)
 | un (op:UnOp) (x:AOpd)
 | conv (k:IntKind) (x:AOpd)
 | build (zero:List AV) (parts:List (Nat × Nat × AOpd))
 | buildSl (sz len:Nat) (zero:List AV) (parts:List (Nat × AOpd))
 | box (x:AOpd)
 | rbox (x:AOpd)
 | rbuildSl (sz len:Nat) (zero:List AV) (parts:List (Nat × AOpd))
 | mnext (x:AOpd)
 | alloc (zero:List AV)
 | mksl (sz bytes:Nat) (zero:List AV) (l c:AOpd)
 | slice (sz:Nat) (x:AOpd) (lo hi:Option AOpd)
 | cut (x:AOpd)
 | mkfn (f:Fn) (caps:List AOpd)
 | append (sz bytes:Nat) (x y:AOpd)
 | append2 (sz bytes:Nat) (x y:AOpd)
 | clear (sz:Nat) (zero:List AV) (x:AOpd)
 | ext (i:Nat) (x:AOpd)
 | isnil (neg ptr:Bool) (x:AOpd)
 | call (f:FuncId) (args:List AOpd)
 | callq (f:FuncId) (args:List AOpd)
 | callv (f:AOpd) (args:List AOpd)
 | xop (x:XOp) (args:List AOpd)
 deriving Inhabited
def evs(K:Nat→AV):List AOpd→List AV
 | []=>[]
 | x::r=>ev K x::evs K r
def ze7(K:Nat→AV):List (Nat × Nat × AOpd)→List (Nat × Nat × AV)
 | []=>[]
 | (a,b,x)::r=>(a,b,ev K x)::ze7 K r
def zkh(K:Nat→AV):List (Nat × AOpd)→List (Nat × AV)
 | []=>[]
 | (a,x)::r=>(a,ev K x)::zkh K r
def evO(K:Nat→AV):Option AOpd→Option AV
 | none=>none
 | some x=>some (ev K x)
def aop:AOp→(Nat→AV)→AH→Nat→ORes
 | .mov x,K,H,nx=>⟨True,True,ev K x,H,nx⟩
 | .mknil sz,_,H,nx=>zqk sz H nx
 | .pick c a b,K,H,nx=>zpR (ev K c) (ev K a) (ev K b) H nx
 | .load agg n p,K,H,nx=>zfo agg n (ev K p) H nx
 | .store n p v,K,H,nx=>zhu n (ev K p) (ev K v) H nx
 | .idx sz x i,K,H,nx=>idxR sz (ev K x) (ev K i) H nx
 | .fldaddr off n x,K,H,nx=>zeg off n (ev K x) H nx
 | .fld off n agg x,K,H,nx=>fldR off n agg (ev K x) H nx
 | .len x,K,H,nx=>lenR (ev K x) H nx
 | .slen x,K,H,nx=>zrD (ev K x) H nx
 | .bin op x y,K,H,nx=>binI op (ev K x) (ev K y) H nx
 | .eqb neg x y,K,H,nx=>eqB neg (ev K x) (ev K y) H nx
 | .un op x,K,H,nx=>unR op (ev K x) H nx
 | .conv k x,K,H,nx=>zqa k (ev K x) H nx
 | .build zero parts,K,H,nx=>zli zero (ze7 K parts) H nx
 | .buildSl sz len zero parts,K,H,nx=>zgf sz len zero (zkh K parts) H nx
 | .box x,K,H,nx=>boxR (ev K x) H nx
 | .rbox x,K,H,nx=>zrt (ev K x) H nx
 | .rbuildSl sz len zero parts,K,H,nx=>zel sz len zero (zkh K parts) H nx
 | .mnext _,_,H,nx=>bad H nx
 | .alloc zero,_,H,nx=>zn5 zero H nx
 | .mksl sz bytes zero l c,K,H,nx=>zo4 sz bytes zero (ev K l) (ev K c) H nx
 | .slice sz x lo hi,K,H,nx=>zhR sz (ev K x) (evO K lo) (evO K hi) H nx
 | .cut x,K,H,nx=>cutR (ev K x) H nx
 | .mkfn f caps,K,H,nx=>⟨True,True,.fn f (evs K caps),H,nx⟩
 | .append sz bytes x y,K,H,nx=>zhn sz bytes (ev K x) (ev K y) H nx
 | .append2 _ _ _ _,_,H,nx=>bad H nx
 | .clear sz zero x,K,H,nx=>zj0 sz zero (ev K x) H nx
 | .ext i x,K,H,nx=>extR i (ev K x) H nx
 | .isnil _ _ _,_,H,nx=>bad H nx
 | .call _ _,_,H,nx=>bad H nx
 | .callq _ _,_,H,nx=>bad H nx
 | .callv _ _,_,H,nx=>bad H nx
 | .xop x args,K,H,nx=>xopR x (evs K args) H nx
structure AOper where
 dst:Option Nat
 op:AOp
 guard:Option (Nat × Bool)
 deriving Inhabited
inductive DTree where
 | done
 | stop
 | step (o:AOper) (t:DTree)
 | alt (o:AOper) (t r:DTree)
 deriving Inhabited
def zDM:List (AOper × DTree)→DTree
 | []=>.stop
 | (o,t)::r=>.alt o t (zDM r)
inductive ACode where
 | skip
 | region (ops:List AOper) (drop:List Nat)
 | draw (t:DTree) (drop:List Nat)
 | seq (a b:ACode)
 | cond (c:AOpd) (a b:ACode)
 | block (id:Nat) (c:ACode)
 | loop (c:ACode)
 | exit (id:Nat)
 | ret
 | mark (n:Nat) (c:ACode)
 | join (a b:ACode)
 | scope (c:ACode)
 | label (l:Nat)
 | goto (l:Nat)
 | jump (l:Nat) (a b:ACode)
 | range (g:AOpd) (ps:List Nat) (a b:ACode)
 deriving Inhabited
def ACode.strip:ACode→ACode
 | .region ops _=>.region ops []
 | .draw t _=>.draw t []
 | .seq a b=>.seq a.strip b.strip
 | .join a b=>.seq a.strip b.strip
 | .cond c a b=>.cond c a.strip b.strip
 | .block id c=>.block id c.strip
 | .loop c=>.loop c.strip
 | .skip=>.skip
 | .exit id=>.exit id
 | .ret=>.ret
 | .mark _ c=>c.strip
 | .scope c=>.scope c.strip
 | .label l=>.label l
 | .goto l=>.goto l
 | .jump l a b=>.jump l a.strip b.strip
 | .range g ps a b=>.range g ps a.strip b.strip
def cav:Nat→Value→Option AV
 | _,.int k n=>if k.min≤n∧n≤k.max then some (.int k n) else none
 | _,.bool b=>some (.bool b)
 | _,.string s=>if s.size≤big then some (.str s) else none
 | _,.pointer none=>some .nilp
 | _,.slice none 0 0=>some .nilsl
 | _,.nilFunc=>some .nilfn
 | _,.map none=>some .nilmp
 | d+1,.agg cs=>if cs.all (·.oneCell') then (cs.toList.mapM (cav d)).map .agg else none
 | _,_=>none
def copd:Operand→Option AOpd
 | .tmp t=>some (.t t)
 | .const v=>(cav 2 v).map .c
 | .func f=>some (.c (.fn (.func f) []))
 | .global _=>none
def zFh:Option Operand→Option (Option AOpd)
 | none=>some none
 | some l=>(copd l).map some
def zdy:TypeDesc→Bool
 | .struct _=>true
 | .array _ _=>true
 | _=>false
def zhq(P:Program)(t:TypeId):Option (List AV) :=
 match P.info? t with
 |
  some i=>match i.zero with
  | some z=>if z.cells.size=i.size∧z.cells.all (·.oneCell') then z.cells.toList.mapM (cav 1) else none
  | none=>none
 | none=>none
def zfS(P:Program)(b:Builtin)(argTypes:Array TypeId)(args:Array Operand):Option AOp :=
 match b,argTypes.toList,args.toList with
 |
  .len,[t],[x]=>match P.underlying t with
  | some (.slice _)=>(copd x).map .len
  | some .string=>(copd x).map .slen
  | _=>none
 |
  .append,[t,u],[x,y]=>match P.underlying t,P.underlying u with
  |
   some (.slice e),some (.slice e')=>match P.info? e,zhq P e with
   | some i,some _=>if e=e'∧0 < i.size∧0 < i.bytes then do some (.append i.size i.bytes (←copd x) (←copd y)) else none
   | _,_=>none
  | _,_=>none
 |
  .clear,[t],[x]=>match P.underlying t with
  |
   some (.slice e)=>match P.info? e,zhq P e with
   | some i,some z=>if 0 < i.size then do some (.clear i.size z (←copd x)) else none
   | _,_=>none
  | _=>none
 | _,_,_=>none
def cop0(
     P:Program)(o:Oper):Option AOp :=
 match o.op with
 |
  .move x | .assign x=>match x with
  |
   .const (.slice none 0 0)=>match P.underlying o.type with
   |
    some (.slice e)=>match P.info? e with
    | some i=>if 0 < i.size then some (.mknil i.size) else none
    | none=>none
   | _=>none
  | _=>(copd x).map .mov
 | .pick c a b=>do some (.pick (←copd c) (←copd a) (←copd b))
 | .alloc e=>(zhq P e).map .alloc
 | .box _ x=>(copd x).map .box
 |
  .load t a=>match P.underlying t,P.info? t with
  | some d,some i=>if zdy d then (copd a).map (.load true i.size) else (copd a).map (.load false 1)
  | _,_=>none
 |
  .store t a x=>match P.info? t with
  | some i=>do some (.store i.size (←copd a) (←copd x))
  | none=>none
 |
  .build t parts=>match P.underlying t,zhq P t with
  |
   some (.struct fs),some z=>if fs.toList.all (fun f=>(P.info? f.type).isSome) then do
   let ps ←parts.toList.mapM fun p=>do
    let f ←fs[p.1]?
    let i ←P.info? f.type
    some (f.offset,i.size,(←copd p.2))
   some (.build z ps)
   else none
  | _,_=>none
 |
  .buildSlice t len parts=>match P.underlying t with
  |
   some (.slice e)=>match P.info? e,zhq P e with
   |
    some i,some z=>if len * i.size≤16777216∧0 < i.size then do
     let ps ←parts.toList.mapM fun p=>do some (p.1,(←copd p.2))
     some (.buildSl i.size len z ps)
    else none
   | _,_=>none
  | _=>none
 |
  .binOp op t x y _=>match P.underlying t with
  | some (.int _)=>do some (.bin op (←copd x) (←copd y))
  |
   some .bool=>match op with
   | .eql=>do some (.eqb false (←copd x) (←copd y))
   | .neq=>do some (.eqb true (←copd x) (←copd y))
   | _=>none
  |
   some (.slice _)=>match y with
   |
    .const (.slice none 0 0)=>match op with
    | .eql=>(copd x).map (.isnil false false)
    | .neq=>(copd x).map (.isnil true false)
    | _=>none
   | _=>none
  |
   some (.pointer _)=>match y with
   |
    .const (.pointer none)=>match op with
    | .eql=>(copd x).map (.isnil false true)
    | .neq=>(copd x).map (.isnil true true)
    | _=>none
   | _=>none
  | _=>none
 | .unOp op _ x=>(copd x).map (.un op)
 |
  .convert s d x=>match P.underlying s,P.underlying d with
  | some (.int _),some (.int k)=>(copd x).map (.conv k)
  | _,_=>none
 | .makeFunc fn first caps=>if first.size=0 then (caps.toList.mapM copd).map (.mkfn fn) else none
 |
  .makeSlice t l c=>match P.underlying t with
  |
   some (.slice e)=>match P.info? e,zhq P e with
   | some i,some z=>if 0 < i.size then do some (.mksl i.size i.bytes z (←copd l) (←copd c)) else none
   | _,_=>none
  | _=>none
 |
  .slice t x lo hi mx=>match P.underlying t with
  |
   some (.slice e)=>match P.info? e with
   |
    some i=>match mx with
    |
     none=>do
     let x' ←copd x
     let l' ←zFh lo
     let h' ←zFh hi
     if 0 < i.size then some (.slice i.size x' l' h') else none
    |
     some (.const (.int .i64 0))=>match lo,hi with
     | none,some (.const (.int .i64 0))=>(copd x).map .cut
     | _,_=>none
    | _=>none
   | none=>none
  | _=>none
 |
  .fieldAddr s x f=>match P.underlying s with
  |
   some (.struct fs)=>do
   let fd ←fs[f]?
   let i ←P.info? fd.type
   if 0 < i.size then some (.fldaddr fd.offset i.size (←copd x)) else none
  | _=>none
 |
  .field s x f=>match P.underlying s with
  |
   some (.struct fs)=>do
   let fd ←fs[f]?
   let i ←P.info? fd.type
   let d ←P.underlying fd.type
   if zdy d then some (.fld fd.offset i.size true (←copd x)) else some (.fld fd.offset 1 false (←copd x))
  | _=>none
 |
  .indexAddr t x i=>match P.underlying t with
  |
   some (.slice e)=>match P.info? e with
   | some inf=>if 0 < inf.size then do some (.idx inf.size (←copd x) (←copd i)) else none
   | none=>none
  | _=>none
 | .extract x i=>(copd x).map (.ext i)
 |
  .call c=>match c.callee with
  | .builtin b=>zfS P b c.argTypes c.args
  |
   .value (.func f)=>match P.funcs[f]? with
   | some fn=>if fn.body.isSome∧fn.name≠"runtime.NumGoroutine" then (c.args.toList.mapM copd).map (.call f) else none
   | none=>none
  | .value (.tmp t)=>(c.args.toList.mapM copd).map (.callv (.t t))
  | _=>none
 | _=>none
def zpj(P:Program)(t:TypeId):Option Nat :=
 match P.underlying t with
 | some (.int _)=>some 0
 | some .string=>some 1
 | some .bool=>some 2
 | _=>none
def zgO(P:Program):List Field→Nat→Option (List Nat)
 | [],_=>some []
 |
  f::r,i=>if f.offset=i∧f.name≠"_" then match zpj P f.type,zgO P r (i+1) with
   | some s,some l=>some (s::l)
   | _,_=>none
  else none
def zk3(P:Program)(k:TypeId):Option (Option IntKind) :=
 match P.underlying k with
 | some .string=>some none
 | some (.int q)=>some (some q)
 | _=>none
def zxv(P:Program)(t:TypeId):Option AV :=
 match P.info? t with
 |
  some i=>match i.zero with
  | some z=>cav 2 z
  | none=>none
 | none=>none
def zm8(P:Program)(e:TypeId):Bool :=
 (match P.underlying e with
 | some (.int .u8)=>true
 | _=>false)&&(match P.info? e with
 | some i=>(i.size == 1)&&(i.bytes == 1)
 | none=>false)&&(match zhq P e with
 | some [.int .u8 n]=>n == 0
 | _=>false)
def cxop(P:Program)(o:Oper):Option (XOp × List AOpd) :=
 match o.op with
 | .nilCheck x=>do some (.nilck,[←copd x])
 |
  .convert s d x=>match P.underlying s,P.underlying d with
  | some (.slice e),some (.slice _)=>if s=d∧zm8 P e=true then do some (.mark,[←copd x]) else none
  | some (.slice e),some .string=>if zm8 P e=true then do some (.b2s,[←copd x]) else none
  | some .string,some (.slice e)=>if zm8 P e=true then do some (.s2b,[←copd x]) else none
  | _,_=>none
 |
  .binOp op t x y _=>match P.underlying t with
  |
   some .string=>match op with
   | .eql=>do some (.seq false,[←copd x,←copd y])
   | .neq=>do some (.seq true,[←copd x,←copd y])
   | _=>none
  |
   some (.struct fs)=>match zgO P fs.toList 0 with
   |
    some ss=>if P.stoodInHeld t=false∧P.eqGuardType P.depth t=false then match op with
    | .eql=>do some (.eqs false ss,[←copd x,←copd y])
    | .neq=>do some (.eqs true ss,[←copd x,←copd y])
    | _=>none
    else none
   | none=>none
  | _=>none
 |
  .index t x i=>match P.underlying t with
  | some .string=>do some (.sidx,[←copd x,←copd i])
  | _=>none
 |
  .slice t x lo h m=>match lo,h,m with
  |
   none,some h,some m=>match P.underlying t with
   |
    some (.slice e)=>match P.info? e with
    | some i=>if 0 < i.size then do some (.sl3 i.size,[←copd x,←copd h,←copd m]) else none
    | none=>none
   | _=>none
  | _,_,_=>none
 |
  .makeMap t r=>match r,P.underlying t with
  | none,some (.map _ _)=>some (.mkmap,[])
  | _,_=>none
 |
  .lookup t x k ok=>match P.underlying t with
  |
   some (.map kt et)=>match zk3 P kt,zxv P et with
   | some str,some z=>do some (.mlook str ok z,[←copd x,←copd k])
   | _,_=>none
  | _=>none
 |
  .mapUpdate t m k v=>match P.underlying t with
  |
   some (.map kt _)=>match zk3 P kt with
   | some str=>do some (.mset str,[←copd m,←copd k,←copd v])
   | none=>none
  | _=>none
 |
  .call c=>match c.callee with
  |
   .builtin b=>match b,c.argTypes.toList,c.args.toList with
   | .min,[_,_],[x,y]=>do some (.min,[←copd x,←copd y])
   | .max,[_,_],[x,y]=>do some (.max,[←copd x,←copd y])
   |
    .append,[t,u],[x,y]=>match P.underlying t,P.underlying u with
    | some (.slice e),some .string=>if zm8 P e=true then do some (.sapp,[←copd x,←copd y]) else none
    | _,_=>none
   | _,_,_=>none
  | _=>none
 | _=>none
def zsb(P:Program):Nat→TypeId→Option (List Nat)
 | 0,_=>none
 |
  d+1,t=>match zpj P t with
  | some s=>some [s]
  |
   none=>match P.underlying t with
   | some (.struct fs)=>if P.stoodInHeld t=false then zgO P fs.toList 0 else none
   |
    some (.array len e)=>match zsb P d e,P.info? e with
    | some l,some i=>if i.size=l.length then some (Wh len l).flatten else none
    | _,_=>none
   | _=>none
def zyX(P:Program)(o:Oper):Option AOp :=
 match o.op with
 |
  .range t x=>match P.underlying t with
  | some (.map _ _)=>(copd x).map fun y=>.xop .mrange [y]
  | _=>none
 | .next x s=>if s=false then (copd x).map .mnext else none
 | .entry x=>(copd x).map fun y=>.xop .ment [y]
 |
  .insert t m k v=>match P.underlying t with
  |
   some (.map kt _)=>match zk3 P kt with
   | some str=>do some (.xop (.mset str) [←copd m,←copd k,←copd v])
   | none=>none
  | _=>none
 |
  .index t x i=>match P.underlying t with
  |
   some (.array len e)=>match P.info? e,P.underlying e with
   | some inf,some d=>if zdy d=true∨inf.size=1 then do some (.xop (.aidx len inf.size (zdy d)) [←copd x,←copd i]) else none
   | _,_=>none
  | _=>none
 |
  .indexAddr t x i=>match P.underlying t with
  |
   some (.array len e)=>match P.info? e with
   | some inf=>if 0 < inf.size then do some (.xop (.aaddr len inf.size) [←copd x,←copd i]) else none
   | none=>none
  | _=>none
 |
  .build t parts=>match P.underlying t,zhq P t with
  |
   some (.array _ e),some z=>match P.info? e with
   |
    some i=>do
    let ps ←parts.toList.mapM fun p=>do some (p.1 * i.size,i.size,(←copd p.2))
    some (.build z ps)
   | none=>none
  | _,_=>none
 |
  .binOp op t x y _=>match P.underlying t with
  |
   some (.array _ _)=>match zsb P 5 t with
   |
    some ss=>if P.eqGuardType P.depth t=false then match op with
    | .eql=>do some (.xop (.eqs false ss) [←copd x,←copd y])
    | .neq=>do some (.xop (.eqs true ss) [←copd x,←copd y])
    | _=>none
    else none
   | none=>none
  | _=>none
 |
  .call c=>match c.callee with
  |
   .builtin b=>match b,c.argTypes.toList,c.args.toList with
   |
    .len,[t],[x]=>match P.underlying t with
    | some (.map _ _)=>(copd x).map fun y=>.xop .mlen [y]
    | _=>none
   |
    .cap,[t],[x]=>match P.underlying t with
    | some (.slice _)=>(copd x).map fun y=>.xop .capn [y]
    | _=>none
   |
    .append,[t,u],[x,k]=>match P.underlying t,P.underlying u with
    |
     some (.slice e),some (.int _)=>match P.info? e,zhq P e with
     | some i,some z=>do some (.xop (.apz i.size i.bytes z) [←copd x,←copd k])
     | _,_=>none
    | _,_=>none
   |
    .delete,[t,_],[x,k]=>match P.underlying t with
    |
     some (.map kt _)=>match zk3 P kt with
     | some str=>do some (.xop (.mdel str) [←copd x,←copd k])
     | none=>none
    | _=>none
   | _,_,_=>none
  | _=>none
 | _=>none
def cyop(P:Program)(o:Oper):Option AOp :=
 match zyX P o with
 | some a=>some a
 | none=>some (.xop .nope [])
def cop(P:Program)(o:Oper):Option AOp :=
 match cop0 P o with
 | some a=>some a
 |
  none=>match cxop P o with
  | some p=>some (.xop p.1 p.2)
  | none=>cyop P o
def ztO(nt:Nat):Option Nat→Bool
 | none=>true
 | some d=>d < nt
def zCX(P:Program)(nt:Nat)(ops:Array Oper)(o:Oper):Option AOper :=
 if ztO nt o.dst then
  match cop P o with
  |
   some a=>match o.guard with
   | none=>some ⟨o.dst,a,none⟩
   |
    some (j,want)=>match (ops[j]?).bind (·.dst) with
    | some t=>some ⟨o.dst,a,some (t,want)⟩
    | none=>none
  | none=>none
 else none
def AOp.pure:AOp→Bool
 | .rbox _ | .rbuildSl ..=>true
 | .mov _ | .pick .. | .load .. | .idx .. | .fldaddr .. | .fld .. | .len .. | .slen .. | .bin .. | .eqb .. | .un .. | .conv .. | .build .. | .slice .. | .cut .. | .mkfn .. | .ext ..=>true
 | .xop x _=>x.pure
 | _=>false
def AOp.reads:AOp→Bool
 | .load .. | .idx .. | .slice ..=>true
 | .xop x _=>x.reads
 | _=>false
def AOpd.tmps:AOpd→List Nat
 | .t n=>[n]
 | .c _=>[]
def AOp.tmps:AOp→List Nat
 | .mov x=>x.tmps
 | .mknil _=>[]
 | .pick c a b=>c.tmps++a.tmps++b.tmps
 | .load _ _ p=>p.tmps
 | .store _ p v=>p.tmps++v.tmps
 | .idx _ x i=>x.tmps++i.tmps
 | .fldaddr _ _ x=>x.tmps
 | .fld _ _ _ x=>x.tmps
 | .len x=>x.tmps
 | .slen x=>x.tmps
 | .bin _ x y=>x.tmps++y.tmps
 | .eqb _ x y=>x.tmps++y.tmps
 | .un _ x=>x.tmps
 | .conv _ x=>x.tmps
 | .build _ ps=>ps.flatMap (·.2.2.tmps)
 | .buildSl _ _ _ ps=>ps.flatMap (·.2.tmps)
 | .box x=>x.tmps
 | .rbox x=>x.tmps
 | .rbuildSl _ _ _ ps=>ps.flatMap (·.2.tmps)
 | .mnext x=>x.tmps
 | .alloc _=>[]
 | .mksl _ _ _ l c=>l.tmps++c.tmps
 | .slice _ x lo hi=>x.tmps++(match lo with|none=>[]|some y=>y.tmps)++(match hi with|none=>[]|some y=>y.tmps)
 | .cut x=>x.tmps
 | .mkfn _ cs=>cs.flatMap (·.tmps)
 | .append _ _ x y=>x.tmps++y.tmps
 | .append2 _ _ x y=>x.tmps++y.tmps
 | .clear _ _ x=>x.tmps
 | .ext _ x=>x.tmps
 | .isnil _ _ x=>x.tmps
 | .call _ xs=>xs.flatMap (·.tmps)
 | .callq _ xs=>xs.flatMap (·.tmps)
 | .callv f xs=>f.tmps++xs.flatMap (·.tmps)
 | .xop _ xs=>xs.flatMap (·.tmps)
def AOper.looks(o:AOper):List Nat:=(match o.guard with|none=>[]|some (t,_)=>[t])++o.op.tmps
def AOper.fixed(o:AOper):Bool:=o.op.pure||(match o.op with | .callq ..=>true|_=>false)
def AOper.sees(o:AOper):Bool:=o.op.reads||(match o.op with | .callq ..=>true|_=>false)
def AOper.apart(x y:AOper):Bool :=
 (match x.dst with|none=>true|some d => !(memN y.looks d)&&(match y.dst with|none=>true|some d' => !(Wa d d'))) &&
 (match y.dst with|none=>true|some d => !(memN x.looks d)) &&
 (y.fixed || !x.sees)
def zmY(o:Oper):List Nat:=(o.after.toList.filter (Region.binds .any)).map (·.on)
def getB(l:List Bool)(i:Nat):Bool:=l.getD i false
def zde(deps:List (List Nat))(listed:List Bool)(i:Nat):Bool := !(getB listed i)&&(deps.getD i []).all (getB listed)
def zCe(ops:List AOper)(deps:List (List Nat))(listed:List Bool)(i:Nat):Bool :=
 (ops.getD i default).fixed&&(Wj ops.length).all fun j=>Wa i j||getB listed j||memN (deps.getD j []) i||(ops.getD i default).apart (ops.getD j default)
def zil(ops:List AOper)(deps:List (List Nat)):Nat→List Bool→DTree
 | 0,_=>.done
 |
  fuel+1,listed =>
  match (Wj ops.length).filter (zde deps listed) with
  | []=>.done
  |
   r=>match r.find? (zCe ops deps listed) with
   | some i=>.step (ops.getD i default) (zil ops deps fuel (listed.set i true))
   | none=>zDM (r.map fun i=>(ops.getD i default,zil ops deps fuel (listed.set i true)))
def AOper.quiet(o:AOper):AOper :=
 match o.op with
 | .call f xs=>{ o with op:=.callq f xs }
 | _=>o
def zk0(q:List Nat):Nat→List AOper→List AOper
 | _,[]=>[]
 | k,o::r=>(bif memN q k then o.quiet else o)::zk0 q (k+1) r
def AOper.ro(l:List Nat)(o:AOper):AOper :=
 match o.op,o.dst with
 | .box x,some d=>bif memN l d then { o with op:=.rbox x } else o
 | .buildSl sz len z ps,some d=>bif memN l d then { o with op:=.rbuildSl sz len z ps } else o
 | .append sz b x y,some d=>bif memN l (d+1000) then { o with op:=.append2 sz b x y } else o
 | _,_=>o
def zpp:ACode→Option Nat
 | .goto l=>some l
 |
  .seq a b=>match zpp a with
  | some l=>some l
  | none=>zpp b
 |
  .cond _ a b=>match zpp a with
  | some l=>some l
  | none=>zpp b
 | .block _ c=>zpp c
 | .loop c=>zpp c
 | .scope c=>zpp c
 | _=>none
def zpH:ACode→Nat→Option ACode
 |
  .seq a b,l=>match zpH a l with
  | some r=>some (.seq r b)
  | none=>zpH b l
 | .label l',l=>bif Wa l' l then some .skip else none
 | _,_=>none
def zvT(a:ACode):Option ACode:=match zpp a with
 | none=>some (.scope a)
 |
  some l=>match zpH a l with
  | some b=>some (.jump l a b)
  | none=>none
def ziR:Code→Bool
 |
  .region _ ops _=>ops.toList.all fun o=>match o.op with
  | .defer _=>false
  | _=>true
 | .seq a b=>ziR a&&ziR b
 | .cond _ a b=>ziR a&&ziR b
 | .block _ c=>ziR c
 | .loop c=>ziR c
 | .scope _=>false
 | .rangeFunc ..=>false
 | _=>true
def comp(P:Program)(nt:Nat)(q:Nat→List Nat):Code→Option ACode
 | .skip=>some .skip
 |
  .region id ops draw =>
  match ops.toList.mapM (zCX P nt ops) with
  |
   some asv=>if draw then
    (
     let bs:=(zk0 (q id) 0 asv).map (AOper.ro (q 999999))
     let deps:=ops.toList.map zmY
     if P.follows .mixedOrders&&(Wj ops.size).all (fun j=>(deps.getD j []).all fun i=>Nat.blt i j) then some (.draw (zil bs deps ops.size (Wh ops.size false)) []) else none)
   else some (.region (asv.map (AOper.ro (q 999999))) [])
  | none=>none
 | .seq a b=>do some (.seq (←comp P nt q a) (←comp P nt q b))
 | .cond c a b=>do some (.cond (←copd c) (←comp P nt q a) (←comp P nt q b))
 | .block id c=>do some (.block id (←comp P nt q c))
 | .loop c=>do some (.loop (←comp P nt q c))
 | .exit id=>some (.exit id)
 | .ret=>some .ret
 | .scope c=>(comp P nt q c).bind zvT
 | .label l=>some (.label l)
 | .goto l=>some (.goto l)
 | .rangeFunc g ps a b=>if ziR a&&ziR b&&ps.toList.all (fun t=>Nat.blt t nt) then do some (.range (←copd g) ps.toList (←comp P nt q a) (←comp P nt q b)) else none
 | _=>none
section
variable {P:Program} {w:World} {L:Nat→Prop} {ι:Inj} {H:AH} {nx:Nat} {M:Nat→Prop}
theorem zfU(k:IntKind)(e:Int):InR k (k.wrap e):=by
 have:=wf_wrap k e
 simpa [Lit.wf,InR] using this
theorem zhr{n:Int}(h1 : -9223372036854775808≤n)(h2:n≤9223372036854775807):InR .i64 n:=by simp only[InR,IntKind.min,IntKind.max,IntKind.signed,IntKind.bits,if_true];exact⟨by omega,by omega⟩
theorem zjA.mapM_len{α β:Type}(f:α→Option β):∀(l:List α)(r:List β),l.mapM f=some r→r.length=l.length
 | [],r,h=>by simp at h;subst h;rfl
 |
  x::l,r,h=>by
  simp only[WN,WO,WP,WQ,Wn] at h;obtain⟨b,_,bs,hbs,rfl⟩:=h;simp[zjA.mapM_len f l bs hbs]
theorem zjA.mapM_get{α β:Type}(f:α→Option β):∀(l:List α)(r:List β),l.mapM f=some r→∀(i:Nat)(x:α)(y:β),l[i]? = some x→r[i]? = some y→f x=some y
 | [],r,h,i,x,y,hx,_=>by simp at hx
 |
  a::l,r,h,i,x,y,hx,hy=>by
  simp only[WN,WO,WP,WQ,Wn] at h;obtain⟨b,hb,bs,hbs,rfl⟩:=h
  cases i with
  | zero=>simp at hx hy;subst hx;subst hy;exact hb
  | succ i=>exact zjA.mapM_get f l bs hbs i x y (by simpa using hx) (by simpa using hy)
theorem zjA:∀(d:Nat)(v:Value)(a:AV),cav d v=some a→VR w M ι v a
 |
  d,.int k n,a,h=>by
  unfold cav at h;split at h
  · rename_i hr;cases h;exact .int _ _ _ hr
  · cases h
 | d,.bool b,a,h=>by unfold cav at h;cases h;exact .bool _ _
 |
  d,.string s,a,h=>by
  unfold cav at h;split at h
  · rename_i hr;cases h;exact .str _ _ hr
  · cases h
 | d,.pointer none,a,h=>by unfold cav at h;cases h;exact .nilp _
 | d,.pointer (some x),a,h=>by unfold cav at h;cases h
 | d,.slice none 0 0,a,h=>by unfold cav at h;cases h;exact .nilsl _
 | d,.slice none 0 (c+1),a,h=>by unfold cav at h;cases h
 | d,.slice none (n+1) c,a,h=>by unfold cav at h;cases h
 | d,.slice (some x) n c,a,h=>by unfold cav at h;cases h
 | d,.nilFunc,a,h=>by unfold cav at h;cases h;exact .nilfn _
 | 0,.agg cs,a,h=>by unfold cav at h;cases h
 |
  d+1,.agg cs,a,h=>by
  unfold cav at h;split at h
  ·
   rename_i h1;obtain⟨l,hl,rfl⟩:=Wo.1 h;have hlen:=zjA.mapM_len _ _ _ hl;refine .agg _ cs l (by rw[hlen];simp) (fun i v hv=>?_) (fun i v a hv ha=>?_)
   · exact(WZ.1 h1) v (W0 hv)
   · have:=zjA.mapM_get _ _ _ hl i v a (by simpa using hv) ha;exact zjA d v a this
  · cases h
 | d,.float k b,a,h=>by unfold cav at h;cases h
 | d,.complex k x y,a,h=>by unfold cav at h;cases h
 | d,.map none,a,h=>by unfold cav at h;cases h;exact .nilmp _
 | d,.map (some r),a,h=>by unfold cav at h;cases h
 | d,.chan r,a,h=>by unfold cav at h;cases h
 | d,.func f x y,a,h=>by unfold cav at h;cases h
 | d,.iface t v,a,h=>by unfold cav at h;cases h
 | d,.nilIface,a,h=>by unfold cav at h;cases h
 | d,.tuple vs,a,h=>by unfold cav at h;cases h
def KOk(w:World)(M:Nat→Prop)(ι:Inj)(tmps:Array Value)(K:Nat→AV):Prop:=∀i,VR w M ι (tmps.getD i undef) (K i)
theorem zp{a:Act}{K:Nat→AV}(hk:KOk w M ι a.tmps K){x:Operand}{y:AOpd}(h:copd x=some y):VR w M ι (a.eval x) (ev K y):=by
 cases x with
 | tmp t=>simp only[copd,Wn] at h;subst h;exact hk t
 |
  const v =>
  simp only[copd] at h;obtain⟨c,hc,rfl⟩:=Wo.1 h;exact zjA 2 v c hc
 | global g=>simp[copd] at h
 |
  func f =>
  simp only[copd,Wn] at h;subst h;exact .fn _ _ _ _ rfl (fun i v a h1 _=>by simp at h1)
theorem VR.cells{v:Value}{a:AV}(h:VR w M ι v a)(hs:a.solid=true):
  v.cells.size=a.cells.length∧(∀(i:Nat)(u:Value),v.cells[i]? = some u→u.oneCell'=true)∧(∀(i:Nat)(u:Value)(b:AV),v.cells[i]? = some u→a.cells[i]? = some b→VR w M ι u b):=by
 have one:∀(v:Value)(a:AV),v.cells=#[v]→a.cells=[a]→v.oneCell'=true→VR w M ι v a →
   v.cells.size=a.cells.length∧(∀(i:Nat)(u:Value),v.cells[i]? = some u→u.oneCell'=true)∧(∀(i:Nat)(u:Value)(b:AV),v.cells[i]? = some u→a.cells[i]? = some b→VR w M ι u b):=by
  intro v a h1 h2 h3 h4;rw[h1,h2];refine⟨rfl,fun i u hu=>?_,fun i u b hu hb=>?_⟩
  ·
   cases i with
   | zero=>simp at hu;subst hu;exact h3
   | succ i=>simp at hu
  ·
   cases i with
   | zero=>simp at hu hb;subst hu;subst hb;exact h4
   | succ i=>simp at hu
 cases h with
 | undef=>simp[AV.solid] at hs
 | tup=>simp[AV.solid] at hs
 | agg _ cs asv hsz h1 hv=>exact⟨hsz,h1,hv⟩
 | int _ k n hr=>exact one _ _ rfl rfl rfl (.int _ _ _ hr)
 | bool _ b=>exact one _ _ rfl rfl rfl (.bool _ _)
 | str _ s hr=>exact one _ _ rfl rfl rfl (.str _ _ hr)
 | nilp=>exact one _ _ rfl rfl rfl (.nilp _)
 | ptr _ r q g i f l hl hm=>exact one _ _ rfl rfl rfl (.ptr _ _ _ _ _ _ _ hl hm)
 | mp _ r q l hl hm=>exact one _ _ rfl rfl rfl (.mp _ _ _ _ hl hm)
 | nilmp=>exact one _ _ rfl rfl rfl (.nilmp _)
 | it _ r l hl hm=>exact one _ _ rfl rfl rfl (.it _ _ _ hl hm)
 | iptr _ a n c V hc hL hv=>exact one _ _ rfl rfl rfl (.iptr _ a n c V hc hL hv)
 | sl _ a sz n cap f V hn hb hc hL hv=>exact one _ _ rfl rfl rfl (.sl _ a sz n cap f V hn hb hc hL hv)
 | sl0 _ sz f=>exact one _ _ rfl rfl rfl (.sl0 _ _ _)
 | nilsl=>exact one _ _ rfl rfl rfl (.nilsl _)
 | cut _ a=>exact one _ _ rfl rfl rfl (.cut _ _)
 | own _ r q g off n a c l h1 h2 h3 h4 h5=>exact one _ _ rfl rfl rfl (.own _ _ _ _ _ _ _ _ l h1 h2 h3 h4 h5)
 | fn _ f cs caps h1 h2=>exact one _ _ rfl rfl rfl (.fn _ _ _ _ h1 h2)
 | nilfn=>exact one _ _ rfl rfl rfl (.nilfn _)
theorem VR.wf{v:Value}{a:AV}(h:VR w M ι v a):a.wf:=by
 cases h<;>simp only[AV.wf]<;>first|assumption|trivial | (exact Wr _)
theorem zgb{t:TypeId}{d:TypeDesc}(h:P.underlying t=some d)(w:World):(isAgg t).run P w=.ok (zdy d) w:=by
 unfold isAgg;rw[Sem.run_bind,run_underlying h w]
 cases d<;>rfl
theorem zlX {t:TypeId} {d:TypeDesc} {i:TypeInfo} (hu:P.underlying t=some d) (hd:zdy d=true) (hi:P.info? t=some i) (a:Addr) (cs:List Value) (hl:cs.length=i.size)
  (hc:∀(j:Nat) v,cs[j]? = some v→w.cell? (a.add j)=some v):(loadVar t a).run P w=.ok (.agg cs.toArray) w:=by
 have:=run_loadCells_list (P:=P) w a cs hc;simp[loadVar,Sem.run_bind,zgb hu,hd,sizeOf,typeInfo,hi,←hl,this]
theorem zlQ{t:TypeId}{d:TypeDesc}(hu:P.underlying t=some d)(hd:zdy d=false)(a:Addr)(v:Value)(hc:w.cell? a=some v):(loadVar t a).run P w=.ok v w:=by simp[loadVar,Sem.run_bind,zgb hu,hd,hc]
theorem add_mid(b o j:Nat):(⟨b,o,none⟩:Addr).add j=⟨b,o+j,none⟩:=Addr.add_mid b o j
theorem add0(a:Addr):a.add 0=a:=by simp[Addr.add]
theorem zvZ(c:Nat→AV):∀(n k j:Nat),(tab c n k)[j]? = if j < n then some (c (k+j)) else none
 | 0,k,j=>by simp[tab]
 | n+1,k,0=>by simp[tab]
 |
  n+1,k,j+1=>by
  simp only[tab,W3,zvZ c n (k+1) j]
  by_cases h:j < n
  · rw[if_pos h,if_pos (by omega)];congr 2;omega
  · rw[if_neg h,if_neg (by omega)]
theorem zoJ(c:Nat→AV):∀(n k:Nat),(tab c n k).length=n
 | 0,_=>rfl
 | n+1,k=>by simp[tab,zoJ c n (k+1)]
theorem zoQ{n:Nat}{V:Nat→Value}{i:Nat}{v:Value}(h:(((Wj n).map V).toArray)[i]? = some v):i < n∧V i=v:=by rw[WR,Wx] at h;obtain⟨k,hk,rfl⟩:=Wo.1 h;obtain⟨h1,rfl⟩:=Wf.1 hk;simp at h1 ⊢;exact h1
theorem znr{n:Nat}{V:Nat→Value}{i:Nat}{v:Value}(h:((Wj n).map V)[i]? = some v):i < n∧V i=v:=zoQ (by rw[WR];exact h)
theorem VR.aggOf{n:Nat}{asv:List AV}(V:Nat→Value)(hl:asv.length=n)(h:∀j,j < n→(V j).oneCell'=true∧∃a,asv[j]? = some a∧VR w M ι (V j) a):
  VR w M ι (.agg ((Wj n).map V).toArray) (.agg asv):=by
 refine .agg _ _ _ (by simp[hl]) (fun i v hv=>?_) (fun i v a hv ha=>?_)
 · obtain⟨hi,rfl⟩:=zoQ hv;exact(h i hi).1
 · obtain⟨hi,rfl⟩:=zoQ hv;obtain⟨_,a',h1,h2⟩:=h i hi;rw[h1] at ha;cases ha;exact h2
theorem zwF{v:Value}{a:AV}(h:VR w M noI v a)(ι:Inj):VR w M ι v a:=h.mono (fun _ _ hn=>⟨rfl,hn⟩) (fun _ _ _ _ h=>by cases h)
theorem RowOk.cell{Lt':Nat→Prop}{sz:Nat}{els:List (List AV)}{l:Loc}(ok:RowOk w Lt' ι sz els l)(hm:l.cap≤maxLen){i:Nat}(hi:i < els.length){j:Nat}(hj:j < sz):
  ∃v a,(els.getD i [])[j]? = some a∧w.cell? ⟨l.block,l.off+i * sz+j,none⟩=some v∧v.oneCell'=true∧VR w Lt' ι v a:=by
 have h1:els[i]? = some (els.getD i []):=by simp[Wl,Wd hi]
 have h2:=ok.wide i _ h1;have h3:(els.getD i [])[j]? = some ((els.getD i [])[j]'(by omega)):=Wd _;obtain⟨v,h4,h5,h6⟩:=ok.holds hm i _ j _ h1 h3;exact⟨v,_,h3,h4,h5,h6⟩
theorem zvP(l:List AV)(f n j:Nat)(h:j < n):(sub l f n)[j]? = l[f+j]? := by simp[sub,WE,h,WF]
theorem zoL(l:List AV)(f n:Nat)(h:f+n≤l.length):(sub l f n).length=n:=by simp[sub];omega
theorem zsM {t:TypeId} {d:TypeDesc} {i:TypeInfo} (hu:P.underlying t=some d) (hi:P.info? t=some i) (rel:RelH w L ι H nx) {pv:Value} {p:AV} (hp:VR w (Lt L ι H) ι pv p)
  {n:Nat} (hn:n=if zdy d then i.size else 1) (hs:(zfo (zdy d) n p H nx).side) :
  ∃v,(Instr.loadAt t pv).run P w=.ok v w∧VR w (Lt L ι H) ι v (zfo (zdy d) n p H nx).v∧(zfo (zdy d) n p H nx).H=H∧(zfo (zdy d) n p H nx).nx=nx∧(zfo (zdy d) n p H nx).fact:=by
 cases hp with
 |
  ptr _ r q g k f l hl hm =>
  cases hg:H.get r q with
  | none=>simp[zfo,hg,bad] at hs
  |
   some o =>
   cases o with
   | fam sz ins=>simp[zfo,hg,bad] at hs
   |
    row sz els g' =>
    simp only[zfo,hg] at hs ⊢;obtain⟨rfl,hk,hf⟩:=hs;obtain⟨l',hl',ok⟩:=rel.row r q sz els g hg;rw[hl] at hl';cases hl';have hsz:=ok.hsz;have hwide:=ok.wide k (els.getD k []) (by simp[Wl,Wd hk])
    cases hd:zdy d with
    |
     false =>
     simp only[hd,if_false,WS] at hn;subst hn;obtain⟨v,a,h1,h2,h3,h4⟩:=ok.cell hm hk (j:=f) (by omega);rw[←hsz] at h2
     have e:(els.getD k []).getD f .undef=a:=by rw[W5,h1];rfl
     simp only[cond_false,e];refine⟨v,?_,h4,trivial,trivial,h4.wf⟩;simp[Instr.loadAt,Instr.sureAddr,zlQ hu hd _ v h2]
    |
     true =>
     simp only[hd,if_true] at hn
     have hall:∀j,j < n→∃v,w.cell? ⟨l.block,l.off+k * sz+(f+j),none⟩=some v∧v.oneCell'=true∧∃a,(els.getD k [])[f+j]? = some a∧VR w (Lt L ι H) ι v a:=fun j hj=>by obtain⟨v,a,h1,h2,h3,h4⟩:=ok.cell hm hk (j:=f+j) (by omega);exact⟨v,h2,h3,a,h1,h4⟩
     obtain⟨V,hV⟩:=Go.Deep.choose_lt (α:=Value) hall
     have hv:VR w (Lt L ι H) ι (.agg ((Wj n).map V).toArray) (.agg (sub (els.getD k []) f n)) :=
      .aggOf V (zoL _ _ _ (by omega)) (fun j hj=>by
       obtain⟨h1,h2,a,h3,h4⟩:=hV j hj
       exact⟨h2,a,by rw[zvP _ _ _ _ hj];exact h3,h4⟩)
     have hrun:(Instr.loadAt t (.pointer (some ⟨l.block,l.off+k * l.sz+f,none⟩))).run P w=.ok (.agg ((Wj n).map V).toArray) w:=by simp only[Instr.loadAt,Instr.sureAddr,Sem.run_bind,Sem.run_pure,Result.andThen_ok];refine zlX hu hd hi _ _ (by simp[hn]) (fun j v hj=>?_);obtain⟨hj',rfl⟩:=znr hj;rw[add_mid,hsz,Ws];exact(hV j hj').1
     have e:(bif Wa f 0&&Wa n sz then els.getD k [] else sub (els.getD k []) f n)=sub (els.getD k []) f n:=by
      cases hb:Wa f 0&&Wa n sz with
      | false=>rfl
      |
       true =>
       simp only[WA] at hb;have h1:=zF hb.1;have h2:=zF hb.2;subst h1;subst h2;simp only[cond_true,sub,List.drop_zero];rw[List.take_of_length_le (by omega)]
     simp only[cond_true,e];exact⟨_,hrun,hv,trivial,trivial,hv.wf⟩
 |
  iptr _ a m c V hc hL hv =>
  simp only[zfo] at hs ⊢
  cases hd:zdy d with
  |
   false =>
   simp only[hd,if_false,WS] at hn;subst hn;have h0:=hc 0 (by omega);rw[add0] at h0;simp only[cond_false];have h4:=zwF (hv 0 (by omega)) ι;refine⟨V 0,?_,h4,trivial,trivial,h4.wf⟩;simp[Instr.loadAt,Instr.sureAddr,zlQ hu hd _ _ h0.1]
  |
   true =>
   simp only[hd,if_true] at hn
   have hv':VR w (Lt L ι H) ι (.agg ((Wj n).map V).toArray) (.agg (tab c n 0)) :=
    .aggOf V (zoJ _ _ _) (fun j hj=>⟨(hc j (by omega)).2,c j,by rw[zvZ,if_pos hj,Wp],zwF (hv j (by omega)) ι⟩)
   simp only[cond_true];refine⟨_,?_,hv',trivial,trivial,hv'.wf⟩;simp only[Instr.loadAt,Instr.sureAddr,Sem.run_bind,Sem.run_pure,Result.andThen_ok];refine zlX hu hd hi _ _ (by simp[hn]) (fun j v hj=>?_);obtain⟨hj',rfl⟩:=znr hj;exact(hc j (by omega)).1
 | _=>simp[zfo,bad] at hs
end
def zaT(P:Program)(w:World)(L:Nat→Prop)(ι:Inj)(H:AH)(nx:Nat)(s:Sem Value)(r:ORes):Prop :=
 ∃v,s.run P w=.ok v w∧VR w (Lt L ι H) ι v r.v∧r.H=H∧r.nx=nx∧r.fact
section
variable {P:Program} {w:World} {L:Nat→Prop} {ι:Inj} {H:AH} {nx:Nat} {M:Nat→Prop}
theorem zqn{t e:TypeId}{inf:TypeInfo}(hu:P.underlying t=some (.slice e))(hi:P.info? e=some inf)(a:Addr)(len cap:Nat)(k:IntKind)(i:Int)(h0:0≤i)(h1:i < len):
  (Instr.indexAt t (.slice (some a) len cap) (.int k i)).run P w=.ok (.pointer (some (a.add (i.toNat * inf.size)))) w:=by
 simp[Instr.indexAt,asIntOf,run_underlying hu,sizeOf,typeInfo,hi,h0,h1]
theorem zE8 {t e:TypeId} {inf:TypeInfo} (hu:P.underlying t=some (.slice e)) (hi:P.info? e=some inf) (hpos:0 < inf.size) (rel:RelH w L ι H nx) {xv iv:Value} {x i:AV} (hx:VR w (Lt L ι H) ι xv x) (hv:VR w (Lt L ι H) ι iv i)
  (hs:(idxR inf.size x i H nx).side):zaT P w L ι H nx (Instr.indexAt t xv iv) (idxR inf.size x i H nx):=by
 cases hx with
 |
  sl _ a sz n cap f V hn hb hc hL hvv =>
  cases hv with
  |
   int _ k j hj =>
   simp only[idxR] at hs ⊢;obtain⟨rfl,h0,h1⟩:=hs;refine⟨_,zqn hu hi a n cap k j h0 h1,?_,rfl,rfl,trivial⟩
   have hjn:j.toNat < n:=by omega
   refine .iptr _ _ _ _ (V j.toNat) (fun q hq=>hc _ _ hjn hq) (fun _=>by rw[zc1];exact hL (Wk (by omega) hpos)) (fun q hq=>hvv _ _ hjn hq)
  | _=>simp[idxR,bad] at hs
 |
  sl0 _ sz f =>
  cases hv with
  |
   int _ k j hj =>
   simp only[idxR] at hs;obtain⟨_,h0,h1⟩:=hs;exact absurd (Int.lt_of_le_of_lt h0 h1) (by simp)
  | _=>simp[idxR,bad] at hs
 |
  own _ r q g off n a c l hl hm hn hc ha =>
  cases hv with
  |
   int _ k j hj =>
   cases hg:H.get r q with
   | none=>simp[idxR,hg,bad] at hs
   |
    some o =>
    cases o with
    | fam sz ins=>simp[idxR,hg,bad] at hs
    |
     row sz els g' =>
     simp only[idxR,hg] at hs ⊢;obtain⟨rfl,rfl,h0,h1⟩:=hs;obtain⟨l',hl',ok⟩:=rel.row _ _ _ _ _ hg;rw[hl] at hl';cases hl';have hsz:=ok.hsz;rw[ha (by omega)];refine⟨_,zqn hu hi _ n c k j h0 h1,?_,rfl,rfl,trivial⟩;rw[add_mid,←hsz]
     have e:l.off+off * l.sz+j.toNat * l.sz=l.off+(off+j.toNat) * l.sz+0:=by rw[We];omega
     rw[e];exact .ptr _ r q g _ 0 l hl hm
  | _=>simp[idxR,bad] at hs
 | _=>cases i<;>simp[idxR,bad] at hs
theorem zqT{s:TypeId}{fs:Array Field}{fd:Field}{inf:TypeInfo}{f:Nat}(hu:P.underlying s=some (.struct fs))(hf:fs[f]? = some fd)(hi:P.info? fd.type=some inf)(hpos:0 < inf.size)(a:Addr):
  (Instr.fieldAt s (.pointer (some a)) f).run P w=.ok (.pointer (some (a.add fd.offset))) w:=by
 have:¬inf.size=0:=by omega
 simp[Instr.fieldAt,Instr.sureAddr,run_underlying hu,hf,fieldPlace,sizeOf,typeInfo,hi,this]
theorem zwG {s:TypeId} {fs:Array Field} {fd:Field} {inf:TypeInfo} {f:Nat} (hu:P.underlying s=some (.struct fs)) (hf:fs[f]? = some fd) (hi:P.info? fd.type=some inf) (hpos:0 < inf.size)
  {xv:Value} {x:AV} (hx:VR w (Lt L ι H) ι xv x) (hs:(zeg fd.offset inf.size x H nx).side):zaT P w L ι H nx (Instr.fieldAt s xv f) (zeg fd.offset inf.size x H nx):=by
 cases hx with
 |
  ptr _ r q g i k l hl hm =>
  simp only[zeg];refine⟨_,zqT hu hf hi hpos _,?_,rfl,rfl,trivial⟩;rw[add_mid,Ws];exact .ptr _ r q g i _ l hl hm
 |
  iptr _ a n c V hc hL hv =>
  simp only[zeg] at hs ⊢;refine⟨_,zqT hu hf hi hpos _,?_,rfl,rfl,trivial⟩;refine .iptr _ _ _ _ (fun j=>V (fd.offset+j)) (fun j hj=>?_) (fun _=>by rw[zc1];exact hL (by omega)) (fun j hj=>hv _ (by omega));rw[Go.Deep.add_add];exact hc _ (by omega)
 | _=>simp[zeg,bad] at hs
theorem ziT(cs:Array Value)(a b j:Nat)(h:j < b - a)(hb:b≤cs.size):(cs.extract a b)[j]? = cs[a+j]? := by rw[Array.getElem?_extract];simp[h];omega
theorem zBN {s:TypeId} {fs:Array Field} {fd:Field} {inf:TypeInfo} {d:TypeDesc} {f:Nat} (hu:P.underlying s=some (.struct fs)) (hf:fs[f]? = some fd) (hi:P.info? fd.type=some inf) (hd:P.underlying fd.type=some d)
  {xv:Value} {x:AV} (hx:VR w (Lt L ι H) ι xv x) {n:Nat} (hn:n=if zdy d then inf.size else 1) (hs:(fldR fd.offset n (zdy d) x H nx).side):zaT P w L ι H nx (Instr.field s xv f) (fldR fd.offset n (zdy d) x H nx):=by
 cases hx with
 |
  agg _ cs asv hsz h1 hv =>
  simp only[fldR] at hs ⊢
  cases hr:zdy d with
  |
   true =>
   simp only[hr,if_true] at hn;subst hn
   have hv':VR w (Lt L ι H) ι (.agg (cs.extract fd.offset (fd.offset+inf.size))) (.agg (sub asv fd.offset inf.size)):=by
    have hsize:(cs.extract fd.offset (fd.offset+inf.size)).size=inf.size:=by simp;omega
    refine .agg _ _ _ (by rw[hsize,zoL _ _ _ hs]) (fun i v hi'=>?_) (fun i v a hi' ha=>?_)
    ·
     have hlt:i < inf.size:=by rw[←hsize];exact(W6.1 hi').1
     rw[ziT _ _ _ _ (by omega) (by omega)] at hi';exact h1 _ _ hi'
    ·
     have hlt:i < inf.size:=by rw[←hsize];exact(W6.1 hi').1
     rw[ziT _ _ _ _ (by omega) (by omega)] at hi';rw[zvP _ _ _ _ hlt] at ha;exact hv _ _ _ hi' ha
   simp only[cond_true];refine⟨_,?_,hv',rfl,rfl,hv'.wf⟩;simp[Instr.field,run_underlying hu,hf,asAgg,part,zgb hd,hr,sizeOf,typeInfo,hi]
  |
   false =>
   simp only[hr,if_false,WS] at hn;subst hn
   have hlt:fd.offset < cs.size:=by omega
   have h2:cs[fd.offset]? = some cs[fd.offset]:=Wg hlt
   have h3:asv[fd.offset]? = some (asv.getD fd.offset .undef):=by simp[Wl,Wd (show fd.offset < asv.length by omega)]
   have hv':=hv _ _ _ h2 h3;simp only[cond_false];refine⟨_,?_,hv',rfl,rfl,hv'.wf⟩;simp[Instr.field,run_underlying hu,hf,asAgg,part,zgb hd,hr,h2]
 | _=>simp[fldR,bad] at hs
theorem zkr{t e ty:TypeId}(hu:P.underlying t=some (.slice e))(a:Option Addr)(n c:Nat):(Builtin.len_ #[t] ty #[.slice a n c]).run P w=.ok (.int .i64 n) w:=by simp[Builtin.len_,run_underlying hu,goInt]
theorem zEQ{t e ty:TypeId}{xv:Value}{x:AV}(hu:P.underlying t=some (.slice e))(hx:VR w (Lt L ι H) ι xv x)(hs:(lenR x H nx).side):zaT P w L ι H nx (Builtin.len_ #[t] ty #[xv]) (lenR x H nx):=by
 cases hx with
 | sl _ a sz n cap f V hn hb hc hL hv=>exact⟨_,zkr hu _ _ _,.int _ _ _ (zhr (by omega) (by unfold big at hb;omega)),rfl,rfl,hb⟩
 | sl0 _ sz f=>exact⟨_,zkr hu _ _ _,.int _ _ _ (zhr (by omega) (by omega)),rfl,rfl,Wr _⟩
 |
  own _ r q g off n a c l hl hm hn hc ha =>
  have hb:n≤9223372036854775807:=by unfold maxLen at hm;omega
  exact⟨_,zkr hu _ _ _,.int _ _ _ (zhr (by omega) (by omega)),rfl,rfl,hb⟩
 | nilsl _=>exact⟨_,zkr hu _ _ _,.int _ _ _ (zhr (by omega) (by omega)),rfl,rfl,trivial⟩
 | cut _ a=>exact⟨_,zkr hu _ _ _,.int _ _ _ (zhr (by omega) (by omega)),rfl,rfl,trivial⟩
 | _=>simp[lenR,bad] at hs
theorem zB0{t ty:TypeId}{xv:Value}{x:AV}(hu:P.underlying t=some .string)(hx:VR w (Lt L ι H) ι xv x)(hs:(zrD x H nx).side):zaT P w L ι H nx (Builtin.len_ #[t] ty #[xv]) (zrD x H nx):=by
 cases hx with
 |
  str _ s hb =>
  refine⟨.int .i64 s.size,?_,.int _ _ _ (zhr (by omega) (by unfold big at hb;omega)),rfl,rfl,hb⟩;simp[Builtin.len_,run_underlying hu,goInt]
 | _=>simp[zrD,bad] at hs
theorem zDa{k:IntKind}{a b:Int}(ha:InR k a)(hb:b≠0):InR k (a.tmod b):=by
 have h1:0≤a→0≤a.tmod b:=fun h=>Int.tmod_nonneg b h
 have h2:(a.tmod b).natAbs≤a.natAbs:=by rw[Int.natAbs_tmod];exact Nat.mod_le _ _
 have h3:a≤0→a.tmod b≤0:=fun h=>by have:=Int.tmod_nonneg (a := -a) b (by omega);rw[Int.neg_tmod] at this;omega
 have h4:=h1;generalize a.tmod b=e at *;unfold InR at *
 cases k<;>simp[IntKind.min,IntKind.max,IntKind.signed,IntKind.bits] at ha ⊢<;>omega
theorem zBR{k:IntKind}{a:Int}{n:Nat}(ha:InR k a):InR k (a.fdiv (2 ^ n)):=by
 have hp:(0:Int) < 2 ^ n:=Int.pow_pos (by omega);have h1:a.fdiv (2 ^ n)=a / 2 ^ n:=Int.fdiv_eq_ediv_of_nonneg _ (by omega);rw[h1]
 have h2:0≤a→a / 2 ^ n≤a:=fun h=>Int.ediv_le_self _ h
 have h3:0≤a→0≤a / 2 ^ n:=fun h=>Int.ediv_nonneg h (by omega)
 have h4:a < 0→a≤a / 2 ^ n:=fun h=>by rw[Int.le_ediv_iff_mul_le hp];have:a * 2 ^ n≤a * 1:=Int.mul_le_mul_of_nonpos_left (by omega) (by omega);omega
 have h5:a < 0→a / 2 ^ n < 0:=fun h=>Int.ediv_neg_of_neg_of_pos h hp
 unfold InR at *
 cases k<;>simp[IntKind.min,IntKind.max,IntKind.signed,IntKind.bits] at *<;>omega
theorem zEW{t:TypeId}{op:BinOp}{x y:Operand}{xv yv:Value}{a b:AV}(hx:VR w (Lt L ι H) ι xv a)(hy:VR w (Lt L ι H) ι yv b)(hs:(binI op a b H nx).side):
  zaT P w L ι H nx (do eqGuard op t x y xv yv;binOp op t xv yv) (binI op a b H nx):=by
 cases hx with
 |
  int _ k m hm =>
  cases hy with
  |
   int _ k' n hn =>
   have hguard:∀w:World,(eqGuard op t x y (.int k m) (.int k' n)).run P w=.ok () w:=fun w=>by cases op<;>simp[eqGuard]
   cases op
   case add=>simp only[binI] at hs ⊢;subst hs;exact⟨_,by simp[Sem.run_bind,hguard,binOp,Op.intArith],.int _ _ _ (zfU _ _),rfl,rfl,trivial⟩
   case sub=>simp only[binI] at hs ⊢;subst hs;exact⟨_,by simp[Sem.run_bind,hguard,binOp,Op.intArith],.int _ _ _ (zfU _ _),rfl,rfl,trivial⟩
   case mul=>simp only[binI] at hs ⊢;subst hs;exact⟨_,by simp[Sem.run_bind,hguard,binOp,Op.intArith],.int _ _ _ (zfU _ _),rfl,rfl,trivial⟩
   case quo=>simp only[binI] at hs ⊢;obtain⟨rfl,h0⟩:=hs;exact⟨_,by simp[Sem.run_bind,hguard,binOp,Op.intDiv,h0],.int _ _ _ (zfU _ _),rfl,rfl,trivial⟩
   case rem=>simp only[binI] at hs ⊢;obtain⟨rfl,h0⟩:=hs;exact⟨_,by simp[Sem.run_bind,hguard,binOp,Op.intDiv,h0],.int _ _ _ (zDa hm h0),rfl,rfl,trivial⟩
   case and=>simp only[binI] at hs ⊢;subst hs;exact⟨_,by simp[Sem.run_bind,hguard,binOp,Op.intBits],.int _ _ _ (zfU _ _),rfl,rfl,trivial⟩
   case or=>simp only[binI] at hs ⊢;subst hs;exact⟨_,by simp[Sem.run_bind,hguard,binOp,Op.intBits],.int _ _ _ (zfU _ _),rfl,rfl,trivial⟩
   case xor=>simp only[binI] at hs ⊢;subst hs;exact⟨_,by simp[Sem.run_bind,hguard,binOp,Op.intBits],.int _ _ _ (zfU _ _),rfl,rfl,trivial⟩
   case andNot=>simp only[binI] at hs ⊢;subst hs;exact⟨_,by simp[Sem.run_bind,hguard,binOp,Op.intBits],.int _ _ _ (zfU _ _),rfl,rfl,trivial⟩
   case shl =>
         simp only[binI] at hs ⊢;have h0:¬n < 0:=by omega
         exact⟨_,by simp[Sem.run_bind,hguard,binOp,Op.shift,h0],.int _ _ _ (zfU _ _),rfl,rfl,trivial⟩
   case shr =>
         simp only[binI] at hs ⊢;have h0:¬n < 0:=by omega
         exact⟨_,by simp[Sem.run_bind,hguard,binOp,Op.shift,h0],.int _ _ _ (zBR hm),rfl,rfl,trivial⟩
   case eql=>simp only[binI] at hs ⊢;subst hs;exact⟨_,by simp[Sem.run_bind,hguard,binOp,Op.intCmp],(show VR w _ ι (.bool (m == n)) _ from by rw[show (m == n)=decide (m=n) from rfl];exact .bool _ _),rfl,rfl,trivial⟩
   case neq=>simp only[binI] at hs ⊢;subst hs;exact⟨_,by simp[Sem.run_bind,hguard,binOp,Op.intCmp],(show VR w _ ι (.bool (m != n)) _ from by rw[show (m != n)=decide (m≠n) from by simp[bne,BEq.beq]];exact .bool _ _),rfl,rfl,trivial⟩
   case lss=>simp only[binI] at hs ⊢;subst hs;exact⟨_,by simp[Sem.run_bind,hguard,binOp,Op.intCmp],.bool _ _,rfl,rfl,trivial⟩
   case leq=>simp only[binI] at hs ⊢;subst hs;exact⟨_,by simp[Sem.run_bind,hguard,binOp,Op.intCmp],.bool _ _,rfl,rfl,trivial⟩
   case gtr=>simp only[binI] at hs ⊢;subst hs;exact⟨_,by simp[Sem.run_bind,hguard,binOp,Op.intCmp],.bool _ _,rfl,rfl,trivial⟩
   case geq=>simp only[binI] at hs ⊢;subst hs;exact⟨_,by simp[Sem.run_bind,hguard,binOp,Op.intCmp],.bool _ _,rfl,rfl,trivial⟩
  | _=>simp[binI,bad] at hs
 | _=>cases b<;>simp[binI,bad] at hs
theorem zmT{t:TypeId}(hu:P.underlying t=some .bool)(m n:Bool)(w:World):(Op.equal t (.bool m) (.bool n)).run P w=.ok (m == n) w:=by
 have key:∀d:Nat,(Op.equalIn (d+1) t (.bool m) (.bool n)).run P w=.ok (m == n) w:=fun d=>by simp[Op.equalIn,run_underlying hu]
 exact key 9999
theorem zD1{t:TypeId}{neg:Bool}{x y:Operand}{xv yv:Value}{a b:AV}(hu:P.underlying t=some .bool)(hx:VR w (Lt L ι H) ι xv a)(hy:VR w (Lt L ι H) ι yv b)(hs:(eqB neg a b H nx).side):
  zaT P w L ι H nx (do eqGuard (bif neg then .neq else .eql) t x y xv yv;binOp (bif neg then .neq else .eql) t xv yv) (eqB neg a b H nx):=by
 cases hx with
 |
  bool _ m =>
  cases hy with
  |
   bool _ n =>
   simp only[eqB];cases neg
   · refine⟨.bool (m == n),?_,.bool _ _,rfl,rfl,trivial⟩;simp[Sem.run_bind,eqGuard,binOp,zmT hu]
   · refine⟨.bool (m != n),?_,.bool _ _,rfl,rfl,trivial⟩;simp[Sem.run_bind,eqGuard,binOp,zmT hu,bne]
  | _=>simp[eqB,bad] at hs
 | _=>cases b<;>simp[eqB,bad] at hs
theorem unR_ok{op:UnOp}{xv:Value}{x:AV}(hx:VR w (Lt L ι H) ι xv x)(hs:(unR op x H nx).side):zaT P w L ι H nx (Op.unary op xv) (unR op x H nx):=by
 cases hx with
 |
  bool _ b =>
  cases op<;>simp[unR,bad] at hs ⊢
  exact⟨_,by simp[Op.unary],.bool _ _,rfl,rfl,trivial⟩
 |
  int _ k n hn =>
  cases op<;>simp[unR,bad] at hs ⊢
  exact⟨_,by simp[Op.unary,Op.intArith],.int _ _ _ (zfU _ _),rfl,rfl,trivial⟩
 | _=>cases op<;>simp[unR,bad] at hs
theorem zBU{s d:TypeId}{k' k:IntKind}{xv:Value}{x:AV}(hs1:P.underlying s=some (.int k'))(hd:P.underlying d=some (.int k))(hx:VR w (Lt L ι H) ι xv x)(hs:(zqa k x H nx).side):
  zaT P w L ι H nx (convert s d xv) (zqa k x H nx):=by
 cases hx with
 | int _ j n hn=>exact⟨_,by simp[convert,run_underlying hs1,run_underlying hd,Conv.intToInt],.int _ _ _ (zfU _ _),rfl,rfl,trivial⟩
 | _=>simp[zqa,bad] at hs
theorem zCC{cv av bv:Value}{c a b:AV}(hc:VR w (Lt L ι H) ι cv c)(ha:VR w (Lt L ι H) ι av a)(hb:VR w (Lt L ι H) ι bv b)(hs:(zpR c a b H nx).side):
  zaT P w L ι H nx (do pure (if ←asBool cv then av else bv)) (zpR c a b H nx):=by
 cases hc with
 |
  bool _ t =>
  simp only[zpR];cases t
  · exact⟨bv,by simp[asBool],hb,rfl,rfl,trivial⟩
  · exact⟨av,by simp[asBool],ha,rfl,rfl,trivial⟩
 | _=>simp[zpR,bad] at hs
theorem zFg{i:Nat}{xv:Value}{x:AV}(hx:VR w (Lt L ι H) ι xv x)(hs:(extR i x H nx).side):zaT P w L ι H nx (Instr.extract xv i) (extR i x H nx):=by
 cases hx with
 |
  tup _ cs asv hsz hv =>
  simp only[extR] at hs ⊢;have h2:cs[i]? = some (cs[i]'(by omega)):=Wg (by omega)
  have h3:asv[i]? = some (asv.getD i .undef):=by simp[Wl,Wd hs]
  exact⟨_,by simp[Instr.extract,h2],hv _ _ _ h2 h3,rfl,rfl,trivial⟩
 | _=>simp[extR,bad] at hs
end
section
variable {P:Program} {w:World} {L:Nat→Prop} {ι:Inj} {H:AH} {nx:Nat} {M:Nat→Prop}
theorem zud(off:Nat):∀(vs:List Value)(j0:Nat)(cs:Array Value),off+j0+vs.length≤cs.size →
  ((vs.zipIdx j0).foldl (fun cs (p:Value × Nat)=>cs.setIfInBounds (off+p.2) p.1) cs).size=cs.size ∧
  ∀k,((vs.zipIdx j0).foldl (fun cs (p:Value × Nat)=>cs.setIfInBounds (off+p.2) p.1) cs)[k]? = if off+j0≤k∧k < off+j0+vs.length then vs[k - (off+j0)]? else cs[k]?
 | [],j0,cs,_=>⟨rfl,fun k=>by rw[if_neg (by simp only[List.length_nil];omega)];rfl⟩
 |
  v::vs,j0,cs,h=>by
  simp only[List.zipIdx_cons,List.foldl_cons];obtain⟨h1,h2⟩:=zud off vs (j0+1) (cs.setIfInBounds (off+j0) v) (by simp at h ⊢;omega);refine⟨by rw[h1];simp,fun k=>?_⟩;rw[h2 k];simp only[List.length_cons] at h ⊢
  by_cases hk:off+(j0+1)≤k∧k < off+(j0+1)+vs.length
  · rw[if_pos hk,if_pos (by omega),show k - (off+j0)=(k - (off+(j0+1)))+1 by omega,W3]
  ·
   rw[if_neg hk]
   by_cases hk0:k=off+j0
   ·
    subst hk0;rw[if_pos (by omega)];simp[W7]
    try omega
   · rw[if_neg (by omega)];simp[W7,Ne.symm hk0]
theorem zwU(off:Nat)(vs:Array Value)(cs:Array Value)(h:off+vs.size≤cs.size):
  (vs.zipIdx.foldl (fun cs (p:Value × Nat)=>cs.setIfInBounds (off+p.2) p.1) cs).size=cs.size ∧
  ∀k,(vs.zipIdx.foldl (fun cs (p:Value × Nat)=>cs.setIfInBounds (off+p.2) p.1) cs)[k]? = if off≤k∧k < off+vs.size then vs[k - off]? else cs[k]? := by
 have:=zud off vs.toList 0 cs (by simpa using h);rw[←Array.foldl_toList,Array.toList_zipIdx]
 simpa using this
structure CR(w:World)(M:Nat→Prop)(ι:Inj)(cs:Array Value)(asv:List AV):Prop where
 size:cs.size=asv.length
 one:∀(i:Nat)(v:Value),cs[i]? = some v→v.oneCell'=true
 rel:∀(i:Nat)(v:Value)(a:AV),cs[i]? = some v→asv[i]? = some a→VR w M ι v a
theorem CR.agg{cs:Array Value}{asv:List AV}(h:CR w M ι cs asv):VR w M ι (.agg cs) (.agg asv):=.agg _ _ _ h.size h.one h.rel
theorem VR.cr{v:Value}{a:AV}(h:VR w M ι v a)(hs:a.solid=true):CR w M ι v.cells a.cells:=let ⟨h1,h2,h3⟩:=h.cells hs;⟨h1,h2,h3⟩
theorem zkO(l:List AV)(f:Nat)(vs:List AV)(h:f+vs.length≤l.length):(splice l f vs).length=l.length:=by simp[splice];omega
theorem zsy(l:List AV)(f:Nat)(vs:List AV)(h:f+vs.length≤l.length)(k:Nat):(splice l f vs)[k]? = if f≤k∧k < f+vs.length then vs[k - f]? else l[k]? := by
 unfold splice
 have hl:(l.take f).length=f:=by simp;omega
 by_cases h1:k < f
 · rw[if_neg (by omega),WG,WB (by omega),WE,if_pos h1]
 ·
  by_cases h2:k < f+vs.length
  · rw[if_pos ⟨by omega,h2⟩,WG,WC (by omega),hl,WB (by omega)]
  ·
   rw[if_neg (by omega),WC (by simp;omega),WF]
   congr 1
   simp;omega
theorem CR.splice{cs:Array Value}{asv:List AV}(h:CR w M ι cs asv){vs:Array Value}{bs:List AV}(hv:CR w M ι vs bs){off:Nat}(hf:off+bs.length≤asv.length):
  CR w M ι (vs.zipIdx.foldl (fun cs (p:Value × Nat)=>cs.setIfInBounds (off+p.2) p.1) cs) (Ab.splice asv off bs):=by
 obtain⟨h1,h2⟩:=zwU off vs cs (by rw[hv.size,h.size];exact hf);refine⟨by rw[h1,zkO _ _ _ hf,h.size],fun i v hi=>?_,fun i v a hi ha=>?_⟩
 ·
  rw[h2] at hi;split at hi
  · exact hv.one _ _ hi
  · exact h.one _ _ hi
 ·
  rw[h2] at hi;rw[zsy _ _ _ hf] at ha;rw[hv.size] at hi;split at hi
  · rename_i hc;rw[if_pos hc] at ha;exact hv.rel _ _ _ hi ha
  · rename_i hc;rw[if_neg hc] at ha;exact h.rel _ _ _ hi ha
inductive PL(w:World)(M:Nat→Prop)(ι:Inj)(place:Nat→Option (Nat × Nat)):List (Nat × Value)→List (Nat × Nat × AV)→Prop where
 | nil:PL w M ι place [] []
 | cons {i v off size a ps qs} (hp:place i=some (off,size)) (hv:VR w M ι v a) (h:PL w M ι place ps qs):PL w M ι place ((i,v)::ps) ((off,size,a)::qs)
theorem zzR{place:Nat→Option (Nat × Nat)}{ps:List (Nat × Value)}{qs:List (Nat × Nat × AV)}(h:PL w M ι place ps qs):
  ∀{cs:Array Value}{asv:List AV},CR w M ι cs asv→zst asv.length qs→∃cs',Instr.fill place cs ps=some cs'∧CR w M ι cs' (zyH asv qs):=by
 induction h with
 | nil=>intro cs asv hc _;exact⟨cs,rfl,hc⟩
 |
  cons hp hv h ih =>
  intro cs asv hc hf;rename_i i v off size a ps qs;obtain⟨⟨h1,h2,h3⟩,h4⟩:=hf;have hcr:=hv.cr h1
  have hsz:v.cells.size=size:=by rw[hcr.size,h2]
  have hnew:=hc.splice hcr (off:=off) (by rw[h2];exact h3);obtain⟨cs',h5,h6⟩:=ih hnew (by rw[zkO _ _ _ (by rw[h2];exact h3)];exact h4);refine⟨cs',?_,h6⟩
  have hle:¬(off+v.cells.size > cs.size):=by rw[hsz,hc.size];omega
  simp only[Instr.fill,hp];rw[if_neg (by simp[hsz];rw[hc.size];omega)];exact h5
theorem zg0{t:TypeId}{z:List AV}(h:zhq P t=some z):∃i zv,P.info? t=some i∧i.zero=some zv∧zv.cells.size=i.size∧z.length=i.size∧∀(w:World) M ι,CR w M ι zv.cells z:=by
 unfold zhq at h;split at h
 ·
  rename_i i hi;split at h
  ·
   rename_i zv hz;split at h
   ·
    rename_i hc;have hlen:=zjA.mapM_len _ _ _ h
    have hlen':z.length=zv.cells.size:=by simpa using hlen
    refine⟨i,zv,hi,hz,hc.1,by rw[hlen',hc.1],fun w M ι=>⟨hlen'.symm,fun k v hv=>?_,fun k v a hv ha=>?_⟩⟩
    · exact(WZ.1 hc.2) v (W0 hv)
    · exact zjA 1 v a (zjA.mapM_get _ _ _ h k v a (by simpa using hv) ha)
   · cases h
  · cases h
 · cases h
structure FR(w:World)(M:Nat→Prop)(ι:Inj)(sz:Nat)(cs:Array Value)(els:List (List AV)):Prop where
 size:cs.size=els.length * sz
 wide:∀(i:Nat)(c:List AV),els[i]? = some c→c.length=sz
 rel:∀(i:Nat)(c:List AV)(j:Nat)(a:AV),els[i]? = some c→c[j]? = some a→∃v,cs[i * sz+j]? = some v∧v.oneCell'=true∧VR w M ι v a
theorem zy9{i n j sz:Nat}(hi:i < n)(hj:j < sz):i * sz+j < n * sz:=by have:(i+1) * sz≤n * sz:=Wi _ hi;rw[We] at this;omega
theorem FR.zeros{sz n:Nat}{zs:Array Value}{z:List AV}(h:CR w M ι zs z)(hz:z.length=sz)(hpos:0 < sz):
  FR w M ι sz ((Wt (n * sz)).map fun i=>zs[i % zs.size]!) (Wh n z):=by
 refine⟨by simp,fun i c hi=>?_,fun i c j a hi ha=>?_⟩
 ·
  rw[Wu] at hi;split at hi
  · cases hi;exact hz
  · cases hi
 ·
  rw[Wu] at hi;split at hi
  ·
   rename_i hin;cases hi;have hj:j < z.length:=(Wf.1 ha).1
   have hjz:j < zs.size:=by rw[h.size];exact hj
   have hlt:i * sz+j < n * sz:=zy9 hin (by omega)
   have hmod:(i * sz+j) % zs.size=j:=by rw[h.size,hz,Wv,Nat.mul_add_mod];exact W8 (by omega)
   refine⟨zs[j],?_,h.one j _ (Wg hjz),h.rel j _ a (Wg hjz) ha⟩;rw[Array.getElem?_map,Array.getElem?_range,if_pos hlt];simp only[Option.map_some,hmod];rw[getElem!_pos zs j hjz]
  · cases hi
theorem FR.set{sz:Nat}{cs:Array Value}{els:List (List AV)}(h:FR w M ι sz cs els){vs:Array Value}{bs:List AV}(hv:CR w M ι vs bs)(hb:bs.length=sz){i:Nat}(hi:i < els.length):
  FR w M ι sz (vs.zipIdx.foldl (fun cs (p:Value × Nat)=>cs.setIfInBounds (i * sz+p.2) p.1) cs) (els.set i bs):=by
 have hle:(i+1) * sz≤els.length * sz:=Wi _ hi;rw[We] at hle
 have hvs:vs.size=sz:=by rw[hv.size,hb]
 obtain⟨h1,h2⟩:=zwU (i * sz) vs cs (by rw[hvs,h.size];omega);refine⟨by rw[h1,h.size];simp,fun k c hk=>?_,fun k c j a hk ha=>?_⟩
 ·
  rw[Ww] at hk;split at hk
  · cases hk;exact hb
  · exact h.wide _ _ hk
 ·
  rw[Ww] at hk;split at hk
  ·
   rename_i hik;subst hik;cases hk;have hj:j < bs.length:=(Wf.1 ha).1
   have hjv:j < vs.size:=by rw[hv.size];exact hj
   refine⟨vs[j],?_,hv.one j _ (Wg hjv),hv.rel j _ a (Wg hjv) ha⟩;rw[h2,if_pos ⟨by omega,by omega⟩,show i * sz+j - i * sz=j by omega];exact Wg hjv
  ·
   rename_i hik;obtain⟨v,h3,h4,h5⟩:=h.rel k c j a hk ha;refine⟨v,?_,h4,h5⟩
   have hj:j < sz:=by rw[←h.wide k c hk];exact(Wf.1 ha).1
   rw[h2,if_neg,h3];rintro⟨h6,h7⟩;rw[hvs] at h7
   rcases W9 hik with hlt|hgt
   · have:(i+1) * sz≤k * sz:=Wi _ hlt;rw[We] at this;omega
   · have:(k+1) * sz≤i * sz:=Wi _ hgt;rw[We] at this;omega
inductive EL(w:World)(M:Nat→Prop)(ι:Inj):List (Nat × Value)→List (Nat × AV)→Prop where
 | nil:EL w M ι [] []
 | cons {i v a ps qs} (hv:VR w M ι v a) (h:EL w M ι ps qs):EL w M ι ((i,v)::ps) ((i,a)::qs)
theorem zh3:∀(ps:List (Nat × AV)) (els:List (List AV)),(zfe els ps).length=els.length
 | [],_=>rfl
 | (i,v)::r,els=>by simp[zfe,zh3 r]
theorem zyc{sz:Nat}{ps:List (Nat × Value)}{qs:List (Nat × AV)}(h:EL w M ι ps qs):
  ∀ {cs:Array Value} {els:List (List AV)},FR w M ι sz cs els→ztu els.length sz qs→∃cs',Instr.fill (fun i=>some (i * sz,sz)) cs ps=some cs'∧FR w M ι sz cs' (zfe els qs):=by
 induction h with
 | nil=>intro cs els hc _;exact⟨cs,rfl,hc⟩
 |
  cons hv h ih =>
  intro cs els hc hf;rename_i i v a ps qs;obtain⟨⟨h1,h2,h3⟩,h4⟩:=hf;have hcr:=hv.cr h1
  have hsz:v.cells.size=sz:=by rw[hcr.size,h2]
  have hle:(i+1) * sz≤els.length * sz:=Wi _ h3;rw[We] at hle;obtain⟨cs',h5,h6⟩:=ih (hc.set hcr h2 h3) (by simpa using h4);refine⟨cs',?_,h6⟩;simp only[Instr.fill];rw[if_neg (by simp[hsz];rw[hc.size];omega)];exact h5
end
def zgi(P:Program)(w:World)(L:Nat→Prop)(ι:Inj)(H:AH)(nx:Nat)(s:Sem Value)(r:ORes):Prop :=
 ∃v w' ι',s.run P w=.ok v w'∧Step w L ι H nx w' ι' r.H r.nx∧VR w' (Lt L ι' r.H) ι' v r.v∧r.fact
section
variable {P:Program} {w:World} {L:Nat→Prop} {ι:Inj} {H:AH} {nx:Nat} {M:Nat→Prop}
theorem zzF {t:TypeId} {fs:Array Field} {z:List AV} {parts:Array (Nat × Value)} {qs:List (Nat × Nat × AV)} {places:Array (Nat × Nat)} (hu:P.underlying t=some (.struct fs)) (hz:zhq P t=some z)
  (hpl:∀w:World,(fs.mapM fun(f:Field)=>do pure (f.offset,←sizeOf f.type)).run P w=.ok places w)
  (hps:PL w (Lt L ι H) ι (fun i=>places[i]?) parts.toList qs) (hs:(zli z qs H nx).side):zaT P w L ι H nx (Instr.build t parts) (zli z qs H nx):=by
 obtain⟨i,zv,hi,hzv,hsz,hzl,hcr⟩:=zg0 hz;obtain⟨cs',h1,h2⟩:=zzR hps (hcr w (Lt L ι H) ι) hs;refine⟨.agg cs',?_,h2.agg,rfl,rfl,trivial⟩;simp only[Instr.build,zeroValue,typeInfo,Sem.run_bind,run_program,Result.andThen_ok,hi,Sem.run_pure,hzv,run_underlying hu,hpl,h1]
theorem zdi(e:TypeId)(cs:Array Value)(w:World):(newRow e cs).run P w=.ok ⟨w.heap.size,0,none⟩ (w.alloc (.cells cs e)):=by simp[newRow,Sem.run_bind]
theorem Step.new(rel:RelH w L ι H nx){sz:Nat}{cs:Array Value}{els:List (List AV)}(e:TypeId)(h:FR w (Lt L ι H) ι sz cs els)(hm:els.length≤maxLen):
  Step w L ι H nx (w.alloc (.cells cs e)) (ι.put nx 0 0 ⟨w.heap.size,0,els.length,sz⟩) (H.set nx 0 (.row sz els 0)) (nx+1) :=
 .alloc rel cs e sz els els.length (Wc _) hm h.size h.wide h.rel
theorem zFe{e:TypeId}{xv:Value}{x:AV}(rel:RelH w L ι H nx)(hx:VR w (Lt L ι H) ι xv x)(hs:(boxR x H nx).side):zgi P w L ι H nx (Instr.box e xv) (boxR x H nx):=by
 have hcr:=hx.cr hs
 have hfr:FR w (Lt L ι H) ι x.cells.length xv.cells [x.cells]:=by
  refine⟨by simp[hcr.size],fun i c hi=>?_,fun i c j a hi ha=>?_⟩
  ·
   cases i with
   | zero=>simp at hi;rw[←hi]
   | succ i=>simp at hi
  ·
   cases i with
   |
    zero =>
    simp at hi;subst hi
    have hj:j < xv.cells.size:=by rw[hcr.size];exact(Wf.1 ha).1
    refine⟨xv.cells[j],?_,hcr.one j _ (Wg hj),hcr.rel j _ a (Wg hj) ha⟩;rw[WH,Wp];exact Wg hj
   | succ i=>simp at hi
 have hst:=Step.new rel e hfr (by simp[maxLen]);refine⟨.pointer (some ⟨w.heap.size,0,none⟩),_,_,?_,hst,?_,trivial⟩
 · simp[Instr.box,newVar,Sem.run_bind,zdi]
 · have:=VR.ptr (w:=w.alloc (.cells xv.cells e)) (L:=Lt L (ι.put nx 0 0 ⟨w.heap.size,0,1,x.cells.length⟩) (H.set nx 0 (.row x.cells.length [x.cells] 0))) (ι.put nx 0 0 ⟨w.heap.size,0,1,x.cells.length⟩) nx 0 0 0 0 _ (Inj.put_same _ _ _ _ _) (by simp[maxLen]);simp at this;exact this
theorem RelH.grow{w':World}(rel:RelH w L ι H nx)(hs:w.heap.size≤w'.heap.size)(hb:∀b,b < w.heap.size→w'.heap[b]? = w.heap[b]?):RelH w' L ι H nx:=by refine⟨fun r q sz els g h=>?_,rel.apart,rel.out,rel.idx,rel.dom,rel.gen,fun b hL=>Wy (rel.Lsz b hL) hs⟩;obtain⟨l,h1,ok⟩:=rel.row r q sz els g h;exact⟨l,h1,ok.trans (fun hp=>hb l.block (ok.blk_lt hp)) (fun v a hv=>hv.mono (fun b hb' hn=>⟨hb b hb',hn⟩) (fun _ _ _ _ h=>h))⟩
theorem zuu{ι:Inj}{v:Value}{a:AV}(ha:a.flat0=true)(h:VR w M ι v a):VR w M noI v a:=by
 cases h<;>first | (cases ha;done) | (constructor<;>assumption)
theorem zcU:∀{l:List AV},zH l=true→∀{i:Nat}{a:AV},l[i]? = some a→a.flat0=true
 | [],_,i,a,h=>by cases h
 |
  v::r,h,i,a,hi=>by
  simp only[zH,WA] at h
  cases i with
  | zero=>cases hi;exact h.1
  | succ i=>exact zcU h.2 (by simpa using hi)
theorem zCa{e:TypeId}{xv:Value}{x:AV}(rel:RelH w L ι H nx)(hx:VR w (Lt L ι H) ι xv x)(hs:(zrt x H nx).side):zgi P w L ι H nx (Instr.box e xv) (zrt x H nx):=by
 have hcr:=hx.cr hs.1
 have hold:∀b,b < w.heap.size→(w.alloc (.cells xv.cells e)).heap[b]? = w.heap[b]? := fun b hb=>Below.heap_alloc w _ b hb
 have hsz:w.heap.size≤(w.alloc (.cells xv.cells e)).heap.size:=by simp
 refine⟨.pointer (some ⟨w.heap.size,0,none⟩),w.alloc (.cells xv.cells e),ι,by simp[Instr.box,newVar,Sem.run_bind,zdi],⟨⟨rfl,rfl,rfl,hsz,fun b hb _=>hold b hb⟩,fun _ _ _ _ h=>h,rel.grow hsz hold,fun b hb=>.inl hb⟩,?_,trivial⟩;refine .iptr _ _ _ _ (fun j=>(xv.cells.getD j undef)) (fun j hj=>?_) (fun _ hL=>?_) (fun j hj=>?_)
 ·
  have hj':j < xv.cells.size:=by rw[hcr.size];exact hj
  have e1:(Addr.add ⟨w.heap.size,0,none⟩ j)=⟨w.heap.size,j,none⟩:=by
   unfold Addr.add
   split<;>simp
  rw[e1];have:=hcr.one j _ (Wg hj');rw[show xv.cells.getD j undef=xv.cells[j] by simp[Array.getD,hj']];refine⟨?_,this⟩;rw[World.cell?_alloc_new];simp[hj']
 ·
  rcases hL with hL|hL
  · exact absurd (rel.Lsz _ hL) (Wz _)
  · exact absurd (rel.live_lt hL) (Wz _)
 ·
  have hj':j < xv.cells.size:=by rw[hcr.size];exact hj
  have ha:x.cells[j]? = some x.cells[j]:=Wd hj;have hr:=hcr.rel j _ _ (Wg hj') ha;rw[show xv.cells.getD j undef=xv.cells[j] by simp[Array.getD,hj'],show x.cells.getD j .undef=x.cells[j] by simp[Wl,ha]];exact(zuu (zcU hs.2 ha) hr).mono (fun b hb hn=>⟨hold b hb,hn⟩) (fun _ _ _ _ h=>h)
theorem zAB{e:TypeId}{z:List AV}(rel:RelH w L ι H nx)(hz:zhq P e=some z):zgi P w L ι H nx (Instr.alloc e true (.tuple #[])) (zn5 z H nx):=by
 obtain⟨i,zv,hi,hzv,hsz,hzl,hcr⟩:=zg0 hz;have hcr':=hcr w (Lt L ι H) ι
 have hfr:FR w (Lt L ι H) ι z.length zv.cells [z]:=by
  refine⟨by simp[hcr'.size],fun i c hi=>?_,fun i c j a hi ha=>?_⟩
  ·
   cases i with
   | zero=>simp at hi;rw[←hi]
   | succ i=>simp at hi
  ·
   cases i with
   |
    zero =>
    simp at hi;subst hi
    have hj:j < zv.cells.size:=by rw[hcr'.size];exact(Wf.1 ha).1
    refine⟨zv.cells[j],?_,hcr'.one j _ (Wg hj),hcr'.rel j _ a (Wg hj) ha⟩;rw[WH,Wp];exact Wg hj
   | succ i=>simp at hi
 have hst:=Step.new rel e hfr (by simp[maxLen]);refine⟨.pointer (some ⟨w.heap.size,0,none⟩),_,_,?_,hst,?_,trivial⟩
 · simp[Instr.alloc,zeroValue,typeInfo,hi,hzv,newVar,Sem.run_bind,zdi]
 · have:=VR.ptr (w:=w.alloc (.cells zv.cells e)) (L:=Lt L (ι.put nx 0 0 ⟨w.heap.size,0,1,z.length⟩) (H.set nx 0 (.row z.length [z] 0))) (ι.put nx 0 0 ⟨w.heap.size,0,1,z.length⟩) nx 0 0 0 0 _ (Inj.put_same _ _ _ _ _) (by simp[maxLen]);simp at this;exact this
theorem zD7{w':World}{M':Nat→Prop}{b n cap sz:Nat}(hn:n≤cap)(hm:cap≤maxLen):VR w' M' (ι.put nx 0 0 ⟨b,0,cap,sz⟩) (.slice (some ⟨b,0,none⟩) n cap) (.own nx 0 0 0 n) :=
 .own _ nx 0 0 0 n _ cap _ (Inj.put_same _ _ _ _ _) hm hn (by simp) (fun _=>by simp)
theorem zrh {t e:TypeId} {i:TypeInfo} {len:Nat} {z:List AV} {parts:Array (Nat × Value)} {qs:List (Nat × AV)} (rel:RelH w L ι H nx) (hu:P.underlying t=some (.slice e)) (hi:P.info? e=some i) (hz:zhq P e=some z)
  (hbound:len * i.size≤16777216) (hpos:0 < i.size) (hps:EL w (Lt L ι H) ι parts.toList qs) (hs:(zgf i.size len z qs H nx).side) :
  ∃cs',(Instr.buildSlice t len parts).run P w=.ok (.slice (some ⟨w.heap.size,0,none⟩) len len) (w.alloc (.cells cs' e))∧FR w (Lt L ι H) ι i.size cs' (zfe (Wh len z) qs)∧len≤maxLen:=by
 obtain⟨i',zv,hi',hzv,hsz,hzl,hcr⟩:=zg0 hz;rw[hi] at hi';cases hi';have hfr:=FR.zeros (n:=len) (hcr w (Lt L ι H) ι) hzl hpos;obtain⟨cs',h1,h2⟩:=zyc hps hfr (by rw[WI];exact hs)
 have hlen':(zfe (Wh len z) qs).length=len:=by rw[zh3,WI]
 have hm:len≤maxLen:=by have:len * 1≤len * i.size:=Waa _ hpos;unfold maxLen;omega
 refine⟨cs',?_,h2,hm⟩
 rcases Wm len with hz0|hlen
 ·
  subst hz0
  have h1':Instr.fill (fun i_1=>some (i_1 * i.size,i.size)) (Array.map (fun x=>(default:Value)) (Wt 0)) parts.toList=some cs':=by
   have e:∀(f:Nat→Value),Array.map f (Wt 0)=#[]:=fun f=>by simp
   rw[←h1,WH,e,e]
  simp[Instr.buildSlice,run_underlying hu,sizeOf,typeInfo,hi,Sem.run_bind,zdi];split
  · rename_i cells heq;rw[h1'] at heq;cases heq;simp[zdi]
  · rename_i hno;exact(hno cs' h1').elim
 have hne:¬(len * i.size=0):=by have:=Wk hlen hpos;omega
 have hng:¬(len * i.size > 16777216):=by omega
 simp[Instr.buildSlice,run_underlying hu,sizeOf,typeInfo,hi,hng,hne,zeroValue,hzv,Sem.run_bind,zdi];split
 · rename_i cells heq;rw[h1] at heq;cases heq;simp[zdi]
 · rename_i hno;exact(hno cs' h1).elim
theorem zv3 {t e:TypeId} {i:TypeInfo} {len:Nat} {z:List AV} {parts:Array (Nat × Value)} {qs:List (Nat × AV)} (rel:RelH w L ι H nx) (hu:P.underlying t=some (.slice e)) (hi:P.info? e=some i) (hz:zhq P e=some z)
  (hbound:len * i.size≤16777216) (hpos:0 < i.size) (hps:EL w (Lt L ι H) ι parts.toList qs) (hs:(zgf i.size len z qs H nx).side) :
  zgi P w L ι H nx (Instr.buildSlice t len parts) (zgf i.size len z qs H nx):=by
 obtain⟨cs',h1,h2,hm⟩:=zrh rel hu hi hz hbound hpos hps hs
 have hlen':(zfe (Wh len z) qs).length=len:=by rw[zh3,WI]
 have hst:=Step.new rel e h2 (by rw[hlen'];exact hm);rw[hlen'] at hst;exact⟨.slice (some ⟨w.heap.size,0,none⟩) len len,_,_,h1,hst,zD7 (Wc _) hm,trivial⟩
theorem ztF {t e:TypeId} {i:TypeInfo} {len:Nat} {z:List AV} {parts:Array (Nat × Value)} {qs:List (Nat × AV)} (rel:RelH w L ι H nx) (hu:P.underlying t=some (.slice e)) (hi:P.info? e=some i) (hz:zhq P e=some z)
  (hbound:len * i.size≤16777216) (hpos:0 < i.size) (hps:EL w (Lt L ι H) ι parts.toList qs) (hs:(zel i.size len z qs H nx).side) :
  zgi P w L ι H nx (Instr.buildSlice t len parts) (zel i.size len z qs H nx):=by
 obtain⟨cs',h1,h2,hm⟩:=zrh rel hu hi hz hbound hpos hps (nx:=nx) hs.1
 have hlen':(zfe (Wh len z) qs).length=len:=by rw[zh3,WI]
 have hold:∀b,b < w.heap.size→(w.alloc (.cells cs' e)).heap[b]? = w.heap[b]? := fun b hb=>Below.heap_alloc w _ b hb
 have hsz:w.heap.size≤(w.alloc (.cells cs' e)).heap.size:=by simp
 have cell:∀p q,p < len→q < i.size→∃c a v,(zfe (Wh len z) qs)[p]? = some c∧c[q]? = some a∧cs'[p * i.size+q]? = some v∧v.oneCell'=true∧VR w (Lt L ι H) ι v a:=by intro p q hp hq;have hc:=Wd (l:=zfe (Wh len z) qs) (by rw[hlen'];exact hp);have hw:=h2.wide p _ hc;have ha:=Wd (l:=(zfe (Wh len z) qs)[p]'(by rw[hlen'];exact hp)) (by rw[hw];exact hq);obtain⟨v,e1,e2,e3⟩:=h2.rel p _ q _ hc ha;exact⟨_,_,v,hc,ha,e1,e2,e3⟩
 refine⟨_,w.alloc (.cells cs' e),ι,h1,⟨⟨rfl,rfl,rfl,hsz,fun b hb _=>hold b hb⟩,fun _ _ _ _ h=>h,rel.grow hsz hold,fun b hb=>.inl hb⟩,?_,trivial⟩;refine .sl _ ⟨w.heap.size,0,none⟩ i.size len len _ (fun p q=>cs'.getD (p * i.size+q) undef) (Wc _) (by unfold big;unfold maxLen at hm;omega) (fun p q hp hq=>?_) (fun _ hL=>?_) (fun p q hp hq=>?_)
 ·
  obtain⟨c,a,v,hc,ha,hv1,hv2,hv3⟩:=cell p q hp hq
  have e1:((Addr.add ⟨w.heap.size,0,none⟩ (p * i.size)).add q)=⟨w.heap.size,p * i.size+q,none⟩:=by
   rw[Go.Deep.add_add];unfold Addr.add
   split<;>simp
  rw[e1,World.cell?_alloc_new];refine⟨?_,?_⟩
  · simp only[WU,hv1,WV]
  · simp only[WU,hv1,WV];exact hv2
 ·
  rcases hL with hL|hL
  · exact absurd (rel.Lsz _ hL) (Wz _)
  · exact absurd (rel.live_lt hL) (Wz _)
 · obtain⟨c,a,v,hc,ha,hv1,hv2,hv3⟩:=cell p q hp hq;simp only[WU,hv1,WV,W5,hc,ha];have hfl:zH c=true:=List.all_eq_true.1 hs.2 c (WD hc);exact(zuu (zcU hfl ha) hv3).mono (fun b hb hn=>⟨hold b hb,hn⟩) (fun _ _ _ _ h=>h)
theorem zDR {t e:TypeId} {i:TypeInfo} {z:List AV} {lv cv:Value} {l c:AV} (rel:RelH w L ι H nx) (hu:P.underlying t=some (.slice e)) (hi:P.info? e=some i) (hz:zhq P e=some z) (hpos:0 < i.size)
  (hl:VR w (Lt L ι H) ι lv l) (hc:VR w (Lt L ι H) ι cv c) (hs:(zo4 i.size i.bytes z l c H nx).side):zgi P w L ι H nx (Instr.makeSlice t lv cv) (zo4 i.size i.bytes z l c H nx):=by
 obtain⟨i',zv,hi',hzv,hsz,hzl,hcr⟩:=zg0 hz;rw[hi] at hi';cases hi'
 cases hl with
 |
  int _ k n hn =>
  cases hc with
  |
   int _ k' m hm =>
   simp only[zo4] at hs ⊢;obtain⟨rfl,rfl,h0,h1,h2,h3⟩:=hs
   have hmb:m≤140737488355328:=by have:(1:Int) * m≤i.bytes * m:=Int.mul_le_mul_of_nonneg_right (by omega) (by omega);omega
   have hwn:IntKind.i64.wrap n=n:=IntWalk.i64_in n ⟨by omega,by omega⟩;have hwm:IntKind.i64.wrap m=m:=IntWalk.i64_in m ⟨by omega,by omega⟩
   have hmm:m.toNat≤maxLen:=by unfold maxLen;omega
   have hfr:=FR.zeros (n:=m.toNat) (hcr w (Lt L ι H) ι) hzl hpos
   have hst:Step w L ι H nx (w.alloc (.cells ((Wt (m.toNat * i.size)).map fun k=>zv.cells[k % zv.cells.size]!) e)) (ι.put nx 0 0 ⟨w.heap.size,0,m.toNat,i.size⟩) (H.set nx 0 (.row i.size (Wh n.toNat z) 0)) (nx+1):=by
    refine .alloc rel _ e i.size _ m.toNat (by simp;omega) hmm (by rw[hfr.size];simp) (fun k c hk=>?_) (fun k c j a hk ha=>?_)
    ·
     rw[Wu] at hk;split at hk
     · cases hk;exact hzl
     · cases hk
    ·
     refine hfr.rel k c j a ?_ ha;rw[Wu] at hk ⊢;split at hk
     · rw[if_pos (by omega)];exact hk
     · cases hk
   refine⟨.slice (some ⟨w.heap.size,0,none⟩) n.toNat m.toNat,_,_,?_,hst,zD7 (by omega) hmm,trivial⟩
   have hg1:¬(m < 0∨281474976710656 < (i.bytes:Int) * m):=by omega
   have hg2:¬(n < 0):=by omega
   have hg3:¬(m < n):=by omega
   have hg4:¬(m < 0):=by omega
   have hg5:¬(281474976710656 < (i.bytes:Int) * m):=by omega
   by_cases hmz:m.toNat * i.size=0
   ·
    have:m.toNat=0:=by
     rcases Nat.mul_eq_zero.1 hmz with h|h
     · exact h
     · omega
    have hm0:m=0:=by omega
    have hn0:n=0:=by omega
    subst hm0;subst hn0
    have e0:∀(f:Nat→Value),(Wt 0).map f=#[]:=fun f=>by simp[Wt]
    simp[Instr.makeSlice,run_underlying hu,asInt,asIntOf,typeInfo,hi,hwn,sizeOf,Sem.run_bind,zdi];rw[e0,e0]
   ·
    simp[Instr.makeSlice,run_underlying hu,asInt,asIntOf,typeInfo,hi,hwn,hwm,hg2,hg3,hg4,hg5,sizeOf,hmz,zeroValue,hzv,Sem.run_bind,zdi]
    all_goals first|done | (split<;>first | (rename_i h;rcases h with h|h<;>omega)|simp[zdi])
  | _=>simp[zo4,bad] at hs
 | _=>cases c<;>simp[zo4,bad] at hs
end
theorem zop(b:Nat):∀(vs:List Value)(o:Nat)(w:World),(w.setCells b o vs).tape=w.tape
 | [],_,_=>rfl
 | v::r,o,w=>by rw[World.setCells,zop b r];rfl
theorem znO(b:Nat):∀(vs:List Value)(o:Nat)(w:World),(w.setCells b o vs).heap.size=w.heap.size
 | [],_,_=>rfl
 | v::r,o,w=>by rw[World.setCells,znO b r];simp
theorem zh9(w:World)(b o:Nat)(vs:List Value)(h:∀j,j < vs.length→(w.cell? ⟨b,o+j,none⟩).isSome=true)(x:Nat):
  (w.setCells b o vs).cell? ⟨b,x,none⟩=if o≤x∧x < o+vs.length then vs[x - o]? else w.cell? ⟨b,x,none⟩:=by
 by_cases hx:o≤x∧x < o+vs.length
 · rw[if_pos hx];have:=World.cell?_setCells_in b vs o w h (x - o) (by omega);rw[show o+(x - o)=x by omega] at this;rw[this];exact(Wd _).symm
 · rw[if_neg hx];exact World.cell?_setCells_out b vs o w _ (fun _ _=>by show x < o∨o+vs.length≤x;omega)
section
variable {P:Program} {w:World} {L:Nat→Prop} {ι:Inj} {H:AH} {nx:Nat} {M:Nat→Prop}
theorem Chg.write {r q g g0 sz0 o:Nat} {els0:List (List AV)} {l l0:Loc} {vs:List Value} (rel:RelH w L ι H nx) (hg:H.get r q=some (.row sz0 els0 g0)) (hl0:ι r q g0=some l0) (hp:0 < l0.cap * l0.sz)
  (hb:l.block=l0.block) (hsame:∀l',ι r q g=some l'→l'=l) (htop:g0≤g):Chg w ι H r q g l (w.setCells l.block o vs):=by
 refine⟨World.os_setCells _ _ _ _,zop _ _ _ _,World.output_setCells _ _ _ _,by rw[znO];exact Wc _,fun b hlt hn=>?_,fun _=>.inl ⟨sz0,els0,g0,l0,hg,hl0,hp,hb.symm⟩,hsame,fun g2 l2 h2=>WK (rel.gen r q _ _ _ hg g2 l2 h2) htop⟩;exact World.heap_setCells_other w _ _ _ hlt (fun h=>hn ⟨sz0,els0,g0,l0,hg,hl0,hp,by rw[h,hb]⟩)
theorem zzp{t:TypeId}{i:TypeInfo}{pv xv:Value}{p x:AV}(rel:RelH w L ι H nx)(hi:P.info? t=some i)(hp:VR w (Lt L ι H) ι pv p)(hx:VR w (Lt L ι H) ι xv x)(hs:(zhu i.size p x H nx).side):
  ∃w' ι',(Instr.storeAt t pv xv).run P w=.ok () w'∧Step w L ι H nx w' ι' (zhu i.size p x H nx).H (zhu i.size p x H nx).nx∧(zhu i.size p x H nx).fact∧(zhu i.size p x H nx).v=.undef:=by
 cases hp with
 |
  ptr _ r q0 g k f l hl hm =>
  cases hg:H.get r q0 with
  | none=>simp[zhu,hg,bad] at hs
  |
   some o =>
   cases o with
   | fam sz ins=>simp[zhu,hg,bad] at hs
   |
    row sz els g' =>
    simp only[zhu,hg] at hs ⊢;obtain⟨rfl,hk,hf,hsol,hlen⟩:=hs;obtain⟨l',hl',ok⟩:=rel.row _ _ _ _ _ hg;rw[hl] at hl';cases hl';have hcr:=hx.cr hsol;have hsz:=ok.hsz
    have hvs:xv.cells.toList.length=i.size:=by simp[hcr.size,hlen]
    have hkc:k < l.cap:=Wy hk (ok.plain hm).len;have hkc':(k+1) * sz≤l.cap * sz:=Wi _ hkc;rw[We] at hkc'
    have hthere:∀j,j < xv.cells.toList.length→(w.cell? ⟨l.block,l.off+k * l.sz+f+j,none⟩).isSome=true∧w.frozen? ⟨l.block,l.off+k * l.sz+f+j,none⟩=false:=fun j hj=>by have:=(ok.plain hm).there (k * sz+f+j) (by rw[hvs] at hj;omega);rw[hsz,show l.off+k * sz+f+j=l.off+(k * sz+f+j) by omega];exact this
    by_cases hn0:i.size=0
    ·
     have hnil:xv.cells.toList=[]:=Wq (by omega);have hxn:x.cells=[]:=Wq (by omega)
     have hels:els.set k (bif Wa f 0&&Wa i.size sz then x.cells else splice (els.getD k []) f x.cells)=els:=by
      have e1:(bif Wa f 0&&Wa i.size sz then x.cells else splice (els.getD k []) f x.cells)=els.getD k []:=by
       have hw':=ok.wide k (els.getD k []) (by simp[Wl,Wd hk])
       cases hb:Wa f 0&&Wa i.size sz with
       | false=>simp[hxn,splice]
       |
        true =>
        simp only[WA] at hb;have:=zF hb.2;rw[hn0] at this;rw[←this] at hw';simp only[cond_true,hxn];exact(Wq hw').symm
      rw[e1];apply List.ext_getElem?;intro q;rw[Ww];split
      · rename_i h;subst h;simp[Wl,Wd hk]
      · rfl
     rw[hels];have c:Chg w ι H r q0 g l w:=⟨rfl,rfl,rfl,Wc _,fun _ _ _=>rfl,fun hpos=>.inl ⟨sz,els,g,l,hg,hl,hpos,rfl⟩,fun l0 h0=>by rw[hl] at h0;cases h0;rfl,fun g2 l2 h2=>rel.gen r q0 _ _ _ hg g2 l2 h2⟩;refine⟨w,ι.put r q0 g l,?_,c.step (.inl ⟨_,_,hg⟩) rel (rel.idx _ _ _ _ hl) (Wc _) (.mk' ok.hsz (ok.plain hm).len hm (ok.plain hm).there (ok.plain hm).fz ok.wide (fun i c' j a h1 h2=>?_)),trivial,trivial⟩
     · simp[Instr.storeAt,Instr.sureAddr,storeVar,sizeOf,typeInfo,hi,hn0,hcr.size,hlen,hnil,storeCells]
     · obtain⟨v,h3,h4,h5⟩:=ok.holds hm i c' j a h1 h2;exact⟨v,h3,h4,c.vr (.inl ⟨_,_,hg⟩) rel h5⟩
    ·
     have hszpos:0 < sz:=by omega
     have hcap:0 < l.cap * l.sz:=by rw[hsz];exact Wk (by omega) hszpos
     have c:Chg w ι H r q0 g l (w.setCells l.block (l.off+k * l.sz+f) xv.cells.toList) :=
      .write rel hg hl hcap rfl (fun l0 h0=>by rw[hl] at h0;cases h0;rfl) (Wc _)
     have hcell:=zh9 w l.block (l.off+k * l.sz+f) xv.cells.toList (fun j hj=>(hthere j hj).1)
     have hnewlen:(bif Wa f 0&&Wa i.size sz then x.cells else splice (els.getD k []) f x.cells).length=sz:=by
      have hw':=ok.wide k (els.getD k []) (by simp[Wl,Wd hk])
      cases hb:Wa f 0&&Wa i.size sz with
      | false=>simp only[cond_false];rw[zkO _ _ _ (by omega),hw']
      |
       true =>
       simp only[WA] at hb;simp only[cond_true,hlen];exact zF hb.2
     have hnew:∀j a,(bif Wa f 0&&Wa i.size sz then x.cells else splice (els.getD k []) f x.cells)[j]? = some a →
       (f≤j∧j < f+i.size∧x.cells[j - f]? = some a)∨(¬(f≤j∧j < f+i.size)∧(els.getD k [])[j]? = some a):=by
      intro j a hj;have hw':=ok.wide k (els.getD k []) (by simp[Wl,Wd hk])
      cases hb:Wa f 0&&Wa i.size sz with
      |
       false =>
       rw[hb] at hj;simp only[cond_false] at hj;rw[zsy _ _ _ (by omega)] at hj;rw[hlen] at hj;split at hj
       · rename_i h;exact .inl ⟨h.1,h.2,hj⟩
       · rename_i h;exact .inr ⟨h,hj⟩
      |
       true =>
       rw[hb] at hj;simp only[WA] at hb;have h0:=zF hb.1;simp only[cond_true] at hj;have hjl:j < x.cells.length:=(Wf.1 hj).1;subst h0;exact .inl ⟨Wr _,by omega,by simpa using hj⟩
     refine⟨_,ι.put r q0 g l,?_,c.step (.inl ⟨_,_,hg⟩) rel (rel.idx _ _ _ _ hl) (Wc _) (.mk' hsz (by simpa using (ok.plain hm).len) hm (fun q hq=>?_) (fun hp=>((ok.plain hm).fz hp).setCells) (fun q c' hq=>?_) (fun q c' j a hq hj=>?_)),trivial,trivial⟩
     ·
      have hst:=run_storeCells_cells (P:=P) l.block (l.off+k * l.sz+f) xv.cells.toList 0 w (fun j hj=>by simpa using (hthere j hj).1) (fun j hj=>by simpa using (hthere j hj).2)
       (fun v hv=>by
        obtain⟨n,hn⟩:=Wab hv
        exact hcr.one n v (by simpa using hn))
      simp only[WW] at hst
      have hsize:xv.cells.size=i.size:=by rw[hcr.size,hlen]
      simp[Instr.storeAt,Instr.sureAddr,storeVar,sizeOf,typeInfo,hi,hsize,hst]
     ·
      have h0:=(ok.plain hm).there q hq;rw[hcell,World.frozen?_setCells];refine⟨?_,h0.2⟩;split
      · rename_i h;rw[Wd (by omega)];rfl
      · exact h0.1
     ·
      rw[Ww] at hq;split at hq
      · cases hq;exact hnewlen
      · exact ok.wide _ _ hq
     ·
      rw[Ww] at hq;split at hq
      ·
       rename_i hkq;subst hkq;cases hq
       rcases hnew j a hj with ⟨h1,h2,h3⟩ | ⟨h1,h2⟩
       ·
        have hjn:j - f < xv.cells.size:=by rw[hcr.size,hlen];omega
        refine⟨xv.cells[j - f],?_,hcr.one _ _ (Wg hjn),c.vr (.inl ⟨_,_,hg⟩) rel (hcr.rel _ _ _ (Wg hjn) h3)⟩;rw[hcell,if_pos (by rw[hvs,hsz];omega),hsz,show l.off+k * sz+j - (l.off+k * sz+f)=j - f by omega,WX];exact Wg hjn
       · obtain⟨v,h3,h4,h5⟩:=ok.holds hm k _ j a (by simp[Wl,Wd hk]) h2;refine⟨v,?_,h4,c.vr (.inl ⟨_,_,hg⟩) rel h5⟩;rw[hcell,if_neg (by rw[hvs,hsz];omega)];exact h3
      ·
       rename_i hkq;obtain⟨v,h3,h4,h5⟩:=ok.holds hm q c' j a hq hj;refine⟨v,?_,h4,c.vr (.inl ⟨_,_,hg⟩) rel h5⟩
       have hjs:j < sz:=by rw[←ok.wide q c' hq];exact(Wf.1 hj).1
       rw[hcell,if_neg,h3];rintro⟨h6,h7⟩;rw[hvs] at h7;rw[hsz] at h6 h7
       rcases W9 hkq with hlt|hgt
       · have:(k+1) * sz≤q * sz:=Wi _ hlt;rw[We] at this;omega
       · have:(q+1) * sz≤k * sz:=Wi _ hgt;rw[We] at this;omega
 | _=>simp[zhu,bad] at hs
end
section
variable {P:Program} {w:World} {L:Nat→Prop} {ι:Inj} {H:AH} {nx:Nat} {M:Nat→Prop}
structure LR(w:World)(M:Nat→Prop)(ι:Inj)(sz:Nat)(vs:List Value)(els:List (List AV)):Prop where
 size:vs.length=els.length * sz
 wide:∀(i:Nat)(c:List AV),els[i]? = some c→c.length=sz
 one:∀v∈vs,v.oneCell'=true
 rel:∀(i:Nat)(c:List AV)(j:Nat)(a:AV),els[i]? = some c→c[j]? = some a→∃v,vs[i * sz+j]? = some v∧v.oneCell'=true∧VR w M ι v a
theorem LR.nil(sz:Nat):LR w M ι sz [] []:=⟨by simp,fun i c h=>by simp at h,fun v h=>by simp at h,fun i c j a h _=>by simp at h⟩
theorem LR.append{sz:Nat}{vs us:List Value}{es fs:List (List AV)}(h:LR w M ι sz vs es)(k:LR w M ι sz us fs):LR w M ι sz (vs++us) (es++fs):=by
 refine⟨by rw[WJ,h.size,k.size,WJ,We],fun i c hi=>?_,fun v hv=>?_,fun i c j a hi hj=>?_⟩
 ·
  rw[Wac] at hi;split at hi
  · exact h.wide _ _ hi
  · exact k.wide _ _ hi
 ·
  rcases List.mem_append.1 hv with hv|hv
  · exact h.one v hv
  · exact k.one v hv
 ·
  rw[Wac] at hi;split at hi
  · rename_i hlt;obtain⟨v,h1,h2,h3⟩:=h.rel i c j a hi hj;exact⟨v,by rw[WB (Wf.1 h1).1];exact h1,h2,h3⟩
  ·
   rename_i hge;obtain⟨v,h1,h2,h3⟩:=k.rel _ c j a hi hj;refine⟨v,?_,h2,h3⟩
   have hle:es.length≤i:=by omega
   have:es.length * sz≤i * sz:=Wi _ hle;rw[WC (by rw[h.size];omega),h.size,show i * sz+j - es.length * sz=(i - es.length) * sz+j by rw[Nat.sub_mul];omega];exact h1
theorem LR.ofCells {sz n b o:Nat} {els:List (List AV)} (hn:els.length=n) (hw:∀(i:Nat)(c:List AV),els[i]? = some c→c.length=sz)
  (h:∀(i:Nat)(c:List AV)(j:Nat)(a:AV),els[i]? = some c→c[j]? = some a→∃v,w.cell? ⟨b,o+i * sz+j,none⟩=some v∧v.oneCell'=true∧VR w M ι v a) :
  ∃vs,LR w M ι sz vs els∧∀(k:Nat)(v:Value),vs[k]? = some v→w.cell? ⟨b,o+k,none⟩=some v:=by
 rcases Wm sz with h0|hpos
 ·
  subst h0
  exact⟨[],⟨by simp,hw,fun v h=>by simp at h,fun i c j a hi hj=>by
   have:=hw i c hi;rw[Wq this] at hj
   simp at hj⟩,fun k v h=>by simp at h⟩
 ·
  have key:∀k,k < n * sz→∃v,w.cell? ⟨b,o+k,none⟩=some v∧v.oneCell'=true∧∃c a,els[k / sz]? = some c∧c[k % sz]? = some a∧VR w M ι v a:=by intro k hk;have h1:k / sz < n:=Wad (by rw[Wv];exact hk);have h2:k % sz < sz:=Nat.mod_lt _ hpos;have h3:els[k / sz]? = some (els[k / sz]'(by omega)):=Wd _;have h4:=hw _ _ h3;have h5:(els[k / sz]'(by omega))[k % sz]? = some ((els[k / sz]'(by omega))[k % sz]'(by omega)):=Wd _;obtain⟨v,h6,h7,h8⟩:=h _ _ _ _ h3 h5;refine⟨v,?_,h7,_,_,h3,h5,h8⟩;rw[←h6,Ws,Wv,Nat.div_add_mod]
  obtain⟨V,hV⟩:=Go.Deep.choose_lt (α:=Value) key;refine⟨(Wj (n * sz)).map V,⟨by simp[hn],hw,fun v hv=>?_,fun i c j a hi hj=>?_⟩,fun k v hk=>?_⟩
  · obtain⟨k,hk,rfl⟩:=List.mem_map.1 hv;exact(hV k (List.mem_range.1 hk)).2.1
  ·
   have hil:i < n:=by rw[←hn];exact(Wf.1 hi).1
   have hjl:j < sz:=by rw[←hw i c hi];exact(Wf.1 hj).1
   have hlt:=zy9 hil hjl;obtain⟨h1,h2,c',a',h3,h4,h5⟩:=hV _ hlt
   have hd:(i * sz+j) / sz=i:=by rw[Wv,Nat.mul_add_div hpos,Nat.div_eq_of_lt hjl,WW]
   have hm:(i * sz+j) % sz=j:=by rw[Wv,Nat.mul_add_mod,W8 hjl]
   rw[hd,hi] at h3;cases h3;rw[hm,hj] at h4;cases h4;exact⟨_,by rw[Wx,List.getElem?_range hlt];rfl,h2,h5⟩
  · obtain⟨hk',rfl⟩:=znr hk;exact(hV k hk').1
theorem LR.src {sz:Nat} {tx e':TypeId} {n b o c:Nat} {vs:List Value} {els:List (List AV)} (hk:P.underlying tx=some (.slice e')) (h:LR w M ι sz vs els) (hn:els.length=n)
  (hc:∀(k:Nat)(v:Value),vs[k]? = some v→w.cell? ⟨b,o+k,none⟩=some v):Src P sz tx (.slice (some ⟨b,o,none⟩) n c) n vs w :=
 Src.ofSlice w hk _ n c vs (by rw[h.size,hn]) (fun j u hu=>by rw[add_mid];exact hc j u hu) h.one
theorem zCu{r q g off n:Nat}(h:fits H (.own r q g off n)){sz els g'}(hg:H.get r q=some (.row sz els g')):off+n≤els.length:=by
 simpa [fits,hg] using h
theorem zcO{els:List (List AV)}{off n i:Nat}{c:List AV}(h:((els.drop off).take n)[i]? = some c):i < n∧els[off+i]? = some c:=by
 rw[WE] at h;split at h
 · rename_i hi;exact⟨hi,by rwa [WF] at h⟩
 · cases h
theorem zxd {tx e':TypeId} {sz:Nat} {yv:Value} {y:AV} {news:List (List AV)} {m:Nat} (rel:RelH w L ι H nx) (hk:P.underlying tx=some (.slice e')) (hpos:0 < sz) (hy:VR w (Lt L ι H) ι yv y)
  (he:zgy sz y H=some news) (hm:lenV y=some m) (hf:fits H y):∃vs,Src P sz tx yv m vs w∧LR w (Lt L ι H) ι sz vs news∧news.length=m:=by
 cases hy with
 |
  sl _ a sz' n cap f V hn hb hc hL hv =>
  simp only[zgy] at he
  cases hbq:Wa sz' sz with
  | false=>rw[hbq] at he;cases he
  |
   true =>
   have:=zF hbq;subst this;rw[hbq] at he;cases he
   obtain rfl:n=m:=by simpa [lenV] using hm
   have hlen:((Wj n).map fun i=>tab (f i) sz' 0).length=n:=by simp
   have hget:∀(i:Nat)(c:List AV),((Wj n).map fun i=>tab (f i) sz' 0)[i]? = some c→i < n∧c=tab (f i) sz' 0:=by intro i c h;rw[Wx] at h;obtain⟨q,hq,rfl⟩:=Wo.1 h;obtain⟨h1,h2⟩:=Wf.1 hq;simp at h1 h2;exact⟨h1,by rw[h2]⟩
   by_cases hz:n=0
   · subst hz;exact⟨[],Src.ofSlice w hk a 0 cap [] (by simp) (fun j u h=>by simp at h) (fun u h=>by simp at h),LR.nil _,by simp⟩
   ·
    have h00:=(hc 0 0 (by omega) hpos).1;rw[WH,add0,add0] at h00
    have hspot:a.spot=none:=by
     unfold World.cell? at h00
     cases hs:a.spot with
     | none=>rfl
     | some s=>simp[hs] at h00;split at h00<;>simp at h00
    obtain⟨b,o,s⟩:=a;simp only at hspot;subst hspot
    obtain⟨vs,h1,h2⟩:=LR.ofCells (w:=w) (M:=Lt L ι H) (ι:=ι) (b:=b) (o:=o) hlen (sz:=sz') (fun i c h=>by rw[(hget i c h).2,zoJ]) (fun i c j x hi hj=>by
     obtain⟨h1,h2⟩:=hget i c hi;subst h2;rw[zvZ] at hj;split at hj
     · rename_i hjs;cases hj;have:=hc i j h1 hjs;rw[add_mid,add_mid] at this;exact⟨_,this.1,this.2,by rw[Wp];exact zwF (hv i j h1 hjs) ι⟩
     · cases hj)
    exact⟨vs,h1.src hk hlen h2,h1,hlen⟩
 |
  sl0 _ sz' f =>
  simp only[zgy] at he
  cases hbq:Wa sz' sz with
  | false=>rw[hbq] at he;cases he
  |
   true =>
   rw[hbq] at he;cases he;cases hm;exact⟨[],Src.ofNil w hk 0,LR.nil _,rfl⟩
 | nilsl _=>cases he;cases hm;exact⟨[],Src.ofNil w hk 0,LR.nil _,rfl⟩
 |
  cut _ a =>
  cases he;cases hm
  cases a with
  | none=>exact⟨[],Src.ofNil w hk 0,LR.nil _,rfl⟩
  | some a=>exact⟨[],Src.ofSlice w hk a 0 0 [] (by simp) (fun j u h=>by simp at h) (fun u h=>by simp at h),LR.nil _,rfl⟩
 |
  own _ r q g off n a c l hl hmx hn hc ha =>
  obtain rfl:n=m:=by simpa [lenV] using hm
  simp only[zgy] at he
  cases hg:H.get r q with
  | none=>rw[hg] at he;cases he
  |
   some o =>
   cases o with
   | fam sz ins=>rw[hg] at he;cases he
   |
    row sz' els g' =>
    rw[hg] at he;simp only at he
    cases hbq:(Wa sz' sz&&Wa g g') with
    | false=>rw[hbq] at he;cases he
    |
     true =>
     rw[hbq] at he;simp only[WA] at hbq;have h1:=zF hbq.1;have h2:=zF hbq.2;subst h1;subst h2;cases he;have hfit:=zCu hf hg;obtain⟨l',hl',ok⟩:=rel.row _ _ _ _ _ hg;rw[hl] at hl';cases hl'
     have hlen:((els.drop off).take n).length=n:=by simp;omega
     by_cases hz:n=0
     ·
      subst hz;simp only[List.take_zero]
      cases a with
      |
       none =>
       have hc0:c=0:=by
        rcases Wm c with h|h
        · exact h
        · have:=ha h;cases this
       subst hc0;exact⟨[],Src.ofNil w hk 0,LR.nil _,rfl⟩
      | some a=>exact⟨[],Src.ofSlice w hk a 0 c [] (by simp) (fun j u h=>by simp at h) (fun u h=>by simp at h),LR.nil _,rfl⟩
     ·
      rw[ha (by omega)]
      obtain⟨vs,h3,h4⟩:=LR.ofCells (w:=w) (M:=Lt L ι H) (ι:=ι) (b:=l.block) (o:=l.off+off * l.sz) hlen (sz:=sz') (fun i c h=>ok.wide _ _ (zcO h).2) (fun i c j x hi hj=>by
       obtain⟨h5,h6⟩:=zcO hi;obtain⟨v,h7,h8,h9⟩:=ok.holds hmx _ c j x h6 hj;refine⟨v,?_,h8,h9⟩;rw[ok.hsz,show l.off+off * sz'+i * sz'+j=l.off+(off+i) * sz'+j by rw[We];omega]
       exact h7)
      exact⟨vs,h3.src hk hlen h4,h3,hlen⟩
 | _=>simp[zgy] at he
theorem zkH {t tx ty e:TypeId} {i:TypeInfo} {z:Value} (rel:RelH w L ι H nx) (ht:P.underlying t=some (.slice e)) (hi:P.info? e=some i) (hz:i.zero=some z)
  (hzs:z.cells.size=i.size) (hpos:0 < i.size) (hby:0 < i.bytes) {r q g nx':Nat} (so:zyS H r q i.size) (hr:r < nx') (hnx:nx≤nx') (hnone:ι r q g=none) (htop:∀g2 l2,ι r q g2=some l2→g2≤g)
  {base:Option Addr} {n c:Nat} {oldE:List (List AV)} {oldV:List Value} (hold:LR w (Lt L ι H) ι i.size oldV oldE) (hn:oldE.length=n) (hnc:n≤c)
  (hroom:0 < c→∃b o,base=some ⟨b,o,none⟩∧zxT ι H r q b∧(∀k,k < c * i.size→(w.cell? ⟨b,o+k,none⟩).isSome=true∧w.frozen? ⟨b,o+k,none⟩=false)∧∀(k:Nat)(v:Value),oldV[k]? = some v→w.cell? ⟨b,o+k,none⟩=some v)
  (hfz:0 < c→∀{b o},base=some ⟨b,o,none⟩→FzOk w b) (hcm:c≤maxLen) {yv:Value} {m:Nat} {newE:List (List AV)} {newV:List Value} (hs:Src P i.size tx yv m newV w) (hnew:LR w (Lt L ι H) ι i.size newV newE) (hm:newE.length=m) (hbound:(n+m) * i.bytes≤140737488355328) :
  ∃v w' l,(Builtin.append_ #[t,tx] ty #[.slice base n c,yv]).run P w=.ok v w'∧Step w L ι H nx w' (ι.put r q g l) (H.set r q (.row i.size (oldE++newE) g)) nx' ∧
   VR w' (Lt L (ι.put r q g l) (H.set r q (.row i.size (oldE++newE) g))) (ι.put r q g l) v (.own r q g 0 (n+m)):=by
 have hnm:n+m≤140737488355328:=by have:(n+m) * 1≤(n+m) * i.bytes:=Waa _ hby;omega
 have hmax:n+m≤maxLen:=by unfold maxLen;omega
 have hlen:(oldE++newE).length=n+m:=by simp[hn,hm]
 have hboth:=hold.append hnew
 have hsame:∀(l l0:Loc),ι r q g=some l0→l0=l:=fun l l0 h=>by rw[hnone] at h;cases h
 by_cases hfit:n+m≤c
 ·
  rcases Wm c with hc0|hcpos
  ·
   subst hc0
   have hn0:n=0:=by omega
   have hm0:m=0:=by omega
   subst hn0;subst hm0;have hnV:newV=[]:=Wq (by rw[hnew.size,hm];simp);subst hnV;have c1:Chg w ι H r q g ⟨0,0,0,i.size⟩ w:=⟨rfl,rfl,rfl,Wc _,fun _ _ _=>rfl,fun h=>by simp at h,hsame _,htop⟩;refine⟨_,w,⟨0,0,0,i.size⟩,run_append_nothing w t tx ty e i ht hi base 0 0 (Wc _) yv hs,c1.step so rel hr hnx (.mk' rfl (by rw[hlen];exact Wc _) (Wr _) (fun k hk=>by simp at hk) (fun h=>by simp at h) (fun k c' hk=>?_) (fun k c' j a hk _=>?_)),?_⟩
   · rw[Wq hlen] at hk;simp at hk
   · rw[Wq hlen] at hk;simp at hk
   · exact .own _ r q g 0 0 _ 0 _ (Inj.put_same _ _ _ _ _) (Wr _) (Wc _) (Wc _) (fun h=>by omega)
  ·
   obtain⟨b,o,rfl,hlive,hthere,hcells⟩:=hroom hcpos;obtain⟨sz0,els0,g0,l0,hg0,hl0,hp0,hb0⟩:=hlive;have hle:(n+m) * i.size≤c * i.size:=Wi _ hfit;rw[We] at hle
   have hnV:newV.length=m * i.size:=by rw[hnew.size,hm]
   have hoV:oldV.length=n * i.size:=by rw[hold.size,hn]
   have hth:∀j,j < newV.length→(w.cell? ⟨b,o+n * i.size+j,none⟩).isSome=true∧w.frozen? ⟨b,o+n * i.size+j,none⟩=false:=fun j hj=>by rw[Ws];exact hthere _ (by omega)
   have hrun:=run_append_room_src (P:=P) w t tx ty e i ht hi b o n c yv m newV hs hfit (fun j hj=>(hth j hj).1) (fun j hj=>(hth j hj).2)
   have c1:Chg w ι H r q g ⟨b,o,c,i.size⟩ (w.setCells b (o+n * i.size) newV):=by have:=Chg.write (l:=⟨b,o,c,i.size⟩) (o:=o+n * i.size) (vs:=newV) (g:=g) rel hg0 hl0 hp0 hb0.symm (hsame _) (htop _ _ hl0);exact⟨this.os,this.tape,this.output,this.size,this.blk,this.new,hsame _,htop⟩
   have hcell:=zh9 w b (o+n * i.size) newV (fun j hj=>(hth j hj).1);refine⟨_,_,⟨b,o,c,i.size⟩,hrun,c1.step so rel hr hnx (.mk' rfl (by rw[hlen];exact hfit) hcm (fun k hk=>?_) (fun hp=>(hfz hcpos rfl).setCells) hboth.wide (fun k c' j a hk hj=>?_)),?_⟩
   ·
    have h0:=hthere k hk;rw[World.frozen?_setCells,hcell];refine⟨?_,h0.2⟩;split
    · rw[Wd (by omega)];rfl
    · exact h0.1
   ·
    obtain⟨v,h1,h2,h3⟩:=hboth.rel k c' j a hk hj;refine⟨v,?_,h2,c1.vr so rel h3⟩
    dsimp only
    rw[hcell];rw[Ws]
    by_cases hlt:k * i.size+j < n * i.size
    · rw[if_neg (by omega)];rw[WB (by omega)] at h1;exact hcells _ _ h1
    · have hlt2:=(Wf.1 h1).1;rw[WJ] at hlt2;rw[if_pos (by omega)];rw[WC (by omega),hoV] at h1;rw[show o+(k * i.size+j) - (o+n * i.size)=k * i.size+j - n * i.size by omega];exact h1
   · exact .own _ r q g 0 (n+m) _ c _ (Inj.put_same _ _ _ _ _) hcm hfit (by simp) (fun _=>by simp)
 ·
  have hfc:(Builtin.firstCells i.size n (.slice base n c)).run P w.drew=.ok oldV.toArray w.drew:=by
   rcases Wm c with hc0|hcpos
   ·
    have hn0:n=0:=by omega
    subst hn0;have:oldV=[]:=Wq (by rw[hold.size,hn];simp);subst this
    cases base with
    | none=>exact run_firstCells_none w.drew i.size 0 0 c
    | some a=>exact run_firstCells_some w.drew i.size 0 a 0 c [] (by simp) (by intro _ _ h';simp at h')
   · obtain⟨b,o,rfl,_,_,hcells⟩:=hroom hcpos;exact run_firstCells_some w.drew i.size n ⟨b,o,none⟩ n c oldV (by rw[hold.size,hn]) (fun j u hu=>by rw[add_mid];exact hcells j u hu)
  have hrun:=run_append_grow_src (P:=P) w t tx ty e i z ht hi hz base n c oldV hfc yv m newV hs (by omega) (by omega) (growslice_fits (by omega) hbound);have hge:=grownCap_ge w (n+m) c e;have hgm:=grownCap_le_maxLen w (n+m) c e hmax
  have c1:Chg w ι H r q g ⟨w.heap.size,0,grownCap w (n+m) c e,i.size⟩ (w.drew.alloc (.cells ((oldV++newV).toArray++Builtin.zeroCells z.cells (grownCap w (n+m) c e - (n+m))) e)) :=
   ⟨rfl,rfl,rfl,by simp,fun b hb _=>Below.heap_alloc w.drew _ b hb,fun _=>.inr (Wc _),hsame _,htop⟩
  have hL:(oldV++newV).length=(n+m) * i.size:=by rw[WJ,hold.size,hnew.size,hn,hm,We]
  have hsz:((oldV++newV).toArray++Builtin.zeroCells z.cells (grownCap w (n+m) c e - (n+m))).size=grownCap w (n+m) c e * i.size:=by
   rw[Array.size_append,Wae,hL,size_zeroCells,hzs,←We]
   congr 1
   omega
  refine⟨_,_,_,hrun,c1.step so rel hr hnx (.mk' rfl (by rw[hlen];exact hge) hgm (fun k hk=>?_) (fun _=>FzOk.new) hboth.wide (fun k c' j a hk hj=>?_)),?_⟩
  · simp only[Wp];have e1:(w.drew.alloc (.cells ((oldV++newV).toArray++Builtin.zeroCells z.cells (grownCap w (n+m) c e - (n+m))) e)).cell? ⟨w.heap.size,k,none⟩=_:=World.cell?_alloc_new w.drew _ _ k;have e2:(w.drew.alloc (.cells ((oldV++newV).toArray++Builtin.zeroCells z.cells (grownCap w (n+m) c e - (n+m))) e)).frozen? ⟨w.heap.size,k,none⟩=_:=World.frozen?_alloc_new w.drew _ _ k;rw[e1,e2];refine⟨?_,rfl⟩;rw[Wg (by rw[hsz];exact hk)];rfl
  · obtain⟨v,h1,h2,h3⟩:=hboth.rel k c' j a hk hj;refine⟨v,?_,h2,c1.vr so rel h3⟩;simp only[Wp];have e1:(w.drew.alloc (.cells ((oldV++newV).toArray++Builtin.zeroCells z.cells (grownCap w (n+m) c e - (n+m))) e)).cell? ⟨w.heap.size,k * i.size+j,none⟩=_:=World.cell?_alloc_new w.drew _ _ _;rw[e1,Array.getElem?_append_left (by rw[Wae];exact(Wf.1 h1).1),WR];exact h1
  · exact .own _ r q g 0 (n+m) _ _ _ (Inj.put_same _ _ _ _ _) hgm hge (by simp) (fun _=>by simp)
theorem zyP {t tx ty e e':TypeId} {i:TypeInfo} {z:List AV} {xv yv:Value} {x y:AV} (rel:RelH w L ι H nx) (ht:P.underlying t=some (.slice e)) (htx:P.underlying tx=some (.slice e')) (hi:P.info? e=some i) (hz:zhq P e=some z)
  (hpos:0 < i.size) (hby:0 < i.bytes) (hx:VR w (Lt L ι H) ι xv x) (hy:VR w (Lt L ι H) ι yv y) (hs:(zhn i.size i.bytes x y H nx).side) :
  zgi P w L ι H nx (Builtin.append_ #[t,tx] ty #[xv,yv]) (zhn i.size i.bytes x y H nx):=by
 obtain⟨i',zv,hi',hzv,hzs,_,_⟩:=zg0 hz;rw[hi] at hi';cases hi';unfold zhn at hs ⊢
 cases he:zgy i.size y H with
 | none=>simp[he,bad] at hs
 |
  some news =>
  cases hm:lenV y with
  | none=>simp[he,hm,bad] at hs
  |
   some m =>
   simp only[he,hm] at hs ⊢
   have nilcase:∀a:Option Addr,xv=.slice a 0 0→fits H y→m * i.bytes≤140737488355328 →
     zgi P w L ι H nx (Builtin.append_ #[t,tx] ty #[xv,yv]) ⟨fits H y∧m * i.bytes≤140737488355328,True,.own nx 0 0 0 m,H.set nx 0 (.row i.size news 0),nx+1⟩:=by
    rintro a rfl hf hb;obtain⟨vs,h1,h2,h3⟩:=zxd rel htx hpos hy he hm hf
    obtain⟨v,w',l,h4,h5,h6⟩:=zkH (ty:=ty) (base:=a) (n:=0) (c:=0) (r:=nx) (q:=0) (g:=0) (nx':=nx+1) rel ht hi hzv hzs hpos hby (rel.sok _) (WL _) (WM _) (rel.freshI 0 0)
     (fun g2 l2 h=>by rw[rel.freshI] at h;cases h) (LR.nil i.size) rfl (Wc _) (fun h=>by omega) (fun h=>by omega) (Wr _) h1 h2 h3 (by simpa using hb)
    refine⟨v,w',_,h4,h5,?_,trivial⟩
    simpa using h6
   cases hx with
   |
    own _ r q g off n a c l hl hmx hn hc ha =>
    cases hg:H.get r q with
    | none=>simp[hg,bad] at hs
    |
     some o =>
     cases o with
     | fam sz ins=>simp[hg,bad] at hs
     |
      row sz' els g' =>
      simp only[hg] at hs ⊢;obtain⟨rfl,rfl,hle,hf,hb⟩:=hs;obtain⟨vs,h1,h2,h3⟩:=zxd rel htx hpos hy he hm hf;obtain⟨l',hl',ok⟩:=rel.row _ _ _ _ _ hg;rw[hl] at hl';cases hl'
      have hlen:((els.drop off).take n).length=n:=by simp;omega
      obtain⟨ovs,h4,h5⟩:=LR.ofCells (w:=w) (M:=Lt L ι H) (ι:=ι) (b:=l.block) (o:=l.off+off * l.sz) hlen (sz:=i.size) (fun i c h=>ok.wide _ _ (zcO h).2) (fun p c j x hi hj=>by
       obtain⟨h5,h6⟩:=zcO hi;obtain⟨v,h7,h8,h9⟩:=ok.holds hmx _ c j x h6 hj;refine⟨v,?_,h8,h9⟩;rw[ok.hsz,show l.off+off * i.size+p * i.size+j=l.off+(off+p) * i.size+j by rw[We];omega]
       exact h7)
      have hnone:ι r q (g+1)=none:=by
       cases hq:ι r q (g+1) with
       | none=>rfl
       | some l2=>have:=rel.gen r q _ _ _ hg _ _ hq;omega
      obtain⟨v,w',l2,h6,h7,h8⟩:=zkH (ty:=ty) (base:=a) (n:=n) (c:=c) (r:=r) (q:=q) (g:=g+1) (nx':=nx) rel ht hi hzv hzs hpos hby (.inl ⟨_,_,hg⟩) (rel.idx _ _ _ _ hl) (Wc _) hnone
       (fun g2 l2 h=>Nat.le_succ_of_le (rel.gen r q _ _ _ hg _ _ h)) h4 hlen hn (fun hcp=>by
        refine⟨l.block,l.off+off * l.sz,ha hcp,⟨i.size,els,g,l,hg,hl,?_,rfl⟩,fun k hk=>?_,h5⟩
        · rw[ok.hsz];exact Wk (by omega) hpos
        ·
         have hcc:(off+c) * i.size≤l.cap * i.size:=Wi _ hc;rw[We] at hcc;have:=(ok.plain hmx).there (off * i.size+k) (by omega);rw[ok.hsz,Ws]
         exact this) (fun hcp b o he=>by
        have:=ha hcp;rw[he] at this;cases this
        exact(ok.plain hmx).fz (Wk (by omega) hpos)) (by omega) h1 h2 h3 hb
      exact⟨v,w',_,h6,h7,h8,trivial⟩
   | nilsl _=>exact nilcase none rfl hs.1 hs.2
   | cut _ a=>exact nilcase a rfl hs.1 hs.2
   | _=>simp[bad] at hs
end
section
variable {P:Program} {w:World} {L:Nat→Prop} {ι:Inj} {H:AH} {nx:Nat} {M:Nat→Prop}
inductive VRO(w:World)(M:Nat→Prop)(ι:Inj):Option Value→Option AV→Prop where
 | none:VRO w M ι none none
 | some {v a} (h:VR w M ι v a):VRO w M ι (some v) (some a)
def loOf:Option AV→Option Int
 | none=>some 0
 | some (.int _ k)=>some k
 | _=>none
def hiOf(n:Nat):Option AV→Option Int
 | none=>some n
 | some (.int _ k)=>some k
 | _=>none
theorem zmj{lo hi:Option Value}{lo' hi':Option AV}(hl:VRO w M ι lo lo')(hh:VRO w M ι hi hi'){a b:Int}{n cap:Nat}(h1:loOf lo'=some a)(h2:hiOf n hi'=some b)(h0:0≤a)(hab:a≤b)(hb:b≤n)(hn:n≤cap):
  (Instr.sliceBounds true n cap lo hi none).run P w=.ok (a.toNat,b.toNat,cap) w:=by
 cases hl with
 |
  none =>
  cases h1
  cases hh with
  |
   none =>
   simp only[hiOf,Wn] at h2;subst h2;simp[Instr.sliceBounds]
  |
   some h =>
   cases h with
   |
    int _ k q hq =>
    simp only[hiOf,Wn] at h2;subst h2
    have:q≤(cap:Int):=by omega
    simp[Instr.sliceBounds,Instr.sliceBound,asIntOf,h0,hab,this]
   | _=>simp[hiOf] at h2
 |
  some hv =>
  cases hv with
  |
   int _ k p hp =>
   simp only[loOf,Wn] at h1;subst h1
   cases hh with
   |
    none =>
    simp only[hiOf,Wn] at h2;subst h2;simp[Instr.sliceBounds,Instr.sliceBound,asIntOf,h0,hab]
   |
    some h =>
    cases h with
    |
     int _ k' q hq =>
     simp only[hiOf,Wn] at h2;subst h2
     have e1:q≤(cap:Int):=by omega
     have e2:0≤q:=by omega
     have e3:p≤(q.toNat:Int):=by omega
     simp[Instr.sliceBounds,Instr.sliceBound,asIntOf,h0,e1,e2,e3];omega
    | _=>simp[hiOf] at h2
  | _=>simp[loOf] at h1
theorem zAT(sz:Nat)(x:AV)(lo hi:Option AV):zhR sz x lo hi H nx =
  match x with
  |
   .sl sz' n f=>match loOf lo,hiOf n hi with
   | some a,some b=>⟨sz'=sz∧0≤a∧a≤b∧b≤n,True,.sl sz (b - a).toNat (fun i j=>f (a.toNat+i) j),H,nx⟩
   | _,_=>bad H nx
  |
   .own r q g off n=>match H.get r q,loOf lo,hiOf n hi with
   | some (.row sz' _ g'),some a,some b=>⟨sz'=sz∧g=g'∧0≤a∧a≤b∧b≤n,True,.own r q g (off+a.toNat) (b - a).toNat,H,nx⟩
   | _,_,_=>bad H nx
  |
   .nilsl=>match loOf lo,hiOf 0 hi with
   | some a,some b=>⟨a=0∧b=0,True,.nilsl,H,nx⟩
   | _,_=>bad H nx
  | _=>bad H nx:=by
 unfold zhR
 have e1:(match lo with|none=>some 0|some (.int _ k)=>some k|_=>none)=loOf lo:=by cases lo with|none=>rfl|some v=>cases v<;>rfl
 have e2:∀n:Nat,(match hi with|none=>some (n:Int)|some (.int _ k)=>some k|_=>none)=hiOf n hi:=fun n=>by cases hi with|none=>rfl|some v=>cases v<;>rfl
 simp only[e1]
 cases x<;>first|rfl | (simp only[e2])
theorem zdE {t e:TypeId} {i:TypeInfo} (hu:P.underlying t=some (.slice e)) (hi:P.info? e=some i) {a:Option Addr} {n cap:Nat} {lo hi' mx:Option Value} {l h m:Nat}
  (hb:(Instr.sliceBounds true n cap lo hi' mx).run P w=.ok (l,h,m) w) :
  (Instr.sliceAt t (.slice a n cap) lo hi' mx).run P w=.ok (.slice (if m=l then a else a.map (·.add (l * i.size))) (h - l) (m - l)) w:=by
 simp[Instr.sliceAt,Instr.slice,run_underlying hu,hb,sizeOf,typeInfo,hi]
theorem zAS {t e:TypeId} {i:TypeInfo} {xv:Value} {x:AV} {lo hi:Option Value} {lo' hi':Option AV} (rel:RelH w L ι H nx) (hu:P.underlying t=some (.slice e)) (hinf:P.info? e=some i)
  (hx:VR w (Lt L ι H) ι xv x) (hl:VRO w (Lt L ι H) ι lo lo') (hh:VRO w (Lt L ι H) ι hi hi') (hs:(zhR i.size x lo' hi' H nx).side) :
  zaT P w L ι H nx (Instr.sliceAt t xv lo hi none) (zhR i.size x lo' hi' H nx):=by
 rw[zAT] at hs ⊢
 cases hx with
 |
  sl _ ad sz n cap f V hn hb hc hL hv =>
  simp only at hs ⊢
  cases h1:loOf lo' with
  | none=>simp[h1,bad] at hs
  |
   some a =>
   cases h2:hiOf n hi' with
   | none=>simp[h1,h2,bad] at hs
   |
    some b =>
    simp only[h1,h2] at hs ⊢;obtain⟨rfl,h0,hab,hbn⟩:=hs;refine⟨_,zdE hu hinf (zmj hl hh h1 h2 h0 hab hbn hn),?_,rfl,rfl,trivial⟩
    have e:b.toNat - a.toNat=(b - a).toNat:=by omega
    rw[e]
    have key:∀ad':Addr,(¬cap=a.toNat→ad'=ad.add (a.toNat * i.size))→VR w (Lt L ι H) ι (.slice (some ad') (b - a).toNat (cap - a.toNat)) (.sl i.size (b - a).toNat fun q j=>f (a.toNat+q) j):=by
     intro ad' had;refine .sl _ ad' _ _ _ _ (fun q j=>V (a.toNat+q) j) (by omega) (by omega) (fun q j hq hj=>?_) (fun hp=>?_) (fun q j hq hj=>hv _ _ (by omega) hj)
     · rw[had (by omega),Go.Deep.add_add,Go.Deep.add_add];have:=hc (a.toNat+q) j (by omega) hj;rw[Go.Deep.add_add] at this;rw[show a.toNat * i.size+(q * i.size+j)=(a.toNat+q) * i.size+j by rw[We];omega];exact this
     ·
      have hq:0 < (b - a).toNat:=by
       rcases Wm (b - a).toNat with h|h
       · rw[h] at hp;simp at hp
       · exact h
      have hz:0 < i.size:=by
       rcases Wm i.size with h|h
       · rw[h] at hp;simp at hp
       · exact h
      rw[had (by omega),zc1];exact hL (Wk (by omega) hz)
    split
    · exact key ad (fun h=>absurd ‹_› h)
    · exact key _ (fun _=>rfl)
 |
  sl0 _ sz f =>
  simp only at hs ⊢
  cases h1:loOf lo' with
  | none=>simp[h1,bad] at hs
  |
   some a =>
   cases h2:hiOf 0 hi' with
   | none=>simp[h1,h2,bad] at hs
   |
    some b =>
    simp only[h1,h2] at hs ⊢;obtain⟨rfl,h0,hab,hbn⟩:=hs;refine⟨_,zdE hu hinf (zmj hl hh h1 h2 h0 hab hbn (Wc _)),?_,rfl,rfl,trivial⟩
    have ha:a=0:=by omega
    have hb:b=0:=by omega
    subst ha;subst hb;exact .sl0 _ _ _
 |
  nilsl _ =>
  simp only at hs ⊢
  cases h1:loOf lo' with
  | none=>simp[h1,bad] at hs
  |
   some a =>
   cases h2:hiOf 0 hi' with
   | none=>simp[h1,h2,bad] at hs
   |
    some b =>
    simp only[h1,h2] at hs ⊢;obtain⟨rfl,rfl⟩:=hs;refine⟨_,zdE hu hinf (zmj hl hh h1 h2 (by omega) (by omega) (by omega) (Wc _)),.nilsl _,rfl,rfl,trivial⟩
 |
  own _ r q g off n ad c l hll hmx hn hc ha =>
  simp only at hs ⊢
  cases hg:H.get r q with
  | none=>simp[hg,bad] at hs
  |
   some o =>
   cases o with
   | fam sz ins=>simp[hg,bad] at hs
   |
    row sz' els g' =>
    cases h1:loOf lo' with
    | none=>simp[hg,h1,bad] at hs
    |
     some a =>
     cases h2:hiOf n hi' with
     | none=>simp[hg,h1,h2,bad] at hs
     |
      some b =>
      simp only[hg,h1,h2] at hs ⊢;obtain⟨rfl,rfl,h0,hab,hbn⟩:=hs;obtain⟨l',hl',ok⟩:=rel.row _ _ _ _ _ hg;rw[hll] at hl';cases hl';refine⟨_,zdE hu hinf (zmj hl hh h1 h2 h0 hab hbn hn),?_,rfl,rfl,trivial⟩;rw[show b.toNat - a.toNat=(b - a).toNat by omega];refine .own _ r q g _ _ _ _ l hll hmx (by omega) (by omega) (fun hp=>?_);rw[if_neg (by omega),ha (by omega),Option.map_some,add_mid,ok.hsz,show l.off+off * i.size+a.toNat * i.size=l.off+(off+a.toNat) * i.size by rw[We];omega]
 | _=>simp[bad] at hs
theorem zFl{t e:TypeId}{i:TypeInfo}{xv:Value}{x:AV}(hu:P.underlying t=some (.slice e))(hinf:P.info? e=some i)(hx:VR w (Lt L ι H) ι xv x)(hs:(cutR x H nx).side):
  zaT P w L ι H nx (Instr.sliceAt t xv none (some (.int .i64 0)) (some (.int .i64 0))) (cutR x H nx):=by
 have key:∀(a:Option Addr)(n c:Nat),(Instr.sliceAt t (.slice a n c) none (some (.int .i64 0)) (some (.int .i64 0))).run P w=.ok (.slice a 0 0) w:=fun a n c=>by
  have hb:(Instr.sliceBounds true n c none (some (.int .i64 0)) (some (.int .i64 0))).run P w=.ok (0,0,0) w:=by simp[Instr.sliceBounds,Instr.sliceBound,asIntOf]
  have:=zdE (w:=w) hu hinf (a:=a) hb
  simpa using this
 cases hx with
 | sl _ ad sz n cap f V hn hb hc hL hv=>exact⟨_,key _ _ _,.cut _ _,rfl,rfl,trivial⟩
 | sl0 _ sz f=>exact⟨_,key _ _ _,.cut _ _,rfl,rfl,trivial⟩
 | nilsl _=>exact⟨_,key _ _ _,.cut _ _,rfl,rfl,trivial⟩
 | cut _ a=>exact⟨_,key _ _ _,.cut _ _,rfl,rfl,trivial⟩
 | own _ r q g off n ad c l hll hmx hn hc ha=>exact⟨_,key _ _ _,.cut _ _,rfl,rfl,trivial⟩
 | _=>simp[cutR,bad] at hs
theorem zAn {t ty e:TypeId} {i:TypeInfo} {z:List AV} {xv:Value} {x:AV} (rel:RelH w L ι H nx) (hu:P.underlying t=some (.slice e)) (hi:P.info? e=some i) (hz:zhq P e=some z) (hpos:0 < i.size)
  (hx:VR w (Lt L ι H) ι xv x) (hs:(zj0 i.size z x H nx).side):zgi P w L ι H nx (Builtin.clear_ #[t] ty #[xv]) (zj0 i.size z x H nx):=by
 obtain⟨i',zv,hi',hzv,hzs,hzl,hcr⟩:=zg0 hz;rw[hi] at hi';cases hi'
 cases hx with
 |
  own _ r q0 g off n ad c l hll hmx hn hc ha =>
  cases hg:H.get r q0 with
  | none=>simp[zj0,hg,bad] at hs
  |
   some o =>
   cases o with
   | fam sz ins=>simp[zj0,hg,bad] at hs
   |
    row sz' els g' =>
    simp only[zj0,hg] at hs ⊢;obtain⟨rfl,rfl,hle⟩:=hs;obtain⟨l',hl',ok⟩:=rel.row _ _ _ _ _ hg;rw[hll] at hl';cases hl'
    have hsame:∀l0,ι r q0 g=some l0→l0=l:=fun l0 h0=>by rw[hll] at h0;cases h0;rfl
    rcases Wm n with hn0|hnpos
    ·
     subst hn0;have c1:Chg w ι H r q0 g l w:=⟨rfl,rfl,rfl,Wc _,fun _ _ _=>rfl,fun hpos=>.inl ⟨i.size,els,g,l,hg,hll,hpos,rfl⟩,hsame,fun g2 l2 h2=>rel.gen r q0 _ _ _ hg g2 l2 h2⟩
     have hels:els.take off++Wh 0 z++els.drop (off+0)=els:=by simp
     rw[hels];refine⟨.tuple #[],w,_,?_,c1.step (.inl ⟨_,_,hg⟩) rel (rel.idx _ _ _ _ hll) (Wc _) (.mk' ok.hsz (ok.plain hmx).len hmx (ok.plain hmx).there (ok.plain hmx).fz ok.wide (fun q c' j a h1 h2=>?_)),.undef _ _,trivial⟩
     · cases ad<;>simp[Builtin.clear_,run_underlying hu]
     · obtain⟨v,h3,h4,h5⟩:=ok.holds hmx q c' j a h1 h2;exact⟨v,h3,h4,c1.vr (.inl ⟨_,_,hg⟩) rel h5⟩
    ·
     have had:=ha (by omega);subst had
     have hcap:0 < l.cap * l.sz:=by rw[ok.hsz];exact Wk (by omega) hpos
     have hfr:=FR.zeros (n:=n) (hcr w (Lt L ι H) ι) hzl hpos
     have hzc:(Builtin.zeroCells zv.cells n)=(Wt (n * i.size)).map fun k=>zv.cells[k % zv.cells.size]! := by unfold Builtin.zeroCells;rw[hzs]
     rw[←hzc] at hfr
     have hlen:(Builtin.zeroCells zv.cells n).toList.length=n * i.size:=by rw[Array.length_toList,hfr.size];simp
     have hcc:(off+n) * i.size≤l.cap * i.size:=Wi _ (by omega);rw[We] at hcc
     have hthere:∀j,j < (Builtin.zeroCells zv.cells n).toList.length→(w.cell? ⟨l.block,l.off+off * l.sz+j,none⟩).isSome=true∧w.frozen? ⟨l.block,l.off+off * l.sz+j,none⟩=false:=fun j hj=>by have:=(ok.plain hmx).there (off * i.size+j) (by omega);rw[ok.hsz,Ws];exact this
     have c1:Chg w ι H r q0 g l (w.setCells l.block (l.off+off * l.sz) (Builtin.zeroCells zv.cells n).toList):=.write rel hg hll hcap rfl hsame (Wc _);have hcell:=zh9 w l.block (l.off+off * l.sz) (Builtin.zeroCells zv.cells n).toList (fun j hj=>(hthere j hj).1)
     have hget:∀(q:Nat)(c':List AV),(els.take off++Wh n z++els.drop (off+n))[q]? = some c'→(off≤q∧q < off+n∧c'=z)∨(¬(off≤q∧q < off+n)∧els[q]? = some c'):=by
      intro q c' hq
      have ht:(els.take off).length=off:=by simp;omega
      by_cases h1:q < off
      · right;rw[WG,WB (by omega),WE,if_pos h1] at hq;exact⟨by omega,hq⟩
      ·
       by_cases h2:q < off+n
       · left;rw[WG,WC (by omega),ht,WB (by simp;omega),Wu,if_pos (by omega)] at hq;cases hq;exact⟨by omega,h2,rfl⟩
       ·
        right;rw[WC (by simp;omega),WF] at hq;refine⟨by omega,?_⟩;rw[←hq]
        congr 1
        simp;omega
     refine⟨.tuple #[],_,_,?_,c1.step (.inl ⟨_,_,hg⟩) rel (rel.idx _ _ _ _ hll) (Wc _) (.mk' ok.hsz ?_ hmx (fun q hq=>?_) (fun hp=>((ok.plain hmx).fz hp).setCells) (fun q c' hq=>?_) (fun q c' j a hq hj=>?_)),.undef _ _,trivial⟩
     ·
      have hst:=run_storeCells_cells (P:=P) l.block (l.off+off * l.sz) (Builtin.zeroCells zv.cells n).toList 0 w (fun j hj=>by simpa using (hthere j hj).1) (fun j hj=>by simpa using (hthere j hj).2)
       (fun v hv=>by
        obtain⟨k,hk⟩:=Wab hv
        have hkl:k < n * i.size:=by rw[←hlen];exact(Wf.1 hk).1
        have h1:k / i.size < n:=Wad (by rw[Wv];exact hkl);have h2:k % i.size < i.size:=Nat.mod_lt _ hpos;obtain⟨v',h3,h4,_⟩:=hfr.rel (k / i.size) z (k % i.size) (z.getD (k % i.size) .undef) (by rw[Wu,if_pos h1]) (by simp[Wl,Wd (show k % i.size < z.length by omega)]);rw[Wv,Nat.div_add_mod] at h3;rw[WX] at hk;rw[hk] at h3;cases h3
        exact h4)
      simp only[WW] at hst
      have hne:¬n=0:=by omega
      simp[Builtin.clear_,run_underlying hu,zeroValue,typeInfo,hi,hzv,hst,hne]
     · have:=(ok.plain hmx).len;simp;omega
     ·
      have h0:=(ok.plain hmx).there q hq;rw[hcell,World.frozen?_setCells];refine⟨?_,h0.2⟩;split
      · rw[Wd (by omega)];rfl
      · exact h0.1
     ·
      rcases hget q c' hq with ⟨_,_,rfl⟩ | ⟨_,h⟩
      · exact hzl
      · exact ok.wide _ _ h
     ·
      rcases hget q c' hq with ⟨h1,h2,rfl⟩ | ⟨h1,h2⟩
      ·
       obtain⟨v,h3,h4,h5⟩:=hfr.rel (q - off) c' j a (by rw[Wu,if_pos (by omega)]) hj;refine⟨v,?_,h4,c1.vr (.inl ⟨_,_,hg⟩) rel h5⟩
       have hjl:j < i.size:=by rw[←hzl];exact(Wf.1 hj).1
       have hlt:=zy9 (i:=q - off) (n:=n) (by omega) hjl
       have he:off * i.size+(q - off) * i.size=q * i.size:=by rw[←We];congr 1;omega
       rw[hcell,ok.hsz,if_pos (by omega),show l.off+q * i.size+j - (l.off+off * i.size)=(q - off) * i.size+j by omega,WX];exact h3
      ·
       obtain⟨v,h3,h4,h5⟩:=ok.holds hmx q c' j a h2 hj;refine⟨v,?_,h4,c1.vr (.inl ⟨_,_,hg⟩) rel h5⟩
       have hjl:j < i.size:=by rw[←ok.wide q c' h2];exact(Wf.1 hj).1
       rw[hcell,if_neg,h3];rintro⟨h6,h7⟩;rw[ok.hsz] at h6 h7
       rcases Nat.lt_or_ge q off with hlt|hge
       · have:(q+1) * i.size≤off * i.size:=Wi _ hlt;rw[We] at this;omega
       · have:(off+n) * i.size≤q * i.size:=Wi _ (by omega);rw[We] at this;omega
 | _=>simp[zj0,bad] at hs
inductive VRs(w:World)(M:Nat→Prop)(ι:Inj):List Value→List AV→Prop where
 | nil:VRs w M ι [] []
 | cons {v a vs asv} (h:VR w M ι v a) (t:VRs w M ι vs asv):VRs w M ι (v::vs) (a::asv)
theorem VRs.length{vs:List Value}{asv:List AV}(h:VRs w M ι vs asv):vs.length=asv.length:=by
 induction h with
 | nil=>rfl
 | cons _ _ ih=>simp[ih]
theorem VRs.get{vs:List Value}{asv:List AV}(h:VRs w M ι vs asv):∀(i:Nat)(v:Value)(a:AV),vs[i]? = some v→asv[i]? = some a→VR w M ι v a:=by
 induction h with
 | nil=>intro i v a h;simp at h
 |
  cons h _ ih =>
  intro i v a h1 h2
  cases i with
  | zero=>simp at h1 h2;subst h1;subst h2;exact h
  | succ i=>exact ih i v a (by simpa using h1) (by simpa using h2)
theorem VRs.append{vs us:List Value}{asv bs:List AV}(h:VRs w M ι vs asv)(k:VRs w M ι us bs):VRs w M ι (vs++us) (asv++bs):=by
 induction h with
 | nil=>exact k
 | cons h _ ih=>exact .cons h ih
theorem VRs.ofGet:∀(vs:List Value)(asv:List AV),vs.length=asv.length→(∀(i:Nat)(v:Value)(a:AV),vs[i]? = some v→asv[i]? = some a→VR w M ι v a)→VRs w M ι vs asv
 | [],[],_,_=>.nil
 | v::vs,a::asv,hl,h=>.cons (h 0 v a rfl rfl) (VRs.ofGet vs asv (by simpa using hl) (fun i u b h1 h2=>h (i+1) u b (by simpa using h1) (by simpa using h2)))
theorem zmd{a:Act}{K:Nat→AV}(hk:KOk w M ι a.tmps K):∀{xs:List Operand}{ys:List AOpd},xs.mapM copd=some ys→VRs w M ι (xs.map a.eval) (evs K ys)
 | [],ys,h=>by simp at h;subst h;exact .nil
 |
  x::xs,ys,h=>by
  simp only[WN,WO,WP,WQ,Wn] at h;obtain⟨b,hb,bs,hbs,rfl⟩:=h;exact .cons (zp hk hb) (zmd hk hbs)
end
end Go.Ab
