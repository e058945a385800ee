/-
  Part 5 of the proof: how the calls of this program run, over values instead of memory, and what each function computes.
-/
import Derived.LoopN
import Derived.Test.YtjcbhpmmngfmeaaGreatKd
set_option maxRecDepth 100000
set_option linter.unusedVariables false
set_option linter.unusedSimpArgs false
set_option linter.unnecessarySimpa false
set_option linter.unusedSectionVars false
open Nat renaming beq→Wa,ble→Wc,blt→Wd
open Bool renaming and_eq_true→We
open Option.some renaming injEq→Wf
namespace Go.Ab
open Go.RowKit
section
variable {P:Program}
theorem zuM {fx:Bool} {o:AOper} {K:Kn} {H:AH} {nx:Nat} {k k':Kn→AH→Nat→Prop} (hk:∀K H nx,k K H nx→k' K H nx) (h:ExK P fx o K H nx k):ExK P fx o K H nx k':=by
 unfold ExK at *
 cases hg:o.guard with
 | none=>rw[hg] at h;exact zf1 (fun v H nx h=>hk _ _ _ h) h
 |
  some p =>
  obtain⟨t,want⟩:=p;rw[hg] at h;simp only at h ⊢
  cases hv:grd want (K.get t) with
  | some b=>rw[hv] at h;exact⟨fun e=>zf1 (fun v H nx h=>hk _ _ _ h) (h.1 e),fun e=>hk _ _ _ (h.2 e)⟩
  | none=>rw[hv] at h;exact h
def zA7:Kn→List (Nat × AV)→Kn
 | K,[]=>K
 | K,(d,v)::r=>zA7 (K.set d v) r
abbrev Plan:=List (Nat × List Nat × List Nat)
def beqL:List Nat→List Nat→Bool
 | [],[]=>true
 | a::l,b::m=>Wa a b&&beqL l m
 | _,_=>false
def memP:Plan→Nat→List Nat→List Nat→Bool
 | [],_,_,_=>false
 | (i,k,k')::r,a,b,c=>(Wa i a&&(beqL k b&&beqL k' c))||memP r a b c
def anyP:Plan→Nat→Bool
 | [],_=>false
 | (i,k,k')::r,a=>(Wa i a&&beqL k k')||anyP r a
def zlv (Ls:List Nat) (A:List (List Nat)) (i:Nat) (S:List Nat):Bool :=
 !memN S i&&(Ls.all (fun m => !memN (A.getD i []) m||memN S m)&&S.all fun m => !memN (A.getD m []) i)
def zvH (Ls:List Nat) (i:Nat) (S:List Nat):List Nat:=Ls.filter fun m=>Wa m i||memN S m
structure DrawOk (ops:List AOper) (deps:List (List Nat)) (Ls:List Nat) (A:List (List Nat)) (St:List (List Nat)) (plan:Plan) (ks:List Nat):Prop where
 low:∀(i:Nat),i < ops.length→∀j∈deps.getD i [],j < i
 clo:∀(i:Nat),i < ops.length→∀j∈A.getD i [],j∈deps.getD i []∨∃d∈deps.getD i [],j∈A.getD d []
 one:∀(i j d:Nat),i < ops.length→j < ops.length→(ops.getD i default).dst=some d→(ops.getD j default).dst=some d→i=j
 keys:∀k∈ks,∃o∈ops,o.dst=some k
 look:∀(i:Nat),i < ops.length→∀t∈(ops.getD i default).looks,(∃j∈A.getD i [],(ops.getD j default).dst=some t)∨∀o∈ops,o.dst≠some t
 lin:∀i∈Ls,i < ops.length
 st0:[]∈St
 stc:∀S∈St,∀i∈Ls,zlv Ls A i S=true→zvH Ls i S∈St
 plan:∀(i:Nat),i < ops.length→((ops.getD i default).fixed=true∧(ops.getD i default).sees=false∧i∉Ls∧anyP plan i=true) ∨
  (i∉Ls∧∀S∈St,zlv Ls A i S=true→memP plan i S S=true)∨(i∈Ls∧∀S∈St,zlv Ls A i S=true→memP plan i S (zvH Ls i S)=true)
def allB (n:Nat) (p:Nat→Bool):Bool:=(List.range n).all p
structure DInv (ops:List AOper) (deps:List (List Nat)) (Ls:List Nat) (St:List (List Nat)) (Kf:Kn) (hs:List Nat→AH × Nat) (l:List Bool) (K:Kn) (H:AH) (nx:Nat):Prop where
 clo:∀i,i < ops.length→getB l i=true→∀j∈deps.getD i [],getB l j=true
 done:∀i d,i < ops.length→getB l i=true→(ops.getD i default).dst=some d→K.get d=Kf.get d
 rest:∀t,(∀o∈ops,o.dst≠some t)→K.get t=Kf.get t
 here:Ls.filter (getB l)∈St
 rows:(H,nx)=hs (Ls.filter (getB l))
end
def AV.lt0 (n:Nat):AV→Bool
 | .ptr r _ _ _ _=>Wd r n
 | .own r _ _ _ _=>Wd r n
 | .mp r _=>Wd r n
 | .it r=>Wd r n
 | .fn _ _ | .agg _ | .tup _=>false
 | _=>true
def AV.lt1 (n:Nat):AV→Bool
 | .fn _ l=>l.all (AV.lt0 n)
 | .agg l=>l.all (AV.lt0 n)
 | .tup l=>l.all (AV.lt0 n)
 | a=>a.lt0 n
def zlZ (n:Nat) (els:List (List AV)):Prop:=∀c∈els,c.all (AV.lt0 n)=true
def zji (n:Nat):AH→Prop
 | []=>True
 | (r,.row _ els _)::t=>(r < n∧zlZ n els)∧zji n t
 | (r,.fam _ ins)::t=>(r < n∧∀p∈ins,zlZ n p.1)∧zji n t
theorem zpI {n:Nat} {c:List AV} (h:zt c=true):c.all (AV.lt0 n)=true:=by
 induction c with
 | nil=>rfl
 |
  cons a c ih =>
  simp only[zt,We] at h;simp only[List.all_cons,We];refine⟨?_,ih h.2⟩
  cases a<;>first|rfl | (have:=h.1;cases this;done)
theorem zhH {n:Nat} {els:List (List AV)} (h:∀c∈els,zt c=true):zlZ n els:=fun c hc=>zpI (h c hc)
theorem zn3 {α:Type} {n:Nat} {f:α→List AV} {l:List α} (h:∀a,zt (f a)=true):zlZ n (l.map f):=fun c hc=>by obtain⟨a,_,rfl⟩:=List.mem_map.1 hc;exact zpI (h a)
theorem zh6 {n:Nat}:∀ {H:AH},zji n H→∀ {r:Nat} {o:AObj},H.look r=some o→r < n∧∀q sz els g,o.part q=some (.row sz els g)→zlZ n els
 | [],_,_,_,h=>by cases h
 |
  (j,.row s e g0)::t,h,r,o,hl=>by
  simp only[AH.look] at hl
  cases hb:Wa j r with
  |
   true =>
   rw[hb] at hl;simp only[cond_true,Wf] at hl;subst hl;rw[←zL hb];refine⟨h.1.1,fun q sz els g hp=>?_⟩
   cases q with
   | zero=>simp only[AObj.part,Wf,AObj.row.injEq] at hp;rw[←hp.2.1];exact h.1.2
   | succ q=>simp[AObj.part] at hp
  | false=>rw[hb] at hl;exact zh6 h.2 hl
 |
  (j,.fam s ins)::t,h,r,o,hl=>by
  simp only[AH.look] at hl
  cases hb:Wa j r with
  |
   true =>
   rw[hb] at hl;simp only[cond_true,Wf] at hl;subst hl;rw[←zL hb];refine⟨h.1.1,fun q sz els g hp=>?_⟩
   cases q with
   | zero=>simp[AObj.part] at hp
   |
    succ i =>
    simp only[AObj.part] at hp;obtain⟨p,hp1,hp2⟩:=Option.map_eq_some_iff.1 hp;cases hp2;exact h.1.2 p (List.mem_of_getElem? hp1)
  | false=>rw[hb] at hl;exact zh6 h.2 hl
theorem zwh {n:Nat} {H:AH} (h:zji n H) {r q sz:Nat} {els:List (List AV)} {g:Nat} (hg:H.get r q=some (.row sz els g)):r < n∧zlZ n els:=by unfold AH.get at hg;obtain⟨o,h1,h2⟩:=Option.bind_eq_some_iff.1 hg;have:=zh6 h h1;exact⟨this.1,this.2 q sz els g h2⟩
theorem zfU {α:Type} {f:α→List AV} {l:List α} (h:∀a,zt (f a)=true):zu (l.map f):=fun c hc=>by obtain⟨a,_,rfl⟩:=List.mem_map.1 hc;exact h a
theorem zjI {c:List AV} (h:zt c=true):zu [c]:=fun d hd=>by rw[List.mem_singleton.1 hd];exact h
theorem zvg:zu []:=fun d hd=>by cases hd
theorem zhQ {c:List AV} {l:List (List AV)} (h:zt c=true) (h2:zu l):zu (c::l):=fun d hd=>by
 rcases List.mem_cons.1 hd with rfl|hd
 · exact h
 · exact h2 d hd
theorem zsl {l m:List (List AV)} (h:zu l) (h2:zu m):zu (l++m):=fun d hd=>by
 rcases List.mem_append.1 hd with hd|hd
 · exact h d hd
 · exact h2 d hd
theorem zut {H HH:AH} {σ:Nat→Nat→Option (Nat × Nat × Nat)} {D:Nat→Nat→Prop} {t:Bool}:∀ {l:List AV},zt l=true→VwL H HH σ D t l l
 | [],_=>trivial
 |
  a::l,h=>by
  simp only[zt,We] at h;exact⟨zco h.1,zut h.2⟩
theorem RowV.of_flat {H HH:AH} {σ:Nat→Nat→Option (Nat × Nat × Nat)} {D:Nat→Nat→Prop} {els:List (List AV)} (h:zu els):RowV H HH σ D els els:=zhZ h
theorem evA:type_of% @evS∧type_of% @evZ∧type_of% @evX∧type_of% @evK∧type_of% @evB∧type_of% @evL∧type_of% @evR:=⟨@evS,@evZ,@evX,@evK,@evB,@evL,@evR⟩
theorem evWA:type_of% @evW∧type_of% @evK∧type_of% @evB∧type_of% @evL:=⟨@evW,@evK,@evB,@evL⟩
theorem dis1 {p:Prop} (h:p:=by first|omega | (simp only[evF,evL,implies_true,and_self];done)|fail):p:=h
def Im (q p:Prop):Prop:=q→p
theorem Im.i {α:Sort _}{q p:α→Prop}(h:∀x,Im (q x) (p x)):Im (∀x,q x) (∀x,p x):=fun k x=>h x (k x)
theorem Im.a {q a b:Prop}(ha:a)(h:Im q b):Im q (a∧b):=fun k=>⟨ha,h k⟩
theorem Im.r {p:Prop}:Im p p:=fun h=>h
theorem aJ {a b:Prop}(hb:b)(ha:a:=by with_unfolding_all omega):a∧b:=⟨ha,hb⟩
theorem fin1 {p:Prop} (h:p:=by(repeat' with_reducible apply And.intro)<;>first|omega|exact znJ rfl rfl (by omega)|exact zaV rfl rfl (by omega)|exact znc rfl rfl (by omega)|exact zhZ (by repeat' first|exact bytes_flat|exact flat1|refine flat_app ?_ ?_)|exact ztv (fun _=>rfl)|exact zlP (c:=cN) (fun _=>rfl) rfl|exact zhD (fun _=>rfl) (by decide) ⟨rfl,rfl⟩ trivial|exact zhD (fun _=>rfl) (by decide) (fun _ _=>⟨rfl,rfl⟩) trivial | (simp;done)|fail):p:=h
theorem fin2 {p:Prop} (h:p:=by((repeat' with_reducible apply And.intro)<;>first|omega|rfl|exact zut rfl | (refine RowV.of_flat ?_;(repeat' (first|exact zfU (fun _=>rfl)|exact zfU (fun _=>zaK)|exact zfU (fun _=>zn)|exact zjI zaK|exact zjI zn|exact zvh rfl|exact zvg|exact zjI rfl|refine zsl ?_ ?_|refine zhQ rfl ?_|refine zhQ zaK ?_|refine zhQ zn ?_));done) | ((repeat' (first|exact zfU (fun _=>rfl)|exact zfU (fun _=>zaK)|exact zfU (fun _=>zn)|exact zjI zaK|exact zjI zn|exact zvh rfl|exact zvg|exact zjI rfl|refine zsl ?_ ?_|refine zhQ rfl ?_|refine zhQ zaK ?_|refine zhQ zn ?_));done)|exact znJ rfl rfl (by omega)|exact zaV rfl rfl (by omega)|exact znc rfl rfl (by omega)|exact ztv (fun _=>rfl)|exact zhD (fun _=>rfl) (by decide) ⟨rfl,rfl⟩ trivial|exact zhD (fun _=>rfl) (by decide) (fun _ _=>⟨rfl,rfl⟩) trivial | (simp;done)|fail)):p:=h
def loadS (n:Nat) (p:AV) (H:AH):Bool :=
 match p with
 |
  .ptr r q g i f=>match H.get r q with
  | some (.row sz els g')=>Wa g g'&&(Wd i els.length&&Wc (f+n) sz)
  | _=>false
 | .iptr m _=>Wc n m
 | _=>false
def storeS (n:Nat) (p v:AV) (H:AH):Bool :=
 match p with
 |
  .ptr r q g i f=>match H.get r q with
  | some (.row sz els g')=>Wa g g'&&(Wd i els.length&&(Wc (f+n) sz&&(v.solid&&Wa v.cells.length n)))
  | _=>false
 | _=>false
def idxS (sz:Nat) (x i:AV) (H:AH):Bool :=
 match x,i with
 | .sl sz' n _,.int _ k=>Wa sz' sz&&(decide (0≤k)&&decide (k < n))
 |
  .own r q g _ n,.int _ k=>match H.get r q with
  | some (.row sz' _ g')=>Wa sz' sz&&(Wa g g'&&(decide (0≤k)&&decide (k < n)))
  | _=>false
 | _,_=>false
def zzK (off n:Nat) (x:AV):Bool :=
 match x with
 | .ptr ..=>true
 | .iptr m _=>Wc (off+n) m
 | _=>false
def fldS (off n:Nat) (x:AV):Bool :=
 match x with
 | .agg cs=>Wc (off+n) cs.length
 | _=>false
def lenS (x:AV):Bool :=
 match x with
 | .sl .. | .own .. | .nilsl | .cut=>true
 | _=>false
def slenS (x:AV):Bool :=
 match x with
 | .str _=>true
 | _=>false
def binS (op:BinOp) (x y:AV):Bool :=
 match x,y with
 |
  .int k _,.int k' b=>match op with
  | .quo | .rem=>decide (k=k')&&decide (b≠0)
  | .shl | .shr=>decide (0≤b)
  | _=>decide (k=k')
 | _,_=>false
def eqbS (x y:AV):Bool :=
 match x,y with
 | .bool _,.bool _=>true
 | _,_=>false
def unS (op:UnOp) (x:AV):Bool :=
 match op,x with
 | .not,.bool _=>true
 | .neg,.int _ _=>true
 | _,_=>false
def convS (x:AV):Bool :=
 match x with
 | .int _ _=>true
 | _=>false
def pickS (c:AV):Bool :=
 match c with
 | .bool _=>true
 | _=>false
def fillS (n:Nat):List (Nat × Nat × AV)→Bool
 | []=>true
 | (off,size,v)::r=>(v.solid&&(Wa v.cells.length size&&Wc (off+size) n))&&fillS n r
def setS (n sz:Nat):List (Nat × AV)→Bool
 | []=>true
 | (i,v)::r=>(v.solid&&(Wa v.cells.length sz&&Wd i n))&&setS n sz r
def mkslS (bytes:Nat) (l c:AV):Bool :=
 match l,c with
 | .int k n,.int k' m=>decide (k=.i64)&&(decide (k'=.i64)&&(decide (0≤n)&&(decide (n≤m)&&(decide (bytes * m≤140737488355328)&&Wd 0 bytes))))
 | _,_=>false
def loI:Option AV→Option Int
 | none=>some 0
 | some (.int _ k)=>some k
 | _=>none
def hiI (n:Nat):Option AV→Option Int
 | none=>some n
 | some (.int _ k)=>some k
 | _=>none
def sliceS (sz:Nat) (x:AV) (lo hi:Option AV) (H:AH):Bool :=
 match x with
 |
  .sl sz' n _=>match loI lo,hiI n hi with
  | some a,some b=>Wa sz' sz&&(decide (0≤a)&&(decide (a≤b)&&decide (b≤n)))
  | _,_=>false
 |
  .own r q g _ n=>match H.get r q,loI lo,hiI n hi with
  | some (.row sz' _ g'),some a,some b=>Wa sz' sz&&(Wa g g'&&(decide (0≤a)&&(decide (a≤b)&&decide (b≤n))))
  | _,_,_=>false
 |
  .nilsl=>match loI lo,hiI 0 hi with
  | some a,some b=>decide (a=0)&&decide (b=0)
  | _,_=>false
 | _=>false
def cutS (x:AV):Bool :=
 match x with
 | .sl _ _ _ | .own _ _ _ _ _ | .nilsl | .cut=>true
 | _=>false
def zBz (H:AH):AV→Bool
 |
  .own r q _ off n=>match H.get r q with
  | some (.row _ els _)=>Wc (off+n) els.length
  | _=>false
 | _=>true
def zCl (sz bytes:Nat) (x y:AV) (H:AH):Bool :=
 match zea sz y H,lenV y with
 |
  some _,some m=>match x with
  |
   .own r q g off n=>match H.get r q with
   | some (.row sz' els g')=>Wa sz' sz&&(Wa g g'&&(Wc (off+n) els.length&&(zBz H y&&Wc ((n+m) * bytes) 140737488355328)))
   | _=>false
  | .nilsl | .cut=>zBz H y&&Wc (m * bytes) 140737488355328
  | _=>false
 | _,_=>false
def clearS (sz:Nat) (x:AV) (H:AH):Bool :=
 match x with
 |
  .own r q g off n=>match H.get r q with
  | some (.row sz' els g')=>Wa sz' sz&&(Wa g g'&&Wc (off+n) els.length)
  | _=>false
 | _=>false
def extS (i:Nat) (x:AV):Bool :=
 match x with
 | .tup vs=>Wd i vs.length
 | _=>false
def keyS:Option IntKind→AV→Bool
 | some q,.int k _=>decide (q=k)
 | none,.str _=>true
 | _,_=>false
def xopS:XOp→List AV→AH→Bool
 |
  .mark,[.own r q g _ n],H=>match H.get r q with
  | some (.row sz _ g')=>Wa sz 1&&(Wa g g'&&Wd 0 n)
  | _=>false
 | .nilck,[.ptr ..],_=>true
 | .nilck,[.iptr ..],_=>true
 | .seq _,[.str _,.str _],_=>true
 | .sidx,[.str s,.int _ k],_=>decide (0≤k)&&decide (k < s.size)
 |
  .b2s,[x],H=>match zea 1 x H with
  | some els=>(zeO els).isSome&&(zBz H x&&(lenV x).isSome)
  | none=>false
 | .s2b,[.str _],_=>true
 |
  .sapp,[.own r q g off n,.str s],H=>match H.get r q with
  | some (.row sz' els g')=>Wa sz' 1&&(Wa g g'&&(Wc (off+n) els.length&&Wc (n+s.size) 140737488355328))
  | _=>false
 | .sapp,[.nilsl,.str s],_=>Wc s.size 140737488355328
 | .sapp,[.cut,.str s],_=>Wc s.size 140737488355328
 | .min,[.int k _,.int k' _],_=>decide (k=k')
 | .max,[.int k _,.int k' _],_=>decide (k=k')
 | .eqs _ ss,[.agg a,.agg b],_=>(zO ss a b).isSome
 | .sl3 sz,[.sl sz' n _,.int _ b,.int _ c],_=>Wa sz' sz&&(decide (0≤b)&&(decide (b≤c)&&decide (c≤n)))
 |
  .sl3 sz,[.own r q g _ n,.int _ b,.int _ c],H=>match H.get r q with
  | some (.row sz' _ g')=>Wa sz' sz&&(Wa g g'&&(decide (0≤b)&&(decide (b≤c)&&decide (c≤n))))
  | _=>false
 | .sl3 _,[.nilsl,.int _ b,.int _ c],_=>decide (b=0)&&decide (c=0)
 | .capn,[.nilsl],_=>true
 | .apz sz bytes _,[.nilsl,.int _ n],_=>decide (0≤n)&&(decide (n * bytes≤140737488355328)&&(Wd 0 sz&&Wd 0 bytes))
 | .mkmap,[],_=>true
 | .mlook str _ _,[.nilmp,k],_=>keyS str k
 |
  .mlook str _ _,[.mp r q,k],H=>match H.get r q with
  | some (.row sz (_::es) g)=>(zf3 k es 0).isSome&&(Wa sz 3&&(Wa g 0&&keyS str k))
  | _=>false
 |
  .mset str,[.mp r q,k,_],H=>match H.get r q with
  | some (.row sz ([.int .i64 c,_,_]::es) g)=>(zf3 k es 0).isSome&&(Wa sz 3&&(Wa g 0&&(keyS str k&&decide (c < 1152921504606846976))))
  | _=>false
 | .mlen,[.nilmp],_=>true
 |
  .mlen,[.mp r q],H=>match H.get r q with
  | some (.row sz (_::es) g)=>Wa sz 3&&(Wa g 0&&Wc es.length big)
  | _=>false
 | .mdel str,[.nilmp,k],_=>keyS str k
 |
  .mdel str,[.mp r q,k],H=>match H.get r q with
  | some (.row sz (_::es) g)=>(zf3 k es 0).isSome&&(Wa sz 3&&(Wa g 0&&keyS str k))
  | _=>false
 | .mrange,[.nilmp],_=>true
 |
  .mrange,[.mp r q],H=>match H.get r q with
  | some (.row sz ([.int .i64 _,_,_]::_) g)=>Wa sz 3&&Wa g 0
  | _=>false
 | .aidx len sz _,[.agg cs,.int _ k],_=>decide (0≤k)&&(decide (k < len)&&Wc (len * sz) cs.length)
 | .aaddr len _,[.ptr ..,.int _ k],_=>decide (0≤k)&&decide (k < len)
 | .aaddr len sz,[.iptr m _,.int _ k],_=>decide (0≤k)&&(decide (k < len)&&Wc (len * sz) m)
 | _,_,_=>false
def sideB:AOp→(Nat→AV)→AH→Bool
 | .mov _,_,_=>true
 | .mknil _,_,_=>true
 | .pick c _ _,K,_=>pickS (ev K c)
 | .load _ n p,K,H=>loadS n (ev K p) H
 | .store n p v,K,H=>storeS n (ev K p) (ev K v) H
 | .idx sz x i,K,H=>idxS sz (ev K x) (ev K i) H
 | .fldaddr off n x,K,_=>zzK off n (ev K x)
 | .fld off n _ x,K,_=>fldS off n (ev K x)
 | .len x,K,_=>lenS (ev K x)
 | .slen x,K,_=>slenS (ev K x)
 | .bin op x y,K,_=>binS op (ev K x) (ev K y)
 | .eqb _ x y,K,_=>eqbS (ev K x) (ev K y)
 | .un op x,K,_=>unS op (ev K x)
 | .conv _ x,K,_=>convS (ev K x)
 | .build zero parts,K,_=>fillS zero.length (zc2 K parts)
 | .buildSl sz len _ parts,K,_=>setS len sz (zhN K parts)
 | .box x,K,_=>(ev K x).solid
 | .rbox x,K,_=>(ev K x).solid&&zt (ev K x).cells
 | .rbuildSl sz len z parts,K,_=>setS len sz (zhN K parts)&&(zeh (List.replicate len z) (zhN K parts)).all zt
 | .alloc _,_,_=>true
 | .mksl _ bytes _ l c,K,_=>mkslS bytes (ev K l) (ev K c)
 | .slice sz x lo hi,K,H=>sliceS sz (ev K x) (evO K lo) (evO K hi) H
 | .cut x,K,_=>cutS (ev K x)
 | .mkfn _ _,_,_=>true
 | .append sz bytes x y,K,H=>zCl sz bytes (ev K x) (ev K y) H
 | .clear sz _ x,K,H=>clearS sz (ev K x) H
 | .ext i x,K,_=>extS i (ev K x)
 | .xop x args,K,H=>xopS x (evs K args) H
 | _,_,_=>false
def frzV:Nat→AH→AV→AV
 | 0,_,_=>.undef
 |
  d+1,H,v=>match v with
  |
   .own r q g off n=>match H.get r q with
   | some (.row sz els g')=>bif Wa g g'&&(Wc n big&&Wc (off+n) els.length) then .sl sz n (fun i j=>frzV d H ((els.getD (off+i) []).getD j .undef)) else .undef
   | _=>.undef
  |
   .ptr r q g i o=>match H.get r q with
   | some (.row sz els g')=>bif Wa g g'&&(Wd i els.length&&Wc o sz) then .iptr (sz - o) (fun j=>frzV d H ((els.getD i []).getD (o+j) .undef)) else .undef
   | _=>.undef
  | .agg l=>.agg (l.map (frzV d H))
  | .tup l=>.tup (l.map (frzV d H))
  | .fn f l=>.fn f (l.map (frzV d H))
  | .mp _ _=>.undef
  | .it _=>.undef
  | .nilmp=>.undef
  | v=>v
abbrev zyN:=FuncId→List AV→AH→Nat→Option (AV × AH × Nat)
def quietX (call:zyN) (f:FuncId) (args:List AV) (H:AH):Option AV :=
 bif args.all AV.flat then
  match call f args [] 0 with
  | some (v,H',_)=>some (frzV 9 H' v)
  | none=>none
 else
  match call f (args.map (frzV 9 H)) [] 0 with
  | some (v,H',_)=>bif (frzV 9 H' v).scal then some (frzV 9 H' v) else none
  | none=>none
def bodyX (P:Program) (call:zyN) (op:AOp) (ρ:Nat→AV) (H:AH) (nx:Nat):Option (AV × AH × Nat) :=
 match op with
 | .call f args=>call f (evs ρ args) H nx
 |
  .callq f args=>match quietX call f (evs ρ args) H with
  | some v=>some (v,H,nx)
  | none=>none
 |
  .isnil neg p x=>match nilB p (ev ρ x) with
  | some (some b)=>some (.bool (b != neg),H,nx)
  | _=>none
 | .mnext _=>none
 | .append2 ..=>none
 |
  .callv x args=>match ev ρ x with
  | .fn (.func f) caps=>bif zcW P f then call f (evs ρ args++caps) H nx else none
  | _=>none
 | op=>bif sideB op ρ H then some ((aop op ρ H nx).v,(aop op ρ H nx).H,(aop op ρ H nx).nx) else none
abbrev Sg:=Nat→Option Nat
def isS (σ:Sg) (r' r:Nat):Bool:=match σ r' with
 | some x=>Wa x r
 | none=>false
def okB (σ:Sg):Nat→AV→Bool
 | 0,_=>false
 |
  d+1,v=>match v with
  | .own r _ _ _ _=>isS σ r r
  | .ptr r _ _ _ _=>isS σ r r
  | .mp r _=>isS σ r r
  | .it r=>isS σ r r
  | .agg l=>l.all (okB σ d)
  | .tup l=>l.all (okB σ d)
  | .fn _ l=>l.all (okB σ d)
  | _=>true
def zq6 {α β:Type} (p:α→β→Bool):List α→List β→Bool
 | [],[]=>true
 | a::l,b::m=>p a b&&zq6 p l m
 | _,_=>false
def zAY:IntKind→Nat
 | .i8=>0 | .i16=>1 | .i32=>2 | .i64=>3 | .u8=>4 | .u16=>5 | .u32=>6 | .u64=>7
def beqI:Int→Int→Bool
 | .ofNat a,.ofNat b=>Wa a b
 | .negSucc a,.negSucc b=>Wa a b
 | _,_=>false
def beqU:List UInt8→List UInt8→Bool
 | [],[]=>true
 | a::l,b::m=>Wa a.toNat b.toNat&&beqU l m
 | _,_=>false
def beqS (s t:ByteArray):Bool:=beqU s.data.toList t.data.toList
def fnN:Fn→Option Nat
 | .func f=>some f
 | _=>none
def vw0B:Nat→AV→AV→Bool
 | 0,_,_=>false
 |
  d+1,a,b=>match a,b with
  | _,.undef=>true
  | .int k n,.int k' n'=>Wa (zAY k) (zAY k')&&beqI n n'
  | .bool x,.bool y=>x == y
  | .str s,.str t=>beqS s t
  | .nilp,.nilp=>true
  | .nilsl,.nilsl=>true
  | .nilfn,.nilfn=>true
  | .nilmp,.nilmp=>true
  | .cut,.cut=>true
  | .sl sz n f,.sl sz' n' f'=>Wa sz sz'&&(Wa n n'&&allB n fun i=>allB sz fun j=>vw0B d (f i j) (f' i j))
  | .iptr n c,.iptr n' c'=>Wa n n'&&allB n fun j=>vw0B d (c j) (c' j)
  | .agg l,.agg m=>zq6 (vw0B d) l m
  | .tup l,.tup m=>zq6 (vw0B d) l m
  | .fn f l,.fn g m=>(match fnN f,fnN g with|some x,some y=>Wa x y|_,_=>false)&&zq6 (vw0B d) l m
  | _,_=>false
def vwB (σ:Sg):Nat→AV→AV→Bool
 | 0,_,_=>false
 |
  d+1,a,b=>match a,b with
  | _,.undef=>true
  | .int k n,.int k' n'=>Wa (zAY k) (zAY k')&&beqI n n'
  | .bool x,.bool y=>x == y
  | .str s,.str t=>beqS s t
  | .nilp,.nilp=>true
  | .nilsl,.nilsl=>true
  | .nilfn,.nilfn=>true
  | .nilmp,.nilmp=>true
  | .cut,.cut=>true
  | .own r q g o n,.own r' q' g' o' n'=>isS σ r' r&&(Wa q q'&&(Wa g g'&&(Wa o o'&&Wa n n')))
  | .ptr r q g o n,.ptr r' q' g' o' n'=>isS σ r' r&&(Wa q q'&&(Wa g g'&&(Wa o o'&&Wa n n')))
  | .mp r q,.mp r' q'=>isS σ r' r&&Wa q q'
  | .it r,.it r'=>isS σ r' r
  | .sl sz n f,.sl sz' n' f'=>vw0B (d+1) (.sl sz n f) (.sl sz' n' f')
  | .iptr n c,.iptr n' c'=>vw0B (d+1) (.iptr n c) (.iptr n' c')
  | .agg l,.agg m=>zq6 (vwB σ d) l m
  | .tup l,.tup m=>zq6 (vwB σ d) l m
  | .fn f l,.fn g m=>(match fnN f,fnN g with|some x,some y=>Wa x y|_,_=>false)&&zq6 (vwB σ d) l m
  | _,_=>false
def sgR (lo cnt top nx2:Nat):Sg:=fun r' =>
 bif Wc lo r'&&Wd r' (lo+cnt) then some (r' - lo+top) else bif Wd r' top&&Wd r' nx2 then some r' else none
def rowB (σ:Sg):List AV→List AV→Bool:=zq6 (vwB σ 30)
def rowsB (σ:Sg) (nx2:Nat) (H:AH):AH→Bool
 | []=>true
 | (r',o)::t=>(Wd r' nx2&&(match o with
   |
    .row sz els2 g2=>match σ r' with
    |
     some r=>match H.look r with
     | some (.row sz' els g)=>Wa sz sz'&&(Wa g g2&&zq6 (rowB σ) els els2)
     | _=>false
    | none=>false
   | _=>false))&&rowsB σ nx2 H t
section
variable {P:Program}
def valX (P:Program) (call:zyN) (o:AOper) (ρ:Nat→AV) (H:AH) (nx:Nat):Option (AV × AH × Nat) :=
 match o.guard with
 | none=>bodyX P call o.op ρ H nx
 |
  some (t,want)=>match grd want (ρ t) with
  | some true=>bodyX P call o.op ρ H nx
  | some false=>some (.tup [],H,nx)
  | none=>none
abbrev STab:=List (List Nat × AH)
def zCu:STab→List Nat→AH
 | [],_=>[]
 | (S,H)::t,S'=>bif beqL S S' then H else zCu t S'
def forbS (ops:List AOper) (A:List (List Nat)) (i:Nat):List Nat :=
 (List.range ops.length).filterMap fun j=>bif Wa j i||memN (A.getD j []) i then (ops.getD j default).dst else none
def seenK (ops:List AOper) (A:List (List Nat)) (K0 Kf:Kn) (i:Nat):Kn:=zA7 Kf ((forbS ops A i).map fun t=>(t,K0.get t))
def idS:Sg:=fun r=>some r
def dstB (σ:Sg) (Kf:Kn):Option Nat→AV→Bool
 | none,_=>true
 | some d,v=>vwB σ 30 v (Kf.get d)
def chkE (P:Program) (call:zyN) (ops:List AOper) (A:List (List Nat)) (K0 Kf:Kn) (rs:List (Nat × Nat)) (nx top:Nat) (tab:STab) (e:Nat × List Nat × List Nat):Bool :=
 match valX P call (ops.getD e.1 default) (seenK ops A K0 Kf e.1).get (zCu tab e.2.1) top with
 |
  some (v,H',_) =>
  bif (ops.getD e.1 default).fixed then dstB idS Kf (ops.getD e.1 default).dst v
  else Wc nx (rs.getD e.1 (0,0)).1&&(Wc ((rs.getD e.1 (0,0)).1+(rs.getD e.1 (0,0)).2) top &&
   (rowsB (sgR (rs.getD e.1 (0,0)).1 (rs.getD e.1 (0,0)).2 top top) top H' (zCu tab e.2.2) &&
   (dstB (sgR (rs.getD e.1 (0,0)).1 (rs.getD e.1 (0,0)).2 top top) Kf (ops.getD e.1 default).dst v &&
   ((Kf.all fun p=>memN (forbS ops A e.1) p.1||okB (sgR (rs.getD e.1 (0,0)).1 (rs.getD e.1 (0,0)).2 top top) 30 p.2) &&
   K0.all fun p=>okB (sgR (rs.getD e.1 (0,0)).1 (rs.getD e.1 (0,0)).2 top top) 30 p.2))))
 | none=>false
structure DR where
 Kf:Kn
 H:AH
 top:Nat
structure DOk (ops:List AOper) (deps:List (List Nat)) (Ls:List Nat) (A:List (List Nat)) (St:List (List Nat)) (plan:Plan) (ks:List Nat):Prop where
 low:∀(i:Nat),i < ops.length→∀j∈deps.getD i [],j < i
 clo:∀(i:Nat),i < ops.length→∀j∈A.getD i [],j∈deps.getD i []∨∃d∈deps.getD i [],j∈A.getD d []
 one:∀(i j d:Nat),i < ops.length→j < ops.length→(ops.getD i default).dst=some d→(ops.getD j default).dst=some d→i=j
 keys:∀k∈ks,∃j,j < ops.length∧(ops.getD j default).dst=some k
 look:∀(i:Nat),i < ops.length→∀t∈(ops.getD i default).looks,(∃j∈A.getD i [],(ops.getD j default).dst=some t)∨∀j,j < ops.length→(ops.getD j default).dst=some t→j=i∨i∈A.getD j []
 lin:∀i∈Ls,i < ops.length
 st0:[]∈St
 stc:∀S∈St,∀i∈Ls,zlv Ls A i S=true→zvH Ls i S∈St
 plan:∀(i:Nat),i < ops.length→((ops.getD i default).fixed=true∧(ops.getD i default).sees=false∧i∉Ls∧anyP plan i=true) ∨
  (i∉Ls∧∀S∈St,zlv Ls A i S=true→memP plan i S S=true)∨(i∈Ls∧∀S∈St,zlv Ls A i S=true→memP plan i S (zvH Ls i S)=true)
structure DX (P:Program) (call:zyN) (ops:List AOper) (deps:List (List Nat)) (Ls:List Nat) (A:List (List Nat)) (St:List (List Nat)) (plan:Plan) (ks:List Nat) (K0 Kf:Kn) (rs:List (Nat × Nat)) (nx top:Nat) (tab:STab):Prop where
 ok:DOk ops deps Ls A St plan ks
 chk:∀e∈plan,chkE P call ops A K0 Kf rs nx top tab e=true
 lsF:∀i,i∈Ls→(ops.getD i default).fixed=false
 lsT:∀i,i < ops.length→i∉Ls→(ops.getD i default).fixed=true
end
end Go.Ab
