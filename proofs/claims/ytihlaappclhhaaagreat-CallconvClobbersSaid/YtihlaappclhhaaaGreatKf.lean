/-
  Part 6 of the proof: how the calls of this program run, over values instead of memory, and what each function computes.
-/
import Derived.Test.YtihlaappclhhaaaGreatProg
import Derived.Shelf.SlIterI.Nil
import Derived.Shelf.SortM.Plain
import Derived.Shelf.SortM.SortNone
import Derived.Test.YtihlaappclhhaaaGreatKe
set_option maxRecDepth 100000
set_option linter.unusedVariables false
set_option linter.unusedSimpArgs false
set_option linter.unnecessarySimpa false
set_option linter.unusedSectionVars false
open Nat renaming beq→Wa,le_refl→Wf,le_trans→Wg,ble→Wh,lt_of_lt_of_le→Wo,lt_or_ge→Wp,le_of_ble_eq_true→Wq
open Option renaming bind_eq_some_iff→Wc,bind_eq_bind→Wn,map_eq_some_iff→Wu
open List renaming mem_map→Wd,map_cons→Wi,getElem?_eq_some_iff→Wr,findIdx?_eq_some_iff_getElem→Ws
open Bool renaming and_eq_true→We,false_ne_true→Wl,not_eq_true'→Wt
open Option.some renaming injEq→Wj
open And renaming intro→Wk
open Array renaming getElem?_eq_some_iff→Wm
namespace Go.Ab
open Go.RowKit
def frB(m:Bool)(H:AH):Nat→AV→AV→Bool
 | 0,_,_=>false
 |
  d+1,b,a=>match a with
  | .undef=>true
  |
   .int k n=>match b with
   | .int k' n'=>decide (k'=k)&&decide (n'=n)
   | _=>false
  |
   .bool x=>match b with
   | .bool y=>y == x
   | _=>false
  |
   .str s=>match b with
   | .str t=>decide (t=s)
   | _=>false
  |
   .nilp=>match b with
   | .nilp=>true
   | _=>false
  |
   .nilfn=>match b with
   | .nilfn=>true
   | _=>false
  |
   .cut=>match b with
   | .cut=>true
   | _=>false
  |
   .nilsl=>match b with
   | .nilsl=>true
   | _=>false
  |
   .sl sz n f=>match b with
   | .sl sz' n' f'=>Wa sz' sz&&(Wa n' n&&allB n fun i=>allB sz fun j=>frB m H d (f' i j) (f i j))
   | .nilsl=>Wa n 0
   |
    .own r q g off n'=>m&&(match H.get r q with
    | some (.row sz' els g')=>Wa sz' sz&&(Wa n' n&&(Wa g g'&&(Wh n big&&(Wh (off+n) els.length&&allB n fun i=>allB sz fun j=>frB m H d ((els.getD (off+i) []).getD j .undef) (f i j)))))
    | _=>false)
   | _=>false
  |
   .agg l=>match b with
   | .agg l'=>Wa l'.length l.length&&allB l.length fun i=>frB m H d (l'.getD i .undef) (l.getD i .undef)
   | _=>false
  |
   .tup l=>match b with
   | .tup l'=>Wa l'.length l.length&&allB l.length fun i=>frB m H d (l'.getD i .undef) (l.getD i .undef)
   | _=>false
  | _=>false
theorem zsH{α:Type}{l:List α}{i:Nat}{a d:α}(h:l[i]? = some a):l.getD i d=a:=by rw[List.getD_eq_getElem?_getD,h];rfl
theorem zm1{H:AH}{m:Bool}{D:Nat→Nat→Prop}(hD:m=true→∀r q,D r q):∀(d:Nat)(b a:AV),frB m H d b a=true→Vw H [] nos D false b a
 | 0,_,_,h=>by cases h
 |
  d+1,b,a,h=>by
  unfold frB at h;split at h
  · exact .undef _ _
  ·
   split at h
   · simp only[We,decide_eq_true_eq] at h;obtain⟨rfl,rfl⟩:=h;exact .int _ _ _
   · cases h
  ·
   split at h
   · simp only[beq_iff_eq] at h;subst h;exact .bool _ _
   · cases h
  ·
   split at h
   · simp only[decide_eq_true_eq] at h;subst h;exact .str _ _
   · cases h
  ·
   split at h
   · exact .nilp _
   · cases h
  ·
   split at h
   · exact .nilfn _
   · cases h
  ·
   split at h
   · exact .cut _
   · cases h
  ·
   split at h
   · exact .nilsl _
   · cases h
  ·
   split at h
   ·
    rename_i sz' n' f';simp only[We] at h;obtain⟨h1,h2,h3⟩:=h;obtain rfl:=zF h1;obtain rfl:=zF h2
    exact .slf _ _ _ _ _ fun i j hi hj=>zm1 hD d _ _ (zdL (zdL h3 hi) hj)
   · obtain rfl:=zF h;exact .nil0 _ _ _
   ·
    rename_i r q g off n';rw[We] at h;obtain⟨hm,h⟩:=h;split at h
    ·
     rename_i sz' els g' hg;simp only[We] at h;obtain⟨h1,h2,h3,h4,h5,h6⟩:=h;obtain rfl:=zF h1;obtain rfl:=zF h2;obtain rfl:=zF h3
     exact .frz _ r q g off n' sz' els _ (hD hm r q) hg (bleT h4) (bleT h5) fun i j hi hj=>zm1 hD d _ _ (zdL (zdL h6 hi) hj)
    · cases h
   · cases h
  ·
   split at h
   ·
    rename_i l l';simp only[We] at h;obtain⟨h1,h2⟩:=h;have hl:=zF h1
    refine .agg _ _ _ hl fun i x y hx hy=>?_
    have:=zdL h2 (Wr.1 hy).1;rw[zsH hx,zsH hy] at this;exact zm1 hD d _ _ this
   · cases h
  ·
   split at h
   ·
    rename_i l l';simp only[We] at h;obtain⟨h1,h2⟩:=h;have hl:=zF h1
    refine .tup _ _ _ hl fun i x y hx hy=>?_
    have:=zdL h2 (Wr.1 hy).1;rw[zsH hx,zsH hy] at this;exact zm1 hD d _ _ this
   · cases h
  · cases h
structure Memo where
 f:FuncId
 args:List AV
 res:AV
def oN(d:Nat)(a:AOp):AOper:=⟨some d,a,none⟩
def oG(d t:Nat)(b:Bool)(a:AOp):AOper:=⟨some d,a,some (t,b)⟩
def oM(d s:Nat):AOper:=⟨some d,.mov (.t s),none⟩
def oK(d:Nat)(k:Int):AOper:=⟨some d,.mov (.c (.int .i64 k)),none⟩
def oL(d s:Nat):AOper:=⟨some d,.load false 1 (.t s),none⟩
def oA(d n s:Nat):AOper:=⟨some d,.load true n (.t s),none⟩
def oF(d f n s:Nat):AOper:=⟨some d,.fldaddr f n (.t s),none⟩
def oI(d n a b:Nat):AOper:=⟨some d,.idx n (.t a) (.t b),none⟩
def oE(d s:Nat):AOper:=⟨some d,.len (.t s),none⟩
def oX(d s:Nat):AOper:=⟨some d,.xop .nilck [.t s],none⟩
def oB(d:Nat)(o:BinOp)(a b:Nat):AOper:=⟨some d,.bin o (.t a) (.t b),none⟩
def oC(d:Nat)(o:BinOp)(a:Nat)(k:Int):AOper:=⟨some d,.bin o (.t a) (.c (.int .i64 k)),none⟩
def oS(n a b:Nat):AOper:=⟨none,.store n (.t a) (.t b),none⟩
def oT(d k s:Nat):AOper:=⟨some d,.ext k (.t s),none⟩
def Yaa:AOper:=oN 27 (.build [.nilsl,.nilsl,.nilsl] [(0,1,(.t 16)),(1,1,(.t 21)),(2,1,(.t 26))])
def Yab:AOper:=oN 28 (.buildSl 3 1 [.nilsl,.nilsl,.nilsl] [(0,(.t 27))])
def Yac:AOper:=oN 29 (.append 3 72 (.t 11) (.t 28))
def Yad:AOper:=oI 14 3 12 13
def Yae:AOper:=oF 15 0 1 14
def Yaf:AOper:=oI 19 3 17 18
def Yag:AOper:=oF 20 1 1 19
def Yah:AOper:=oI 24 3 22 23
def Yai:AOper:=oF 25 2 1 24
theorem evD:type_of% @evA∧type_of% @boxR.eq_1∧type_of% @zrt.eq_1∧type_of% @zn5.eq_1∧type_of% @fldR.eq_1∧type_of% @binI.eq_1∧type_of% @binI.eq_2∧type_of% @binI.eq_3∧type_of% @binI.eq_4∧type_of% @binI.eq_5∧type_of% @binI.eq_6∧type_of% @binI.eq_7∧type_of% @binI.eq_8∧type_of% @binI.eq_9∧type_of% @binI.eq_10∧type_of% @binI.eq_11∧type_of% @binI.eq_12∧type_of% @binI.eq_13∧type_of% @binI.eq_14∧type_of% @binI.eq_15∧type_of% @binI.eq_16∧type_of% @binI.eq_17∧type_of% @unR.eq_1∧type_of% @unR.eq_2∧type_of% @zpR.eq_1∧type_of% @zqk.eq_1∧type_of% @zo4.eq_1∧type_of% @zgf.eq_1∧type_of% @zli.eq_1∧type_of% @extR.eq_1∧type_of% @zqa.eq_1∧type_of% @eqB.eq_1∧type_of% @evU∧type_of% @zxn∧type_of% @oN.eq_1∧type_of% @oG.eq_1∧type_of% @oM.eq_1∧type_of% @oK.eq_1∧type_of% @oL.eq_1∧type_of% @oA.eq_1∧type_of% @oF.eq_1∧type_of% @oI.eq_1∧type_of% @oE.eq_1∧type_of% @oX.eq_1∧type_of% @oB.eq_1∧type_of% @oC.eq_1∧type_of% @oS.eq_1∧type_of% @oT.eq_1∧type_of% @Yaa.eq_1∧type_of% @Yab.eq_1∧type_of% @Yac.eq_1∧type_of% @Yad.eq_1∧type_of% @Yae.eq_1∧type_of% @Yaf.eq_1∧type_of% @Yag.eq_1∧type_of% @Yah.eq_1∧type_of% @Yai.eq_1 :=
 ⟨@evA,@boxR.eq_1,@zrt.eq_1,@zn5.eq_1,@fldR.eq_1,@binI.eq_1,@binI.eq_2,@binI.eq_3,@binI.eq_4,@binI.eq_5,@binI.eq_6,@binI.eq_7,@binI.eq_8,@binI.eq_9,@binI.eq_10,@binI.eq_11,@binI.eq_12,@binI.eq_13,@binI.eq_14,@binI.eq_15,@binI.eq_16,@binI.eq_17,@unR.eq_1,@unR.eq_2,@zpR.eq_1,@zqk.eq_1,@zo4.eq_1,@zgf.eq_1,@zli.eq_1,@extR.eq_1,@zqa.eq_1,@eqB.eq_1,@evU,@zxn,@oN.eq_1,@oG.eq_1,@oM.eq_1,@oK.eq_1,@oL.eq_1,@oA.eq_1,@oF.eq_1,@oI.eq_1,@oE.eq_1,@oX.eq_1,@oB.eq_1,@oC.eq_1,@oS.eq_1,@oT.eq_1,@Yaa.eq_1,@Yab.eq_1,@Yac.eq_1,@Yad.eq_1,@Yae.eq_1,@Yaf.eq_1,@Yag.eq_1,@Yah.eq_1,@Yai.eq_1⟩
theorem evWB:type_of% @evWA∧type_of% @and_self∧type_of% @Int.natCast_zero∧type_of% @Int.natCast_one∧type_of% @Int.cast_ofNat_Int∧type_of% @evV∧type_of% @za.eq_1∧type_of% @zj.eq_1∧type_of% @zsR.eq_1∧type_of% @encP.eq_1 :=
 ⟨@evWA,@and_self,@Int.natCast_zero,@Int.natCast_one,@Int.cast_ofNat_Int,@evV,@za.eq_1,@zj.eq_1,@zsR.eq_1,@encP.eq_1⟩
theorem dcd:type_of% @decide_eq_true_eq∧type_of% @decide_eq_false_iff_not∧type_of% @Bool.not_eq_true'∧type_of% @Bool.not_eq_false'∧type_of% @Bool.and_eq_true∧type_of% @Bool.or_eq_true∧type_of% @not_true_eq_false∧type_of% @not_false_eq_true :=
 ⟨@decide_eq_true_eq,@decide_eq_false_iff_not,@Bool.not_eq_true',@Bool.not_eq_false',@Bool.and_eq_true,@Bool.or_eq_true,@not_true_eq_false,@not_false_eq_true⟩
theorem fin4{p:Prop}(h:p:=by(repeat' with_reducible apply And.intro)<;>first|omega|exact zou rfl rfl (by omega)|exact zen rfl rfl (by omega)|exact zp1 rfl rfl (by omega) | (refine zkn ?_;(repeat' first|exact bytes_flat|exact flat1|refine flat_app ?_ ?_);done)|exact zsP (fun _=>rfl)|exact znZ (c:=cN) (fun _=>rfl) rfl|exact zdK (fun _=>rfl) (by decide) ⟨rfl,rfl⟩ trivial|exact zdK (fun _=>rfl) (by decide) (fun _ _=>⟨rfl,rfl⟩) trivial | (simp;done)):p:=h
theorem Gin4_0{p:Prop}(h:p:=by(try simp only[evWB,Nat.reduceBEq,Nat.reduceAdd,Nat.reduceSub,Nat.reduceLeDiff,Nat.reduceLT,implies_true])<;>exact fin4):p:=h
theorem Gin4_1{A0 p:Prop}(a0:A0)(h:A0→p:=by intro a0;(try simp only[evWB,Nat.reduceBEq,Nat.reduceAdd,Nat.reduceSub,Nat.reduceLeDiff,Nat.reduceLT,implies_true,a0])<;>exact fin4):p:=h a0
theorem Gin4_2{A0 A1 p:Prop}(a0:A0)(a1:A1)(h:A0→A1→p:=by intro a0 a1;(try simp only[evWB,Nat.reduceBEq,Nat.reduceAdd,Nat.reduceSub,Nat.reduceLeDiff,Nat.reduceLT,implies_true,a0,a1])<;>exact fin4):p:=h a0 a1
theorem Gin4_3{A0 A1 A2 p:Prop}(a0:A0)(a1:A1)(a2:A2)(h:A0→A1→A2→p:=by intro a0 a1 a2;(try simp only[evWB,Nat.reduceBEq,Nat.reduceAdd,Nat.reduceSub,Nat.reduceLeDiff,Nat.reduceLT,implies_true,a0,a1,a2])<;>exact fin4):p:=h a0 a1 a2
theorem Gin4_4{A0 A1 A2 A3 p:Prop}(a0:A0)(a1:A1)(a2:A2)(a3:A3)(h:A0→A1→A2→A3→p:=by intro a0 a1 a2 a3;(try simp only[evWB,Nat.reduceBEq,Nat.reduceAdd,Nat.reduceSub,Nat.reduceLeDiff,Nat.reduceLT,implies_true,a0,a1,a2,a3])<;>exact fin4):p:=h a0 a1 a2 a3
theorem lb{p:Prop}(h:p:=by first|rfl|exact(dT (by omega)).symm|exact(dF (by omega)).symm|exact decide_eq_decide.2 (by omega)):p:=h
theorem hBig:big=9223372036854775807:=rfl
theorem fin5{p:Prop}(h:p:=by(try simp[subK,Kn.get,zg5])<;>(repeat' with_reducible apply And.intro)<;>first|rfl|omega | (simp;done)):p:=h
theorem fin6 {p:Prop} (h:p:=by((repeat' with_reducible apply And.intro)<;>first|omega|rfl|exact zxm (fun _=>rfl)|exact Vw.it _ _ rfl|exact Vw.mp _ _ _ _ rfl|exact zdK zhj (by decide) ⟨rfl,rfl⟩ trivial|exact zdK zhj (by decide) (fun _ _=>⟨rfl,rfl⟩) trivial | (refine zEm rfl ?_;(repeat' (first|exact zD zhj|exact rowI_flat|exact zD (fun _=>rfl)|exact zD (fun _=>zcr)|exact zD (fun _=>zo)|exact zN zcr|exact zN zo|exact zn3 rfl|exact zkV|exact zN rfl|refine zl9 ?_ ?_|refine zbV rfl ?_|refine zbV zcr ?_|refine zbV zo ?_));done)|exact zk rfl | (refine RowV.of_flat ?_;(repeat' (first|exact zD zhj|exact rowI_flat|exact zD (fun _=>rfl)|exact zD (fun _=>zcr)|exact zD (fun _=>zo)|exact zN zcr|exact zN zo|exact zn3 rfl|exact zkV|exact zN rfl|refine zl9 ?_ ?_|refine zbV rfl ?_|refine zbV zcr ?_|refine zbV zo ?_));done) | ((repeat' (first|exact zD zhj|exact rowI_flat|exact zD (fun _=>rfl)|exact zD (fun _=>zcr)|exact zD (fun _=>zo)|exact zN zcr|exact zN zo|exact zn3 rfl|exact zkV|exact zN rfl|refine zl9 ?_ ?_|refine zbV rfl ?_|refine zbV zcr ?_|refine zbV zo ?_));done)|exact zou rfl rfl (by omega)|exact zen rfl rfl (by omega)|exact zp1 rfl rfl (by omega)|exact zsP (fun _=>rfl)|exact zdK (fun _=>rfl) (by decide) ⟨rfl,rfl⟩ trivial|exact zdK (fun _=>rfl) (by decide) (fun _ _=>⟨rfl,rfl⟩) trivial | (simp;done))):p:=h
theorem Gin6_1{A0 p:Prop}(a0:A0)(h:A0→p:=by intro a0;(try simp only[evWB,Nat.reduceBEq,Nat.reduceAdd,Nat.reduceSub,Nat.reduceLeDiff,Nat.reduceLT,implies_true,a0])<;>exact fin6):p:=h a0
theorem Gin6_2{A0 A1 p:Prop}(a0:A0)(a1:A1)(h:A0→A1→p:=by intro a0 a1;(try simp only[evWB,Nat.reduceBEq,Nat.reduceAdd,Nat.reduceSub,Nat.reduceLeDiff,Nat.reduceLT,implies_true,a0,a1])<;>exact fin6):p:=h a0 a1
theorem Gin6_3{A0 A1 A2 p:Prop}(a0:A0)(a1:A1)(a2:A2)(h:A0→A1→A2→p:=by intro a0 a1 a2;(try simp only[evWB,Nat.reduceBEq,Nat.reduceAdd,Nat.reduceSub,Nat.reduceLeDiff,Nat.reduceLT,implies_true,a0,a1,a2])<;>exact fin6):p:=h a0 a1 a2
theorem fin8{p:Prop}(h:p:=by(try simp only[evWB,Nat.reduceBEq,Nat.reduceAdd,Nat.reduceSub,Nat.reduceLeDiff,Nat.reduceLT,implies_true])<;>(repeat' with_reducible apply And.intro)<;>first | (refine zdK zhj (by decide) ⟨rfl,rfl⟩ ?_;(try simp only[evWB,Nat.reduceBEq,Nat.reduceAdd,Nat.reduceSub,Nat.reduceLeDiff,Nat.reduceLT,implies_true])<;>(repeat' with_reducible apply And.intro)<;>first | (refine zdK zhj (by decide) ⟨rfl,rfl⟩ ?_;(try simp only[evWB,Nat.reduceBEq,Nat.reduceAdd,Nat.reduceSub,Nat.reduceLeDiff,Nat.reduceLT,implies_true])<;>exact fin6;done)|exact fin6;done)|exact fin6):p:=h
theorem Gin8_1{A0 p:Prop}(a0:A0)(h:A0→p:=by intro a0;(try simp only[evWB,Nat.reduceBEq,Nat.reduceAdd,Nat.reduceSub,Nat.reduceLeDiff,Nat.reduceLT,implies_true,a0])<;>exact fin8):p:=h a0
theorem Gin8_2{A0 A1 p:Prop}(a0:A0)(a1:A1)(h:A0→A1→p:=by intro a0 a1;(try simp only[evWB,Nat.reduceBEq,Nat.reduceAdd,Nat.reduceSub,Nat.reduceLeDiff,Nat.reduceLT,implies_true,a0,a1])<;>exact fin8):p:=h a0 a1
theorem Gin8_3{A0 A1 A2 p:Prop}(a0:A0)(a1:A1)(a2:A2)(h:A0→A1→A2→p:=by intro a0 a1 a2;(try simp only[evWB,Nat.reduceBEq,Nat.reduceAdd,Nat.reduceSub,Nat.reduceLeDiff,Nat.reduceLT,implies_true,a0,a1,a2])<;>exact fin8):p:=h a0 a1 a2
theorem Gin8_6{A0 A1 A2 A3 A4 A5 p:Prop}(a0:A0)(a1:A1)(a2:A2)(a3:A3)(a4:A4)(a5:A5)(h:A0→A1→A2→A3→A4→A5→p:=by intro a0 a1 a2 a3 a4 a5;(try simp only[evWB,Nat.reduceBEq,Nat.reduceAdd,Nat.reduceSub,Nat.reduceLeDiff,Nat.reduceLT,implies_true,a0,a1,a2,a3,a4,a5])<;>exact fin8):p:=h a0 a1 a2 a3 a4 a5
theorem Gin8_7{A0 A1 A2 A3 A4 A5 A6 p:Prop}(a0:A0)(a1:A1)(a2:A2)(a3:A3)(a4:A4)(a5:A5)(a6:A6)(h:A0→A1→A2→A3→A4→A5→A6→p:=by intro a0 a1 a2 a3 a4 a5 a6;(try simp only[evWB,Nat.reduceBEq,Nat.reduceAdd,Nat.reduceSub,Nat.reduceLeDiff,Nat.reduceLT,implies_true,a0,a1,a2,a3,a4,a5,a6])<;>exact fin8):p:=h a0 a1 a2 a3 a4 a5 a6
theorem fin9{p:Prop}(h:p:=by(try simp only[evWB,Nat.reduceBEq,Nat.reduceAdd,Nat.reduceSub,Nat.reduceLeDiff,Nat.reduceLT,implies_true])<;>exact fin6):p:=h
inductive MC where
 | hd (c:Int)
 | en (k b:Int)
def cm:MC→List AV
 | .hd c=>[.int .i64 c,.undef,.undef]
 | .en k b=>[.int .i64 k,.bool true,.int .i64 b]
theorem zhj:∀a,zH (cm a)=true
 | .hd _=>rfl
 | .en _ _=>rfl
def enL(ps:List (Int × Int)):List MC:=ps.map fun p=>.en p.1 p.2
def setM(c:Int)(ps:List (Int × Int)):List MC:=.hd c::enL ps
theorem ze(c:Int)(ps:List (Int × Int)):(setM c ps).map cm=[.int .i64 c,.undef,.undef]::(enL ps).map cm:=rfl
def zFt(r q:Nat)(o:Option AObj)(H:AH)(nx:Nat):ORes:=match o with
 |
  some (.row sz (hd::_) g)=>match hd with
  | [.int .i64 c,_,_]=>⟨sz=3∧g=0,True,.it nx,H.set nx 0 (.row 1 [[.mp r q],[.int .i64 c],[.int .i64 c]] 0),nx+1⟩
  | _=>bad H nx
 | _=>bad H nx
def mdTo(str:Option IntKind)(r q:Nat)(k:AV)(sz g:Nat)(hd:List AV)(es:List (List AV))(o:Option (Option (Nat × AV)))(H:AH)(nx:Nat):ORes:=match o with
 | some (some (i,_))=>⟨sz=3∧g=0∧zgw str k,True,.tup [],H.set r q (.row 3 (hd::es.eraseIdx i) 0),nx⟩
 | some none=>⟨sz=3∧g=0∧zgw str k,True,.tup [],H,nx⟩
 | none=>bad H nx
def zER(str:Option IntKind)(r q:Nat)(k:AV)(o:Option AObj)(H:AH)(nx:Nat):ORes:=match o with
 | some (.row sz (hd::es) g)=>mdTo str r q k sz g hd es (zcA k es 0) H nx
 | _=>bad H nx
theorem zuZ{str:Option IntKind}{k:AV}{r q:Nat}{H:AH}{nx:Nat}:xopR (.mdel str) [.mp r q,k] H nx=zER str r q k (H.get r q) H nx:=by
 show zoH str (.mp r q) k H nx=_;simp only[zoH,zER]
 cases H.get r q with
 | none=>rfl
 |
  some o =>
  cases o with
  | fam _ _=>rfl
  |
   row sz els g =>
   cases els with
   | nil=>rfl
   | cons hd es=>rfl
theorem zqL{r q:Nat}{H:AH}{nx:Nat}:xopR .mrange [.mp r q] H nx=zFt r q (H.get r q) H nx:=by
 show zgQ (.mp r q) H nx=_;simp only[zgQ,zFt]
 cases H.get r q with
 | none=>rfl
 |
  some o =>
  cases o with
  | fam _ _=>rfl
  |
   row sz els g =>
   cases els with
   | nil=>rfl
   | cons hd es=>rfl
theorem ztn{k:Int}:∀ {ps:List (Int × Int)} {i:Nat},zcA (.int .i64 k) ((enL ps).map cm) i=some (match ps.findIdx? (fun p=>decide (p.1=k)) with
  | some j=>some (i+j,.bool true)
  | none=>none)
 | [],i=>rfl
 |
  p::ps,i=>by
  rw[List.findIdx?_cons]
  by_cases h:k=p.1
  · rw[if_pos (decide_eq_true h.symm)];simp only[enL,Wi,cm,zcA,zoP,if_true,decide_eq_true h,Nat.add_zero]
  ·
   rw[if_neg (by simp;exact fun e=>h e.symm)]
   have e:zcA (.int .i64 k) ((enL (p::ps)).map cm) i=zcA (.int .i64 k) ((enL ps).map cm) (i+1):=by simp only[enL,Wi,cm,zcA,zoP,if_true,decide_eq_false h]
   rw[e,ztn]
   cases ps.findIdx? (fun p=>decide (p.1=k)) with
   | none=>rfl
   |
    some j =>
    simp only[Option.map_some];rw[show i+1+j=i+(j+1) by omega]
theorem zgr{k:Int}{ps:List (Int × Int)}(h:k∈ps.map (·.1)):∃j,∃hj:j < ps.length,ps[j].1=k∧zcA (.int .i64 k) ((enL ps).map cm) 0=some (some (j,.bool true)):=by
 rw[ztn]
 cases hf:ps.findIdx? (fun p=>decide (p.1=k)) with
 |
  none =>
  obtain⟨p,hp,rfl⟩:=Wd.1 h;have:=List.findIdx?_eq_none_iff.1 hf p hp;simp at this
 |
  some j =>
  obtain⟨h1,h2,_⟩:=Ws.1 hf;exact⟨j,h1,of_decide_eq_true h2,by simp⟩
theorem zeH{k:Int}{ps:List (Int × Int)}(h:k∉ps.map (·.1)):zcA (.int .i64 k) ((enL ps).map cm) 0=some none:=by
 rw[ztn]
 cases hf:ps.findIdx? (fun p=>decide (p.1=k)) with
 | none=>rfl
 |
  some j =>
  obtain⟨h1,h2,_⟩:=Ws.1 hf;exact absurd (Wd.2 ⟨_,List.getElem_mem h1,of_decide_eq_true h2⟩) h
theorem zzx{ps:List (Int × Int)}(hb:(ps.map (·.2)).Nodup){p p':Int × Int}(hp:p∈ps)(hp':p'∈ps)(h:p.2=p'.2):p=p':=by
 induction ps with
 | nil=>cases hp
 |
  cons x ps ih =>
  rw[Wi,List.nodup_cons] at hb
  by_cases h1:p∈ps
  ·
   by_cases h2:p'∈ps
   · exact ih hb.2 h1 h2
   ·
    have e:p'=x:=by simpa [h2] using hp'
    subst e;exact absurd (show p'.2∈ps.map (fun x=>x.2) from Wd.2 ⟨p,h1,h⟩) hb.1
  ·
   have e:p=x:=by simpa [h1] using hp
   by_cases h2:p'∈ps
   · subst e;exact absurd (show p.2∈ps.map (fun x=>x.2) from Wd.2 ⟨p',h2,h.symm⟩) hb.1
   ·
    have e':p'=x:=by simpa [h2] using hp'
    rw[e,e']
theorem zxJ {P:Program} {d:Option Nat} {rst:Rest} {drop:List Nat} {Q:QT} {K:Kn} {H:AH} {nx r rm qm:Nat} {c since st:Int} {ps sel:List (Int × Int)}
  (hr:H.get r 0=some (.row 1 ([.mp rm qm]::[.int .i64 since]::[.int .i64 st]::sel.map fun p=>[.int .i64 p.2]) 0)) (hm:H.get rm qm=some (.row 3 ((setM c ps).map cm) 0))
  (h1:since≤st) (h2:∀p∈ps,p.2 < since) (hb:(ps.map (·.2)).Nodup) (hs:∀p∈sel,p∈ps)
  (h4:(∀p∈ps,p∈sel)→za0 P rst drop Q (setO K d (.tup [.bool false])) H nx)
  (h5:∀p∈ps,p∉sel→za0 P rst drop Q (setO K d (.tup [.bool true,.int .i64 p.1,.bool true])) (H.set r 0 (.row 1 ([.mp rm qm]::[.int .i64 since]::[.int .i64 c]::(sel++[p]).map fun p=>[.int .i64 p.2]) 0)) nx) :
  zCi P (.it r) d rst drop Q K H nx:=by
 have hin:∀p∈ps,zt1 (.int .i64 p.2) (sel.map fun p=>[.int .i64 p.2])=decide (p∈sel):=by
  intro p hp;unfold zt1;rw[Bool.eq_iff_iff,List.any_eq_true,decide_eq_true_eq];constructor
  ·
   rintro⟨s,hs1,hs2⟩;obtain⟨p',hp',rfl⟩:=Wd.1 hs1;simp only[decide_eq_true_eq] at hs2
   have:p'=p:=by exact zzx hb (hs p' hp') hp hs2
   rw[←this];exact hp'
  · intro h;exact⟨_,Wd.2 ⟨p,h,rfl⟩,by simp⟩
 have hleft:zv6 (sel.map fun p=>[.int .i64 p.2]) ((enL ps).map cm)=(enL (ps.filter fun p => !decide (p∈sel))).map cm:=by
  unfold zv6 enL;simp only[List.map_map];rw[List.filter_map]
  congr 1
  refine List.filter_congr fun p hp=>?_
  simp only[Function.comp,cm,List.getD_cons_succ,List.getD_cons_zero];rw[hin p hp]
 unfold zCi zm0;simp only;rw[hr];simp only;rw[hm,ze];simp only;refine⟨⟨trivial,trivial,trivial,trivial,h1,fun e he=>?_,fun s hs'=>?_⟩,fun hn=>h4 fun p hp=>?_,fun e he=>?_⟩
 · obtain⟨x,hx,rfl⟩:=Wd.1 he;obtain⟨p,hp,rfl⟩:=Wd.1 hx;exact⟨p.2,rfl,h2 p hp⟩
 · obtain⟨p,hp,rfl⟩:=Wd.1 hs';exact⟨p.2,rfl⟩
 ·
  rw[hleft] at hn
  have hf:ps.filter (fun p => !decide (p∈sel))=[]:=by simpa [enL] using hn
  have:=List.filter_eq_nil_iff.1 hf p hp
  simpa using this
 ·
  rw[hleft] at he;obtain⟨x,hx,rfl⟩:=Wd.1 he;obtain⟨p,hp,rfl⟩:=Wd.1 hx;rw[List.mem_filter] at hp;have:=h5 p hp.1 (by simpa using hp.2)
  simpa [cm,zBg] using this
theorem zwW{b:Int}:∀ {ps:List (Int × Int)} {p:Int × Int},p∈ps→p.2=b→(ps.map (·.2)).Nodup→zwj b ((enL ps).map cm)=some (.int .i64 p.1,.bool true)
 | [],_,h,_,_=>by cases h
 |
  x::ps,p,h,hb,hn=>by
  rw[Wi,List.nodup_cons] at hn;show zwj b (cm (.en x.1 x.2)::(enL ps).map cm)=_;simp only[cm,zwj]
  by_cases hx:x.2=b
  ·
   rw[if_pos hx]
   by_cases h2:p∈ps
   · exact absurd (show x.2∈ps.map (fun x=>x.2) from Wd.2 ⟨p,h2,hb.trans hx.symm⟩) hn.1
   ·
    have e:p=x:=by simpa [h2] using h
    rw[e]
  ·
   rw[if_neg hx];refine zwW ?_ hb hn.2
   rcases List.mem_cons.1 h with rfl|h
   · exact absurd hb hx
   · exact h
theorem zxr {H:AH} {nx r rm qm:Nat} {c since:Int} {ps sel:List (Int × Int)} {p:Int × Int} (hr:H.get r 0=some (.row 1 ([.mp rm qm]::[.int .i64 since]::[.int .i64 c]::(sel++[p]).map fun p=>[.int .i64 p.2]) 0))
  (hm:H.get rm qm=some (.row 3 ((setM c ps).map cm) 0)) (hb:(ps.map (·.2)).Nodup) (hp:p∈ps):xopR .ment [.it r] H nx=⟨True,True,.tup [.int .i64 p.1,.bool true],H,nx⟩:=by
 show ztk (.it r) H nx=_;unfold ztk;simp only;rw[hr];simp only[List.map_append,Wi,List.map_nil,List.getLast?_append,List.getLast?_singleton,Option.some_or];rw[hm,ze];simp only[zwW hp rfl hb];simp
theorem evM:type_of% @zuZ∧type_of% @zqL:=⟨@zuZ,@zqL⟩
theorem zu8{r q sz g:Nat}{c:Int}{u u':AV}{es:List (List AV)}{H:AH}{nx:Nat}:zFt r q (some (.row sz ([.int .i64 c,u,u']::es) g)) H nx=⟨sz=3∧g=0,True,.it nx,H.set nx 0 (.row 1 [[.mp r q],[.int .i64 c],[.int .i64 c]] 0),nx+1⟩:=rfl
theorem ztK{str:Option IntKind}{r q sz g:Nat}{k:AV}{hd:List AV}{es:List (List AV)}{H:AH}{nx:Nat}:zER str r q k (some (.row sz (hd::es) g)) H nx=mdTo str r q k sz g hd es (zcA k es 0) H nx:=rfl
abbrev Fds:=List (Nat × Nat × Nat)
def fat:Fds→Nat→Nat→Option Nat
 | [],_,_=>none
 | (F,q,N)::t,r',q'=>bif Wa F r'&&Wa q q' then some N else fat t r' q'
def fsig(t:Tab)(fs:Fds):Nat→Nat→Option (Nat × Nat × Nat):=fun r' q'=>match fat fs r' q' with
 | some N=>some (N,0,0)
 | none=>t.sig r' q'
def fOk(n:Nat)(t:Tab):Fds→Bool
 | []=>true
 | (F,_,N)::u=>Nat.blt F n && !(memN (t.map (·.2.1)) N) && !(memN (u.map (·.2.2)) N)&&fOk n t u
def noQ:Nat→Nat→Prop:=fun _ _=>False
theorem zsz{n:Nat}{t:Tab}:∀{fs:Fds},fOk n t fs=true→∀{r' q' N},fat fs r' q'=some N→r' < n∧memN (t.map (·.2.1)) N=false∧N∈fs.map (·.2.2)
 | [],_,r',q',N,h=>by cases h
 |
  (F,q,M)::u,hk,r',q',N,h=>by
  simp only[fOk,We,Wt] at hk;obtain⟨⟨⟨h1,h2⟩,h3⟩,h4⟩:=hk;simp only[fat] at h
  cases hb:Wa F r'&&Wa q q' with
  |
   true =>
   rw[hb] at h;cases h;rw[We] at hb;have:=zF hb.1;subst this;exact⟨by simpa [Nat.blt_eq] using h1,h2,by simp⟩
  |
   false =>
   rw[hb] at h;obtain⟨a1,a2,a3⟩:=zsz h4 h;exact⟨a1,a2,by simp only[Wi,List.mem_cons];exact .inr a3⟩
theorem zAN{n:Nat}{t:Tab}:∀{fs:Fds},fOk n t fs=true→∀{r q r' q' N},fat fs r q=some N→fat fs r' q'=some N→r=r'∧q=q'
 | [],_,r,q,r',q',N,h,_=>by cases h
 |
  (F,p,M)::u,hk,r,q,r',q',N,h,h'=>by
  have hk':=hk;simp only[fOk,We,Wt] at hk';obtain⟨⟨⟨h1,h2⟩,h3⟩,h4⟩:=hk';simp only[fat] at h h'
  cases hb:Wa F r&&Wa p q with
  |
   true =>
   cases hc:Wa F r'&&Wa p q' with
   |
    true =>
    rw[We] at hb hc;exact⟨(zF hb.1).symm.trans (zF hc.1),(zF hb.2).symm.trans (zF hc.2)⟩
   |
    false =>
    rw[hb] at h;rw[hc] at h';cases h;exact absurd ((za1 _ _).2 (zsz h4 h').2.2) (by rw[h3];exact Wl)
  |
   false =>
   cases hc:Wa F r'&&Wa p q' with
   |
    true =>
    rw[hb] at h;rw[hc] at h';cases h';exact absurd ((za1 _ _).2 (zsz h4 h).2.2) (by rw[h3];exact Wl)
   |
    false =>
    rw[hb] at h;rw[hc] at h';exact zAN h4 h h'
def zvB(H HH:AH)(σ:Nat→Nat→Option (Nat × Nat × Nat))(n:Nat):AH→Prop
 | []=>True
 | (r',.row sz els2 g2)::u=>Nat.blt r' n=true∧(match σ r' 0 with
   | some (r,q,d)=>∃els,H.get r q=some (.row sz els (g2+d))∧RowV H HH σ noQ els els2
   | none=>els2=[]∧g2=0)∧zvB H HH σ n u
 | (r',.fam sz ins)::u=>Nat.blt r' n=true∧(∀(i:Nat) (p:List (List AV) × Nat),ins[i]? = some p→match σ r' (i+1) with
   | some (r,q,d)=>∃els,H.get r q=some (.row sz els (p.2+d))∧RowV H HH σ noQ els p.1
   | none=>p=([],0))∧zvB H HH σ n u
def zt8(H HH:AH)(σ:Nat→Nat→Option (Nat × Nat × Nat)):Kn→Kn→Prop
 | [],_=>True
 | (j,v)::u,K=>Vw H HH σ noQ true (K.get j) v∧zt8 H HH σ u K
theorem zrT{H HH:AH}{σ:Nat→Nat→Option (Nat × Nat × Nat)}{K:Kn}:∀{K2:Kn},zt8 H HH σ K2 K→∀i,Vw H HH σ noQ true (K.get i) (K2.get i)
 | [],_,i=>.undef _ _
 |
  (j,v)::u,h,i=>by
  simp only[Kn.get]
  cases hb:Wa j i with
  | true=>rw[←zF hb];exact h.1
  | false=>exact zrT h.2 i
theorem ztS{H HH:AH}{σ:Nat→Nat→Option (Nat × Nat × Nat)}{n:Nat}:∀{H2:AH},zvB H HH σ n H2→∀r o,H2.look r=some o→r < n
 | [],_,r,o,h=>by cases h
 |
  (r',ob)::u,h,r,o,hl=>by
  have hh:Nat.blt r' n=true∧zvB H HH σ n u:=by cases ob<;>exact⟨h.1,h.2.2⟩
  simp only[AH.look] at hl
  cases hb:Wa r' r with
  | true=>rw[←zF hb];simpa [Nat.blt_eq] using hh.1
  | false=>rw[hb] at hl;exact ztS hh.2 r o hl
theorem zue{H HH:AH}{σ:Nat→Nat→Option (Nat × Nat × Nat)}{n:Nat}:∀{H2:AH},zvB H HH σ n H2→∀r' q' sz els2 g2,H2.get r' q'=some (.row sz els2 g2) →
  (∃r q d els,σ r' q'=some (r,q,d)∧H.get r q=some (.row sz els (g2+d))∧RowV H HH σ noQ els els2)∨(σ r' q'=none∧els2=[]∧g2=0)
 | [],_,r',q',sz,els2,g2,h=>by cases h
 |
  (r0,ob)::u,h,r',q',sz,els2,g2,hg=>by
  have hh:zvB H HH σ n u:=by cases ob<;>exact h.2.2
  unfold AH.get at hg;simp only[AH.look] at hg
  cases hb:Wa r0 r' with
  | false=>rw[hb] at hg;exact zue hh r' q' sz els2 g2 hg
  |
   true =>
   rw[hb] at hg;have:=zF hb;subst this;simp only[cond_true,Option.bind_some] at hg
   cases ob with
   |
    row sz0 els0 g0 =>
    cases q' with
    | succ q=>cases hg
    |
     zero =>
     simp only[AObj.part,Wj,AObj.row.injEq] at hg;obtain⟨rfl,rfl,rfl⟩:=hg;have h2:=h.2.1
     cases ht:σ r0 0 with
     | none=>rw[ht] at h2;exact .inr ⟨rfl,h2⟩
     |
      some p =>
      obtain⟨r,q,d⟩:=p;rw[ht] at h2;obtain⟨els,h3,h4⟩:=h2;exact .inl ⟨r,q,d,els,rfl,h3,h4⟩
   |
    fam sz0 ins =>
    cases q' with
    | zero=>cases hg
    |
     succ i =>
     simp only[AObj.part] at hg;obtain⟨p,hp,he⟩:=Wu.1 hg;cases he;have h2:=h.2.1 i p hp
     cases ht:σ r0 (i+1) with
     |
      none =>
      rw[ht] at h2;simp only at h2;rw[h2];exact .inr ⟨rfl,rfl,rfl⟩
     |
      some p' =>
      obtain⟨r,q,d⟩:=p';rw[ht] at h2;obtain⟨els,h3,h4⟩:=h2;exact .inl ⟨r,q,d,els,rfl,h3,h4⟩
theorem zEm{H HH:AH}{σ:Nat→Nat→Option (Nat × Nat × Nat)}{D:Nat→Nat→Prop}{r q r' q':Nat}{tl:List (List AV)}(hs:σ r' q'=some (r,q,0))(h:zr tl):RowV H HH σ D ([.mp r q]::tl) ([.mp r' q']::tl):=by
 obtain⟨_,h2⟩:=RowV.of_flat (H:=H) (HH:=HH) (σ:=σ) (D:=D) h;refine⟨by simp,fun i c2 hi=>?_⟩
 cases i with
 |
  zero =>
  cases hi;refine⟨_,rfl,rfl,fun j a b h1 h2=>?_⟩
  cases j with
  | zero=>cases h1;cases h2;exact .mp _ _ _ _ hs
  | succ j=>cases h1
 | succ i=>exact h2 i c2 hi
section
variable {σ:Type} {P:Program}
variable {w0 w w':World} {L0 L L':Nat→Prop} {ι0 ι ι':Inj} {H0 H H':AH} {nx nx' B:Nat}
theorem StY.refl(h:RelH w L ι H nx):StY w L ι H w L ι H nx:=⟨rfl,rfl,rfl,Wf _,fun _ _ _ _=>rfl,fun _ _ _ _ h=>h,h,fun _ h=>.inl h,fun _ h=>.inl h,fun _ h=>h⟩
theorem StY.step(h:StY w0 L0 ι0 H0 w L ι H nx)(s:Step w L ι H nx w' ι' H' nx'):StY w0 L0 ι0 H0 w' L ι' H' nx':=by
 refine⟨s.ext.os.trans h.os,s.ext.tape.trans h.tape,s.ext.output.trans h.output,Wg h.size s.ext.size,fun b hb h1 h2=>?_,fun r q g l hl=>s.inj _ _ _ _ (h.inj _ _ _ _ hl),s.rel,fun b hb=>?_,h.lg,h.ll⟩
 · rw[s.ext.block b (Wo hb h.size) (fun hl=>by rcases h.lv b hl with h3|h3;exact h1 h3;omega)];exact h.block b hb h1 h2
 ·
  rcases s.lv b hb with h1|h1
  · exact h.lv b h1
  · exact .inr (Wg h.size h1)
theorem StY.yield(h:StY w0 L0 ι0 H0 w L ι H nx)(e:Ext L w w'):StY w0 L0 ι0 H0 w' (zk6 L w w') ι H nx:=by
 refine⟨e.os.trans h.os,e.tape.trans h.tape,e.output.trans h.output,Wg h.size e.size,fun b hb h1 h2=>?_,h.inj,h.rel.yield e,h.lv,fun b hb=>?_,fun b hb=>.inl (h.ll b hb)⟩
 · rw[e.block b (Wo hb h.size) (fun hl=>by rcases h.lg b hl with h3|h3;exact h2 h3;omega)];exact h.block b hb h1 h2
 ·
  rcases hb with hb|hb
  · exact h.lg b hb
  · exact .inr (Wg h.size hb.1)
variable {nt n0:Nat} {J:σ→(Nat→Prop)→(Nat→Prop)→World→Prop} {Jx:(Nat→Prop)→(Nat→Prop)→World→Prop}
def jst(J:σ→(Nat→Prop)→(Nat→Prop)→World→Prop)(Jx:(Nat→Prop)→(Nat→Prop)→World→Prop):Option σ→(Nat→Prop)→(Nat→Prop)→World→Prop
 | some s=>J s
 | none=>Jx
def Oset(w0:World)(L:Nat→Prop)(w:World)(ι:Inj)(H:AH):Nat→Prop:=fun b=>live ι H b∨(w0.heap.size≤b∧¬L b∧∃d,w.heap[b]? = some (.deferred d))
theorem Oset.lt(rel:RelH w L ι H nx){b:Nat}(h:Oset w0 L w ι H b):b < w.heap.size:=by
 rcases h with h | ⟨_,_,d,h⟩
 · exact rel.live_lt h
 · exact(Wm.1 h).1
structure InY(nt n0:Nat)(w0:World)(L0:Nat→Prop)(ι0:Inj)(H0:AH)(B:Nat)(J:σ→(Nat→Prop)→(Nat→Prop)→World→Prop)(Jx:(Nat→Prop)→(Nat→Prop)→World→Prop)(w:World)(L:Nat→Prop)(ι:Inj)(ρ:Nat→AV)(H:AH)(nx:Nat)(a:Act)(s:Option σ):Prop where
 size:a.tmps.size=nt
 hn0:n0≤w0.heap.size
 defers:zmx n0 w (Lt L ι H) a.defers
 st:StY w0 L0 ι0 H0 w L ι H nx
 le:B≤nx
 kn:KOk w (Lt L ι H) ι a.tmps ρ
 js:jst J Jx s L (Oset w0 L w ι H) w
abbrev QTY(σ:Type):=AExit→Kn→AH→Nat→Option σ→Prop
def QQY(nt n0:Nat)(w0:World)(L0:Nat→Prop)(ι0:Inj)(H0:AH)(B:Nat)(J:σ→(Nat→Prop)→(Nat→Prop)→World→Prop)(Jx:(Nat→Prop)→(Nat→Prop)→World→Prop)(Q:QTY σ):Exit→Act→World→Prop:=fun e a w =>
 ∃L ι K H nx s,InY nt n0 w0 L0 ι0 H0 B J Jx w L ι (Kn.get K) H nx a s∧match e with
  | .normal=>Q .normal K H nx s
  | .exit id=>Q (.exit id) K H nx s
  | .ret=>Q .ret K H nx s
  | .goto l=>Q (.goto l) K H nx s
  | _=>False
theorem InY.seg(hJ:∀s,Stab (J s))(hJx:Stab Jx){ρ ρ':Nat→AV}{a a':Act}{s:Option σ}(h:InY nt n0 w0 L0 ι0 H0 B J Jx w L ι ρ H nx a s)(i:In nt n0 w L ι H nx w' ι' ρ' H' nx' a'):InY nt n0 w0 L0 ι0 H0 B J Jx w' L ι' ρ' H' nx' a' s:=by
 refine⟨i.size,h.hn0,i.defers,h.st.step i.st,Wg h.le i.le,i.kn,?_⟩
 have h1:∀b,b < w.heap.size→¬Oset w0 L w ι H b→w'.heap[b]? = w.heap[b]? := fun b hb hn=>i.st.ext.block b hb (fun hl=>hn (.inl hl))
 have h2:∀b,Oset w0 L w' ι' H' b→Oset w0 L w ι H b∨w.heap.size≤b:=fun b hb=>by
  rcases hb with hb | ⟨hb1,hb2,d,hb3⟩
  · exact(i.st.lv b hb).imp .inl id
  ·
   rcases Wp b w.heap.size with hlt|hge
   ·
    by_cases hl:live ι H b
    · exact .inl (.inl hl)
    · exact .inl (.inr ⟨hb1,hb2,d,by rw[←i.st.ext.block b hlt hl];exact hb3⟩)
   · exact .inr hge
 cases s with
 | some s=>exact hJ s L _ _ w w' h.js h1 h2 (fun b hb=>hb.lt i.st.rel) i.st.ext.size i.st.ext.os i.st.ext.tape i.st.ext.output
 | none=>exact hJx L _ _ w w' h.js h1 h2 (fun b hb=>hb.lt i.st.rel) i.st.ext.size i.st.ext.os i.st.ext.tape i.st.ext.output
theorem InY.here{ρ:Nat→AV}{a:Act}{s:Option σ}(h:InY nt n0 w0 L0 ι0 H0 B J Jx w L ι ρ H nx a s):In nt n0 w L ι H nx w ι ρ H nx a:=⟨h.size,h.defers,.refl h.st.rel,Wf _,h.kn⟩
theorem InY.ent(hJ:∀s,Stab (J s))(hJx:Stab Jx)(base:∀r q g l,ι0 r q g=some l→r < B){K K2:Kn}{H2:AH}{nx2:Nat}{a:Act}{s:Option σ}(h:InY nt n0 w0 L0 ι0 H0 B J Jx w L ι K.get H nx a s)(he:Ent B K H nx K2 H2 nx2):
  ∃ι2,InY nt n0 w0 L0 ι0 H0 B J Jx w L ι2 K2.get H2 nx2 a s:=by
 obtain⟨h1,h2⟩:=he;obtain⟨ι2,h3,h4,h5,h6⟩:=h2 w L ι a.tmps h.st.rel h.kn;refine⟨ι2,h.size,h.hn0,h.defers.less (fun b hb=>hb.imp id (h5 b)),⟨h.st.os,h.st.tape,h.st.output,h.st.size,h.st.block,fun r q g l hl=>h6 r q g l (base _ _ _ _ hl) (h.st.inj _ _ _ _ hl),h3,fun b hb=>h.st.lv b (h5 b hb),h.st.lg,h.st.ll⟩,h1,h4,?_⟩
 cases s with
 | some s=>exact hJ s L _ _ w w h.js (fun _ _ _=>rfl) (fun b hb=>.inl (hb.imp (h5 b) id)) (fun b hb=>hb.lt h3) (Wf _) rfl rfl rfl
 | none=>exact hJx L _ _ w w h.js (fun _ _ _=>rfl) (fun b hb=>.inl (hb.imp (h5 b) id)) (fun b hb=>hb.lt h3) (Wf _) rfl rfl rfl
theorem InY.wfK{K:Kn}{a:Act}{s:Option σ}(h:InY nt n0 w0 L0 ι0 H0 B J Jx w L ι K.get H nx a s):WfK K:=fun i=>(h.kn i).wf
theorem InY.drop{K:Kn}{a:Act}{s:Option σ}(h:InY nt n0 w0 L0 ι0 H0 B J Jx w L ι K.get H nx a s)(l:List Nat):InY nt n0 w0 L0 ι0 H0 B J Jx w L ι (K.drop l).get H nx a s:=by
 refine⟨h.size,h.hn0,h.defers,h.st,h.le,fun i=>?_,h.js⟩
 rcases Kn.get_drop K l i with h1|h1
 · rw[h1];exact .undef _ _
 · rw[h1];exact h.kn i
def WpY(P:Program)(nt n0:Nat)(w0:World)(L0:Nat→Prop)(ι0:Inj)(H0:AH)(B:Nat)(J:σ→(Nat→Prop)→(Nat→Prop)→World→Prop)(Jx:(Nat→Prop)→(Nat→Prop)→World→Prop)(c:Code)(Q:QTY σ)(K:Kn)(H:AH)(nx:Nat)(s:Option σ):Prop :=
 ∀(w:World)(L:Nat→Prop)(ι:Inj)(a:Act),InY nt n0 w0 L0 ι0 H0 B J Jx w L ι K.get H nx a s→c.wp P (QQY nt n0 w0 L0 ι0 H0 B J Jx Q) a w
variable {K:Kn} {s:Option σ} {Q:QTY σ}
theorem WpY.pure(hJ:∀s,Stab (J s))(hJx:Stab Jx){q:Nat→List Nat}{c:Code}(ac:ACode)(hc:comp P nt q c=some ac.strip)(h:awp P nx ac (fun e K H nx=>Q e K H nx s) K H nx):WpY P nt n0 w0 L0 ι0 H0 B J Jx c Q K H nx s:=by
 intro w L ι a hin
 refine wp_mono (ztQ zsi hin.st.rel (Wg hin.hn0 hin.st.size) ac c hc _ w ι K H nx a hin.here h) fun e a' w' ⟨ι',K',H',nx',hin',hq⟩=>?_
 refine⟨L,ι',K',H',nx',s,hin.seg hJ hJx hin',?_⟩
 cases e<;>exact hq
theorem WpY.seq{c1 c2:Code}(h:WpY P nt n0 w0 L0 ι0 H0 B J Jx c1 (fun e K H nx s=>match e with | .normal=>WpY P nt n0 w0 L0 ι0 H0 B J Jx c2 Q K H nx s|e=>Q e K H nx s) K H nx s):WpY P nt n0 w0 L0 ι0 H0 B J Jx (.seq c1 c2) Q K H nx s:=by
 intro w L ι a hin;refine wp_seq (wp_mono (h w L ι a hin) fun e a' w' ⟨L',ι',K',H',nx',s',hin',hq⟩=>?_)
 cases e with
 | normal=>exact hq w' L' ι' a' hin'
 | exit id=>exact⟨L',ι',K',H',nx',s',hin',hq⟩
 | ret=>exact⟨L',ι',K',H',nx',s',hin',hq⟩
 | goto l=>exact⟨L',ι',K',H',nx',s',hin',hq⟩
 | _=>exact hq.elim
theorem WpY.cond{x:Operand}{y:AOpd}{t:Bool}{c1 c2:Code}(hx:copd x=some y)(hev:ev K.get y=.bool t)(h1:t=true→WpY P nt n0 w0 L0 ι0 H0 B J Jx c1 Q K H nx s)(h2:t=false→WpY P nt n0 w0 L0 ι0 H0 B J Jx c2 Q K H nx s):
  WpY P nt n0 w0 L0 ι0 H0 B J Jx (.cond x c1 c2) Q K H nx s:=by
 intro w L ι a hin;have hv:=zp hin.kn hx;rw[hev] at hv;generalize hu:a.eval x=u at hv;cases hv
 cases t with
 | true=>exact wp_cond_true hu (h1 rfl w L ι a hin)
 | false=>exact wp_cond_false hu (h2 rfl w L ι a hin)
theorem WpY.block{id:Nat}{c:Code}(h:WpY P nt n0 w0 L0 ι0 H0 B J Jx c (fun e K H nx s=>match e with
   | .exit id'=>bif Wa id' id then Q .normal K H nx s else Q (.exit id') K H nx s
   | e=>Q e K H nx s) K H nx s):WpY P nt n0 w0 L0 ι0 H0 B J Jx (.block id c) Q K H nx s:=by
 intro w L ι a hin;refine wp_block (wp_mono (h w L ι a hin) fun e a' w' ⟨L',ι',K',H',nx',s',hin',hq⟩=>?_)
 cases e with
 | normal=>exact⟨L',ι',K',H',nx',s',hin',hq⟩
 |
  exit j =>
  simp only[Exit.inBlock];simp only at hq
  by_cases hj:j=id
  · subst hj;rw[if_pos rfl];rw[zep] at hq;exact⟨L',ι',K',H',nx',s',hin',hq⟩
  · rw[if_neg hj];rw[zeL hj] at hq;exact⟨L',ι',K',H',nx',s',hin',hq⟩
 | ret=>exact⟨L',ι',K',H',nx',s',hin',hq⟩
 | goto l=>exact⟨L',ι',K',H',nx',s',hin',hq⟩
 | _=>exact hq.elim
theorem WpY.loop (hJ:∀s,Stab (J s)) (hJx:Stab Jx) (base:∀r q g l,ι0 r q g=some l→r < B) {c:Code} {α:Type} (S:α→Kn × AH × Option σ) (N:Nat) (inv:α→Prop) (μ:α→Nat) (x0:α) (h0:inv x0) (he:Ent B K H nx (S x0).1 (S x0).2.1 N) (hs:s=(S x0).2.2)
  (hr:∀x,inv x→WfK (S x).1→WpY P nt n0 w0 L0 ι0 H0 B J Jx c (fun e K H nx s=>match e with
   | .normal=>∃x',inv x'∧μ x' < μ x∧Ent B K H nx (S x').1 (S x').2.1 N∧s=(S x').2.2
   | e=>Q e K H nx s) (S x).1 (S x).2.1 N (S x).2.2):WpY P nt n0 w0 L0 ι0 H0 B J Jx (.loop c) Q K H nx s:=by
 intro w L ι a hin;obtain⟨ι1,hin1⟩:=hin.ent hJ hJx base he;subst hs;refine wp_loop_ghost (fun n a w=>∃x L ι,inv x∧μ x=n∧InY nt n0 w0 L0 ι0 H0 B J Jx w L ι (Kn.get (S x).1) (S x).2.1 N a (S x).2.2) (μ x0) ⟨x0,L,ι1,h0,rfl,hin1⟩ ?_;rintro n a' w' ⟨x,L',ι',hx,rfl,hin'⟩
 refine wp_mono (hr x hx hin'.wfK w' L' ι' a' hin') fun e a2 w2 ⟨L2,ι2,K2,H2,nx2,s2,hin2,hq⟩=>?_
 cases e with
 |
  normal =>
  obtain⟨x',hx',hlt,he,rfl⟩:=hq;obtain⟨ι3,hin3⟩:=hin2.ent hJ hJx base he;exact⟨_,hlt,x',L2,ι3,hx',rfl,hin3⟩
 | exit id=>exact⟨L2,ι2,K2,H2,nx2,s2,hin2,hq⟩
 | ret=>exact⟨L2,ι2,K2,H2,nx2,s2,hin2,hq⟩
 | goto l=>exact⟨L2,ι2,K2,H2,nx2,s2,hin2,hq⟩
 | _=>exact hq.elim
end
section
variable {σ:Type} {P:Program} {w0 w w':World} {L0 L:Nat→Prop} {ι0 ι:Inj} {H0 H:AH} {nx B nt n0:Nat} {J:σ→(Nat→Prop)→(Nat→Prop)→World→Prop} {Jx:(Nat→Prop)→(Nat→Prop)→World→Prop} {K:Kn} {s:Option σ} {Q:QTY σ}
theorem zru{a:Act}{o:Oper}{c:Call}{x:Operand}{l:Nat}(ho:o.op=.call c)(hc:c.callee=.value x)(hx:a.eval x=.func (.yield l) #[] #[]):
  (execOp a.eval o).run P w=(Instr.yield l (c.args.map a.eval)).run P w:=by
 simp[execOp,ho,resolve,hc,hx,Deferred.ofValue,Sem.run_bind,invoke]
def WpYL(P:Program)(nt n0:Nat)(w0:World)(L0:Nat→Prop)(ι0:Inj)(H0:AH)(B:Nat)(J:σ→(Nat→Prop)→(Nat→Prop)→World→Prop)(Jx:(Nat→Prop)→(Nat→Prop)→World→Prop)(ops:Array Oper)(l:List Oper)(Q:QTY σ)(K:Kn)(H:AH)(nx:Nat)(s:Option σ):Prop :=
 ∀(w:World)(L:Nat→Prop)(ι:Inj)(a:Act),InY nt n0 w0 L0 ι0 H0 B J Jx w L ι K.get H nx a s→wpListIn Fence.wide 1 P ops (QQY nt n0 w0 L0 ι0 H0 B J Jx Q) l a w
theorem WpY.region{id:Nat}{ops:Array Oper}(h:WpYL P nt n0 w0 L0 ι0 H0 B J Jx ops ops.toList Q K H nx s):WpY P nt n0 w0 L0 ι0 H0 B J Jx (.region id ops false) Q K H nx s :=
 fun w L ι a hin=>wpIn_wide.1 (wpIn_region_list (h w L ι a hin))
theorem WpYL.nil{ops:Array Oper}(drop:List Nat)(h:Q .normal (K.drop drop) H nx s):WpYL P nt n0 w0 L0 ι0 H0 B J Jx ops [] Q K H nx s :=
 fun w L ι a hin=>⟨L,ι,K.drop drop,H,nx,s,hin.drop drop,h⟩
theorem WpYL.op (hJ:∀s,Stab (J s)) (hJx:Stab Jx) {ops:Array Oper} {o:Oper} {l:List Oper} (ao:AOper) (hr:OpRel P nt ops o ao)
  (h:ExK P true ao K H nx (fun K' H' nx'=>WpYL P nt n0 w0 L0 ι0 H0 B J Jx ops l Q K' H' nx' s)):WpYL P nt n0 w0 L0 ι0 H0 B J Jx ops (o::l) Q K H nx s:=by
 intro w L ι a hin;have hex:=zqH (k':=fun ρ H nx=>∃K',Kn.get K'=ρ∧WpYL P nt n0 w0 L0 ι0 H0 B J Jx ops l Q K' H nx s) (fun K H nx hh=>⟨K,rfl,hh⟩) h
 have:=zra hr hin.here hex (Kc:=wpListIn Fence.wide 1 P ops (QQY nt n0 w0 L0 ι0 H0 B J Jx Q) l) (Qc:=QQY nt n0 w0 L0 ι0 H0 B J Jx Q) (fun w' ι' ρ' H' nx' a' hin' ⟨K',hK',hh⟩=>by
  subst hK'
  exact hh w' L ι' a' (hin.seg hJ hJx hin'))
 unfold wpListIn;split
 · rename_i hw;rw[if_pos hw] at this;exact zvv (.inl rfl) (.inl rfl) this
 · rename_i hw;rw[if_neg hw] at this;exact⟨fun _ _=>trivial,this⟩
theorem InY.put{ρ:Nat→AV}{a:Act}{s s':Option σ}{d:Option Nat}(hd:ztO nt d=true)(h:InY nt n0 w0 L0 ι0 H0 B J Jx w L ι ρ H nx a s)(e:Ext L w w')(hJ:∀s,Stab (J s))(hJx:Stab Jx)(hj:jst J Jx s' (zk6 L w w') (Oset w0 L w ι H) w')(b:Bool):
  InY nt n0 w0 L0 ι0 H0 B J Jx w' (zk6 L w w') ι (upd ρ d (.bool b)) H nx (a.put d (.bool b)) s':=by
 have h2:∀b,Oset w0 (zk6 L w w') w' ι H b→Oset w0 L w ι H b:=fun b hb=>by
  rcases hb with hb | ⟨hb1,hb2,d,hb3⟩
  · exact .inl hb
  ·
   have hlt':=(Wm.1 hb3).1
   have hlt:b < w.heap.size:=by
    rcases Wp b w.heap.size with h1|h1
    · exact h1
    · exact absurd (.inr ⟨h1,hlt'⟩) hb2
   have hnl:¬L b:=fun hl=>hb2 (.inl hl)
   exact .inr ⟨hb1,hnl,d,by rw[←e.block b hlt hnl];exact hb3⟩
 replace hj:jst J Jx s' (zk6 L w w') (Oset w0 (zk6 L w w') w' ι H) w':=by
  have rel':=h.st.rel.yield e
  cases s' with
  | some s'=>exact hJ s' _ _ _ w' w' hj (fun _ _ _=>rfl) (fun b hb=>.inl (h2 b hb)) (fun b hb=>hb.lt rel') (Wf _) rfl rfl rfl
  | none=>exact hJx _ _ _ w' w' hj (fun _ _ _=>rfl) (fun b hb=>.inl (h2 b hb)) (fun b hb=>hb.lt rel') (Wf _) rfl rfl rfl
 cases d with
 | none=>exact⟨h.size,h.hn0,h.defers.yield h.st.rel e,h.st.yield e,h.le,fun i=>znF h.st.rel e (h.kn i),hj⟩
 |
  some d =>
  have hd':d < a.tmps.size:=by rw[h.size];simpa [ztO] using hd
  refine⟨by simp[Act.put,h.size],h.hn0,h.defers.yield h.st.rel e,h.st.yield e,h.le,fun i=>?_,hj⟩;show VR w' (Lt (zk6 L w w') ι H) ι ((a.tmps.setIfInBounds d (.bool b)).getD i undef) (if i=d then .bool b else ρ i);rw[zsN hd'];split
  · exact .bool _ _
  · exact znF h.st.rel e (h.kn i)
theorem VRs.plain{L':Nat→Prop}(hL:∀b,L' b→L b∨zl2 w b):∀{vs:List Value}{xs:List AV},VRs w L ι vs xs→(∀x∈xs,AV.Below 0 x)→VRs w L' noI vs xs
 | [],[],_,_=>.nil
 | v::vs,x::xs,.cons h1 h2,hb=>.cons (by
   have h3:=(h1.more hL).upto (hb x (by simp))
   have e:ι.upto 0=noI:=by funext r q g;simp[Inj.upto,Ab.noI]
   rw[e] at h3
   exact h3) (VRs.plain hL h2 (fun y hy=>hb y (List.mem_cons_of_mem _ hy)))
theorem WpYL.yield (hJ:∀s,Stab (J s)) (hJx:Stab Jx) {lp:Nat} {next:σ→Option (List AV × σ)} (hY:YOk P lp next J Jx) {ok:σ→Prop} (hok:∀s L O w,J s L O w→ok s) {ops:Array Oper} {o:Oper} {l:List Oper} {c:Call} {t:Nat} {xs:List AOpd} {s s':σ} (ho:o.op=.call c) (hc:c.callee=.value (.tmp t)) (hg:o.guard=none) (hd:ztO nt o.dst=true)
  (hx:c.args.toList.mapM copd=some xs) (hf:K.get t=.fn (.yield lp) []) (hn:next s=some (evs K.get xs,s')) (hb:∀x∈evs K.get xs,AV.Below 0 x)
  (h1:ok s'→WpYL P nt n0 w0 L0 ι0 H0 B J Jx ops l Q (setO K o.dst (.bool true)) H nx (some s')) (h2:WpYL P nt n0 w0 L0 ι0 H0 B J Jx ops l Q (setO K o.dst (.bool false)) H nx none) :
  WpYL P nt n0 w0 L0 ι0 H0 B J Jx ops (o::l) Q K H nx (some s):=by
 intro w L ι a hin;have hv:VR w (Lt L ι H) ι (a.eval (.tmp t)) (K.get t):=hin.kn t;rw[hf] at hv
 have hval:a.eval (.tmp t)=.func (.yield lp) #[] #[]:=by
  generalize a.eval (.tmp t)=v at hv
  cases hv with
  |
   fn _ _ cs _ hs _ =>
   have:cs=#[]:=by simpa using hs
   rw[this]
 have hvs:=(zmd hin.kn hx)
 have hy:=hY s (evs K.get xs) s' L (Oset w0 L w ι H) w (c.args.map a.eval) hn hin.js hin.st.rel.Lsz (fun b hb=>⟨hb.lt hin.st.rel,by rcases hb with hb|hb;exact hin.st.rel.out b hb;exact hb.2.1⟩) (by
  rw[Array.toList_map]
  exact VRs.plain (fun b hb=>by
   rcases hb with hb|hb | ⟨_,_,d,hb⟩
   · exact .inl (.inl hb)
   · exact .inl (.inr hb)
   · exact .inr (fun c e f hc=>by rw[hb] at hc;cases hc)) hvs hb)
 obtain⟨fn,tmps,assign,body,hrun,hround⟩:=hy;unfold wpListIn
 have hw:Region.wanted o (yielded ops a.tmps)=true:=by simp[Region.wanted,hg]
 rw[if_pos hw];refine⟨fun _ _=>trivial,?_⟩;have he:o.semAt Fence.wide.round a.eval=execOp a.eval o:=rfl;rw[he,zru ho hc hval,hrun];refine⟨fun _=>Wf _,hround.mono fun e w' ⟨hext,hres⟩=>?_⟩
 rcases hres with ⟨rfl,hj⟩ | ⟨rfl,hj⟩
 ·
  have:=h1 (hok _ _ _ _ hj) w' (zk6 L w w') ι (a.put o.dst (.bool true)) (by
   rw[znT]
   exact hin.put hd hext (s':=some s') hJ hJx hj true)
  exact this
 ·
  have:=h2 w' (zk6 L w w') ι (a.put o.dst (.bool false)) (by
   rw[znT]
   exact hin.put hd hext (s':=none) hJ hJx hj false)
  exact this
theorem it_ok {f:FuncId} {fn:Func} {c:Code} {caps:List AV} {next:σ→Option (List AV × σ)} {ok:σ→Prop} {s0:σ} {Qf:Option σ→AH→Nat→Prop}
  (hf:P.funcs[f]? = some fn) (hb:fn.body=some c) (hr:fn.results.toList.mapM (cret P)=some []) (hn:caps.length+1≤fn.ntmps)
  (h:∀(l:Nat) (w0:World) (L0:Nat→Prop) (ι0:Inj) (J:σ→(Nat→Prop)→(Nat→Prop)→World→Prop) (Jx:(Nat→Prop)→(Nat→Prop)→World→Prop),(∀r q g l,ι0 r q g=some l→r < nx)→(∀s,Stab (J s))→Stab Jx→YOk P l next J Jx→(∀s L O w,J s L O w→ok s) →
   WpY P fn.ntmps w0.heap.size w0 L0 ι0 H nx J Jx c (fun e _ H' nx' s=>match e with
    | .exit _=>False
    | .goto _=>False
    | _=>Qf s H' nx') (zlx 0 (.fn (.yield l) []::caps)) H nx (some s0)):ItOk P f caps H nx next ok s0 Qf:=by
 intro w L ι vc l J Jx hJ hJx hY hok rel hv hj
 have hlen:vc.size=caps.length:=by simpa using hv.length
 refine zo7 hf hb ?_
 have hvs:VRs w (Lt L ι H) ι (#[Value.func (.yield l) #[] #[]]++vc).toList (.fn (.yield l) []::caps):=by rw[Array.toList_append];exact .cons (.fn _ _ _ _ rfl (fun i v a h=>by simp at h)) hv
 have hsz:(#[Value.func (.yield l) #[] #[]]++vc).size=caps.length+1:=by simp[hlen,Nat.add_comm]
 generalize #[Value.func (.yield l) #[] #[]]++vc=vs at hvs hsz
 have hin:InY fn.ntmps w.heap.size w L ι H nx J Jx w L ι (zlx 0 (.fn (.yield l) []::caps)).get H nx { tmps:=vs++Array.replicate (fn.ntmps - vs.size) undef,defers:=[] } (some s0):=by
  refine⟨by simp;omega,Wf _,.nil,.refl rel,Wf _,fun i=>?_,hJ s0 L _ _ w w hj (fun _ _ _=>rfl) (fun b hb=>.inl (by
   rcases hb with hb | ⟨hb,_,d,h⟩
   · exact hb
   · have:=(Wm.1 h).1;omega)) (fun b hb=>hb.lt rel) (Wf _) rfl rfl rfl⟩
  rw[zq3,if_pos (Nat.zero_le _),Nat.sub_zero]
  rcases Wp i (caps.length+1) with hi|hi
  ·
   have h1:i < vs.size:=by omega
   refine hvs.get i _ _ ?_ (by simp[List.getD,List.getElem?_eq_getElem (show i < (AV.fn (.yield l) []::caps).length by simpa using hi)]);simp[Array.getD_eq_getD_getElem?,Array.getElem?_append,h1]
  · rw[show (AV.fn (.yield l) []::caps).getD i .undef=.undef by simp[List.getD,List.getElem?_eq_none (show (AV.fn (.yield l) []::caps).length≤i by simpa using hi)]];exact .undef _ _
 refine wp_mono (h l w L ι J Jx rel.idx hJ hJx hY hok w L ι _ hin) fun e a' w' ⟨L',ι',K,H',nx',s,hin',hq⟩=>?_
 have fin:Qf s H' nx'→∃ms,a'.defers=ms.map zrm∧ms.Nodup∧(∀m∈ms,w'.heap[m]? = some (.deferred (some [])))∧∃v,(results fn a'.tmps).run P (shut ms w')=.ok v (shut ms w') ∧
   ∃v_1 L' ι' H' nx',Ending.returned v=.returned v_1∧StY w L ι H (shut ms w') L' ι' H' nx'∧nx≤nx'∧((∃s,J s L' (live ι' H') (shut ms w')∧Qf (some s) H' nx')∨(Jx L' (live ι' H') (shut ms w')∧Qf none H' nx')):=by
  intro h2;obtain⟨ms,m1,m2,m3⟩:=hin'.defers;refine⟨ms,m1,m2,fun m hm=>(m3 m hm).2.1,?_⟩
  have hD:∀b,b∈ms→zl2 w' b∧b < w'.heap.size∧¬live ι' H' b:=fun b hb=>by obtain⟨h4,h5,h6⟩:=m3 b hb;exact⟨fun c e f hc=>(by rw[h5] at hc;cases hc),(Wm.1 h5).1,fun hl=>h6 (.inr hl)⟩
  have he:=zsW ms w';obtain⟨hrel,hvr⟩:=hin'.st.rel.turn hD he;have st:=hin'.st
  have st2:StY w L ι H (shut ms w') L' ι' H' nx':=by refine⟨he.os.trans st.os,he.tape.trans st.tape,he.output.trans st.output,Wg st.size he.size,fun b hb h1 h2=>?_,st.inj,hrel,st.lv,st.lg,st.ll⟩;rw[he.block b (Wo hb st.size) (fun hm=>by have:=(m3 b hm).1;omega)];exact st.block b hb h1 h2
  have k1:∀b,b < w'.heap.size→¬Oset w L' w' ι' H' b→(shut ms w').heap[b]? = w'.heap[b]? := fun b hb hn=>he.block b hb (fun hm=>hn (.inr ⟨(m3 b hm).1,fun hl=>(m3 b hm).2.2 (.inl hl),_,(m3 b hm).2.1⟩))
  obtain⟨us,h3,h4⟩:=zxE hrel (fun i=>hvr _ _ (hin'.kn i)) _ _ hr trivial;obtain⟨v,h5,_⟩:=zsf h3 h4;refine⟨v,h5,v,L',ι',H',nx',rfl,st2,hin'.le,?_⟩;have hjs:=hin'.js
  cases s with
  | some s=>exact .inl ⟨s,hJ s L' _ _ w' _ hjs k1 (fun b hb=>.inl (.inl hb)) (fun b hb=>hrel.live_lt hb) he.size he.os he.tape he.output,h2⟩
  | none=>exact .inr ⟨hJx L' _ _ w' _ hjs k1 (fun b hb=>.inl (.inl hb)) (fun b hb=>hrel.live_lt hb) he.size he.os he.tape he.output,h2⟩
 cases e with
 | normal=>exact⟨.inl rfl,fin hq⟩
 | ret=>exact⟨.inr rfl,fin hq⟩
 | exit id=>exact hq.elim
 | _=>exact hq.elim
end
structure YE (P:Program) (nt:Nat) (q:Nat→List Nat) {σ:Type} (next:σ→Option (List AV × σ)) (ok:σ→Prop) where
 n0:Nat
 w0:World
 L0:Nat→Prop
 ι0:Inj
 H0:AH
 B:Nat
 J:σ→(Nat→Prop)→(Nat→Prop)→World→Prop
 Jx:(Nat→Prop)→(Nat→Prop)→World→Prop
 lp:Nat
 hJ:∀s,Stab (J s)
 hJx:Stab Jx
 base:∀r q g l,ι0 r q g=some l→r < B
 hY:YOk P lp next J Jx
 hok:∀s L O w,J s L O w→ok s
section
variable {σ:Type} {P:Program} {nt:Nat} {q:Nat→List Nat} {next:σ→Option (List AV × σ)} {ok:σ→Prop} (E:YE P nt q next ok)
def WpA(ac:ACode)(Q:QTY σ)(K:Kn)(H:AH)(nx:Nat)(s:Option σ):Prop:=∀c,comp P nt q c=some ac.strip→WpY P nt E.n0 E.w0 E.L0 E.ι0 E.H0 E.B E.J E.Jx c Q K H nx s
def WpAL(asv:List AOper)(drop:List Nat)(Q:QTY σ)(K:Kn)(H:AH)(nx:Nat)(s:Option σ):Prop :=
 ∀(ops:Array Oper)(l:List Oper),asv.length=l.length→(∀(i:Nat)(o:Oper)(ao:AOper),l[i]? = some o→asv[i]? = some ao→OpRel P nt ops o ao)→WpYL P nt E.n0 E.w0 E.L0 E.ι0 E.H0 E.B E.J E.Jx ops l Q K H nx s
variable {E} {K:Kn} {H:AH} {nx:Nat} {s:Option σ} {Q:QTY σ}
theorem WpA.pure{ac:ACode}(h:wpX P nx ac (fun e K H nx=>Q e K H nx s) K H nx):WpA E ac Q K H nx s:=fun _ hc=>WpY.pure E.hJ E.hJx ac hc h
def seqY(E:YE P nt q next ok)(b:ACode)(Q:QTY σ):QTY σ:=fun e K H nx s=>match e with
 | .normal=>WpA E b Q K H nx s
 | e=>Q e K H nx s
def zDZ(id:Nat)(Q:QTY σ):QTY σ:=fun e K H nx s=>match e with
 | .exit id'=>bif Wa id' id then Q .normal K H nx s else Q (.exit id') K H nx s
 | e=>Q e K H nx s
def loopY{α:Type}(B:Nat)(S:α→Kn × AH × Option σ)(N:Nat)(inv:α→Prop)(μ:α→Nat)(x:α)(Q:QTY σ):QTY σ:=fun e K H nx s=>match e with
 | .normal=>∃x',inv x'∧μ x' < μ x∧Ent B K H nx (S x').1 (S x').2.1 N∧s=(S x').2.2
 | e=>Q e K H nx s
theorem WpA.seq{a b:ACode}(h:WpA E a (seqY E b Q) K H nx s):WpA E (.seq a b) Q K H nx s:=by
 intro c hc
 cases c with
 |
  seq c1 c2 =>
  simp only[comp,ACode.strip,Wn,Wc,Wj] at hc;obtain⟨x',hx,y',hy,he⟩:=hc;cases he
  refine WpY.seq fun w L ι a' hin=>wp_mono (h c1 hx w L ι a' hin) fun e a2 w2 ⟨L',ι',K',H',nx',s',hin',hq⟩=>⟨L',ι',K',H',nx',s',hin',?_⟩
  cases e with
  | normal=>exact hq c2 hy
  | exit id=>exact hq
  | ret=>exact hq
  | goto l=>exact hq
  | _=>exact hq
 |
  scope c1 =>
  exfalso;simp only[comp,ACode.strip,Wc] at hc;obtain⟨x',hx,he⟩:=hc;exact(zaz he).elim
 | region id ops draw=>simp only[comp,ACode.strip] at hc;(repeat' split at hc)<;>simp at hc
 | rangeFunc g0 ps0 cA cB=>simp only[comp,ACode.strip] at hc;split at hc<;>simp[Wc] at hc
 | _=>simp[comp,ACode.strip,Wc] at hc
theorem WpA.cond{x:AOpd}{t:Bool}{a b:ACode}(hev:ev K.get x=.bool t)(h1:t=true→WpA E a Q K H nx s)(h2:t=false→WpA E b Q K H nx s):WpA E (.cond x a b) Q K H nx s:=by
 intro c hc
 cases c with
 |
  cond x1 c1 c2 =>
  simp only[comp,ACode.strip,Wn,Wc,Wj] at hc;obtain⟨x',hx,y',hy,z',hz,he⟩:=hc;cases he;exact WpY.cond hx hev (fun e=>h1 e c1 hy) (fun e=>h2 e c2 hz)
 |
  scope c1 =>
  exfalso;simp only[comp,ACode.strip,Wc] at hc;obtain⟨x',hx,he⟩:=hc;exact(zaz he).elim
 | region id ops draw=>simp only[comp,ACode.strip] at hc;(repeat' split at hc)<;>simp at hc
 | rangeFunc g0 ps0 cA cB=>simp only[comp,ACode.strip] at hc;split at hc<;>simp[Wc] at hc
 | _=>simp[comp,ACode.strip,Wc] at hc
theorem WpA.block{id:Nat}{a:ACode}(h:WpA E a (zDZ id Q) K H nx s):WpA E (.block id a) Q K H nx s:=by
 intro c hc
 cases c with
 |
  block id1 c1 =>
  simp only[comp,ACode.strip,Wn,Wc,Wj] at hc;obtain⟨x',hx,he⟩:=hc;cases he
  refine WpY.block fun w L ι a' hin=>wp_mono (h c1 hx w L ι a' hin) fun e a2 w2 ⟨L',ι',K',H',nx',s',hin',hq⟩=>⟨L',ι',K',H',nx',s',hin',?_⟩
  cases e<;>exact hq
 |
  scope c1 =>
  exfalso;simp only[comp,ACode.strip,Wc] at hc;obtain⟨x',hx,he⟩:=hc;exact(zaz he).elim
 | region id ops draw=>simp only[comp,ACode.strip] at hc;(repeat' split at hc)<;>simp at hc
 | rangeFunc g0 ps0 cA cB=>simp only[comp,ACode.strip] at hc;split at hc<;>simp[Wc] at hc
 | _=>simp[comp,ACode.strip,Wc] at hc
theorem WpA.loop {a:ACode} {α:Type} (S:α→Kn × AH × Option σ) (N:Nat) (inv:α→Prop) (μ:α→Nat) (x0:α) (h0:inv x0) (he:Ent E.B K H nx (S x0).1 (S x0).2.1 N) (hs:s=(S x0).2.2)
  (hr:∀x,inv x→WfK (S x).1→WpA E a (loopY E.B S N inv μ x Q) (S x).1 (S x).2.1 N (S x).2.2):WpA E (.loop a) Q K H nx s:=by
 intro c hc
 cases c with
 |
  loop c1 =>
  simp only[comp,ACode.strip,Wn,Wc,Wj] at hc;obtain⟨x',hx,hee⟩:=hc;cases hee
  refine WpY.loop E.hJ E.hJx E.base S N inv μ x0 h0 he hs fun x hi hw w L ι a' hin=>wp_mono (hr x hi hw c1 hx w L ι a' hin) fun e a2 w2 ⟨L',ι',K',H',nx',s',hin',hq⟩=>⟨L',ι',K',H',nx',s',hin',?_⟩
  cases e<;>exact hq
 |
  scope c1 =>
  exfalso;simp only[comp,ACode.strip,Wc] at hc;obtain⟨x',hx,he⟩:=hc;exact(zaz he).elim
 | region id ops draw=>simp only[comp,ACode.strip] at hc;(repeat' split at hc)<;>simp at hc
 | rangeFunc g0 ps0 cA cB=>simp only[comp,ACode.strip] at hc;split at hc<;>simp[Wc] at hc
 | _=>simp[comp,ACode.strip,Wc] at hc
theorem WpA.region{os:List AOper}{drop:List Nat}(h:WpAL E os drop Q K H nx s):WpA E (.region os drop) Q K H nx s:=by
 intro c hc
 cases c with
 |
  region id ops draw =>
  simp only[comp,ACode.strip] at hc;split at hc
  ·
   rename_i as' hm
   cases draw with
   |
    false =>
    simp only[Bool.false_eq_true,if_false,Wj,ACode.region.injEq,and_true] at hc;subst hc;obtain⟨h1,h2⟩:=ztb hm;refine WpY.region (h ops ops.toList (by rw[List.length_map,h1]) fun i o ao h3 h4=>?_);rw[List.getElem?_map] at h4;obtain⟨b0,h40,rfl⟩:=Wu.1 h4;exact(h2 i o _ h3 h40).ro
   |
    true =>
    simp only[if_true] at hc
    split at hc<;>cases hc
  · cases hc
 |
  scope c1 =>
  exfalso;simp only[comp,ACode.strip,Wc] at hc;obtain⟨x',hx,he⟩:=hc;exact(zaz he).elim
 | rangeFunc g0 ps0 cA cB=>simp only[comp,ACode.strip] at hc;split at hc<;>simp[Wc] at hc
 | _=>simp[comp,ACode.strip,Wc] at hc
theorem WpAL.nil{drop:List Nat}(h:Q .normal (K.drop drop) H nx s):WpAL E [] drop Q K H nx s:=by intro ops l hl _;have:l=[]:=List.eq_nil_of_length_eq_zero hl.symm;subst this;exact WpYL.nil drop h
theorem WpAL.op{ao:AOper}{asv:List AOper}{drop:List Nat}(h:ExK P true ao K H nx (fun K' H' nx'=>WpAL E asv drop Q K' H' nx' s)):WpAL E (ao::asv) drop Q K H nx s:=by
 intro ops l hl hr
 cases l with
 | nil=>cases hl
 |
  cons o l =>
  refine WpYL.op E.hJ E.hJx ao (hr 0 o ao rfl rfl) ?_;refine zpU ?_ h
  exact fun K' H' nx' hh=>hh ops l (by simpa using hl) fun i o ao h1 h2=>hr (i+1) o ao (by simpa using h1) (by simpa using h2)
theorem OpRel.callv{ops:Array Oper}{o:Oper}{d:Option Nat}{x:AOpd}{xs:List AOpd}(h:OpRel P nt ops o ⟨d,.callv x xs,none⟩):
  ∃c t,o.op=.call c∧c.callee=.value (.tmp t)∧c.args.toList.mapM copd=some xs∧x=.t t∧o.guard=none∧o.dst=d∧ztO nt d=true:=by
 obtain⟨op0,h1,h2⟩:=h.op
 have h3:op0=.callv x xs:=by
  rcases h2 with h2 | ⟨_,_,_,h2⟩ | ⟨_,_,h2⟩ | ⟨_,_,_,_,_,h2⟩ | ⟨_,_,_,_,_,h2⟩
  · exact h2.symm
  · cases h2
  · cases h2
  · cases h2
  · cases h2
 subst h3;obtain⟨c,t,h4,h5,h6,h7⟩:=zuN h1;refine⟨c,t,h4,h5,h6,h7,?_,h.dst.symm,by have e1:=h.dst;have e2:=h.ok;rw[←e1] at e2;exact e2⟩;have:=h.guard;split at this
 · assumption
 · obtain⟨_,_,h8⟩:=this;cases h8
theorem WpAL.yield {asv:List AOper} {drop:List Nat} {d:Option Nat} {t:Nat} {xs:List AOpd} {s s':σ} (hf:K.get t=.fn (.yield E.lp) []) (hn:next s=some (evs K.get xs,s')) (hb:∀x∈evs K.get xs,AV.Below 0 x)
  (h1:ok s'→WpAL E asv drop Q (setO K d (.bool true)) H nx (some s')) (h2:WpAL E asv drop Q (setO K d (.bool false)) H nx none):WpAL E (⟨d,.callv (.t t) xs,none⟩::asv) drop Q K H nx (some s):=by
 intro ops l hl hr
 cases l with
 | nil=>cases hl
 |
  cons o l =>
  obtain⟨c,t',h3,h4,h5,h6,h7,h8,h9⟩:=(hr 0 o _ rfl rfl).callv;cases h6;subst h8
  have hl':asv.length=l.length:=by simpa using hl
  have hr':∀(i:Nat)(o:Oper)(ao:AOper),l[i]? = some o→asv[i]? = some ao→OpRel P nt ops o ao:=fun i o ao h1 h2=>hr (i+1) o ao (by simpa using h1) (by simpa using h2)
  exact WpYL.yield E.hJ E.hJx E.hY E.hok h3 h4 h7 h9 h5 hf hn hb (fun hk=>h1 hk ops l hl' hr') (h2 ops l hl' hr')
def retY(Qf:Option σ→AH→Nat→Prop):QTY σ:=fun e _ H nx s=>match e with
 | .exit _=>False
 | .goto _=>False
 | _=>Qf s H nx
theorem zgP{b:ACode}:seqY E b Q .normal K H nx s=WpA E b Q K H nx s:=rfl
theorem zsI{id:Nat}:zDZ id Q .normal K H nx s=Q .normal K H nx s:=rfl
theorem zuk{α:Type}{B:Nat}{S:α→Kn × AH × Option σ}{N:Nat}{inv:α→Prop}{μ:α→Nat}{x:α}:loopY B S N inv μ x Q .normal K H nx s=∃x',inv x'∧μ x' < μ x∧Ent B K H nx (S x').1 (S x').2.1 N∧s=(S x').2.2:=rfl
theorem zC3 {f:FuncId} {ac:ACode} {rs:List ARet} (hc:zO P f q=some (ac.strip,rs,nt)) (hrs:rs=[]) {caps:List AV} {s0:σ} {Qf:Option σ→AH→Nat→Prop} (hn:Wh (caps.length+1) nt=true)
  (h:∀E:YE P nt q next ok,E.B=nx→WpA E ac (retY Qf) (zlx 0 (.fn (.yield E.lp) []::caps)) H nx (some s0)):ItOk P f caps H nx next ok s0 Qf:=by
 subst hrs;unfold zO at hc;split at hc
 ·
  rename_i fn hf;split at hc
  ·
   rename_i c hb;split at hc
   ·
    rename_i a r h1 h2;cases hc
    refine it_ok hf hb h2 (Wq hn) fun l w0 L0 ι0 J Jx base hJ hJx hY hok w L ι a' hin=>?_
    let E:YE P fn.ntmps q next ok:=⟨w0.heap.size,w0,L0,ι0,H,nx,J,Jx,l,hJ,hJx,base,hY,hok⟩
    refine wp_mono (h E rfl c h1 w L ι a' hin) fun e a2 w2 ⟨L',ι',K',H',nx',s',hin',hq⟩=>⟨L',ι',K',H',nx',s',hin',?_⟩
    cases e<;>exact hq
   · cases hc
  · cases hc
 · cases hc
end
section
variable {σ:Type} {P:Program} {nt:Nat} {q:Nat→List Nat} {next:σ→Option (List AV × σ)} {ok:σ→Prop} {E:YE P nt q next ok} {K:Kn} {H:AH} {nx:Nat} {s:Option σ} {Q:QTY σ}
def preQ(E:YE P nt q next ok)(post:List AOper)(drop:List Nat)(Q:QTY σ)(s:Option σ):QT:=fun e K H nx=>match e with
 | .normal=>WpAL E post drop Q K H nx s
 | _=>False
theorem zne{post:List AOper}{drop:List Nat}:preQ E post drop Q s .normal K H nx=WpAL E post drop Q K H nx s:=rfl
theorem ztU:∀K:Kn,Kn.drop K []=K
 | []=>rfl
 |
  (j,v)::t=>by
  simp only[Kn.drop,memN,cond_false];rw[ztU t]
theorem WpAL.pre0{post:List AOper}{drop:List Nat}:∀(pre:List AOper){K:Kn}{H:AH}{nx:Nat},aops P pre [] (preQ E post drop Q s) K H nx→WpAL E (pre++post) drop Q K H nx s
 |
  [],K,H,nx,h=>by
  have h:WpAL E post drop Q (K.drop []) H nx s:=h;rw[ztU] at h;exact h
 |
  o::os,K,H,nx,h=>by
  rw[List.cons_append];refine WpAL.op (zpU ?_ h)
  exact fun K' H' nx' hh=>WpAL.pre0 os hh
theorem WpAL.pre{post:List AOper}{drop:List Nat}{pre:List AOper}{asv:List AOper}(he:asv=pre++post)(h:wpX P 0 (.region pre []) (preQ E post drop Q s) K H nx):WpAL E asv drop Q K H nx s:=by subst he;exact WpAL.pre0 pre h
end
variable {P:Program} {H:AH} {nx:Nat} {D:Nat→Nat→Prop}
section
variable {P:Program}
structure DrawOk2(rk:Nat→Nat)(ops:List AOper)(deps:List (List Nat))(Ls:List Nat)(A:List (List Nat))(St:List (List Nat))(plan:Plan)(ks:List Nat):Prop where
 low:∀(i:Nat),i < ops.length→∀j∈deps.getD i [],j < ops.length∧rk j < rk i
 clo:∀(i:Nat),i < ops.length→∀j∈A.getD i [],j∈deps.getD i []∨∃d∈deps.getD i [],j∈A.getD d []
 one:∀(i j d:Nat),i < ops.length→j < ops.length→(ops.getD i default).dst=some d→(ops.getD j default).dst=some d→i=j
 keys:∀k∈ks,∃o∈ops,o.dst=some k
 look:∀(i:Nat),i < ops.length→∀t∈(ops.getD i default).looks,(∃j∈A.getD i [],(ops.getD j default).dst=some t)∨∀o∈ops,o.dst≠some t
 lin:∀i∈Ls,i < ops.length
 st0:[]∈St
 stc:∀S∈St,∀i∈Ls,zjl Ls A i S=true→zrw Ls i S∈St
 plan:∀(i:Nat),i < ops.length→((ops.getD i default).fixed=true∧(ops.getD i default).sees=false∧i∉Ls∧anyP plan i=true) ∨
  (i∉Ls∧∀S∈St,zjl Ls A i S=true→memP plan i S S=true)∨(i∈Ls∧∀S∈St,zjl Ls A i S=true→memP plan i S (zrw Ls i S)=true)
end
inductive Ad(M:Option Nat)(r q g:Nat):AV→AV→Prop
 | same (a):Ad M r q g a a
 | own (m off n) (h:M=some m):Ad M r q g (.own m 0 0 off n) (.own r q g off n)
 | ptr (m i f) (h:M=some m):Ad M r q g (.ptr m 0 0 i f) (.ptr r q g i f)
 | nil (h:M=none):Ad M r q g .nilsl (.own r q g 0 0)
 | agg (asv bs) (hl:asv.length=bs.length) (h:∀(i:Nat)(a b:AV),asv[i]? = some a→bs[i]? = some b→Ad M r q g a b):Ad M r q g (.agg asv) (.agg bs)
 | fn (f asv bs) (hl:asv.length=bs.length) (h:∀(i:Nat)(a b:AV),asv[i]? = some a→bs[i]? = some b→Ad M r q g a b):Ad M r q g (.fn f asv) (.fn f bs)
def RowA(M:Option Nat)(r q g:Nat)(els els2:List (List AV)):Prop :=
 els2.length=els.length∧∀(i:Nat)(c2:List AV),els2[i]? = some c2→∃c,els[i]? = some c∧c2.length=c.length∧∀(j:Nat)(a b:AV),c[j]? = some a→c2[j]? = some b→Ad M r q g a b
inductive ObjA(M:Option Nat)(r q g:Nat):AObj→AObj→Prop
 | same (o):ObjA M r q g o o
 | row (sz els els2 g1) (h:RowA M r q g els els2):ObjA M r q g (.row sz els g1) (.row sz els2 g1)
 | fam (sz ins ins2) (h:∀(i:Nat) (p2:List (List AV) × Nat),ins2[i]? = some p2→∃p,ins[i]? = some p∧p2.2=p.2∧RowA M r q g p.1 p2.1):ObjA M r q g (.fam sz ins) (.fam sz ins2)
theorem zt3{B:Nat}:∀{fs:Fds},(fs.all fun f=>Wh B f.1)=true→∀{r q},r < B→fat fs r q=none
 | [],_,r,q,_=>rfl
 |
  (F,q',N)::u,h,r,q,hr=>by
  simp only[List.all_cons,We] at h;have h1:=Wq h.1;have hb:Wa F r=false:=zeL (by omega);simp only[fat,hb,Bool.false_and,cond_false];exact zt3 h.2 hr
theorem Ent.foldB{B:Nat}{K K2:Kn}{H H2:AH}{nx nx2:Nat}(t:Tab)(fs:Fds)(hB:Wh B nx2=true)(hid:t.idB B=true)(hfs:(fs.all fun f=>Wh B f.1)=true)(hok:t.ok nx2 []=true)(hf:fOk nx2 t fs=true)(hr:zvB H H2 (fsig t fs) nx2 H2)(hK:zt8 H H2 (fsig t fs) K2 K):Ent B K H nx K2 H2 nx2:=by
 have tab:∀{r' q' x},t.sig r' q'=some x→∃r d,t.at r'=some (r,d)∧x=(r,q',d):=by
  intro r' q' x h;unfold Tab.sig at h
  cases e1:t.at r' with
  | none=>rw[e1] at h;cases h
  | some p1=>rw[e1] at h;cases h;exact⟨p1.1,p1.2,rfl,rfl⟩
 refine Ent.view (fsig t fs) noQ ⟨Wq hB,fun r q h=>?_,?_,fun _ _ _ _ _ _ h=>h,?_,ztS hr,zue hr⟩ (zrT hK)
 · unfold fsig;rw[zt3 hfs h];unfold Tab.sig;simp only;rw[Tab.idB_at hid r h]
 ·
  intro r1 q1 r2 q2 r q d1 d2 h1 h2;unfold fsig at h1 h2
  cases e1:fat fs r1 q1 with
  |
   some N =>
   rw[e1] at h1;cases h1
   cases e2:fat fs r2 q2 with
   | some M=>rw[e2] at h2;cases h2;exact zAN hf e1 e2
   |
    none =>
    rw[e2] at h2;obtain⟨r0,d0,h3,h4⟩:=tab h2;cases h4;have:=(Tab.ok_at hok h3).2.2;exact absurd ((za1 _ _).2 this) (by rw[(zsz hf e1).2.1];exact Wl)
  |
   none =>
   rw[e1] at h1;obtain⟨r0,d0,h3,h4⟩:=tab h1;cases h4
   cases e2:fat fs r2 q2 with
   |
    some M =>
    rw[e2] at h2;cases h2;have:=(Tab.ok_at hok h3).2.2;exact absurd ((za1 _ _).2 this) (by rw[(zsz hf e2).2.1];exact Wl)
   |
    none =>
    rw[e2] at h2;obtain⟨r0',d0',h5,h6⟩:=tab h2;cases h6;exact⟨Tab.ok_inj hok h3 h5,rfl⟩
 ·
  intro r' q' x h;unfold fsig at h
  cases e1:fat fs r' q' with
  | some N=>exact(zsz hf e1).1
  |
   none =>
   rw[e1] at h;obtain⟨r0,d0,h3,h4⟩:=tab h;exact(Tab.ok_at hok h3).1
end Go.Ab
namespace Go.Ab.Dm
abbrev Adj:=List (List Nat)
def suc(E:Adj)(k:Nat):List Nat:=E.getD k []
def Adj.ok(E:Adj):Prop:=∀k,∀n∈suc E k,n < E.length
def dfs(E:Adj):Nat→Nat→List Nat × List Nat→List Nat × List Nat
 | 0,_,s=>s
 |
  f+1,k,s =>
  let s1:=(suc E k).foldl (fun s n=>if n∈s.1 then s else dfs E f n s) (s.1++[k],s.2)
  (s1.1,s1.2++[k])
def orderL(E:Adj):List Nat:=if E.length=0 then [] else (dfs E E.length 0 ([],[])).2.reverse
inductive RA(E:Adj)(X:Nat→Prop)(a:Nat):Nat→Prop
 | refl:¬X a→RA E X a a
 | step {b c:Nat}:RA E X a b→c∈suc E b→¬X c→RA E X a c
end Go.Ab.Dm
namespace Go.Proofs
open Go.RowKit Go.Maps Go.Sort Go.Shelf
def zvH:Go.Shelf.Ren:=⟨fun|5=>184|8=>122|7=>202|19=>168|20=>169|10=>209|11=>210|12=>211|13=>212|14=>213|15=>214|16=>215|17=>216|18=>217|30=>224|31=>190|32=>191|33=>225|34=>226|35=>227|40=>230|n=>n,fun|23=>35|25=>3|3=>3|32=>194|22=>35|0=>0|44=>24|46=>233|4=>4|36=>224|35=>223|41=>229|5=>5|9=>9|53=>245|57=>249|63=>260|64=>109|n=>n,fun|n=>n⟩
theorem zAO:Go.Proofs.SlLaysM.n5 Tryz.prog zvH:={
 mixed:=by kernel_rfl,
 f5:=⟨Tryz.f184.name,by decide,Tryz.func184.trans (congrArg some (by kernel_rfl))⟩,
 f7:=⟨Tryz.f202.name,by decide,Tryz.func202.trans (congrArg some (by kernel_rfl))⟩,
 f8:=Tryz.func122.trans (congrArg some (by kernel_rfl)),
 f10:=⟨Tryz.f209.name,by decide,Tryz.func209.trans (congrArg some (by kernel_rfl))⟩,
 f11:=⟨Tryz.f210.name,by decide,Tryz.func210.trans (congrArg some (by kernel_rfl))⟩,
 f12:=⟨Tryz.f211.name,by decide,Tryz.func211.trans (congrArg some (by kernel_rfl))⟩,
 f13:=⟨Tryz.f212.name,by decide,Tryz.func212.trans (congrArg some (by kernel_rfl))⟩,
 f14:=⟨Tryz.f213.name,by decide,Tryz.func213.trans (congrArg some (by kernel_rfl))⟩,
 f15:=⟨Tryz.f214.name,by decide,Tryz.func214.trans (congrArg some (by kernel_rfl))⟩,
 f16:=⟨Tryz.f215.name,by decide,Tryz.func215.trans (congrArg some (by kernel_rfl))⟩,
 f17:=⟨Tryz.f216.name,by decide,Tryz.func216.trans (congrArg some (by kernel_rfl))⟩,
 f18:=⟨Tryz.f217.name,by decide,Tryz.func217.trans (congrArg some (by kernel_rfl))⟩,
 f19:=Tryz.func168.trans (congrArg some (by kernel_rfl)),
 f20:=Tryz.func169.trans (congrArg some (by kernel_rfl)),
 f30:=⟨Tryz.f224.name,by decide,Tryz.func224.trans (congrArg some (by kernel_rfl))⟩,
 f31:=Tryz.func190.trans (congrArg some (by kernel_rfl)),
 f32:=Tryz.func191.trans (congrArg some (by kernel_rfl)),
 f33:=⟨Tryz.f225.name,by decide,Tryz.func225.trans (congrArg some (by kernel_rfl))⟩,
 f34:=⟨Tryz.f226.name,by decide,Tryz.func226.trans (congrArg some (by kernel_rfl))⟩,
 f35:=⟨Tryz.f227.name,by decide,Tryz.func227.trans (congrArg some (by kernel_rfl))⟩,
 f40:=⟨Tryz.f230.name,by decide,Tryz.func230.trans (congrArg some (by kernel_rfl))⟩,
 t0:=Tryz.underlying0,
 a0:=Tryz.isAgg0,
 z0:=Tryz.sizeOf0,
 v0:=Tryz.zeroValue0,
 t3:=Tryz.underlying3,
 a3:=Tryz.isAgg3,
 z3:=Tryz.sizeOf3,
 v3:=Tryz.zeroValue3,
 t4:=Tryz.underlying4,
 a4:=Tryz.isAgg4,
 z4:=Tryz.sizeOf4,
 v4:=Tryz.zeroValue4,
 t5:=Tryz.underlying5,
 a5:=Tryz.isAgg5,
 z5:=Tryz.sizeOf5,
 v5:=Tryz.zeroValue5,
 t9:=Tryz.underlying9,
 a9:=Tryz.isAgg9,
 z9:=Tryz.sizeOf9,
 v9:=Tryz.zeroValue9,
 t22:=Tryz.underlying35,
 a22:=Tryz.isAgg35,
 z22:=Tryz.sizeOf35,
 v22:=Tryz.zeroValue35,
 t23:=Tryz.underlying35,
 a23:=Tryz.isAgg35,
 z23:=Tryz.sizeOf35,
 v23:=Tryz.zeroValue35,
 t25:=Tryz.underlying3,
 a25:=Tryz.isAgg3,
 z25:=Tryz.sizeOf3,
 v25:=Tryz.zeroValue3,
 t32:=Tryz.underlying194,
 a32:=Tryz.isAgg194,
 z32:=Tryz.sizeOf194,
 v32:=Tryz.zeroValue194,
 t35:=Tryz.underlying223,
 a35:=Tryz.isAgg223,
 z35:=Tryz.sizeOf223,
 v35:=Tryz.zeroValue223,
 t36:=Tryz.underlying224,
 a36:=Tryz.isAgg224,
 z36:=Tryz.sizeOf224,
 v36:=Tryz.zeroValue224,
 t41:=Tryz.underlying229,
 a41:=Tryz.isAgg229,
 z41:=Tryz.sizeOf229,
 v41:=Tryz.zeroValue229,
 t44:=Tryz.underlying24,
 a44:=Tryz.isAgg24,
 z44:=Tryz.sizeOf24,
 v44:=Tryz.zeroValue24,
 t46:=Tryz.underlying233,
 a46:=Tryz.isAgg233,
 z46:=Tryz.sizeOf233,
 v46:=Tryz.zeroValue233,
 t53:=Tryz.underlying245,
 a53:=Tryz.isAgg245,
 z53:=Tryz.sizeOf245,
 v53:=Tryz.zeroValue245,
 t57:=Tryz.underlying249,
 a57:=Tryz.isAgg249,
 z57:=Tryz.sizeOf249,
 v57:=Tryz.zeroValue249,
 t63:=Tryz.underlying260,
 a63:=Tryz.isAgg260,
 z63:=Tryz.sizeOf260,
 v63:=Tryz.zeroValue260,
 t64:=Tryz.underlying109,
 a64:=Tryz.isAgg109,
 z64:=Tryz.sizeOf109,
 v64:=Tryz.zeroValue109 }
end Go.Proofs
