/-
  Part 4 of the proof: how the calls of this program run, over values instead of memory, and what each function computes.
-/
import Derived.IntWalk
import Derived.ProofKit
import Derived.Test.YtihlaappclhhaaaGreatJc
set_option maxRecDepth 100000
set_option linter.unusedVariables false
set_option linter.unusedSimpArgs false
set_option linter.unnecessarySimpa false
set_option linter.unusedSectionVars false
open Go.Ab.AH renaming look->Xa,get->Xi,put->Xk,set->Xm
open Go.Ab.AV renaming wf->Xb,ren->Xc,cells->Xd,solid->Xe,flat0->Xf,Below->Xn
open Go.Ab.AObj renaming part->Xg,upd->Xl
open Go.Ab.Kn renaming drop->Xh,set->Xj
open Nat renaming beq→Wa,blt→Wk,blt_eq→Wl,zero_le→Wr,le_of_ble_eq_true→Ws,not_lt_zero→Wu,add_sub_cancel_left→WA
open List renaming replicate→Wc,getElem?_eq_getElem→Wd,getElem?_map→Wh,range→Wi,mem_of_getElem?→Wj,map_cons→Wm,mem_cons→Wo,all_eq_true→Wq,getD_eq_getElem?_getD→Wv,getElem_mem→Ww,ext_getElem?→Wy,cons_append→Wz,getElem?_append_left→WB,getElem?_eq_some_iff→WC,take_add_one→WE
open Option renaming map_eq_some_iff→We,bind_some→Wx,bind_eq_some_iff→WD
open Bool renaming and_eq_true→Wf,false_ne_true→Wp,not_eq_true'→Wt
open Option.some renaming injEq→Wg
open Prod.mk renaming injEq→Wn
namespace Go.Ab
open Go.RowKit
def nos:Nat->Nat->Option (Nat×Nat×Nat):=λ_ _=>none
def allR:Nat->Nat->Prop:=λ_ _=>True
def noR:Nat->Nat->Prop:=λ_ _=>False
abbrev Frz(H:AH)(v a:AV):Prop:=Vw H [] nos allR false v a
def zw(P:Program)(f:FuncId)(args:List AV)(Q:AV->Prop):Prop :=
 z7 P f args [] 0 (λv b _=>∃a,Frz b v a/\Q a)
inductive Lend(H:AH)(D:Nat->Nat->Prop):List AV->List AV->Prop
 |nil:Lend H D [] []
 |cons {a b asv bs} (h:Vw H [] nos D false a b) (t:Lend H D asv bs):Lend H D (a::asv) (b::bs)
section
variable {P:Program}{w w':World}{L:Nat->Prop}{ι:Inj}{H:AH}{nx:Nat}{D:Nat->Nat->Prop}
theorem z7.mono{f}{args}{Q Q'}(h:z7 P f args H nx Q)(q:∀v H nx,Q v H nx->Q' v H nx):z7 P f args H nx Q':=by intro w L ι s g j;exact(h w L ι s g j).mono λe w' ⟨v,c,d,b,a,k,m,n,o,p⟩=>⟨v,c,d,b,a,k,m,n,o,q _ _ _ p⟩
theorem zfZ.ok{f}{args}{a}{k}(h:zfZ P f args H nx a)(m:k a H nx):z7 P f args H nx k:=by intro w L ι n b c;exact(h w L ι n b c).mono λe w' ⟨v,d,g,j⟩=>⟨v,ι,H,nx,a,d,g,Nat.le_refl _,j,m⟩
def zpy(L:Nat->Prop)(ι:Inj)(H:AH)(D:Nat->Nat->Prop):Nat->Prop:=λb=>Lt L ι H b/\¬ ∃r q d c g l,D r q/\H.get r q=some (.row d c g)/\ι r q g=some l/\0<l.cap*l.sz/\l.block=b
theorem zFO(rel:RelH w L ι H nx):∀b,zpy L ι H D b->b<w.heap.size:=by
 rintro b ⟨h|h,_⟩
 .exact rel.Lsz b h
 .exact rel.live_lt h
theorem Lend.vrs(rel:RelH w L ι H nx){asv bs}(h:Lend H D asv bs):∀{d:List Value},VRs w (Lt L ι H) ι d asv->VRs w (Lt (zpy L ι H D) noI []) noI d bs:=by
 induction h with
 |nil=>intro d h;cases h;exact .nil
 |cons h _ ih=>
  intro d m
  cases m with
  |cons h1 h2=>
   refine .cons ?_ (ih h2)
   exact(h.sound rel (M:=Lt (zpy L ι H D) noI []) (λb c=>by rcases c with c|c;exact c.1;exact(ztf b c).elim)
    (λr q n e g l j k a3 a4 a5=>by rcases a5 with c|c;exact c.2 ⟨r,q,n,e,g,l,j,k,a3,a4,rfl⟩;exact(ztf _ c).elim) _ h1)
def AV.scal0:AV->Bool
 |.undef |.int .. |.bool _ |.str _ |.nilp |.nilfn |.nilsl |.cut=>true
 |_=>false
def AV.scal:AV->Bool
 |.agg l=>l.all AV.scal0
 |.tup l=>l.all AV.scal0
 |a=>a.scal0
theorem zDT{M M'}{ι ι'}{v}{a}(b:a.scal0=true)(h:VR w M ι v a):VR w M' ι' v a:=by cases h<;>first|(cases b;done)|(constructor<;>assumption)
theorem zMI{M M'}{ι ι'}{v}{a}(e:a.scal=true)(h:VR w M ι v a):VR w M' ι' v a:=by
 cases h with
 |agg _ k c g m j=>exact .agg _ _ _ g m (λi v a d b=>zDT (Wq.1 e a (Wj b)) (j i v a d b))
 |tup _ k c g j=>exact .tup _ _ _ g (λi v a d b=>zDT (Wq.1 e a (Wj b)) (j i v a d b))
 |undef=>exact .undef _ _
 |int _ _ _ h=>exact .int _ _ _ h
 |bool=>exact .bool _ _
 |str _ _ h=>exact .str _ _ h
 |nilp=>exact .nilp _
 |nilfn=>exact .nilfn _
 |nilsl=>exact .nilsl _
 |cut=>exact .cut _ _
 |_=>cases e
theorem zA3{f}{asv bs}{Q}(h:zw P f bs Q)(t:Lend H D asv bs)(u:∀a,Q a->a.scal=true\/∀r q,¬D r q){vs}(rel:RelH w L ι H nx)(y:VRs w (Lt L ι H) ι vs.toList asv) :
  Calls P f vs w (λe w'=>∃v a,e=.returned v/\Step w L ι H nx w' ι H nx/\VR w' (Lt L ι H) ι v a/\Q a):=by
 refine(h w (zpy L ι H D) noI vs (.empty (zFO rel)) (t.vrs rel y)).mono λe w' ⟨v,C,F,A,a0,o,j,_,p,a,s,m⟩=>?_
 have c:∀b,b<w.heap.size->w'.heap[b]?=w.heap[b]? := λb d=>j.ext.block b d (ztf b)
 refine⟨v,a,o,⟨⟨j.ext.os,j.ext.tape,j.ext.output,j.ext.size,λb d _=>c b d⟩,λ_ _ _ _ h=>h,rel.grow j.ext.size c,λb d=>.inl d⟩,?_,m⟩;have key:VR w' (zpy L ι H D) noI v a:=by refine s.sound j.rel (M:=zpy L ι H D) (λb d=>.inl d) (λr q B k g l _ n a3 a4 a5=>?_) v p;exact j.rel.out _ ⟨r,q,B,k,g,l,n,a3,a4,rfl⟩ a5
 rcases u a m with x|hd
 .exact zMI x key
 .have:zpy L ι H D=Lt L ι H:=by funext b;simp[zpy,hd]
  rw[this]at key;exact key.mono (λb _ d=>⟨rfl,d⟩) (λ_ _ _ _ h=>by cases h)
theorem zaH{f}{asv bs}{r}(h:zw P f bs (·=r))(j:Lend H D asv bs)(k:r.scal=true\/∀r q,¬D r q):zfZ P f asv H nx r:=by intro w L ι n rel m;exact(zA3 h j (λa e=>by subst e;exact k) rel m).mono λe w' ⟨v,a,b,c,d,g⟩=>⟨v,b,c,by rw[<-g];exact d⟩
theorem zH8{f}{asv bs}{Q}{k}(h:zw P f bs Q)(j:Lend H D asv bs)(n:∀a,Q a->a.scal=true\/∀r q,¬D r q)(m:∀v,Q v->k v H nx):
  z7 P f asv H nx k:=by
 intro w L ι p rel o;exact(zA3 h j n rel o).mono λe w' ⟨v,a,b,c,d,g⟩=>⟨v,ι,H,nx,a,b,c,Nat.le_refl _,d,m a g⟩
def AObj.ren(ρ:Nat->Nat):AObj->AObj
 |.row d b g=>.row d (b.map (·.map (Xc ρ))) g
 |.fam d c=>.fam d (c.map λp=>(p.1.map (·.map (Xc ρ)),p.2))
theorem AObj.part_ren(ρ:Nat->Nat)(o:AObj)(q:Nat):(o.ren ρ).part q=(o.part q).map (AObj.ren ρ):=by
 cases o with
 |row d c g=>cases q<;>rfl
 |fam d b=>
  cases q with
  |zero=>rfl
  |succ i=>simp only[AObj.ren,Xg,Wh,Option.map_map];cases b[i]? <;> rfl
end
def wpX(P:Program)(B:Nat)(c:ACode)(Q:QT)(K:Kn)(H:AH)(b:Nat):Prop:=awp P B c Q K H b
def seqQ(P:Program)(B:Nat)(b:ACode)(Q:QT):QT:=λe K H c=>match e with
 |.normal=>awp P B b Q K H c
 |e=>Q e K H c
def zdB(id:Nat)(Q:QT):QT:=λe K H c=>match e with
 |.exit b=>bif Wa b id then Q .normal K H c else Q (.exit b) K H c
 |e=>Q e K H c
def zzm(P:Program)(B:Nat)(t:Bool)(a b:ACode)(Q:QT)(K:Kn)(H:AH)(c:Nat):Prop:=ziX t (awp P B a Q K H c) (awp P B b Q K H c)
def zI5(P:Program)(B:Nat)(v:AV)(a b:ACode)(Q:QT)(K:Kn)(H:AH)(c:Nat):Prop:=match v with
 |.bool t=>ziX t (awp P B a Q K H c) (awp P B b Q K H c)
 |_=>False
def znL(P:Program)(B:Nat)(c:ACode)(Q:QT)(K:Kn)(H:AH)(b:Nat):Prop:=zLw B (awp P B c) Q K H b
def markX(P:Program)(B:Nat)(c:ACode)(Q:QT)(K:Kn)(H:AH)(b:Nat):Prop:=zLp B (awp P B c Q) K H b
def zMW(P:Program)(B:Nat)(a b:ACode)(Q:QT)(K:Kn)(H:AH)(c:Nat):Prop:=zLA B (awp P B a) (awp P B b Q) Q K H c
def zDZ(P:Program)(B:Nat)(d:List Nat)(v:AV)(a b:ACode)(Q:QT)(K:Kn)(H:AH)(c:Nat):Prop:=zHv P B (λN=>awp P N a) (λN=>awp P N b) d Q v K H c
def jumpX(P:Program)(B l:Nat)(a b:ACode)(Q:QT)(K:Kn)(H:AH)(c:Nat):Prop:=zLy B l (awp P B a) (awp P B b) Q K H c
inductive Rest where
 |ops (os:List AOper)
 |tree (t:DTree)
def zbd(P:Program)(r:Rest)(drop:List Nat)(Q:QT)(K:Kn)(H:AH)(b:Nat):Prop:=match r with
 |.ops c=>aops P c drop Q K H b
 |.tree t=>awpT P t drop Q K H b
def Rest.fx:Rest->Bool
 |.ops _=>true
 |.tree _=>false
def zIx(P:Program)(d:Option Nat)(r:Rest)(drop:List Nat)(Q:QT)(K:Kn):AV->AH->Nat->Prop:=λv H b=>zbd P r drop Q (setO K d v) H b
def opX(P:Program)(op:AOp)(d:Option Nat)(r:Rest)(drop:List Nat)(Q:QT)(K:Kn)(H:AH)(b:Nat):Prop:=zeB P r.fx op K.get H b (zIx P d r drop Q K)
def resX(P:Program)(o:ORes)(d:Option Nat)(r:Rest)(drop:List Nat)(Q:QT)(K:Kn):Prop:=zr9 r.fx o (zIx P d r drop Q K)
def zy4(P:Program)(d:Option Nat)(r:Rest)(drop:List Nat)(Q:QT)(K:Kn):AV->AH->Nat->Prop:=λv H b=>(bif r.fx then v.wf else True)->zbd P r drop Q (setO K d v) H b
def zCR(P:Program)(f:FuncId)(args:List AV)(H:AH)(b:Nat)(k:AV->AH->Nat->Prop):Prop:=z7 P f args H b k
def zGA(P:Program)(f:FuncId)(args:List AV)(d:Option Nat)(r:Rest)(drop:List Nat)(Q:QT)(K:Kn)(H:AH)(b:Nat):Prop:=CallQ P f args H b (λv=>zbd P r drop Q (setO K d v) H b)
def zuq(P:Program)(x:AV)(args:List AV)(H:AH)(c:Nat)(k:AV->AH->Nat->Prop):Prop:=match x with
 |.fn (.func f) b=>zhI P f=true/\z7 P f (args++b) H c k
 |_=>False
def nilX(P:Program)(b:Option (Option Bool))(neg:Bool)(d:Option Nat)(r:Rest)(drop:List Nat)(Q:QT)(K:Kn)(H:AH)(c:Nat):Prop:=match b with
 |some (some b)=>zbd P r drop Q (setO K d (.bool (b != neg))) H c
 |some none=>∀b,zbd P r drop Q (setO K d (.bool b)) H c
 |none=>False
def zJz(P:Program)(x:AV)(d:Option Nat)(r:Rest)(drop:List Nat)(Q:QT)(K:Kn)(H:AH)(b:Nat):Prop:=zq2 x H b (zIx P d r drop Q K)
def app2X(P:Program)(s b:Nat)(x y:AV)(d:Option Nat)(r:Rest)(drop:List Nat)(Q:QT)(K:Kn)(H:AH)(c:Nat):Prop:=zrW s b x y H c (zIx P d r drop Q K)
def zoA(P:Program)(t:Bool)(op:AOp)(d:Option Nat)(r:Rest)(drop:List Nat)(Q:QT)(K:Kn)(H:AH)(b:Nat):Prop:=ziX t (opX P op d r drop Q K H b) (zbd P r drop Q (setO K d (.tup [])) H b)
def zlk(P:Program)(v:AV)(c:Bool)(op:AOp)(d:Option Nat)(r:Rest)(drop:List Nat)(Q:QT)(K:Kn)(H:AH)(e:Nat):Prop:=match grd c v with
 |some b=>zoA P b op d r drop Q K H e
 |none=>False
section
variable {P:Program}{B:Nat}{Q:QT}{K:Kn}{H:AH}{nx:Nat}{drop:List Nat}{os:List AOper}{d:Option Nat}{r:Rest}
theorem zJB:wpX P B .skip Q K H nx=Q .normal K H nx:=rfl
theorem zFA:wpX P B (.region os drop) Q K H nx=zbd P (.ops os) drop Q K H nx:=rfl
theorem zKE{t}:wpX P B (.draw t drop) Q K H nx=zbd P (.tree t) drop Q K H nx:=rfl
theorem zMp{a b}:wpX P B (.seq a b) Q K H nx=wpX P B a (seqQ P B b Q) K H nx:=rfl
theorem zK9{c}{a b}:wpX P B (.cond c a b) Q K H nx=zI5 P B (ev K.get c) a b Q K H nx:=rfl
theorem zGw{id}{c}:wpX P B (.block id c) Q K H nx=wpX P B c (zdB id Q) K H nx:=rfl
theorem zJD{c}:wpX P B (.loop c) Q K H nx=znL P B c Q K H nx:=rfl
theorem zJp{id}:wpX P B (.exit id) Q K H nx=Q (.exit id) K H nx:=rfl
theorem zMA:wpX P B .ret Q K H nx=Q .ret K H nx:=rfl
theorem zLc{n}{c}:wpX P B (.mark n c) Q K H nx=markX P B c Q K H nx:=rfl
theorem zHu{c}:wpX P B (.scope c) Q K H nx=wpX P B c (noGQ Q) K H nx:=rfl
theorem zGH{l}:wpX P B (.label l) Q K H nx=Q .normal K H nx:=rfl
theorem zK8{l}:wpX P B (.goto l) Q K H nx=Q (.goto l) K H nx:=rfl
theorem zKd{l}{a b}:wpX P B (.jump l a b) Q K H nx=jumpX P B l a b Q K H nx:=rfl
theorem zHz{g}{ps}{a b}:wpX P B (.range g ps a b) Q K H nx=zDZ P B ps (ev K.get g) a b Q K H nx:=rfl
theorem zJO{a b}:wpX P B (.join a b) Q K H nx=zMW P B a b Q K H nx:=rfl
theorem zCC{b}:seqQ P B b Q .normal K H nx=wpX P B b Q K H nx:=rfl
theorem zJZ{b}:seqQ P B b Q .ret K H nx=Q .ret K H nx:=rfl
theorem zHO{b}{l}:seqQ P B b Q (.goto l) K H nx=Q (.goto l) K H nx:=rfl
theorem zG3{b}{id}:seqQ P B b Q (.exit id) K H nx=Q (.exit id) K H nx:=rfl
theorem zsH{id}:zdB id Q .normal K H nx=Q .normal K H nx:=rfl
theorem zDC{id l}:zdB id Q (.goto l) K H nx=Q (.goto l) K H nx:=rfl
theorem zDI:noGQ Q .normal K H nx=Q .normal K H nx:=rfl
theorem zKK:noGQ Q .ret K H nx=Q .ret K H nx:=rfl
theorem zH2{id}:noGQ Q (.exit id) K H nx=Q (.exit id) K H nx:=rfl
theorem zGc{id}:zdB id Q .ret K H nx=Q .ret K H nx:=rfl
theorem zCi{id id'}:zdB id Q (.exit id') K H nx=bif Wa id' id then Q .normal K H nx else Q (.exit id') K H nx:=rfl
theorem zF7{t}{a b}:zI5 P B (.bool t) a b Q K H nx=zzm P B t a b Q K H nx:=rfl
theorem zFR{a b}:zzm P B true a b Q K H nx=wpX P B a Q K H nx:=by unfold zzm;rw[ziX.true];rfl
theorem zDe{a b}:zzm P B false a b Q K H nx=wpX P B b Q K H nx:=by unfold zzm;rw[ziX.false];rfl
theorem zz{t}{a b}(c:t=true->wpX P B a Q K H nx)(e:t=false->wpX P B b Q K H nx):zzm P B t a b Q K H nx:=⟨c,e⟩
theorem zLf{rs}{Post}:retK rs Post .ret K H nx=(zdw K H nx rs/\Post (zs5 (zcG K H nx rs)) H nx):=rfl
theorem zDz{rs}{Post}:retK rs Post .normal K H nx=(zdw K H nx rs/\Post (zs5 (zcG K H nx rs)) H nx):=rfl
theorem zGR:zbd P (.ops []) drop Q K H nx=Q .normal (K.drop drop) H nx:=rfl
theorem zFu{op}:zbd P (.ops (⟨d,op,none⟩::os)) drop Q K H nx=opX P op d (.ops os) drop Q K H nx:=rfl
theorem zCJ{op}{t}{b}:zbd P (.ops (⟨d,op,some (t,b)⟩::os)) drop Q K H nx=zlk P (K.get t) b op d (.ops os) drop Q K H nx:=rfl
theorem zF1:zbd P (.tree .done) drop Q K H nx=Q .normal (K.drop drop) H nx:=rfl
theorem zGg:zbd P (.tree .stop) drop Q K H nx=True:=rfl
theorem zGj{op}{t}:zbd P (.tree (.step ⟨d,op,none⟩ t)) drop Q K H nx=opX P op d (.tree t) drop Q K H nx:=rfl
theorem zCG{op}{t}{g}{b}:zbd P (.tree (.step ⟨d,op,some (g,b)⟩ t)) drop Q K H nx=zlk P (K.get g) b op d (.tree t) drop Q K H nx:=rfl
theorem zHK{op}{t u}:zbd P (.tree (.alt ⟨d,op,none⟩ t u)) drop Q K H nx=(opX P op d (.tree t) drop Q K H nx/\zbd P (.tree u) drop Q K H nx):=rfl
theorem zF5{op}{t u}{g}{b}:zbd P (.tree (.alt ⟨d,op,some (g,b)⟩ t u)) drop Q K H nx=(zlk P (K.get g) b op d (.tree t) drop Q K H nx/\zbd P (.tree u) drop Q K H nx):=rfl
theorem zFz{op}{b}:zlk P (.bool b) true op d r drop Q K H nx=zoA P b op d r drop Q K H nx:=by unfold zlk;cases b<;>rfl
theorem zIA{op}{b}:zlk P (.bool b) false op d r drop Q K H nx=zoA P (!b) op d r drop Q K H nx:=by unfold zlk;cases b<;>rfl
theorem zCr{op}{want}:zlk P (.tup []) want op d r drop Q K H nx=zbd P r drop Q (setO K d (.tup [])) H nx:=by unfold zlk grd zoA;simp only[ziX.false]
theorem zCL{op}:zoA P true op d r drop Q K H nx=opX P op d r drop Q K H nx:=by unfold zoA;rw[ziX.true]
theorem zBt{op}:zoA P false op d r drop Q K H nx=zbd P r drop Q (setO K d (.tup [])) H nx:=by unfold zoA;rw[ziX.false]
theorem zJy{s f}{v}{c}{b}:resX P ⟨s,f,v,c,b⟩ d (.ops os) drop Q K=(s/\(f->zbd P (.ops os) drop Q (setO K d v) c b)):=rfl
theorem zH9{s f}{v}{c}{b}{t}:resX P ⟨s,f,v,c,b⟩ d (.tree t) drop Q K=(s/\zbd P (.tree t) drop Q (setO K d v) c b):=by unfold resX zr9 Rest.fx;simp only[cond_false,true_implies];rfl
theorem zMq{x}:opX P (.mov x) d r drop Q K H nx=zbd P r drop Q (setO K d (ev K.get x)) H nx:=by unfold opX zeB zr9 aop;cases r<;>simp only[Rest.fx,cond_true,cond_false,true_implies,true_and]<;>rfl
theorem zHh{s}:opX P (.mknil s) d r drop Q K H nx=zbd P r drop Q (setO K d (.own nx 0 0 0 0)) (H.set nx 0 (.row s [] 0)) (nx+1):=by unfold opX zeB zr9 aop zvE;cases r<;>simp only[Rest.fx,cond_true,cond_false,true_implies,true_and]<;>rfl
theorem zKy{c x y}:opX P (.pick c x y) d r drop Q K H nx=resX P (zu0 (ev K.get c) (ev K.get x) (ev K.get y) H nx) d r drop Q K:=rfl
theorem zJh{g}{n}{p}:opX P (.load g n p) d r drop Q K H nx=resX P (zgx g n (ev K.get p) H nx) d r drop Q K:=rfl
theorem zHC{n}{p v}:opX P (.store n p v) d r drop Q K H nx=resX P (zjk n (ev K.get p) (ev K.get v) H nx) d r drop Q K:=rfl
theorem zMw{s}{x i}:opX P (.idx s x i) d r drop Q K H nx=resX P (idxR s (ev K.get x) (ev K.get i) H nx) d r drop Q K:=rfl
theorem zDJ{o n}{x}:opX P (.fldaddr o n x) d r drop Q K H nx=resX P (zfc o n (ev K.get x) H nx) d r drop Q K:=rfl
theorem zM3{o n}{g}{x}:opX P (.fld o n g x) d r drop Q K H nx=resX P (fldR o n g (ev K.get x) H nx) d r drop Q K:=rfl
theorem zL1{x}:opX P (.len x) d r drop Q K H nx=resX P (lenR (ev K.get x) H nx) d r drop Q K:=rfl
theorem zJe{x}:opX P (.slen x) d r drop Q K H nx=resX P (zxD (ev K.get x) H nx) d r drop Q K:=rfl
theorem zMF{o}{x y}:opX P (.bin o x y) d r drop Q K H nx=resX P (binI o (ev K.get x) (ev K.get y) H nx) d r drop Q K:=rfl
theorem zLI{n}{x y}:opX P (.eqb n x y) d r drop Q K H nx=resX P (eqB n (ev K.get x) (ev K.get y) H nx) d r drop Q K:=rfl
theorem opX_un{o}{x}:opX P (.un o x) d r drop Q K H nx=resX P (unR o (ev K.get x) H nx) d r drop Q K:=rfl
theorem zK2{k}{x}:opX P (.conv k x) d r drop Q K H nx=resX P (zvq k (ev K.get x) H nx) d r drop Q K:=rfl
theorem zHW{z}{ps}:opX P (.build z ps) d r drop Q K H nx=resX P (zoj z (zf9 K.get ps) H nx) d r drop Q K:=rfl
theorem zCQ{s l}{z}{ps}:opX P (.buildSl s l z ps) d r drop Q K H nx=resX P (zhQ s l z (zm2 K.get ps) H nx) d r drop Q K:=rfl
theorem zM6{x}:opX P (.box x) d r drop Q K H nx=resX P (boxR (ev K.get x) H nx) d r drop Q K:=rfl
theorem zKk{x}:opX P (.rbox x) d r drop Q K H nx=resX P (zxm (ev K.get x) H nx) d r drop Q K:=rfl
theorem zAQ{s l}{z}{ps}:opX P (.rbuildSl s l z ps) d r drop Q K H nx=resX P (zhc s l z (zm2 K.get ps) H nx) d r drop Q K:=rfl
theorem zI0{x}:opX P (.mnext x) d r drop Q K H nx=zJz P (ev K.get x) d r drop Q K H nx:=rfl
theorem zB8{s b}{x y}:opX P (.append2 s b x y) d r drop Q K H nx=app2X P s b (ev K.get x) (ev K.get y) d r drop Q K H nx:=rfl
theorem zHo{z}:opX P (.alloc z) d r drop Q K H nx=resX P (zso z H nx) d r drop Q K:=rfl
theorem zKQ{s b}{z}{l c}:opX P (.mksl s b z l c) d r drop Q K H nx=resX P (ztK s b z (ev K.get l) (ev K.get c) H nx) d r drop Q K:=rfl
theorem zI2{s}{x}{l h}:opX P (.slice s x l h) d r drop Q K H nx=resX P (zi0 s (ev K.get x) (evO K.get l) (evO K.get h) H nx) d r drop Q K:=rfl
theorem zMc{x}:opX P (.cut x) d r drop Q K H nx=resX P (cutR (ev K.get x) H nx) d r drop Q K:=rfl
theorem zJm{f:Fn}{cs}:opX P (.mkfn f cs) d r drop Q K H nx=zbd P r drop Q (setO K d (.fn f (evs K.get cs))) H nx:=by unfold opX zeB zr9 aop;cases r<;>simp only[Rest.fx,cond_true,cond_false,true_implies,true_and]<;>rfl
theorem zFb{s b}{x y}:opX P (.append s b x y) d r drop Q K H nx=resX P (zja s b (ev K.get x) (ev K.get y) H nx) d r drop Q K:=rfl
theorem zGE{s}{z}{x}:opX P (.clear s z x) d r drop Q K H nx=resX P (zmL s z (ev K.get x) H nx) d r drop Q K:=rfl
theorem zMk{i}{x}:opX P (.ext i x) d r drop Q K H nx=resX P (extR i (ev K.get x) H nx) d r drop Q K:=rfl
theorem zGq{n p}{x}:opX P (.isnil n p x) d r drop Q K H nx=nilX P (nilB p (ev K.get x)) n d r drop Q K H nx:=rfl
theorem zLe{f}{xs}:opX P (.call f xs) d r drop Q K H nx=zCR P f (evs K.get xs) H nx (zy4 P d r drop Q K):=rfl
theorem zHe{f}{xs}:opX P (.callq f xs) d r drop Q K H nx=zGA P f (evs K.get xs) d r drop Q K H nx:=rfl
theorem zMu{x}{xs}:opX P (.xop x xs) d r drop Q K H nx=resX P (xopR x (evs K.get xs) H nx) d r drop Q K:=rfl
theorem zHn{x}{xs}:opX P (.callv x xs) d r drop Q K H nx=zuq P (ev K.get x) (evs K.get xs) H nx (zy4 P d r drop Q K):=rfl
theorem zpw{f}{caps args}{k}:zuq P (.fn (.func f) caps) args H nx k=(zhI P f=true/\zCR P f (args++caps) H nx k):=rfl
theorem zLP{b n}:nilX P (some (some b)) n d r drop Q K H nx=zbd P r drop Q (setO K d (.bool (b != n))) H nx:=rfl
theorem zJS{n}:nilX P (some none) n d r drop Q K H nx=∀b,zbd P r drop Q (setO K d (.bool b)) H nx:=rfl
theorem zGN{v}{H'}{nx'}:zy4 P d (.ops os) drop Q K v H' nx'=(v.wf->zbd P (.ops os) drop Q (setO K d v) H' nx'):=rfl
theorem zGl{v}{H'}{nx'}{t}:zy4 P d (.tree t) drop Q K v H' nx'=zbd P (.tree t) drop Q (setO K d v) H' nx':=by unfold zy4 Rest.fx;simp only[cond_false,true_implies]
theorem zg{f}{args}{a}{k}(h:zfZ P f args H nx a)(b:k a H nx):zCR P f args H nx k:=h.ok b
theorem zyu{f}{args}{Q Q'}(h:z7 P f args H nx Q)(b:∀v H nx,Q v H nx->Q' v H nx):zCR P f args H nx Q':=z7.mono h b
theorem zF{f}{args}{a}(h:zfZ P f args H nx a)(b:zbd P r drop Q (setO K d a) H nx):zGA P f args d r drop Q K H nx:=⟨a,h,b⟩
def zxo(B:Nat){α:Type}(S:α->Kn×AH)(N:Nat)(c:α->Prop)(μ:α->Nat)(a:α)(Q:QT):QT:=λe K H nx=>match e with
 |.normal=>∃b,c b/\μ b<μ a/\Ent B K H nx (S b).1 (S b).2 N
 |e=>Q e K H nx
theorem zBD{α:Type}{S:α->Kn×AH}{N:Nat}{b:α->Prop}{μ:α->Nat}{a:α}:zxo B S N b μ a Q .normal K H nx=∃c,b c/\μ c<μ a/\Ent B K H nx (S c).1 (S c).2 N:=rfl
theorem zFW{α:Type}{S:α->Kn×AH}{N:Nat}{b:α->Prop}{μ:α->Nat}{a:α}{l:Nat}:zxo B S N b μ a Q (.goto l) K H nx=Q (.goto l) K H nx:=rfl
theorem zHg{α:Type}{S:α->Kn×AH}{N:Nat}{b:α->Prop}{μ:α->Nat}{a:α}:zxo B S N b μ a Q .ret K H nx=Q .ret K H nx:=rfl
theorem zFm{α:Type}{S:α->Kn×AH}{N:Nat}{b:α->Prop}{μ:α->Nat}{a:α}{id:Nat}:zxo B S N b μ a Q (.exit id) K H nx=Q (.exit id) K H nx:=rfl
theorem zc{c}{α:Type}(S:α->Kn×AH)(N:Nat)(b:α->Prop)(μ:α->Nat)(a0:α)(g:b a0)(k:Ent B K H nx (S a0).1 (S a0).2 N)(j:∀a,b a->WfK (S a).1->wpX P B c (zxo B S N b μ a Q) (S a).1 (S a).2 N):znL P B c Q K H nx:=by
 refine⟨α,S,N,b,μ,⟨a0,g,k⟩,λa h m=>?_⟩;have:=j a h m;unfold wpX at this;refine Eq.mp (congrArg (λq=>awp P B c q (S a).1 (S a).2 N) (funext λe=>funext λK=>funext λH=>funext λnx=>?_)) this;cases e<;>rfl
def zxh(B:Nat){α:Type}(S:α->Kn×AH)(N:Nat)(c:α->Prop)(Q:QT):QT:=λe K H nx=>match e with
 |.normal=>∃b,c b/\Ent B K H nx (S b).1 (S b).2 N
 |e=>Q e K H nx
theorem zBQ{α:Type}{S:α->Kn×AH}{N:Nat}{b:α->Prop}:zxh B S N b Q .normal K H nx=∃c,b c/\Ent B K H nx (S c).1 (S c).2 N:=rfl
theorem zGf{α:Type}{S:α->Kn×AH}{N:Nat}{b:α->Prop}{l:Nat}:zxh B S N b Q (.goto l) K H nx=Q (.goto l) K H nx:=rfl
theorem zIQ{α:Type}{S:α->Kn×AH}{N:Nat}{b:α->Prop}:zxh B S N b Q .ret K H nx=Q .ret K H nx:=rfl
theorem zFk{α:Type}{S:α->Kn×AH}{N:Nat}{b:α->Prop}{id:Nat}:zxh B S N b Q (.exit id) K H nx=Q (.exit id) K H nx:=rfl
theorem znA{a b}{α:Type}(S:α->Kn×AH)(N:Nat)(c:α->Prop)(g:wpX P B a (zxh B S N c Q) K H nx)(h:∀x,c x->WfK (S x).1->wpX P B b Q (S x).1 (S x).2 N):zMW P B a b Q K H nx:=by refine⟨α,S,N,c,?_,h⟩;unfold wpX at g;refine Eq.mp (congrArg (λq=>awp P B a q K H nx) (funext λe=>funext λK=>funext λH=>funext λnx=>?_)) g;cases e<;>rfl
def zAU(B l:Nat){α:Type}(S:α->Kn×AH)(N:Nat)(c:α->Prop)(Q:QT):QT:=λe K H nx=>match e with
 |.goto g=>g=l/\∃b,c b/\Ent B K H nx (S b).1 (S b).2 N
 |e=>Q e K H nx
def zAS(B l:Nat){α:Type}(S:α->Kn×AH)(N:Nat)(c:α->Prop)(μ:α->Nat)(a:α)(Q:QT):QT:=λe K H nx=>match e with
 |.goto g=>g=l/\∃b,c b/\μ b<μ a/\Ent B K H nx (S b).1 (S b).2 N
 |e=>Q e K H nx
theorem zE3{l e:Nat}{α:Type}{S:α->Kn×AH}{N:Nat}{b:α->Prop}:zAU B l S N b Q (.goto e) K H nx=(e=l/\∃c,b c/\Ent B K H nx (S c).1 (S c).2 N):=rfl
theorem zAW{l:Nat}{α:Type}{S:α->Kn×AH}{N:Nat}{b:α->Prop}:zAU B l S N b Q .normal K H nx=Q .normal K H nx:=rfl
theorem zIq{l:Nat}{α:Type}{S:α->Kn×AH}{N:Nat}{b:α->Prop}:zAU B l S N b Q .ret K H nx=Q .ret K H nx:=rfl
theorem zE6{l id:Nat}{α:Type}{S:α->Kn×AH}{N:Nat}{b:α->Prop}:zAU B l S N b Q (.exit id) K H nx=Q (.exit id) K H nx:=rfl
theorem zFK{l e:Nat}{α:Type}{S:α->Kn×AH}{N:Nat}{b:α->Prop}{μ:α->Nat}{a:α}:zAS B l S N b μ a Q (.goto e) K H nx=(e=l/\∃c,b c/\μ c<μ a/\Ent B K H nx (S c).1 (S c).2 N):=rfl
theorem zBL{l:Nat}{α:Type}{S:α->Kn×AH}{N:Nat}{b:α->Prop}{μ:α->Nat}{a:α}:zAS B l S N b μ a Q .normal K H nx=Q .normal K H nx:=rfl
theorem zIU{l:Nat}{α:Type}{S:α->Kn×AH}{N:Nat}{b:α->Prop}{μ:α->Nat}{a:α}:zAS B l S N b μ a Q .ret K H nx=Q .ret K H nx:=rfl
theorem zGe{l id:Nat}{α:Type}{S:α->Kn×AH}{N:Nat}{b:α->Prop}{μ:α->Nat}{a:α}:zAS B l S N b μ a Q (.exit id) K H nx=Q (.exit id) K H nx:=rfl
def asgQ(P:Program)(N:Nat)(b:ACode)(R:QT):QT:=λe K H nx=>match e with
 |.normal=>awp P N b R K H nx
 |_=>False
def rngQ{σ α:Type}(B:Nat)(g:Kn)(S:α->AH)(N:Nat)(h:α->σ->Prop)(c:α->AExit->Prop)(j:σ):QT:=λe K H nx=>match e with
 |.normal=>∃b,h b j/\Ent B g H nx g (S b) N
 |.goto _=>False
 |e=>∃b,c b e/\Ent B g H nx g (S b) N
theorem zCh{A:List Nat}{f:FuncId}{h:List AV}{a b:ACode}{σ α:Type}{next:σ->Option (List AV×σ)}{ok:σ->Prop}{J:σ}(o:Nat)(C:AH)(R:Option σ->AH->Prop)(u:zhI P f=true)(p:∀c∈h,Xn o c)(D:ItOk P f h C o next ok J (λs k _=>(match s with|some s=>next s=none|none=>True)/\R s (AH.upto k o)))(w:∀s x v,next s=some (x,v)->x.length=A.length)(m:Kn)(S:α->AH)(N:Nat)(g:α->σ->Prop)(j:α->AExit->Prop)(a0:α)(F:o<=B/\LowH o C/\(∀s k,R s k->LowH o k)/\(∀a,HighH o (S a))/\(∀i,AV.From o (m.get i)))(I:∀y s,g y s->ok s)(L:g a0 J)(U:Ent B K H nx m (C++S a0) N)(n:∀y s x v,g y s->next s=some (x,v)->WfK (znG m A x)->wpX P N a (asgQ P N b (rngQ B m S N g j v)) (znG m A x) (S y) N)(t:∀y s k,g y s->next s=none->R (some s) k->Q .normal m (k++S y) N)(V:∀y e k,j y e->R none k->Q e m (k++S y) N):zDZ P B A (.fn (.func f) h) a b Q K H nx:=by
 refine⟨σ,f,h,next,ok,J,α,m,S,N,g,j,o,C,R,rfl,u,p,D,I,w,F,⟨a0,L,U⟩,λy s x v M O T=>?_,t,V⟩;have:=n y s x v M O T;unfold wpX at this;refine Eq.mp (congrArg (λq=>awp P N a q (znG m A x) (S y) N) (funext λe=>funext λK=>funext λH=>funext λnx=>?_)) this
 cases e with
 |normal=>show awp P N b (rngQ B m S N g j v) K H nx=_;refine congrArg (λq=>awp P N b q K H nx) (funext λe=>funext λK=>funext λH=>funext λnx=>?_);cases e<;>rfl
 |_=>rfl
theorem zo9{v:List Nat}{f:FuncId}{j:List AV}{a b:ACode}{σ α:Type}{next:σ->Option (List AV×σ)}{ok:σ->Prop}{I:σ}(q:zhI P f=true)(o:∀c∈j,Xn 0 c)(D:ItOk P f j [] 0 next ok I (λs _ _=>match s with|some s=>next s=none|none=>True))(u:∀s x w,next s=some (x,w)->x.length=v.length)(n:Kn)(S:α->AH)(N:Nat)(g:α->σ->Prop)(k:α->AExit->Prop)(a0:α)(F:∀y s,g y s->ok s)(J:g a0 I)(M:Ent B K H nx n (S a0) N)(m:∀y s x w,g y s->next s=some (x,w)->WfK (znG n v x)->wpX P N a (asgQ P N b (rngQ B n S N g k w)) (znG n v x) (S y) N)(p:∀y s,g y s->next s=none->Q .normal n (S y) N)(O:∀y e,k y e->Q e n (S y) N):zDZ P B v (.fn (.func f) j) a b Q K H nx :=
 zCh 0 [] (λ_ t=>t=[]) q o (D.mono λs t R h=>⟨h,AH.upto_zero t⟩) u n S N g k a0 ⟨Wr _,.nil 0,λs t h=>by subst h;exact .nil 0,λ_=>.zero _,λ_=>AV.from0 _⟩ F J M m
  (λy s t A C L=>by subst L;exact p y s A C) (λy e t A C=>by subst C;exact O y e A)
theorem fn_x{f}{q}{ac}{rs}{nt}(b:zL P f q=some (ac.strip,rs,nt)){args}{Post}(c:Nat.ble args.length nt=true)(h:wpX P nx ac (retK rs Post) (zoH 0 args) H nx):z7 P f args H nx Post:=fn_of b (Ws c) h
theorem zgc(a b:Nat):Wa a b=(a == b):=by
 cases h:Wa a b with
 |true=>rw[zH h];simp
 |false=>
  have:a≠b:=λe=>by rw[e,zcA]at h;cases h
  simp[this]
end
def subK:Kn->Kn->Prop
 |[],_=>True
 |(j,v)::t,K=>K.get j=v/\subK t K
theorem zEj{K}:∀{b:Kn},subK b K->∀i,b.get i=.undef\/b.get i=K.get i
 |[],_,i=>.inl rfl
 |
  (j,v)::t,h,i=>by
  simp only[Kn.get]
  cases c:Wa j i with
  |true=>rw[<-zH c];exact .inr h.1.symm
  |false=>exact zEj h.2 i
theorem Ent.keep{B}{K K2}{H}{nx}(c:Nat.ble B nx=true)(h:subK K2 K):Ent B K H nx K2 H nx:=by
 refine⟨Ws c,λw L ι tmps rel j=>⟨ι,rel,λi=>?_,λb d=>d,λr q g l _ k=>k⟩⟩;rcases zEj h i with e|e
 .rw[e];exact .undef _ _
 .rw[e];exact j i
abbrev Tab:=List (Nat×Nat×Nat)
def Tab.at:Tab->Nat->Option (Nat×Nat)
 |[],_=>none
 |(b,r,d)::t,x=>bif Wa b x then some (r,d)else Tab.at t x
def Tab.sig(t:Tab):Nat->Nat->Option (Nat×Nat×Nat):=λc b=>match t.at c with
 |some (r,d)=>some (r,b,d)
 |none=>none
def inD(b:List Nat):Nat->Nat->Prop:=λr _=>memN b r=true
def Tab.ok(n:Nat)(b:List Nat):Tab->Bool
 |[]=>true
 |(c,r,_)::t=>Wk c n && !(memN b r) && !(memN (t.map (·.2.1)) r)&&Tab.ok n b t
def zoI(H h:AH)(t:Tab)(j:List Nat)(n:Nat):AH->Prop
 |[]=>True
 |(g,.row k c m)::u=>Wk g n=true/\(match t.at g with
   |some (r,d)=>∃b,H.get r 0=some (.row k b (m+d))/\RowV H h t.sig (inD j) b c
   |none=>c=[]/\m=0)/\zoI H h t j n u
 |(g,.fam k e)::u=>Wk g n=true/\(match t.at g with
   |some (r,d)=>∀(i:Nat) (p:List (List AV)×Nat),e[i]?=some p->∃b,H.get r (i+1)=some (.row k b (p.2+d))/\RowV H h t.sig (inD j) b p.1
   |none=>∀(i:Nat) (p:List (List AV)×Nat),e[i]?=some p->p=([],0))/\zoI H h t j n u
def zr5(H b:AH)(t:Tab)(c:List Nat):Kn->Kn->Prop
 |[],_=>True
 |(j,v)::u,K=>Vw H b t.sig (inD c) true (K.get j) v/\zr5 H b t c u K
theorem ztJ{H HH}{t}{ds}{K}:∀{b:Kn},zr5 H HH t ds b K->∀i,Vw H HH t.sig (inD ds) true (K.get i) (b.get i)
 |[],_,i=>.undef _ _
 |
  (j,v)::u,h,i=>by
  simp only[Kn.get]
  cases c:Wa j i with
  |true=>rw[<-zH c];exact h.1
  |false=>exact ztJ h.2 i
theorem Tab.ok_at{n}{ds}:∀{t:Tab},t.ok n ds=true->∀{x r d},t.at x=some (r,d)->x<n/\memN ds r=false/\r∈t.map (·.2.1)
 |[],_,x,r,d,h=>by cases h
 |
  (r',r0,d0)::t,h,x,r,d,b=>by
  simp only[Tab.ok,Wf,Wt]at h;obtain⟨⟨⟨j,k⟩,h3⟩,h4⟩:=h;simp only[Tab.at]at b
  cases c:Wa r' x with
  |true=>rw[c]at b;cases b;have:=zH c;subst this;exact⟨by simpa [Wl]using j,k,by simp⟩
  |false=>rw[c]at b;obtain⟨e,g,a3⟩:=Tab.ok_at h4 b;exact⟨e,g,by simp only[Wm,Wo];exact .inr a3⟩
theorem Tab.ok_inj{n}{ds}:∀{t:Tab},t.ok n ds=true->∀{x y r d e},t.at x=some (r,d)->t.at y=some (r,e)->x=y
 |[],_,x,y,r,d,e,h,_=>by cases h
 |
  (r',r0,d0)::t,h,x,y,r,d,e,b,c=>by
  have k:=h;simp only[Tab.ok,Wf,Wt]at k;obtain⟨⟨⟨m,o⟩,h3⟩,h4⟩:=k;simp only[Tab.at]at b c
  cases j:Wa r' x with
  |true=>
   cases g:Wa r' y with
   |true=>exact(zH j).symm.trans (zH g)
   |false=>rw[j]at b;rw[g]at c;cases b;have:=(Tab.ok_at h4 c).2.2;exact absurd ((zaq _ _).2 this) (by rw[h3];exact Wp)
  |false=>
   cases g:Wa r' y with
   |true=>rw[j]at b;rw[g]at c;cases c;have:=(Tab.ok_at h4 b).2.2;exact absurd ((zaq _ _).2 this) (by rw[h3];exact Wp)
   |false=>rw[j]at b;rw[g]at c;exact Tab.ok_inj h4 b c
theorem zsS{H HH}{t}{ds}{n}:∀{b:AH},zoI H HH t ds n b->∀r o,b.look r=some o->r<n
 |[],_,r,o,h=>by cases h
 |
  (r',e)::u,h,r,o,hl=>by
  have d:Wk r' n=true/\zoI H HH t ds n u:=by cases e<;>exact⟨h.1,h.2.2⟩
  simp only[Xa]at hl
  cases c:Wa r' r with
  |true=>rw[<-zH c];simpa [Wl]using d.1
  |false=>rw[c]at hl;exact zsS d.2 r o hl
theorem zsv{H HH}{t}{ds}{n}:∀{y:AH},zoI H HH t ds n y->∀k j s b m,y.get k j=some (.row s b m) ->
  (∃r q d c,t.sig k j=some (r,q,d)/\H.get r q=some (.row s c (m+d))/\RowV H HH t.sig (inD ds) c b)\/(t.sig k j=none/\b=[]/\m=0)
 |[],_,k,j,s,b,m,h=>by cases h
 |
  (r0,B)::u,h,k,j,s,b,m,e=>by
  have D:zoI H HH t ds n u:=by cases B<;>exact h.2.2
  unfold Xi at e;simp only[Xa]at e
  cases x:Wa r0 k with
  |false=>rw[x]at e;exact zsv D k j s b m e
  |true=>
   rw[x]at e;have:=zH x;subst this;simp only[cond_true,Wx]at e
   cases B with
   |row sz0 els0 g0=>
    cases j with
    |succ q=>cases e
    |zero=>
     simp only[Xg,Wg,AObj.row.injEq]at e;obtain⟨rfl,rfl,rfl⟩:=e;have g:=h.2.1;unfold Tab.sig
     cases o:t.at r0 with
     |none=>rw[o]at g;exact .inr ⟨rfl,g⟩
     |some p=>obtain⟨r,d⟩:=p;rw[o]at g;obtain⟨c,v,w⟩:=g;exact .inl ⟨r,0,d,c,rfl,v,w⟩
   |fam sz0 ins=>
    cases j with
    |zero=>cases e
    |succ i=>
     simp only[Xg]at e;obtain⟨p,A,C⟩:=We.1 e;cases C;have g:=h.2.1;unfold Tab.sig
     cases o:t.at r0 with
     |none=>rw[o]at g;have:=g i p A;rw[this];exact .inr ⟨rfl,rfl,rfl⟩
     |some p'=>obtain⟨r,d⟩:=p';rw[o]at g;obtain⟨c,v,w⟩:=g i p A;exact .inl ⟨r,i+1,d,c,rfl,v,w⟩
theorem Ent.tab{K K2}{H H2}{nx nx2}(t)(ds)(c:t.ok nx2 ds=true)(o:zoI H H2 t ds nx2 H2)(s:zr5 H H2 t ds K2 K):Ent 0 K H nx K2 H2 nx2:=by
 refine Ent.view t.sig (inD ds) ⟨Wr _,λr q h=>absurd h (Wu _),?_,?_,?_,zsS o,zsv o⟩ (ztJ s)
 .intro w C y D r q A B g j;unfold Tab.sig at g j
  cases b:t.at w with
  |none=>rw[b]at g;cases g
  |some k=>
   cases m:t.at y with
   |none=>rw[m]at j;cases j
   |some u=>rw[b]at g;rw[m]at j;simp only[Wg,Wn]at g j;obtain⟨rfl,rfl,rfl⟩:=g;obtain⟨p,rfl,rfl⟩:=j;refine⟨Tab.ok_inj c (d:=k.2) (e:=u.2) b ?_,rfl⟩;rw[m,<-p]
 .intro n v r q d h;unfold Tab.sig at h
  cases b:t.at n with
  |none=>rw[b]at h;cases h
  |some k=>rw[b]at h;simp only[Wg,Wn]at h;obtain⟨rfl,_,rfl⟩:=h;have:=(Tab.ok_at c (d:=k.2) b).2.1;unfold inD;rw[this];exact Wp
 .intro n v x h;unfold Tab.sig at h
  cases b:t.at n with
  |none=>rw[b]at h;cases h
  |some k=>exact(Tab.ok_at c (d:=k.2) b).1
def zwh(u:Option AObj)(H:AH)(r q:Nat)(o:AObj):AH:=match u with
 |some u=>H.put r (u.upd q o)
 |none=>H.put r o
theorem ev_t{ρ}{n}:ev ρ (.t n)=ρ n:=rfl
theorem ev_c{ρ}{v}:ev ρ (.c v)=v:=rfl
theorem zLL{ρ}:evs ρ []=[]:=rfl
theorem zKL{ρ}{x}{l}:evs ρ (x::l)=ev ρ x::evs ρ l:=rfl
theorem zCa{ρ}:zf9 ρ []=[]:=rfl
theorem zBS{ρ}{a b}{x}{l}:zf9 ρ ((a,b,x)::l)=(a,b,ev ρ x)::zf9 ρ l:=rfl
theorem zIs{ρ}:zm2 ρ []=[]:=rfl
theorem zGi{ρ}{a}{x}{l}:zm2 ρ ((a,x)::l)=(a,ev ρ x)::zm2 ρ l:=rfl
theorem zJX{ρ}:evO ρ none=none:=rfl
theorem zJN{ρ}{x}:evO ρ (some x)=some (ev ρ x):=rfl
theorem zG7{K}{v}:setO K none v=K:=rfl
theorem zIt{K}{d}{v}:setO K (some d) v=K.set d v:=rfl
theorem zJq{i}:Kn.get [] i=.undef:=rfl
theorem zGO{j}{v}{t}{i}:Kn.get ((j,v)::t) i=bif (j == i)then v else Kn.get t i:=by rw[<-zgc];rfl
theorem zJJ{i}{v}:Xj [] i v=[(i,v)]:=rfl
theorem zHI{j}{u v}{t}{i}:Xj ((j,u)::t) i v=bif (j == i)then(i,v)::t else(j,u)::Xj t i v:=by rw[<-zgc];rfl
theorem zIp{l}:Xh [] l=[]:=rfl
theorem zFT{j}{v}{t}{l}:Xh ((j,v)::t) l=bif memN l j then Xh t l else(j,v)::Xh t l:=rfl
theorem zKo{i}:memN [] i=false:=rfl
theorem zHZ{j}{t}{i}:memN (j::t) i=bif (j == i)then true else memN t i:=by rw[<-zgc];rfl
theorem zHj{i}:zoH i []=[]:=rfl
theorem zFd{i}{a}{r}:zoH i (a::r)=(i,a)::zoH (i+1) r:=rfl
theorem zDl{K}{H}{nx}:zdw K H nx []=True:=rfl
theorem zCo{K}{H}{nx t}{r}:zdw K H nx (.tmp t::r)=zdw K H nx r:=rfl
theorem zAP{K}{H}{nx t n}{g}{r}:zdw K H nx (.cell t g n::r)=((zgx g n (K.get t) H nx).side/\zdw K H nx r):=rfl
theorem zDE{K}{H}{nx}:zcG K H nx []=[]:=rfl
theorem zCA{K}{H}{nx t}{r}:zcG K H nx (.tmp t::r)=K.get t::zcG K H nx r:=rfl
theorem zBq{K}{H}{nx t n}{g}{r}:zcG K H nx (.cell t g n::r)=(zgx g n (K.get t) H nx).v::zcG K H nx r:=rfl
theorem zGo{v}:zs5 [v]=v:=rfl
theorem zFo:zs5 []=.tup []:=rfl
theorem zIw{u v}{l}:zs5 (u::v::l)=.tup (u::v::l):=rfl
theorem zJk{r}:Xa [] r=none:=rfl
theorem zIh{j}{o}{t}{r}:Xa ((j,o)::t) r=bif (j == r)then some o else Xa t r:=by rw[<-zgc];rfl
theorem zLW{r}{o}:Xk [] r o=[(r,o)]:=rfl
theorem zKc{j}{u o}{t}{r}:Xk ((j,u)::t) r o=bif (j == r)then(r,o)::t else(j,u)::Xk t r o:=by rw[<-zgc];rfl
theorem zJ6{H}{r q}:Xi H r q=(Xa H r).bind (·.part q):=rfl
theorem zJG{H}{r q}{o}:Xm H r q o=zwh (Xa H r) H r q o:=by unfold Xm zwh;split<;>simp_all
theorem zDu{u}{H}{r q}{o}:zwh (some u) H r q o=H.put r (u.upd q o):=rfl
theorem zDd{H}{r q}{o}:zwh none H r q o=H.put r o:=rfl
theorem zJF{sz g}{els}:Xg (.row sz els g) 0=some (.row sz els g):=rfl
theorem zKf{sz i}{ins}:Xg (.fam sz ins) (i+1)=(ins[i]?).map λp=>.row sz p.1 p.2:=rfl
theorem zMg{sz g}{els}{o}{q}:Xl (.row sz els g) q o=o:=by cases o<;>rfl
theorem zMJ{sz sz' i g}{ins}{els}:Xl (.fam sz ins) (i+1) (.row sz' els g)=.fam sz (ins.set i (els,g)):=rfl
theorem zFr{o:AObj}{f:AObj->Option AObj}:(some o).bind f=f o:=rfl
theorem evS :
 (∀{P:Program}{B:Nat}{Q:QT}{K:Kn}{H:AH}{e:Nat},wpX P B .skip Q K H e=Q .normal K H e) /\
 (∀{P:Program}{B:Nat}{Q:QT}{K:Kn}{H:AH}{e:Nat}{drop:List Nat}{D:List AOper},wpX P B (.region D drop) Q K H e=zbd P (.ops D) drop Q K H e) /\
 (∀{P:Program}{B:Nat}{Q:QT}{K:Kn}{H:AH}{e:Nat}{drop:List Nat}{t:DTree},wpX P B (.draw t drop) Q K H e=zbd P (.tree t) drop Q K H e) /\
 (∀{P:Program}{B:Nat}{Q:QT}{K:Kn}{H:AH}{e:Nat}{a b:ACode},wpX P B (.seq a b) Q K H e=wpX P B a (seqQ P B b Q) K H e) /\
 (∀{P:Program}{B:Nat}{Q:QT}{K:Kn}{H:AH}{e:Nat}{c:AOpd}{a b:ACode},wpX P B (.cond c a b) Q K H e=zI5 P B (ev K.get c) a b Q K H e) /\
 (∀{P:Program}{B:Nat}{Q:QT}{K:Kn}{H:AH}{e:Nat}{id:Nat}{c:ACode},wpX P B (.block id c) Q K H e=wpX P B c (zdB id Q) K H e) /\
 (∀{P:Program}{B:Nat}{Q:QT}{K:Kn}{H:AH}{e:Nat}{c:ACode},wpX P B (.loop c) Q K H e=znL P B c Q K H e) /\
 (∀{P:Program}{B:Nat}{Q:QT}{K:Kn}{H:AH}{e:Nat}{id:Nat},wpX P B (.exit id) Q K H e=Q (.exit id) K H e) /\
 (∀{P:Program}{B:Nat}{Q:QT}{K:Kn}{H:AH}{e:Nat},wpX P B .ret Q K H e=Q .ret K H e) /\
 (∀{P:Program}{B:Nat}{Q:QT}{K:Kn}{H:AH}{e:Nat}{n:Nat}{c:ACode},wpX P B (.mark n c) Q K H e=markX P B c Q K H e) /\
 (∀{P:Program}{B:Nat}{Q:QT}{K:Kn}{H:AH}{e:Nat}{c:ACode},wpX P B (.scope c) Q K H e=wpX P B c (noGQ Q) K H e) /\
 (∀{P:Program}{B:Nat}{Q:QT}{K:Kn}{H:AH}{e:Nat}{l:Nat},wpX P B (.label l) Q K H e=Q .normal K H e) /\
 (∀{P:Program}{B:Nat}{Q:QT}{K:Kn}{H:AH}{e:Nat}{l:Nat},wpX P B (.goto l) Q K H e=Q (.goto l) K H e) /\
 (∀{P:Program}{B:Nat}{Q:QT}{K:Kn}{H:AH}{e:Nat}{l:Nat}{a b:ACode},wpX P B (.jump l a b) Q K H e=jumpX P B l a b Q K H e) /\
 (∀{P:Program}{B:Nat}{Q:QT}{K:Kn}{H:AH}{e:Nat}{g:AOpd}{J:List Nat}{a b:ACode},wpX P B (.range g J a b) Q K H e=zDZ P B J (ev K.get g) a b Q K H e) /\
 (∀{P:Program}{N:Nat}{K:Kn}{H:AH}{e:Nat}{b:ACode}{R:QT},asgQ P N b R .normal K H e=wpX P N b R K H e) /\
 (∀{P:Program}{B:Nat}{Q:QT}{K:Kn}{H:AH}{e:Nat}{a b:ACode},wpX P B (.join a b) Q K H e=zMW P B a b Q K H e) /\
 (∀{P:Program}{B:Nat}{Q:QT}{K:Kn}{H:AH}{e:Nat}{b:ACode},seqQ P B b Q .normal K H e=wpX P B b Q K H e) /\
 (∀{P:Program}{B:Nat}{Q:QT}{K:Kn}{H:AH}{e:Nat}{b:ACode},seqQ P B b Q .ret K H e=Q .ret K H e) /\
 (∀{P:Program}{B:Nat}{Q:QT}{K:Kn}{H:AH}{e:Nat}{b:ACode}{l:Nat},seqQ P B b Q (.goto l) K H e=Q (.goto l) K H e) /\
 (∀{P:Program}{B:Nat}{Q:QT}{K:Kn}{H:AH}{e:Nat}{b:ACode}{id:Nat},seqQ P B b Q (.exit id) K H e=Q (.exit id) K H e) /\
 (∀{Q:QT}{K:Kn}{H:AH}{e:Nat}{id:Nat},zdB id Q .normal K H e=Q .normal K H e) /\
 (∀{Q:QT}{K:Kn}{H:AH}{e:Nat}{id l:Nat},zdB id Q (.goto l) K H e=Q (.goto l) K H e) /\
 (∀{Q:QT}{K:Kn}{H:AH}{e:Nat},noGQ Q .normal K H e=Q .normal K H e) /\
 (∀{Q:QT}{K:Kn}{H:AH}{e:Nat},noGQ Q .ret K H e=Q .ret K H e) /\
 (∀{Q:QT}{K:Kn}{H:AH}{e:Nat}{id:Nat},noGQ Q (.exit id) K H e=Q (.exit id) K H e) /\
 (∀{Q:QT}{K:Kn}{H:AH}{e:Nat}{id:Nat},zdB id Q .ret K H e=Q .ret K H e) /\
 (∀{Q:QT}{K:Kn}{H:AH}{e:Nat}{id O:Nat},zdB id Q (.exit O) K H e=bif Wa O id then Q .normal K H e else Q (.exit O) K H e) /\
 (∀{P:Program}{B:Nat}{Q:QT}{K:Kn}{H:AH}{e:Nat}{t:Bool}{a b:ACode},zI5 P B (.bool t) a b Q K H e=zzm P B t a b Q K H e) /\
 (∀{P:Program}{B:Nat}{Q:QT}{K:Kn}{H:AH}{e:Nat}{a b:ACode},zzm P B true a b Q K H e=wpX P B a Q K H e) /\
 (∀{P:Program}{B:Nat}{Q:QT}{K:Kn}{H:AH}{e:Nat}{a b:ACode},zzm P B false a b Q K H e=wpX P B b Q K H e) /\
 (∀{K:Kn}{H:AH}{e:Nat}{T:List ARet}{C:AV->AH->Nat->Prop},retK T C .ret K H e=(zdw K H e T/\C (zs5 (zcG K H e T)) H e)) /\
 (∀{K:Kn}{H:AH}{e:Nat}{T:List ARet}{C:AV->AH->Nat->Prop},retK T C .normal K H e=(zdw K H e T/\C (zs5 (zcG K H e T)) H e)) /\
 (∀{P:Program}{Q:QT}{K:Kn}{H:AH}{e:Nat}{drop:List Nat},zbd P (.ops []) drop Q K H e=Q .normal (K.drop drop) H e) /\
 (∀{P:Program}{Q:QT}{K:Kn}{H:AH}{e:Nat}{drop:List Nat}{D:List AOper}{d:Option Nat}{op:AOp},zbd P (.ops (⟨d,op,none⟩::D)) drop Q K H e=opX P op d (.ops D) drop Q K H e) /\
 (∀{P:Program}{Q:QT}{K:Kn}{H:AH}{e:Nat}{drop:List Nat}{D:List AOper}{d:Option Nat}{op:AOp}{t:Nat}{m:Bool},zbd P (.ops (⟨d,op,some (t,m)⟩::D)) drop Q K H e=zlk P (K.get t) m op d (.ops D) drop Q K H e) /\
 (∀{P:Program}{Q:QT}{K:Kn}{H:AH}{e:Nat}{drop:List Nat},zbd P (.tree .done) drop Q K H e=Q .normal (K.drop drop) H e) /\
 (∀{P:Program}{Q:QT}{K:Kn}{H:AH}{e:Nat}{drop:List Nat},zbd P (.tree .stop) drop Q K H e=True) /\
 (∀{P:Program}{Q:QT}{K:Kn}{H:AH}{e:Nat}{drop:List Nat}{d:Option Nat}{op:AOp}{t:DTree},zbd P (.tree (.step ⟨d,op,none⟩ t)) drop Q K H e=opX P op d (.tree t) drop Q K H e) /\
 (∀{P:Program}{Q:QT}{K:Kn}{H:AH}{e:Nat}{drop:List Nat}{d:Option Nat}{op:AOp}{t:DTree}{g:Nat}{m:Bool},zbd P (.tree (.step ⟨d,op,some (g,m)⟩ t)) drop Q K H e=zlk P (K.get g) m op d (.tree t) drop Q K H e) /\
 (∀{P:Program}{Q:QT}{K:Kn}{H:AH}{e:Nat}{drop:List Nat}{d:Option Nat}{op:AOp}{t u:DTree},zbd P (.tree (.alt ⟨d,op,none⟩ t u)) drop Q K H e=(opX P op d (.tree t) drop Q K H e/\zbd P (.tree u) drop Q K H e)) /\
 (∀{P:Program}{Q:QT}{K:Kn}{H:AH}{e:Nat}{drop:List Nat}{d:Option Nat}{op:AOp}{t u:DTree}{g:Nat}{m:Bool},zbd P (.tree (.alt ⟨d,op,some (g,m)⟩ t u)) drop Q K H e=(zlk P (K.get g) m op d (.tree t) drop Q K H e/\zbd P (.tree u) drop Q K H e)) /\
 (∀{P:Program}{Q:QT}{K:Kn}{H:AH}{e:Nat}{drop:List Nat}{d:Option Nat}{r:Rest}{op:AOp}{b:Bool},zlk P (.bool b) true op d r drop Q K H e=zoA P b op d r drop Q K H e) /\
 (∀{P:Program}{Q:QT}{K:Kn}{H:AH}{e:Nat}{drop:List Nat}{d:Option Nat}{r:Rest}{op:AOp}{b:Bool},zlk P (.bool b) false op d r drop Q K H e=zoA P (!b) op d r drop Q K H e) /\
 (∀{P:Program}{Q:QT}{K:Kn}{H:AH}{e:Nat}{drop:List Nat}{d:Option Nat}{r:Rest}{op:AOp}{m:Bool},zlk P (.tup []) m op d r drop Q K H e=zbd P r drop Q (setO K d (.tup [])) H e) /\
 (∀{P:Program}{Q:QT}{K:Kn}{H:AH}{e:Nat}{drop:List Nat}{d:Option Nat}{r:Rest}{op:AOp},zoA P true op d r drop Q K H e=opX P op d r drop Q K H e) /\
 (∀{P:Program}{Q:QT}{K:Kn}{H:AH}{e:Nat}{drop:List Nat}{d:Option Nat}{r:Rest}{op:AOp},zoA P false op d r drop Q K H e=zbd P r drop Q (setO K d (.tup [])) H e) /\
 (∀{P:Program}{Q:QT}{K:Kn}{drop:List Nat}{D:List AOper}{d:Option Nat}{s f:Prop}{v:AV}{F:AH}{A:Nat},resX P ⟨s,f,v,F,A⟩ d (.ops D) drop Q K=(s/\(f->zbd P (.ops D) drop Q (setO K d v) F A))) /\
 (∀{P:Program}{Q:QT}{K:Kn}{drop:List Nat}{d:Option Nat}{s f:Prop}{v:AV}{F:AH}{A:Nat}{t:DTree},resX P ⟨s,f,v,F,A⟩ d (.tree t) drop Q K=(s/\zbd P (.tree t) drop Q (setO K d v) F A)) /\
 (∀{P:Program}{Q:QT}{K:Kn}{H:AH}{e:Nat}{drop:List Nat}{d:Option Nat}{r:Rest}{x:AOpd},opX P (.mov x) d r drop Q K H e=zbd P r drop Q (setO K d (ev K.get x)) H e) /\
 (∀{P:Program}{Q:QT}{K:Kn}{H:AH}{e:Nat}{drop:List Nat}{d:Option Nat}{r:Rest}{s:Nat},opX P (.mknil s) d r drop Q K H e=zbd P r drop Q (setO K d (.own e 0 0 0 0)) (H.set e 0 (.row s [] 0)) (e+1)) /\
 (∀{P:Program}{Q:QT}{K:Kn}{H:AH}{e:Nat}{drop:List Nat}{d:Option Nat}{r:Rest}{c x y:AOpd},opX P (.pick c x y) d r drop Q K H e=resX P (zu0 (ev K.get c) (ev K.get x) (ev K.get y) H e) d r drop Q K) /\
 (∀{P:Program}{Q:QT}{K:Kn}{H:AH}{e:Nat}{drop:List Nat}{d:Option Nat}{r:Rest}{g:Bool}{n:Nat}{p:AOpd},opX P (.load g n p) d r drop Q K H e=resX P (zgx g n (ev K.get p) H e) d r drop Q K) /\
 (∀{P:Program}{Q:QT}{K:Kn}{H:AH}{e:Nat}{drop:List Nat}{d:Option Nat}{r:Rest}{n:Nat}{p v:AOpd},opX P (.store n p v) d r drop Q K H e=resX P (zjk n (ev K.get p) (ev K.get v) H e) d r drop Q K) /\
 (∀{P:Program}{Q:QT}{K:Kn}{H:AH}{e:Nat}{drop:List Nat}{d:Option Nat}{r:Rest}{s:Nat}{x i:AOpd},opX P (.idx s x i) d r drop Q K H e=resX P (idxR s (ev K.get x) (ev K.get i) H e) d r drop Q K) /\
 (∀{P:Program}{Q:QT}{K:Kn}{H:AH}{e:Nat}{drop:List Nat}{d:Option Nat}{r:Rest}{o n:Nat}{x:AOpd},opX P (.fldaddr o n x) d r drop Q K H e=resX P (zfc o n (ev K.get x) H e) d r drop Q K) /\
 (∀{P:Program}{Q:QT}{K:Kn}{H:AH}{e:Nat}{drop:List Nat}{d:Option Nat}{r:Rest}{o n:Nat}{g:Bool}{x:AOpd},opX P (.fld o n g x) d r drop Q K H e=resX P (fldR o n g (ev K.get x) H e) d r drop Q K) /\
 (∀{P:Program}{Q:QT}{K:Kn}{H:AH}{e:Nat}{drop:List Nat}{d:Option Nat}{r:Rest}{x:AOpd},opX P (.len x) d r drop Q K H e=resX P (lenR (ev K.get x) H e) d r drop Q K) /\
 (∀{P:Program}{Q:QT}{K:Kn}{H:AH}{e:Nat}{drop:List Nat}{d:Option Nat}{r:Rest}{x:AOpd},opX P (.slen x) d r drop Q K H e=resX P (zxD (ev K.get x) H e) d r drop Q K) /\
 (∀{P:Program}{Q:QT}{K:Kn}{H:AH}{e:Nat}{drop:List Nat}{d:Option Nat}{r:Rest}{o:BinOp}{x y:AOpd},opX P (.bin o x y) d r drop Q K H e=resX P (binI o (ev K.get x) (ev K.get y) H e) d r drop Q K) /\
 (∀{P:Program}{Q:QT}{K:Kn}{H:AH}{e:Nat}{drop:List Nat}{d:Option Nat}{r:Rest}{n:Bool}{x y:AOpd},opX P (.eqb n x y) d r drop Q K H e=resX P (eqB n (ev K.get x) (ev K.get y) H e) d r drop Q K) /\
 (∀{P:Program}{Q:QT}{K:Kn}{H:AH}{e:Nat}{drop:List Nat}{d:Option Nat}{r:Rest}{o:UnOp}{x:AOpd},opX P (.un o x) d r drop Q K H e=resX P (unR o (ev K.get x) H e) d r drop Q K) /\
 (∀{P:Program}{Q:QT}{K:Kn}{H:AH}{e:Nat}{drop:List Nat}{d:Option Nat}{r:Rest}{k:IntKind}{x:AOpd},opX P (.conv k x) d r drop Q K H e=resX P (zvq k (ev K.get x) H e) d r drop Q K) /\
 (∀ {P:Program}{Q:QT}{K:Kn}{H:AH}{e:Nat}{drop:List Nat}{d:Option Nat}{r:Rest}{z:List AV}{J:List (Nat×Nat×AOpd)},opX P (.build z J) d r drop Q K H e=resX P (zoj z (zf9 K.get J) H e) d r drop Q K) /\
 (∀ {P:Program}{Q:QT}{K:Kn}{H:AH}{e:Nat}{drop:List Nat}{d:Option Nat}{r:Rest}{s l:Nat}{z:List AV}{J:List (Nat×AOpd)},opX P (.buildSl s l z J) d r drop Q K H e=resX P (zhQ s l z (zm2 K.get J) H e) d r drop Q K) /\
 (∀{P:Program}{Q:QT}{K:Kn}{H:AH}{e:Nat}{drop:List Nat}{d:Option Nat}{r:Rest}{x:AOpd},opX P (.box x) d r drop Q K H e=resX P (boxR (ev K.get x) H e) d r drop Q K) /\
 (∀{P:Program}{Q:QT}{K:Kn}{H:AH}{e:Nat}{drop:List Nat}{d:Option Nat}{r:Rest}{x:AOpd},opX P (.rbox x) d r drop Q K H e=resX P (zxm (ev K.get x) H e) d r drop Q K) /\
 (∀ {P:Program}{Q:QT}{K:Kn}{H:AH}{e:Nat}{drop:List Nat}{d:Option Nat}{r:Rest}{s l:Nat}{z:List AV}{J:List (Nat×AOpd)},opX P (.rbuildSl s l z J) d r drop Q K H e=resX P (zhc s l z (zm2 K.get J) H e) d r drop Q K) /\
 (∀{P:Program}{Q:QT}{K:Kn}{H:AH}{e:Nat}{drop:List Nat}{d:Option Nat}{r:Rest}{x:AOpd},opX P (.mnext x) d r drop Q K H e=zJz P (ev K.get x) d r drop Q K H e) /\
 (∀{P:Program}{Q:QT}{K:Kn}{H:AH}{e:Nat}{drop:List Nat}{d:Option Nat}{r:Rest}{s b:Nat}{x y:AOpd},opX P (.append2 s b x y) d r drop Q K H e=app2X P s b (ev K.get x) (ev K.get y) d r drop Q K H e) /\
 (∀{P:Program}{Q:QT}{K:Kn}{H:AH}{e:Nat}{drop:List Nat}{d:Option Nat}{r:Rest}{z:List AV},opX P (.alloc z) d r drop Q K H e=resX P (zso z H e) d r drop Q K) /\
 (∀{P:Program}{Q:QT}{K:Kn}{H:AH}{e:Nat}{drop:List Nat}{d:Option Nat}{r:Rest}{s b:Nat}{z:List AV}{l c:AOpd},opX P (.mksl s b z l c) d r drop Q K H e=resX P (ztK s b z (ev K.get l) (ev K.get c) H e) d r drop Q K) /\
 (∀{P:Program}{Q:QT}{K:Kn}{H:AH}{e:Nat}{drop:List Nat}{d:Option Nat}{r:Rest}{s:Nat}{x:AOpd}{l h:Option AOpd},opX P (.slice s x l h) d r drop Q K H e=resX P (zi0 s (ev K.get x) (evO K.get l) (evO K.get h) H e) d r drop Q K) /\
 (∀{P:Program}{Q:QT}{K:Kn}{H:AH}{e:Nat}{drop:List Nat}{d:Option Nat}{r:Rest}{x:AOpd},opX P (.cut x) d r drop Q K H e=resX P (cutR (ev K.get x) H e) d r drop Q K) /\
 (∀{P:Program}{Q:QT}{K:Kn}{H:AH}{e:Nat}{drop:List Nat}{d:Option Nat}{r:Rest}{f:Fn}{W:List AOpd},opX P (.mkfn f W) d r drop Q K H e=zbd P r drop Q (setO K d (.fn f (evs K.get W))) H e) /\
 (∀{P:Program}{Q:QT}{K:Kn}{H:AH}{e:Nat}{drop:List Nat}{d:Option Nat}{r:Rest}{s b:Nat}{x y:AOpd},opX P (.append s b x y) d r drop Q K H e=resX P (zja s b (ev K.get x) (ev K.get y) H e) d r drop Q K) /\
 (∀{P:Program}{Q:QT}{K:Kn}{H:AH}{e:Nat}{drop:List Nat}{d:Option Nat}{r:Rest}{s:Nat}{z:List AV}{x:AOpd},opX P (.clear s z x) d r drop Q K H e=resX P (zmL s z (ev K.get x) H e) d r drop Q K) /\
 (∀{P:Program}{Q:QT}{K:Kn}{H:AH}{e:Nat}{drop:List Nat}{d:Option Nat}{r:Rest}{i:Nat}{x:AOpd},opX P (.ext i x) d r drop Q K H e=resX P (extR i (ev K.get x) H e) d r drop Q K) /\
 (∀{P:Program}{Q:QT}{K:Kn}{H:AH}{e:Nat}{drop:List Nat}{d:Option Nat}{r:Rest}{n p:Bool}{x:AOpd},opX P (.isnil n p x) d r drop Q K H e=nilX P (nilB p (ev K.get x)) n d r drop Q K H e) /\
 (∀{P:Program}{Q:QT}{K:Kn}{H:AH}{e:Nat}{drop:List Nat}{d:Option Nat}{r:Rest}{f:FuncId}{L:List AOpd},opX P (.call f L) d r drop Q K H e=zCR P f (evs K.get L) H e (zy4 P d r drop Q K)) /\
 (∀{P:Program}{Q:QT}{K:Kn}{H:AH}{e:Nat}{drop:List Nat}{d:Option Nat}{r:Rest}{f:FuncId}{L:List AOpd},opX P (.callq f L) d r drop Q K H e=zGA P f (evs K.get L) d r drop Q K H e) /\
 (∀{P:Program}{Q:QT}{K:Kn}{H:AH}{e:Nat}{drop:List Nat}{d:Option Nat}{r:Rest}{x:XOp}{L:List AOpd},opX P (.xop x L) d r drop Q K H e=resX P (xopR x (evs K.get L) H e) d r drop Q K) /\
 (∀{P:Program}{Q:QT}{K:Kn}{H:AH}{e:Nat}{drop:List Nat}{d:Option Nat}{r:Rest}{x:AOpd}{L:List AOpd},opX P (.callv x L) d r drop Q K H e=zuq P (ev K.get x) (evs K.get L) H e (zy4 P d r drop Q K)) /\
 (∀{P:Program}{H:AH}{e:Nat}{f:FuncId}{M args:List AV}{k:AV->AH->Nat->Prop},zuq P (.fn (.func f) M) args H e k=(zhI P f=true/\zCR P f (args++M) H e k)) /\
 (∀{P:Program}{Q:QT}{K:Kn}{H:AH}{e:Nat}{drop:List Nat}{d:Option Nat}{r:Rest}{b n:Bool},nilX P (some (some b)) n d r drop Q K H e=zbd P r drop Q (setO K d (.bool (b != n))) H e) /\
 (∀{P:Program}{Q:QT}{K:Kn}{H:AH}{e:Nat}{drop:List Nat}{d:Option Nat}{r:Rest}{n:Bool},nilX P (some none) n d r drop Q K H e=∀b,zbd P r drop Q (setO K d (.bool b)) H e) /\
 (∀{P:Program}{Q:QT}{K:Kn}{drop:List Nat}{D:List AOper}{d:Option Nat}{v:AV}{F:AH}{A:Nat},zy4 P d (.ops D) drop Q K v F A=(v.wf->zbd P (.ops D) drop Q (setO K d v) F A)) /\
 (∀{P:Program}{Q:QT}{K:Kn}{drop:List Nat}{d:Option Nat}{v:AV}{F:AH}{A:Nat}{t:DTree},zy4 P d (.tree t) drop Q K v F A=zbd P (.tree t) drop Q (setO K d v) F A) /\
 (∀{B:Nat}{Q:QT}{K:Kn}{H:AH}{e:Nat}{α:Type}{S:α->Kn×AH}{N:Nat}{j:α->Prop}{μ:α->Nat}{a:α},zxo B S N j μ a Q .normal K H e=∃q,j q/\μ q<μ a/\Ent B K H e (S q).1 (S q).2 N) /\
 (∀{B:Nat}{Q:QT}{K:Kn}{H:AH}{e:Nat}{α:Type}{S:α->Kn×AH}{N:Nat}{j:α->Prop}{μ:α->Nat}{a:α}{l:Nat},zxo B S N j μ a Q (.goto l) K H e=Q (.goto l) K H e) /\
 (∀{B:Nat}{Q:QT}{K:Kn}{H:AH}{e:Nat}{α:Type}{S:α->Kn×AH}{N:Nat}{j:α->Prop}{μ:α->Nat}{a:α},zxo B S N j μ a Q .ret K H e=Q .ret K H e) /\
 (∀{B:Nat}{Q:QT}{K:Kn}{H:AH}{e:Nat}{α:Type}{S:α->Kn×AH}{N:Nat}{j:α->Prop}{μ:α->Nat}{a:α}{id:Nat},zxo B S N j μ a Q (.exit id) K H e=Q (.exit id) K H e) /\
 (∀{B:Nat}{Q:QT}{K:Kn}{H:AH}{e:Nat}{α:Type}{S:α->Kn×AH}{N:Nat}{j:α->Prop},zxh B S N j Q .normal K H e=∃q,j q/\Ent B K H e (S q).1 (S q).2 N) /\
 (∀{B:Nat}{Q:QT}{K:Kn}{H:AH}{e:Nat}{α:Type}{S:α->Kn×AH}{N:Nat}{j:α->Prop}{l:Nat},zxh B S N j Q (.goto l) K H e=Q (.goto l) K H e) /\
 (∀{B:Nat}{Q:QT}{K:Kn}{H:AH}{e:Nat}{α:Type}{S:α->Kn×AH}{N:Nat}{j:α->Prop},zxh B S N j Q .ret K H e=Q .ret K H e) /\
 (∀{B:Nat}{Q:QT}{K:Kn}{H:AH}{e:Nat}{α:Type}{S:α->Kn×AH}{N:Nat}{j:α->Prop}{id:Nat},zxh B S N j Q (.exit id) K H e=Q (.exit id) K H e) /\
 (∀{σ α:Type}{B:Nat}{I:Kn}{S:α->AH}{N:Nat}{j:α->σ->Prop}{w:α->AExit->Prop}{U:σ}{K:Kn}{H:AH}{e:Nat},rngQ B I S N j w U .normal K H e=∃q,j q U/\Ent B I H e I (S q) N) /\
 (∀{σ α:Type}{B:Nat}{I:Kn}{S:α->AH}{N:Nat}{j:α->σ->Prop}{w:α->AExit->Prop}{U:σ}{K:Kn}{H:AH}{e:Nat},rngQ B I S N j w U .ret K H e=∃q,w q .ret/\Ent B I H e I (S q) N) /\
 (∀{σ α:Type}{B:Nat}{I:Kn}{S:α->AH}{N:Nat}{j:α->σ->Prop}{w:α->AExit->Prop}{U:σ}{K:Kn}{H:AH}{e:Nat}{id:Nat},rngQ B I S N j w U (.exit id) K H e=∃q,w q (.exit id)/\Ent B I H e I (S q) N) /\
 (∀{B:Nat}{Q:QT}{K:Kn}{H:AH}{e:Nat}{l V:Nat}{α:Type}{S:α->Kn×AH}{N:Nat}{j:α->Prop},zAU B l S N j Q (.goto V) K H e=(V=l/\∃q,j q/\Ent B K H e (S q).1 (S q).2 N)) /\
 (∀{B:Nat}{Q:QT}{K:Kn}{H:AH}{e:Nat}{l:Nat}{α:Type}{S:α->Kn×AH}{N:Nat}{j:α->Prop},zAU B l S N j Q .normal K H e=Q .normal K H e) /\
 (∀{B:Nat}{Q:QT}{K:Kn}{H:AH}{e:Nat}{l:Nat}{α:Type}{S:α->Kn×AH}{N:Nat}{j:α->Prop},zAU B l S N j Q .ret K H e=Q .ret K H e) /\
 (∀{B:Nat}{Q:QT}{K:Kn}{H:AH}{e:Nat}{l id:Nat}{α:Type}{S:α->Kn×AH}{N:Nat}{j:α->Prop},zAU B l S N j Q (.exit id) K H e=Q (.exit id) K H e) /\
 (∀{B:Nat}{Q:QT}{K:Kn}{H:AH}{e:Nat}{l V:Nat}{α:Type}{S:α->Kn×AH}{N:Nat}{j:α->Prop}{μ:α->Nat}{a:α},zAS B l S N j μ a Q (.goto V) K H e=(V=l/\∃q,j q/\μ q<μ a/\Ent B K H e (S q).1 (S q).2 N)) /\
 (∀{B:Nat}{Q:QT}{K:Kn}{H:AH}{e:Nat}{l:Nat}{α:Type}{S:α->Kn×AH}{N:Nat}{j:α->Prop}{μ:α->Nat}{a:α},zAS B l S N j μ a Q .normal K H e=Q .normal K H e) /\
 (∀{B:Nat}{Q:QT}{K:Kn}{H:AH}{e:Nat}{l:Nat}{α:Type}{S:α->Kn×AH}{N:Nat}{j:α->Prop}{μ:α->Nat}{a:α},zAS B l S N j μ a Q .ret K H e=Q .ret K H e) /\
 (∀{B:Nat}{Q:QT}{K:Kn}{H:AH}{e:Nat}{l id:Nat}{α:Type}{S:α->Kn×AH}{N:Nat}{j:α->Prop}{μ:α->Nat}{a:α},zAS B l S N j μ a Q (.exit id) K H e=Q (.exit id) K H e) :=
 ⟨@zJB,@zFA,@zKE,@zMp,@zK9,@zGw,@zJD,@zJp,@zMA,@zLc,@zHu,@zGH,@zK8,@zKd,@zHz,(by intros;rfl),@zJO,@zCC,@zJZ,@zHO,@zG3,@zsH,@zDC,@zDI,@zKK,@zH2,@zGc,@zCi,@zF7,@zFR,@zDe,@zLf,@zDz,@zGR,@zFu,@zCJ,@zF1,@zGg,@zGj,@zCG,@zHK,@zF5,@zFz,@zIA,@zCr,@zCL,@zBt,@zJy,@zH9,@zMq,@zHh,@zKy,@zJh,@zHC,@zMw,@zDJ,@zM3,@zL1,@zJe,@zMF,@zLI,@opX_un,@zK2,@zHW,@zCQ,@zM6,@zKk,@zAQ,@zI0,@zB8,@zHo,@zKQ,@zI2,@zMc,@zJm,@zFb,@zGE,@zMk,@zGq,@zLe,@zHe,@zMu,@zHn,@zpw,@zLP,@zJS,@zGN,@zGl,@zBD,@zFW,@zHg,@zFm,@zBQ,@zGf,@zIQ,@zFk,(by intros;rfl),(by intros;rfl),(by intros;rfl),@zE3,@zAW,@zIq,@zE6,@zFK,@zBL,@zIU,@zGe⟩
theorem evK :
 (∀{ρ:Nat->AV}{n:Nat},ev ρ (.t n)=ρ n) /\
 (∀{ρ:Nat->AV}{v:AV},ev ρ (.c v)=v) /\
 (∀{ρ:Nat->AV},evs ρ []=[]) /\
 (∀{ρ:Nat->AV}{x:AOpd}{l:List AOpd},evs ρ (x::l)=ev ρ x::evs ρ l) /\
 (∀{ρ:Nat->AV},zf9 ρ []=[]) /\
 (∀ {ρ:Nat->AV}{a b:Nat}{x:AOpd}{l:List (Nat×Nat×AOpd)},zf9 ρ ((a,b,x)::l)=(a,b,ev ρ x)::zf9 ρ l) /\
 (∀{ρ:Nat->AV},zm2 ρ []=[]) /\
 (∀ {ρ:Nat->AV}{a:Nat}{x:AOpd}{l:List (Nat×AOpd)},zm2 ρ ((a,x)::l)=(a,ev ρ x)::zm2 ρ l) /\
 (∀{ρ:Nat->AV},evO ρ none=none) /\
 (∀{ρ:Nat->AV}{x:AOpd},evO ρ (some x)=some (ev ρ x)) /\
 (∀{K:Kn}{v:AV},setO K none v=K) /\
 (∀{K:Kn}{d:Nat}{v:AV},setO K (some d) v=K.set d v) /\
 (∀{i:Nat},Kn.get [] i=.undef) /\
 (∀{j:Nat}{v:AV}{t:Kn}{i:Nat},Kn.get ((j,v)::t) i=bif (j == i)then v else Kn.get t i) /\
 (∀{i:Nat}{v:AV},Xj [] i v=[(i,v)]) /\
 (∀{j:Nat}{u v:AV}{t:Kn}{i:Nat},Xj ((j,u)::t) i v=bif (j == i)then(i,v)::t else(j,u)::Xj t i v) /\
 (∀{l:List Nat},Xh [] l=[]) /\
 (∀{j:Nat}{v:AV}{t:Kn}{l:List Nat},Xh ((j,v)::t) l=bif memN l j then Xh t l else(j,v)::Xh t l) /\
 (∀{i:Nat},memN [] i=false) /\
 (∀{j:Nat}{t:List Nat}{i:Nat},memN (j::t) i=bif (j == i)then true else memN t i) /\
 (∀{i:Nat},zoH i []=[]) /\
 (∀{i:Nat}{a:AV}{r:List AV},zoH i (a::r)=(i,a)::zoH (i+1) r) /\
 (∀{K:Kn}{H:AH}{e:Nat},zdw K H e []=True) /\
 (∀{K:Kn}{H:AH}{e t:Nat}{r:List ARet},zdw K H e (.tmp t::r)=zdw K H e r) /\
 (∀{K:Kn}{H:AH}{e t n:Nat}{g:Bool}{r:List ARet},zdw K H e (.cell t g n::r)=((zgx g n (K.get t) H e).side/\zdw K H e r)) /\
 (∀{K:Kn}{H:AH}{e:Nat},zcG K H e []=[]) /\
 (∀{K:Kn}{H:AH}{e t:Nat}{r:List ARet},zcG K H e (.tmp t::r)=K.get t::zcG K H e r) /\
 (∀{K:Kn}{H:AH}{e t n:Nat}{g:Bool}{r:List ARet},zcG K H e (.cell t g n::r)=(zgx g n (K.get t) H e).v::zcG K H e r) /\
 (∀{v:AV},zs5 [v]=v) /\
 (zs5 []=.tup []) /\
 (∀{u v:AV}{l:List AV},zs5 (u::v::l)=.tup (u::v::l)) /\
 (∀{r:Nat},Xa [] r=none) /\
 (∀{j:Nat}{o:AObj}{t:AH}{r:Nat},Xa ((j,o)::t) r=bif (j == r)then some o else Xa t r) /\
 (∀{r:Nat}{o:AObj},Xk [] r o=[(r,o)]) /\
 (∀{j:Nat}{u o:AObj}{t:AH}{r:Nat},Xk ((j,u)::t) r o=bif (j == r)then(r,o)::t else(j,u)::Xk t r o) /\
 (∀{H:AH}{r q:Nat},Xi H r q=(Xa H r).bind (·.part q)) /\
 (∀{H:AH}{r q:Nat}{o:AObj},Xm H r q o=zwh (Xa H r) H r q o) /\
 (∀{u:AObj}{H:AH}{r q:Nat}{o:AObj},zwh (some u) H r q o=H.put r (u.upd q o)) /\
 (∀{H:AH}{r q:Nat}{o:AObj},zwh none H r q o=H.put r o) /\
 (∀ {m g:Nat}{h:List (List AV)},Xg (.row m h g) 0=some (.row m h g)) /\
 (∀ {m i:Nat}{k:List (List (List AV)×Nat)},Xg (.fam m k) (i+1)=(k[i]?).map λp=>.row m p.1 p.2) /\
 (∀ {m g:Nat}{h:List (List AV)}{o:AObj}{q:Nat},Xl (.row m h g) q o=o) /\
 (∀ {m s i g:Nat}{k:List (List (List AV)×Nat)}{h:List (List AV)},Xl (.fam m k) (i+1) (.row s h g)=.fam m (k.set i (h,g))) /\
 (∀{o:AObj}{f:AObj->Option AObj},(some o).bind f=f o) :=
 ⟨@ev_t,@ev_c,@zLL,@zKL,@zCa,@zBS,@zIs,@zGi,@zJX,@zJN,@zG7,@zIt,@zJq,@zGO,@zJJ,@zHI,@zIp,@zFT,@zKo,@zHZ,@zHj,@zFd,@zDl,@zCo,@zAP,@zDE,@zCA,@zBq,@zGo,zFo,@zIw,@zJk,@zIh,@zLW,@zKc,@zJ6,@zJG,@zDu,@zDd,@zJF,@zKf,@zMg,@zMJ,@zFr⟩
theorem evB:(∀{α:Type}{a b:α},(bif true then a else b)=a)/\(∀{α:Type}{a b:α},(bif false then a else b)=b)/\(∀{p:Prop},(True/\p)=p)/\(∀{p:Prop},(p/\True)=p)/\(∀{p:Prop},(True->p)=p) :=
 ⟨rfl,rfl,by simp,by simp,by simp⟩
theorem zBm{n}(b : -9223372036854775808<=n)(c:n<=9223372036854775807):IntKind.i64.wrap n=n:=IntWalk.i64_in n ⟨b,c⟩
def encL{α:Type}(b:Nat)(f:α->List AV)(l:List α):AV:=.sl b l.length (λi j=>((l.map f).getD i []).getD j .undef)
def encP(b:Nat)(c:List AV):AV:=.iptr b (λj=>c.getD j .undef)
theorem zh3{α β:Type}{f:α->β}{l:List α}{i:Nat}{a:α}{d:β}(h:l[i]?=some a):(l.map f).getD i d=f a:=by simp[Wv,h]
section
variable {α:Type}{sz:Nat}{f:α->List AV}{l:List α}{H:AH}{nx:Nat}
theorem zEb:∀(n k:Nat)(c:List AV),k+n=c.length->tab (λj=>c.getD j .undef) n k=c.drop k
 |0,k,c,h=>by simp[tab,List.drop_of_length_le (show c.length<=k by omega)]
 |
  n+1,k,c,h=>by
  simp only[tab];rw[zEb n (k+1) c (by omega),List.drop_eq_getElem_cons (show k<c.length by omega)];simp[Wv,Wd (show k<c.length by omega)]
theorem zfD(d:∀a∈l,(f a).length=sz):zec sz (encL sz f l) H=some (l.map f):=by
 unfold zec encL;simp only[zcA,cond_true];congr 1;apply Wy;intro i;by_cases b:i<l.length
 .have c:l[i]∈l:=Ww b;simp only[Wh,List.getElem?_range b,Option.map_some,Wd b];have e:(List.map f l).getD i []=f l[i]:=zh3 (Wd b);rw[e,zEb sz 0 (f l[i]) (by rw[d _ c];omega)];rfl
 .simp[List.getElem?_eq_none (show l.length<=i by omega),b]
theorem zpo:nilB false (encL sz f l)=some (bif Wa l.length 0 then none else some false):=rfl
end
def qRo(l:List Nat):Nat->List Nat:=λid=>bif Wa id 999999 then l else Wi 150
def qGet:List (Nat×List Nat)->Nat->List Nat
 |[],_=>Wi 150
 |(j,l)::t,i=>bif Wa j i then l else qGet t i
def qRoL(l:List Nat)(x:List (Nat×List Nat)):Nat->List Nat:=λid=>bif Wa id 999999 then l else qGet x id
def za(l:List Int):AV:=encL 1 (λn=>[.int .i64 n]) l
def zo(l:List Nat):AV:=encL 1 (λ(n:Nat)=>[.int .i64 (n:Int)]) l
def ziI(l:List Bool):AV:=encL 1 (λb=>[.bool b]) l
theorem zhg{α:Type}{H d:AH}{σ:Nat->Nat->Option (Nat×Nat×Nat)}{D:Nat->Nat->Prop}{t:Bool}{b r q g:Nat}{f e:α->List AV}{l:List α}(k:D r q)(n:H.get r q=some (.row b (l.map f) g))(m:l.length<=big)(h:∀a∈l,∀j,j<b->Vw H d σ D false ((f a).getD j .undef) ((e a).getD j .undef)):Vw H d σ D t (.own r q g 0 l.length) (encL b e l):=by
 refine .frz t r q g 0 l.length b (l.map f) _ k n m (by simp) (λi j c o=>?_);rw[Nat.zero_add,zh3 (Wd c),zh3 (Wd c)];exact h _ (Ww c) j o
theorem zbv{H H2}{σ}{D}{t}{r q g}{l}(b:D r q)(d:H.get r q=some (.row 1 (l.map λn=>[.int .i64 n]) g))(c:l.length<=big):
  Vw H H2 σ D t (.own r q g 0 l.length) (za l):=by
 refine zhg b d c (λa _ j e=>?_);obtain rfl:j=0:=by omega
 exact .int _ _ _
theorem zs3{H H2}{σ}{D}{t}{r q g}{l}(b:D r q)(d:H.get r q=some (.row 1 (l.map λ(n:Nat)=>[.int .i64 (n:Int)]) g))(c:l.length<=big):
  Vw H H2 σ D t (.own r q g 0 l.length) (zo l):=by
 refine zhg b d c (λa _ j e=>?_);obtain rfl:j=0:=by omega
 exact .int _ _ _
theorem zqb{H H2}{σ}{D}{t}{r q g}{l}(c:D r q)(e:H.get r q=some (.row 1 (l.map λb=>[.bool b]) g))(d:l.length<=big):
  Vw H H2 σ D t (.own r q g 0 l.length) (ziI l):=by
 refine zhg c e d (λa _ j h=>?_);obtain rfl:j=0:=by omega
 exact .bool _ _
theorem zj{α:Type}{H b:AH}{σ:Nat->Nat->Option (Nat×Nat×Nat)}{D:Nat->Nat->Prop}{t:Bool}{c:Nat}{f:α->List AV}:Vw H b σ D t .nilsl (encL c f []):=.nil0 _ _ _
theorem evL :
 (∀{c:Nat->AV}{k:Nat},tab c 0 k=[]) /\
 (∀{c:Nat->AV}{n k:Nat},tab c (n+1) k=c k::tab c n (k+1)) /\
 (∀{α:Type}{a:α}{l:List α},(a::l).length=l.length+1) /\
 (∀{α:Type},([]:List α).length=0) /\
 (∀{α:Type}{a b:α}{l:List α},(a::l).set 0 b=b::l) /\
 (∀{α:Type}{a b:α}{l:List α}{n:Nat},(a::l).set (n+1) b=a::l.set n b) /\
 (∀{α:Type}{a d:α}{l:List α},(a::l).getD 0 d=a) /\
 (∀{α:Type}{a d:α}{l:List α}{n:Nat},(a::l).getD (n+1) d=l.getD n d) /\
 (∀{h:List AV},Xd (.agg h)=h) /\
 (∀{k:IntKind}{n:Int},Xd (.int k n)=[.int k n]) /\
 (∀{b:Bool},Xd (.bool b)=[.bool b]) /\
 (∀{e n:Nat}{f:Nat->Nat->AV},Xd (.sl e n f)=[.sl e n f]) /\
 (∀{α:Type}{e:Nat}{f:α->List AV}{l:List α},Xd (encL e f l)=[encL e f l]) /\
 (∀{r q g off n:Nat},Xd (.own r q g off n)=[.own r q g off n]) /\
 (∀{r q g i f:Nat},Xd (.ptr r q g i f)=[.ptr r q g i f]) /\
 (∀{f:Fn}{h:List AV},Xd (.fn f h)=[.fn f h]) /\
 (Xd .nilsl=[.nilsl])/\(Xd .nilfn=[.nilfn])/\(Xd .nilp=[.nilp]) /\
 (∀{s:ByteArray},Xd (.str s)=[.str s]) /\
 (∀{h:List AV},Xe (.agg h)=true) /\
 (∀{k:IntKind}{n:Int},Xe (.int k n)=true) /\
 (∀{b:Bool},Xe (.bool b)=true) /\
 (∀{e n:Nat}{f:Nat->Nat->AV},Xe (.sl e n f)=true) /\
 (∀{α:Type}{e:Nat}{f:α->List AV}{l:List α},Xe (encL e f l)=true) /\
 (∀{r q g off n:Nat},Xe (.own r q g off n)=true) /\
 (∀{r q g i f:Nat},Xe (.ptr r q g i f)=true) /\
 (∀{f:Fn}{h:List AV},Xe (.fn f h)=true) /\
 (Xe .nilsl=true)/\(Xe .nilfn=true)/\(Xe .nilp=true) /\
 (∀{s:ByteArray},Xe (.str s)=true) /\
 (∀{k:IntKind}{n:Int},Xb (.int k n)=InR k n) /\
 (∀{b:Bool},Xb (.bool b)=True) /\
 (∀{h:List AV},Xb (.agg h)=True) /\
 (∀{h:List AV},Xb (.tup h)=True) /\
 (∀{e n:Nat}{f:Nat->Nat->AV},Xb (.sl e n f)=(n<=big)) /\
 (∀{α:Type}{e:Nat}{f:α->List AV}{l:List α},Xb (encL e f l)=(l.length<=big)) /\
 (∀{r q g off n:Nat},Xb (.own r q g off n)=True) /\
 (∀{r q g i f:Nat},Xb (.ptr r q g i f)=True) /\
 (∀{n:Nat}{c:Nat->AV},Xb (.iptr n c)=True) /\
 (∀{f:Fn}{h:List AV},Xb (.fn f h)=True) /\
 (Xb .nilsl=True)/\(Xb .nilfn=True)/\(Xb .nilp=True)/\(Xb .undef=True) /\
 (∀{s:ByteArray},Xb (.str s)=(s.size<=big)) /\
 (∀{n:Nat},Wa n n=true) /\
 (∀{a b:Nat},Wa a b=(a == b)) /\
 (∀{b:Bool},(b&&b)=b)/\(∀{b:Bool},(b&&true)=b)/\(∀{b:Bool},(true&&b)=b)/\(∀{b:Bool},(b&&false)=false)/\(∀{b:Bool},(false&&b)=false) /\
 (∀{n:Nat},0+n=n) /\
 (∀{n:Nat},((n:Int).toNat)=n) /\
 (∀{n:Nat},(0<n+1)=True) /\
 (∀{n:Nat},(n<=n)=True) /\
 (∀{α:Type}{a:α},(a=a)=True) /\
 (∀{α:Type}{l:List α},[]++l=l)/\(∀{α:Type}{l:List α},l++[]=l)/\(∀{α:Type}{a:α}{l m:List α},(a::l)++m=a::(l++m)) /\
 (∀{α:Type}{l:List α},l.drop 0=l)/\(∀{α:Type}{a:α}{l:List α}{n:Nat},(a::l).drop (n+1)=l.drop n) /\
 (∀{α:Type}{l:List α},l.take 0=[])/\(∀{α:Type}{a:α}{l:List α}{n:Nat},(a::l).take (n+1)=a::l.take n) /\
 (∀{α:Type}{a:α},Wc 0 a=[])/\(∀{α:Type}{a:α}{n:Nat},Wc (n+1) a=a::Wc n a) /\
 (∀ {j:List (List AV)},zgY j []=j)/\(∀ {j:List (List AV)}{i:Nat}{v:AV}{r:List (Nat×AV)},zgY j ((i,v)::r)=zgY (j.set i v.cells) r) /\
 (∀{n e:Nat},zBN n e []=True)/\(∀ {n e i:Nat}{v:AV}{r:List (Nat×AV)},zBN n e ((i,v)::r)=((v.solid=true/\v.cells.length=e/\i<n)/\zBN n e r)) /\
 (∀{h:List AV},zF3 h []=h)/\(∀ {h:List AV}{off size:Nat}{v:AV}{r:List (Nat×Nat×AV)},zF3 h ((off,size,v)::r)=zF3 (splice h off v.cells) r) /\
 (∀{k:IntKind}{n:Int},Xf (.int k n)=true)/\(∀{b:Bool},Xf (.bool b)=true)/\(∀{s:ByteArray},Xf (.str s)=true)/\(Xf .undef=true)/\(Xf .nilsl=true)/\(Xf .nilp=true)/\(Xf .nilfn=true)/\(Xf .cut=true) /\
 (∀{e n:Nat}{f:Nat->Nat->AV},Xf (.sl e n f)=true)/\(∀{n:Nat}{c:Nat->AV},Xf (.iptr n c)=true)/\(∀{α:Type}{e:Nat}{f:α->List AV}{l:List α},Xf (encL e f l)=true) /\
 (zR []=true)/\(∀{v:AV}{r:List AV},zR (v::r)=(v.flat0&&zR r)) /\
 (∀{n:Nat},zyB n []=True)/\(∀ {n off size:Nat}{v:AV}{r:List (Nat×Nat×AV)},zyB n ((off,size,v)::r)=((v.solid=true/\v.cells.length=size/\off+size<=n)/\zyB n r)):=by
 (repeat' apply And.intro)<;>intros<;>first|rfl|exact Nat.beq_refl _|exact zgc _ _|simp
def AV.flat:AV->Bool
 |.agg l=>l.all Xf
 |.tup l=>l.all Xf
 |a=>a.flat0
theorem zcL{H H2}{σ}{D}{t}{a}(h:a.flat0=true):Vw H H2 σ D t a a:=by cases a<;>first|(cases h;done)|constructor
theorem zM{H H2}{σ}{D}{t}{a}(h:a.flat=true):Vw H H2 σ D t a a:=by
 have key:∀(l:List AV),l.all Xf=true->∀(i:Nat)(x y:AV),l[i]?=some x->l[i]?=some y->Vw H H2 σ D t x y:=λl d i x y b c=>by rw[b]at c;cases c;exact zcL (Wq.1 d x (Wj b))
 cases a with
 |agg l=>exact .agg _ _ _ rfl (key l h)
 |tup l=>exact .tup _ _ _ rfl (key l h)
 |_=>exact zcL h
theorem zA0{H}{D}:∀{l:List AV},l.all AV.flat=true->Lend H D l l
 |[],_=>.nil
 |
  a::l,h=>by
  simp only[List.all_cons,Wf]at h;exact .cons (zM h.1) (zA0 h.2)
theorem ze{P}{f}{l}{r}{H}{nx}(h:zw P f l (·=r))(b:l.all AV.flat=true):zfZ P f l H nx r :=
 zaH h (zA0 (D:=noR) b) (.inr λ_ _ h=>h)
structure Stm where
 op:Int
 var:Int
 width:Int
 next:Int
 els:Int
 tgt:Int
 e:AV
 cases:List Int
def Stm.cells(s:Stm):List AV:=[.int .i64 s.op,.int .i64 s.var,.int .i64 s.width,.int .i64 s.next,.int .i64 s.els,.int .u32 s.tgt,s.e,za s.cases]
structure Blk where
 addr:Int
 stmts:List Stm
def Blk.cells(b:Blk):List AV:=[.int .u32 b.addr,encL 8 Stm.cells b.stmts]
structure Gr where
 addr:Int
 blocks:List Blk
def Gr.cells(g:Gr):List AV:=[.int .u32 g.addr,encL 2 Blk.cells g.blocks]
theorem Blk.two(b:Blk):[b.cells.getD 0 .undef,b.cells.getD 1 .undef]=b.cells:=rfl
theorem Gr.two(g:Gr):[g.cells.getD 0 .undef,g.cells.getD 1 .undef]=g.cells:=rfl
def Blk.targets(b:Blk):List Int:=match b.stmts.getLast? with
 |none=>[]
 |some s=>if s.op=6 then[s.next]else if s.op=7 then[s.next,s.els]else if s.op=8 then s.cases else[]
def ldRow(agg:Bool)(n i f g:Nat)(o:Option AObj)(H:AH)(c:Nat):ORes:=match o with
 |
  some (.row d b e)=>
  let v:=bif agg then .agg (bif Wa f 0&&Wa n d then b.getD i []else sub (b.getD i []) f n)else(b.getD i []).getD f .undef
  ⟨g=e/\i<b.length/\f+n<=d,v.wf,v,H,c⟩
 |_=>bad H c
def stRow(n r q i f g:Nat)(v:AV)(o:Option AObj)(H:AH)(e:Nat):ORes:=match o with
 |
  some (.row c b d)=>
  ⟨g=d/\i<b.length/\f+n<=c/\v.solid=true/\v.cells.length=n,True,.undef,
    H.set r q (.row c (b.set i (bif Wa f 0&&Wa n c then v.cells else splice (b.getD i []) f v.cells)) d),e⟩
 |_=>bad H e
def ixRow(e r q g off n:Nat)(k:Int)(o:Option AObj)(H:AH)(c:Nat):ORes:=match o with
 |some (.row b _ d)=>⟨b=e/\g=d/\0<=k/\k<n,True,.ptr r q g (off+k.toNat) 0,H,c⟩
 |_=>bad H c
def zHX(h r q g off n:Nat)(a b:Int)(o:Option AObj)(H:AH)(d:Nat):ORes:=match o with
 |some (.row c _ e)=>⟨c=h/\g=e/\0<=a/\a<=b/\b<=n,True,.own r q g (off+a.toNat) (b-a).toNat,H,d⟩
 |_=>bad H d
def clRow(h r q g off n:Nat)(zero:List AV)(o:Option AObj)(H:AH)(e:Nat):ORes:=match o with
 |some (.row c b d)=>⟨c=h/\g=d/\off+n<=b.length,True,.undef,H.set r q (.row h (b.take off++Wc n zero++b.drop (off+n)) d),e⟩
 |_=>bad H e
def elRow(e g off n:Nat)(o:Option AObj):Option (List (List AV)):=match o with
 |some (.row c b d)=>bif Wa c e&&Wa g d then some ((b.drop off).take n)else none
 |_=>none
def ftRow(off n:Nat)(o:Option AObj):Prop:=match o with
 |some (.row _ b _)=>off+n<=b.length
 |_=>False
def zK1(h bytes r q g off n m:Nat)(c:List (List AV))(j:Prop)(o:Option AObj)(H:AH)(e:Nat):ORes:=match o with
 |
  some (.row d b k)=>
  ⟨d=h/\g=k/\off+n<=b.length/\j/\(n+m)*bytes<=140737488355328,True,.own r q (g+1) 0 (n+m),H.set r q (.row h ((b.drop off).take n++c) (g+1)),e⟩
 |_=>bad H e
def apTo(e bytes:Nat)(x:AV)(b:Option (List (List AV)))(m:Option Nat)(d:Prop)(H:AH)(c:Nat):ORes:=match b,m with
 |
  some b,some m=>match x with
  |.own r q g off n=>zK1 e bytes r q g off n m b d (H.get r q) H c
  |.nilsl |.cut=>⟨d/\m*bytes<=140737488355328,True,.own c 0 0 0 m,H.set c 0 (.row e b 0),c+1⟩
  |_=>bad H c
 |_,_=>bad H c
theorem zCu{b bytes}{x y}{H}{nx}:zja b bytes x y H nx=apTo b bytes x (zec b y H) (lenV y) (fits H y) H nx:=by
 unfold zja apTo
 cases zec b y H with
 |none=>rfl
 |some news=>
  cases lenV y with
  |none=>rfl
  |some m=>
   cases x<;>try rfl
   all_goals
    simp only[zK1];split<;>rfl
theorem zF8{l}:splice l 0 []=l:=by simp[splice]
theorem zDG{a v}{l vs}:splice (a::l) 0 (v::vs)=v::splice l 0 vs:=by simp[splice]
theorem zC9{a}{l vs}{n}:splice (a::l) (n+1) vs=a::splice l n vs:=by simp only[splice,List.take_succ_cons,Wz];rw[show n+1+vs.length=(n+vs.length)+1 by omega,List.drop_succ_cons]
theorem evR :
 (∀{e r q g off n:Nat}{zero:List AV}{H:AH}{d:Nat},zmL e zero (.own r q g off n) H d=clRow e r q g off n zero (H.get r q) H d) /\
 (∀ {e r q g off n t u:Nat}{zero:List AV}{h:List (List AV)}{H:AH}{d:Nat},clRow e r q g off n zero (some (.row t h u)) H d=⟨t=e/\g=u/\off+n<=h.length,True,.undef,H.set r q (.row e (h.take off++Wc n zero++h.drop (off+n)) u),d⟩) /\
 (∀{r q g off n:Nat}{H:AH}{d:Nat},cutR (.own r q g off n) H d=⟨True,True,.cut,H,d⟩)/\(∀{H:AH}{d:Nat},cutR .nilsl H d=⟨True,True,.cut,H,d⟩)/\(∀{H:AH}{d:Nat},cutR .cut H d=⟨True,True,.cut,H,d⟩)/\(∀{α:Type}{e:Nat}{f:α->List AV}{l:List α}{H:AH}{d:Nat},cutR (encL e f l) H d=⟨True,True,.cut,H,d⟩) /\
 (∀{l:List AV},splice l 0 []=l)/\(∀{a v:AV}{l A:List AV},splice (a::l) 0 (v::A)=v::splice l 0 A)/\(∀{a:AV}{l A:List AV}{n:Nat},splice (a::l) (n+1) A=a::splice l n A) /\
 (∀{agg:Bool}{n r q g i f:Nat}{H:AH}{d:Nat},zgx agg n (.ptr r q g i f) H d=ldRow agg n i f g (H.get r q) H d) /\
 (∀{agg:Bool}{n m:Nat}{c:Nat->AV}{H:AH}{d:Nat},zgx agg n (.iptr m c) H d=⟨n<=m,(bif agg then .agg (tab c n 0)else c 0:AV).wf,bif agg then .agg (tab c n 0)else c 0,H,d⟩) /\
 (∀ {agg:Bool}{n i f g e u:Nat}{h:List (List AV)}{H:AH}{d:Nat},ldRow agg n i f g (some (.row e h u)) H d =
  ⟨g=u/\i<h.length/\f+n<=e,(bif agg then .agg (bif Wa f 0&&Wa n e then h.getD i []else sub (h.getD i []) f n)else(h.getD i []).getD f .undef:AV).wf,bif agg then .agg (bif Wa f 0&&Wa n e then h.getD i []else sub (h.getD i []) f n)else(h.getD i []).getD f .undef,H,d⟩) /\
 (∀{n r q g i f:Nat}{v:AV}{H:AH}{d:Nat},zjk n (.ptr r q g i f) v H d=stRow n r q i f g v (H.get r q) H d) /\
 (∀ {n r q i f g e u:Nat}{h:List (List AV)}{v:AV}{H:AH}{d:Nat},stRow n r q i f g v (some (.row e h u)) H d =
  ⟨g=u/\i<h.length/\f+n<=e/\v.solid=true/\v.cells.length=n,True,.undef,H.set r q (.row e (h.set i (bif Wa f 0&&Wa n e then v.cells else splice (h.getD i []) f v.cells)) u),d⟩) /\
 (∀{e r q g off n:Nat}{k:IntKind}{i:Int}{H:AH}{d:Nat},idxR e (.own r q g off n) (.int k i) H d=ixRow e r q g off n i (H.get r q) H d) /\
 (∀ {e r q g off n t u:Nat}{h:List (List AV)}{i:Int}{H:AH}{d:Nat},ixRow e r q g off n i (some (.row t h u)) H d=⟨t=e/\g=u/\0<=i/\i<n,True,.ptr r q g (off+i.toNat) 0,H,d⟩) /\
 (∀{r q g off n:Nat}{H:AH}{d:Nat},lenR (.own r q g off n) H d=⟨True,n<=9223372036854775807,.int .i64 n,H,d⟩) /\
 (∀{H:AH}{d:Nat},lenR .nilsl H d=⟨True,True,.int .i64 0,H,d⟩) /\
 (∀{H:AH}{d:Nat},lenR .cut H d=⟨True,True,.int .i64 0,H,d⟩) /\
 (∀{off n r q g i f:Nat}{H:AH}{d:Nat},zfc off n (.ptr r q g i f) H d=⟨True,True,.ptr r q g i (f+off),H,d⟩) /\
 (∀{off n m:Nat}{c:Nat->AV}{H:AH}{d:Nat},zfc off n (.iptr m c) H d=⟨off+n<=m,True,.iptr n (λj=>c (off+j)),H,d⟩) /\
 (∀{e r q g off n:Nat}{k B:IntKind}{a b:Int}{H:AH}{d:Nat},zi0 e (.own r q g off n) (some (.int k a)) (some (.int B b)) H d=zHX e r q g off n a b (H.get r q) H d) /\
 (∀{e r q g off n:Nat}{k:IntKind}{a:Int}{H:AH}{d:Nat},zi0 e (.own r q g off n) (some (.int k a)) none H d=zHX e r q g off n a n (H.get r q) H d) /\
 (∀{e r q g off n:Nat}{B:IntKind}{b:Int}{H:AH}{d:Nat},zi0 e (.own r q g off n) none (some (.int B b)) H d=zHX e r q g off n 0 b (H.get r q) H d) /\
 (∀ {e r q g off n t u:Nat}{h:List (List AV)}{a b:Int}{H:AH}{d:Nat},zHX e r q g off n a b (some (.row t h u)) H d=⟨t=e/\g=u/\0<=a/\a<=b/\b<=n,True,.own r q g (off+a.toNat) (b-a).toNat,H,d⟩) /\
 (∀{e bytes:Nat}{x y:AV}{H:AH}{d:Nat},zja e bytes x y H d=apTo e bytes x (zec e y H) (lenV y) (fits H y) H d) /\
 (∀{e r q g off n:Nat}{H:AH},zec e (.own r q g off n) H=elRow e g off n (H.get r q)) /\
 (∀{e:Nat}{H:AH},zec e .nilsl H=some [])/\(∀{e:Nat}{H:AH},zec e .cut H=some []) /\
 (∀ {e g off n t u:Nat}{h:List (List AV)},elRow e g off n (some (.row t h u))=bif Wa t e&&Wa g u then some ((h.drop off).take n)else none) /\
 (∀{r q g off n:Nat},lenV (.own r q g off n)=some n)/\(lenV .nilsl=some 0)/\(lenV .cut=some 0)/\(∀{α:Type}{e:Nat}{f:α->List AV}{l:List α},lenV (encL e f l)=some l.length) /\
 (∀{r q g off n:Nat}{H:AH},fits H (.own r q g off n)=ftRow off n (H.get r q))/\(∀{H:AH},fits H .nilsl=True)/\(∀{H:AH},fits H .cut=True)/\(∀{α:Type}{e:Nat}{f:α->List AV}{l:List α}{H:AH},fits H (encL e f l)=True) /\
 (∀ {off n e g:Nat}{h:List (List AV)},ftRow off n (some (.row e h g))=(off+n<=h.length)) /\
 (∀ {e bytes r q g off n m:Nat}{p:List (List AV)}{w:Prop}{H:AH}{d:Nat},apTo e bytes (.own r q g off n) (some p) (some m) w H d=zK1 e bytes r q g off n m p w (H.get r q) H d) /\
 (∀ {e bytes m:Nat}{p:List (List AV)}{w:Prop}{H:AH}{d:Nat},apTo e bytes .nilsl (some p) (some m) w H d=⟨w/\m*bytes<=140737488355328,True,.own d 0 0 0 m,H.set d 0 (.row e p 0),d+1⟩) /\
 (∀ {e bytes m:Nat}{p:List (List AV)}{w:Prop}{H:AH}{d:Nat},apTo e bytes .cut (some p) (some m) w H d=⟨w/\m*bytes<=140737488355328,True,.own d 0 0 0 m,H.set d 0 (.row e p 0),d+1⟩) /\
 (∀ {e bytes r q g off n m t u:Nat}{p h:List (List AV)}{w:Prop}{H:AH}{d:Nat},zK1 e bytes r q g off n m p w (some (.row t h u)) H d =
  ⟨t=e/\g=u/\off+n<=h.length/\w/\(n+m)*bytes<=140737488355328,True,.own r q (g+1) 0 (n+m),H.set r q (.row e ((h.drop off).take n++p) (g+1)),d⟩) /\
 (∀{α:Type}{e:Nat}{f:α->List AV}{l:List α}{H:AH}{d:Nat},lenR (encL e f l) H d=⟨True,l.length<=big,.int .i64 l.length,H,d⟩) /\
 (∀{α:Type}{e:Nat}{f:α->List AV}{l:List α}{H:AH}{d:Nat}{s:Nat}{k:IntKind}{i:Int},idxR s (encL e f l) (.int k i) H d=⟨e=s/\0<=i/\i<l.length,True,.iptr s (λj=>((l.map f).getD i.toNat []).getD j .undef),H,d⟩):=by
 refine⟨rfl,rfl,rfl,rfl,rfl,rfl,zF8,zDG,zC9,rfl,rfl,rfl,rfl,rfl,rfl,rfl,rfl,rfl,rfl,rfl,rfl,?_,?_,?_,rfl,zCu,rfl,rfl,rfl,rfl,rfl,rfl,rfl,rfl,rfl,rfl,rfl,rfl,rfl,rfl,rfl,rfl,rfl,rfl,rfl⟩
 all_goals
  intro e r q g off n;intros;rename_i H d;simp only[zi0,zHX]
  cases H.get r q with
  |none=>rfl
  |some o=>cases o<;>rfl
def zKz(r q g off n:Nat)(o:Option AObj)(H:AH)(d:Nat):ORes:=match o with
 |some (.row e b c)=>⟨e=1/\g=c/\0<n,True,.own r q g off n,H.set r q (.row e b c),d⟩
 |_=>bad H d
def zLa(r q g off n:Nat)(s:ByteArray)(o:Option AObj)(H:AH)(d:Nat):ORes:=match o with
 |
  some (.row c b e)=>
  ⟨c=1/\g=e/\off+n<=b.length/\n+s.size<=140737488355328,True,.own r q (g+1) 0 (n+s.size),H.set r q (.row 1 ((b.drop off).take n++s.data.toList.map zoN) (g+1)),d⟩
 |_=>bad H d
def zJW(j r q g off n:Nat)(b c:Int)(o:Option AObj)(H:AH)(e:Nat):ORes:=match o with
 |some (.row d _ h)=>⟨d=j/\g=h/\0<=b/\b<=c/\c<=n,True,.own r q g off b.toNat,H,e⟩
 |_=>bad H e
def eqTo(neg:Bool)(o:Option Bool)(H:AH)(b:Nat):ORes:=match o with
 |some t=>⟨True,True,.bool (bif neg then !t else t),H,b⟩
 |none=>bad H b
def bsTo(c:Prop)(lv:Bool)(o:Option (List UInt8))(H:AH)(b:Nat):ORes:=match o with
 |some l=>⟨c/\lv=true,(AV.str ⟨l.toArray⟩).wf,.str ⟨l.toArray⟩,H,b⟩
 |none=>bad H b
def zDX:Option (List (List AV))->Option (List UInt8)
 |some b=>ziv b
 |none=>none
def mlTo(str:Option IntKind)(ok:Bool)(zero k:AV)(d g:Nat)(o:Option (Option (Nat×AV)))(H:AH)(c:Nat):ORes:=match o with
 |some b=>⟨d=3/\g=0/\zia str k,(mgot ok zero b).wf,mgot ok zero b,H,c⟩
 |none=>bad H c
def zJw(str:Option IntKind)(ok:Bool)(zero k:AV)(o:Option AObj)(H:AH)(b:Nat):ORes:=match o with
 |some (.row d (_::c) g)=>mlTo str ok zero k d g (zdj k c 0) H b
 |_=>bad H b
def msTo(str:Option IntKind)(r q:Nat)(k v:AV)(e g:Nat)(c:Int)(u h:AV)(b:List (List AV))(o:Option (Option (Nat×AV)))(H:AH)(d:Nat):ORes:=match o with
 |some (some (i,_))=>⟨e=3/\g=0/\zia str k,True,.undef,H.set r q (.row 3 ([.int .i64 c,u,h]::b.set i [k,v,(b.getD i []).getD 2 .undef]) 0),d⟩
 |some none=>⟨e=3/\g=0/\zia str k/\c<9223372036854775807,True,.undef,H.set r q (.row 3 ([.int .i64 (c+1),u,h]::(b++[[k,v,.int .i64 c]])) 0),d⟩
 |none=>bad H d
def zJK(str:Option IntKind)(r q:Nat)(k v:AV)(d g:Nat)(u e:AV)(b:List (List AV))(o:Option (Option (Nat×AV)))(H:AH)(c:Nat):ORes:=match o with
 |some (some (i,_))=>⟨d=3/\g=0/\zia str k,True,.undef,H.set r q (.row 3 ([.undef,u,e]::b.set i [k,v,(b.getD i []).getD 2 .undef]) 0),c⟩
 |some none=>⟨d=3/\g=0/\zia str k,True,.undef,H.set r q (.row 3 ([.undef,u,e]::(b++[[k,v,.undef]])) 0),c⟩
 |none=>bad H c
def zIS(str:Option IntKind)(r q:Nat)(k v:AV)(o:Option AObj)(H:AH)(b:Nat):ORes:=match o with
 |
  some (.row sz (hd::es) g)=>match hd with
  |[.int .i64 c,u,d]=>msTo str r q k v sz g c u d es (zdj k es 0) H b
  |[.undef,u,d]=>zJK str r q k v sz g u d es (zdj k es 0) H b
  |_=>bad H b
 |_=>bad H b
theorem zKs{x}{H}{nx}:b2sR x H nx=bsTo (fits H x) (lenV x).isSome (zDX (zec 1 x H)) H nx:=by
 unfold b2sR zDX bsTo
 cases zec 1 x H with
 |none=>rfl
 |some b=>rfl
theorem zFa{str}{ok}{z k}{r q}{H}{nx}:zmB str ok z (.mp r q) k H nx=zJw str ok z k (H.get r q) H nx:=by
 simp only[zmB,zJw]
 cases H.get r q with
 |none=>rfl
 |some o=>
  cases o with
  |fam _ _=>rfl
  |row sz b g=>
   cases b with
   |nil=>rfl
   |cons hd c=>rfl
theorem zHG{str}{k v}{r q}{H}{nx}:zrL str (.mp r q) k v H nx=zIS str r q k v (H.get r q) H nx:=by
 simp only[zrL,zIS]
 cases H.get r q with
 |none=>rfl
 |some o=>
  cases o with
  |fam _ _=>rfl
  |row sz d g=>
   cases d with
   |nil=>rfl
   |cons hd es=>
    simp only;split
    .rfl
    .rfl
    .rename_i b c;split
     .exact(b _ _ _ rfl).elim
     .exact(c _ _ rfl).elim
     .rfl
theorem zKm{sz r q g off n}{k k'}{b c}{H}{nx}:sl3R sz (.own r q g off n) (.int k b) (.int k' c) H nx=zJW sz r q g off n b c (H.get r q) H nx:=by
 simp only[sl3R,zJW]
 cases H.get r q with
 |none=>rfl
 |some o=>cases o<;>rfl
theorem zHf{r q g off n}{s:ByteArray}{H}{nx}:zuZ (.own r q g off n) (.str s) H nx=zLa r q g off n s (H.get r q) H nx:=by
 simp only[zuZ,zLa]
 cases H.get r q with
 |none=>rfl
 |some o=>cases o<;>rfl
theorem zHc{r q g off n}{H}{nx}:zwM (.own r q g off n) H nx=zKz r q g off n (H.get r q) H nx:=by
 simp only[zwM,zKz]
 cases H.get r q with
 |none=>rfl
 |some o=>cases o<;>rfl
theorem zCc{l:List UInt8}:ziv (l.map zoN)=some l:=by
 induction l with
 |nil=>rfl
 |cons b l c=>simp[ziv,zoN,c]
theorem evX :
 (∀{r q g i f:Nat}{H:AH}{d:Nat},xopR .nilck [.ptr r q g i f] H d=⟨True,True,.ptr r q g i f,H,d⟩) /\
 (∀{n:Nat}{c:Nat->AV}{H:AH}{d:Nat},xopR .nilck [.iptr n c] H d=⟨True,True,.iptr n c,H,d⟩) /\
 (∀{n:Nat}{c:List AV}{H:AH}{d:Nat},xopR .nilck [encP n c] H d=⟨True,True,encP n c,H,d⟩) /\
 (∀{neg:Bool}{a b:ByteArray}{H:AH}{d:Nat},xopR (.seq neg) [.str a,.str b] H d=⟨True,True,.bool (bif neg then !decide (a=b)else decide (a=b)),H,d⟩) /\
 (∀{s:ByteArray}{k:IntKind}{i:Int}{H:AH}{d:Nat},xopR .sidx [.str s,.int k i] H d=⟨0<=i/\i<s.size,True,.int .u8 (zyv s i.toNat),H,d⟩) /\
 (∀{s:ByteArray}{H:AH}{d:Nat},xopR .s2b [.str s] H d=⟨True,True,.own d 0 0 0 s.size,H.set d 0 (.row 1 (s.data.toList.map zoN) 0),d+1⟩) /\
 (∀{x:AV}{H:AH}{d:Nat},xopR .b2s [x] H d=bsTo (fits H x) (lenV x).isSome (zDX (zec 1 x H)) H d) /\
 (∀{C:Prop}{lv:Bool}{l:List UInt8}{H:AH}{d:Nat},bsTo C lv (some l) H d=⟨C/\lv=true,(⟨l.toArray⟩:ByteArray).size<=big,.str ⟨l.toArray⟩,H,d⟩) /\
 (∀ {j:List (List AV)},zDX (some j)=ziv j) /\
 (∀{l:List UInt8},ziv (l.map zoN)=some l) /\
 (∀{r q g off n:Nat}{H:AH}{d:Nat},xopR .mark [.own r q g off n] H d=zKz r q g off n (H.get r q) H d) /\
 (∀ {r q g off n e p:Nat}{j:List (List AV)}{H:AH}{d:Nat},zKz r q g off n (some (.row e j p)) H d=⟨e=1/\g=p/\0<n,True,.own r q g off n,H.set r q (.row e j p),d⟩) /\
 (∀{r q g off n:Nat}{s:ByteArray}{H:AH}{d:Nat},xopR .sapp [.own r q g off n,.str s] H d=zLa r q g off n s (H.get r q) H d) /\
 (∀ {r q g off n e p:Nat}{s:ByteArray}{j:List (List AV)}{H:AH}{d:Nat},zLa r q g off n s (some (.row e j p)) H d =
  ⟨e=1/\g=p/\off+n<=j.length/\n+s.size<=140737488355328,True,.own r q (g+1) 0 (n+s.size),H.set r q (.row 1 ((j.drop off).take n++s.data.toList.map zoN) (g+1)),d⟩) /\
 (∀{s:ByteArray}{H:AH}{d:Nat},xopR .sapp [.nilsl,.str s] H d=⟨s.size<=140737488355328,True,.own d 0 0 0 s.size,H.set d 0 (.row 1 (s.data.toList.map zoN) 0),d+1⟩) /\
 (∀{s:ByteArray}{H:AH}{d:Nat},xopR .sapp [.cut,.str s] H d=⟨s.size<=140737488355328,True,.own d 0 0 0 s.size,H.set d 0 (.row 1 (s.data.toList.map zoN) 0),d+1⟩) /\
 (∀{k k':IntKind}{a b:Int}{H:AH}{d:Nat},xopR .min [.int k a,.int k' b] H d=⟨k=k',True,.int k (if b<a then b else a),H,d⟩) /\
 (∀{k k':IntKind}{a b:Int}{H:AH}{d:Nat},xopR .max [.int k a,.int k' b] H d=⟨k=k',True,.int k (if a<b then b else a),H,d⟩) /\
 (∀{neg:Bool}{A:List Nat}{a b:List AV}{H:AH}{d:Nat},xopR (.eqs neg A) [.agg a,.agg b] H d=eqTo neg (z6 A a b) H d) /\
 (∀{neg t:Bool}{H:AH}{d:Nat},eqTo neg (some t) H d=⟨True,True,.bool (bif neg then !t else t),H,d⟩) /\
 (z6 [] [] []=some true) /\
 (∀{s:List Nat}{k:IntKind}{a b:Int}{l m:List AV},z6 (0::s) (.int k a::l) (.int k b::m)=(z6 s l m).map (decide (a=b)&&·)) /\
 (∀{s:List Nat}{a b:ByteArray}{l m:List AV},z6 (1::s) (.str a::l) (.str b::m)=(z6 s l m).map (decide (a=b)&&·)) /\
 (∀{s:List Nat}{a b:Bool}{l m:List AV},z6 (2::s) (.bool a::l) (.bool b::m)=(z6 s l m).map ((a == b)&&·)) /\
 (∀{f:Bool->Bool}{a:Bool},Option.map f (some a)=some (f a)) /\
 (∀{e r q g off n:Nat}{k k':IntKind}{b c:Int}{H:AH}{d:Nat},xopR (.sl3 e) [.own r q g off n,.int k b,.int k' c] H d=zJW e r q g off n b c (H.get r q) H d) /\
 (∀ {e r q g off n B p:Nat}{b c:Int}{j:List (List AV)}{H:AH}{d:Nat},zJW e r q g off n b c (some (.row B j p)) H d=⟨B=e/\g=p/\0<=b/\b<=c/\c<=n,True,.own r q g off b.toNat,H,d⟩) /\
 (∀{e:Nat}{k k':IntKind}{b c:Int}{H:AH}{d:Nat},xopR (.sl3 e) [.nilsl,.int k b,.int k' c] H d=⟨b=0/\c=0,True,.nilsl,H,d⟩) /\
 (∀{H:AH}{d:Nat},xopR .mkmap [] H d=⟨True,True,.mp d 0,H.set d 0 (.row 3 [[.int .i64 0,.undef,.undef]] 0),d+1⟩) /\
 (∀{str:Option IntKind}{ok:Bool}{z k:AV}{r q:Nat}{H:AH}{d:Nat},xopR (.mlook str ok z) [.mp r q,k] H d=zJw str ok z k (H.get r q) H d) /\
 (∀ {str:Option IntKind}{ok:Bool}{z k:AV}{e g:Nat}{hd:List AV}{o:List (List AV)}{H:AH}{d:Nat},zJw str ok z k (some (.row e (hd::o) g)) H d=mlTo str ok z k e g (zdj k o 0) H d) /\
 (∀ {str:Option IntKind}{ok:Bool}{z k:AV}{e g:Nat}{y:Option (Nat×AV)}{H:AH}{d:Nat},mlTo str ok z k e g (some y) H d=⟨e=3/\g=0/\zia str k,(mgot ok z y).wf,mgot ok z y,H,d⟩) /\
 (∀{str:Option IntKind}{k v:AV}{r q:Nat}{H:AH}{d:Nat},xopR (.mset str) [.mp r q,k,v] H d=zIS str r q k v (H.get r q) H d) /\
 (∀ {str:Option IntKind}{k v:AV}{r q e g:Nat}{c:Int}{u w:AV}{o:List (List AV)}{H:AH}{d:Nat},zIS str r q k v (some (.row e ([.int .i64 c,u,w]::o) g)) H d=msTo str r q k v e g c u w o (zdj k o 0) H d) /\
 (∀ {str:Option IntKind}{k v:AV}{r q e g i:Nat}{c:Int}{u w x:AV}{o:List (List AV)}{H:AH}{d:Nat},msTo str r q k v e g c u w o (some (some (i,x))) H d =
  ⟨e=3/\g=0/\zia str k,True,.undef,H.set r q (.row 3 ([.int .i64 c,u,w]::o.set i [k,v,(o.getD i []).getD 2 .undef]) 0),d⟩) /\
 (∀ {str:Option IntKind}{k v:AV}{r q e g:Nat}{c:Int}{u w:AV}{o:List (List AV)}{H:AH}{d:Nat},msTo str r q k v e g c u w o (some none) H d =
  ⟨e=3/\g=0/\zia str k/\c<9223372036854775807,True,.undef,H.set r q (.row 3 ([.int .i64 (c+1),u,w]::(o++[[k,v,.int .i64 c]])) 0),d⟩) /\
 (∀{q k:IntKind}{n:Int},zia (some q) (.int k n)=(q=k))/\(∀{s:ByteArray},zia none (.str s)=True) /\
 (∀ {z:AV}{r:Option (Nat×AV)},mgot false z r=mval z r)/\(∀ {z:AV}{r:Option (Nat×AV)},mgot true z r=.tup [mval z r,.bool r.isSome]) /\
 (∀{z v:AV}{i:Nat},mval z (some (i,v))=v)/\(∀{z:AV},mval z none=z) /\
 (∀{r q:Nat},Xd (.mp r q)=[.mp r q])/\(Xd .nilmp=[.nilmp])/\(∀{r:Nat},Xd (.it r)=[.it r]) /\
 (∀{r q:Nat},Xe (.mp r q)=true)/\(Xe .nilmp=true)/\(∀{r:Nat},Xe (.it r)=true) /\
 (∀{r q:Nat},Xb (.mp r q)=True)/\(Xb .nilmp=True)/\(∀{r:Nat},Xb (.it r)=True) /\
 (∀{s:ByteArray}{H:AH}{d:Nat},zxD (.str s) H d=⟨True,s.size<=big,.int .i64 s.size,H,d⟩) /\
 (∀{b:Bool},(!!b)=b):=by
 refine⟨rfl,rfl,rfl,rfl,rfl,rfl,zKs,rfl,rfl,zCc,zHc,rfl,zHf,rfl,rfl,rfl,rfl,rfl,?_,rfl,?_,?_,?_,?_,rfl,@λe r q g off n k k' b c H d=>zKm (k:=k) (k':=k'),rfl,rfl,rfl,zFa,rfl,rfl,zHG,rfl,rfl,rfl,rfl,rfl,rfl,rfl,rfl,rfl,rfl,rfl,rfl,rfl,rfl,rfl,rfl,rfl,rfl,rfl,by simp⟩
 .intro neg A a b H d;show eqsR neg A (.agg a) (.agg b) H d=_;unfold eqsR eqTo;simp only;cases h:z6 A a b<;>simp only[h]
 .simp[z6]
 .intro s k a b l m;simp[z6]
 .intro s a b l m;simp[z6]
 .intro s a b l m;simp[z6]
section
variable {H HH:AH}{σ:Nat->Nat->Option (Nat×Nat×Nat)}{D:Nat->Nat->Prop}{t:Bool}
theorem zFU{k k'}{n m}:Vw H HH σ D t (.int k n) (.int k' m)=(k=k'/\n=m):=by refine propext ⟨λh=>by cases h;exact⟨rfl,rfl⟩,?_⟩;rintro⟨rfl,rfl⟩;exact .int _ _ _
theorem zDp{a b}:Vw H HH σ D t (.bool a) (.bool b)=(a=b):=by refine propext ⟨λh=>by cases h;rfl,?_⟩;rintro rfl;exact .bool _ _
theorem zFQ{r q g o n r' q' g' o' n'}:Vw H HH σ D true (.own r q g o n) (.own r' q' g' o' n')=((σ r' q'=some (r,q,g-g')/\g'<=g)/\o=o'/\n=n'):=by
 refine propext ⟨λh=>?_,?_⟩
 .cases h;rename_i d e c;subst c;exact⟨⟨by rw[e,WA],by omega⟩,rfl,rfl⟩
 .rintro⟨⟨b,j⟩,rfl,rfl⟩;exact .own r q g (g-g') o n r' q' g' b (by omega)
theorem zGa{r q g i f r' q' g' i' f'}:Vw H HH σ D true (.ptr r q g i f) (.ptr r' q' g' i' f')=((σ r' q'=some (r,q,g-g')/\g'<=g)/\i=i'/\f=f'):=by
 refine propext ⟨λh=>?_,?_⟩
 .cases h;rename_i d e c;subst c;exact⟨⟨by rw[e,WA],by omega⟩,rfl,rfl⟩
 .rintro⟨⟨b,j⟩,rfl,rfl⟩;exact .ptr r q g (g-g') i f r' q' g' b (by omega)
def VwL(H HH:AH)(σ:Nat->Nat->Option (Nat×Nat×Nat))(D:Nat->Nat->Prop)(t:Bool):List AV->List AV->Prop
 |[],[]=>True
 |a::l,b::m=>Vw H HH σ D t a b/\VwL H HH σ D t l m
 |_,_=>False
theorem VwL.get:∀{l m:List AV},VwL H HH σ D t l m->l.length=m.length/\∀(i:Nat)(a b:AV),l[i]?=some a->m[i]?=some b->Vw H HH σ D t a b
 |[],[],_=>⟨rfl,λi a b h=>by cases h⟩
 |
  a::l,b::m,h=>by
  obtain⟨e,g⟩:=VwL.get h.2;refine⟨by simp[e],λi x y c d=>?_⟩
  cases i with
  |zero=>cases c;cases d;exact h.1
  |succ i=>exact g i x y (by simpa using c) (by simpa using d)
 |[],b::m,h=>h.elim
 |a::l,[],h=>h.elim
theorem VwL.of:∀{l m:List AV},l.length=m.length->(∀(i:Nat)(a b:AV),l[i]?=some a->m[i]?=some b->Vw H HH σ D t a b)->VwL H HH σ D t l m
 |[],[],_,_=>trivial
 |a::l,b::m,h,c=>⟨c 0 a b rfl rfl,VwL.of (by simpa using h) (λi x y d e=>c (i+1) x y (by simpa using d) (by simpa using e))⟩
 |[],b::m,h,_=>by cases h
 |a::l,[],h,_=>by cases h
theorem zGV{f b:Fn}{l m}:Vw H HH σ D t (.fn f l) (.fn b m)=(f=b/\VwL H HH σ D t l m):=by
 refine propext ⟨λh=>?_,?_⟩
 .cases h with
  |fn _ _ _ _ c h=>exact⟨rfl,VwL.of c h⟩
 .rintro⟨rfl,h⟩;exact .fn _ _ _ _ h.get.1 h.get.2
theorem zFH{l m}:Vw H HH σ D t (.agg l) (.agg m)=VwL H HH σ D t l m:=by
 refine propext ⟨λh=>?_,λh=>.agg _ _ _ h.get.1 h.get.2⟩
 cases h with
 |agg _ _ _ b h=>exact VwL.of b h
theorem zF4{l m}:Vw H HH σ D t (.tup l) (.tup m)=VwL H HH σ D t l m:=by
 refine propext ⟨λh=>?_,λh=>.tup _ _ _ h.get.1 h.get.2⟩
 cases h with
 |tup _ _ _ b h=>exact VwL.of b h
theorem zFy{r' q' g' o n}:Vw H HH σ D true .nilsl (.own r' q' g' o n)=(σ r' q'=none/\(∃b,HH.get r' q'=some (.row b [] 0))/\g'=0/\o=0/\n=0):=by
 refine propext ⟨λh=>?_,?_⟩
 .cases h with
  |new _ _ b e d=>exact⟨e,⟨b,d⟩,rfl,rfl,rfl⟩
 .rintro⟨h1,⟨b,c⟩,rfl,rfl,rfl⟩;exact .new _ _ b h1 c
def zJs(H HH:AH)(σ:Nat->Nat->Option (Nat×Nat×Nat))(D:Nat->Nat->Prop)(h:Nat)(b:List (List AV))(g:Nat)(o:Option AObj):Prop:=match o with
 |some (.row d c e)=>(d=h/\e=g)/\RowV H HH σ D c b
 |_=>False
def zIl(H HH:AH)(h:Tab)(e:List Nat)(g:Nat)(b:List (List AV))(c:Nat):Option (Nat×Nat)->Prop
 |some (r,d)=>zJs H HH h.sig (inD e) g b (c+d) (H.get r 0)
 |none=>b=[]/\c=0
theorem zzc{c}{ds}{n e sz g2}{els2}{u}:
  zoI H HH c ds n ((e,.row sz els2 g2)::u)=(e<n/\zIl H HH c ds sz els2 g2 (c.at e)/\zoI H HH c ds n u):=by
 simp only[zoI,Wl];congr 2
 cases c.at e with
 |none=>rfl
 |some p=>
  obtain⟨r,d⟩:=p;simp only[zIl,zJs];refine propext ⟨?_,λh=>?_⟩
  .rintro⟨b,j,k⟩;rw[j];exact⟨⟨rfl,rfl⟩,k⟩
  .cases g:H.get r 0 with
   |none=>rw[g]at h;exact h.elim
   |some o=>
    rw[g]at h
    cases o with
    |fam _ _=>exact h.elim
    |row sz' b g'=>obtain⟨⟨rfl,rfl⟩,h⟩:=h;exact⟨b,rfl,h⟩
theorem znd{b}(h:∀c∈b,zR c=true):RowV H HH σ D b b:=by refine⟨rfl,λi d k=>?_⟩;refine⟨d,k,rfl,λj x y e g=>?_⟩;rw[e]at g;cases g;exact zcL (zdK (h d (Wj k)) e)
theorem zn7{b}(h:∀c∈b,zR c=true):RowV H HH σ D b b=True:=eq_true (znd h)
def zA(b:List (List AV)):Prop:=∀c∈b,zR c=true
theorem zl2:zA []=True:=by simp[zA]
theorem zj9{c}{l}:zA (c::l)=(zR c=true/\zA l):=by simp[zA]
theorem zkE{l m}:zA (l++m)=(zA l/\zA m):=by unfold zA;simp only[List.mem_append,eq_iff_iff];exact⟨λh=>⟨λc b=>h c (.inl b),λc b=>h c (.inr b)⟩,λh c b=>b.elim (h.1 c) (h.2 c)⟩
theorem zo5{α:Type}{f:α->List AV}{l:List α}:zA (l.map f)=∀a∈l,zR (f a)=true:=by simp[zA]
theorem zpz{n}{c}(h:zR c=true):zA (Wc n c)=True:=by
 refine eq_true λx b=>?_
 rw[(List.mem_replicate.1 b).2];exact h
theorem zoM{l}{i}{c}(h:zR c=true)(d:zA l):zA (l.set i c)=True:=by
 refine eq_true λx b=>?_
 rcases List.mem_or_eq_of_mem_set b with b|rfl
 .exact d x b
 .exact h
theorem zIu{A}{a b}(h:zA A):RowV H HH σ D (A++[a]) (A++[b])=VwL H HH σ D true a b:=by
 refine propext ⟨λq=>?_,λn=>?_⟩
 .obtain⟨c,e,k,o⟩:=q.2 A.length b (by simp);simp at e;subst e;exact VwL.of k.symm o
 .refine⟨by simp,λi m d=>?_⟩;by_cases g:i<A.length
  .rw[WB g]at d;refine⟨m,by rw[WB g];exact d,rfl,λj x y e k=>?_⟩;rw[e]at k;cases k;exact zcL (zdK (h m (Wj d)) e)
  .have p:i=A.length:=by have:=(WC.1 d).1;simp at this;omega
   subst p;simp at d;subst d;exact⟨a,by simp,n.get.1.symm,n.get.2⟩
abbrev cI(n:Int):List AV:=[.int .i64 n]
abbrev cN(n:Nat):List AV:=[.int .i64 (n:Int)]
abbrev cB(b:Bool):List AV:=[.bool b]
theorem zBv:RowV H HH σ D [] []=True:=eq_true (znd (by simp))
theorem zKI{a b}:RowV H HH σ D [a] [b]=VwL H HH σ D true a b:=by
 refine propext ⟨λh=>?_,λh=>?_⟩
 .obtain⟨c,e,g,j⟩:=h.2 0 b rfl;cases e;exact VwL.of g.symm j
 .refine⟨rfl,λi k d=>?_⟩
  cases i with
  |zero=>cases d;exact⟨a,rfl,h.get.1.symm,h.get.2⟩
  |succ i=>simp at d
theorem zLK{r' q'}:Tab.sig [] r' q'=none:=rfl
theorem zJH{a b d c q'}{tb}:Tab.sig ((a,b,d)::tb) c q'=bif a == c then some (b,q',d)else Tab.sig tb c q':=by unfold Tab.sig;simp only[Tab.at,zgc];cases a == c<;>rfl
theorem at_nil{x}:Tab.at [] x=none:=rfl
theorem zIV{a b d x}{tb}:Tab.at ((a,b,d)::tb) x=bif a == x then some (b,d)else Tab.at tb x:=by simp only[Tab.at,zgc]
end
theorem zz9{α β:Type}{f:α->β}{l:List α}:(l.map f).take l.length=l.map f:=by rw[List.take_of_length_le (by simp)]
theorem evU:(∀{α β:Type}{f:α->β}{c:List α},(c.map f).length=c.length)/\(∀{α β:Type}{f:α->β}{l:List α},(l.map f).take l.length=l.map f)/\(∀{α:Type}{l:List α},l.take l.length=l) /\
  (∀n:Nat,n*1=n)/\(∀n:Nat,1*n=n)/\((!true)=false)/\((!false)=true)/\(∀{α β:Type}{f:α->β}{a:α},(some a).map f=some (f a))/\(∀{h:Decidable True},@decide True h=true)/\(∀{h:Decidable False},@decide False h=false) /\
  (∀b:Bool,(false != b)=b)/\(∀b:Bool,(true != b) = !b)/\(∀b:Bool,(b != false)=b)/\(∀b:Bool,(b != true) = !b) :=
 ⟨List.length_map _,zz9,List.take_length,Nat.mul_one,Nat.one_mul,rfl,rfl,rfl,decide_true _,decide_false _,Bool.false_bne,Bool.true_bne,Bool.bne_false,Bool.bne_true⟩
theorem evV:(∀n:Nat,(n<n)=False)/\(∀{α β:Type}{f:α->β}{a b:List α},(a++b).map f=a.map f++b.map f)/\(∀{α β:Type}{f:α->β}{a:α}{l:List α},(a::l).map f=f a::l.map f)/\(∀{α β:Type}{f:α->β},[].map f=[]) /\
  (∀{α:Type}{a b:List α},(a++b).length=a.length+b.length)/\(∀{α:Type}{a:α}{l:List α},(a::l).length=l.length+1)/\(∀{α:Type},([]:List α).length=0)/\(∀{α:Type}{p:α->Bool},[].filter p=[])/\(∀{α:Type}{l:List α},l.take 0=[]) /\
  (∀{α β:Type}{f:α->β}{l:List α},(l.map f).length=l.length)/\(∀{α:Type}{n:Nat}{a:α},(Wc n a).length=n)/\(∀{α:Type}{l:List α}{i:Nat}{a:α},(l.set i a).length=l.length) /\
  (∀a b:Nat,((a+b:Nat):Int)=a+b)/\(∀a:Int,0+a=a)/\(∀n:Nat,n+0=n)/\(∀n:Nat,n-n=0)/\(∀n:Nat,n-0=n) :=
 ⟨λ_=>eq_false (Nat.lt_irrefl _),List.map_append,rfl,rfl,List.length_append,rfl,rfl,rfl,List.take_zero,List.length_map _,List.length_replicate,List.length_set,Int.natCast_add,Int.zero_add,Nat.add_zero,Nat.sub_self,Nat.sub_zero⟩
theorem evW :
 (∀{H e:AH}{w:Tab}{B:List Nat}{K:Kn},zr5 H e w B [] K=True) /\
 (∀{H e:AH}{w:Tab}{B:List Nat}{K:Kn}{j:Nat}{v:AV}{u:Kn},zr5 H e w B ((j,v)::u) K=(Vw H e w.sig (inD B) true (K.get j) v/\zr5 H e w B u K)) /\
 (∀{H e:AH}{w:Tab}{B:List Nat}{n:Nat},zoI H e w B n []=True) /\
 (∀ {H e:AH}{w:Tab}{B:List Nat}{n C y L:Nat}{p:List (List AV)}{u:AH},zoI H e w B n ((C,.row y p L)::u)=(C<n/\zIl H e w B y p L (w.at C)/\zoI H e w B n u)) /\
 (∀ {H e:AH}{w:Tab}{B:List Nat}{y L r d:Nat}{p:List (List AV)},zIl H e w B y p L (some (r,d))=zJs H e w.sig (inD B) y p (L+d) (H.get r 0)) /\
 (∀ {H e:AH}{w:Tab}{B:List Nat}{y L:Nat}{p:List (List AV)},zIl H e w B y p L none=(p=[]/\L=0)) /\
 (∀ {H e:AH}{σ:Nat->Nat->Option (Nat×Nat×Nat)}{D:Nat->Nat->Prop}{y g N J:Nat}{I p:List (List AV)},zJs H e σ D y p g (some (.row N I J))=((N=y/\J=g)/\RowV H e σ D I p)) /\
 (∀ {H e:AH}{σ:Nat->Nat->Option (Nat×Nat×Nat)}{D:Nat->Nat->Prop},RowV H e σ D [] []=True) /\
 (∀ {H e:AH}{σ:Nat->Nat->Option (Nat×Nat×Nat)}{D:Nat->Nat->Prop}{A:List (List AV)}{a b:List AV},zA A->RowV H e σ D (A++[a]) (A++[b])=VwL H e σ D true a b) /\
 (∀ {H e:AH}{σ:Nat->Nat->Option (Nat×Nat×Nat)}{D:Nat->Nat->Prop}{I:List (List AV)},zA I->RowV H e σ D I I=True) /\
 (zA []=True)/\(∀ {c:List AV}{l:List (List AV)},zA (c::l)=(zR c=true/\zA l))/\(∀ {l m:List (List AV)},zA (l++m)=(zA l/\zA m)) /\
 (∀{α:Type}{f:α->List AV}{l:List α},zA (l.map f)=∀a∈l,zR (f a)=true)/\(∀{n:Nat}{c:List AV},zR c=true->zA (Wc n c)=True) /\
 (∀ {l:List (List AV)}{i:Nat}{c:List AV},zR c=true->zA l->zA (l.set i c)=True) /\
 (∀ {H e:AH}{σ:Nat->Nat->Option (Nat×Nat×Nat)}{D:Nat->Nat->Prop}{t:Bool}{a:AV},a.flat0=true->Vw H e σ D t a a=True) /\
 (∀ {H e:AH}{σ:Nat->Nat->Option (Nat×Nat×Nat)}{D:Nat->Nat->Prop}{a b:List AV},RowV H e σ D [a] [b]=VwL H e σ D true a b) /\
 (∀ {H e:AH}{σ:Nat->Nat->Option (Nat×Nat×Nat)}{D:Nat->Nat->Prop}{t:Bool},VwL H e σ D t [] []=True) /\
 (∀ {H e:AH}{σ:Nat->Nat->Option (Nat×Nat×Nat)}{D:Nat->Nat->Prop}{t:Bool}{a b:AV}{l m:List AV},VwL H e σ D t (a::l) (b::m)=(Vw H e σ D t a b/\VwL H e σ D t l m)) /\
 (∀ {H e:AH}{σ:Nat->Nat->Option (Nat×Nat×Nat)}{D:Nat->Nat->Prop}{t:Bool}{k P:IntKind}{n m:Int},Vw H e σ D t (.int k n) (.int P m)=(k=P/\n=m)) /\
 (∀ {H e:AH}{σ:Nat->Nat->Option (Nat×Nat×Nat)}{D:Nat->Nat->Prop}{t:Bool}{a b:Bool},Vw H e σ D t (.bool a) (.bool b)=(a=b)) /\
 (∀ {H e:AH}{σ:Nat->Nat->Option (Nat×Nat×Nat)}{D:Nat->Nat->Prop}{r q g o n C F J R Q:Nat},Vw H e σ D true (.own r q g o n) (.own C F J R Q)=((σ C F=some (r,q,g-J)/\J<=g)/\o=R/\n=Q)) /\
 (∀ {H e:AH}{σ:Nat->Nat->Option (Nat×Nat×Nat)}{D:Nat->Nat->Prop}{r q g i f C F J O M:Nat},Vw H e σ D true (.ptr r q g i f) (.ptr C F J O M)=((σ C F=some (r,q,g-J)/\J<=g)/\i=O/\f=M)) /\
 (∀ {H e:AH}{σ:Nat->Nat->Option (Nat×Nat×Nat)}{D:Nat->Nat->Prop}{t:Bool}{f M:Fn}{l m:List AV},Vw H e σ D t (.fn f l) (.fn M m)=(f=M/\VwL H e σ D t l m)) /\
 (∀ {H e:AH}{σ:Nat->Nat->Option (Nat×Nat×Nat)}{D:Nat->Nat->Prop}{t:Bool}{l m:List AV},Vw H e σ D t (.agg l) (.agg m)=VwL H e σ D t l m) /\
 (∀ {H e:AH}{σ:Nat->Nat->Option (Nat×Nat×Nat)}{D:Nat->Nat->Prop}{t:Bool}{l m:List AV},Vw H e σ D t (.tup l) (.tup m)=VwL H e σ D t l m) /\
 (∀ {H e:AH}{σ:Nat->Nat->Option (Nat×Nat×Nat)}{D:Nat->Nat->Prop}{C F J o n:Nat},Vw H e σ D true .nilsl (.own C F J o n)=(σ C F=none/\(∃y,e.get C F=some (.row y [] 0))/\J=0/\o=0/\n=0)) /\
 (∀ {H e:AH}{σ:Nat->Nat->Option (Nat×Nat×Nat)}{D:Nat->Nat->Prop}{t:Bool}{a:AV},Vw H e σ D t a .undef=True) /\
 (∀ {H e:AH}{σ:Nat->Nat->Option (Nat×Nat×Nat)}{D:Nat->Nat->Prop}{t:Bool},Vw H e σ D t .nilsl .nilsl=True) /\
 (∀ {H e:AH}{σ:Nat->Nat->Option (Nat×Nat×Nat)}{D:Nat->Nat->Prop}{t:Bool},Vw H e σ D t .nilfn .nilfn=True) /\
 (∀ {H e:AH}{σ:Nat->Nat->Option (Nat×Nat×Nat)}{D:Nat->Nat->Prop}{t:Bool},Vw H e σ D t .nilp .nilp=True) /\
 (∀ {H e:AH}{σ:Nat->Nat->Option (Nat×Nat×Nat)}{D:Nat->Nat->Prop}{t:Bool},Vw H e σ D t .cut .cut=True) /\
 (∀ {H e:AH}{σ:Nat->Nat->Option (Nat×Nat×Nat)}{D:Nat->Nat->Prop}{t:Bool}{s:ByteArray},Vw H e σ D t (.str s) (.str s)=True) /\
 (∀ {H e:AH}{σ:Nat->Nat->Option (Nat×Nat×Nat)}{D:Nat->Nat->Prop}{t:Bool}{n:Nat}{c:Nat->AV},Vw H e σ D t (.iptr n c) (.iptr n c)=True) /\
 (∀ {H e:AH}{σ:Nat->Nat->Option (Nat×Nat×Nat)}{D:Nat->Nat->Prop}{t:Bool}{y n:Nat}{f:Nat->Nat->AV},Vw H e σ D t (.sl y n f) (.sl y n f)=True) /\
 (∀ {H e:AH}{σ:Nat->Nat->Option (Nat×Nat×Nat)}{D:Nat->Nat->Prop}{t:Bool}{α:Type}{y:Nat}{f:α->List AV}{l:List α},Vw H e σ D t (encL y f l) (encL y f l)=True) /\
 (∀ {H e:AH}{σ:Nat->Nat->Option (Nat×Nat×Nat)}{D:Nat->Nat->Prop}{t:Bool}{α:Type}{y:Nat}{f:α->List AV},Vw H e σ D t .nilsl (encL y f [])=True) /\
 (∀{C F:Nat},Tab.sig [] C F=none) /\
 (∀{a b d C F:Nat}{w:Tab},Tab.sig ((a,b,d)::w) C F=bif a == C then some (b,F,d)else Tab.sig w C F) /\
 (∀{x:Nat},Tab.at [] x=none) /\
 (∀{a b d x:Nat}{w:Tab},Tab.at ((a,b,d)::w) x=bif a == x then some (b,d)else Tab.at w x) /\
 (∀{B:List Nat}{r q:Nat},inD B r q=(memN B r=true)):=by
 refine⟨rfl,rfl,rfl,zzc,rfl,rfl,rfl,zBv,zIu,zn7,zl2,zj9,zkE,zo5,zpz,zoM,λh=>eq_true (zcL h),zKI,rfl,rfl,zFU,zDp,zFQ,zGa,zGV,zFH,zF4,zFy,eq_true (.undef _ _),eq_true (.nilsl _),eq_true (.nilfn _),eq_true (.nilp _),eq_true (.cut _),eq_true (.str _ _),eq_true (.iptr _ _ _),eq_true (.sl _ _ _ _),eq_true (.sl _ _ _ _),eq_true zj,zLK,zJH,at_nil,zIV,rfl⟩
def Tab.to(d:Tab)(b r:Nat):Nat:=match d.at r with
 |some (c,_)=>c
 |none=>b+r
def AH.renL(ρ:Nat->Nat):AH->AH
 |[]=>[]
 |(r,o)::t=>(ρ r,o.ren ρ)::AH.renL ρ t
def AH.cutL(b:List Nat):AH->AH
 |[]=>[]
 |(r,o)::t=>bif memN b r then AH.cutL b t else(r,o)::AH.cutL b t
def AH.over(H:AH)(b:Tab)(d:Nat)(c:AH):AH:=H.cutL (b.map (·.2.1))++c.renL (b.to d)
def Tab.plain(b:Nat):Tab->Bool
 |[]=>true
 |(c,r,d)::t=>Wk r b&&Wa d 0 && !(memN (t.map (·.1)) c)&&Tab.plain b t
theorem Tab.plain_at{nx}:∀{t:Tab},t.plain nx=true->∀{x r d},t.at x=some (r,d)->r<nx/\d=0
 |[],_,x,r,d,h=>by cases h
 |
  (r',r0,d0)::t,h,x,r,d,b=>by
  simp only[Tab.plain,Wf]at h;obtain⟨⟨⟨e,g⟩,_⟩,h3⟩:=h;simp only[Tab.at]at b
  cases c:Wa r' x with
  |true=>rw[c]at b;cases b;exact⟨by simpa [Wl]using e,zH g⟩
  |false=>rw[c]at b;exact Tab.plain_at h3 b
theorem Tab.at_mem:∀{t:Tab}{x r d},t.at x=some (r,d)->x∈t.map (·.1)/\r∈t.map (·.2.1)
 |[],x,r,d,h=>by cases h
 |
  (r',r0,d0)::t,x,r,d,h=>by
  simp only[Tab.at]at h
  cases b:Wa r' x with
  |true=>rw[b]at h;cases h;rw[<-zH b];simp
  |false=>rw[b]at h;have:=Tab.at_mem h;exact⟨by simp only[Wm,Wo];exact .inr this.1,by simp only[Wm,Wo];exact .inr this.2⟩
theorem Tab.at_of_old{nx}:∀{t:Tab},t.plain nx=true->∀{r},r∈t.map (·.2.1)->∃x d,t.at x=some (r,d)
 |[],_,r,h=>by cases h
 |
  (g,r0,j)::t,h,r,b=>by
  simp only[Tab.plain,Wf,Wt]at h;obtain⟨⟨_,k⟩,h3⟩:=h;simp only[Wm,Wo]at b;rcases b with rfl|b
  .exact⟨g,j,by simp[Tab.at]⟩
  .obtain⟨x,d,c⟩:=Tab.at_of_old h3 b;refine⟨x,d,?_⟩;have:g≠x:=λe=>by have:=(zaq _ _).2 (Tab.at_mem c).1;rw[<-e,k]at this;cases this
   simp only[Tab.at];rw[zfm this];exact c
section
variable {tb:Tab}{nx nx0:Nat}{H H0:AH}
theorem Tab.to_inj(g:tb.ok nx0 []=true)(j:tb.plain nx=true){x y}(h:tb.to nx x=tb.to nx y):x=y:=by
 unfold Tab.to at h
 cases c:tb.at x with
 |none=>
  cases b:tb.at y with
  |none=>rw[c,b]at h;simp only at h;omega
  |some p=>rw[c,b]at h;have:=(Tab.plain_at j (d:=p.2) b).1;simp only at h;omega
 |some p=>
  cases b:tb.at y with
  |none=>rw[c,b]at h;have:=(Tab.plain_at j (d:=p.2) c).1;simp only at h;omega
  |some p'=>rw[c,b]at h;simp only at h;exact Tab.ok_inj g (d:=p.2) (e:=p'.2) c (by rw[b,h])
theorem AH.look_append(A B:AH)(r:Nat):Xa (A++B) r=match A.look r with
  |some o=>some o
  |none=>B.look r:=by
 induction A with
 |nil=>rfl
 |cons p t ih=>obtain⟨j,o⟩:=p;simp only[Wz,Xa,ih];cases Wa j r<;>rfl
theorem AH.look_cutL(l:List Nat)(H:AH)(r:Nat):(H.cutL l).look r=bif memN l r then none else H.look r:=by
 induction H with
 |nil=>simp only[AH.cutL,Xa];cases memN l r<;>rfl
 |cons p t ih=>
  obtain⟨j,o⟩:=p;simp only[AH.cutL]
  cases c:memN l j with
  |true=>
   simp only[cond_true,ih,Xa]
   cases b:Wa j r with
   |true=>rw[<-zH b,c];rfl
   |false=>rfl
  |false=>
   simp only[cond_false,Xa,ih]
   cases b:Wa j r with
   |true=>rw[<-zH b,c];rfl
   |false=>rfl
theorem AH.look_renL{ρ}(b:∀x y,ρ x=ρ y->x=y)(H:AH)(r:Nat):(H.renL ρ).look (ρ r)=(H.look r).map (AObj.ren ρ):=by
 induction H with
 |nil=>rfl
 |cons p t ih=>
  obtain⟨j,o⟩:=p;simp only[AH.renL,Xa,ih];by_cases h:j=r
  .subst h;simp
  .rw[zfm h,zfm (λe=>h (b _ _ e))];rfl
theorem AH.look_renL_no{ρ}(H:AH)(x:Nat)(b:∀r,ρ r≠x):(H.renL ρ).look x=none:=by
 induction H with
 |nil=>rfl
 |cons p t ih=>obtain⟨j,o⟩:=p;simp only[AH.renL,Xa,ih];rw[zfm (b j)];rfl
theorem AH.over_in(b:tb.ok nx0 []=true)(g:tb.plain nx=true)(c:∀r o,H.look r=some o->r<nx)(r q):
  (H.over tb nx H0).get (tb.to nx r) q=(H0.get r q).map (AObj.ren (tb.to nx)):=by
 unfold Xi AH.over;rw[AH.look_append,AH.look_cutL,AH.look_renL (λx y h=>Tab.to_inj b g h)]
 have:(bif memN (tb.map (·.2.1)) (tb.to nx r)then none else H.look (tb.to nx r))=none:=by
  unfold Tab.to
  cases j:tb.at r with
  |some p=>simp only;rw[(zaq _ _).2 (Tab.at_mem (d:=p.2) j).2];rfl
  |none=>
   simp only
   cases e:H.look (nx+r)with
   |none=>cases memN (tb.map (·.2.1)) (nx+r)<;>rfl
   |some o=>have:=c _ _ e;omega
 rw[this];simp only
 cases H0.look r with
 |none=>rfl
 |some o=>simp[AObj.part_ren]
theorem AH.over_out(r q)(e:tb.plain nx=true)(b:∀h,tb.to nx h≠r):(H.over tb nx H0).get r q=H.get r q:=by
 unfold Xi AH.over;rw[AH.look_append,AH.look_cutL,AH.look_renL_no _ _ b]
 have:memN (tb.map (·.2.1)) r=false:=by
  cases c:memN (tb.map (·.2.1)) r with
  |false=>rfl
  |true=>obtain⟨x,d,g⟩:=Tab.at_of_old e ((zaq _ _).1 c);exact absurd (by unfold Tab.to;rw[g]) (b x)
 rw[this];simp only[cond_false];cases H.look r<;>rfl
theorem AH.over_lt(j:tb.ok nx0 []=true)(m:tb.plain nx=true)(s:∀r o,H.look r=some o->r<nx){nx'}(n:∀r o,H0.look r=some o->r<nx')(r)(o)(h:(H.over tb nx H0).look r=some o):r<nx+nx':=by
 unfold AH.over at h;rw[AH.look_append,AH.look_cutL]at h
 cases k:H.look r with
 |some u=>have:=s _ _ k;omega
 |none=>
  rw[k]at h;have c:(H0.renL (tb.to nx)).look r=some o:=by cases t:memN (tb.map (·.2.1)) r<;>rw[t]at h<;>exact h
  by_cases g:∃b,tb.to nx b=r
  .obtain⟨b,rfl⟩:=g;rw[AH.look_renL (λx y h=>Tab.to_inj j m h)]at c;obtain⟨v,q,_⟩:=We.1 c;have:=n _ _ q;unfold Tab.to
   cases g:tb.at b with
   |none=>simp only;omega
   |some p=>have:=(Tab.plain_at m (d:=p.2) g).1;simp only;omega
  .rw[AH.look_renL_no _ _ (λb e=>g ⟨b,e⟩)]at c;cases c
theorem zIo{H H2 HH}{σ}{t}{a b}(h:Vw H HH σ (inD []) t a b):Vw H2 HH σ (inD []) t a b:=by
 induction h with
 |undef=>exact .undef _ _
 |int=>exact .int _ _ _
 |bool=>exact .bool _ _
 |str=>exact .str _ _
 |nilp=>exact .nilp _
 |nilfn=>exact .nilfn _
 |cut=>exact .cut _
 |mp=>exact .mp _ _ _ _ ‹_›
 |nilmp=>exact .nilmp _
 |it=>exact .it _ _ ‹_›
 |nilsl=>exact .nilsl _
 |iptr=>exact .iptr _ _ _
 |sl=>exact .sl _ _ _ _
 |nil0=>exact .nil0 _ _ _
 |slf _ _ _ _ _ _ c=>exact .slf _ _ _ _ _ c
 |iptrf _ _ _ _ _ c=>exact .iptrf _ _ _ _ c
 |own=>exact .own _ _ _ _ _ _ _ _ _ ‹_› ‹_›
 |ptr=>exact .ptr _ _ _ _ _ _ _ _ _ ‹_› ‹_›
 |new=>exact .new _ _ _ ‹_› ‹_›
 |frz=>rename_i e _ _ _ _ _;cases e
 |frzp=>rename_i e _ _ _ _ _;cases e
 |fn _ _ _ _ d _ c=>exact .fn _ _ _ _ d c
 |agg _ _ _ d _ c=>exact .agg _ _ _ d c
 |tup _ _ _ d _ c=>exact .tup _ _ _ d c
end
section
variable {P:Program}{L:Nat->Prop}{H H0 H':AH}{nx nx0 nx':Nat}{tb:Tab}
def othr(ι:Inj)(H:AH)(tb:Tab)(nx b:Nat):Prop:=∃r q e c g l,(∀d,tb.to nx d≠r)/\H.get r q=some (.row e c g)/\ι r q g=some l/\0<l.cap*l.sz/\l.block=b
def AH.keepL(l:List Nat):AH->AH
 |[]=>[]
 |(r,o)::t=>bif memN l r then(r,o)::AH.keepL l t else AH.keepL l t
theorem AH.look_keepL(l:List Nat)(H:AH)(r:Nat):(H.keepL l).look r=bif memN l r then H.look r else none:=by
 induction H with
 |nil=>simp only[AH.keepL,Xa];cases memN l r<;>rfl
 |cons p t ih=>
  obtain⟨j,o⟩:=p;simp only[AH.keepL]
  cases c:memN l j with
  |true=>
   simp only[cond_true,Xa,ih]
   cases b:Wa j r with
   |true=>rw[<-zH b,c];rfl
   |false=>rfl
  |false=>
   simp only[cond_false,ih,Xa]
   cases b:Wa j r with
   |true=>rw[<-zH b,c];rfl
   |false=>rfl
theorem AH.get_keepL(l:List Nat)(H:AH)(r q:Nat):(H.keepL l).get r q=bif memN l r then H.get r q else none:=by unfold Xi;rw[AH.look_keepL];cases memN l r<;>rfl
theorem zLs(e:tb.plain nx=true){r}(c:r<nx):memN (tb.map (·.2.1)) r=true↔∃g,tb.to nx g=r:=by
 constructor
 .intro h;obtain⟨x,d,b⟩:=Tab.at_of_old e ((zaq _ _).1 h);exact⟨x,by unfold Tab.to;rw[b]⟩
 .rintro⟨x,rfl⟩;unfold Tab.to at c⊢
  cases b:tb.at x with
  |none=>rw[b]at c;simp only at c;omega
  |some p=>exact(zaq _ _).2 (Tab.at_mem (d:=p.2) b).2
open Classical in
noncomputable def zqr(ι b:Inj)(tb:Tab)(nx:Nat):Inj:=λr q g=>if h:∃c,tb.to nx c=r then b h.choose q g else ι r q g
theorem zKR(b:tb.ok nx0 []=true)(c:tb.plain nx=true)(ι ι')(r q g):zqr ι ι' tb nx (tb.to nx r) q g=ι' r q g:=by unfold zqr;have h:∃d,tb.to nx d=tb.to nx r:=⟨r,rfl⟩;rw[dif_pos h,Tab.to_inj b c h.choose_spec]
theorem zGZ(ι ι')(r q g)(c:∀b,tb.to nx b≠r):zqr ι ι' tb nx r q g=ι r q g:=by unfold zqr;rw[dif_neg (λ⟨b,h⟩=>c b h)]
variable {w w':World}{ι:Inj}
theorem ziA(p:tb.plain nx=true)(rel:RelH w L ι H nx)(b):live ι H b↔othr ι H tb nx b\/live ι (H.keepL (tb.map (·.2.1))) b:=by
 constructor
 .rintro⟨r,q,k,c,g,l,d,h,j,rfl⟩;have s:=rel.idx _ _ _ _ h;by_cases o:∃m,tb.to nx m=r
  .refine .inr ⟨r,q,k,c,g,l,?_,h,j,rfl⟩;rw[AH.get_keepL,(zLs p s).2 o];exact d
  .exact .inl ⟨r,q,k,c,g,l,λm e=>o ⟨m,e⟩,d,h,j,rfl⟩
 .rintro(⟨r,q,k,c,g,l,_,d,h,j,rfl⟩|⟨r,q,k,c,g,l,d,h,j,rfl⟩)
  .exact⟨r,q,k,c,g,l,d,h,j,rfl⟩
  .rw[AH.get_keepL]at d
   cases n:memN (tb.map (·.2.1)) r with
   |false=>rw[n]at d;cases d
   |true=>rw[n]at d;exact⟨r,q,k,c,g,l,d,h,j,rfl⟩
theorem RelH.keep(n:tb.plain nx=true)(rel:RelH w L ι H nx):
  (∀b,Lt (λb=>L b\/othr ι H tb nx b) ι (H.keepL (tb.map (·.2.1))) b↔Lt L ι H b)/\RelH w (λb=>L b\/othr ι H tb nx b) ι (H.keepL (tb.map (·.2.1))) nx:=by
 have k:∀b,Lt (λb=>L b\/othr ι H tb nx b) ι (H.keepL (tb.map (·.2.1))) b↔Lt L ι H b:=by intro b;simp only[Lt,ziA n rel b,or_assoc]
 have c:∀{r q o},(H.keepL (tb.map (·.2.1))).get r q=some o->H.get r q=some o/\memN (tb.map (·.2.1)) r=true:=by
  intro r q o h;rw[AH.get_keepL]at h
  cases m:memN (tb.map (·.2.1)) r with
  |false=>rw[m]at h;cases h
  |true=>rw[m]at h;exact⟨h,rfl⟩
 refine⟨k,λr q y j g h=>?_,λZ W r2 X s1 M Q T s2 N R U p s=>rel.apart _ _ _ _ _ _ _ _ _ _ _ _ (c p).1 (c s).1,λb d t=>?_,rel.idx,λr o h=>?_,λr q y j g h=>rel.gen _ _ _ _ _ (c h).1,λb d=>?_⟩
 .have:Lt (λb=>L b\/othr ι H tb nx b) ι (H.keepL (tb.map (·.2.1)))=Lt L ι H:=by funext b;exact propext (k b)
  rw[this];exact rel.row _ _ _ _ _ (c h).1
 .rcases t with t|⟨r,q,y,j,g,l,p,s,x,A,B⟩
  .exact rel.out b ((ziA n rel b).2 (.inr d)) t
  .obtain⟨Y,V,K,v,O,S,u,C,D,F⟩:=d;obtain⟨u,I⟩:=c u;obtain⟨rfl,rfl⟩:=rel.apart _ _ _ _ _ _ _ _ _ _ _ _ s u x C A D (B.trans F.symm);obtain⟨J,e⟩:=(zLs n (rel.idx _ _ _ _ x)).1 I;exact p J e
 .rw[AH.look_keepL]at h
  cases m:memN (tb.map (·.2.1)) r with
  |false=>rw[m]at h;cases h
  |true=>rw[m]at h;exact rel.dom _ _ h
 .rcases d with d|d
  .exact rel.Lsz b d
  .exact rel.live_lt ((ziA n rel b).2 (.inl d))
theorem Step.over(hok:tb.ok nx0 []=true)(Q:tb.plain nx=true)(rel:RelH w L ι H nx){ι0 ι'}(h0:∀r q g l,ι (tb.to nx r) q g=some l->tb.at r≠none->ι0 r q g=some l)(hl0:∀b,live ι0 H0 b->live ι (H.keepL (tb.map (·.2.1))) b)(I:Step w (λb=>L b\/othr ι H tb nx b) ι0 H0 nx0 w' ι' H' nx') :
  Step w L ι H nx w' (zqr ι ι' tb nx) (H.over tb nx H') (nx+nx')/\∀v a,VR w' (Lt (λb=>L b\/othr ι H tb nx b) ι' H') ι' v a->VR w' (Lt L (zqr ι ι' tb nx) (H.over tb nx H')) (zqr ι ι' tb nx) v (a.ren (tb.to nx)):=by
 have V:=λr q=>AH.over_in (H0:=H') hok Q rel.dom r q
 have D:=λr q t=>AH.over_out (H:=H) (H0:=H') r q Q t
 have F:=zKR hok Q ι ι';have n:=λr q g t=>zGZ (tb:=tb) (nx:=nx) ι ι' r q g t
 have K:∀b,live (zqr ι ι' tb nx) (H.over tb nx H') b↔live ι' H' b\/othr ι H tb nx b:=by
  intro b;constructor
  .rintro⟨r,q,sz,J,g,l,C,u,X,rfl⟩;by_cases B:∃k,tb.to nx k=r
   .obtain⟨k,rfl⟩:=B;rw[V]at C;rw[F]at u;obtain⟨o,Y,N⟩:=We.1 C
    cases o with
    |fam _ _=>cases N
    |row sz0 U g0=>cases N;exact .inl ⟨_,_,_,_,_,_,Y,u,X,rfl⟩
   .have t:∀k,tb.to nx k≠r:=λk e=>B ⟨k,e⟩
    rw[D r q t]at C;rw[n r q g t]at u;exact .inr ⟨r,q,sz,J,g,l,t,C,u,X,rfl⟩
  .rintro(⟨r,q,sz,J,g,l,C,u,X,rfl⟩|⟨r,q,sz,J,g,l,t,C,u,X,rfl⟩)
   .exact⟨tb.to nx r,q,sz,_,g,l,by rw[V,C];rfl,by rw[F];exact u,X,rfl⟩
   .exact⟨r,q,sz,J,g,l,by rw[D r q t];exact C,by rw[n r q g t];exact u,X,rfl⟩
 have hLt:Lt L (zqr ι ι' tb nx) (H.over tb nx H')=Lt (λb=>L b\/othr ι H tb nx b) ι' H':=by
  funext b;apply propext;simp only[Lt,K];constructor
  .rintro(h|h|h)
   .exact .inl (.inl h)
   .exact .inr h
   .exact .inl (.inr h)
  .rintro((h|h)|h)
   .exact .inl h
   .exact .inr (.inr h)
   .exact .inr (.inl h)
 have A:∀b,live ι0 H0 b->live ι H b:=λb m=>(ziA Q rel b).2 (.inr (hl0 b m))
 have M:∀b,b<w.heap.size->¬live ι0 H0 b->w'.heap[b]?=w.heap[b]? := I.ext.block
 have inj:∀r q g l,ι r q g=some l->zqr ι ι' tb nx r q g=some l:=by
  intro r q g l h;by_cases B:∃k,tb.to nx k=r
  .obtain⟨k,rfl⟩:=B;rw[F];refine I.inj _ _ _ _ (h0 _ _ _ _ h λZ=>?_);have:=rel.idx _ _ _ _ h;unfold Tab.to at this;rw[Z]at this;simp only at this;omega
  .rw[n r q g (λk e=>B ⟨k,e⟩)];exact h
 have hnew:∀{v a},VR w' (Lt (λb=>L b\/othr ι H tb nx b) ι' H') ι' v a->VR w' (Lt L (zqr ι ι' tb nx) (H.over tb nx H')) (zqr ι ι' tb nx) v (a.ren (tb.to nx)):=by intro v a h;rw[hLt];exact h.ren (λr q g l h=>by rw[F];exact h)
 have hold:∀{v a},VR w (Lt L ι H) ι v a->VR w' (Lt L (zqr ι ι' tb nx) (H.over tb nx H')) (zqr ι ι' tb nx) v a:=by
  intro v a h;refine h.mono (λb m Z=>⟨M b m λO=>Z (.inr (A b O)),λO=>?_⟩) inj;rw[hLt]at O;rcases O with (O|O)|O
  .exact Z (.inl O)
  .exact Z (.inr ((ziA Q rel b).2 (.inl O)))
  .rcases I.lv b O with O|O
   .exact Z (.inr (A b O))
   .omega
 have W:∀b,othr ι H tb nx b->¬live ι0 H0 b:=λb C u=>(rel.keep Q).2.out b (hl0 b u) (.inr C)
 have lv:∀b,live (zqr ι ι' tb nx) (H.over tb nx H') b->live ι H b\/w.heap.size<=b:=by
  intro b m;rcases(K b).1 m with m|m
  .rcases I.lv b m with m|m
   .exact .inl (A b m)
   .exact .inr m
  .exact .inl ((ziA Q rel b).2 (.inl m))
 refine⟨⟨⟨I.ext.os,I.ext.tape,I.ext.output,I.ext.size,λb m Z=>M b m λh=>Z (A b h)⟩,inj,?_,lv⟩,λv a h=>hnew h⟩;constructor
 .intro r q sz J g h;by_cases B:∃k,tb.to nx k=r
  .obtain⟨k,rfl⟩:=B;rw[V]at h;obtain⟨o,Y,N⟩:=We.1 h
   cases o with
   |fam _ _=>cases N
   |row sz0 U g0=>cases N;obtain⟨l,C,ok⟩:=I.rel.row _ _ _ _ _ Y;refine⟨l,by rw[F];exact C,ok.view (λ_=>rfl) (by simp) (λi c hi=>?_)⟩;rw[Wh]at hi;obtain⟨c0,u,rfl⟩:=We.1 hi;refine⟨c0,u,by simp,λj a a' hj hj' v hv=>?_⟩;rw[Wh,hj]at hj';cases hj';exact hnew hv
  .have t:∀k,tb.to nx k≠r:=λk e=>B ⟨k,e⟩
   rw[D r q t]at h;obtain⟨l,C,ok⟩:=rel.row _ _ _ _ _ h;exact⟨l,by rw[n r q g t];exact C,ok.trans (λQ=>M _ (ok.blk_lt Q) (W _ ⟨r,q,sz,J,g,l,t,h,C,Q,rfl⟩)) (λv a hv=>hold hv)⟩
 .intro r1 q1 r2 q2 s1 e1 g1 l1 s2 e2 g2 l2 C u X Y N h6 h7
  have key:∀r q s e g l,(H.over tb nx H').get r q=some (.row s e g)->zqr ι ι' tb nx r q g=some l->0<l.cap*l.sz ->
    (∃k e0,tb.to nx k=r/\H'.get k q=some (.row s e0 g)/\ι' k q g=some l)\/((∀k,tb.to nx k≠r)/\H.get r q=some (.row s e g)/\ι r q g=some l):=by
   intro r q s e g l R S a3;by_cases B:∃k,tb.to nx k=r
   .obtain⟨k,rfl⟩:=B;rw[V]at R;rw[F]at S;obtain⟨o,a4,a5⟩:=We.1 R
    cases o with
    |fam _ _=>cases a5
    |row sz0 U g0=>cases a5;exact .inl ⟨k,_,rfl,a4,S⟩
   .have t:∀k,tb.to nx k≠r:=λk e=>B ⟨k,e⟩
    rw[D r q t]at R;rw[n r q g t]at S;exact .inr ⟨t,R,S⟩
  have T:∀{r q s e g l r' q' s' e' g' l'},H'.get r q=some (.row s e g)->ι' r q g=some l->0<l.cap*l.sz->(∀k,tb.to nx k≠r')->H.get r' q'=some (.row s' e' g')->ι r' q' g'=some l'->0<l'.cap*l'.sz->l.block=l'.block->False:=by intro r q s e g l r' q' s' e' g' l' R S a3 b0 b1 b2 b3 b4;exact I.rel.out l.block ⟨_,_,_,_,_,_,R,S,a3,rfl⟩ (.inr ⟨_,_,_,_,_,_,b0,b1,b2,b3,b4.symm⟩)
  rcases key _ _ _ _ _ _ C X N with ⟨x,ex,rfl,R,S⟩|⟨a0,R,S⟩
  .rcases key _ _ _ _ _ _ u Y h6 with ⟨y,ey,rfl,b1,b2⟩|⟨b0,b1,b2⟩
   .obtain⟨rfl,rfl⟩:=I.rel.apart _ _ _ _ _ _ _ _ _ _ _ _ R b1 S b2 N h6 h7;exact⟨rfl,rfl⟩
   .exact(T R S N b0 b1 b2 h6 h7).elim
  .rcases key _ _ _ _ _ _ u Y h6 with ⟨y,ey,rfl,b1,b2⟩|⟨b0,b1,b2⟩
   .exact(T b1 b2 h6 a0 R S N h7.symm).elim
   .exact rel.apart _ _ _ _ _ _ _ _ _ _ _ _ R b1 S b2 N h6 h7
 .intro b m hL;rcases(K b).1 m with m|m
  .exact I.rel.out b m (.inl hL)
  .exact rel.out b ((ziA Q rel b).2 (.inl m)) hL
 .intro r q g l h;by_cases B:∃k,tb.to nx k=r
  .obtain⟨k,rfl⟩:=B;rw[F]at h;have:=I.rel.idx _ _ _ _ h;unfold Tab.to
   cases B:tb.at k with
   |none=>simp only;omega
   |some p=>have:=(Tab.plain_at Q (d:=p.2) B).1;simp only;omega
  .rw[n r q g (λk e=>B ⟨k,e⟩)]at h;have:=rel.idx _ _ _ _ h;omega
 .exact λr o h=>AH.over_lt hok Q rel.dom I.rel.dom r o h
 .intro r q sz J g h g2 l u;by_cases B:∃k,tb.to nx k=r
  .obtain⟨k,rfl⟩:=B;rw[V]at h;rw[F]at u;obtain⟨o,Y,N⟩:=We.1 h
   cases o with
   |fam _ _=>cases N
   |row sz0 U g0=>cases N;exact I.rel.gen _ _ _ _ _ Y _ _ u
  .have t:∀k,tb.to nx k≠r:=λk e=>B ⟨k,e⟩
   rw[D r q t]at h;rw[n r q g2 t]at u;exact rel.gen _ _ _ _ _ h _ _ u
 .intro b m;exact Nat.lt_of_lt_of_le (rel.Lsz b m) I.ext.size
theorem zx{f:FuncId}{m n:List AV}{t k:AV->AH->Nat->Prop}(tb:Tab)(nx0:Nat)(H0:AH)(h:z7 P f n H0 nx0 t)(A:tb.ok nx0 []=true)(K:tb.plain nx=true)(Y:zoI H H0 tb [] nx0 H0)(R:VwL H H0 tb.sig (inD []) true m n)(hk:∀v H' nx',t v H' nx'->k (v.ren (tb.to nx)) (H.over tb nx H') (nx+nx')):z7 P f m H nx k:=by
 intro w L ι vs rel F;obtain⟨U,y⟩:=rel.keep K (L:=L);have D:Lt (λb=>L b\/othr ι H tb nx b) ι (H.keepL (tb.map (·.2.1)))=Lt L ι H:=by funext b;exact propext (U b)
 have o:∀{u B r q d},tb.sig u B=some (r,q,d)->tb.at u=some (r,d)/\q=B/\d=0:=by
  intro u B r q d h;unfold Tab.sig at h
  cases s:tb.at u with
  |none=>rw[s]at h;cases h
  |some V=>rw[s]at h;simp only[Wg,Wn]at h;obtain⟨rfl,rfl,rfl⟩:=h;exact⟨rfl,rfl,(Tab.plain_at K (d:=V.2) s).2⟩
 have X:View 0 (H.keepL (tb.map (·.2.1))) H0 nx0 tb.sig (inD []):=by
  refine⟨Wr _,λr q h=>absurd h (Wu _),?_,λ_ _ _ _ _ _ h=>(by cases h),?_,zsS Y,λu B sz C g2 O=>?_⟩
  .intro r1 q1 r2 q2 r q d1 d2 J O;obtain⟨I,M,_⟩:=o J;obtain⟨b1,b2,_⟩:=o O;exact⟨Tab.ok_inj A I b1,by rw[<-M,<-b2]⟩
  .intro u B x h;unfold Tab.sig at h
   cases s:tb.at u with
   |none=>rw[s]at h;cases h
   |some V=>exact(Tab.ok_at A (d:=V.2) s).1
  .rcases zsv Y u B sz C g2 O with ⟨r,q,d,N,I,M,a3⟩|Q
   .refine .inl ⟨r,q,d,N,I,?_,a3.1,λi Z T=>?_⟩
    .rw[AH.get_keepL,(zaq _ _).2 (Tab.at_mem (d:=d) (o I).1).2];exact M
    .obtain⟨c,hc,hl,F⟩:=a3.2 i Z T;exact⟨c,hc,hl,λj a b R S=>zIo (F j a b R S)⟩
   .exact .inr Q
 have args:∀{m n:List AV}{W:List Value},VwL H H0 tb.sig (inD []) true m n->VRs w (Lt L ι H) ι W m->VRs w (Lt (λb=>L b\/othr ι H tb nx b) (zhu H0 tb.sig ι) H0) (zhu H0 tb.sig ι) W n:=by
  intro m n W h F
  induction F generalizing n with
  |nil=>
   cases n with
   |nil=>exact .nil
   |cons b n=>exact h.elim
  |cons J _ ih=>
   cases n with
   |nil=>exact h.elim
   |cons b n=>refine .cons ?_ (ih h.2);rw[<-D]at J;exact X.vr y (zIo h.1) J
 refine(h w _ _ vs (X.rel y) (args R F)).mono λe w' ⟨v,ι',H',nx',a,Q,h4,_,h6,h7⟩=>?_
 have T:∀r q g l,ι (tb.to nx r) q g=some l->tb.at r≠none->zhu H0 tb.sig ι r q g=some l:=by
  intro r q g l h hn;unfold zhu Tab.sig;unfold Tab.to at h
  cases s:tb.at r with
  |none=>exact absurd s hn
  |some p=>rw[s]at h;have:=(Tab.plain_at K (d:=p.2) s).2;simp only[this];exact h
 obtain⟨h8,h9⟩:=Step.over A K rel T (λb S=>X.lv S) h4;exact⟨v,_,_,_,_,Q,h8,Nat.le_add_right _ _,h9 v a h6,hk _ _ _ h7⟩
end
theorem zr7{ρ:Nat->Nat}{a:AV}(h:a.flat0=true):a.ren ρ=a:=by cases a<;>first|(cases h;done)|simp[Xc]
theorem znJ{ρ}:∀{l:List AV},zR l=true->l.map (Xc ρ)=l
 |[],_=>rfl
 |
  a::l,h=>by
  simp only[zR,Wf]at h;rw[Wm,zr7 h.1,znJ h.2]
theorem zgm{ρ}{els}(h:zA els):els.map (λc=>c.map (Xc ρ))=els:=by
 conv=>rhs;rw[<-List.map_id els]
 exact List.map_congr_left λc b=>znJ (h c b)
theorem to_nil{nx r}:Tab.to [] nx r=nx+r:=rfl
theorem zMR{a b d nx r}{tb}:Tab.to ((a,b,d)::tb) nx r=bif a == r then b else Tab.to tb nx r:=by unfold Tab.to;rw[zIV];cases a == r<;>rfl
theorem evZ :
 (∀{j r:Nat},Tab.to [] j r=j+r)/\(∀{a b d j r:Nat}{p:Tab},Tab.to ((a,b,d)::p) j r=bif a == r then b else Tab.to p j r) /\
 (∀{H u:AH}{p:Tab}{j:Nat},H.over p j u=H.cutL (p.map (·.2.1))++u.renL (p.to j)) /\
 (∀{l:List Nat},AH.cutL l []=[])/\(∀{l:List Nat}{r:Nat}{o:AObj}{t:AH},AH.cutL l ((r,o)::t)=bif memN l r then AH.cutL l t else(r,o)::AH.cutL l t) /\
 (∀{ρ:Nat->Nat},AH.renL ρ []=[])/\(∀{ρ:Nat->Nat}{r:Nat}{o:AObj}{t:AH},AH.renL ρ ((r,o)::t)=(ρ r,o.ren ρ)::AH.renL ρ t) /\
 (∀ {ρ:Nat->Nat}{s g:Nat}{k:List (List AV)},zA k->AObj.ren ρ (.row s k g)=.row s k g) /\
 (∀{ρ:Nat->Nat}{s g:Nat}{c:List AV},AObj.ren ρ (.row s [c] g)=.row s [c.map (Xc ρ)] g) /\
 (∀{ρ:Nat->Nat}{a:AV},a.flat0=true->Xc ρ a=a) /\
 (∀{ρ:Nat->Nat}{r q g o n:Nat},Xc ρ (.own r q g o n)=.own (ρ r) q g o n)/\(∀{ρ:Nat->Nat}{r q g o n:Nat},Xc ρ (.ptr r q g o n)=.ptr (ρ r) q g o n) /\
 (∀{ρ:Nat->Nat}{l:List AV},Xc ρ (.agg l)=.agg (l.map (Xc ρ)))/\(∀{ρ:Nat->Nat}{l:List AV},Xc ρ (.tup l)=.tup (l.map (Xc ρ))) /\
 (∀{ρ:Nat->Nat}{f:Fn}{l:List AV},Xc ρ (.fn f l)=.fn f (l.map (Xc ρ))) /\
 (∀{α β:Type}{f:α->β},List.map f []=[])/\(∀{α β:Type}{f:α->β}{a:α}{l:List α},List.map f (a::l)=f a::List.map f l) /\
 (zA []=True)/\(∀ {c:List AV}{l:List (List AV)},zA (c::l)=(zR c=true/\zA l))/\(∀ {l m:List (List AV)},zA (l++m)=(zA l/\zA m)) /\
 (∀{α:Type}{f:α->List AV}{l:List α},zA (l.map f)=∀a∈l,zR (f a)=true)/\(∀{n:Nat}{c:List AV},zR c=true->zA (Wc n c)=True) /\
 (∀ {l:List (List AV)}{i:Nat}{c:List AV},zR c=true->zA l->zA (l.set i c)=True):=by
 refine⟨to_nil,zMR,rfl,rfl,rfl,rfl,rfl,λh=>?_,rfl,zr7,?_,?_,?_,?_,?_,rfl,rfl,zl2,zj9,zkE,zo5,zpz,zoM⟩
 .simp only[AObj.ren];exact congrArg (λe=>AObj.row _ e _) (zgm h)
 all_goals(intros;simp[Xc])
theorem evF :
 (zA []=True)/\(∀ {c:List AV}{l:List (List AV)},zA (c::l)=(zR c=true/\zA l))/\(∀ {l m:List (List AV)},zA (l++m)=(zA l/\zA m)) /\
 (∀{α:Type}{f:α->List AV}{l:List α},zA (l.map f)=∀a∈l,zR (f a)=true)/\(∀{n:Nat}{c:List AV},zR c=true->zA (Wc n c)=True) /\
 (∀ {l:List (List AV)}{i:Nat}{c:List AV},zR c=true->zA l->zA (l.set i c)=True) :=
 ⟨zl2,zj9,zkE,zo5,zpz,zoM⟩
def Tab.idB(t:Tab):Nat->Bool
 |0=>true
 |
  B+1=>(match t.at B with
  |some (r,d)=>Wa r B&&Wa d 0
  |none=>false)&&Tab.idB t B
theorem Tab.idB_at{t:Tab}:∀{B:Nat},t.idB B=true->∀r,r<B->t.at r=some (r,0)
 |0,_,r,h=>absurd h (Wu _)
 |
  B+1,hb,r,h=>by
  simp only[Tab.idB,Wf]at hb;by_cases e:r=B
  .subst e
   cases b:t.at r with
   |none=>rw[b]at hb;simp at hb
   |some p=>obtain⟨a,d⟩:=p;rw[b]at hb;simp only[Wf]at hb;rw[zH hb.1.1,zH hb.1.2]
  .exact Tab.idB_at hb.2 r (by omega)
theorem Ent.tabB{B}{K K2}{H H2}{nx nx2}(t)(ds)(u:Nat.ble B nx2=true)(n:t.idB B=true)(c:t.ok nx2 ds=true)(p:zoI H H2 t ds nx2 H2)(v:zr5 H H2 t ds K2 K):Ent B K H nx K2 H2 nx2:=by
 refine Ent.view t.sig (inD ds) ⟨Ws u,λr q h=>?_,?_,?_,?_,zsS p,zsv p⟩ (ztJ v)
 .unfold Tab.sig;rw[Tab.idB_at n r h]
 .intro A I C J r q D F g j;unfold Tab.sig at g j
  cases b:t.at A with
  |none=>rw[b]at g;cases g
  |some k=>
   cases m:t.at C with
   |none=>rw[m]at j;cases j
   |some w=>rw[b]at g;rw[m]at j;simp only[Wg,Wn]at g j;obtain⟨rfl,rfl,rfl⟩:=g;obtain⟨s,rfl,rfl⟩:=j;refine⟨Tab.ok_inj c (d:=k.2) (e:=w.2) b ?_,rfl⟩;rw[m,<-s]
 .intro o y r q d h;unfold Tab.sig at h
  cases b:t.at o with
  |none=>rw[b]at h;cases h
  |some k=>rw[b]at h;simp only[Wg,Wn]at h;obtain⟨rfl,_,rfl⟩:=h;have:=(Tab.ok_at c (d:=k.2) b).2.1;unfold inD;rw[this];exact Wp
 .intro o y x h;unfold Tab.sig at h
  cases b:t.at o with
  |none=>rw[b]at h;cases h
  |some k=>exact(Tab.ok_at c (d:=k.2) b).1
def zLB(B:Nat)(Q:AV->AH->Nat->Prop)(v:AV)(H:AH)(e:Nat):Prop:=∃d c b,Ent B [(0,v)] H e [(0,d)] c b/\Q d c b
theorem zS{P}{f}{args}{H}{nx}{Q}(h:z7 P f args H nx (zLB nx Q)):z7 P f args H nx Q:=by
 intro w L ι x rel o;refine(h w L ι x rel o).mono λe y ⟨v,ι',H',nx',a,h1,c,h3,h4,v2,H2,nx2,⟨k,m⟩,h7⟩=>?_
 obtain⟨d,p,s,t,u⟩:=m y L ι' #[v] c.rel (λi=>by
  cases i with
  |zero=>exact h4
  |succ i=>exact .undef _ _)
 exact⟨v,d,H2,nx2,v2,h1,⟨c.ext,λr q g l j=>u r q g l (rel.idx _ _ _ _ j) (c.inj _ _ _ _ j),p,λb n=>c.lv b (t b n)⟩,k,s 0,h7⟩
section
variable {α:Type}{c:α->List AV}{sz:Nat}
def fe(F n:Nat)(d:Nat->List α)(b:Nat->Nat):List (List AV):=(Wi n).map λi=>[.own F (i+1) (b i) 0 (d i).length]
def fi(c:α->List AV)(n:Nat)(d:Nat->List α)(b:Nat->Nat):List (List (List AV)×Nat):=(Wi n).map λi=>((d i).map c,b i)
def updF{β:Type}(f:Nat->β)(k:Nat)(v:β):Nat->β:=λi=>if i=k then v else f i
theorem zLn{F n:Nat}{d:Nat->List α}{b:Nat->Nat}:(fe F n d b).length=n:=by simp[fe]
theorem zre{n k}{ll}{gs}(h:k<n):(fi c n ll gs)[k]?=some ((ll k).map c,gs k):=by simp[fi,h]
theorem zfH{β:Type}{f:Nat->β}{n k:Nat}{v:β}:((Wi n).map f).set k v=(Wi n).map (updF f k v):=by
 apply Wy;intro i;rw[List.getElem?_set];by_cases d:k=i
 .subst d;by_cases b:k<n
  .simp[b,updF]
  .simp[b]
 .rw[if_neg d];simp only[Wh];by_cases b:i<n
  .simp[b,updF,Ne.symm d]
  .simp[b]
theorem zwk{n k}{ll}{gs}:(fi c n ll gs)[k]?=if k<n then some ((ll k).map c,gs k)else none:=by
 split
 .exact zre ‹_›
 .simp[fi];omega
variable {H HH:AH}{σ:Nat->Nat->Option (Nat×Nat×Nat)}{D:Nat->Nat->Prop}{t:Bool}
theorem zy3{F d n:Nat}{m:Nat->List α}{e:Nat->Nat}(h:∀i,σ d (i+1)=some (F,i+1,0)):RowV H HH σ D (fe F n m e) (fe d n m e):=by
 refine⟨by simp[zLn],λi q b=>?_⟩;unfold fe at b⊢;simp only[Wh,We]at b⊢;obtain⟨k,p,rfl⟩:=b;refine⟨_,⟨k,p,rfl⟩,rfl,λj x y g o=>?_⟩
 cases j with
 |succ j=>cases g
 |zero=>cases g;cases o;exact .own _ _ _ 0 _ _ _ _ _ (h k) rfl
theorem zCf{F' n}(h:∀i,σ F' (i+1)=none)(m:∀i,i<n->∃sz,HH.get F' (i+1)=some (.row sz [] 0)):RowV H HH σ D (Wc n [.nilsl]) (fe (α:=α) F' n (λ_=>[]) (λ_=>0)):=by
 refine⟨by simp[zLn],λi q d=>?_⟩;unfold fe at d;simp only[Wh,We]at d;obtain⟨k,o,rfl⟩:=d;obtain⟨b,rfl⟩:=WC.1 o;simp at b;refine⟨[.nilsl],by simp[b],rfl,λj x y e g=>?_⟩
 cases j with
 |succ j=>cases e
 |zero=>cases e;cases g;simp only[List.getElem_range,List.length_nil];obtain⟨s,p⟩:=m i b;exact .new _ _ s (h i) p
theorem zGF{F n}{ll}{gs}(h:HH.look F=some (.fam sz (fi c n ll gs))){i}(b:i<n):HH.get F (i+1)=some (.row sz ((ll i).map c) (gs i)):=by unfold Xi;rw[h];simp only[Wx,Xg,zre b,Option.map_some]
theorem zsg{F' n}(h:∀i,σ F' (i+1)=none)(b:HH.look F'=some (.fam sz (fi c n (λ_=>[]) (λ_=>0)))):RowV H HH σ D (Wc n [.nilsl]) (fe (α:=α) F' n (λ_=>[]) (λ_=>0)) :=
 zCf h (λi d=>⟨sz,zGF b d⟩)
def famIs(sz:Nat)(c:α->List AV)(n:Nat)(e:Nat->List α)(b:Nat->Nat)(d:Nat)(o:Option AObj):Prop:=o=some (.fam sz (fi c n e b))/\d=0
def famAt(H:AH)(sz:Nat)(c:α->List AV)(n:Nat)(e:Nat->List α)(b:Nat->Nat):Option (Nat×Nat)->Prop
 |some (r,d)=>famIs sz c n e b d (H.look r)
 |none=>∀i,i<n->e i=[]/\b i=0
theorem zeH{tb}{ds}{n r' m}{ll}{gs}{u}(v:∀a,zR (c a)=true)(o:r'<n)(e:famAt H sz c m ll gs (tb.at r'))(q:zoI H HH tb ds n u):
  zoI H HH tb ds n ((r',.fam sz (fi c m ll gs))::u):=by
 refine⟨by simpa [Wl]using o,?_,q⟩
 cases g:tb.at r' with
 |none=>
  rw[g]at e;intro i p b;rw[zwk]at b;split at b
  .rename_i h;cases b;obtain⟨j,k⟩:=e i h;rw[j,k];rfl
  .cases b
 |some p=>
  obtain⟨r,d⟩:=p;rw[g]at e;obtain⟨s,rfl⟩:=e;intro i p b;rw[zwk]at b;split at b
  .rename_i h;cases b;exact⟨_,zGF s h,znd (by intro x g;obtain⟨a,_,rfl⟩:=List.mem_map.1 g;exact v a)⟩
  .cases b
end
section
variable {HH:Type}{enc:TypeId×Value->HH}{P:Program}{w:World}{base:Nat}{spare:Nat->Bool}{held:Bool}{L:Nat->Prop}
theorem zAH{α β:Type}{f}:∀{l:List α}{r:List β},l.mapM f=some r->r.length=l.length/\∀(i:Nat)(a:α),l[i]?=some a->∃b,r[i]?=some b/\f a=some b
 |
  [],r,h=>by
  simp only[List.mapM_nil,Option.pure_def,Wg]at h;subst h;exact⟨rfl,λi a h=>by simp at h⟩
 |
  x::l,r,h=>by
  simp only[List.mapM_cons,Option.bind_eq_bind,WD,Option.pure_def,Wg]at h;obtain⟨b,d,k,e,rfl⟩:=h;obtain⟨g,j⟩:=zAH e;refine⟨by simp[g],λi a c=>?_⟩
  cases i with
  |zero=>cases c;exact⟨b,rfl,d⟩
  |succ i=>exact j i a c
theorem zAT{a:Addr}{n}{cs}(h:w.cells? base a n=some cs):cs.length=n/\∀j,j<n->w.cell? (a.add j)=some (cs.getD j undef):=by
 unfold World.cells? at h;split at h
 .obtain⟨c,d⟩:=zAH h;refine⟨by simpa using c,λj k=>?_⟩;obtain⟨b,e,g⟩:=d j j (by simp[k]);rw[g,Wv,e];rfl
 .cases h
def ElOk(w:World)(L:Nat->Prop)(c:List Value)(b:List AV):Prop:=∀j,j<c.length->VR w L noI (c.getD j undef) (b.getD j .undef)/\(c.getD j undef).oneCell'=true
theorem zu5{α:Type}{cells}{t e}{sz}(O:P.underlying t=some (.slice e))(N:P.cellsOf e=sz)(J:∀b,¬L b)(A:∀d k y,DataW.trod enc P w base spare held d e k=some y->k.length=sz->∃x:α,ElOk w L k (cells x)){d}{k}{y:DataW HH×List MemPlace}(h:DataW.trod enc P w base spare held d t k=some y):∃(l:List α) (v:Value),k=[v]/\v.oneCell'=true/\∀ι,VR w L ι v (encL sz cells l):=by
 rcases DataW.trod_slice O h with ⟨rfl,rfl⟩|⟨a,len,cap,u,H,n,rfl,rfl,rfl,R,M,K,S,c,_,_⟩
 .exact⟨[],_,rfl,rfl,λι=>.sl0 _ _ _⟩
 .rw[N]at c;have key:∀i:Fin len,∃p:α×List Value,p.2.length=sz/\(∀j,j<sz->w.cell? ((a.add (i.1*sz)).add j)=some (p.2.getD j undef))/\ElOk w L p.2 (cells p.1):=by intro i;have o:=c i.1 i.2;rw[Wd (by omega),WD]at o;obtain⟨s,q,m⟩:=o;obtain⟨B,I⟩:=zAT q;obtain⟨x,Q⟩:=A _ _ _ m B;exact⟨(x,s),B,I,Q⟩
  obtain⟨F,C⟩:=Classical.axiomOfChoice key;refine⟨List.ofFn λi=>(F i).1,_,rfl,rfl,λι=>?_⟩;have g:(List.ofFn λi=>(F i).1).length=len:=List.length_ofFn;unfold encL;rw[g];refine .sl ι a sz len cap _ (λi j=>if c:i<len then(F ⟨i,c⟩).2.getD j undef else undef) M (by unfold maxLen at K;unfold big;omega) (λi j c D=>?_) (λ_=>J _) (λi j c D=>?_)
  .obtain⟨o,q,m⟩:=C ⟨i,c⟩;rw[dif_pos c];exact⟨q j D,(m j (by omega)).2⟩
  .obtain⟨o,q,m⟩:=C ⟨i,c⟩;rw[dif_pos c];have e:((List.ofFn λi=>(F i).1).map cells).getD i []=cells (F ⟨i,c⟩).1:=by rw[zh3 (a:=(F ⟨i,c⟩).1)];rw[Wd (by rw[g];exact c),List.getElem_ofFn]
   rw[e];exact(m j (by omega)).1
theorem inR_wf{k}{n}(h:(Lit.int k n).wf=true):InR k n:=by unfold Lit.wf at h;simpa [InR]using h
theorem zmY{k}{t}(b:P.underlying t=some (.int k)){fuel}{cs}{y:DataW HH×List MemPlace}(h:DataW.trod enc P w base spare held fuel t cs=some y):
  ∃n:Int,cs=[.int k n]/\InR k n:=by
 obtain⟨n,rfl,_,c⟩:=DataW.trod_int b h;exact⟨n,rfl,inR_wf c⟩
theorem zwQ{k:IntKind}{t e:TypeId}(s:P.underlying t=some (.slice e))(m:P.underlying e=some (.int k))(q:P.cellsOf e=1)(g:∀b,¬L b){c:Nat}{d:List Value}{y:DataW HH×List MemPlace}(h:DataW.trod enc P w base spare held c t d=some y):∃(l:List Int) (v:Value),d=[v]/\v.oneCell'=true/\(∀ι,VR w L ι v (encL 1 (λn=>[.int k n]) l)):=by
 refine zu5 s q g (λc d y h u=>?_) h;obtain⟨n,rfl,p⟩:=zmY m h;refine⟨n,λj o=>?_⟩;obtain rfl:j=0:=by simpa using o
 exact⟨.int _ _ _ p,rfl⟩
end
theorem zk{α β:Type}{f:α->β}{l:List α}{i:Nat}{d:β}(h:i<l.length):(l.map f).getD i d=f l[i]:=zh3 (Wd h)
theorem zeC{α:Type}{p:α->Bool}{l:List α}{i:Nat}(h:i<l.length):(l.take (i+1)).filter p=(l.take i).filter p++if p l[i]then[l[i]]else[]:=by rw[WE,Wd h,List.filter_append];cases b:p l[i]<;>simp[b]
theorem zpA{α β:Type}{f:β->α->β}{b:β}{l:List α}{i:Nat}(h:i<l.length):(l.take (i+1)).foldl f b=f ((l.take i).foldl f b) l[i]:=by rw[WE,Wd h,List.foldl_append];rfl
theorem zB6{α:Type}{p:α->Bool}{l:List α}{i:Nat}(h:i<l.length)(b:p l[i]=true):l.any p=true:=List.any_eq_true.2 ⟨_,Ww h,b⟩
theorem zpL{d s:Nat}{α:Type}{f:α->List AV}{l:List α}{k:IntKind}{b:Int}{H:AH}{c:Nat}:zi0 s (encL d f l) none (some (.int k b)) H c=⟨d=s/\(0:Int)<=0/\0<=b/\b<=l.length,True,.sl s (b-0).toNat (λi j=>((l.map f).getD ((0:Int).toNat+i) []).getD j .undef),H,c⟩:=rfl
theorem zgJ{c s:Nat}{α:Type}{f:α->List AV}{l:List α}{k:IntKind}{a:Int}{H:AH}{b:Nat}:zi0 s (encL c f l) (some (.int k a)) none H b=⟨c=s/\0<=a/\a<=l.length/\(l.length:Int)<=l.length,True,.sl s ((l.length:Int)-a).toNat (λi j=>((l.map f).getD (a.toNat+i) []).getD j .undef),H,b⟩:=rfl
theorem dF{p}(h:¬p){b:Decidable p}:@decide p b=false:=decide_eq_false h
theorem dT{p}(h:p){b:Decidable p}:@decide p b=true:=decide_eq_true h
end Go.Ab
