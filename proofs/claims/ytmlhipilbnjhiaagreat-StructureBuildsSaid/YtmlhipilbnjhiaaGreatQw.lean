/-
  Part 23 of the proof: how the calls of this program run, over values instead of memory, and what each function computes.
-/
import Derived.KernelRfl
import Derived.Test.YtmlhipilbnjhiaaGreatQv
set_option maxRecDepth 100000
set_option linter.unusedVariables false
set_option linter.unusedSimpArgs false
set_option linter.unnecessarySimpa false
set_option linter.unusedSectionVars false
open Go.Ab.Bl renaming cells->Xa
open Go.Ab.AV renaming int->Xb,undef->Xi,nilsl->Xj
open Nat renaming reduceBEq->Xc,reduceAdd->Xd,reduceLeDiff->Xe,reduceSub->Xf,reduceLT->Xg
open Go.Ab.Ent renaming tab->Xh
open Go.Ab.RowV renaming of_flat->Xk
open Go.Proofs.Tryz renaming prog->Z9
open And renaming intro→Wa
open List renaming replicate→Wc,length_map→Wd,range→We,take_length→Wh,map_map→Wi,getD_eq_getElem?_getD→Wj,take_of_length_le→Wk,length_cons→Wl,length_nil→Wm,getElem_mem→Wn,getElem_map→Wo,map_cons→Wq,take_succ_eq_append_getElem→Wr,all_eq_true→Ws,length_singleton→Wt,map_congr_left→Wu,length_filter_le→Wv,count_le_length→Ww,length_take→Wx,getD_cons_succ→Wy,getD_cons_zero→Wz
open Bool renaming and_eq_true→Wf
open Nat renaming zero_le→Wg,le_trans→Wp
namespace Go.Ab
open Go.RowKit Go.Proofs
def zEd(b e lb:Int)(d c:Nat):Prop :=
 1<=b/\b<=12/\((b=3\/b=5\/b=6)->d=1)/\(b=3\/b=5\/b=6\/d=0) /\
 (b=1\/(b=3/\c=2)\/((b=4\/b=5)/\c=1)\/(b=6/\1<=c/\c<=64)\/((b=2\/7<=b)/\c=0)) /\
 (b=2\/b=5\/e=0)/\(b=9\/b=10\/lb=0)/\0<=lb
instance (kd bl lb:Int) (cn ln:Nat):Decidable (zEd kd bl lb cn ln):=by unfold zEd;infer_instance
theorem hgX{e:Ex}:[encX e].getD (Int.toNat 0) []=encX e:=rfl
def St.toS(s:St):Stm:=⟨s.op,s.var,s.width,s.next,s.els,s.tgt,encL 5 encX s.e,s.cases⟩
def Bl.toB(b:Bl):Blk:=⟨b.addr,b.stmts.map St.toS⟩
def G.toG(g:G):Gr:=⟨g.addr,g.blocks.map Bl.toB⟩
theorem zBD{α β:Type}{n:Nat}{f:β->List AV}{h:α->β}{l:List α}:encL n f (l.map h)=encL n (λx=>f (h x)) l:=by unfold encL;rw[Wd,Wi];rfl
theorem St.toS_cells(s:St):s.toS.cells=s.cells:=rfl
theorem Bl.toB_cells(b:Bl):b.toB.cells=b.cells:=by unfold Bl.toB Blk.cells Xa;simp only[zBD,St.toS_cells]
theorem G.toG_cells(g:G):g.toG.cells=g.cells:=by unfold G.toG Gr.cells G.cells;simp only[zBD,Bl.toB_cells]
theorem Bl.toB_targets(b:Bl):b.toB.targets=zat b.stmts:=by unfold Blk.targets zat Bl.toB;simp only[List.getLast?_map];cases b.stmts.getLast? <;> rfl
theorem zgv{g:G}(h:fewG g=true):g.blocks.length<=12/\∀b∈g.blocks,b.stmts.length<=8/\∀s∈b.stmts,s.cases.length<=8/\s.e.length<=3/\zjY s.e=true:=by unfold fewG at h;rw[Wf,decide_eq_true_eq]at h;refine⟨h.2,λb k=>?_⟩;have j:=h.1;rw[Wk (by omega),Ws]at j;have d:=j b k;unfold blOk at d;rw[Wf,decide_eq_true_eq,Ws]at d;refine⟨d.1,λs m=>?_⟩;have c:=d.2 s m;unfold stOk at c;rw[Wf,Wf,decide_eq_true_eq,decide_eq_true_eq]at c;exact⟨c.1,c.2.1,c.2.2⟩
theorem zxe{g:G}(h:fewG g=true):fewB g:=⟨(zgv h).1,λb c=>((zgv h).2 b c).1⟩
theorem zC8{g:G}(h:fewG g=true):∀b∈g.blocks,∀s∈b.stmts,s.cases.length<=100000000:=λb c s d=>by have:=(((zgv h).2 b c).2 s d).1;omega
theorem ziz{l:List St}{n:Nat}(c:2<=n)(h:∀s∈l,s.cases.length<=n):(zat l).length<=n:=by
 unfold zat
 cases b:l.getLast? with
 |none=>simp
 |some s=>
  have:=h s (List.mem_of_getLast? b);simp only[ze2];split
  .simp only[Wt];omega
  .split
   .simp only[Wl,Wm];omega
   .split
    .exact this
    .simp
theorem zqQ{g:G}(h:fewG g=true):g.toG.small:=by obtain⟨j,d⟩:=zgv h;refine⟨by simp only[G.toG,Wd];omega,λb c=>?_⟩;simp only[G.toG,List.mem_map]at c;obtain⟨b,c,rfl⟩:=c;rw[Bl.toB_targets];have:=ziz (l:=b.stmts) (n:=8) (by omega) (λs e=>((d b c).2 s e).1);omega
def st0:St:=⟨0,0,0,0,0,0,[],[]⟩
def blG(g:G)(k:Nat):Bl:=g.blocks.getD k ⟨0,[]⟩
def zgs(g:G)(k:Nat):St:=(blG g k).stmts.getLast?.getD st0
def oneG(g:G)(k:Nat):Bool:=decide ((blG g k).stmts.length=1)
abbrev eG(g:G):Dm.Adj:=g.toG.E
structure OkB(g:G):Prop where
 small:g.toG.small
 pos:0<g.blocks.length
 ne:∀b∈g.blocks,b.stmts≠[]
 tg:∀b∈g.blocks,∀t∈zat b.stmts,0<=t/\t<g.blocks.length
 cond:∀b∈g.blocks,∀s∈b.stmts.getLast?,s.op=7\/s.op=8->∃e,s.e=[e]/\zdM e<=100000
 cases:∀b∈g.blocks,∀s∈b.stmts,s.cases.length<=1000
 stm:∀b∈g.blocks,b.stmts.length<=100000
section
variable {g:G}
theorem zeg:(eG g).length=g.blocks.length:=by rw[Gr.E_len];simp[G.toG]
theorem zoL{k:Nat}(h:k<g.blocks.length):blG g k=g.blocks[k]:=by simp[blG,Wj,h]
theorem zes{k:Nat}(h:k<g.blocks.length):blG g k∈g.blocks:=by rw[zoL h];exact Wn h
theorem zvY{l:List St}:zat l=ze2 (l.getLast?.getD st0):=by unfold zat;cases l.getLast? <;> rfl
theorem zEx(h:OkB g){k:Nat}(b:k<g.blocks.length):zat (blG g k).stmts=(Dm.suc (eG g) k).map λ(t:Nat)=>(t:Int):=by
 have d:=h.tg _ (zes b)
 have e:Dm.suc (eG g) k=(zat (blG g k).stmts).map Int.toNat:=by
  show(Gr.E g.toG).getD k []=_;unfold Gr.E;have m:k<g.toG.blocks.length:=by simp only[G.toG,Wd];exact b
  rw[zg m];have j:(g.toG.blocks[k]).targets=zat (blG g k).stmts:=by rw[zoL b];simp only[G.toG,Wo];exact Bl.toB_targets _
  rw[j,List.filter_eq_self.2];intro t c;have:=d t c;unfold Dm.edgeOk;simp only[G.toG,Wd,Wf,decide_eq_true_eq];exact this
 rw[e,Wi];conv=>lhs;rw[<-List.map_id (zat (blG g k).stmts)]
 refine Wu λt c=>?_
 have:=d t c;simp only[id,Function.comp];omega
theorem zL(h:OkB g):EdgeOk (eG g) (zgs g):=by refine⟨Gr.E_ok _,by rw[zeg];exact h.pos,λk b=>?_⟩;rw[zeg]at b;rw[<-zEx h b,zvY];rfl
theorem zBK(h:OkB g)(k:Nat):(Dm.suc (eG g) k).length<=1000:=by
 by_cases c:k<g.blocks.length
 .have e:=zEx h c;have b:=congrArg List.length e;rw[Wd]at b;rw[<-b];exact ziz (by omega) (λs d=>h.cases _ (zes c) s d)
 .unfold Dm.suc;rw[Wj,List.getElem?_eq_none (by rw[zeg];omega)];exact Wg _
theorem znq(h:OkB g){k:Nat}:(zaQ (eG g) k).length<=g.blocks.length:=by unfold zaQ;refine Wp (Wv _ _) ?_;exact zm9 (Dm.rpo (zL h).ok (zL h).pos).nd λx b=>by have:=zaT (zL h) b;rwa [zeg]at this
theorem zvI(h:OkB g):(ordE (eG g)).length<=g.blocks.length:=zm9 (Dm.rpo (zL h).ok (zL h).pos).nd λx b=>by have:=zaT (zL h) b;rwa [zeg]at this
end
noncomputable def cBo(E:Dm.Adj)(p:Nat×Nat):List AV:=[.int .i64 (p.1:Int),zb (zfo E p.1),.int .i64 (p.2:Int)]
noncomputable def boM(E:Dm.Adj)(l:List Nat):List (List AV):=[.int .i64 (l.length:Int),.undef,.undef]::l.zipIdx.map (cBo E)
theorem zsi{E:Dm.Adj}{k:Nat}:∀ {l:List (Nat×Nat)}{i:Nat},(k∉l.map (·.1)->zeC (.int .i64 (k:Int)) (l.map (cBo E)) i=some none)/\(k∈l.map (·.1)->∃j,zeC (.int .i64 (k:Int)) (l.map (cBo E)) i=some (some (j,zb (zfo E k))))
 |[],i=>⟨λ_=>rfl,λh=>by cases h⟩
 |
  p::l,i=>by
  obtain⟨g,m⟩:=zsi (E:=E) (k:=k) (l:=l) (i:=i+1);by_cases h:k=p.1
  .refine⟨λc=>absurd (by simp[h]) c,λ_=>⟨i,?_⟩⟩;subst h;simp only[Wq,cBo,zeC,zwg,if_true,decide_true]
  .have d:¬(k:Int)=(p.1:Int):=by omega
   have e:zeC (.int .i64 (k:Int)) ((p::l).map (cBo E)) i=zeC (.int .i64 (k:Int)) (l.map (cBo E)) (i+1):=by simp only[Wq,cBo,zeC,zwg,if_true,decide_eq_false d]
   rw[e,Wq];refine⟨λc=>g λb=>c (List.mem_cons_of_mem _ b),λb=>m ?_⟩;rcases List.mem_cons.1 b with b|b
   .exact absurd b h
   .exact b
theorem zHY{E:Dm.Adj}{l:List Nat}{a:Nat}:boM E (l++[a])=[.int .i64 ((l.length:Int)+1),.undef,.undef]::(l.zipIdx.map (cBo E)++[[.int .i64 (a:Int),zb (zfo E a),.int .i64 (l.length:Int)]]):=by unfold boM;rw[List.zipIdx_append,List.map_append,List.length_append,Wt];simp[cBo]
theorem zI{E:Dm.Adj}{l:List Nat}:zw (boM E l):=zal rfl (zE λ_=>rfl)
noncomputable def hdL(E:Dm.Adj):List Nat:=(ordE E).filter (zhz E)
noncomputable def bldH(g:G)(T:AH):AH :=
 (0,.row 5 [[.int .u32 g.addr,encL 2 Xa g.blocks,Dm.encNN ((We g.blocks.length).map (zaQ (eG g))),zb ((We g.blocks.length).map (cntE (eG g))),.mp 1 0]] 0)::(1,.row 3 (boM (eG g) (hdL (eG g))) 0)::T
def zeQ:ACode:=Z8 0x80000095717881182016c8401001160150800103c271300000000400b1052110111301224040011011130120301104c03062a130440300000000008942113 []
def zeT:List ARet:=[.cell 4 true 8]
theorem zjV:zM Z9 zbJ (qRo [])=some (zeQ.strip,zeT,21):=by kernel_rfl
def zjy:ACode:=Z8 0x84320417381632021300000606211816103011000011403005114052000156015030031331100000039047c32213 []
def zfw:List ARet:=[.cell 4 true 3]
theorem zpT:zM Z9 zbi (qRo [])=some (zjy.strip,zfw,13):=by kernel_rfl
def zdm:ACode:=Z8 0x2d110a21001c062d22100041c76104211d813c0101001115c0a0020ec25100001c7610521dc813c0101001115c0a0080051140000002c7100176011012140a00110113301104c0302c281300b310721102b14031315307014300c1c36b2113 []
def zdr:ACode:=Z8 0x808c007067d002042800703d2413 []
def zek:ACode:=Z8 0x1909605110000015040823133016c016c42213 [zdm,zdr]
attribute[irreducible]zdm zdr
def zej:List ARet:=[.tmp 4,.tmp 5]
theorem zje:zM Z9 zaP (qRo [])=some (zek.strip,zej,33):=by kernel_rfl
def zfe:ACode:=Z8 0x805fc141b581112a001024400000059c0400313084fc131b5817001014400000059c6d22131400063c76101d215d760110a1230402d2513843c5141b5818001014400000059c0d22131400065c510bc21fc760110a113040cc25138495141b58140120faac2213140008806105c219c760110a1030406c251380003150081b581124c30ea0a320400301c251314007241092122cea040050a2413053314400000059061c72213 []
def zaz:List ARet:=[.cell 8 true 5]
theorem zkt:zM Z9 zbV (qRo [7])=some (zfe.strip,zaz,37):=by kernel_rfl
def zcY:ACode:=Z8 0x800002000091858112a944dfa063205103004106130440000005952113 []
def zc1:List ARet:=[.cell 5 true 5]
theorem zgt:zM Z9 zu (qRo [])=some (zcY.strip,zc1,11):=by kernel_rfl
def zcf:List AOper:=[(oF 28 6 1 9),(oL 29 28),(oN 30 (.idx 5 (.t 29) (.c (.int .i64 0)))),(oA 31 5 30),(oN 32 (.callq za6 [(.t 31)])),(oN 33 (.rbuildSl 5 1 [.int .i64 0,.int .u32 0,.int .i64 0,.int .i64 0,.nilsl] [(0,(.t 32))])),(oM 34 10),(oF 35 3 1 9),(oL 36 35),(oN 37 (.callv (.t 34) [(.t 36)])),(oM 38 10),(oF 39 4 1 9),(oL 40 39),(oN 41 (.callv (.t 38) [(.t 40)])),(oN 42 (.rbuildSl 5 2 [.int .i64 0,.int .i64 0,.int .i64 0,.nilsl,.nilsl] [(0,(.t 37)),(1,(.t 41))])),(oN 43 (.build [.int .i64 0,.int .i64 0,.int .i64 0,.nilsl,.nilsl] [(0,1,(.c (.int .i64 3))),(3,1,(.t 33)),(4,1,(.t 42))])),(oS 5 8 43)]
def zeL:List (List Nat):=[[],[0],[1],[2],[3],[4],[],[],[7],[6,8,4],[],[],[11],[10,12,9],[9,13],[5,14],[15,13,0,1,2,3,4,5,6,7,8,9,10,11,12,13,14,15]]
def zct:List Nat:=[9,13,16]
def zfA:List (List Nat):=[[],[0],[0,1],[0,1,2],[0,1,2,3],[0,1,2,3,4],[],[],[7],[0,1,2,3,4,6,7,8],[],[],[11],[0,1,2,3,4,6,7,8,9,10,11,12],[0,1,2,3,4,6,7,8,9,10,11,12,13],[0,1,2,3,4,5,6,7,8,9,10,11,12,13,14],[0,1,2,3,4,5,6,7,8,9,10,11,12,13,14,15]]
def zfl:List (List Nat):=[[],[9],[9,13],[9,13,16]]
def zb7:Plan:=[(0,[],[]),(1,[],[]),(2,[],[]),(3,[],[]),(4,[],[]),(5,[],[]),(6,[],[]),(7,[],[]),(8,[],[]),(9,[],[9]),(10,[],[]),(11,[],[]),(12,[],[]),(12,[9],[9]),(13,[9],[9,13]),(14,[9,13],[9,13]),(15,[9,13],[9,13]),(16,[9,13],[9,13,16])]
def zcH:ACode:=Z8 0x08f110ce2100fe0608f22100000002e1c911102118132c14302104f0cf53c0307f01440000005158c05f2203f101f22112bc0311102118132c14302104f0cf53c03101440000005158c0206f105fbc04f2303f101f234c0021c002f222c14300f22200de3101c21102de1403132531701430eefe36de2113 []
def zcI:ACode:=Z8 0x80c00ed0a61b5812c5209f2213 []
def zcJ:ACode:=Z8 0x820af21b5811c001014400000059c0df2213 []
def zdo:ACode:=.seq (.region [(oN 4 (.box (.t 0))),(oN 6 (.rbox (.t 2))),(oN 7 (.rbox (.t 3))),(oN 8 (.alloc [.int .i64 0,.int .i64 0,.int .i64 0,.nilsl,.nilsl]))] [0,2,3]) (.seq (.region [(oL 14 4),(oM 15 1),(oN 16 (.call zbJ [(.t 14),(.t 15)])),(oN 9 (.alloc [.int .i64 0,.int .i64 0,.int .i64 0,.int .i64 0,.int .i64 0,.int .u32 0,.nilsl,.nilsl])),(oS 8 9 16)] [1,14,15,16]) (.seq (.region [(oN 17 (.mkfn (.func zu) [(.t 4),(.t 6),(.t 7)])),(oM 10 17)] [4,6,7,17]) (.seq (.seq (.region [(oF 18 0 1 9),(oL 19 18)] [18]) (.block 0 (.seq (.region [(oC 21 .eql 19 6),(oM 20 21)] [21]) (.cond (.t 20) (.seq (.region [(oM 22 10),(oF 23 3 1 9),(oL 24 23),(oN 25 (.callv (.t 22) [(.t 24)])),(oS 5 8 25)] [9,10,19,20,22,23,24,25]) (.ret)) (.seq (.region [(oC 27 .eql 19 7),(oM 26 27)] [20,27]) (.cond (.t 26) (.seq (.draw (zcQ zcf zeL 17 (Wc 17 false)) [9,10,19,26,28,29,30,31,32,33,34,35,36,37,38,39,40,41,42,43]) (.ret)) (.seq (.region [(oC 45 .eql 19 8),(oM 44 45)] [26,45]) (.cond (.t 44) (.seq (.region [(oF 46 6 1 9),(oL 47 46),(oN 48 (.idx 5 (.t 47) (.c (.int .i64 0)))),(oA 49 5 48),(oN 50 (.call za6 [(.t 49)])),(oN 51 (.rbuildSl 5 1 [.int .i64 0,.int .u32 0,.int .i64 0,.int .i64 0,.nilsl] [(0,(.t 50))])),(oN 52 (.build [.int .i64 0,.int .i64 0,.int .i64 0,.nilsl,.nilsl] [(0,1,(.c (.int .i64 6))),(3,1,(.t 51))])),(oN 11 (.alloc [.int .i64 0,.int .i64 0,.int .i64 0,.nilsl,.nilsl])),(oS 5 11 52)] [19,44,46,47,48,49,50,51,52]) (.seq (.seq (.region [(oF 53 7 1 9),(oL 54 53),(oE 55 54),(oK 56 0)] [9,53]) (.block 1 (.loop zcH))) (zcI))) (.seq (.region [(oC 71 .eql 19 9),(oM 70 71)] [9,10,19,44,71]) (.cond (.t 70) (.seq (.region [(oN 72 (.build [.int .i64 0,.int .i64 0,.int .i64 0,.nilsl,.nilsl] [(0,1,(.c (.int .i64 11)))])),(oS 5 8 72)] [70,72]) (.ret)) (.skip))))))))))) (zcJ))))
def zaa:List ARet:=[.cell 8 true 5]
theorem zht:zM Z9 zQ (qRo [6,7,33,42,51,65])=some (zdo.strip,zaa,74):=by kernel_rfl
def zdn:ACode:=Z8 0x9d1101c21004c069d22100000060c008b107215d0cf53c0101440000005158c0126d30ea01c3200c00300a008100000002c88211811c10301101fc1401001060b0040071140007c41bc3601504001001060b07c251336c19c138100000039a28326c23130002c48c006c0821104c2c14020051315307014303c4c362c2113 []
def zdk:ACode:=Z8 0x8cc003130081062a0ad2213 []
def zef:ACode:=Z8 0x190960500000015040b23133056c011332256c051c52213 [zdn,zdk]
attribute[irreducible]zdn zdk
def zeo:List ARet:=[.tmp 6]
theorem zjd:zM Z9 zY (qRo [5,35])=some (zef.strip,zeo,39):=by kernel_rfl
def zdE:ACode:=Z8 0x02f1102d21005d0602f2210004ad2c6100c2101f813c0101001115c05c003c0ee2510000ad2c610b21de813c0101001115c05c002c00511400000000000000ac3c4c101ed701202e713f61001863113121435c03113113331104c3301af610300017631532c013f610010ad24c130006d4103c210c0122cea05c00606d2513003d3102c211023d14031315307014304d5d363d2113 []
def zgr:List AOper:=[(oA 146 5 7),(oA 147 5 21),(oN 148 (.buildSl 5 2 [.int .i64 0,.int .i64 0,.int .i64 0,.nilsl,.nilsl] [(0,(.t 146)),(1,(.t 147))])),(oM 149 0),(oM 150 11),(oA 151 3 9),(oN 152 (.call zY [(.t 149),(.t 150),(.t 151)])),(oN 153 (.append 5 72 (.t 148) (.t 152))),(oN 154 (.call zZ [(.t 153)])),(oS 5 10 154)]
def zf5:List (List Nat):=[[],[],[0,1],[],[],[],[3,4,5],[2,6,6],[7,7],[8,8,0,1,2,3,4,5,6,7,8]]
def zbZ:ACode:=.seq (.draw (zcQ zgr zf5 10 (Wc 10 false)) [0,1,7,9,11,19,20,21,132,146,147,148,149,150,151,152,153,154]) (.ret)
def zb1:ACode:=.seq (.region [(oM 92 1),(oN 93 (.build [.int .i64 0,.int .i64 0,.int .i64 0,.nilsl,.nilsl] [(0,1,(.c (.int .i64 2))),(1,1,(.t 92))])),(oA 94 5 19),(oN 95 (.buildSl 5 2 [.int .i64 0,.int .i64 0,.int .i64 0,.nilsl,.nilsl] [(0,(.t 93)),(1,(.t 94))])),(oM 96 20),(oN 97 (.append 5 72 (.t 95) (.t 96))),(oN 98 (.call zZ [(.t 97)])),(oN 99 (.buildSl 5 1 [.int .i64 0,.int .i64 0,.int .i64 0,.nilsl,.nilsl] [(0,(.t 98))])),(oN 100 (.build [.int .i64 0,.int .i64 0,.int .i64 0,.nilsl,.nilsl] [(0,1,(.c (.int .i64 4))),(4,1,(.t 99))])),(oN 21 (.alloc [.int .i64 0,.int .i64 0,.int .i64 0,.nilsl,.nilsl])),(oS 5 21 100)] [92,93,94,95,96,97,98,99,100]) (.seq (.seq (.region [(oM 101 0),(oX 102 101),(oF 103 0 2 102),(oF 104 1 1 103),(oL 105 104),(oM 106 1),(oI 107 2 105 106),(oF 108 1 1 107),(oL 109 108),(oE 110 109),(oC 111 .eql 110 1),(oM 112 111),(oG 113 112 true (.fldaddr 0 1 (.t 19))),(oG 114 112 true (.load false 1 (.t 113))),(oG 115 112 true (.bin .eql (.t 114) (.c (.int .i64 3)))),(oN 116 (.pick (.t 112) (.t 115) (.c (.bool false)))),(oM 117 116),(oG 118 117 true (.fldaddr 4 1 (.t 19))),(oG 119 117 true (.load false 1 (.t 118))),(oG 120 117 true (.idx 5 (.t 119) (.c (.int .i64 1)))),(oG 121 117 true (.fldaddr 0 1 (.t 120))),(oG 122 117 true (.load false 1 (.t 121))),(oG 123 117 true (.bin .eql (.t 122) (.c (.int .i64 7)))),(oN 124 (.pick (.t 117) (.t 123) (.c (.bool false)))),(oM 125 124),(oG 126 125 true (.fldaddr 4 1 (.t 19))),(oG 127 125 true (.load false 1 (.t 126))),(oG 128 125 true (.idx 5 (.t 127) (.c (.int .i64 0)))),(oG 129 125 true (.fldaddr 0 1 (.t 128))),(oG 130 125 true (.load false 1 (.t 129))),(oG 131 125 true (.bin .neq (.t 130) (.c (.int .i64 7)))),(oN 132 (.pick (.t 125) (.t 131) (.c (.bool false))))] [101,102,103,104,105,106,107,108,109,110,111,112,113,114,115,116,117,118,119,120,121,122,123,124,125,126,127,128,129,130,131]) (.cond (.t 132) (.draw (.step (oM 133 1) (.step (oF 134 3 1 19) (.step (oF 136 4 1 19) (.step (oM 141 20) (.alt (oL 135 134) (.alt (oL 137 136) (.alt (oN 138 (.idx 5 (.t 137) (.c (.int .i64 0)))) (.alt (oA 139 5 138) (.alt Yad (.alt Yac (.alt (oN 143 (.call zZ [(.t 142)])) (.alt Yaa (.step Yab (.alt (oS 5 21 145) (.done) (.stop))) (.stop)) (.stop)) (.stop)) (.stop)) (.stop)) (.stop)) (.stop)) (.alt (oL 137 136) (.alt (oL 135 134) (.alt (oN 138 (.idx 5 (.t 137) (.c (.int .i64 0)))) (.alt (oA 139 5 138) (.alt Yad (.alt Yac (.alt (oN 143 (.call zZ [(.t 142)])) (.alt Yaa (.step Yab (.alt (oS 5 21 145) (.done) (.stop))) (.stop)) (.stop)) (.stop)) (.stop)) (.stop)) (.stop)) (.alt (oN 138 (.idx 5 (.t 137) (.c (.int .i64 0)))) (.alt (oL 135 134) (.alt (oA 139 5 138) (.alt Yad (.alt Yac (.alt (oN 143 (.call zZ [(.t 142)])) (.alt Yaa (.step Yab (.alt (oS 5 21 145) (.done) (.stop))) (.stop)) (.stop)) (.stop)) (.stop)) (.stop)) (.alt (oA 139 5 138) (.alt (oL 135 134) (.alt Yad (.alt Yac (.alt (oN 143 (.call zZ [(.t 142)])) (.alt Yaa (.step Yab (.alt (oS 5 21 145) (.done) (.stop))) (.stop)) (.stop)) (.stop)) (.stop)) (.alt Yad (.alt (oL 135 134) (.alt Yac (.alt (oN 143 (.call zZ [(.t 142)])) (.alt Yaa (.step Yab (.alt (oS 5 21 145) (.done) (.stop))) (.stop)) (.stop)) (.stop)) (.alt Yac (.alt (oL 135 134) (.alt (oN 143 (.call zZ [(.t 142)])) (.alt Yaa (.step Yab (.alt (oS 5 21 145) (.done) (.stop))) (.stop)) (.stop)) (.alt (oN 143 (.call zZ [(.t 142)])) (.alt (oL 135 134) (.alt Yaa (.step Yab (.alt (oS 5 21 145) (.done) (.stop))) (.stop)) (.alt Yaa (.step (oL 135 134) (.step Yab (.alt (oS 5 21 145) (.done) (.stop)))) (.stop))) (.stop))) (.stop))) (.stop))) (.stop))) (.stop))) (.stop))))))) [1,19,20,132,133,134,135,136,137,138,139,140,141,142,143,144,145]) (.skip))) (.mark 17 (zbZ)))
def zdG:ACode:=.seq (.region [(oM 64 0),(oM 65 12),(oN 66 (.call zaP [(.t 64),(.t 65)])),(oM 63 66),(oT 67 0 63),(oT 68 1 63),(oM 16 67),(oM 17 68)] [3,12,28,29,30,63,64,65,66,67,68]) (.seq (.region [(oM 69 1),(oM 70 1),(oF 71 0 1 9),(oL 72 71),(oN 73 (.build [.int .i64 0,.int .i64 0,.int .i64 0] [(0,1,(.t 69)),(1,1,(.t 70)),(2,1,(.t 72))])),(oN 18 (.alloc [.int .i64 0,.int .i64 0,.int .i64 0])),(oS 3 18 73)] [69,70,71,72,73]) (.seq (.seq (.region [(oM 74 11),(oE 75 74),(oC 76 .gtr 75 0)] [74,75]) (.cond (.t 76) (.region [(oM 77 11),(oN 78 (.idx 1 (.t 77) (.c (.int .i64 0)))),(oL 79 78),(oF 80 2 1 18),(oS 1 80 79)] [76,77,78,79,80]) (.skip))) (.seq (.region [(oM 81 0),(oM 82 1),(oM 83 17),(oM 84 16),(oA 85 3 18),(oN 86 (.call zbi [(.t 84),(.t 85)])),(oN 87 (.call zQ [(.t 81),(.t 82),(.t 83),(.t 86)])),(oN 19 (.alloc [.int .i64 0,.int .i64 0,.int .i64 0,.nilsl,.nilsl])),(oS 5 19 87)] [17,76,81,82,83,84,85,86,87]) (.seq (.region [(oM 88 0),(oM 89 16),(oA 90 3 18),(oN 91 (.call zY [(.t 88),(.t 89),(.t 90)])),(oM 20 91)] [16,18,88,89,90,91]) (.mark 15 (zb1))))))
def zeU:ACode:=.seq (.region [(oN 7 (.rbox (.t 2))),(oN 9 (.rbox (.t 4))),(oN 10 (.alloc [.int .i64 0,.int .i64 0,.int .i64 0,.nilsl,.nilsl]))] [2,4]) (.seq (.region [(oN 11 (.mknil 1)),(oN 12 (.mknil 1))] []) (.seq (.seq (.region [(oM 22 0),(oX 23 22),(oF 24 2 1 23),(oL 25 24),(oM 26 1),(oI 27 1 25 26),(oL 28 27),(oE 29 28),(oK 30 0)] [22,23,24,25,26,27]) (.block 0 (.loop zdE))) (.mark 2 (zdG))))
def zbs:List ARet:=[.cell 10 true 5]
theorem zjZ:zM Z9 zbE (qRoL [7,9] [(18,[0,1,2,3,4,5,6,7,8,9,11,12,13,14,15,16,17,18,19,20,21,22,23,24,25,26,27,28,29,30,31,32,33,34,35,36,37,38,39,40,41,42,43,44,45,46,47,48,49,50,51,52,53,54,55,56,57,58,59,60,61,62,63,64,65,66,67,68,69,70,71,72,73,74,75,76,77,78,79,80,81,82,83,84,85,86,87,88,89,90,91,92,93,94,95,96,97,98,99,100,101,102,103,104,105,106,107,108,109,110,111,112,113,114,115,116,117,118,119,120,121,122,123,124,125,126,127,128,129,130,131,132,133,134,135,136,137,138,139,140,141,142,143,144,145,146,147,148,149]),(19,[0,1,2,3,4,5,7,9,10,11,12,13,14,15,16,17,18,19,20,21,22,23,24,25,26,27,28,29,30,31,32,33,34,35,36,37,38,39,40,41,42,43,44,45,46,47,48,49,50,51,52,53,54,55,56,57,58,59,60,61,62,63,64,65,66,67,68,69,70,71,72,73,74,75,76,77,78,79,80,81,82,83,84,85,86,87,88,89,90,91,92,93,94,95,96,97,98,99,100,101,102,103,104,105,106,107,108,109,110,111,112,113,114,115,116,117,118,119,120,121,122,123,124,125,126,127,128,129,130,131,132,133,134,135,136,137,138,139,140,141,142,143,144,145,146,147,148,149])])=some (zeU.strip,zbs,155):=by kernel_rfl
def zb3:ACode:=Z8 0x8000000dd1440b195811120fa01de0cf53c012ee321fa083201c003003c0ae281300000000003d3512c11110100c22be24e1103440000005355c9e23a52fd2217e6e5e41efa03110100c22124e12e03440000005355c03ae7e6e5e41efa8e23a52fd231221ffb031110100c22124e12e03440000005355c0317e6e5e41efa039e8e21ffb7e23a52fd238320311110100c22124e12e03440000005355c0317e6e5e41efa031221ffb038326e23a52fd231c0022c002400230021112001024400000059c02400e22230000000000063c82c1e0020a26d12c0102cdd2103d217d21dfa011012140400110112301104c0300304d22c13080000003c013000c19581122d1d0d51cfa08320b00a520400300713149110cc21133000000003c9ec0020826c12c0102cac2103c212241494c0400110114301104c0104c2b13 []
def zcF:ACode:=.seq (.region [(oN 5 (.rbox (.t 2))),(oN 6 (.alloc [.int .i64 0,.int .i64 0,.int .i64 0,.nilsl,.nilsl]))] [2]) (.seq (.region [(oM 13 1),(oN 14 (.build [.int .i64 0,.int .i64 0,.int .i64 0,.nilsl,.nilsl] [(0,1,(.c (.int .i64 10))),(2,1,(.t 13))])),(oN 7 (.alloc [.int .i64 0,.int .i64 0,.int .i64 0,.nilsl,.nilsl])),(oS 5 7 14)] [13,14]) (.mark 1 (zb3)))
def zcG:List ARet:=[.cell 6 true 5]
theorem zeY:zM Z9 zP (qRoL [5] [(6,[0,1,2,3,4,5,6,7,8,10,11,12,13,14,15,16,17,18,19,20,21,22,23,24,25,26,27,28,29,30,31,32,33,34,35,36,37,38,39,40,41,42,43,44,45,46,47,48,49,50,51,52,53,54,55,56,57,58,59,60,61,62,63,64,65,66,67,68,69,70,71,72,73,74,75,76,77,78,79,80,81,82,83,84,85,86,87,88,89,90,91,92,93,94,95,96,97,98,99,100,101,102,103,104,105,106,107,108,109,110,111,112,113,114,115,116,117,118,119,120,121,122,123,124,125,126,127,128,129,130,131,132,133,134,135,136,137,138,139,140,141,142,143,144,145,146,147,148,149])])=some (zcF.strip,zcG,61):=by kernel_rfl
def zdp:List AOper:=[(oA 12 2 1),(oF 13 1 1 1),(oL 14 13),(oE 15 14),(oN 16 (.mksl 1 24 [.nilsl] (.t 15) (.t 15))),(oF 17 1 1 1),(oL 18 17),(oE 19 18),(oN 20 (.mksl 1 8 [.int .i64 0] (.t 19) (.t 19))),(oN 21 (.xop .mkmap [])),(oN 22 (.build [.int .u32 0,.nilsl,.nilsl,.nilsl,.nilmp] [(0,2,(.t 12)),(2,1,(.t 16)),(3,1,(.t 20)),(4,1,(.t 21))])),(oN 23 (.box (.t 22))),(oM 3 23)]
def zc8:List (List Nat):=[[],[],[1],[2],[3,3],[],[5],[6],[7,7],[],[0,4,8,9],[10],[11,0,1,2,3,4,5,6,7,8,9,10,11]]
def zdl:List AOper:=[(oM 39 3),(oX 40 39),(oF 41 2 1 40),(oL 42 41),(oM 43 7),(oM 44 3),(oX 45 44),(oF 46 2 1 45),(oL 47 46),(oM 48 7),(oI 49 1 47 48),(oL 50 49),(oM 51 6),(oN 52 (.buildSl 1 1 [.int .i64 0] [(0,(.t 51))])),(oN 53 (.append 1 8 (.t 50) (.t 52))),(oI 54 1 42 43),(oS 1 54 53)]
def zhp:List (List Nat):=[[],[0],[1],[2],[],[],[5],[6],[7],[],[8,9],[10],[],[12],[11,13],[3,4,0,1,2,3,4,5,6,7,8,9,10,11,12,13,14],[15,14,14,0,1,2,3,4,5,6,7,8,9,10,11,12,13,14]]
def zdJ:List Nat:=[13,14,16]
def zi0:List (List Nat):=[[],[0],[0,1],[0,1,2],[],[],[5],[5,6],[5,6,7],[],[5,6,7,8,9],[5,6,7,8,9,10],[],[12],[5,6,7,8,9,10,11,12,13],[0,1,2,3,4,5,6,7,8,9,10,11,12,13,14],[0,1,2,3,4,5,6,7,8,9,10,11,12,13,14,15]]
def zh9:List (List Nat):=[[],[13],[13,14],[13,14,16]]
def zdb:Plan:=[(0,[],[]),(1,[],[]),(2,[],[]),(3,[],[]),(3,[13],[13]),(3,[13,14],[13,14]),(4,[],[]),(5,[],[]),(6,[],[]),(7,[],[]),(8,[],[]),(8,[13],[13]),(9,[],[]),(10,[],[]),(10,[13],[13]),(11,[],[]),(11,[13],[13]),(12,[],[]),(13,[],[13]),(14,[13],[13,14]),(15,[13,14],[13,14]),(16,[13,14],[13,14,16])]
def zcy:ACode:=Z8 0x0ff11002f210005f0602100000000ce9a211810df0cf1401001060110121400c00110113301104c06006f2a10003f31092110203f140313353270143004f05f3603f2113 []
def zcx:ACode:=Z8 0x1c0000f4101d21004d0610f221 []
def zee:ACode:=.seq (.region [(oB 30 .lss 29 28)] []) (.seq (.cond (.t 30) (.skip) (.exit 0)) (.seq (.block 1 (.seq (.region [(oI 31 1 27 29),(oL 32 31),(oM 6 32)] [30,31,32]) (.seq (.seq (.region [(oM 33 4),(oM 34 6),(oI 35 1 33 34),(oL 36 35),(oM 7 36)] [33,34,35,36]) (.seq (.region [(oM 37 7),(oC 38 .geq 37 0)] [37]) (.cond (.t 38) (.draw (zcQ zdl zhp 17 (Wc 17 false)) [7,38,39,40,41,42,43,44,45,46,47,48,49,50,51,52,53,54]) (.skip)))) (.seq (.region [(oF 55 1 1 1),(oL 56 55),(oM 57 6),(oI 58 2 56 57),(oA 59 2 58),(oN 60 (.call zdT [(.t 59)])),(oE 61 60),(oK 62 0)] [6,7,38,55,56,57,58,59]) (.block 2 (.loop zcy)))))) (zcx)))
def zel:ACode:=Z8 0x20f11014f210017f0620f22100000000cfb910120f1ef34a4c1311022c1130211022c1030211021143021104c026018f2220015f31af148100440049b21420215f440413553470143016f17f3615f2113 []
def zem:ACode:=.seq (.region [(oM 93 3),(oM 2 93)] [3,78,79,80,93]) (.ret)
def zcw:ACode:=Z8 0x19096453e00ac21600000150111bfa042211f24133 [zel,zem]
def zba:ACode:=Z8 0x1909605ec1000001501119fa0422ec241330cc210421118fa0422cc2313 [zee,zcw]
def zfE:ACode:=.seq (.region [(oN 1 (.rbox (.t 0))),(oN 2 (.mov (.c (.nilp))))] [0,2]) (.seq (.draw (zcQ zdp zc8 13 (Wc 13 false)) [12,13,14,15,16,17,18,19,20,21,22,23]) (.mark 1 (zba)))
attribute[irreducible]zee zel zem zcw
def zdi:List ARet:=[.tmp 2]
theorem zlm:zM Z9 zbd (qRo [1])=some (zfE.strip,zdi,94):=by kernel_rfl
def zgU:ACode:=Z8 0x63c7310b21002c062d22100000003c7810521fc0cf53c0101440000005158c01222ea0400a520800711400000003c81209c701ac210494c3113a1233408d6100b00186011011033c2913000c35c1581440000005972152020c54041315307014301c2c360c2113 []
def zhe:ACode:=Z8 0x82d2217581552021307c0033172118151430803d2313 []
def zjl:ACode:=Z8 0x190960581000001501105143824133056c01130144000000594217c22213 [zgU,zhe]
attribute[irreducible]zgU zhe
def zjP:List ARet:=[.cell 4 true 5]
theorem zqg:zM Z9 zaG (qRo [28])=some (zjl.strip,zjP,34):=by kernel_rfl
def zg9:ACode:=Z8 0x38c8310bc2100ec0602100008c852015d34a4c1110b123090041140fc2a0017601101103fc231300cc31d158144000000598215202cc5404131530701430dcec36cc2113 []
def zgY:ACode:=Z8 0x800a002c058000032155811222ea09008526d2513 []
def zjt:ACode:=Z8 0x19096058c100000150111ea02528c241337c11062014c7c22130002701189c15814400000059521000230ea0900129001190010300000039c011fda04223c26130800721510322558170004400000059c041314b1000186010b2213092104211eda0422923133202000004400000059011c0313 [zg9,zgY]
attribute[irreducible]zg9 zgY
def zfQ:List ARet:=[.cell 2 true 5,.tmp 3]
theorem zp9:zM Z9 zbf (qRo [1])=some (zjt.strip,zfQ,37):=by kernel_rfl
end Go.Ab
namespace Go.Ab
open Go.RowKit Go.Proofs Go.Ab.Dm
theorem io0:Int.ofNat 0=(0:Int):=rfl
def nb0(g:G):AH:=[(0,.row 5 [[.int .u32 g.addr,encL 2 Xa g.blocks,.own 1 0 0 0 g.blocks.length,.own 2 0 0 0 g.blocks.length,.mp 3 0]] 0),(1,.row 1 (fe (α:=Nat) 4 g.blocks.length (λ_=>[]) (λ_=>0)) 0),(2,.row 1 (Wc g.blocks.length [.int .i64 0]) 0),(3,.row 3 [[.int .i64 0,.undef,.undef]] 0),(4,.fam 1 (fi cN g.blocks.length (λ_=>[]) (λ_=>0)))]
theorem zJY(g:G)(d:g.blocks.length<=1000):Ent 0 [(1,.iptr 2 λj=>[Xb .u32 g.addr,encL 2 Xa g.blocks].getD j .undef),(3,.ptr 3 0 0 0 0)]
  [(0,.row 1 (Wc g.blocks.length [Xj]) 0),(1,.row 1 (Wc g.blocks.length [Xb .i64 0]) 0),(2,.row 3 [[Xb .i64 0,Xi,Xi]] 0),(3,.row 5 [[.int .u32 g.addr,encL 2 Xa g.blocks,.own 0 0 0 0 g.blocks.length,.own 1 0 0 0 g.blocks.length,.mp 2 0]] 0)] 4 [(1,encP 2 g.cells),(3,.ptr 0 0 0 0 0)] (nb0 g) 5:=by
 have b:g.cells=[.int .u32 g.addr,encL 2 Xa g.blocks]:=rfl;unfold nb0;exact(Xh [(0,3,0),(1,0,0),(2,1,0),(3,2,0)] [] rfl (by((try simp only[evWB,Xc,Xd,Xf,Xe,Xg,implies_true,b,encP])<;>(repeat' with_reducible apply Wa)<;>first|(exact zau (c:=cN) (λ_=>rfl) rfl;done)|exact fin6)) (by((try simp only[evWB,Xc,Xd,Xf,Xe,Xg,implies_true,b,encP])<;>(repeat' with_reducible apply Wa)<;>first|(exact zau (c:=cN) (λ_=>rfl) rfl;done)|exact fin6)))
theorem zLl(g:G)(d:g.blocks.length<=1000):Ent 0 [(1,.iptr 2 λj=>[Xb .u32 g.addr,encL 2 Xa g.blocks].getD j .undef),(3,.ptr 3 0 0 0 0)]
  [(0,.row 1 (Wc g.blocks.length [Xj]) 0),(1,.row 3 [[Xb .i64 0,Xi,Xi]] 0),(2,.row 1 (Wc g.blocks.length [Xb .i64 0]) 0),(3,.row 5 [[.int .u32 g.addr,encL 2 Xa g.blocks,.own 0 0 0 0 g.blocks.length,.own 2 0 0 0 g.blocks.length,.mp 1 0]] 0)] 4 [(1,encP 2 g.cells),(3,.ptr 0 0 0 0 0)] (nb0 g) 5:=by
 have b:g.cells=[.int .u32 g.addr,encL 2 Xa g.blocks]:=rfl;unfold nb0;exact(Xh [(0,3,0),(1,0,0),(2,2,0),(3,1,0)] [] rfl (by((try simp only[evWB,Xc,Xd,Xf,Xe,Xg,implies_true,b,encP])<;>(repeat' with_reducible apply Wa)<;>first|(exact zau (c:=cN) (λ_=>rfl) rfl;done)|exact fin6)) (by((try simp only[evWB,Xc,Xd,Xf,Xe,Xg,implies_true,b,encP])<;>(repeat' with_reducible apply Wa)<;>first|(exact zau (c:=cN) (λ_=>rfl) rfl;done)|exact fin6)))
theorem zLe(g:G)(d:g.blocks.length<=1000):Ent 0 [(1,.iptr 2 λj=>[Xb .u32 g.addr,encL 2 Xa g.blocks].getD j .undef),(3,.ptr 3 0 0 0 0)]
  [(0,.row 1 (Wc g.blocks.length [Xb .i64 0]) 0),(1,.row 1 (Wc g.blocks.length [Xj]) 0),(2,.row 3 [[Xb .i64 0,Xi,Xi]] 0),(3,.row 5 [[.int .u32 g.addr,encL 2 Xa g.blocks,.own 1 0 0 0 g.blocks.length,.own 0 0 0 0 g.blocks.length,.mp 2 0]] 0)] 4 [(1,encP 2 g.cells),(3,.ptr 0 0 0 0 0)] (nb0 g) 5:=by
 have b:g.cells=[.int .u32 g.addr,encL 2 Xa g.blocks]:=rfl;unfold nb0;exact(Xh [(0,3,0),(1,1,0),(2,0,0),(3,2,0)] [] rfl (by((try simp only[evWB,Xc,Xd,Xf,Xe,Xg,implies_true,b,encP])<;>(repeat' with_reducible apply Wa)<;>first|(exact zau (c:=cN) (λ_=>rfl) rfl;done)|exact fin6)) (by((try simp only[evWB,Xc,Xd,Xf,Xe,Xg,implies_true,b,encP])<;>(repeat' with_reducible apply Wa)<;>first|(exact zau (c:=cN) (λ_=>rfl) rfl;done)|exact fin6)))
theorem zJ7(g:G)(d:g.blocks.length<=1000):Ent 0 [(1,.iptr 2 λj=>[Xb .u32 g.addr,encL 2 Xa g.blocks].getD j .undef),(3,.ptr 3 0 0 0 0)]
  [(0,.row 3 [[Xb .i64 0,Xi,Xi]] 0),(1,.row 1 (Wc g.blocks.length [Xj]) 0),(2,.row 1 (Wc g.blocks.length [Xb .i64 0]) 0),(3,.row 5 [[.int .u32 g.addr,encL 2 Xa g.blocks,.own 1 0 0 0 g.blocks.length,.own 2 0 0 0 g.blocks.length,.mp 0 0]] 0)] 4 [(1,encP 2 g.cells),(3,.ptr 0 0 0 0 0)] (nb0 g) 5:=by
 have b:g.cells=[.int .u32 g.addr,encL 2 Xa g.blocks]:=rfl;unfold nb0;exact(Xh [(0,3,0),(1,1,0),(2,2,0),(3,0,0)] [] rfl (by((try simp only[evWB,Xc,Xd,Xf,Xe,Xg,implies_true,b,encP])<;>(repeat' with_reducible apply Wa)<;>first|(exact zau (c:=cN) (λ_=>rfl) rfl;done)|exact fin6)) (by((try simp only[evWB,Xc,Xd,Xf,Xe,Xg,implies_true,b,encP])<;>(repeat' with_reducible apply Wa)<;>first|(exact zau (c:=cN) (λ_=>rfl) rfl;done)|exact fin6)))
theorem zKe(g:G)(d:g.blocks.length<=1000):Ent 0 [(1,.iptr 2 λj=>[Xb .u32 g.addr,encL 2 Xa g.blocks].getD j .undef),(3,.ptr 3 0 0 0 0)]
  [(0,.row 1 (Wc g.blocks.length [Xb .i64 0]) 0),(1,.row 3 [[Xb .i64 0,Xi,Xi]] 0),(2,.row 1 (Wc g.blocks.length [Xj]) 0),(3,.row 5 [[.int .u32 g.addr,encL 2 Xa g.blocks,.own 2 0 0 0 g.blocks.length,.own 0 0 0 0 g.blocks.length,.mp 1 0]] 0)] 4 [(1,encP 2 g.cells),(3,.ptr 0 0 0 0 0)] (nb0 g) 5:=by
 have b:g.cells=[.int .u32 g.addr,encL 2 Xa g.blocks]:=rfl;unfold nb0;exact(Xh [(0,3,0),(1,2,0),(2,0,0),(3,1,0)] [] rfl (by((try simp only[evWB,Xc,Xd,Xf,Xe,Xg,implies_true,b,encP])<;>(repeat' with_reducible apply Wa)<;>first|(exact zau (c:=cN) (λ_=>rfl) rfl;done)|exact fin6)) (by((try simp only[evWB,Xc,Xd,Xf,Xe,Xg,implies_true,b,encP])<;>(repeat' with_reducible apply Wa)<;>first|(exact zau (c:=cN) (λ_=>rfl) rfl;done)|exact fin6)))
theorem zJT(g:G)(d:g.blocks.length<=1000):Ent 0 [(1,.iptr 2 λj=>[Xb .u32 g.addr,encL 2 Xa g.blocks].getD j .undef),(3,.ptr 3 0 0 0 0)]
  [(0,.row 3 [[Xb .i64 0,Xi,Xi]] 0),(1,.row 1 (Wc g.blocks.length [Xb .i64 0]) 0),(2,.row 1 (Wc g.blocks.length [Xj]) 0),(3,.row 5 [[.int .u32 g.addr,encL 2 Xa g.blocks,.own 2 0 0 0 g.blocks.length,.own 1 0 0 0 g.blocks.length,.mp 0 0]] 0)] 4 [(1,encP 2 g.cells),(3,.ptr 0 0 0 0 0)] (nb0 g) 5:=by
 have b:g.cells=[.int .u32 g.addr,encL 2 Xa g.blocks]:=rfl;unfold nb0;exact(Xh [(0,3,0),(1,2,0),(2,1,0),(3,0,0)] [] rfl (by((try simp only[evWB,Xc,Xd,Xf,Xe,Xg,implies_true,b,encP])<;>(repeat' with_reducible apply Wa)<;>first|(exact zau (c:=cN) (λ_=>rfl) rfl;done)|exact fin6)) (by((try simp only[evWB,Xc,Xd,Xf,Xe,Xg,implies_true,b,encP])<;>(repeat' with_reducible apply Wa)<;>first|(exact zau (c:=cN) (λ_=>rfl) rfl;done)|exact fin6)))
set_option maxHeartbeats 4000000 in
theorem zI1(g:G)(b:g.blocks.length<=1000){Q:QT}(h:wpX Z9 0 zba Q [(1,encP 2 g.cells),(3,.ptr 0 0 0 0 0)] (nb0 g) 5):
  zaV Z9 (.tree (zcQ zdp zc8 13 (Wc 13 false))) [12,13,14,15,16,17,18,19,20,21,22,23] (seqQ Z9 0 (.mark 1 zba) Q) [(1,.iptr 2 λj=>[Xb .u32 g.addr,encL 2 Xa g.blocks].getD j .undef)] [] 0:=by
 have c:=hBig;conv in zcQ _ _ _ _=>reduce
 (repeat first|simp(maxSteps:=10000000) (disch:=try exact dis1) only[evD,Xc,Xd,Xe,io0]|with_reducible intro _|((with_reducible apply Wa);omega))
 (repeat' with_reducible apply Wa)
 all_goals try omega
 all_goals first
  |exact zaD _ _ _ (λ_=>⟨zJY g b,h⟩)
  |exact zaD _ _ _ (λ_=>⟨zLl g b,h⟩)
  |exact zaD _ _ _ (λ_=>⟨zLe g b,h⟩)
  |exact zaD _ _ _ (λ_=>⟨zJ7 g b,h⟩)
  |exact zaD _ _ _ (λ_=>⟨zKe g b,h⟩)
  |exact zaD _ _ _ (λ_=>⟨zJT g b,h⟩)
def kdE(E:Adj)(i b:Nat):List Nat:=((ordE E).take i).filter λk=>decide ((treeL E).getD k (-1)=(b:Int))
def ctE(E:Adj)(i b:Nat):Nat:=(((ordE E).take i).map λk=>(suc E k).count b).sum
def ct2(E:Adj)(i:Nat)(l:List Nat)(b:Nat):Nat:=ctE E i b+l.count b
def cnR(f:Nat->Nat)(n:Nat):List (List AV):=(We n).map λb=>[Xb .i64 ((f b:Nat):Int)]
section
variable {E:Adj}
theorem zAS:kdE E 0=λ_=>[]:=by funext b;simp[kdE]
theorem zJM{i d:Nat}(h:i<(ordE E).length)(e:(treeL E).getD (ordE E)[i] (-1)=(d:Int)):kdE E (i+1)=updF (kdE E i) d (kdE E i d++[(ordE E)[i]]):=by
 funext b;unfold kdE updF;rw[filter_take_succ h];by_cases c:b=d
 .subst c;rw[if_pos rfl,e,decide_eq_true rfl];rfl
 .rw[if_neg c,e,decide_eq_false (by omega)];simp
theorem kdE_no{i:Nat}(h:i<(ordE E).length)(c:(treeL E).getD (ordE E)[i] (-1)<0):kdE E (i+1)=kdE E i:=by funext b;unfold kdE;rw[filter_take_succ h,decide_eq_false (by omega)];simp
theorem zFC{b:Nat}:kdE E (ordE E).length b=zaQ E b:=by unfold kdE zaQ;rw[Wh]
theorem zDO{i b:Nat}:(kdE E i b).length<=i:=filter_take_le _ _ _
theorem zwL{b:Nat}:ctE E 0 b=0:=by simp[ctE]
theorem zv1{i:Nat}(h:i<(ordE E).length){b:Nat}:ctE E (i+1) b=ct2 E i (suc E (ordE E)[i]) b:=by unfold ctE ct2 ctE;rw[Wr h,List.map_append,List.sum_append];simp
theorem zEV{b:Nat}:ctE E (ordE E).length b=cntE E b:=by unfold ctE cntE;rw[Wh]
theorem zDF(c:∀k,(suc E k).length<=1000){b:Nat}:∀i,ctE E i b<=i*1000
 |0=>by rw[zwL];exact Wg _
 |
  i+1=>by
  have d:=zDF c (b:=b) i;by_cases h:i<(ordE E).length
  .rw[zv1 h];unfold ct2;have g:=Ww (a:=b) (l:=suc E (ordE E)[i]);have j:=c (ordE E)[i];omega
  .have e:ctE E (i+1) b=ctE E i b:=by unfold ctE;rw[Wk (by omega),Wk (by omega)]
   rw[e];exact Wp d (Nat.mul_le_mul_right _ (Nat.le_succ _))
theorem zH1{i j:Nat}{l:List Nat}(h:j<l.length):updF (ct2 E i (l.take j)) l[j] (ct2 E i (l.take j) l[j]+1)=ct2 E i (l.take (j+1)):=by
 funext b;unfold updF ct2;rw[Wr h,List.count_append];by_cases c:b=l[j]
 .rw[if_pos c,<-c];simp;omega
 .rw[if_neg c,List.count_singleton,if_neg (by simpa using λe=>c e.symm)];omega
theorem zBh{i:Nat}:ct2 E i []=ctE E i:=by funext b;simp[ct2]
theorem zIb{n:Nat}:cnR (ctE E 0) n=Wc n [.int .i64 0]:=by
 unfold cnR;apply List.ext_getElem
 .simp
 .intro i b c;simp[zwL]
theorem zJA{f:Nat->Nat}{n:Nat}:(cnR f n).length=n:=by simp[cnR]
theorem zKn{f:Nat->Nat}{n b:Nat}(h:b<n):(cnR f n).getD b []=[.int .i64 ((f b:Nat):Int)]:=by simp[cnR,Wj,h]
theorem zKQ{f:Nat->Nat}{n b:Nat}:(cnR f n).set b [.int .i64 ((f b:Nat)+1:Int)]=cnR (updF f b (f b+1)) n:=by
 unfold cnR;rw[za3];refine Wu λi c=>?_
 unfold updF;split
 .rfl
 .rfl
theorem zdD{f:Nat->Nat}{n:Nat}:zw (cnR f n):=zE λ_=>rfl
end
theorem zJs{H H2:AH}{σ:Nat->Nat->Option (Nat×Nat×Nat)}{D:Nat->Nat->Prop}{t:Bool}{r q b n:Nat}{f:Nat->Nat}(g:D r q)(c:H.get r q=some (.row 1 (cnR f n) b))(h:n<=big):Vw H H2 σ D t (.own r q b 0 n) (zb ((We n).map f)):=by
 have e:cnR f n=((We n).map f).map cN:=by unfold cnR;rw[Wi];rfl
 rw[e]at c;have d:((We n).map f).length=n:=by simp
 have:=zbX (H2:=H2) (σ:=σ) (t:=t) g c (by rw[d];exact h)
 rwa [d]at this
theorem zGw{H h:AH}{σ:Nat->Nat->Option (Nat×Nat×Nat)}{D:Nat->Nat->Prop}{t:Bool}{F r q e n:Nat}{b:Nat->List Nat}{g:Nat->Nat}(j:D r q)(o:H.get r q=some (.row 1 (fe F n b g) e))(m:n<=big)(k:H.look F=some (.fam 1 (fi cN n b g)))(c:∀i,i<n->D F (i+1))(d:∀i,(b i).length<=big):Vw H h σ D t (.own r q e 0 n) (encNN ((We n).map b)):=by rw[zz6];exact zAN j o m k c (λi _=>d i) (λ_=>rfl)
def nbH(g:G)(c:Nat->List Nat)(b d:Nat->Nat)(m:List (List AV)):AH:=[(0,.row 5 [[.int .u32 g.addr,encL 2 Xa g.blocks,.own 1 0 0 0 g.blocks.length,.own 2 0 0 0 g.blocks.length,.mp 3 0]] 0),(1,.row 1 (fe 4 g.blocks.length c b) 0),(2,.row 1 (cnR d g.blocks.length) 0),(3,.row 3 m 0),(4,.fam 1 (fi cN g.blocks.length c b))]
theorem nb0_eq(g:G):nb0 g=nbH g (kdE (eG g) 0) (λ_=>0) (ctE (eG g) 0) [[.int .i64 0,.undef,.undef]]:=by unfold nb0 nbH;rw[zAS,zIb]
theorem Qz{d e g p:Prop}(a0:d)(b:e)(c:g)(h:d->e->g->p:=by intro a0 b c;(try simp only[evWB,Nat.reduceBEq,Nat.reduceAdd,Nat.reduceSub,Nat.reduceLeDiff,Nat.reduceLT,implies_true,a0,b,c])<;>(repeat' with_reducible apply And.intro)<;>first|(first|exact RowV.of_flat zdD;done)|exact fin8):p:=h a0 b c
theorem zlj(g:G)(C:OkB g):zS Z9 zbd [.agg g.cells] [] 0 (λv H nx=>v=.ptr 0 0 0 0 0/\H=bldH g []/\nx=2):=by
 refine zaA (fn_x zlm rfl ?_);unfold zfE;have hB:=hBig;have hn:=C.small.1;have hgl:g.toG.blocks.length=g.blocks.length:=by simp[G.toG]
 rw[hgl]at hn;have y:=zL C;have hEl:=zeg (g:=g);have hT:=zkp g.toG C.small;have hO:=zfr g.toG C.small;have hF:=zwI g.toG C.small y;rw[G.toG_cells]at hT hO hF;have hoe:orderL g.toG.E=ordE (eG g):=by unfold orderL ordE ordL;rw[if_neg (by have h2:0<(Gr.E g.toG).length:=y.pos;omega)]
 rw[hoe]at hO;have hol:=zvI C;have htl:(treeL (eG g)).length=g.blocks.length:=by simp[treeL,hEl]
 have o:g.cells=[.int .u32 g.addr,encL 2 Xa g.blocks]:=rfl;rw[o];refine Gw0 ?_;intros;refine zI1 g hn ?_;refine dcU zba.eq_1 ?_;refine Gw2 @ua @G.two ?_;intros;refine ze (zc hT rfl) ?_;refine Gw2 @ua @G.two ?_;intros;refine ze (zc hO rfl) ?_;rw[nb0_eq];refine Gw1 @ub ?_;intros;have hsl:=λk=>zBK C k
 refine zd (λs:Nat×(Nat->Nat)=>([(1,encP 2 g.cells),(3,.ptr 0 0 0 0 0),(4,za (treeL (eG g))),(27,zb (ordE (eG g))),(28,.int .i64 (ordE (eG g)).length),(29,.int .i64 s.1)],nbH g (kdE (eG g) s.1) s.2 (ctE (eG g) s.1) [[.int .i64 0,.undef,.undef]])) 5
  (λs=>s.1<=(ordE (eG g)).length) (λs=>(ordE (eG g)).length-s.1) (0,λ_=>0) (Wg _) ?start ?_
 case start=>unfold nbH;exact(Xh [(0,0,0),(1,1,0),(2,2,0),(3,3,0),(4,4,0)] [] rfl (Qz @ub @ua o) (Qz @ub @ua o))
 rintro⟨i,gs⟩ hi wf;simp only at hi;clear wf;unfold zee;by_cases z:i<(ordE (eG g)).length
 case pos=>
  have B:(ordE (eG g))[i]<g.blocks.length:=by have:=zaT y (Wn z);omega
  have hky:=λd=>zJM (E:=eG g) (i:=i) (d:=d) z
  have hkn:=kdE_no (E:=eG g) (i:=i) z;have hcs:=λb=>zv1 (E:=eG g) (i:=i) z (b:=b)
  have hgi:((ordE (eG g)).map λ(n:Nat)=>[Xb .i64 (n:Int)]).getD i []=[.int .i64 ((ordE (eG g))[i]:Int)]:=zg (f:=cN) (d:=[]) z;generalize (ordE (eG g))[i]=x at B hky hkn hcs hgi;have hti:x<(treeL (eG g)).length:=by omega
  have hgt:((treeL (eG g)).map λn=>[Xb .i64 n]).getD x []=[.int .i64 (treeL (eG g))[x]]:=zg (f:=cI) (d:=[]) hti;have htx:(treeL (eG g)).getD x (-1)=(treeL (eG g))[x]:=by simp[Wj,hti]
  rw[htx]at hkn;simp only[htx]at hky;have hgb:(g.blocks.map Xa).getD x []=(blG g x).cells:=by rw[zg B,zoL B]
  have J:=zlZ (blG g x) (λs hs=>Wp (C.cases _ (zes B) s hs) (by decide));rw[zEx C B]at J;have hslx:=hsl x;have Q:∀t∈suc (eG g) x,t<g.blocks.length:=λt ht=>by have:=y.ok x t ht;omega
  generalize suc (eG g) x=m at J hslx Q hcs;have hctl:=λb=>zDF hsl (b:=b) i
  have hmi:encL 1 (λ(n:Int)=>[Xb .i64 n]) (m.map λ(t:Nat)=>(t:Int))=zb m:=zhg m
  have A:∀I K H nx,Ent 0 K H nx [(1,encP 2 g.cells),(3,.ptr 0 0 0 0 0),(4,za (treeL (eG g))),(27,zb (ordE (eG g))),(28,.int .i64 (ordE (eG g)).length),(29,.int .i64 i),(60,zb m),(61,.int .i64 m.length),(62,.int .i64 0)] (nbH g (kdE (eG g) (i+1)) I (ctE (eG g) i) [[.int .i64 0,.undef,.undef]]) 5 ->
    zCP Z9 0 zcy (zg0 2 (zg0 1 (seqQ Z9 0 zcx (zsH 0 (λs:Nat×(Nat->Nat)=>([(1,encP 2 g.cells),(3,.ptr 0 0 0 0 0),(4,za (treeL (eG g))),(27,zb (ordE (eG g))),(28,.int .i64 (ordE (eG g)).length),(29,.int .i64 s.1)],nbH g (kdE (eG g) s.1) s.2 (ctE (eG g) s.1) [[.int .i64 0,.undef,.undef]])) 5 (λs=>s.1<=(ordE (eG g)).length) (λs=>(ordE (eG g)).length-s.1) (i,gs) (zg0 0 (seqQ Z9 0 zcw (retK zdi (ztU 0 λv H nx=>v=.ptr 0 0 0 0 0/\H=bldH g []/\nx=2)))))))) K H nx:=by
   intro I K H nx hent
   refine zd (λj:Nat=>([(1,encP 2 g.cells),(3,.ptr 0 0 0 0 0),(4,za (treeL (eG g))),(27,zb (ordE (eG g))),(28,.int .i64 (ordE (eG g)).length),(29,.int .i64 i),(60,zb m),(61,.int .i64 m.length),(62,.int .i64 j)],nbH g (kdE (eG g) (i+1)) I (ct2 (eG g) i (m.take j)) [[.int .i64 0,.undef,.undef]])) 5
    (λj=>j<=m.length) (λj=>m.length-j) 0 (Wg _) (by rw[List.take_zero,zBh];exact hent) ?_
   intro j hj wf;clear wf;refine dcU zcy.eq_1 ?_;by_cases hj':j<m.length
   case neg=>
    obtain rfl:j=m.length:=by omega
    rw[Wh];unfold nbH;refine Gw1 @dF ?_;intros;refine dcU zcx.eq_1 ?_;refine Gw0 ?_;intros;have M:ct2 (eG g) i m=ctE (eG g) (i+1):=funext λb=>(hcs b).symm
    rw[M];exact⟨(i+1,I),by simp only;omega,by simp only;omega,(Xh [(0,0,0),(1,1,0),(2,2,0),(3,3,0),(4,4,0)] [] rfl (Qz @ub @ua o) (Qz @ub @ua o))⟩
   have hst:=zH1 (E:=eG g) (i:=i) hj';have R:=Q _ (Wn hj');have hgj:(m.map λ(n:Nat)=>[Xb .i64 (n:Int)]).getD j []=[.int .i64 (m[j]:Int)]:=zg (f:=cN) (d:=[]) hj';generalize m[j]=u at hst R hgj;have hcu:ct2 (eG g) i (m.take j) u<=1001*1000:=by unfold ct2;have:=hctl u;have:=Ww (a:=u) (l:=m.take j);rw[Wx]at this;omega
   generalize ct2 (eG g) i (m.take j)=f at hst hcu⊢;have hse:=zKQ (f:=f) (n:=g.blocks.length) (b:=u);rw[hst]at hse;unfold nbH
   (repeat first|simp(disch:=try exact dis1) only[evD,Xc,Xd,Xe,dT,zb,hgj,zJA,zKn R,hse]|with_reducible first|intro _|refine aJ ?_)
   exact⟨j+1,by omega,by omega,(Xh [(0,0,0),(1,1,0),(2,2,0),(3,3,0),(4,4,0)] [] rfl (Qz @ub @ua o) (Qz @ub @ua o))⟩
  unfold nbH;by_cases h0:0<=(treeL (eG g))[x];case neg=>refine Gw5 @dT @ub hgi @ud hgt ?_;intros;refine Gw6 @dF @ua o hgb @Bl.two @Bl.len ?_;intros;refine ze (zc J rfl) ?_;refine Gw2 @ud hmi ?_;intros;refine Gw2 @ub @m9M ?_;intros;refine A gs _ _ _ ?_;rw[hkn (by omega)];unfold nbH;exact(Xh [(0,0,0),(1,1,0),(2,2,0),(3,3,0),(4,4,0)] [] rfl (Qz @ub @ua o) (Qz @ub @ua o))
  obtain⟨d,hd⟩:∃d:Nat,(treeL (eG g))[x]=d:=⟨((treeL (eG g))[x]).toNat,by omega⟩;have L:d<g.blocks.length:=by obtain⟨T,D⟩:=dtree_ex y.ok y.pos;have h1:=zsf y D (k:=x) (by omega);rw[htx,hd]at h1;have h2:=zaT y (D.wt.up x d ((zt6 y).1 h1.symm)).2.1;omega
  have hkd:=hky d hd;have hkl:=zDO (E:=eG g) (i:=i) (b:=d);generalize kdE (eG g) i=w at hkd hkl⊢;rw[hd]at hgt;refine Gw5 @dT @ub hgi @ud hgt ?_;intros;refine Gw1 @dT ?_;intros;have hfi:=zvS (c:=cN) (n:=g.blocks.length) (k:=d) (g:=gs d+1) (ll:=w) (gs:=gs) (a:=x) (ca:=[Xb .i64 (x:Int)]) rfl;have M:=zwB (F:=4) (n:=g.blocks.length) (g:=gs d+1) (ll:=w) (k:=d) (gs:=gs) (m:=(w d).length+1) x rfl;refine zsg zdJ zi0 zh9 zdb [(39,.ptr 0 0 0 0 0),(40,.ptr 0 0 0 0 0),(41,.ptr 0 0 0 0 2),(42,.own 1 0 0 0 g.blocks.length),(43,.int .i64 d),(44,.ptr 0 0 0 0 0),(45,.ptr 0 0 0 0 0),(46,.ptr 0 0 0 0 2),(47,.own 1 0 0 0 g.blocks.length),(48,.int .i64 d),(49,.ptr 1 0 0 d 0),(50,.own 4 (d+1) (gs d) 0 (w d).length),(51,.int .i64 x),(52,.own 5 0 0 0 1),(53,.own 4 (d+1) (gs d+1) 0 ((w d).length+1)),(54,.ptr 1 0 0 d 0)] (hsOf [([(0,.row 5 [[.int .u32 g.addr,encL 2 Xa g.blocks,.own 1 0 0 0 g.blocks.length,.own 2 0 0 0 g.blocks.length,.mp 3 0]] 0),(1,.row 1 (fe 4 g.blocks.length w gs) 0),(2,.row 1 (cnR (ctE (eG g) i) g.blocks.length) 0),(3,.row 3 [[.int .i64 0,.undef,.undef]] 0),(4,.fam 1 (fi cN g.blocks.length w gs))],5),([(0,.row 5 [[.int .u32 g.addr,encL 2 Xa g.blocks,.own 1 0 0 0 g.blocks.length,.own 2 0 0 0 g.blocks.length,.mp 3 0]] 0),(1,.row 1 (fe 4 g.blocks.length w gs) 0),(2,.row 1 (cnR (ctE (eG g) i) g.blocks.length) 0),(3,.row 3 [[.int .i64 0,.undef,.undef]] 0),(4,.fam 1 (fi cN g.blocks.length w gs)),(5,.row 1 [[.int .i64 x]] 0)],6),([(0,.row 5 [[.int .u32 g.addr,encL 2 Xa g.blocks,.own 1 0 0 0 g.blocks.length,.own 2 0 0 0 g.blocks.length,.mp 3 0]] 0),(1,.row 1 (fe 4 g.blocks.length w gs) 0),(2,.row 1 (cnR (ctE (eG g) i) g.blocks.length) 0),(3,.row 3 [[.int .i64 0,.undef,.undef]] 0),(4,.fam 1 (fi cN g.blocks.length (updF w d (w d++[x])) (updF gs d (gs d+1)))),(5,.row 1 [[.int .i64 x]] 0)],6),([(0,.row 5 [[.int .u32 g.addr,encL 2 Xa g.blocks,.own 1 0 0 0 g.blocks.length,.own 2 0 0 0 g.blocks.length,.mp 3 0]] 0),(1,.row 1 (fe 4 g.blocks.length (updF w d (w d++[x])) (updF gs d (gs d+1))) 0),(2,.row 1 (cnR (ctE (eG g) i) g.blocks.length) 0),(3,.row 3 [[.int .i64 0,.undef,.undef]] 0),(4,.fam 1 (fi cN g.blocks.length (updF w d (w d++[x])) (updF gs d (gs d+1)))),(5,.row 1 [[.int .i64 x]] 0)],6)]) (by kernel_rfl) (by rfl) (by rfl) (by repeat' first|exact QExt.retK|apply QExt.seq|apply QExt.block|apply QExt.loop|apply QExt.join|assumption) ?plan [] (by rfl) ?fin
  case' plan=>
   intro p hs q hH;have S:p.get 39=.ptr 0 0 0 0 0:=by rw[q,zj];rfl
   have U:p.get 40=.ptr 0 0 0 0 0:=by rw[q,zj];rfl
   have V:p.get 41=.ptr 0 0 0 0 2:=by rw[q,zj];rfl
   have W:p.get 42=.own 1 0 0 0 g.blocks.length:=by rw[q,zj];rfl
   have X:p.get 43=.int .i64 d:=by rw[q,zj];rfl
   have Y:p.get 44=.ptr 0 0 0 0 0:=by rw[q,zj];rfl
   have Z:p.get 45=.ptr 0 0 0 0 0:=by rw[q,zj];rfl
   have kf46:p.get 46=.ptr 0 0 0 0 2:=by rw[q,zj];rfl
   have kf47:p.get 47=.own 1 0 0 0 g.blocks.length:=by rw[q,zj];rfl
   have kf48:p.get 48=.int .i64 d:=by rw[q,zj];rfl
   have kf49:p.get 49=.ptr 1 0 0 d 0:=by rw[q,zj];rfl
   have kf50:p.get 50=.own 4 (d+1) (gs d) 0 (w d).length:=by rw[q,zj];rfl
   have kf51:p.get 51=.int .i64 x:=by rw[q,zj];rfl
   have kf52:p.get 52=.own 5 0 0 0 1:=by rw[q,zj];rfl
   have kf53:p.get 53=.own 4 (d+1) (gs d+1) 0 ((w d).length+1):=by rw[q,zj];rfl
   have kf54:p.get 54=.ptr 1 0 0 d 0:=by rw[q,zj];rfl
   have kf3:p.get 3=.ptr 0 0 0 0 0:=by rw[q,zj];rfl
   have kf6:p.get 6=.int .i64 x:=by rw[q,zj];rfl
   have kf7:p.get 7=.int .i64 d:=by rw[q,zj];rfl
   simp only[zdb,zng,zpD,and_true]
   (repeat' with_reducible apply Wa)
   all_goals(rw[hH];simp only[zpH,zdl,Wy,Wz,hsOf,hsAt,beqL,zgX,Xc,Bool.and_true,Bool.true_and,Bool.and_false,Bool.false_and,cond_true,cond_false,Wl,Wm,Xd])
   all_goals try(simp(disch:=try exact dis1) only[evD,Xc,Xd,Xe,zcW,zca,S,U,V,W,X,Y,Z,kf46,kf47,kf48,kf49,kf50,kf51,kf52,kf53,kf54,kf3,kf6,kf7,zpa,ztC L,zl9 L,hfi,M];done)
  case' fin=>simp only[zdJ,hsOf,hsAt,beqL,zgX,Xc,Bool.and_true,Bool.true_and,Bool.and_false,Bool.false_and,cond_true,cond_false,Wl,Wm,Xd,Wy,Wz,zaI]
  ·(refine Gw5 @ua o hgb @Bl.two @Bl.len ?_;intros);refine ze (zc J rfl) ?_;refine Gw2 @ud hmi ?_;intros;refine Gw2 @ub @m9M ?_;intros;refine A (updF gs d (gs d+1)) _ _ _ ?_;rw[hkd];unfold nbH;exact(Xh [(0,0,0),(1,1,0),(2,2,0),(3,3,0),(4,4,0)] [] rfl (Qz @ub @ua o) (Qz @ub @ua o))
  all_goals(repeat first|simp(disch:=try exact dis1) only[evD,Xc,Xd,Xe,S,U,V,W,X,Y,Z,kf46,kf47,kf48,kf49,kf50,kf51,kf52,kf53,kf54,zpa,ztC L,zl9 L,hfi,M,zcW,zca]|with_reducible first|intro _|refine aJ ?_)
  all_goals omega
 obtain rfl:i=(ordE (eG g)).length:=by omega
 unfold nbH;refine Gw1 @dF ?_;intros;refine dcU zcw.eq_1 ?_;refine Gw2 @ua @G.two ?_;intros;refine zmV (D:=noR) hF (.cons (zV rfl) .nil) (λa _=>.inr λ_ _ h=>h) ?_;rintro _ ⟨P,rfl,hP⟩;have hPk:P.map zrO=(hdL (eG g)).map λh=>(h,zfo (eG g) h):=by rw[hP];unfold loL hdL;rw[Wi];have:(ordE g.toG.E).take (ordE g.toG.E).length=ordE (eG g):=Wh;rw[this];rfl
 have hpl:P.length=(hdL (eG g)).length:=by have:=congrArg List.length hPk;simpa using this
 have hhl:(hdL (eG g)).length<=(ordE (eG g)).length:=Wv _ _;have hhn:(hdL (eG g)).Nodup:=(rpo y.ok y.pos).nd.filter _
 have hk:∀j (h:j<P.length) (h2:j<(hdL (eG g)).length),P[j].h=(hdL (eG g))[j]/\P[j].body=zfo (eG g) (hdL (eG g))[j]:=λj h h2=>by
  have e:(P.map zrO)[j]'(by rw[Wd];exact h)=((hdL (eG g)).map λh=>(h,zfo (eG g) h))[j]'(by rw[Wd];exact h2):=by simp only[hPk]
  rw[Wo,Wo]at e;exact⟨congrArg Prod.fst e,congrArg Prod.snd e⟩
 have hke:∀b,kdE (eG g) (ordE (eG g)).length b=zaQ (eG g) b:=λb=>zFC
 have hce:ctE (eG g) (ordE (eG g)).length=cntE (eG g):=funext λb=>zEV
 have hkl:=λk=>znq C (k:=k)
 rw[hce,show kdE (eG g) (ordE (eG g)).length=zaQ (eG g)from funext hke];refine Gw0 ?_;intros
 refine zd (λi:Nat=>([(3,.ptr 0 0 0 0 0),(78,encL 4 cLo P),(79,.int .i64 P.length),(80,.int .i64 i)],nbH g (zaQ (eG g)) gs (cntE (eG g)) (boM (eG g) ((hdL (eG g)).take i)))) 5
  (λi=>i<=P.length) (λi=>P.length-i) 0 (Wg _) ?start3 ?_
 case start3=>have h0:boM (eG g) ((hdL (eG g)).take 0)=[[.int .i64 0,.undef,.undef]]:=rfl;unfold nbH;rw[h0];exact(Xh [(0,0,0),(1,1,0),(2,2,0),(3,3,0),(4,4,0)] [] rfl (Qz @ub @ua o) (Qz @ub @ua o))
 intro i hi2 wf;clear wf;refine dcU zel.eq_1 ?_;by_cases hip:i<P.length
 case neg=>
  obtain rfl:i=P.length:=by omega
  rw[hpl,Wh];unfold nbH;refine Gw1 @dF ?_;intros;unfold zem;refine Gw1 @zdi.eq_1 ?_;intros;refine⟨.ptr 0 0 0 0 0,bldH g [],2,?_,rfl,rfl,rfl⟩;have hkb:∀k,(zaQ (eG g) k).length<=big:=λk=>by have:=hkl k;omega
  unfold bldH;exact(Xh [(0,0,0),(1,3,0)] [1,2,4] rfl (by((try simp only[evWB,Xc,Xd,Xf,Xe,Xg,implies_true])<;>(repeat' with_reducible apply Wa)<;>first|(first|exact Xk zI|exact zJs rfl rfl (by omega)|exact zGw rfl rfl (by omega) rfl (λ_ _=>rfl) hkb;done)|exact fin8)) (by((try simp only[evWB,Xc,Xd,Xf,Xe,Xg,implies_true])<;>(repeat' with_reducible apply Wa)<;>first|(first|exact Xk zI|exact zJs rfl rfl (by omega)|exact zGw rfl rfl (by omega) rfl (λ_ _=>rfl) hkb;done)|exact fin8)))
 have hi3:i<(hdL (eG g)).length:=by omega
 obtain⟨hk1,hk2⟩:=hk i hip hi3;have hgp:=zg (f:=cLo) (d:=[]) hip;have O:cLo P[i]=[.int .i64 (P[i].h:Int),zb P[i].body,za P[i].ex,.int .i64 P[i].par]:=rfl;rw[hk1,hk2]at O;have htk:(hdL (eG g)).take (i+1)=(hdL (eG g)).take i++[(hdL (eG g))[i]]:=Wr hi3;have hnm:=zBo hhn hi3;have htl2:((hdL (eG g)).take i).length=i:=by rw[Wx];omega
 have N:=zHY (E:=eG g) (l:=(hdL (eG g)).take i) (a:=(hdL (eG g))[i]);rw[<-htk]at N;have hmf:=(zsi (E:=eG g) (k:=(hdL (eG g))[i]) (l:=((hdL (eG g)).take i).zipIdx) (i:=0)).1 (by rw[List.zipIdx_map_fst];exact hnm);have hbm:boM (eG g) ((hdL (eG g)).take i)=[.int .i64 (((hdL (eG g)).take i).length:Int),.undef,.undef]::((hdL (eG g)).take i).zipIdx.map (cBo (eG g)):=rfl;rw[O]at hgp;unfold nbH;refine Gw6 @dT hgp hbm hmf @ui @uh ?_;intros;exact⟨i+1,by omega,by omega,(Xh [(0,0,0),(1,1,0),(2,2,0),(3,3,0),(4,4,0)] [] rfl (by((try simp only[evWB,Xc,Xd,Xf,Xe,Xg,implies_true,N])<;>(repeat' with_reducible apply Wa)<;>first|(first|exact Xk zdD|(refine Xk ?_;exact N▸zI);done)|exact fin8)) (by((try simp only[evWB,Xc,Xd,Xf,Xe,Xg,implies_true,N])<;>(repeat' with_reducible apply Wa)<;>first|(first|exact Xk zdD|exact Xk zI;done)|exact fin8)))⟩
end Go.Ab
