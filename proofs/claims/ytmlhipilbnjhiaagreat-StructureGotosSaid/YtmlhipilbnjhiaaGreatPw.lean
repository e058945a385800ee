/-
  Part 23 of the proof: how the calls of this program run, over values instead of memory, and what each function computes.
-/
import Derived.KernelRfl
import Derived.Test.YtmlhipilbnjhiaaGreatPv
set_option maxRecDepth 100000
set_option linter.unusedVariables false
set_option linter.unusedSimpArgs false
set_option linter.unnecessarySimpa false
set_option linter.unusedSectionVars false
open Go.Ab.Bl renaming cells->Xa
open Go.Ab.AV renaming int->Xb,undef->Xi,nilsl->Xk,ren->Xo,lt0->Xq,flat0->Xs,flat->Xt
open Nat renaming reduceBEq->Xc,reduceAdd->Xd,reduceLeDiff->Xe,reduceSub->Xf,reduceLT->Xg
open Go.Ab.Ent renaming tab->Xh,tabB->Xr,low->Xv
open Go.Ab.AH renaming cutL->Xj,look_put->Xm,put->Xn,look->Xp,over->Xu
open Go.Ab.RowV renaming of_flat->Xl
open Go.Proofs.Tryz renaming prog->Z9
open And renaming intro→Wa
open List renaming replicate→Wc,range→Wd,length_map→We,all_eq_true→Wi,take_length→Wk,map_map→Wn,getD_eq_getElem?_getD→Wo,getElem_mem→Wp,map_cons→Wq,take_of_length_le→Wr,length_cons→Ws,length_nil→Wt,getElem_map→Wu,map_congr_left→Wv,take_succ_eq_append_getElem→Wx,length_take→Wy,mem_singleton→Wz,length_singleton→WA,length_filter_le→WB,count_le_length→WC,getD_cons_succ→WD,getD_cons_zero→WE
open Nat renaming le_refl→Wf,blt→Wg,zero_le→Wj,beq→Wl,blt_eq→Wm,le_trans→Ww,lt_of_lt_of_le→WF
open Bool renaming and_eq_true→Wh
namespace Go.Ab
open Go.RowKit Go.Proofs
def zCv(b e lb:Int)(d c:Nat):Prop :=
 1<=b/\b<=12/\((b=3\/b=5\/b=6)->d=1)/\(b=3\/b=5\/b=6\/d=0) /\
 (b=1\/(b=3/\c=2)\/((b=4\/b=5)/\c=1)\/(b=6/\1<=c/\c<=64)\/((b=2\/7<=b)/\c=0)) /\
 (b=2\/b=5\/e=0)/\(b=9\/b=10\/lb=0)/\0<=lb
instance (kd bl lb:Int) (cn ln:Nat):Decidable (zCv kd bl lb cn ln):=by unfold zCv;infer_instance
theorem hgX{e:Ex}:[encX e].getD (Int.toNat 0) []=encX e:=rfl
def St.toS(s:St):Stm:=⟨s.op,s.var,s.width,s.next,s.els,s.tgt,encL 5 encX s.e,s.cases⟩
def Bl.toB(b:Bl):Blk:=⟨b.addr,b.stmts.map St.toS⟩
def G.toG(g:G):Gr:=⟨g.addr,g.blocks.map Bl.toB⟩
theorem zzE{α β:Type}{n:Nat}{f:β->List AV}{h:α->β}{l:List α}:encL n f (l.map h)=encL n (λx=>f (h x)) l:=by unfold encL;rw[We,Wn];rfl
theorem St.toS_cells(s:St):s.toS.cells=s.cells:=rfl
theorem Bl.toB_cells(b:Bl):b.toB.cells=b.cells:=by unfold Bl.toB Blk.cells Xa;simp only[zzE,St.toS_cells]
theorem G.toG_cells(g:G):g.toG.cells=g.cells:=by unfold G.toG Gr.cells G.cells;simp only[zzE,Bl.toB_cells]
theorem Bl.toB_targets(b:Bl):b.toB.targets=zai b.stmts:=by unfold Blk.targets zai Bl.toB;simp only[List.getLast?_map];cases b.stmts.getLast? <;> rfl
theorem zdq{g:G}(h:fewG g=true):g.blocks.length<=12/\∀b∈g.blocks,b.stmts.length<=8/\∀s∈b.stmts,s.cases.length<=8/\s.e.length<=3/\zjv s.e=true:=by unfold fewG at h;rw[Wh,decide_eq_true_eq]at h;refine⟨h.2,λb k=>?_⟩;have j:=h.1;rw[Wr (by omega),Wi]at j;have d:=j b k;unfold blOk at d;rw[Wh,decide_eq_true_eq,Wi]at d;refine⟨d.1,λs m=>?_⟩;have c:=d.2 s m;unfold stOk at c;rw[Wh,Wh,decide_eq_true_eq,decide_eq_true_eq]at c;exact⟨c.1,c.2.1,c.2.2⟩
theorem zCn{g:G}(h:fewG g=true):fewB g:=⟨(zdq h).1,λb c=>((zdq h).2 b c).1⟩
theorem zBo{g:G}(h:fewG g=true):∀b∈g.blocks,∀s∈b.stmts,s.cases.length<=100000000:=λb c s d=>by have:=(((zdq h).2 b c).2 s d).1;omega
theorem zic{l:List St}{n:Nat}(c:2<=n)(h:∀s∈l,s.cases.length<=n):(zai l).length<=n:=by
 unfold zai
 cases b:l.getLast? with
 |none=>simp
 |some s=>
  have:=h s (List.mem_of_getLast? b);simp only[zhQ];split
  .simp only[WA];omega
  .split
   .simp only[Ws,Wt];omega
   .split
    .exact this
    .simp
theorem zh0{g:G}(h:fewG g=true):g.toG.small:=by obtain⟨j,d⟩:=zdq h;refine⟨by simp only[G.toG,We];omega,λb c=>?_⟩;simp only[G.toG,List.mem_map]at c;obtain⟨b,c,rfl⟩:=c;rw[Bl.toB_targets];have:=zic (l:=b.stmts) (n:=8) (by omega) (λs e=>((d b c).2 s e).1);omega
def st0:St:=⟨0,0,0,0,0,0,[],[]⟩
def blG(g:G)(k:Nat):Bl:=g.blocks.getD k ⟨0,[]⟩
def zaG(g:G)(k:Nat):St:=(blG g k).stmts.getLast?.getD st0
def oneG(g:G)(k:Nat):Bool:=decide ((blG g k).stmts.length=1)
abbrev eG(g:G):Dm.Adj:=g.toG.E
structure OkB(g:G):Prop where
 small:g.toG.small
 pos:0<g.blocks.length
 ne:∀b∈g.blocks,b.stmts≠[]
 tg:∀b∈g.blocks,∀t∈zai b.stmts,0<=t/\t<g.blocks.length
 cond:∀b∈g.blocks,∀s∈b.stmts.getLast?,s.op=7\/s.op=8->∃e,s.e=[e]/\zhS e<=100000
 cases:∀b∈g.blocks,∀s∈b.stmts,s.cases.length<=1000
 stm:∀b∈g.blocks,b.stmts.length<=100000
section
variable {g:G}
theorem zdf:(eG g).length=g.blocks.length:=by rw[Gr.E_len];simp[G.toG]
theorem zph{k:Nat}(h:k<g.blocks.length):blG g k=g.blocks[k]:=by simp[blG,Wo,h]
theorem zeV{k:Nat}(h:k<g.blocks.length):blG g k∈g.blocks:=by rw[zph h];exact Wp h
theorem ztU{l:List St}:zai l=zhQ (l.getLast?.getD st0):=by unfold zai;cases l.getLast? <;> rfl
theorem zCS(h:OkB g){k:Nat}(b:k<g.blocks.length):zai (blG g k).stmts=(Dm.suc (eG g) k).map λ(t:Nat)=>(t:Int):=by
 have d:=h.tg _ (zeV b)
 have e:Dm.suc (eG g) k=(zai (blG g k).stmts).map Int.toNat:=by
  show(Gr.E g.toG).getD k []=_;unfold Gr.E;have m:k<g.toG.blocks.length:=by simp only[G.toG,We];exact b
  rw[zi m];have j:(g.toG.blocks[k]).targets=zai (blG g k).stmts:=by rw[zph b];simp only[G.toG,Wu];exact Bl.toB_targets _
  rw[j,List.filter_eq_self.2];intro t c;have:=d t c;unfold Dm.edgeOk;simp only[G.toG,We,Wh,decide_eq_true_eq];exact this
 rw[e,Wn];conv=>lhs;rw[<-List.map_id (zai (blG g k).stmts)]
 refine Wv λt c=>?_
 have:=d t c;simp only[id,Function.comp];omega
theorem zo(h:OkB g):EdgeOk (eG g) (zaG g):=by refine⟨Gr.E_ok _,by rw[zdf];exact h.pos,λk b=>?_⟩;rw[zdf]at b;rw[<-zCS h b,ztU];rfl
theorem zus(h:OkB g)(k:Nat):(Dm.suc (eG g) k).length<=1000:=by
 by_cases c:k<g.blocks.length
 .have e:=zCS h c;have b:=congrArg List.length e;rw[We]at b;rw[<-b];exact zic (by omega) (λs d=>h.cases _ (zeV c) s d)
 .unfold Dm.suc;rw[Wo,List.getElem?_eq_none (by rw[zdf];omega)];exact Wj _
theorem zuv(h:OkB g){k:Nat}:(zcB (eG g) k).length<=g.blocks.length:=by unfold zcB;refine Ww (WB _ _) ?_;exact zoV (Dm.rpo (zo h).ok (zo h).pos).nd λx b=>by have:=zbl (zo h) b;rwa [zdf]at this
theorem ztH(h:OkB g):(ordE (eG g)).length<=g.blocks.length:=zoV (Dm.rpo (zo h).ok (zo h).pos).nd λx b=>by have:=zbl (zo h) b;rwa [zdf]at this
end
noncomputable def cBo(E:Dm.Adj)(p:Nat×Nat):List AV:=[.int .i64 (p.1:Int),za (zfm E p.1),.int .i64 (p.2:Int)]
noncomputable def boM(E:Dm.Adj)(l:List Nat):List (List AV):=[.int .i64 (l.length:Int),.undef,.undef]::l.zipIdx.map (cBo E)
theorem zqD{E:Dm.Adj}{k:Nat}:∀ {l:List (Nat×Nat)}{i:Nat},(k∉l.map (·.1)->zeu (.int .i64 (k:Int)) (l.map (cBo E)) i=some none)/\(k∈l.map (·.1)->∃j,zeu (.int .i64 (k:Int)) (l.map (cBo E)) i=some (some (j,za (zfm E k))))
 |[],i=>⟨λ_=>rfl,λh=>by cases h⟩
 |
  p::l,i=>by
  obtain⟨g,m⟩:=zqD (E:=E) (k:=k) (l:=l) (i:=i+1);by_cases h:k=p.1
  .refine⟨λc=>absurd (by simp[h]) c,λ_=>⟨i,?_⟩⟩;subst h;simp only[Wq,cBo,zeu,zub,if_true,decide_true]
  .have d:¬(k:Int)=(p.1:Int):=by omega
   have e:zeu (.int .i64 (k:Int)) ((p::l).map (cBo E)) i=zeu (.int .i64 (k:Int)) (l.map (cBo E)) (i+1):=by simp only[Wq,cBo,zeu,zub,if_true,decide_eq_false d]
   rw[e,Wq];refine⟨λc=>g λb=>c (List.mem_cons_of_mem _ b),λb=>m ?_⟩;rcases List.mem_cons.1 b with b|b
   .exact absurd b h
   .exact b
theorem zGs{E:Dm.Adj}{l:List Nat}{a:Nat}:boM E (l++[a])=[.int .i64 ((l.length:Int)+1),.undef,.undef]::(l.zipIdx.map (cBo E)++[[.int .i64 (a:Int),za (zfm E a),.int .i64 (l.length:Int)]]):=by unfold boM;rw[List.zipIdx_append,List.map_append,List.length_append,WA];simp[cBo]
theorem zz{E:Dm.Adj}{l:List Nat}:zr (boM E l):=zaD rfl (zI λ_=>rfl)
noncomputable def hdL(E:Dm.Adj):List Nat:=(ordE E).filter (zeN E)
noncomputable def bldH(g:G)(T:AH):AH :=
 (0,.row 5 [[.int .u32 g.addr,encL 2 Xa g.blocks,Dm.encNN ((Wd g.blocks.length).map (zcB (eG g))),za ((Wd g.blocks.length).map (cntE (eG g))),.mp 1 0]] 0)::(1,.row 3 (boM (eG g) (hdL (eG g))) 0)::T
def zeI:ACode:=Z8 0x80000095717881182016c8401001160150800103c271300000000400b1052110111301224040011011130120301104c03062a130440300000000008942113 []
def zeL:List ARet:=[.cell 4 true 8]
theorem zjt:zU Z9 zbw (qRo [])=some (zeI.strip,zeL,21):=by kernel_rfl
def zi4:ACode:=Z8 0x84320417381632021300000606211816103011000011403005114052000156015030031331100000039047c32213 []
def zfv:List ARet:=[.cell 4 true 3]
theorem zoE:zU Z9 za7 (qRo [])=some (zi4.strip,zfv,13):=by kernel_rfl
def zdg:ACode:=Z8 0x2d110a21001c062d22100041c76104211d813c0101001115c0a0020ec25100001c7610521dc813c0101001115c0a0080051140000002c7100176011012140a00110113301104c0302c281300b310721102b14031315307014300c1c36b2113 []
def zdm:ACode:=Z8 0x808c007067d002042800703d2413 []
def zef:ACode:=Z8 0x1909605110000015040823133016c016c42213 [zdg,zdm]
attribute[irreducible]zdg zdm
def zee:List ARet:=[.tmp 4,.tmp 5]
theorem ziO:zU Z9 zaE (qRo [])=some (zef.strip,zee,33):=by kernel_rfl
def ze8:ACode:=Z8 0x805fc141b581112a001024400000059c0400313084fc131b5817001014400000059c6d22131400063c76101d215d760110a1230402d2513843c5141b5818001014400000059c0d22131400065c510bc21fc760110a113040cc25138495141b58140120faac2213140008806105c219c760110a1030406c251380003150081b581124c30ea0a320400301c251314007241092122cea040050a2413053314400000059061c72213 []
def zap:List ARet:=[.cell 8 true 5]
theorem zjW:zU Z9 zbH (qRo [7])=some (ze8.strip,zap,37):=by kernel_rfl
def zcO:ACode:=Z8 0x800002000091858112a944dfa063205103004106130440000005952113 []
def zcS:List ARet:=[.cell 5 true 5]
theorem zgh:zU Z9 zp (qRo [])=some (zcO.strip,zcS,11):=by kernel_rfl
def zbZ:List AOper:=[(oF 28 6 1 9),(oL 29 28),(oN 30 (.idx 5 (.t 29) (.c (.int .i64 0)))),(oA 31 5 30),(oN 32 (.callq zaX [(.t 31)])),(oN 33 (.rbuildSl 5 1 [.int .i64 0,.int .u32 0,.int .i64 0,.int .i64 0,.nilsl] [(0,(.t 32))])),(oM 34 10),(oF 35 3 1 9),(oL 36 35),(oN 37 (.callv (.t 34) [(.t 36)])),(oM 38 10),(oF 39 4 1 9),(oL 40 39),(oN 41 (.callv (.t 38) [(.t 40)])),(oN 42 (.rbuildSl 5 2 [.int .i64 0,.int .i64 0,.int .i64 0,.nilsl,.nilsl] [(0,(.t 37)),(1,(.t 41))])),(oN 43 (.build [.int .i64 0,.int .i64 0,.int .i64 0,.nilsl,.nilsl] [(0,1,(.c (.int .i64 3))),(3,1,(.t 33)),(4,1,(.t 42))])),(oS 5 8 43)]
def zeC:List (List Nat):=[[],[0],[1],[2],[3],[4],[],[],[7],[6,8,4],[],[],[11],[10,12,9],[9,13],[5,14],[15,13,0,1,2,3,4,5,6,7,8,9,10,11,12,13,14,15]]
def zca:List Nat:=[9,13,16]
def zfx:List (List Nat):=[[],[0],[0,1],[0,1,2],[0,1,2,3],[0,1,2,3,4],[],[],[7],[0,1,2,3,4,6,7,8],[],[],[11],[0,1,2,3,4,6,7,8,9,10,11,12],[0,1,2,3,4,6,7,8,9,10,11,12,13],[0,1,2,3,4,5,6,7,8,9,10,11,12,13,14],[0,1,2,3,4,5,6,7,8,9,10,11,12,13,14,15]]
def zfj:List (List Nat):=[[],[9],[9,13],[9,13,16]]
def zbS:Plan:=[(0,[],[]),(1,[],[]),(2,[],[]),(3,[],[]),(4,[],[]),(5,[],[]),(6,[],[]),(7,[],[]),(8,[],[]),(9,[],[9]),(10,[],[]),(11,[],[]),(12,[],[]),(12,[9],[9]),(13,[9],[9,13]),(14,[9,13],[9,13]),(15,[9,13],[9,13]),(16,[9,13],[9,13,16])]
def zcw:ACode:=Z8 0x08f110ce2100fe0608f22100000002e1c911102118132c14302104f0cf53c0307f01440000005158c05f2203f101f22112bc0311102118132c14302104f0cf53c03101440000005158c0206f105fbc04f2303f101f234c0021c002f222c14300f22200de3101c21102de1403132531701430eefe36de2113 []
def zcx:ACode:=Z8 0x80c00ed0a61b5812c5209f2213 []
def zcy:ACode:=Z8 0x820af21b5811c001014400000059c0df2213 []
def zdk:ACode:=.seq (.region [(oN 4 (.box (.t 0))),(oN 6 (.rbox (.t 2))),(oN 7 (.rbox (.t 3))),(oN 8 (.alloc [.int .i64 0,.int .i64 0,.int .i64 0,.nilsl,.nilsl]))] [0,2,3]) (.seq (.region [(oL 14 4),(oM 15 1),(oN 16 (.call zbw [(.t 14),(.t 15)])),(oN 9 (.alloc [.int .i64 0,.int .i64 0,.int .i64 0,.int .i64 0,.int .i64 0,.int .u32 0,.nilsl,.nilsl])),(oS 8 9 16)] [1,14,15,16]) (.seq (.region [(oN 17 (.mkfn (.func zp) [(.t 4),(.t 6),(.t 7)])),(oM 10 17)] [4,6,7,17]) (.seq (.seq (.region [(oF 18 0 1 9),(oL 19 18)] [18]) (.block 0 (.seq (.region [(oC 21 .eql 19 6),(oM 20 21)] [21]) (.cond (.t 20) (.seq (.region [(oM 22 10),(oF 23 3 1 9),(oL 24 23),(oN 25 (.callv (.t 22) [(.t 24)])),(oS 5 8 25)] [9,10,19,20,22,23,24,25]) (.ret)) (.seq (.region [(oC 27 .eql 19 7),(oM 26 27)] [20,27]) (.cond (.t 26) (.seq (.draw (zd9 zbZ zeC 17 (Wc 17 false)) [9,10,19,26,28,29,30,31,32,33,34,35,36,37,38,39,40,41,42,43]) (.ret)) (.seq (.region [(oC 45 .eql 19 8),(oM 44 45)] [26,45]) (.cond (.t 44) (.seq (.region [(oF 46 6 1 9),(oL 47 46),(oN 48 (.idx 5 (.t 47) (.c (.int .i64 0)))),(oA 49 5 48),(oN 50 (.call zaX [(.t 49)])),(oN 51 (.rbuildSl 5 1 [.int .i64 0,.int .u32 0,.int .i64 0,.int .i64 0,.nilsl] [(0,(.t 50))])),(oN 52 (.build [.int .i64 0,.int .i64 0,.int .i64 0,.nilsl,.nilsl] [(0,1,(.c (.int .i64 6))),(3,1,(.t 51))])),(oN 11 (.alloc [.int .i64 0,.int .i64 0,.int .i64 0,.nilsl,.nilsl])),(oS 5 11 52)] [19,44,46,47,48,49,50,51,52]) (.seq (.seq (.region [(oF 53 7 1 9),(oL 54 53),(oE 55 54),(oK 56 0)] [9,53]) (.block 1 (.loop zcw))) (zcx))) (.seq (.region [(oC 71 .eql 19 9),(oM 70 71)] [9,10,19,44,71]) (.cond (.t 70) (.seq (.region [(oN 72 (.build [.int .i64 0,.int .i64 0,.int .i64 0,.nilsl,.nilsl] [(0,1,(.c (.int .i64 11)))])),(oS 5 8 72)] [70,72]) (.ret)) (.skip))))))))))) (zcy))))
def zW:List ARet:=[.cell 8 true 5]
theorem zhd:zU Z9 zC (qRo [6,7,33,42,51,65])=some (zdk.strip,zW,74):=by kernel_rfl
def zdi:ACode:=Z8 0x9d1101c21004c069d22100000060c008b107215d0cf53c0101440000005158c0126d30ea01c3200c00300a008100000002c88211811c10301101fc1401001060b0040071140007c41bc3601504001001060b07c251336c19c138100000039a28326c23130002c48c006c0821104c2c14020051315307014303c4c362c2113 []
def zdd:ACode:=Z8 0x8cc003130081062a0ad2213 []
def zd8:ACode:=Z8 0x190960500000015040b23133056c011332256c051c52213 [zdi,zdd]
attribute[irreducible]zdi zdd
def zei:List ARet:=[.tmp 6]
theorem ziN:zU Z9 zP (qRo [5,35])=some (zd8.strip,zei,39):=by kernel_rfl
def zdz:ACode:=Z8 0x02f1102d21005d0602f2210004ad2c6100c2101f813c0101001115c05c003c0ee2510000ad2c610b21de813c0101001115c05c002c00511400000000000000ac3c4c101ed701202e713f61001863113121435c03113113331104c3301af610300017631532c013f610010ad24c130006d4103c210c0122cea05c00606d2513003d3102c211023d14031315307014304d5d363d2113 []
def zge:List AOper:=[(oA 146 5 7),(oA 147 5 21),(oN 148 (.buildSl 5 2 [.int .i64 0,.int .i64 0,.int .i64 0,.nilsl,.nilsl] [(0,(.t 146)),(1,(.t 147))])),(oM 149 0),(oM 150 11),(oA 151 3 9),(oN 152 (.call zP [(.t 149),(.t 150),(.t 151)])),(oN 153 (.append 5 72 (.t 148) (.t 152))),(oN 154 (.call zQ [(.t 153)])),(oS 5 10 154)]
def zfW:List (List Nat):=[[],[],[0,1],[],[],[],[3,4,5],[2,6,6],[7,7],[8,8,0,1,2,3,4,5,6,7,8]]
def zbK:ACode:=.seq (.draw (zd9 zge zfW 10 (Wc 10 false)) [0,1,7,9,11,19,20,21,132,146,147,148,149,150,151,152,153,154]) (.ret)
def zbM:ACode:=.seq (.region [(oM 92 1),(oN 93 (.build [.int .i64 0,.int .i64 0,.int .i64 0,.nilsl,.nilsl] [(0,1,(.c (.int .i64 2))),(1,1,(.t 92))])),(oA 94 5 19),(oN 95 (.buildSl 5 2 [.int .i64 0,.int .i64 0,.int .i64 0,.nilsl,.nilsl] [(0,(.t 93)),(1,(.t 94))])),(oM 96 20),(oN 97 (.append 5 72 (.t 95) (.t 96))),(oN 98 (.call zQ [(.t 97)])),(oN 99 (.buildSl 5 1 [.int .i64 0,.int .i64 0,.int .i64 0,.nilsl,.nilsl] [(0,(.t 98))])),(oN 100 (.build [.int .i64 0,.int .i64 0,.int .i64 0,.nilsl,.nilsl] [(0,1,(.c (.int .i64 4))),(4,1,(.t 99))])),(oN 21 (.alloc [.int .i64 0,.int .i64 0,.int .i64 0,.nilsl,.nilsl])),(oS 5 21 100)] [92,93,94,95,96,97,98,99,100]) (.seq (.seq (.region [(oM 101 0),(oX 102 101),(oF 103 0 2 102),(oF 104 1 1 103),(oL 105 104),(oM 106 1),(oI 107 2 105 106),(oF 108 1 1 107),(oL 109 108),(oE 110 109),(oC 111 .eql 110 1),(oM 112 111),(oG 113 112 true (.fldaddr 0 1 (.t 19))),(oG 114 112 true (.load false 1 (.t 113))),(oG 115 112 true (.bin .eql (.t 114) (.c (.int .i64 3)))),(oN 116 (.pick (.t 112) (.t 115) (.c (.bool false)))),(oM 117 116),(oG 118 117 true (.fldaddr 4 1 (.t 19))),(oG 119 117 true (.load false 1 (.t 118))),(oG 120 117 true (.idx 5 (.t 119) (.c (.int .i64 1)))),(oG 121 117 true (.fldaddr 0 1 (.t 120))),(oG 122 117 true (.load false 1 (.t 121))),(oG 123 117 true (.bin .eql (.t 122) (.c (.int .i64 7)))),(oN 124 (.pick (.t 117) (.t 123) (.c (.bool false)))),(oM 125 124),(oG 126 125 true (.fldaddr 4 1 (.t 19))),(oG 127 125 true (.load false 1 (.t 126))),(oG 128 125 true (.idx 5 (.t 127) (.c (.int .i64 0)))),(oG 129 125 true (.fldaddr 0 1 (.t 128))),(oG 130 125 true (.load false 1 (.t 129))),(oG 131 125 true (.bin .neq (.t 130) (.c (.int .i64 7)))),(oN 132 (.pick (.t 125) (.t 131) (.c (.bool false))))] [101,102,103,104,105,106,107,108,109,110,111,112,113,114,115,116,117,118,119,120,121,122,123,124,125,126,127,128,129,130,131]) (.cond (.t 132) (.draw (.step (oM 133 1) (.step (oF 134 3 1 19) (.step (oF 136 4 1 19) (.step (oM 141 20) (.alt (oL 135 134) (.alt (oL 137 136) (.alt (oN 138 (.idx 5 (.t 137) (.c (.int .i64 0)))) (.alt (oA 139 5 138) (.alt Yad (.alt Yac (.alt (oN 143 (.call zQ [(.t 142)])) (.alt Yaa (.step Yab (.alt (oS 5 21 145) (.done) (.stop))) (.stop)) (.stop)) (.stop)) (.stop)) (.stop)) (.stop)) (.stop)) (.alt (oL 137 136) (.alt (oL 135 134) (.alt (oN 138 (.idx 5 (.t 137) (.c (.int .i64 0)))) (.alt (oA 139 5 138) (.alt Yad (.alt Yac (.alt (oN 143 (.call zQ [(.t 142)])) (.alt Yaa (.step Yab (.alt (oS 5 21 145) (.done) (.stop))) (.stop)) (.stop)) (.stop)) (.stop)) (.stop)) (.stop)) (.alt (oN 138 (.idx 5 (.t 137) (.c (.int .i64 0)))) (.alt (oL 135 134) (.alt (oA 139 5 138) (.alt Yad (.alt Yac (.alt (oN 143 (.call zQ [(.t 142)])) (.alt Yaa (.step Yab (.alt (oS 5 21 145) (.done) (.stop))) (.stop)) (.stop)) (.stop)) (.stop)) (.stop)) (.alt (oA 139 5 138) (.alt (oL 135 134) (.alt Yad (.alt Yac (.alt (oN 143 (.call zQ [(.t 142)])) (.alt Yaa (.step Yab (.alt (oS 5 21 145) (.done) (.stop))) (.stop)) (.stop)) (.stop)) (.stop)) (.alt Yad (.alt (oL 135 134) (.alt Yac (.alt (oN 143 (.call zQ [(.t 142)])) (.alt Yaa (.step Yab (.alt (oS 5 21 145) (.done) (.stop))) (.stop)) (.stop)) (.stop)) (.alt Yac (.alt (oL 135 134) (.alt (oN 143 (.call zQ [(.t 142)])) (.alt Yaa (.step Yab (.alt (oS 5 21 145) (.done) (.stop))) (.stop)) (.stop)) (.alt (oN 143 (.call zQ [(.t 142)])) (.alt (oL 135 134) (.alt Yaa (.step Yab (.alt (oS 5 21 145) (.done) (.stop))) (.stop)) (.alt Yaa (.step (oL 135 134) (.step Yab (.alt (oS 5 21 145) (.done) (.stop)))) (.stop))) (.stop))) (.stop))) (.stop))) (.stop))) (.stop))) (.stop))))))) [1,19,20,132,133,134,135,136,137,138,139,140,141,142,143,144,145]) (.skip))) (.mark 17 (zbK)))
def zdB:ACode:=.seq (.region [(oM 64 0),(oM 65 12),(oN 66 (.call zaE [(.t 64),(.t 65)])),(oM 63 66),(oT 67 0 63),(oT 68 1 63),(oM 16 67),(oM 17 68)] [3,12,28,29,30,63,64,65,66,67,68]) (.seq (.region [(oM 69 1),(oM 70 1),(oF 71 0 1 9),(oL 72 71),(oN 73 (.build [.int .i64 0,.int .i64 0,.int .i64 0] [(0,1,(.t 69)),(1,1,(.t 70)),(2,1,(.t 72))])),(oN 18 (.alloc [.int .i64 0,.int .i64 0,.int .i64 0])),(oS 3 18 73)] [69,70,71,72,73]) (.seq (.seq (.region [(oM 74 11),(oE 75 74),(oC 76 .gtr 75 0)] [74,75]) (.cond (.t 76) (.region [(oM 77 11),(oN 78 (.idx 1 (.t 77) (.c (.int .i64 0)))),(oL 79 78),(oF 80 2 1 18),(oS 1 80 79)] [76,77,78,79,80]) (.skip))) (.seq (.region [(oM 81 0),(oM 82 1),(oM 83 17),(oM 84 16),(oA 85 3 18),(oN 86 (.call za7 [(.t 84),(.t 85)])),(oN 87 (.call zC [(.t 81),(.t 82),(.t 83),(.t 86)])),(oN 19 (.alloc [.int .i64 0,.int .i64 0,.int .i64 0,.nilsl,.nilsl])),(oS 5 19 87)] [17,76,81,82,83,84,85,86,87]) (.seq (.region [(oM 88 0),(oM 89 16),(oA 90 3 18),(oN 91 (.call zP [(.t 88),(.t 89),(.t 90)])),(oM 20 91)] [16,18,88,89,90,91]) (.mark 15 (zbM))))))
def zeM:ACode:=.seq (.region [(oN 7 (.rbox (.t 2))),(oN 9 (.rbox (.t 4))),(oN 10 (.alloc [.int .i64 0,.int .i64 0,.int .i64 0,.nilsl,.nilsl]))] [2,4]) (.seq (.region [(oN 11 (.mknil 1)),(oN 12 (.mknil 1))] []) (.seq (.seq (.region [(oM 22 0),(oX 23 22),(oF 24 2 1 23),(oL 25 24),(oM 26 1),(oI 27 1 25 26),(oL 28 27),(oE 29 28),(oK 30 0)] [22,23,24,25,26,27]) (.block 0 (.loop zdz))) (.mark 2 (zdB))))
def zbi:List ARet:=[.cell 10 true 5]
theorem zjw:zU Z9 zbt (qRoL [7,9] [(18,[0,1,2,3,4,5,6,7,8,9,11,12,13,14,15,16,17,18,19,20,21,22,23,24,25,26,27,28,29,30,31,32,33,34,35,36,37,38,39,40,41,42,43,44,45,46,47,48,49,50,51,52,53,54,55,56,57,58,59,60,61,62,63,64,65,66,67,68,69,70,71,72,73,74,75,76,77,78,79,80,81,82,83,84,85,86,87,88,89,90,91,92,93,94,95,96,97,98,99,100,101,102,103,104,105,106,107,108,109,110,111,112,113,114,115,116,117,118,119,120,121,122,123,124,125,126,127,128,129,130,131,132,133,134,135,136,137,138,139,140,141,142,143,144,145,146,147,148,149]),(19,[0,1,2,3,4,5,7,9,10,11,12,13,14,15,16,17,18,19,20,21,22,23,24,25,26,27,28,29,30,31,32,33,34,35,36,37,38,39,40,41,42,43,44,45,46,47,48,49,50,51,52,53,54,55,56,57,58,59,60,61,62,63,64,65,66,67,68,69,70,71,72,73,74,75,76,77,78,79,80,81,82,83,84,85,86,87,88,89,90,91,92,93,94,95,96,97,98,99,100,101,102,103,104,105,106,107,108,109,110,111,112,113,114,115,116,117,118,119,120,121,122,123,124,125,126,127,128,129,130,131,132,133,134,135,136,137,138,139,140,141,142,143,144,145,146,147,148,149])])=some (zeM.strip,zbi,155):=by kernel_rfl
def zbO:ACode:=Z8 0x8000000dd1440b195811120fa01de0cf53c012ee321fa083201c003003c0ae281300000000003d3512c11110100c22be24e1103440000005355c9e23a52fd2217e6e5e41efa03110100c22124e12e03440000005355c03ae7e6e5e41efa8e23a52fd231221ffb031110100c22124e12e03440000005355c0317e6e5e41efa039e8e21ffb7e23a52fd238320311110100c22124e12e03440000005355c0317e6e5e41efa031221ffb038326e23a52fd231c0022c002400230021112001024400000059c02400e22230000000000063c82c1e0020a26d12c0102cdd2103d217d21dfa011012140400110112301104c0300304d22c13080000003c013000c19581122d1d0d51cfa08320b00a520400300713149110cc21133000000003c9ec0020826c12c0102cac2103c212241494c0400110114301104c0104c2b13 []
def zct:ACode:=.seq (.region [(oN 5 (.rbox (.t 2))),(oN 6 (.alloc [.int .i64 0,.int .i64 0,.int .i64 0,.nilsl,.nilsl]))] [2]) (.seq (.region [(oM 13 1),(oN 14 (.build [.int .i64 0,.int .i64 0,.int .i64 0,.nilsl,.nilsl] [(0,1,(.c (.int .i64 10))),(2,1,(.t 13))])),(oN 7 (.alloc [.int .i64 0,.int .i64 0,.int .i64 0,.nilsl,.nilsl])),(oS 5 7 14)] [13,14]) (.mark 1 (zbO)))
def zcu:List ARet:=[.cell 6 true 5]
theorem zeQ:zU Z9 zB (qRoL [5] [(6,[0,1,2,3,4,5,6,7,8,10,11,12,13,14,15,16,17,18,19,20,21,22,23,24,25,26,27,28,29,30,31,32,33,34,35,36,37,38,39,40,41,42,43,44,45,46,47,48,49,50,51,52,53,54,55,56,57,58,59,60,61,62,63,64,65,66,67,68,69,70,71,72,73,74,75,76,77,78,79,80,81,82,83,84,85,86,87,88,89,90,91,92,93,94,95,96,97,98,99,100,101,102,103,104,105,106,107,108,109,110,111,112,113,114,115,116,117,118,119,120,121,122,123,124,125,126,127,128,129,130,131,132,133,134,135,136,137,138,139,140,141,142,143,144,145,146,147,148,149])])=some (zct.strip,zcu,61):=by kernel_rfl
def zdl:List AOper:=[(oA 12 2 1),(oF 13 1 1 1),(oL 14 13),(oE 15 14),(oN 16 (.mksl 1 24 [.nilsl] (.t 15) (.t 15))),(oF 17 1 1 1),(oL 18 17),(oE 19 18),(oN 20 (.mksl 1 8 [.int .i64 0] (.t 19) (.t 19))),(oN 21 (.xop .mkmap [])),(oN 22 (.build [.int .u32 0,.nilsl,.nilsl,.nilsl,.nilmp] [(0,2,(.t 12)),(2,1,(.t 16)),(3,1,(.t 20)),(4,1,(.t 21))])),(oN 23 (.box (.t 22))),(oM 3 23)]
def zcZ:List (List Nat):=[[],[],[1],[2],[3,3],[],[5],[6],[7,7],[],[0,4,8,9],[10],[11,0,1,2,3,4,5,6,7,8,9,10,11]]
def zde:List AOper:=[(oM 39 3),(oX 40 39),(oF 41 2 1 40),(oL 42 41),(oM 43 7),(oM 44 3),(oX 45 44),(oF 46 2 1 45),(oL 47 46),(oM 48 7),(oI 49 1 47 48),(oL 50 49),(oM 51 6),(oN 52 (.buildSl 1 1 [.int .i64 0] [(0,(.t 51))])),(oN 53 (.append 1 8 (.t 50) (.t 52))),(oI 54 1 42 43),(oS 1 54 53)]
def zg9:List (List Nat):=[[],[0],[1],[2],[],[],[5],[6],[7],[],[8,9],[10],[],[12],[11,13],[3,4,0,1,2,3,4,5,6,7,8,9,10,11,12,13,14],[15,14,14,0,1,2,3,4,5,6,7,8,9,10,11,12,13,14]]
def zdF:List Nat:=[13,14,16]
def ziA:List (List Nat):=[[],[0],[0,1],[0,1,2],[],[],[5],[5,6],[5,6,7],[],[5,6,7,8,9],[5,6,7,8,9,10],[],[12],[5,6,7,8,9,10,11,12,13],[0,1,2,3,4,5,6,7,8,9,10,11,12,13,14],[0,1,2,3,4,5,6,7,8,9,10,11,12,13,14,15]]
def zhR:List (List Nat):=[[],[13],[13,14],[13,14,16]]
def zc2:Plan:=[(0,[],[]),(1,[],[]),(2,[],[]),(3,[],[]),(3,[13],[13]),(3,[13,14],[13,14]),(4,[],[]),(5,[],[]),(6,[],[]),(7,[],[]),(8,[],[]),(8,[13],[13]),(9,[],[]),(10,[],[]),(10,[13],[13]),(11,[],[]),(11,[13],[13]),(12,[],[]),(13,[],[13]),(14,[13],[13,14]),(15,[13,14],[13,14]),(16,[13,14],[13,14,16])]
def zcg:ACode:=Z8 0x0ff11002f210005f0602100000000ce9a211810df0cf1401001060110121400c00110113301104c06006f2a10003f31092110203f140313353270143004f05f3603f2113 []
def zcf:ACode:=Z8 0x1c0000f4101d21004d0610f221 []
def zd7:ACode:=.seq (.region [(oB 30 .lss 29 28)] []) (.seq (.cond (.t 30) (.skip) (.exit 0)) (.seq (.block 1 (.seq (.region [(oI 31 1 27 29),(oL 32 31),(oM 6 32)] [30,31,32]) (.seq (.seq (.region [(oM 33 4),(oM 34 6),(oI 35 1 33 34),(oL 36 35),(oM 7 36)] [33,34,35,36]) (.seq (.region [(oM 37 7),(oC 38 .geq 37 0)] [37]) (.cond (.t 38) (.draw (zd9 zde zg9 17 (Wc 17 false)) [7,38,39,40,41,42,43,44,45,46,47,48,49,50,51,52,53,54]) (.skip)))) (.seq (.region [(oF 55 1 1 1),(oL 56 55),(oM 57 6),(oI 58 2 56 57),(oA 59 2 58),(oN 60 (.call zdL [(.t 59)])),(oE 61 60),(oK 62 0)] [6,7,38,55,56,57,58,59]) (.block 2 (.loop zcg)))))) (zcf)))
def zeg:ACode:=Z8 0x20f11014f210017f0620f22100000000cfb910120f1ef34a4c1311022c1130211022c1030211021143021104c026018f2220015f31af148100440049b21420215f440413553470143016f17f3615f2113 []
def zeh:ACode:=.seq (.region [(oM 93 3),(oM 2 93)] [3,78,79,80,93]) (.ret)
def zce:ACode:=Z8 0x19096453e00ac21600000150111bfa042211f24133 [zeg,zeh]
def za0:ACode:=Z8 0x1909605ec1000001501119fa0422ec241330cc210421118fa0422cc2313 [zd7,zce]
def zfB:ACode:=.seq (.region [(oN 1 (.rbox (.t 0))),(oN 2 (.mov (.c (.nilp))))] [0,2]) (.seq (.draw (zd9 zdl zcZ 13 (Wc 13 false)) [12,13,14,15,16,17,18,19,20,21,22,23]) (.mark 1 (za0)))
attribute[irreducible]zd7 zeg zeh zce
def zdb:List ARet:=[.tmp 2]
theorem zkF:zU Z9 za4 (qRo [1])=some (zfB.strip,zdb,94):=by kernel_rfl
def zgH:ACode:=Z8 0x63c7310b21002c062d22100000003c7810521fc0cf53c0101440000005158c01222ea0400a520800711400000003c81209c701ac210494c3113a1233408d6100b00186011011033c2913000c35c1581440000005972152020c54041315307014301c2c360c2113 []
def zg1:ACode:=Z8 0x82d2217581552021307c0033172118151430803d2313 []
def ziV:ACode:=Z8 0x190960581000001501105143824133056c01130144000000594217c22213 [zgH,zg1]
attribute[irreducible]zgH zg1
def zjn:List ARet:=[.cell 4 true 5]
theorem zoX:zU Z9 zat (qRo [28])=some (ziV.strip,zjn,34):=by kernel_rfl
def zgW:ACode:=Z8 0x38c8310bc2100ec0602100008c852015d34a4c1110b123090041140fc2a0017601101103fc231300cc31d158144000000598215202cc5404131530701430dcec36cc2113 []
def zgL:ACode:=Z8 0x800a002c058000032155811222ea09008526d2513 []
def zi0:ACode:=Z8 0x19096058c100000150111ea02528c241337c11062014c7c22130002701189c15814400000059521000230ea0900129001190010300000039c011fda04223c26130800721510322558170004400000059c041314b1000186010b2213092104211eda0422923133202000004400000059011c0313 [zgW,zgL]
attribute[irreducible]zgW zgL
def zfK:List ARet:=[.cell 2 true 5,.tmp 3]
theorem zoS:zU Z9 zaK (qRo [1])=some (zi0.strip,zfK,37):=by kernel_rfl
end Go.Ab
namespace Go.Ab
open Go.RowKit Go.Proofs Go.Ab.Dm
theorem io0:Int.ofNat 0=(0:Int):=rfl
def nb0(g:G):AH:=[(0,.row 5 [[.int .u32 g.addr,encL 2 Xa g.blocks,.own 1 0 0 0 g.blocks.length,.own 2 0 0 0 g.blocks.length,.mp 3 0]] 0),(1,.row 1 (fe (α:=Nat) 4 g.blocks.length (λ_=>[]) (λ_=>0)) 0),(2,.row 1 (Wc g.blocks.length [.int .i64 0]) 0),(3,.row 3 [[.int .i64 0,.undef,.undef]] 0),(4,.fam 1 (fi cN g.blocks.length (λ_=>[]) (λ_=>0)))]
theorem zIE(g:G)(d:g.blocks.length<=1000):Ent 0 [(1,.iptr 2 λj=>[Xb .u32 g.addr,encL 2 Xa g.blocks].getD j .undef),(3,.ptr 3 0 0 0 0)]
  [(0,.row 1 (Wc g.blocks.length [Xk]) 0),(1,.row 1 (Wc g.blocks.length [Xb .i64 0]) 0),(2,.row 3 [[Xb .i64 0,Xi,Xi]] 0),(3,.row 5 [[.int .u32 g.addr,encL 2 Xa g.blocks,.own 0 0 0 0 g.blocks.length,.own 1 0 0 0 g.blocks.length,.mp 2 0]] 0)] 4 [(1,encP 2 g.cells),(3,.ptr 0 0 0 0 0)] (nb0 g) 5:=by
 have b:g.cells=[.int .u32 g.addr,encL 2 Xa g.blocks]:=rfl;unfold nb0;exact(Xh [(0,3,0),(1,0,0),(2,1,0),(3,2,0)] [] rfl (by((try simp only[evWB,Xc,Xd,Xf,Xe,Xg,implies_true,b,encP])<;>(repeat' with_reducible apply Wa)<;>first|(exact zak (c:=cN) (λ_=>rfl) rfl;done)|exact fin6)) (by((try simp only[evWB,Xc,Xd,Xf,Xe,Xg,implies_true,b,encP])<;>(repeat' with_reducible apply Wa)<;>first|(exact zak (c:=cN) (λ_=>rfl) rfl;done)|exact fin6)))
theorem zJ0(g:G)(d:g.blocks.length<=1000):Ent 0 [(1,.iptr 2 λj=>[Xb .u32 g.addr,encL 2 Xa g.blocks].getD j .undef),(3,.ptr 3 0 0 0 0)]
  [(0,.row 1 (Wc g.blocks.length [Xk]) 0),(1,.row 3 [[Xb .i64 0,Xi,Xi]] 0),(2,.row 1 (Wc g.blocks.length [Xb .i64 0]) 0),(3,.row 5 [[.int .u32 g.addr,encL 2 Xa g.blocks,.own 0 0 0 0 g.blocks.length,.own 2 0 0 0 g.blocks.length,.mp 1 0]] 0)] 4 [(1,encP 2 g.cells),(3,.ptr 0 0 0 0 0)] (nb0 g) 5:=by
 have b:g.cells=[.int .u32 g.addr,encL 2 Xa g.blocks]:=rfl;unfold nb0;exact(Xh [(0,3,0),(1,0,0),(2,2,0),(3,1,0)] [] rfl (by((try simp only[evWB,Xc,Xd,Xf,Xe,Xg,implies_true,b,encP])<;>(repeat' with_reducible apply Wa)<;>first|(exact zak (c:=cN) (λ_=>rfl) rfl;done)|exact fin6)) (by((try simp only[evWB,Xc,Xd,Xf,Xe,Xg,implies_true,b,encP])<;>(repeat' with_reducible apply Wa)<;>first|(exact zak (c:=cN) (λ_=>rfl) rfl;done)|exact fin6)))
theorem zJT(g:G)(d:g.blocks.length<=1000):Ent 0 [(1,.iptr 2 λj=>[Xb .u32 g.addr,encL 2 Xa g.blocks].getD j .undef),(3,.ptr 3 0 0 0 0)]
  [(0,.row 1 (Wc g.blocks.length [Xb .i64 0]) 0),(1,.row 1 (Wc g.blocks.length [Xk]) 0),(2,.row 3 [[Xb .i64 0,Xi,Xi]] 0),(3,.row 5 [[.int .u32 g.addr,encL 2 Xa g.blocks,.own 1 0 0 0 g.blocks.length,.own 0 0 0 0 g.blocks.length,.mp 2 0]] 0)] 4 [(1,encP 2 g.cells),(3,.ptr 0 0 0 0 0)] (nb0 g) 5:=by
 have b:g.cells=[.int .u32 g.addr,encL 2 Xa g.blocks]:=rfl;unfold nb0;exact(Xh [(0,3,0),(1,1,0),(2,0,0),(3,2,0)] [] rfl (by((try simp only[evWB,Xc,Xd,Xf,Xe,Xg,implies_true,b,encP])<;>(repeat' with_reducible apply Wa)<;>first|(exact zak (c:=cN) (λ_=>rfl) rfl;done)|exact fin6)) (by((try simp only[evWB,Xc,Xd,Xf,Xe,Xg,implies_true,b,encP])<;>(repeat' with_reducible apply Wa)<;>first|(exact zak (c:=cN) (λ_=>rfl) rfl;done)|exact fin6)))
theorem zIN(g:G)(d:g.blocks.length<=1000):Ent 0 [(1,.iptr 2 λj=>[Xb .u32 g.addr,encL 2 Xa g.blocks].getD j .undef),(3,.ptr 3 0 0 0 0)]
  [(0,.row 3 [[Xb .i64 0,Xi,Xi]] 0),(1,.row 1 (Wc g.blocks.length [Xk]) 0),(2,.row 1 (Wc g.blocks.length [Xb .i64 0]) 0),(3,.row 5 [[.int .u32 g.addr,encL 2 Xa g.blocks,.own 1 0 0 0 g.blocks.length,.own 2 0 0 0 g.blocks.length,.mp 0 0]] 0)] 4 [(1,encP 2 g.cells),(3,.ptr 0 0 0 0 0)] (nb0 g) 5:=by
 have b:g.cells=[.int .u32 g.addr,encL 2 Xa g.blocks]:=rfl;unfold nb0;exact(Xh [(0,3,0),(1,1,0),(2,2,0),(3,0,0)] [] rfl (by((try simp only[evWB,Xc,Xd,Xf,Xe,Xg,implies_true,b,encP])<;>(repeat' with_reducible apply Wa)<;>first|(exact zak (c:=cN) (λ_=>rfl) rfl;done)|exact fin6)) (by((try simp only[evWB,Xc,Xd,Xf,Xe,Xg,implies_true,b,encP])<;>(repeat' with_reducible apply Wa)<;>first|(exact zak (c:=cN) (λ_=>rfl) rfl;done)|exact fin6)))
theorem zIT(g:G)(d:g.blocks.length<=1000):Ent 0 [(1,.iptr 2 λj=>[Xb .u32 g.addr,encL 2 Xa g.blocks].getD j .undef),(3,.ptr 3 0 0 0 0)]
  [(0,.row 1 (Wc g.blocks.length [Xb .i64 0]) 0),(1,.row 3 [[Xb .i64 0,Xi,Xi]] 0),(2,.row 1 (Wc g.blocks.length [Xk]) 0),(3,.row 5 [[.int .u32 g.addr,encL 2 Xa g.blocks,.own 2 0 0 0 g.blocks.length,.own 0 0 0 0 g.blocks.length,.mp 1 0]] 0)] 4 [(1,encP 2 g.cells),(3,.ptr 0 0 0 0 0)] (nb0 g) 5:=by
 have b:g.cells=[.int .u32 g.addr,encL 2 Xa g.blocks]:=rfl;unfold nb0;exact(Xh [(0,3,0),(1,2,0),(2,0,0),(3,1,0)] [] rfl (by((try simp only[evWB,Xc,Xd,Xf,Xe,Xg,implies_true,b,encP])<;>(repeat' with_reducible apply Wa)<;>first|(exact zak (c:=cN) (λ_=>rfl) rfl;done)|exact fin6)) (by((try simp only[evWB,Xc,Xd,Xf,Xe,Xg,implies_true,b,encP])<;>(repeat' with_reducible apply Wa)<;>first|(exact zak (c:=cN) (λ_=>rfl) rfl;done)|exact fin6)))
theorem zIz(g:G)(d:g.blocks.length<=1000):Ent 0 [(1,.iptr 2 λj=>[Xb .u32 g.addr,encL 2 Xa g.blocks].getD j .undef),(3,.ptr 3 0 0 0 0)]
  [(0,.row 3 [[Xb .i64 0,Xi,Xi]] 0),(1,.row 1 (Wc g.blocks.length [Xb .i64 0]) 0),(2,.row 1 (Wc g.blocks.length [Xk]) 0),(3,.row 5 [[.int .u32 g.addr,encL 2 Xa g.blocks,.own 2 0 0 0 g.blocks.length,.own 1 0 0 0 g.blocks.length,.mp 0 0]] 0)] 4 [(1,encP 2 g.cells),(3,.ptr 0 0 0 0 0)] (nb0 g) 5:=by
 have b:g.cells=[.int .u32 g.addr,encL 2 Xa g.blocks]:=rfl;unfold nb0;exact(Xh [(0,3,0),(1,2,0),(2,1,0),(3,0,0)] [] rfl (by((try simp only[evWB,Xc,Xd,Xf,Xe,Xg,implies_true,b,encP])<;>(repeat' with_reducible apply Wa)<;>first|(exact zak (c:=cN) (λ_=>rfl) rfl;done)|exact fin6)) (by((try simp only[evWB,Xc,Xd,Xf,Xe,Xg,implies_true,b,encP])<;>(repeat' with_reducible apply Wa)<;>first|(exact zak (c:=cN) (λ_=>rfl) rfl;done)|exact fin6)))
set_option maxHeartbeats 4000000 in
theorem zHz(g:G)(b:g.blocks.length<=1000){Q:QT}(h:wpX Z9 0 za0 Q [(1,encP 2 g.cells),(3,.ptr 0 0 0 0 0)] (nb0 g) 5):
  zaP Z9 (.tree (zd9 zdl zcZ 13 (Wc 13 false))) [12,13,14,15,16,17,18,19,20,21,22,23] (seqQ Z9 0 (.mark 1 za0) Q) [(1,.iptr 2 λj=>[Xb .u32 g.addr,encL 2 Xa g.blocks].getD j .undef)] [] 0:=by
 have c:=hBig;conv in zd9 _ _ _ _=>reduce
 (repeat first|simp(maxSteps:=10000000) (disch:=try exact dis1) only[evD,Xc,Xd,Xe,io0]|with_reducible intro _|((with_reducible apply Wa);omega))
 (repeat' with_reducible apply Wa)
 all_goals try omega
 all_goals first
  |exact zaw _ _ _ (λ_=>⟨zIE g b,h⟩)
  |exact zaw _ _ _ (λ_=>⟨zJ0 g b,h⟩)
  |exact zaw _ _ _ (λ_=>⟨zJT g b,h⟩)
  |exact zaw _ _ _ (λ_=>⟨zIN g b,h⟩)
  |exact zaw _ _ _ (λ_=>⟨zIT g b,h⟩)
  |exact zaw _ _ _ (λ_=>⟨zIz g b,h⟩)
def kdE(E:Adj)(i b:Nat):List Nat:=((ordE E).take i).filter λk=>decide ((treeL E).getD k (-1)=(b:Int))
def ctE(E:Adj)(i b:Nat):Nat:=(((ordE E).take i).map λk=>(suc E k).count b).sum
def ct2(E:Adj)(i:Nat)(l:List Nat)(b:Nat):Nat:=ctE E i b+l.count b
def cnR(f:Nat->Nat)(n:Nat):List (List AV):=(Wd n).map λb=>[Xb .i64 ((f b:Nat):Int)]
section
variable {E:Adj}
theorem zFs:kdE E 0=λ_=>[]:=by funext b;simp[kdE]
theorem zIp{i d:Nat}(h:i<(ordE E).length)(e:(treeL E).getD (ordE E)[i] (-1)=(d:Int)):kdE E (i+1)=updF (kdE E i) d (kdE E i d++[(ordE E)[i]]):=by
 funext b;unfold kdE updF;rw[filter_take_succ h];by_cases c:b=d
 .subst c;rw[if_pos rfl,e,decide_eq_true rfl];rfl
 .rw[if_neg c,e,decide_eq_false (by omega)];simp
theorem kdE_no{i:Nat}(h:i<(ordE E).length)(c:(treeL E).getD (ordE E)[i] (-1)<0):kdE E (i+1)=kdE E i:=by funext b;unfold kdE;rw[filter_take_succ h,decide_eq_false (by omega)];simp
theorem zJm{b:Nat}:kdE E (ordE E).length b=zcB E b:=by unfold kdE zcB;rw[Wk]
theorem zIq{i b:Nat}:(kdE E i b).length<=i:=zjs _ _ _
theorem zz1{b:Nat}:ctE E 0 b=0:=by simp[ctE]
theorem zzh{i:Nat}(h:i<(ordE E).length){b:Nat}:ctE E (i+1) b=ct2 E i (suc E (ordE E)[i]) b:=by unfold ctE ct2 ctE;rw[Wx h,List.map_append,List.sum_append];simp
theorem zIW{b:Nat}:ctE E (ordE E).length b=cntE E b:=by unfold ctE cntE;rw[Wk]
theorem zHO(c:∀k,(suc E k).length<=1000){b:Nat}:∀i,ctE E i b<=i*1000
 |0=>by rw[zz1];exact Wj _
 |
  i+1=>by
  have d:=zHO c (b:=b) i;by_cases h:i<(ordE E).length
  .rw[zzh h];unfold ct2;have g:=WC (a:=b) (l:=suc E (ordE E)[i]);have j:=c (ordE E)[i];omega
  .have e:ctE E (i+1) b=ctE E i b:=by unfold ctE;rw[Wr (by omega),Wr (by omega)]
   rw[e];exact Ww d (Nat.mul_le_mul_right _ (Nat.le_succ _))
theorem zGv{i j:Nat}{l:List Nat}(h:j<l.length):updF (ct2 E i (l.take j)) l[j] (ct2 E i (l.take j) l[j]+1)=ct2 E i (l.take (j+1)):=by
 funext b;unfold updF ct2;rw[Wx h,List.count_append];by_cases c:b=l[j]
 .rw[if_pos c,<-c];simp;omega
 .rw[if_neg c,List.count_singleton,if_neg (by simpa using λe=>c e.symm)];omega
theorem zGg{i:Nat}:ct2 E i []=ctE E i:=by funext b;simp[ct2]
theorem zGH{n:Nat}:cnR (ctE E 0) n=Wc n [.int .i64 0]:=by
 unfold cnR;apply List.ext_getElem
 .simp
 .intro i b c;simp[zz1]
theorem zId{f:Nat->Nat}{n:Nat}:(cnR f n).length=n:=by simp[cnR]
theorem zI3{f:Nat->Nat}{n b:Nat}(h:b<n):(cnR f n).getD b []=[.int .i64 ((f b:Nat):Int)]:=by simp[cnR,Wo,h]
theorem zJv{f:Nat->Nat}{n b:Nat}:(cnR f n).set b [.int .i64 ((f b:Nat)+1:Int)]=cnR (updF f b (f b+1)) n:=by
 unfold cnR;rw[zaU];refine Wv λi c=>?_
 unfold updF;split
 .rfl
 .rfl
theorem zdx{f:Nat->Nat}{n:Nat}:zr (cnR f n):=zI λ_=>rfl
end
theorem zH3{H H2:AH}{σ:Nat->Nat->Option (Nat×Nat×Nat)}{D:Nat->Nat->Prop}{t:Bool}{r q b n:Nat}{f:Nat->Nat}(g:D r q)(c:H.get r q=some (.row 1 (cnR f n) b))(h:n<=big):Vw H H2 σ D t (.own r q b 0 n) (za ((Wd n).map f)):=by
 have e:cnR f n=((Wd n).map f).map cN:=by unfold cnR;rw[Wn];rfl
 rw[e]at c;have d:((Wd n).map f).length=n:=by simp
 have:=zc4 (H2:=H2) (σ:=σ) (t:=t) g c (by rw[d];exact h)
 rwa [d]at this
theorem zEX{H h:AH}{σ:Nat->Nat->Option (Nat×Nat×Nat)}{D:Nat->Nat->Prop}{t:Bool}{F r q e n:Nat}{b:Nat->List Nat}{g:Nat->Nat}(j:D r q)(o:H.get r q=some (.row 1 (fe F n b g) e))(m:n<=big)(k:H.look F=some (.fam 1 (fi cN n b g)))(c:∀i,i<n->D F (i+1))(d:∀i,(b i).length<=big):Vw H h σ D t (.own r q e 0 n) (encNN ((Wd n).map b)):=by rw[zxZ];exact zyL j o m k c (λi _=>d i) (λ_=>rfl)
def nbH(g:G)(c:Nat->List Nat)(b d:Nat->Nat)(m:List (List AV)):AH:=[(0,.row 5 [[.int .u32 g.addr,encL 2 Xa g.blocks,.own 1 0 0 0 g.blocks.length,.own 2 0 0 0 g.blocks.length,.mp 3 0]] 0),(1,.row 1 (fe 4 g.blocks.length c b) 0),(2,.row 1 (cnR d g.blocks.length) 0),(3,.row 3 m 0),(4,.fam 1 (fi cN g.blocks.length c b))]
theorem nb0_eq(g:G):nb0 g=nbH g (kdE (eG g) 0) (λ_=>0) (ctE (eG g) 0) [[.int .i64 0,.undef,.undef]]:=by unfold nb0 nbH;rw[zFs,zGH]
theorem Ql{d e g p:Prop}(a0:d)(b:e)(c:g)(h:d->e->g->p:=by intro a0 b c;(try simp only[evWB,Nat.reduceBEq,Nat.reduceAdd,Nat.reduceSub,Nat.reduceLeDiff,Nat.reduceLT,implies_true,a0,b,c])<;>(repeat' with_reducible apply And.intro)<;>first|(first|exact RowV.of_flat zdx;done)|exact fin8):p:=h a0 b c
theorem zkC(g:G)(C:OkB g):zG Z9 za4 [.agg g.cells] [] 0 (λv H nx=>v=.ptr 0 0 0 0 0/\H=bldH g []/\nx=2):=by
 refine zaC (fn_x zkF rfl ?_);unfold zfB;have hB:=hBig;have hn:=C.small.1;have hgl:g.toG.blocks.length=g.blocks.length:=by simp[G.toG]
 rw[hgl]at hn;have y:=zo C;have hEl:=zdf (g:=g);have hT:=zjU g.toG C.small;have hO:=zfp g.toG C.small;have hF:=zuJ g.toG C.small y;rw[G.toG_cells]at hT hO hF;have hoe:orderL g.toG.E=ordE (eG g):=by unfold orderL ordE ordL;rw[if_neg (by have h2:0<(Gr.E g.toG).length:=y.pos;omega)]
 rw[hoe]at hO;have hol:=ztH C;have htl:(treeL (eG g)).length=g.blocks.length:=by simp[treeL,hEl]
 have o:g.cells=[.int .u32 g.addr,encL 2 Xa g.blocks]:=rfl;rw[o];refine Gw0 ?_;intros;refine zHz g hn ?_;refine dcU za0.eq_1 ?_;refine Gw2 @ua @G.two ?_;intros;refine ze (zh hT rfl) ?_;refine Gw2 @ua @G.two ?_;intros;refine ze (zh hO rfl) ?_;rw[nb0_eq];refine Gw1 @ub ?_;intros;have hsl:=λk=>zus C k
 refine zd (λs:Nat×(Nat->Nat)=>([(1,encP 2 g.cells),(3,.ptr 0 0 0 0 0),(4,zb (treeL (eG g))),(27,za (ordE (eG g))),(28,.int .i64 (ordE (eG g)).length),(29,.int .i64 s.1)],nbH g (kdE (eG g) s.1) s.2 (ctE (eG g) s.1) [[.int .i64 0,.undef,.undef]])) 5
  (λs=>s.1<=(ordE (eG g)).length) (λs=>(ordE (eG g)).length-s.1) (0,λ_=>0) (Wj _) ?start ?_
 case start=>unfold nbH;exact(Xh [(0,0,0),(1,1,0),(2,2,0),(3,3,0),(4,4,0)] [] rfl (Ql @ub @ua o) (Ql @ub @ua o))
 rintro⟨i,gs⟩ hi wf;simp only at hi;clear wf;unfold zd7;by_cases z:i<(ordE (eG g)).length
 case pos=>
  have B:(ordE (eG g))[i]<g.blocks.length:=by have:=zbl y (Wp z);omega
  have hky:=λd=>zIp (E:=eG g) (i:=i) (d:=d) z
  have hkn:=kdE_no (E:=eG g) (i:=i) z;have hcs:=λb=>zzh (E:=eG g) (i:=i) z (b:=b)
  have hgi:((ordE (eG g)).map λ(n:Nat)=>[Xb .i64 (n:Int)]).getD i []=[.int .i64 ((ordE (eG g))[i]:Int)]:=zi (f:=cN) (d:=[]) z;generalize (ordE (eG g))[i]=x at B hky hkn hcs hgi;have hti:x<(treeL (eG g)).length:=by omega
  have hgt:((treeL (eG g)).map λn=>[Xb .i64 n]).getD x []=[.int .i64 (treeL (eG g))[x]]:=zi (f:=cI) (d:=[]) hti;have htx:(treeL (eG g)).getD x (-1)=(treeL (eG g))[x]:=by simp[Wo,hti]
  rw[htx]at hkn;simp only[htx]at hky;have hgb:(g.blocks.map Xa).getD x []=(blG g x).cells:=by rw[zi B,zph B]
  have J:=zld (blG g x) (λs hs=>Ww (C.cases _ (zeV B) s hs) (by decide));rw[zCS C B]at J;have hslx:=hsl x;have Q:∀t∈suc (eG g) x,t<g.blocks.length:=λt ht=>by have:=y.ok x t ht;omega
  generalize suc (eG g) x=m at J hslx Q hcs;have hctl:=λb=>zHO hsl (b:=b) i
  have hmi:encL 1 (λ(n:Int)=>[Xb .i64 n]) (m.map λ(t:Nat)=>(t:Int))=za m:=zg3 m
  have A:∀I K H nx,Ent 0 K H nx [(1,encP 2 g.cells),(3,.ptr 0 0 0 0 0),(4,zb (treeL (eG g))),(27,za (ordE (eG g))),(28,.int .i64 (ordE (eG g)).length),(29,.int .i64 i),(60,za m),(61,.int .i64 m.length),(62,.int .i64 0)] (nbH g (kdE (eG g) (i+1)) I (ctE (eG g) i) [[.int .i64 0,.undef,.undef]]) 5 ->
    zDN Z9 0 zcg (zhw 2 (zhw 1 (seqQ Z9 0 zcf (zqY 0 (λs:Nat×(Nat->Nat)=>([(1,encP 2 g.cells),(3,.ptr 0 0 0 0 0),(4,zb (treeL (eG g))),(27,za (ordE (eG g))),(28,.int .i64 (ordE (eG g)).length),(29,.int .i64 s.1)],nbH g (kdE (eG g) s.1) s.2 (ctE (eG g) s.1) [[.int .i64 0,.undef,.undef]])) 5 (λs=>s.1<=(ordE (eG g)).length) (λs=>(ordE (eG g)).length-s.1) (i,gs) (zhw 0 (seqQ Z9 0 zce (retK zdb (zti 0 λv H nx=>v=.ptr 0 0 0 0 0/\H=bldH g []/\nx=2)))))))) K H nx:=by
   intro I K H nx hent
   refine zd (λj:Nat=>([(1,encP 2 g.cells),(3,.ptr 0 0 0 0 0),(4,zb (treeL (eG g))),(27,za (ordE (eG g))),(28,.int .i64 (ordE (eG g)).length),(29,.int .i64 i),(60,za m),(61,.int .i64 m.length),(62,.int .i64 j)],nbH g (kdE (eG g) (i+1)) I (ct2 (eG g) i (m.take j)) [[.int .i64 0,.undef,.undef]])) 5
    (λj=>j<=m.length) (λj=>m.length-j) 0 (Wj _) (by rw[List.take_zero,zGg];exact hent) ?_
   intro j hj wf;clear wf;refine dcU zcg.eq_1 ?_;by_cases hj':j<m.length
   case neg=>
    obtain rfl:j=m.length:=by omega
    rw[Wk];unfold nbH;refine Gw1 @dF ?_;intros;refine dcU zcf.eq_1 ?_;refine Gw0 ?_;intros;have M:ct2 (eG g) i m=ctE (eG g) (i+1):=funext λb=>(hcs b).symm
    rw[M];exact⟨(i+1,I),by simp only;omega,by simp only;omega,(Xh [(0,0,0),(1,1,0),(2,2,0),(3,3,0),(4,4,0)] [] rfl (Ql @ub @ua o) (Ql @ub @ua o))⟩
   have hst:=zGv (E:=eG g) (i:=i) hj';have R:=Q _ (Wp hj');have hgj:(m.map λ(n:Nat)=>[Xb .i64 (n:Int)]).getD j []=[.int .i64 (m[j]:Int)]:=zi (f:=cN) (d:=[]) hj';generalize m[j]=u at hst R hgj;have hcu:ct2 (eG g) i (m.take j) u<=1001*1000:=by unfold ct2;have:=hctl u;have:=WC (a:=u) (l:=m.take j);rw[Wy]at this;omega
   generalize ct2 (eG g) i (m.take j)=f at hst hcu⊢;have hse:=zJv (f:=f) (n:=g.blocks.length) (b:=u);rw[hst]at hse;unfold nbH
   (repeat first|simp(disch:=try exact dis1) only[evD,Xc,Xd,Xe,dT,za,hgj,zId,zI3 R,hse]|with_reducible first|intro _|refine aJ ?_)
   exact⟨j+1,by omega,by omega,(Xh [(0,0,0),(1,1,0),(2,2,0),(3,3,0),(4,4,0)] [] rfl (Ql @ub @ua o) (Ql @ub @ua o))⟩
  unfold nbH;by_cases h0:0<=(treeL (eG g))[x];case neg=>refine Gw5 @dT @ub hgi @ug hgt ?_;intros;refine Gw6 @dF @ua o hgb @Bl.two @Bl.len ?_;intros;refine ze (zh J rfl) ?_;refine Gw2 @ug hmi ?_;intros;refine Gw2 @ub @m9M ?_;intros;refine A gs _ _ _ ?_;rw[hkn (by omega)];unfold nbH;exact(Xh [(0,0,0),(1,1,0),(2,2,0),(3,3,0),(4,4,0)] [] rfl (Ql @ub @ua o) (Ql @ub @ua o))
  obtain⟨d,hd⟩:∃d:Nat,(treeL (eG g))[x]=d:=⟨((treeL (eG g))[x]).toNat,by omega⟩;have L:d<g.blocks.length:=by obtain⟨T,D⟩:=dtree_ex y.ok y.pos;have h1:=zuj y D (k:=x) (by omega);rw[htx,hd]at h1;have h2:=zbl y (D.wt.up x d ((zuM y).1 h1.symm)).2.1;omega
  have hkd:=hky d hd;have hkl:=zIq (E:=eG g) (i:=i) (b:=d);generalize kdE (eG g) i=w at hkd hkl⊢;rw[hd]at hgt;refine Gw5 @dT @ub hgi @ug hgt ?_;intros;refine Gw1 @dT ?_;intros;have hfi:=ztQ (c:=cN) (n:=g.blocks.length) (k:=d) (g:=gs d+1) (ll:=w) (gs:=gs) (a:=x) (ca:=[Xb .i64 (x:Int)]) rfl;have M:=zuB (F:=4) (n:=g.blocks.length) (g:=gs d+1) (ll:=w) (k:=d) (gs:=gs) (m:=(w d).length+1) x rfl;refine zqC zdF ziA zhR zc2 [(39,.ptr 0 0 0 0 0),(40,.ptr 0 0 0 0 0),(41,.ptr 0 0 0 0 2),(42,.own 1 0 0 0 g.blocks.length),(43,.int .i64 d),(44,.ptr 0 0 0 0 0),(45,.ptr 0 0 0 0 0),(46,.ptr 0 0 0 0 2),(47,.own 1 0 0 0 g.blocks.length),(48,.int .i64 d),(49,.ptr 1 0 0 d 0),(50,.own 4 (d+1) (gs d) 0 (w d).length),(51,.int .i64 x),(52,.own 5 0 0 0 1),(53,.own 4 (d+1) (gs d+1) 0 ((w d).length+1)),(54,.ptr 1 0 0 d 0)] (hsOf [([(0,.row 5 [[.int .u32 g.addr,encL 2 Xa g.blocks,.own 1 0 0 0 g.blocks.length,.own 2 0 0 0 g.blocks.length,.mp 3 0]] 0),(1,.row 1 (fe 4 g.blocks.length w gs) 0),(2,.row 1 (cnR (ctE (eG g) i) g.blocks.length) 0),(3,.row 3 [[.int .i64 0,.undef,.undef]] 0),(4,.fam 1 (fi cN g.blocks.length w gs))],5),([(0,.row 5 [[.int .u32 g.addr,encL 2 Xa g.blocks,.own 1 0 0 0 g.blocks.length,.own 2 0 0 0 g.blocks.length,.mp 3 0]] 0),(1,.row 1 (fe 4 g.blocks.length w gs) 0),(2,.row 1 (cnR (ctE (eG g) i) g.blocks.length) 0),(3,.row 3 [[.int .i64 0,.undef,.undef]] 0),(4,.fam 1 (fi cN g.blocks.length w gs)),(5,.row 1 [[.int .i64 x]] 0)],6),([(0,.row 5 [[.int .u32 g.addr,encL 2 Xa g.blocks,.own 1 0 0 0 g.blocks.length,.own 2 0 0 0 g.blocks.length,.mp 3 0]] 0),(1,.row 1 (fe 4 g.blocks.length w gs) 0),(2,.row 1 (cnR (ctE (eG g) i) g.blocks.length) 0),(3,.row 3 [[.int .i64 0,.undef,.undef]] 0),(4,.fam 1 (fi cN g.blocks.length (updF w d (w d++[x])) (updF gs d (gs d+1)))),(5,.row 1 [[.int .i64 x]] 0)],6),([(0,.row 5 [[.int .u32 g.addr,encL 2 Xa g.blocks,.own 1 0 0 0 g.blocks.length,.own 2 0 0 0 g.blocks.length,.mp 3 0]] 0),(1,.row 1 (fe 4 g.blocks.length (updF w d (w d++[x])) (updF gs d (gs d+1))) 0),(2,.row 1 (cnR (ctE (eG g) i) g.blocks.length) 0),(3,.row 3 [[.int .i64 0,.undef,.undef]] 0),(4,.fam 1 (fi cN g.blocks.length (updF w d (w d++[x])) (updF gs d (gs d+1)))),(5,.row 1 [[.int .i64 x]] 0)],6)]) (by kernel_rfl) (by rfl) (by rfl) (by repeat' first|exact QExt.retK|apply QExt.seq|apply QExt.block|apply QExt.loop|apply QExt.join|assumption) ?plan [] (by rfl) ?fin
  case' plan=>
   intro p hs q hH;have S:p.get 39=.ptr 0 0 0 0 0:=by rw[q,zf];rfl
   have U:p.get 40=.ptr 0 0 0 0 0:=by rw[q,zf];rfl
   have V:p.get 41=.ptr 0 0 0 0 2:=by rw[q,zf];rfl
   have W:p.get 42=.own 1 0 0 0 g.blocks.length:=by rw[q,zf];rfl
   have X:p.get 43=.int .i64 d:=by rw[q,zf];rfl
   have Y:p.get 44=.ptr 0 0 0 0 0:=by rw[q,zf];rfl
   have Z:p.get 45=.ptr 0 0 0 0 0:=by rw[q,zf];rfl
   have kf46:p.get 46=.ptr 0 0 0 0 2:=by rw[q,zf];rfl
   have kf47:p.get 47=.own 1 0 0 0 g.blocks.length:=by rw[q,zf];rfl
   have kf48:p.get 48=.int .i64 d:=by rw[q,zf];rfl
   have kf49:p.get 49=.ptr 1 0 0 d 0:=by rw[q,zf];rfl
   have kf50:p.get 50=.own 4 (d+1) (gs d) 0 (w d).length:=by rw[q,zf];rfl
   have kf51:p.get 51=.int .i64 x:=by rw[q,zf];rfl
   have kf52:p.get 52=.own 5 0 0 0 1:=by rw[q,zf];rfl
   have kf53:p.get 53=.own 4 (d+1) (gs d+1) 0 ((w d).length+1):=by rw[q,zf];rfl
   have kf54:p.get 54=.ptr 1 0 0 d 0:=by rw[q,zf];rfl
   have kf3:p.get 3=.ptr 0 0 0 0 0:=by rw[q,zf];rfl
   have kf6:p.get 6=.int .i64 x:=by rw[q,zf];rfl
   have kf7:p.get 7=.int .i64 d:=by rw[q,zf];rfl
   simp only[zc2,zmq,zoq,and_true]
   (repeat' with_reducible apply Wa)
   all_goals(rw[hH];simp only[zos,zde,WD,WE,hsOf,hsAt,beqL,zgK,Xc,Bool.and_true,Bool.true_and,Bool.and_false,Bool.false_and,cond_true,cond_false,Ws,Wt,Xd])
   all_goals try(simp(disch:=try exact dis1) only[evD,Xc,Xd,Xe,zdM,zcQ,S,U,V,W,X,Y,Z,kf46,kf47,kf48,kf49,kf50,kf51,kf52,kf53,kf54,kf3,kf6,kf7,zn1,zrL L,zlm L,hfi,M];done)
  case' fin=>simp only[zdF,hsOf,hsAt,beqL,zgK,Xc,Bool.and_true,Bool.true_and,Bool.and_false,Bool.false_and,cond_true,cond_false,Ws,Wt,Xd,WD,WE,zav]
  ·(refine Gw5 @ua o hgb @Bl.two @Bl.len ?_;intros);refine ze (zh J rfl) ?_;refine Gw2 @ug hmi ?_;intros;refine Gw2 @ub @m9M ?_;intros;refine A (updF gs d (gs d+1)) _ _ _ ?_;rw[hkd];unfold nbH;exact(Xh [(0,0,0),(1,1,0),(2,2,0),(3,3,0),(4,4,0)] [] rfl (Ql @ub @ua o) (Ql @ub @ua o))
  all_goals(repeat first|simp(disch:=try exact dis1) only[evD,Xc,Xd,Xe,S,U,V,W,X,Y,Z,kf46,kf47,kf48,kf49,kf50,kf51,kf52,kf53,kf54,zn1,zrL L,zlm L,hfi,M,zdM,zcQ]|with_reducible first|intro _|refine aJ ?_)
  all_goals omega
 obtain rfl:i=(ordE (eG g)).length:=by omega
 unfold nbH;refine Gw1 @dF ?_;intros;refine dcU zce.eq_1 ?_;refine Gw2 @ua @G.two ?_;intros;refine zl3 (D:=noR) hF (.cons (zac rfl) .nil) (λa _=>.inr λ_ _ h=>h) ?_;rintro _ ⟨P,rfl,hP⟩;have hPk:P.map zqe=(hdL (eG g)).map λh=>(h,zfm (eG g) h):=by rw[hP];unfold loL hdL;rw[Wn];have:(ordE g.toG.E).take (ordE g.toG.E).length=ordE (eG g):=Wk;rw[this];rfl
 have hpl:P.length=(hdL (eG g)).length:=by have:=congrArg List.length hPk;simpa using this
 have hhl:(hdL (eG g)).length<=(ordE (eG g)).length:=WB _ _;have hhn:(hdL (eG g)).Nodup:=(rpo y.ok y.pos).nd.filter _
 have hk:∀j (h:j<P.length) (h2:j<(hdL (eG g)).length),P[j].h=(hdL (eG g))[j]/\P[j].body=zfm (eG g) (hdL (eG g))[j]:=λj h h2=>by
  have e:(P.map zqe)[j]'(by rw[We];exact h)=((hdL (eG g)).map λh=>(h,zfm (eG g) h))[j]'(by rw[We];exact h2):=by simp only[hPk]
  rw[Wu,Wu]at e;exact⟨congrArg Prod.fst e,congrArg Prod.snd e⟩
 have hke:∀b,kdE (eG g) (ordE (eG g)).length b=zcB (eG g) b:=λb=>zJm
 have hce:ctE (eG g) (ordE (eG g)).length=cntE (eG g):=funext λb=>zIW
 have hkl:=λk=>zuv C (k:=k)
 rw[hce,show kdE (eG g) (ordE (eG g)).length=zcB (eG g)from funext hke];refine Gw0 ?_;intros
 refine zd (λi:Nat=>([(3,.ptr 0 0 0 0 0),(78,encL 4 cLo P),(79,.int .i64 P.length),(80,.int .i64 i)],nbH g (zcB (eG g)) gs (cntE (eG g)) (boM (eG g) ((hdL (eG g)).take i)))) 5
  (λi=>i<=P.length) (λi=>P.length-i) 0 (Wj _) ?start3 ?_
 case start3=>have h0:boM (eG g) ((hdL (eG g)).take 0)=[[.int .i64 0,.undef,.undef]]:=rfl;unfold nbH;rw[h0];exact(Xh [(0,0,0),(1,1,0),(2,2,0),(3,3,0),(4,4,0)] [] rfl (Ql @ub @ua o) (Ql @ub @ua o))
 intro i hi2 wf;clear wf;refine dcU zeg.eq_1 ?_;by_cases hip:i<P.length
 case neg=>
  obtain rfl:i=P.length:=by omega
  rw[hpl,Wk];unfold nbH;refine Gw1 @dF ?_;intros;unfold zeh;refine Gw1 @zdb.eq_1 ?_;intros;refine⟨.ptr 0 0 0 0 0,bldH g [],2,?_,rfl,rfl,rfl⟩;have hkb:∀k,(zcB (eG g) k).length<=big:=λk=>by have:=hkl k;omega
  unfold bldH;exact(Xh [(0,0,0),(1,3,0)] [1,2,4] rfl (by((try simp only[evWB,Xc,Xd,Xf,Xe,Xg,implies_true])<;>(repeat' with_reducible apply Wa)<;>first|(first|exact Xl zz|exact zH3 rfl rfl (by omega)|exact zEX rfl rfl (by omega) rfl (λ_ _=>rfl) hkb;done)|exact fin8)) (by((try simp only[evWB,Xc,Xd,Xf,Xe,Xg,implies_true])<;>(repeat' with_reducible apply Wa)<;>first|(first|exact Xl zz|exact zH3 rfl rfl (by omega)|exact zEX rfl rfl (by omega) rfl (λ_ _=>rfl) hkb;done)|exact fin8)))
 have hi3:i<(hdL (eG g)).length:=by omega
 obtain⟨hk1,hk2⟩:=hk i hip hi3;have hgp:=zi (f:=cLo) (d:=[]) hip;have O:cLo P[i]=[.int .i64 (P[i].h:Int),za P[i].body,zb P[i].ex,.int .i64 P[i].par]:=rfl;rw[hk1,hk2]at O;have htk:(hdL (eG g)).take (i+1)=(hdL (eG g)).take i++[(hdL (eG g))[i]]:=Wx hi3;have hnm:=zzq hhn hi3;have htl2:((hdL (eG g)).take i).length=i:=by rw[Wy];omega
 have N:=zGs (E:=eG g) (l:=(hdL (eG g)).take i) (a:=(hdL (eG g))[i]);rw[<-htk]at N;have hmf:=(zqD (E:=eG g) (k:=(hdL (eG g))[i]) (l:=((hdL (eG g)).take i).zipIdx) (i:=0)).1 (by rw[List.zipIdx_map_fst];exact hnm);have hbm:boM (eG g) ((hdL (eG g)).take i)=[.int .i64 (((hdL (eG g)).take i).length:Int),.undef,.undef]::((hdL (eG g)).take i).zipIdx.map (cBo (eG g)):=rfl;rw[O]at hgp;unfold nbH;refine Gw6 @dT hgp hbm hmf @ui @uh ?_;intros;exact⟨i+1,by omega,by omega,(Xh [(0,0,0),(1,1,0),(2,2,0),(3,3,0),(4,4,0)] [] rfl (by((try simp only[evWB,Xc,Xd,Xf,Xe,Xg,implies_true,N])<;>(repeat' with_reducible apply Wa)<;>first|(first|exact Xl zdx|(refine Xl ?_;exact N▸zz);done)|exact fin8)) (by((try simp only[evWB,Xc,Xd,Xf,Xe,Xg,implies_true,N])<;>(repeat' with_reducible apply Wa)<;>first|(first|exact Xl zdx|exact Xl zz;done)|exact fin8)))⟩
end Go.Ab
namespace Go.Ab
open Go.RowKit Go.Proofs
theorem zr0{ρ:Nat->Nat}{a:AV}(h:a.flat=true):a.ren ρ=a:=by
 have key:∀l:List AV,l.all Xs=true->l.map (Xo ρ)=l:=λl b=>by
  conv=>rhs;rw[<-List.map_id l]
  exact Wv λx c=>zcJ (Wi.1 b x c)
 cases a<;>first|exact zcJ h|(simp only[Xo,key _ h])
theorem zGE{n:Nat}{a:AV}(h:a.flat0=true):a.lt0 n=true:=by cases a<;>first|rfl|(cases h;done)
theorem zzc{n:Nat}{a:AV}(h:a.flat=true):a.lt1 n=true:=by
 have key:∀l:List AV,l.all Xs=true->l.all (Xq n)=true:=λl d=>Wi.2 λx e=>zGE (Wi.1 d x e)
 cases a with
 |agg l=>exact key l h
 |tup l=>exact key l h
 |undef=>rfl
 |int k n=>rfl
 |bool b=>rfl
 |str s=>rfl
 |nilp=>rfl
 |iptr n c=>rfl
 |sl g n f=>rfl
 |nilsl=>rfl
 |nilfn=>rfl
 |nilmp=>rfl
 |cut=>rfl
 |_=>cases h
theorem zEv{H b:AH}{σ:Nat->Nat->Option (Nat×Nat×Nat)}{D:Nat->Nat->Prop}{t:Bool}:∀{l:List AV},l.all Xt=true->VwL H b σ D t l l
 |[],_=>trivial
 |
  a::l,h=>by
  rw[List.all_cons,Wh]at h;exact⟨zac h.1,zEv h.2⟩
structure TOk(nx:Nat)(T:AH):Prop where
 two:2<=nx
 cut:T.cutL [0,1]=T
 num:∀r o,T.look r=some o->2<=r
 low:zeJ nx T
theorem TOk.nil:TOk 2 []:=⟨Wf _,rfl,λr o h=>(by cases h),trivial⟩
theorem zkT{n:Nat}:∀{A B:AH},zeJ n A->zeJ n B->zeJ n (A++B)
 |[],B,_,h=>h
 |(_,.row ..)::A,B,b,c=>⟨b.1,zkT b.2 c⟩
 |(_,.fam ..)::A,B,b,c=>⟨b.1,zkT b.2 c⟩
def zjM(g:G)(f:FuncId)(b:List AV)(a:AV):Prop:=∀(T:AH)(nx:Nat),TOk nx T->zG Z9 f (.ptr 0 0 0 0 0::b) (bldH g T) nx (λv H n=>v=a/\H=bldH g T/\n=nx)
theorem zgY{g:G}{f:FuncId}{rest:List AV}{a:AV}(h:zG Z9 f (.ptr 0 0 0 0 0::rest) (bldH g []) 2 (λv H n=>v=a/\H=bldH g []/\n=2))(z:rest.all Xt=true)(y:a.flat=true):zjM g f rest a:=by
 intro T nx p;have K:=p.two
 have b:∀r,r<2->T.look r=none:=λr z=>by
  cases D:T.look r with
  |none=>rfl
  |some o=>have:=p.num r o D;omega
 refine zaC (zG.mono (Q:=λv q w=>v=a/\(∀r,q.look r=(bldH g T).look r)/\w=nx) ?_ (λv q w ⟨d,B,C⟩=>⟨v,bldH g T,nx,?_,d,rfl,rfl⟩))
 .refine zGx nx (Nat.ble_eq_true_of_le (Wf _)) ?_;refine zb6 [(0,0,0),(1,1,0)] 2 _ h rfl ?_ ?_ ?_ ?_
  .show (Wg 0 nx&&Wl 0 0 && !(memN _ 0)&&(Wg 1 nx&&Wl 0 0 && !(memN _ 1)&&true))=true;have A:Wg 0 nx=true:=by rw[Wm];omega
   have d:Wg 1 nx=true:=by rw[Wm];omega
   rw[A,d];rfl
  .unfold bldH;refine⟨rfl,⟨_,rfl,?_⟩,rfl,⟨_,rfl,Xl zz⟩,trivial⟩;rw[zut];exact⟨.int _ _ _,zac rfl,zac rfl,zac rfl,.mp _ _ _ _ rfl,trivial⟩
  .exact⟨.ptr _ _ _ 0 _ _ _ _ _ rfl rfl,zEv z⟩
  .rintro v q w ⟨rfl,rfl,rfl⟩;rw[zr0 y];have k:Tab.to [(0,0,0),(1,1,0)] nx 0=0:=rfl;have m:Tab.to [(0,0,0),(1,1,0)] nx 1=1:=rfl
   have u:Xu (bldH g T) [(0,0,0),(1,1,0)] nx (bldH g [])=T++bldH g []:=by
    unfold Xu bldH;have t:Xj (List.map (λx=>x.2.1) [((0:Nat),(0:Nat),(0:Nat)),(1,1,0)]) ((0,AObj.row 5 [[.int .u32 g.addr,encL 2 Xa g.blocks,Dm.encNN ((Wd g.blocks.length).map (zcB (eG g))),za ((Wd g.blocks.length).map (cntE (eG g))),.mp 1 0]] 0)::(1,.row 3 (boM (eG g) (hdL (eG g))) 0)::T)=T:=by show Xj [0,1] _=T;rw[Xj,Xj];exact p.cut
    rw[t];have F:∀ρ,Xo ρ (encL 2 Xa g.blocks)=encL 2 Xa g.blocks:=λρ=>zcJ rfl
    have I:∀ρ l,Xo ρ (Dm.encNN l)=Dm.encNN l:=λρ l=>zcJ rfl
    have J:∀ρ l,Xo ρ (za l)=za l:=λρ l=>zcJ rfl
    simp only[AH.renL,k,m,AObj.ren,zhJ zz,Wq,List.map_nil,Xo,F,I,J]
   rw[u]
   have s:zeJ nx (bldH g []):=by
    unfold bldH;refine⟨⟨by omega,λc t=>?_⟩,⟨by omega,zcj zz⟩,trivial⟩;rw[Wz.1 t];have d:Wg 1 nx=true:=by rw[Wm];omega
    show(true&&(true&&(true&&(true&&(Wg 1 nx&&true)))))=true;rw[d];rfl
   refine⟨⟨zzc y,zkT p.low s⟩,rfl,λr=>?_,rfl⟩;rw[AH.look_append];unfold bldH;simp only[Xp];by_cases e:r=0
   .subst e;rw[b 0 (by omega)]
   .by_cases j:r=1
    .subst j;rw[b 1 (by omega)]
    .rw[za3 (Ne.symm e),za3 (Ne.symm j)];simp only[cond_false];cases T.look r<;>rfl
 .subst C;exact Ent.same (Wf _) (λr=>(B r).symm) ⟨rfl,trivial⟩
theorem TOk.base{n:Nat}(h:2<=n):TOk n []:=⟨h,rfl,λr o h=>(by cases h),trivial⟩
theorem TOk.cons{n r p g:Nat}{b:List (List AV)}{T:AH}(j:2<=r)(k:r<n)(m:zpv n b)(h:TOk n T):TOk n ((r,.row p b g)::T):=by
 refine⟨h.two,?_,λx o d=>?_,⟨⟨k,m⟩,h.low⟩⟩
 .have e:memN [0,1] r=false:=by unfold memN memN memN;rw[za3 (by omega),za3 (by omega)];rfl
  simp only[Xj,e,cond_false,h.cut]
 .simp only[Xp]at d;by_cases c:r=x
  .subst c;exact j
  .rw[za3 c]at d;exact h.num x o d
theorem zE{n:Nat}{c:List AV}(h:c.all (Xq n)=true):zpv n [c]:=λd hd=>by rw[Wz.1 hd];exact h
theorem znx{n:Nat}{l:List Nd}:zpv n (l.map encN):=zcj (zI λ_=>zt)
theorem zrZ{T:AH}{N:Nat}{x:AObj}:(T.put N x).look N=some x:=by rw[Xm,if_pos rfl]
theorem zEd{g:G}{n:Nat}(e:2<=n):zeJ n (bldH g []):=by
 unfold bldH;refine⟨⟨by omega,λc d=>?_⟩,⟨by omega,zcj zz⟩,trivial⟩;rw[Wz.1 d];have b:Wg 1 n=true:=by rw[Wm];omega
 show(true&&(true&&(true&&(true&&(Wg 1 n&&true)))))=true;rw[b];rfl
theorem zem{g:G}{T:AH}{nx:Nat}{v a:AV}(d:Vw (bldH g T) (bldH g []) (zqk 2) (λr _=>2<=r) true v a):zti 2 (λv H n=>v=a/\H=bldH g []/\n=2) v (bldH g T) nx:=by
 refine⟨a,bldH g [],2,Ent.lowF (Wf _) (λr o h=>?_) (zEd (Wf _)) ⟨d,trivial⟩,rfl,rfl,rfl⟩;unfold bldH at h⊢;simp only[Xp]at h⊢
 cases c:Wl 0 r with
 |true=>rw[c]at h;exact h
 |false=>
  rw[c]at h
  cases b:Wl 1 r with
  |true=>rw[b]at h;exact h
  |false=>rw[b]at h;cases h
theorem zqB{H:AH}{nx:Nat}{v:AV}(j:v.solid=true)(g:v.cells=[v])(c:zeJ nx H)(k:v.lt0 nx=true)(e:H.look nx=none):
  zG Z9 zQ [v] H nx (λx d n=>x=.agg [.int .i64 1,.int .i64 0,.int .i64 0,.nilsl,v]/\d=H/\n=nx):=by
 refine zaC (fn_x zlf rfl ?_);refine dcU zhg.eq_1 ?_;have m:=hBig;have b:splice [Xk] 0 [v]=[v]:=rfl;refine Gw8 j g b e @zrZ @ui @uh @zhc.eq_1 ?_;intros;refine⟨_,H,nx,Xv (Wf _) (λr o h=>?_) c ⟨⟨rfl,?_⟩,trivial⟩,rfl,rfl,rfl⟩
 .have p:=(zcv c h).1;rw[Xm,if_neg (by omega),Xm,if_neg (by omega)];exact h
 .show (true&&(true&&(true&&(true&&(v.lt0 nx&&true)))))=true;rw[k];rfl
def ctxA(c:Ctx):AV:=.agg [.int .i64 c.f,.int .i64 c.h,.int .i64 c.x]
theorem ziU(l:List Nat)(c:Ctx):zq Z9 za7 [za l,ctxA c] (·=ctxA (zaM l c)):=by
 refine fn_x zoE rfl ?_;unfold zi4 ctxA;conv in Z8 _ _=>reduce
 have d:=hBig
 cases l with
 |nil=>refine Gw2 @ub @uh ?_;intros;refine Gw2 @dF @zfv.eq_1 ?_;intros;exact⟨_,zac rfl,rfl⟩
 |cons a l=>
  have b:((a::l).map λ(n:Nat)=>[Xb .i64 (n:Int)]).getD 0 []=[.int .i64 (a:Int)]:=rfl;refine Gw2 @ub @ui ?_;intros
  (repeat first|simp(disch:=try exact dis1) only[evD,Xc,Xd,Xe,dT,b,Int.toNat_zero,zfv]|with_reducible first|intro _|refine aJ ?_)
  exact⟨_,zac rfl,rfl⟩
theorem zzN{g:G}(d:OkB g){k:Nat}(e:k<g.blocks.length):0<(blG g k).stmts.length/\((blG g k).stmts.map St.cells).getD ((blG g k).stmts.length-1) []=(zaG g k).cells:=by have b:=d.ne _ (zeV e);have c:0<(blG g k).stmts.length:=List.length_pos_iff.2 b;refine⟨c,?_⟩;rw[zi (by omega)];unfold zaG;rw[List.getLast?_eq_getElem?,List.getElem?_eq_getElem (by omega)];rfl
theorem znz(g:G)(m:OkB g)(k:Nat)(e:k<g.blocks.length):zjM g zbw [.int .i64 k] (.agg (zaG g k).cells):=by
 refine zgY ?_ rfl (by rfl);refine zaC (fn_x zjt rfl ?_);unfold zeI bldH;conv in Z8 _ _=>reduce
 have q:=hBig;obtain⟨p,n⟩:=zzN m e;have o:=m.stm _ (zeV e);have j:(g.blocks.map Xa).getD k []=(blG g k).cells:=by rw[zi e,zph e]
 have h:(blG g k).cells=[.int .u32 (blG g k).addr,encL 8 St.cells (blG g k).stmts]:=rfl;have b:((((blG g k).stmts.length:Nat):Int)-1).toNat=(blG g k).stmts.length-1:=by omega
 have c:=(zaG g k).len;have d:=(zaG g k).eight;generalize zaG g k=s at n c d⊢;refine Gw8 j h b n c d @uf @zeL.eq_1 ?_;intros;exact zem (zac rfl)
theorem Qm{d e g p:Prop}(a0:d)(b:e)(c:g)(h:d->e->g->p:=by intro a0 b c;(try simp only[evWB,Nat.reduceBEq,Nat.reduceAdd,Nat.reduceSub,Nat.reduceLeDiff,Nat.reduceLT,implies_true,a0,b,c])<;>(repeat' with_reducible apply And.intro)<;>first|(first|exact RowV.of_flat zz|exact zk rfl;done)|exact fin6):p:=h a0 b c
theorem Qn{e g j k m n o p:Prop}(a0:e)(b:g)(c:j)(a3:k)(a4:m)(a5:n)(d:o)(h:e->g->j->k->m->n->o->p:=by intro a0 b c a3 a4 a5 d;(try simp only[evWB,Nat.reduceBEq,Nat.reduceAdd,Nat.reduceSub,Nat.reduceLeDiff,Nat.reduceLT,implies_true,a0,b,c,a3,a4,a5,d])<;>(repeat' with_reducible apply And.intro)<;>first|(first|exact RowV.of_flat zz|exact zk rfl;done)|exact fin6):p:=h a0 b c a3 a4 a5 d
theorem zhq(g:G)(A:OkB g)(l:List Nat)(F:l.length<=1000)(z:∀x∈l,x<g.blocks.length):zjM g zaE [za l] (.tup [za (plG (shpE (eG g) (zaG g) (oneG g)) l),za (inG (shpE (eG g) (zaG g) (oneG g)) l)]):=by
 refine zgY ?_ rfl (by rfl);refine zaC (fn_x ziO rfl ?_);unfold zef bldH;conv in Z8 _ _=>reduce
 have D:=hBig;generalize y:shpE (eG g) (zaG g) (oneG g)=S;have h:S.cnt=cntE (eG g):=by rw[<-y];rfl
 refine Gw1 @ub ?_;intros
 refine zd (λs:Nat×Nat×Nat=>([(0,.ptr 0 0 0 0 0),(4,.own 2 0 s.2.1 0 (plG S (l.take s.1)).length),(5,.own 3 0 s.2.2 0 (inG S (l.take s.1)).length),(8,za l),(9,.int .i64 l.length),(10,.int .i64 s.1)],bldH g [(2,.row 1 ((plG S (l.take s.1)).map cN) s.2.1),(3,.row 1 ((inG S (l.take s.1)).map cN) s.2.2)])) 4
  (λs=>s.1<=l.length) (λs=>l.length-s.1) (0,0,0) (Wj _) ?start ?_
 case start=>have u:plG S (l.take 0)=[]:=rfl;have v:inG S (l.take 0)=[]:=rfl;unfold bldH;exact(Xr [(0,0,0),(1,1,0),(2,2,0),(3,3,0)] [] rfl rfl rfl (Qm @ub u v) (Qm @ub u v))
 rintro⟨i,γ,k⟩ hi wf;simp only at hi;clear wf;refine dcU zdg.eq_1 ?_;by_cases e:i<l.length
 case neg=>
  obtain rfl:i=l.length:=by omega
  rw[Wk];have H:=zt6 (S:=S) (l:=l);have I:=zD4 (S:=S) (l:=l);unfold bldH;refine Gw1 @dF ?_;intros;refine dcU zdm.eq_1 ?_;refine Gw1 @zee.eq_1 ?_;intros;refine zem ?_;rw[zmC];exact⟨zc4 (Wf _) rfl (by omega),zc4 (by show 2<=3;omega) rfl (by omega),trivial⟩
 have w:=z _ (Wp e);have b:=zFd (S:=S) e;have c:=zGU (S:=S) e;have j:(l.map λ(n:Nat)=>[Xb .i64 (n:Int)]).getD i []=[.int .i64 (l[i]:Int)]:=zi (f:=cN) (d:=[]) e;generalize l[i]=x at w b c j;have p:(((Wd g.blocks.length).map (cntE (eG g))).map λ(n:Nat)=>[Xb .i64 (n:Int)]).getD x []=[.int .i64 (cntE (eG g) x:Int)]:=by rw[zi (by simp;exact w)];simp
 have q:=zt6 (S:=S) (l:=l.take i);have t:=zD4 (S:=S) (l:=l.take i);rw[Wy]at q t;rw[h]at b c;have C:=A.small.1;have B:g.toG.blocks.length=g.blocks.length:=by simp[G.toG]
 unfold bldH;refine Gw3 @dT @ub j ?_;intros
 (repeat first|simp(disch:=try exact dis1) only[evD,Xc,Xd,Xe,p,We,List.length_range]|with_reducible first|intro _|refine aJ ?_)
 by_cases m:cntE (eG g) x=1
 .have o:((cntE (eG g) x:Nat):Int)=1:=by omega
  rw[if_pos m,List.append_nil]at b;rw[if_pos m]at c;refine Gw1 @dT ?_;intros;exact⟨(i+1,γ,k+1),by simp only;omega,by simp only;omega,by rw[b,c];exact(Xr [(0,0,0),(1,1,0),(2,2,0),(3,3,0)] [] rfl rfl rfl (Qn @ub @m9A @m9P @ui @uh @m9C @m9N) (Qn @ub @m9A @m9P @ui @uh @m9C @m9N))⟩
 .have o:¬((cntE (eG g) x:Nat):Int)=1:=by omega
  rw[if_neg m]at b;rw[if_neg m,List.append_nil]at c;refine Gw1 @dF ?_;intros;exact⟨(i+1,γ+1,k),by simp only;omega,by simp only;omega,by rw[b,c];exact(Xr [(0,0,0),(1,1,0),(2,2,0),(3,3,0)] [] rfl rfl rfl (Qn @ub @m9A @m9P @ui @uh @m9C @m9N) (Qn @ub @m9A @m9P @ui @uh @m9C @m9N))⟩
end Go.Ab
namespace Go.Ab
open Go.RowKit Go.Proofs Go.Ab.Dm
noncomputable abbrev shpG(g:G):Shp:=shpE (eG g) (zaG g) (oneG g)
def zq9(g:G)(b:Nat->Ctx->Nd)(x:Nat):Prop:=∀c,zjM g zB [.int .i64 (x:Int),ctxA c] (.agg (encN (b x c)))
def wayI(b:Nat->Ctx->Nd)(inl:List Nat)(c:Ctx)(u:Nat):Nd:=if u∈inl then b u c else zcY c u
theorem zpd{H c:AH}{σ:Nat->Nat->Option (Nat×Nat×Nat)}{D:Nat->Nat->Prop}{t:Bool}{k b l:Int}:Vw H c σ D t (.agg [.int .i64 k,.int .i64 b,.int .i64 l,.nilsl,.nilsl]) (.agg (encN (zag k b l))):=by unfold zag;rw[zbj,zhZ];exact⟨.int _ _ _,.int _ _ _,.int _ _ _,zjj,zjj,trivial⟩
theorem zox(g:G)(j:Nat->Ctx->Nd)(inl:List Nat)(c:Ctx)(u:Nat)(e:∀x∈inl,zq9 g j x):zjM g zbH [.int .i64 (u:Int),za inl,ctxA c] (.agg (encN (wayI j inl c u))):=by
 refine zgY ?_ rfl flA;refine zaC (fn_x zjW rfl ?_);unfold ze8 bldH ctxA;conv in Z8 _ _=>reduce
 have o:=hBig;have b:=zcm inl u;refine Gw0 ?_;intros;refine ze (zh b rfl) ?_;unfold wayI;by_cases d:u∈inl
 .rw[if_pos d,decide_eq_true d];refine Gw1 @ua ?_;intros;refine zK (e u d c _ _ (TOk.cons (by omega) (by omega) (zE rfl) (TOk.base (by omega)))) ?_;rintro _ _ _ ⟨rfl,rfl,rfl⟩;unfold bldH;refine Gw2 @zD @zap.eq_1 ?_;intros;exact zem (zac flA)
 rw[if_neg d,decide_eq_false d];unfold zcY;by_cases k:(u:Int)=c.f
 .rw[if_pos k];refine Gw2 @dT @ua ?_;intros;refine ze (zh zqn rfl) ?_;refine Gw2 @zD @zap.eq_1 ?_;intros;exact zem (zac flA)
 rw[if_neg k];by_cases m:(u:Int)=c.h
 .rw[if_pos m];refine Gw4 @dT @dF @ua @zap.eq_1 ?_;intros;exact zem zpd
 rw[if_neg m];by_cases n:(u:Int)=c.x
 .rw[if_pos n];refine Gw4 @dT @dF @ua @zap.eq_1 ?_;intros;exact zem zpd
 rw[if_neg n];refine Gw4 @dT @dF @ua @zap.eq_1 ?_;intros;exact zem zpd
theorem zET{g:G}{T:AH}{n:Nat}{o:AObj}(b:2<=n):(bldH g T).put n o=bldH g (T.put n o):=by unfold bldH;simp only[Xn];rw[za3 (show 0≠n by omega),za3 (show 1≠n by omega)];rfl
theorem zvJ{g:G}{T:AH}{n:Nat}(b:2<=n):(bldH g T).look n=T.look n:=by unfold bldH;simp only[Xp];rw[za3 (show 0≠n by omega),za3 (show 1≠n by omega)];rfl
theorem TOk.look{n:Nat}{T:AH}(h:TOk n T):T.look n=none:=by
 cases b:T.look n with
 |none=>rfl
 |some o=>have:=(zcv h.low b).1;omega
theorem zqX{n m:Nat}(h:n<=m){b:List (List AV)}(j:zpv n b):zpv m b:=λc g=>by have:=j c g;rw[Wi]at this⊢;intro a e;have d:=this a e;cases a<;>simp only[Xq,Wm]at d⊢<;>first|rfl|omega|cases d
theorem zlM{n m:Nat}(h:n<=m):∀{T:AH},zeJ n T->zeJ m T
 |[],_=>trivial
 |(_,.row ..)::_,b=>⟨⟨WF b.1.1 h,zqX h b.1.2⟩,zlM h b.2⟩
 |(_,.fam ..)::_,b=>⟨⟨WF b.1.1 h,λp c=>zqX h (b.1.2 p c)⟩,zlM h b.2⟩
theorem ztS{l:List Nat}{n:Nat}{o:AObj}(b:memN l n=false):∀A:AH,(A.put n o).cutL l=(A.cutL l).put n o
 |
  []=>by
  simp only[Xn,Xj,b,cond_false]
 |
  (j,u)::t=>by
  by_cases c:j=n
  .subst c;simp only[Xn,Xj,b,cond_false,zbB,cond_true]
  .simp only[Xn,za3 c,cond_false,Xj]
   cases d:memN l j with
   |true=>simp only[cond_true];exact ztS b t
   |false=>simp only[cond_false,Xn,za3 c];rw[ztS b t]
theorem znq{n r k g:Nat}{b:List (List AV)}(d:r<n)(c:zpv n b):∀{T:AH},zeJ n T->zeJ n (T.put r (.row k b g))
 |[],_=>⟨⟨d,c⟩,trivial⟩
 |
  (j,.row s e g0)::t,h=>by
  simp only[Xn];cases Wl j r
  .exact⟨h.1,znq d c h.2⟩
  .exact⟨⟨d,c⟩,h.2⟩
 |
  (j,.fam s ins)::t,h=>by
  simp only[Xn];cases Wl j r
  .exact⟨h.1,znq d c h.2⟩
  .exact⟨⟨d,c⟩,h.2⟩
theorem TOk.put{n k d:Nat}{b:List (List AV)}{T:AH}(h:TOk n T)(j:zpv (n+1) b):TOk (n+1) (T.put n (.row k b d)):=by
 have g:=h.two;refine⟨by omega,?_,λr o c=>?_,znq (by omega) j (zlM (by omega) h.low)⟩
 .have e:memN [0,1] n=false:=by unfold memN memN memN;rw[za3 (by omega),za3 (by omega)];rfl
  rw[ztS e,h.cut]
 .rw[Xm]at c;split at c
  .rename_i e;subst e;exact g
  .exact h.num r o c
theorem zhX{g:G}{T:AH}{n:Nat}(h:TOk n T):zeJ n (bldH g T):=by have b:=zEd (g:=g) h.two;unfold bldH at b⊢;exact⟨b.1,b.2.1,h.low⟩
theorem zmb(g:G)(e:Nat->Ctx->Nd)(inl:List Nat)(c:Ctx)(u:Nat)(k:∀x∈inl,zq9 g e x)(T:AH)(nx:Nat)(b:TOk nx T)(p:Nat)(d:T.look p=some (.row 1 [[.ptr 0 0 0 0 0]] 0)):
  zG Z9 zp [.int .i64 (u:Int),.ptr p 0 0 0 0,encP 1 [za inl],encP 3 [.int .i64 c.f,.int .i64 c.h,.int .i64 c.x]] (bldH g T) nx (λv H n=>v=.agg (encN (wayI e inl c u))/\H=bldH g T/\n=nx):=by
 refine zaC (fn_x zgh rfl ?_);refine dcU zcO.eq_1 ?_;have z:=hBig;have j:=b.two;have m:=b.num _ _ d;have y:=(zcv b.low d).1;have q:(bldH g T).look nx=none:=by rw[zvJ j];exact b.look
 have s:∀o,((bldH g T).put nx o).look p=some (.row 1 [[.ptr 0 0 0 0 0]] 0):=λo=>by rw[Xm,if_neg (by omega),zvJ m];exact d
 have t:=zox g e inl c u k;generalize wayI e inl c u=w at t⊢;refine Gw4 q s @zrZ @ua ?_;intros;rw[zET j];refine zK (t _ _ (b.put (zE rfl))) ?_;rintro _ _ _ ⟨rfl,rfl,rfl⟩;rw[<-zET j];refine Gw5 q s @zrZ @zD @zcS.eq_1 ?_;intros;refine⟨_,bldH g T,nx,Xv (Wf _) (λr o h=>?_) (zhX b) ⟨⟨rfl,?_⟩,trivial⟩,rfl,rfl,rfl⟩
 .have A:=(zcv (zhX b) h).1;rw[Xm,if_neg (by omega),Xm,if_neg (by omega)];exact h
 .exact zzc flA
end Go.Ab
