/-
  Part 25 of the proof: how the calls of this program run, over values instead of memory, and what each function computes.
-/
import Derived.KernelRfl
import Derived.Test.YtmlhipilbnjhiaaGreatPx
set_option maxRecDepth 100000
set_option linter.unusedVariables false
set_option linter.unusedSimpArgs false
set_option linter.unnecessarySimpa false
set_option linter.unusedSectionVars false
open Go.Ab.Ent renaming tabB->Xa,keep->Xh
open Nat renaming reduceBEq->Xb,reduceAdd->Xc,reduceLeDiff->Xg,add_mul->Xi,reduceSub->Xk,reduceLT->Xl
open Go.Ab.AV renaming int->Xd
open Go.Ab.Bl renaming cells->Xe
open Go.Ab.St renaming cells->Xf
open Classical renaming byContradiction->Xj
open Go.Proofs.Tryz renaming prog->Z9
open Nat renaming le_refl→Wa,zero_le→Wc,le_trans→We,lt_or_ge→Wi,le_antisymm→Wj,add_zero→Wy,mul_le_mul_right→WN
open List renaming map_cons→Wd,sum_cons→Wf,length_cons→Wg,range→Wk,getElem_mem→Wl,filter_cons_of_pos→Wm,filter_cons_of_neg→Wn,take_length→Wo,take_succ_eq_append_getElem→Wr,getD_cons_succ→Ws,getD_cons_zero→Wt,length_nil→Ww,replicate→Wx,mem_cons_self→Wz,mem_cons_of_mem→WA,map_append→WB,sum_append→WC,mem_append_right→WD,mem_append_left→WE,drop_length→WF,any_eq_true→WG,length_range→WI,ext_getElem→WJ,count_append→WK,count_le_length→WL,length_take_le'→WM
open And renaming intro→Wh
open Bool renaming false_and→Wp,true_and→Wq,and_true→Wu,and_false→Wv,and_eq_true→WH
namespace Go.Ab
open Go.RowKit Go.Proofs
theorem zzV{g:G}(d:OkB g){k:Nat}(e:k<g.blocks.length):zaG g k∈(blG g k).stmts:=by
 have b:=d.ne _ (zeV e);unfold zaG
 cases c:(blG g k).stmts.getLast? with
 |none=>exact absurd (List.getLast?_eq_none_iff.1 c) b
 |some s=>exact List.mem_of_getLast? c
theorem zAv{g:G}(d:OkB g)(c:zjb g=0){k:Nat}(b:k<g.blocks.length):(zaG g k).check=0:=(zop c).2.2 _ (zeV b) _ (zzV d b)
section
variable {g:G} (hg:OkB g) (h0:zjb g=0) {n:Nat} (hn:(ordE (eG g)).length<=n) {e:Nd} (hb:BldOk (shpG g) n e)
include hg hn hb
theorem zw5{y:Nd}(p:y∈allN e):(y.f=⟨1,0,0⟩/\y.cond=[])\/∃x,x<g.blocks.length/\x∈ordE (eG g)/\∃b,EmP (shpG g) x b/\y.f=b.f/\y.cond=b.cond/\(b.f.kind≠1->y.l.length=b.l.length):=by
 obtain⟨T,D⟩:=Dm.dtree_ex (zo hg).ok (zo hg).pos;have j:=znd (zo hg) (one:=oneG g) D;have P:=zkj (zo hg) D;rcases hb.like y p with h|⟨b,k,m⟩
 .exact .inl h
 .obtain⟨x,d,o⟩:=zh1 j P hn k;have c:=zbl (zo hg) d;rw[zdf]at c;exact .inr ⟨x,c,d,b,o,m⟩
include h0
omit h0
end
def zgf:ACode:=Z8 0x08c210421001060708c231000000027c910321dc060118da01520125407001104143060ac291153070140003c416c36015011041430703c25133 []
def zgl:ACode:=.seq (.region [(oM 30 3),(oM 2 30)] [1,3,4,30]) (.ret)
def znm:ACode:=Z8 0x19096050c10000011330000c310321001060600311400000057120b70500176311341034c6100400176011041035281330000001131020000011c0213 [zgf,zgl]
attribute[irreducible]zgf zgl
def zjC:List ARet:=[.tmp 2]
theorem zsy:zU Z9 zd3 (qRo [1])=some (znm.strip,zjC,31):=by kernel_rfl
def zhx:ACode:=Z8 0x01c210421001060701c231000000020c9103216c060119da015201254070011041430603c29115307014000841b3601501104143070825133 []
def zhv:ACode:=.seq (.region [(oM 23 3),(oM 2 23)] [1,3,4,23]) (.ret)
def zj7:ACode:=Z8 0x19096050000001133005310321501102133524131020000011c0213 [zhx,zhv]
attribute[irreducible]zhx zhv
def zjN:List ARet:=[.tmp 2]
theorem zps:zU Z9 zch (qRo [1])=some (zj7.strip,zjN,24):=by kernel_rfl
def zfb:ACode:=Z8 0x0be2109210010600c0be231000000002aea2118104f00f1401001060110100f140110121400c00b0090de2a135327014007e31ae360150b000c07e24133 []
def ze4:ACode:=Z8 0x05d08410721001060a0fd231 []
def ze3:ACode:=Z8 0x19096250000092113000002ed701082214e24db021102121402a00280024221e22231530701400bd31ed360150800a0bd24133 [zfb,ze4]
def ze5:ACode:=Z8 0x400af310b210010602c00af231000000010f710a2114f060110121402c009001c007114000209f51001560110121402c00900cf2513553470140006f3109f3601509002c006f24133 []
def ze6:ACode:=Z8 0xbc01af24101c210010604c01df2310828f0132361002211314000000000000000000000021cfcc12030f702001363113131f143113121434c033c039096f610012027f7012bf663153903113121434c033c084f61000001360110121404c003c01ff2cc13753670140019f311cf3601503c004c019f24133 []
def zfc:ACode:=Z8 0x800000029f013230c10221012700bab3f6100124601c0011bca065237f2813 []
def ze2:ACode:=Z8 0x1909665000000113300bfb3100c211eca065217f2313 [ze6,zfc]
def ze0:ACode:=Z8 0x1909645000000113313130000a2113 [ze5,ze2]
def zgM:ACode:=Z8 0x19096050000072113309d210011810001140109d23130005d410621100181ac015011041135d2513069c241052113da02223d2313080000008c11910221012700bade6100000176011061030713146c42000186010bc22133000011c27dc00cc15814400000059329c12c0102c9c2106c2110ca02227c28130802c1310220ba02131402c210c011aa02222c23133102100011c0213 [ze3,ze0]
attribute[irreducible]zfb ze4 ze3 ze5 ze6 zfc ze2 ze0
def zcn:List ARet:=[.tmp 2]
theorem zmo:zU Z9 zeq (qRo [1])=some (zgM.strip,zcn,122):=by kernel_rfl
def zfd:ACode:=Z8 0x0be2101c210010604c0be231000000000000000000000002aedc100c212001f701010bf738f610df0cf37da3113121434c03113121432c03a032c03904df6103102f24ca3113121434c03113121432c03a038038f61003c0de2dc135327014000004e617e360150110121402c00a004c04e27133 []
attribute[irreducible]zfd
def zb3:List AOper:=[(oF 84 1 1 1),(oL 85 84),(oM 86 11),(oI 87 2 85 86),(oF 88 1 1 87),(oL 89 88),(oF 90 1 1 1),(oL 91 90),(oM 92 11),(oI 93 2 91 92),(oF 94 1 1 93),(oL 95 94),(oE 96 95),(oC 97 .sub 96 1),(oI 98 8 89 97),(oA 99 8 98),(oN 14 (.alloc [.int .i64 0,.int .i64 0,.int .i64 0,.int .i64 0,.int .i64 0,.int .u32 0,.nilsl,.nilsl])),(oS 8 14 99)]
def zhP:List (List Nat):=[[],[0],[],[1,2],[3],[4],[],[6],[],[7,8],[9],[10],[11],[12],[5,13],[14],[],[16,15,0,1,2,3,4,5,6,7,8,9,10,11,12,13,14,15,16]]
def za1:List Nat:=[16,17]
def zeF:List (List Nat):=[[],[0],[],[0,1,2],[0,1,2,3],[0,1,2,3,4],[],[6],[],[6,7,8],[6,7,8,9],[6,7,8,9,10],[6,7,8,9,10,11],[6,7,8,9,10,11,12],[0,1,2,3,4,5,6,7,8,9,10,11,12,13],[0,1,2,3,4,5,6,7,8,9,10,11,12,13,14],[],[0,1,2,3,4,5,6,7,8,9,10,11,12,13,14,15,16]]
def zeb:List (List Nat):=[[],[16],[16,17]]
def zaN:Plan:=[(0,[],[]),(1,[],[]),(1,[16],[16]),(2,[],[]),(3,[],[]),(3,[16],[16]),(4,[],[]),(5,[],[]),(5,[16],[16]),(6,[],[]),(7,[],[]),(7,[16],[16]),(8,[],[]),(9,[],[]),(9,[16],[16]),(10,[],[]),(11,[],[]),(11,[16],[16]),(12,[],[]),(13,[],[]),(14,[],[]),(14,[16],[16]),(15,[],[]),(15,[16],[16]),(16,[],[16]),(17,[16],[16,17])]
def ze1:ACode:=.seq (.seq (.region [(oM 81 12)] [12,13]) (.cond (.t 81) (.region [(oM 82 8),(oC 83 .add 82 1),(oM 8 83)] [81,82,83]) (.skip))) (.seq (.draw (zd9 zb3 zhP 18 (Wx 18 false)) [11,81,84,85,86,87,88,89,90,91,92,93,94,95,96,97,98,99]) (.seq (.region [(oF 100 0 1 14),(oL 101 100),(oC 102 .eql 101 7),(oM 103 102),(oG 104 103 false (.fldaddr 0 1 (.t 14))),(oG 105 103 false (.load false 1 (.t 104))),(oG 106 103 false (.bin .eql (.t 105) (.c (.int .i64 8)))),(oN 107 (.pick (.t 103) (.c (.bool true)) (.t 106)))] [14,100,101,102,103,104,105,106]) (.cond (.t 107) (.region [(oM 108 9),(oC 109 .add 108 1),(oM 9 109)] [107,108,109]) (.skip))))
def z7:ACode:=Z8 0x03f0ed310a210010601c0ed231 []
def zff:ACode:=Z8 0x29190962500000011330002dd5100010b2110121401c00800e26131530701400ad31dd3601508001c0ad24133 [zfd,ze1,z7]
def zfa:ACode:=Z8 0x800000000000027f000001119c10221012700bab5f610010139f70127630c03119da3652a9f610012760b00118da065232f22c13 []
def zgV:ACode:=Z8 0x19096050000001133000000000082213000006ac280cd002ad0028d0522116db0242202115db0242202113db022224d2223080000009c11910221012700bafe6100000176011061030713147c42000186010cc22133000012c27ec00dc1581440000005932ac12c0102cac2107c2110ca02228c28130803c1310220ba02131403c210c011aa02223c23133102100011c0213 [zff,zfa]
attribute[irreducible]ze1 z7 zff zfa
def zcr:List ARet:=[.tmp 2]
theorem zma:zU Z9 zen (qRo [1])=some (zgV.strip,zcr,123):=by kernel_rfl
namespace Dm
end Dm
section
theorem zFB{g:G}{x:Nat}{y:Nd}(h:EmP (shpG g) x y):y.cond=[]\/y.cond=(zaG g x).e:=by
 cases h with
 |seq l=>exact .inl rfl
 |label=>exact .inl rfl
 |block=>exact .inl rfl
 |loop n _ _=>exact .inl rfl
 |while_ n _ _ _ _=>exact .inr rfl
 |if_ a b _ _ _=>exact .inr rfl
 |switch l _ _ _=>exact .inr rfl
 |ret=>exact .inl rfl
 |halt=>exact .inl rfl
 |leaf t c _ _ _=>
  refine .inl ?_;unfold zcY;split
  .rfl
  split
  .rfl
  split<;>rfl
end
theorem zrm(K:Int->Bool):∀n:Nd,zco (zec K n)<=zco n:=by
 intro n
 have key:∀(k:Nat)(n:Nd),zco n<=k->zco (zec K n)<=zco n:=λk=>by
  induction k with
  |zero=>intro n h;have:=zjH n;omega
  |succ k ih=>
   intro n h;obtain⟨f,c,l⟩:=n;rw[zco]at h;rw[zec,zco,zco]
   have:∀l:List Nd,zaL l<=k->zaL (zaV K l)<=zaL l:=λl=>by
    induction l with
    |nil=>intro _;rw[zaV];exact Wa _
    |cons a l ih2=>
     intro h;rw[zaL]at h;rw[zaV,zaL];have b:=ih2 (by omega);have d:=ih a (by omega);split
     .omega
     .rw[zaL];omega
   have:=this l (by omega);omega
 exact key _ n (Wa _)
theorem zzX{w:NdF->List Ex->Nat}{l:List Nd}{i:Nat}(h:i<l.length):wNs w (l.drop i)=wN w l[i]+wNs w (l.drop (i+1)):=by rw[List.drop_eq_getElem_cons h,wNs]
theorem wN_le{w:NdF->List Ex->Nat}{c:Nat}:∀(n:Nd),(∀y∈allN n,w y.f y.cond<=c)->wN w n<=zco n*c:=by
 have key:∀(k:Nat)(n:Nd),zco n<=k->(∀y∈allN n,w y.f y.cond<=c)->wN w n<=zco n*c:=λk=>by
  induction k with
  |zero=>intro n h;have:=zjH n;omega
  |succ k ih=>
   intro n h b;obtain⟨f,e,l⟩:=n;rw[zco]at h;rw[wN,zco,Xi,Nat.one_mul];have g:=b (.mk f e l) (zj4 _)
   have:∀l:List Nd,zaL l<=k->(∀y∈zaI l,w y.f y.cond<=c)->wNs w l<=zaL l*c:=λl=>by
    induction l with
    |nil=>intro _ _;rw[wNs];exact Wc _
    |cons a l ih2=>intro h b;rw[zaL]at h;rw[wNs,zaL,Xi];have g:=ih2 (by omega) (λy d=>b y (by rw[zaI];exact WD _ d));have j:=ih a (by omega) (λy d=>b y (by rw[zaI];exact WE _ d));omega
   have j:=this l (by omega) (λy d=>b y (zpo d));have m:w f e<=c:=g;omega
 exact λn h=>key _ n (Wa _) h
mutual
theorem zzU{w:NdF->List Ex->Nat}{K:Int->Bool}:∀n:Nd,(∀y∈allN n,y.f.kind=10->w y.f y.cond=0/\y.l=[])->wN w (zec K n)=wN w n
 |
  .mk f c l,h=>by
  rw[zec,wN,wN,zwy l λy b=>h y (zpo b)]
theorem zwy{w:NdF->List Ex->Nat}{K:Int->Bool}:∀l:List Nd,(∀y∈zaI l,y.f.kind=10->w y.f y.cond=0/\y.l=[])->wNs w (zaV K l)=wNs w l
 |[],_=>by rw[zaV]
 |
  x::l,h=>by
  have e:=zwy (K:=K) l λy d=>h y (by rw[zaI];exact WD _ d)
  have g:=λy (d:y∈allN x)=>h y (by rw[zaI];exact WE _ d)
  rw[zaV];split
  .rename_i n;obtain⟨a,b⟩:=g x (zj4 _) n.1;rw[e,wNs];have:wN w x=0:=by obtain⟨f,c,m⟩:=x;have k:m=[]:=b;have j:w f c=0:=a;rw[wN,k,wNs,j]
   omega
  .rw[wNs,wNs,e,zzU x g]
end
theorem zCY{g:G}{x:Nat}{y:Nd}(h:EmP (shpG g) x y)(d:y.f.kind=10):y.cond=[]/\y.l=[]:=by
 cases h with
 |seq l=>exact absurd (show(1:Int)=10 from d) (by decide)
 |label=>exact⟨rfl,rfl⟩
 |block=>exact absurd (show(2:Int)=10 from d) (by decide)
 |loop n _ _=>exact absurd (show(4:Int)=10 from d) (by decide)
 |while_ n _ e _ _=>exact absurd (show(5:Int)=10 from d) (by decide)
 |if_ a b _ _ _=>exact absurd (show(3:Int)=10 from d) (by decide)
 |switch l _ _ _=>exact absurd (show(6:Int)=10 from d) (by decide)
 |ret=>exact absurd (show(11:Int)=10 from d) (by decide)
 |halt=>exact absurd (show(12:Int)=10 from d) (by decide)
 |leaf t c _ _ _=>rcases zjK c t with h|h|h|h<;>(rw[h]at d;exact absurd d (by decide))
theorem zm9:∀(k:Nat)(e:Nd),zco e<=k->k<=1000->zq Z9 zd3 [.agg (encN e)] (·=.int .i64 (wN zc6 e))
 |0,e,h,_=>by have:=zjH e;omega
 |
  k+1,.mk f c l,h,hk=>by
  have F:∀x∈l,zq Z9 zd3 [.agg (encN x)] (·=.int .i64 (wN zc6 x)):=λx o=>by have:=zmx o;rw[zco]at h;exact zm9 k x (by omega) (by omega)
  have D:∀y:Nd,zc6 y.f y.cond<=1:=λy=>by unfold zc6;split<;>omega
  have p:wN zc6 (.mk f c l)<=1000:=by
   have:=wN_le (w:=zc6) (c:=1) (.mk f c l) λy _=>D y
   omega
  have C:l.length<=1000:=by have:=zgv l;rw[zco]at h;omega
  rw[wN]at p⊢;refine fn_x zsy rfl ?_;refine dcU znm.eq_1 ?_;have H:=hBig;have m:zu (encN (.mk f c l))=true:=zt;rw[zbj]at m⊢;refine Gw2 @ua m ?_;intros;generalize B:(((zc6 f c+wNs zc6 l:Nat):Nat):Int)=R
  have key:∀w:Nat,w=zc6 f c->zDN Z9 0 zgf (zhw 0 (seqQ Z9 0 zgl (retK zjC λv A _=>∃a,Frz A v a/\a=Xd .i64 R))) [(1,encP 5 [.int .i64 f.kind,.int .i64 f.block,.int .i64 f.label,encL 5 encX c,encL 5 encN l]),(3,.int .i64 w),(4,.int .i64 0)] [] 0:=by
   rintro w rfl;refine zd (λs:Nat×Nat=>([(1,encP 5 [.int .i64 f.kind,.int .i64 f.block,.int .i64 f.label,encL 5 encX c,encL 5 encN l]),(3,.int .i64 s.1),(4,.int .i64 s.2)],[])) 0 (λs=>s.2<=l.length/\s.1+wNs zc6 (l.drop s.2)=zc6 f c+wNs zc6 l) (λs=>l.length-s.2) (zc6 f c,0) ⟨Wc _,rfl⟩ (Xh rfl fin5) ?_;rintro⟨w,i⟩ ⟨z,b⟩ wf;simp only at z b;clear wf;refine dcU zgf.eq_1 ?_;rcases Wi i l.length with g|g
   .have o:=F _ (Wl g);have n:=zi (f:=encN) (d:=[]) g;rw[zzX g]at b;generalize l[i]=x at o n b;refine Gw5 @dT @ua n @zJ @zD ?_;intros;refine ze (zh o (flN rfl)) ?_;refine Gw0 ?_;intros;exact⟨(w+wN zc6 x,i+1),⟨by simp only;omega,by simp only;omega⟩,by simp only;omega,Xh rfl fin5⟩
   .have q:i=l.length:=Wj z g;subst q;rw[WF,wNs,Wy]at b;rw[<-B,<-b];refine Gw2 @dF @ua ?_;intros;unfold zgl;refine Gw1 @zjC.eq_1 ?_;intros;exact izO
  have j:zc6 f c=if f.kind=4\/f.kind=5 then 1 else 0:=rfl
  by_cases t:f.kind=4
  ·(refine Gw2 @dT @dF ?_;intros);exact key 1 (by rw[j,if_pos (.inl t)])
  by_cases u:f.kind=5
  ·(refine Gw2 @dT @dF ?_;intros);exact key 1 (by rw[j,if_pos (.inr u)])
  ·(refine Gw2 @dT @dF ?_;intros);exact key 0 (by rw[j,if_neg (λh=>h.elim t u)])
theorem zkd:∀(k:Nat)(e:Nd),zco e<=k->k<=1000->(∀y∈allN e,y.cond.length<=100)->zq Z9 zch [.agg (encN e)] (·=.int .i64 (wN ziR e))
 |0,e,h,_,_=>by have:=zjH e;omega
 |
  k+1,.mk f c l,h,hk,hc=>by
  have A:∀x∈l,zq Z9 zch [.agg (encN x)] (·=.int .i64 (wN ziR x)):=λx n=>by have:=zmx n;rw[zco]at h;exact zkd k x (by omega) (by omega) (λy z=>hc y (zpo (zqZ.2 ⟨x,n,z⟩)))
  have o:wN ziR (.mk f c l)<=100000:=by have:=wN_le (w:=ziR) (c:=100) (.mk f c l) hc;omega
  have u:c.length<=100:=hc (.mk f c l) (zj4 _);have v:l.length<=1000:=by have:=zgv l;rw[zco]at h;omega
  rw[wN]at o⊢;refine fn_x zps rfl ?_;refine dcU zj7.eq_1 ?_;have B:=hBig;have j:zu (encN (.mk f c l))=true:=zt;rw[zbj]at j⊢;generalize t:(((ziR f c+wNs ziR l:Nat):Nat):Int)=R;refine Gw2 @ua j ?_;intros;refine zd (λs:Nat×Nat=>([(1,encP 5 [.int .i64 f.kind,.int .i64 f.block,.int .i64 f.label,encL 5 encX c,encL 5 encN l]),(3,.int .i64 s.1),(4,.int .i64 s.2)],[])) 0 (λs=>s.2<=l.length/\s.1+wNs ziR (l.drop s.2)=ziR f c+wNs ziR l) (λs=>l.length-s.2) (c.length,0) ⟨Wc _,rfl⟩ (Xh rfl fin5) ?_;rintro⟨w,i⟩ ⟨q,b⟩ wf;simp only at q b;clear wf;refine dcU zhx.eq_1 ?_;rcases Wi i l.length with g|g
  .have n:=A _ (Wl g);have m:=zi (f:=encN) (d:=[]) g;rw[zzX g]at b;generalize l[i]=x at n m b;refine Gw5 @dT @ua m @zJ @zD ?_;intros;refine ze (zh n (flN rfl)) ?_;refine Gw0 ?_;intros;exact⟨(w+wN ziR x,i+1),⟨by simp only;omega,by simp only;omega⟩,by simp only;omega,Xh rfl fin5⟩
  .have p:i=l.length:=Wj q g;subst p;rw[WF,wNs,Wy]at b;rw[<-t,<-b];refine Gw2 @dF @ua ?_;intros;unfold zhv;refine Gw1 @zjN.eq_1 ?_;intros;exact izO
def isBr(g:G)(x:Nat):Bool:=decide ((zaG g x).op=7\/(zaG g x).op=8)
theorem zpb{p:Nat->Bool}:∀{l:List Nat},(l.map λx=>if p x then 1 else 0).sum=(l.filter p).length
 |[]=>rfl
 |
  a::l=>by
  rw[Wd,Wf,zpb]
  cases h:p a with
  |true=>rw[Wm h,Wg];simp;omega
  |false=>rw[Wn (by rw[h];decide)];simp
section
variable {g:G} (hg:OkB g) (h0:zjb g=0)
include hg
theorem zDX{w:NdF->List Ex->Nat}(h:∀f,f.kind=10->w f []=0):wN w (bld (shpG g) (ordE (eG g)).length)=wN w (bldN (shpG g) (ordE (eG g)).length):=by
 obtain⟨T,D⟩:=Dm.dtree_ex (zo hg).ok (zo hg).pos;refine zzU _ λy j b=>?_
 obtain⟨x,_,e⟩:=zh1 (znd (zo hg) (one:=oneG g) D) (zkj (zo hg) D) (Wa _) j;obtain⟨c,d⟩:=zCY e b;exact⟨by rw[c];exact h _ b,d⟩
theorem zCA:wN zc6 (bld (shpG g) (ordE (eG g)).length)=((ordE (eG g)).filter (zeN (eG g))).length:=by rw[zDX hg λf b=>by unfold zc6;rw[if_neg (by omega)]];obtain⟨T,D⟩:=Dm.dtree_ex (zo hg).ok (zo hg).pos;rw[<-zpb];exact zwS (znd (zo hg) (last:=zaG g) (one:=oneG g) D) (zkj (zo hg) D) zc6 (λx=>if zeN (eG g) x then 1 else 0) (λx _ v h=>zGA h) (Wa _) c0
include h0
theorem zBX:wN ziR (bld (shpG g) (ordE (eG g)).length)=((ordE (eG g)).filter (isBr g)).length:=by
 rw[zDX hg λf _=>rfl];obtain⟨T,D⟩:=Dm.dtree_ex (zo hg).ok (zo hg).pos;rw[<-zpb];refine zwS (znd (zo hg) (last:=zaG g) (one:=oneG g) D) (zkj (zo hg) D) ziR (λx=>if isBr g x then 1 else 0) (λx d v h=>?_) (Wa _) c0;rw[zHd h];have b:=zbl (zo hg) d;rw[zdf]at b;have c:=zrz (zAv hg h0 b);show(if (zaG g x).op=7\/(zaG g x).op=8 then(zaG g x).e.length else 0)=_;unfold isBr;by_cases h:(zaG g x).op=7\/(zaG g x).op=8
 .rw[if_pos h,decide_eq_true h];unfold zaJ at c;rw[if_neg (by omega),if_pos (by omega)]at c;simp;omega
 .rw[if_neg h,decide_eq_false h];rfl
end
theorem zAo{g:G}(j:OkB g){b:Nat}(e:b<g.blocks.length):zeN (eG g) b=(Dm.suc (Dm.predL (eG g)) b).any λp=>decide (p∈ordE (eG g))&&Dm.domL (Dm.treeL (eG g)) b p:=by
 unfold zeN;rw[Bool.eq_iff_iff,WG,WG];have c:b<(eG g).length:=by rw[zdf];exact e
 constructor
 .rintro⟨p,d,h⟩;rw[WH,decide_eq_true_eq]at h;refine⟨p,(Dm.mem_predL c).2 ⟨zbl (zo j) d,h.1⟩,?_⟩;rw[decide_eq_true d,h.2];rfl
 .rintro⟨p,d,h⟩;rw[WH,decide_eq_true_eq]at h;refine⟨p,h.1,?_⟩;rw[decide_eq_true ((Dm.mem_predL c).1 d).2,h.2];rfl
def isG(E:Dm.Adj)(b k:Nat):Bool:=((Dm.suc (Dm.predL E) b).take k).any λp=>decide (p∈ordE E)&&Dm.domL (Dm.treeL E) b p
theorem zGV{E:Dm.Adj}{b k:Nat}(h:k<(Dm.suc (Dm.predL E) b).length):isG E b (k+1)=(isG E b k||(decide ((Dm.suc (Dm.predL E) b)[k]∈ordE E)&&Dm.domL (Dm.treeL E) b (Dm.suc (Dm.predL E) b)[k])):=by unfold isG;rw[Wr h,List.any_append];simp
def cnF(p:Nat->Bool)(l:List Nat)(i:Nat):Nat:=((l.take i).filter p).length
theorem zzH{p:Nat->Bool}{l:List Nat}{i:Nat}(h:i<l.length):cnF p l (i+1)=if p l[i]then cnF p l i+1 else cnF p l i:=by
 unfold cnF;rw[Wr h,List.filter_append,List.length_append]
 cases b:p l[i]with
 |true=>rw[Wm b];rfl
 |false=>rw[Wn (by rw[b];decide)];rfl
theorem zHX{p:Nat->Bool}{l:List Nat}{i:Nat}:cnF p l i<=i:=by have:=List.length_filter_le p (l.take i);rw[List.length_take]at this;unfold cnF;omega
theorem Qz{b p:Prop}(a0:b)(h:b->p:=by intro a0;(try simp only[evWB,Nat.reduceBEq,Nat.reduceAdd,Nat.reduceSub,Nat.reduceLeDiff,Nat.reduceLT,implies_true,a0])<;>(repeat' with_reducible apply And.intro)<;>first|(first|exact zk rfl|exact zqG rfl rfl;done)|exact fin6):p:=h a0
theorem QA{b p:Prop}(a0:b)(h:b->p:=by intro a0;(try simp only[evWB,Nat.reduceBEq,Nat.reduceAdd,Nat.reduceSub,Nat.reduceLeDiff,Nat.reduceLT,implies_true,a0])<;>(repeat' with_reducible apply And.intro)<;>first|(first|exact zk rfl;done)|exact fin6):p:=h a0
theorem L36_StructureLoops_ok(g:G):zq Z9 zen [.agg g.cells] (·=.bool true):=by
 refine fn_x zma rfl ?_;refine dcU zgV.eq_1 ?_;have hB:=hBig;have hFw:=zs9 g;have Q:g.cells.length=2:=rfl;have R:[g.cells.getD 0 .undef,g.cells.getD 1 .undef]=g.cells:=rfl;have hgf:zu g.cells=true:=rfl;refine Gw4 @ua Q R hgf ?_;intros;refine ze (zh hFw rfl) ?_
 cases hf:fewG g with
 |false=>refine Gw0 ?_;intros;refine ze (zh za6 rfl) ?_;refine Gw1 @zcr.eq_1 ?_;intros;exact bzO
 |true=>
 have hBu:=zjk g hf;refine Gw4 @ua Q R hgf ?_;intros;refine ze (zh hBu rfl) ?_;by_cases h0:zjb g=0
 case neg=>
  rw[if_neg h0];have hk1:(encN (zag 0 0 0)).getD 0 .undef=.int .i64 0:=by rw[zcW];rfl
  refine Gw5 @zD @ua Q R hgf ?_;intros;refine Gw3 @dT @dF hk1 ?_;intros;refine ze (zh za6 rfl) ?_;refine Gw1 @zcr.eq_1 ?_;intros;exact bzO
 rw[if_pos h0];have M:=zuo hf h0;obtain⟨T,D⟩:=Dm.dtree_ex (zo M).ok (zo M).pos;have hn:=Wa (ordE (eG g)).length;have hb1:=zH9 (znd (zo M) (one:=oneG g) D) (zkj (zo M) D) hn
 have hcd:∀y∈allN (bld (shpG g) (ordE (eG g)).length),y.cond.length<=100:=λy hy=>by
  rcases zw5 M hn hb1 hy with ⟨_,h2⟩|⟨x,hx,_,y',he,_,h2,_⟩
  .rw[h2];exact Wc _
  .rw[h2];rcases zFB he with h|h
   .rw[h];exact Wc _
   .rw[h];have h3:=((zdq hf).2 _ (zeV hx)).2 _ (zzV M hx);omega
 have hsz:zco (bld (shpG g) (ordE (eG g)).length)<=168:=We (zrm _ _) (zur hf h0 hn);have hL1:=zCA M;have hL2:=zBX M h0;generalize bld (shpG g) (ordE (eG g)).length=e at *;have hLo:=zm9 1000 e (by omega) (by omega);have hCo:=zkd 1000 e (by omega) (by omega) hcd;rw[hL1]at hLo;rw[hL2]at hCo;have hO:=Dm.R24_Order_ok g.toG (zh0 hf);have hT:=Dm.R24_Tree_ok g.toG (zh0 hf);have hP:=Dm.R24_Predecessors_ok g.toG (zh0 hf);rw[G.toG_cells]at hO hT hP;have e1:Dm.orderL g.toG.E=ordE (eG g):=by unfold Dm.orderL;rw[if_neg (by rw[zdf];have:=M.pos;omega)];rfl
 rw[e1]at hO;have hgb:=(zdq hf).1;have hol:=ztH M;have hlt:=λ{x} (hx:x∈ordE (eG g))=>(by have:=zbl (zo M) hx;rwa [zdf]at this:x<g.blocks.length)
 refine Gw7 @dT @dF @ua @zD Q R hgf ?_;intros;refine zdn (zh hO rfl) ?_;refine Gw2 @ua R ?_;intros;refine zdn (zh hT rfl) ?_;refine Gw2 @ua R ?_;intros;refine zdn (zh hP rfl) ?_;refine Gw0 ?_;intros;refine zd (λi:Nat=>([(1,encP 2 g.cells),(3,encP 5 (encN e)),(5,za (ordE (eG g))),(6,zb (Dm.treeL (eG g))),(7,Dm.encNN (Dm.predL (eG g))),(8,.int .i64 (cnF (zeN (eG g)) (ordE (eG g)) i)),(9,.int .i64 (cnF (isBr g) (ordE (eG g)) i)),(10,.int .i64 i)],[])) 0 (λi=>i<=(ordE (eG g)).length) (λi=>(ordE (eG g)).length-i) 0 (Wc _) (Xa [] [0] rfl rfl rfl trivial (Qz @ua)) ?_;intro i hi wf;clear wf;refine dcU zff.eq_1 ?_;rcases Wi i (ordE (eG g)).length with S|S
 case inr=>
  have hie:i=(ordE (eG g)).length:=Wj hi S;subst hie;have hf1:cnF (zeN (eG g)) (ordE (eG g)) (ordE (eG g)).length=((ordE (eG g)).filter (zeN (eG g))).length:=by unfold cnF;rw[Wo]
  have hf2:cnF (isBr g) (ordE (eG g)) (ordE (eG g)).length=((ordE (eG g)).filter (isBr g)).length:=by unfold cnF;rw[Wo]
  refine Gw2 @dF @ub ?_;intros;refine dcU zfa.eq_1 ?_;refine Gw2 @ua @zJ ?_;intros;refine ze (zh hLo (flN rfl)) ?_;refine Gw4 @dT hf1 @ua @zJ ?_;intros;refine ze (zh hCo (flN rfl)) ?_;refine Gw4 @dT hf2 @ua @zJ ?_;intros;refine ze (zh za6 rfl) ?_;refine Gw1 @zcr.eq_1 ?_;intros;exact bzO
 have hbm:=Wl S;have W:=zzH (p:=zeN (eG g)) S;have t:=zzH (p:=isBr g) S;have hl1:=zHX (p:=zeN (eG g)) (l:=ordE (eG g)) (i:=i);have hl2:=zHX (p:=isBr g) (l:=ordE (eG g)) (i:=i);have hgi:((ordE (eG g)).map λ(n:Nat)=>[Xd .i64 (n:Int)]).getD i []=[.int .i64 ((ordE (eG g))[i]:Int)]:=zi (f:=cN) (d:=[]) S;generalize (ordE (eG g))[i]=b at hbm W t hgi;have hb:=hlt hbm;have V:(Dm.predL (eG g)).length=g.blocks.length:=by rw[Dm.predL_len,zdf]
 have L:((Dm.predL (eG g)).map λl=>[za l]).getD b []=[za (Dm.suc (Dm.predL (eG g)) b)]:=by
  have hb2:b<(Dm.predL (eG g)).length:=by omega
  rw[zi hb2,Dm.predL_suc hb2]
 have q:((Dm.predL (eG g)).map λl=>[encL 1 (λ(n:Nat)=>[Xd .i64 (n:Int)]) l]).getD b []=[encL 1 (λ(n:Nat)=>[Xd .i64 (n:Int)]) (Dm.suc (Dm.predL (eG g)) b)]:=L;have hpn:(Dm.suc (Dm.predL (eG g)) b).length<=(eG g).length:=zqw;rw[zdf]at hpn;have hhd:=zAo M hb;have htl:(Dm.treeL (eG g)).length<=1000:=by simp only[Dm.treeL,List.length_map,WI,zdf];omega
 have hst:=M.stm _ (zeV hb);have N:(g.blocks.map Xe).getD b []=(blG g b).cells:=by rw[zi hb,zph hb]
 have hcb:(blG g b).cells=[.int .u32 (blG g b).addr,encL 8 Xf (blG g b).stmts]:=rfl;obtain⟨hl0,hll⟩:=zzN M hb;refine Gw3 @dT @ub hgi ?_;intros;refine zd (λk:Nat=>([(1,encP 2 g.cells),(3,encP 5 (encN e)),(5,za (ordE (eG g))),(6,zb (Dm.treeL (eG g))),(7,Dm.encNN (Dm.predL (eG g))),(8,.int .i64 (cnF (zeN (eG g)) (ordE (eG g)) i)),(9,.int .i64 (cnF (isBr g) (ordE (eG g)) i)),(10,.int .i64 i),(11,.int .i64 b),(12,.bool (isG (eG g) b k)),(13,.int .i64 k)],[])) 0 (λk=>k<=(Dm.suc (Dm.predL (eG g)) b).length) (λk=>(Dm.suc (Dm.predL (eG g)) b).length-k) 0 (Wc _) (Xh rfl fin5) ?_;intro k hk wf;clear wf;refine dcU zfd.eq_1 ?_;rcases Wi k (Dm.suc (Dm.predL (eG g)) b).length with hk' |hk'
 case inl=>
  have v:=zGV hk';have P:((Dm.suc (Dm.predL (eG g)) b).map λ(n:Nat)=>[Xd .i64 (n:Int)]).getD k []=[.int .i64 ((Dm.suc (Dm.predL (eG g)) b)[k]:Int)]:=zi (f:=cN) (d:=[]) hk';generalize (Dm.suc (Dm.predL (eG g)) b)[k]=p at v P;have hHas:=Dm.R24_HasN_ok (ordE (eG g)) p;have hDo:=Dm.R24_Dominates_ok (Dm.treeL (eG g)) b p htl
  cases hz:isG (eG g) b k with
  |true=>
   rw[hz,Bool.true_or]at v
   (repeat first|simp(disch:=try exact dis1) only[evD,Xb,Xc,Xg,dT,Dm.encNN,za,L,q,V,P]|with_reducible first|intro _|refine aJ ?_)
   exact⟨k+1,by omega,by omega,by rw[v];exact Xh rfl fin5⟩
  |false=>
   rw[hz,Bool.false_or]at v
   (repeat first|simp(disch:=try exact dis1) only[evD,Xb,Xc,Xg,dT,Dm.encNN,za,L,q,V,P]|with_reducible first|intro _|refine aJ ?_)
   refine ze (zh hHas rfl) ?_
   cases hz2:decide (p∈ordE (eG g))with
   |false=>
    rw[hz2,Wp]at v
    (repeat first|simp(disch:=try exact dis1) only[evD,Xb,Xc,Xg,dT,Dm.encNN,za,L,q,V,P]|with_reducible first|intro _|refine aJ ?_)
    exact⟨k+1,by omega,by omega,by rw[v];exact Xh rfl fin5⟩
   |true=>
    rw[hz2,Wq]at v
    (repeat first|simp(disch:=try exact dis1) only[evD,Xb,Xc,Xg,dT,Dm.encNN,za,L,q,V,P]|with_reducible first|intro _|refine aJ ?_)
    refine ze (zh hDo rfl) ?_
    (repeat first|simp(disch:=try exact dis1) only[evD,Xb,Xc,Xg,dT,Dm.encNN,za,L,q,V,P]|with_reducible first|intro _|refine aJ ?_)
    exact⟨k+1,by omega,by omega,by rw[v];exact Xh rfl fin5⟩
 have hie:k=(Dm.suc (Dm.predL (eG g)) b).length:=Wj hk hk';subst hie;have his:isG (eG g) b (Dm.suc (Dm.predL (eG g)) b).length=zeN (eG g) b:=by unfold isG;rw[Wo,hhd]
 (repeat first|simp(disch:=try exact dis1) only[evD,Xb,Xc,Xg,dF,Dm.encNN,za,L,q,V]|with_reducible first|intro _|refine aJ ?_)
 unfold ze1;have u:=(zaG g b).len;have hle:=(zaG g b).eight;have O:((((blG g b).stmts.length:Nat):Int)-1).toNat=(blG g b).stmts.length-1:=by omega
 have hbr:isBr g b=decide ((zaG g b).op=7\/(zaG g b).op=8):=rfl;have U:(zaG g b).cells.getD 0 .undef=.int .i64 (zaG g b).op:=rfl;rw[his];have hgc:g.cells.getD 1 .undef=encL 2 Xe g.blocks:=rfl;have hbc:(blG g b).cells.getD 1 .undef=encL 8 Xf (blG g b).stmts:=rfl;have hbl2:(blG g b).cells.length=2:=rfl
 cases hh:zeN (eG g) b with
 |true=>
  rw[hh]at W;have K:((cnF (zeN (eG g)) (ordE (eG g)) (i+1):Nat):Int)=(cnF (zeN (eG g)) (ordE (eG g)) i:Int)+1:=by rw[W];simp
  refine Gw2 @dT @dF ?_;intros;refine zqC za1 zeF zeb zaN [(84,.iptr 1 λj=>g.cells.getD (1+j) .undef),(85,encL 2 Xe g.blocks),(86,.int .i64 b),(87,.iptr 2 λj=>(blG g b).cells.getD j .undef),(88,.iptr 1 λj=>(blG g b).cells.getD (1+j) .undef),(89,encL 8 Xf (blG g b).stmts),(90,.iptr 1 λj=>g.cells.getD (1+j) .undef),(91,encL 2 Xe g.blocks),(92,.int .i64 b),(93,.iptr 2 λj=>(blG g b).cells.getD j .undef),(94,.iptr 1 λj=>(blG g b).cells.getD (1+j) .undef),(95,encL 8 Xf (blG g b).stmts),(96,.int .i64 (blG g b).stmts.length),(97,.int .i64 ((blG g b).stmts.length-1)),(98,.iptr 8 λj=>(zaG g b).cells.getD j .undef),(99,.agg (zaG g b).cells),(14,.ptr 0 0 0 0 0)] (hsOf [([],0),([(0,.row 8 [[.int .i64 0,.int .i64 0,.int .i64 0,.int .i64 0,.int .i64 0,.int .u32 0,.nilsl,.nilsl]] 0)],1),([(0,.row 8 [(zaG g b).cells] 0)],1)]) (by kernel_rfl) (by rfl) (by rfl) (by repeat' first|exact QExt.retK|apply QExt.seq|apply QExt.block|apply QExt.loop|apply QExt.join|assumption) ?plan [(14,.ptr 0 0 0 0 0)] (by rfl) ?fin
  case' plan=>
   intro c hs m hH;have Z:c.get 84=.iptr 1 λj=>g.cells.getD (1+j) .undef:=by rw[m,zf];rfl
   have w:c.get 85=encL 2 Xe g.blocks:=by rw[m,zf];rfl
   have z:c.get 86=.int .i64 b:=by rw[m,zf];rfl
   have A:c.get 87=.iptr 2 λj=>(blG g b).cells.getD j .undef:=by rw[m,zf];rfl
   have kf88:c.get 88=.iptr 1 λj=>(blG g b).cells.getD (1+j) .undef:=by rw[m,zf];rfl
   have B:c.get 89=encL 8 Xf (blG g b).stmts:=by rw[m,zf];rfl
   have kf90:c.get 90=.iptr 1 λj=>g.cells.getD (1+j) .undef:=by rw[m,zf];rfl
   have C:c.get 91=encL 2 Xe g.blocks:=by rw[m,zf];rfl
   have F:c.get 92=.int .i64 b:=by rw[m,zf];rfl
   have H:c.get 93=.iptr 2 λj=>(blG g b).cells.getD j .undef:=by rw[m,zf];rfl
   have kf94:c.get 94=.iptr 1 λj=>(blG g b).cells.getD (1+j) .undef:=by rw[m,zf];rfl
   have kf95:c.get 95=encL 8 Xf (blG g b).stmts:=by rw[m,zf];rfl
   have kf96:c.get 96=.int .i64 (blG g b).stmts.length:=by rw[m,zf];rfl
   have I:c.get 97=.int .i64 ((blG g b).stmts.length-1):=by rw[m,zf];rfl
   have J:c.get 98=.iptr 8 λj=>(zaG g b).cells.getD j .undef:=by rw[m,zf];rfl
   have kf99:c.get 99=.agg (zaG g b).cells:=by rw[m,zf];rfl
   have Y:c.get 14=.ptr 0 0 0 0 0:=by rw[m,zf];rfl
   have kf1:c.get 1=encP 2 g.cells:=by rw[m,zf];rfl
   have X:c.get 11=.int .i64 b:=by rw[m,zf];rfl
   simp only[zaN,zmq,zoq,and_true]
   (repeat' with_reducible apply Wh)
   all_goals(rw[hH];simp only[zos,zb3,Ws,Wt,hsOf,hsAt,beqL,zgK,Xb,Wu,Wq,Wv,Wp,cond_true,cond_false,Wg,Ww,Xc])
   all_goals try(simp(disch:=try exact dis1) only[evD,Xb,Xc,Xg,zdM,zcQ,Z,w,z,A,kf88,B,kf90,C,F,H,kf94,kf95,kf96,I,J,kf99,Y,kf1,X,hgc,hbc,hbl2,Q,N,O,hll,u,hle,fldP];done)
  case' fin=>simp only[za1,hsOf,hsAt,beqL,zgK,Xb,Wu,Wq,Wv,Wp,cond_true,cond_false,Wg,Ww,Xc,Ws,Wt,zav]
  case fin=>
   by_cases o:(zaG g b).op=7\/(zaG g b).op=8
   .rw[hbr,decide_eq_true o]at t;have s:((cnF (isBr g) (ordE (eG g)) (i+1):Nat):Int)=(cnF (isBr g) (ordE (eG g)) i:Int)+1:=by rw[t];simp
    by_cases h7:(zaG g b).op=7
    ·(refine Gw4 @dT @dF U u ?_;intros);refine dcU z7.eq_1 ?_;refine Gw0 ?_;intros;exact⟨i+1,by omega,by omega,by rw[K,s];exact(Xa [] [] rfl rfl rfl trivial (QA @ua))⟩
    .have h8:=o.resolve_left h7;refine Gw4 @dT @dF U u ?_;intros;refine dcU z7.eq_1 ?_;refine Gw0 ?_;intros;exact⟨i+1,by omega,by omega,by rw[K,s];exact(Xa [] [] rfl rfl rfl trivial (QA @ua))⟩
   .rw[hbr,decide_eq_false o]at t;have s:cnF (isBr g) (ordE (eG g)) (i+1)=cnF (isBr g) (ordE (eG g)) i:=by rw[t];simp
    have h7:¬(zaG g b).op=7:=λh=>o (.inl h)
    have h8:¬(zaG g b).op=8:=λh=>o (.inr h)
    refine Gw4 @dT @dF U u ?_;intros;refine dcU z7.eq_1 ?_;refine Gw0 ?_;intros;exact⟨i+1,by omega,by omega,by rw[K,s];exact(Xa [] [] rfl rfl rfl trivial (QA @ua))⟩
  all_goals(refine Gw12 w z C F B I N O hll @m9M @zdM @zcQ ?_;intros;try with_reducible exact trivial)
  all_goals first|exact A.symm|exact H.symm|exact J.symm|decide
 |false=>
  rw[hh]at W;have K:cnF (zeN (eG g)) (ordE (eG g)) (i+1)=cnF (zeN (eG g)) (ordE (eG g)) i:=by rw[W];simp
  refine Gw2 @dT @dF ?_;intros;refine zqC za1 zeF zeb zaN [(84,.iptr 1 λj=>g.cells.getD (1+j) .undef),(85,encL 2 Xe g.blocks),(86,.int .i64 b),(87,.iptr 2 λj=>(blG g b).cells.getD j .undef),(88,.iptr 1 λj=>(blG g b).cells.getD (1+j) .undef),(89,encL 8 Xf (blG g b).stmts),(90,.iptr 1 λj=>g.cells.getD (1+j) .undef),(91,encL 2 Xe g.blocks),(92,.int .i64 b),(93,.iptr 2 λj=>(blG g b).cells.getD j .undef),(94,.iptr 1 λj=>(blG g b).cells.getD (1+j) .undef),(95,encL 8 Xf (blG g b).stmts),(96,.int .i64 (blG g b).stmts.length),(97,.int .i64 ((blG g b).stmts.length-1)),(98,.iptr 8 λj=>(zaG g b).cells.getD j .undef),(99,.agg (zaG g b).cells),(14,.ptr 0 0 0 0 0)] (hsOf [([],0),([(0,.row 8 [[.int .i64 0,.int .i64 0,.int .i64 0,.int .i64 0,.int .i64 0,.int .u32 0,.nilsl,.nilsl]] 0)],1),([(0,.row 8 [(zaG g b).cells] 0)],1)]) (by kernel_rfl) (by rfl) (by rfl) (by repeat' first|exact QExt.retK|apply QExt.seq|apply QExt.block|apply QExt.loop|apply QExt.join|assumption) ?plan2 [(14,.ptr 0 0 0 0 0)] (by rfl) ?fin2
  case' plan2=>
   intro c hs m hH;have Z:c.get 84=.iptr 1 λj=>g.cells.getD (1+j) .undef:=by rw[m,zf];rfl
   have w:c.get 85=encL 2 Xe g.blocks:=by rw[m,zf];rfl
   have z:c.get 86=.int .i64 b:=by rw[m,zf];rfl
   have A:c.get 87=.iptr 2 λj=>(blG g b).cells.getD j .undef:=by rw[m,zf];rfl
   have kf88:c.get 88=.iptr 1 λj=>(blG g b).cells.getD (1+j) .undef:=by rw[m,zf];rfl
   have B:c.get 89=encL 8 Xf (blG g b).stmts:=by rw[m,zf];rfl
   have kf90:c.get 90=.iptr 1 λj=>g.cells.getD (1+j) .undef:=by rw[m,zf];rfl
   have C:c.get 91=encL 2 Xe g.blocks:=by rw[m,zf];rfl
   have F:c.get 92=.int .i64 b:=by rw[m,zf];rfl
   have H:c.get 93=.iptr 2 λj=>(blG g b).cells.getD j .undef:=by rw[m,zf];rfl
   have kf94:c.get 94=.iptr 1 λj=>(blG g b).cells.getD (1+j) .undef:=by rw[m,zf];rfl
   have kf95:c.get 95=encL 8 Xf (blG g b).stmts:=by rw[m,zf];rfl
   have kf96:c.get 96=.int .i64 (blG g b).stmts.length:=by rw[m,zf];rfl
   have I:c.get 97=.int .i64 ((blG g b).stmts.length-1):=by rw[m,zf];rfl
   have J:c.get 98=.iptr 8 λj=>(zaG g b).cells.getD j .undef:=by rw[m,zf];rfl
   have kf99:c.get 99=.agg (zaG g b).cells:=by rw[m,zf];rfl
   have Y:c.get 14=.ptr 0 0 0 0 0:=by rw[m,zf];rfl
   have kf1:c.get 1=encP 2 g.cells:=by rw[m,zf];rfl
   have X:c.get 11=.int .i64 b:=by rw[m,zf];rfl
   simp only[zaN,zmq,zoq,and_true]
   (repeat' with_reducible apply Wh)
   all_goals(rw[hH];simp only[zos,zb3,Ws,Wt,hsOf,hsAt,beqL,zgK,Xb,Wu,Wq,Wv,Wp,cond_true,cond_false,Wg,Ww,Xc])
   all_goals try(simp(disch:=try exact dis1) only[evD,Xb,Xc,Xg,zdM,zcQ,Z,w,z,A,kf88,B,kf90,C,F,H,kf94,kf95,kf96,I,J,kf99,Y,kf1,X,hgc,hbc,hbl2,Q,N,O,hll,u,hle,fldP];done)
  case' fin2=>simp only[za1,hsOf,hsAt,beqL,zgK,Xb,Wu,Wq,Wv,Wp,cond_true,cond_false,Wg,Ww,Xc,Ws,Wt,zav]
  case fin2=>
   by_cases o:(zaG g b).op=7\/(zaG g b).op=8
   .rw[hbr,decide_eq_true o]at t;have s:((cnF (isBr g) (ordE (eG g)) (i+1):Nat):Int)=(cnF (isBr g) (ordE (eG g)) i:Int)+1:=by rw[t];simp
    by_cases h7:(zaG g b).op=7
    ·(refine Gw4 @dT @dF U u ?_;intros);refine dcU z7.eq_1 ?_;refine Gw0 ?_;intros;exact⟨i+1,by omega,by omega,by rw[K,s];exact(Xa [] [] rfl rfl rfl trivial (QA @ua))⟩
    .have h8:=o.resolve_left h7;refine Gw4 @dT @dF U u ?_;intros;refine dcU z7.eq_1 ?_;refine Gw0 ?_;intros;exact⟨i+1,by omega,by omega,by rw[K,s];exact(Xa [] [] rfl rfl rfl trivial (QA @ua))⟩
   .rw[hbr,decide_eq_false o]at t;have s:cnF (isBr g) (ordE (eG g)) (i+1)=cnF (isBr g) (ordE (eG g)) i:=by rw[t];simp
    have h7:¬(zaG g b).op=7:=λh=>o (.inl h)
    have h8:¬(zaG g b).op=8:=λh=>o (.inr h)
    refine Gw4 @dT @dF U u ?_;intros;refine dcU z7.eq_1 ?_;refine Gw0 ?_;intros;exact⟨i+1,by omega,by omega,by rw[K,s];exact(Xa [] [] rfl rfl rfl trivial (QA @ua))⟩
  all_goals(refine Gw12 w z C F B I N O hll @m9M @zdM @zcQ ?_;intros;try with_reducible exact trivial)
  all_goals first|exact A.symm|exact H.symm|exact J.symm|decide
def zfu(E:Dm.Adj)(b:Nat):Nat:=(if b=0 then 1 else 0)+cntE E b
def zJO(E:Dm.Adj)(n:Nat):Nat:=((Wk n).map λb=>if 1<zfu E b then zfu E b else 0).sum
theorem zxE{f g:Nat->Nat}:∀{l:List Nat},(l.map λb=>f b+g b).sum=(l.map f).sum+(l.map g).sum
 |[]=>rfl
 |
  a::l=>by
  rw[Wd,Wf,zxE,Wd,Wf,Wd,Wf];omega
theorem zoy:∀{l:List Nat},(l.map λ_=>0).sum=0
 |[]=>rfl
 |a::l=>by rw[Wd,Wf,zoy]
theorem zyJ{h:Nat->Nat->Nat}{m:List Nat}:∀{l:List Nat},(l.map λx=>(m.map (h x)).sum).sum=(m.map λb=>(l.map λx=>h x b).sum).sum
 |[]=>by rw[List.map_nil,List.sum_nil];exact(zoy).symm
 |
  a::l=>by
  rw[Wd,Wf,zyJ,<-zxE];congr 1
theorem zzo{f g:Nat->Nat}:∀{l:List Nat},(∀x∈l,f x<=g x)->(l.map f).sum<=(l.map g).sum
 |[],_=>Wa _
 |
  a::l,h=>by
  rw[Wd,Wf,Wd,Wf];have:=h a Wz;have:=zzo λx b=>h x (WA _ b)
  omega
theorem zHS{t:Nat}{q:Nat->Bool}:∀{n:Nat},((Wk n).map λb=>if q b then(if t=b then 1 else 0)else 0).sum=if t<n/\q t=true then 1 else 0
 |0=>by simp
 |
  n+1=>by
  rw[List.range_succ,WB,WC,zHS];simp only[Wd,List.map_nil,Wf,List.sum_nil];by_cases c:t=n
  .subst c;cases e:q t<;>simp
  .by_cases d:t<n
   .have:t<n+1:=by omega
    cases e:q t<;>simp[d,this,c]
   .have:¬t<n+1:=by omega
    simp[d,this,c]
theorem ztt{q:Nat->Bool}{n:Nat}:∀{l:List Nat},(∀t∈l,t<n)->(l.filter q).length=((Wk n).map λb=>if q b then l.count b else 0).sum
 |[],_=>by simp[zoy]
 |
  a::l,h=>by
  have k:=ztt (q:=q) λt j=>h t (WA _ j)
  have g:=h a Wz
  have e:(λb=>if q b then(a::l).count b else 0)=λb=>(if q b then(if a=b then 1 else 0)else 0)+(if q b then l.count b else 0):=funext λb=>by
   rw[List.count_cons]
   cases q b with
   |false=>rfl
   |true=>
    simp only[if_true];by_cases c:a=b
    .simp[c];omega
    .simp[c]
  rw[e,zxE,zHS,<-k]
  cases d:q a with
  |true=>rw[Wm d,Wg,if_pos ⟨g,rfl⟩];omega
  |false=>rw[Wn (by rw[d];decide)];simp
theorem zyB{g:G}{x:Nat}{y:Nd}(h:EmP (shpG g) x y)(d:y.f.kind=9):y.f.label∈tgS (zaG g x):=by
 cases h with
 |seq l=>exact absurd (show(1:Int)=9 from d) (by decide)
 |label=>exact absurd (show(10:Int)=9 from d) (by decide)
 |block=>exact absurd (show(2:Int)=9 from d) (by decide)
 |loop n _ _=>exact absurd (show(4:Int)=9 from d) (by decide)
 |while_ n _ k _ _=>exact absurd (show(5:Int)=9 from d) (by decide)
 |if_ a b _ _ _=>exact absurd (show(3:Int)=9 from d) (by decide)
 |switch l _ _ _=>exact absurd (show(6:Int)=9 from d) (by decide)
 |ret=>exact absurd (show(11:Int)=9 from d) (by decide)
 |halt=>exact absurd (show(12:Int)=9 from d) (by decide)
 |leaf t c ht _ _=>
  unfold zcY at d⊢;split at d
  .exact absurd (show(1:Int)=9 from d) (by decide)
  .rename_i e;rw[if_neg e];split at d
   .exact absurd (show(8:Int)=9 from d) (by decide)
   .rename_i j;rw[if_neg j];split at d
    .exact absurd (show(7:Int)=9 from d) (by decide)
    .rename_i a3;rw[if_neg a3];exact ht
section
variable {g:G} (hg:OkB g)
include hg
theorem zDa{x u:Nat}(c:x∈ordE (eG g))(h:((u:Nat):Int)∈tgS (zaG g x)):1<=cntE (eG g) u:=by
 have b:=zbl (zo hg) c;have d:=(zo hg).tg x b;rw[d,List.mem_map]at h;obtain⟨v,j,e⟩:=h;obtain rfl:v=u:=by omega
 unfold cntE;exact We (List.count_pos_iff.2 j) (znM (λk=>(Dm.suc (eG g) k).count v) c)
theorem zCG{x:Int}(h:x∈coll zgg (bldN (shpG g) (ordE (eG g)).length)):∃u,u<g.blocks.length/\x=(u:Nat)/\2<=zfu (eG g) u:=by
 obtain⟨T,D⟩:=Dm.dtree_ex (zo hg).ok (zo hg).pos;have j:=znd (zo hg) (one:=oneG g) D;have P:=zkj (zo hg) D;obtain⟨u,m,e,b⟩:=zvy j P (Wa _) h;have c:=zbl (zo hg) m;rw[zdf]at c;refine⟨u,c,e,?_⟩;obtain⟨y,v,o⟩:=zug.1 h;obtain⟨p,q⟩:=zvb o;obtain⟨k,t,s⟩:=zh1 j P (Wa _) v;have d:=zyB s p;rw[<-q,e]at d;have w:=zDa hg t d;unfold zfu;rcases b with b|b
 .have:u=0:=Xj λn=>P.held u m n b
  rw[if_pos this];omega
 .have:2<=cntE (eG g) u:=b;omega
theorem zFn:(coll zgg (bldN (shpG g) (ordE (eG g)).length)).length<=zJO (eG g) g.blocks.length:=by
 obtain⟨T,D⟩:=Dm.dtree_ex (zo hg).ok (zo hg).pos;have q:=znd (zo hg) (last:=zaG g) (one:=oneG g) D;have P:=zkj (zo hg) D;rw[zsP];refine We (zCW q P zmK (λx=>((Dm.suc (eG g) x).filter λt=>decide (2<=zfu (eG g) t)).length) (λx k v h=>?_) (Wa _) c0) ?_
 .refine We (zGn q k h) ?_;have p:=zbl (zo hg) k;have j:tgS ((shpG g).last x)=(Dm.suc (eG g) x).map λ(t:Nat)=>(t:Int):=(zo hg).tg x p
  have m:=λ(t:Nat) (m:t∈Dm.suc (eG g) x)=>zmj (zo hg) k m
  have o:=λ(t:Nat) (m:t∈Dm.suc (eG g) x)=>zDa hg k (u:=t) (by rw[show tgS (zaG g x)=_ from j];exact List.mem_map.2 ⟨t,m,rfl⟩)
  have key:∀l:List Nat,(∀t∈l,t∈ordE (eG g)/\1<=cntE (eG g) t)->((l.map λ(t:Nat)=>(t:Int)).filter λt=>decide (T t.toNat=none\/2<=(shpG g).cnt t.toNat)).length<=(l.filter λt=>decide (2<=zfu (eG g) t)).length:=λl=>by
   induction l with
   |nil=>intro _;exact Wa _
   |cons a l ih=>
    intro h;have n:=ih λt j=>h t (WA _ j)
    obtain⟨w,y⟩:=h a Wz;rw[Wd];by_cases d:T a=none\/2<=(shpG g).cnt a
    .have c:2<=zfu (eG g) a:=by
      unfold zfu;rcases d with d|d
      .have:a=0:=Xj λs=>P.held a w s d
       rw[if_pos this];omega
      .have:2<=cntE (eG g) a:=d;omega
     rw[Wm (by simpa using d),Wm (by simpa using c),Wg,Wg];omega
    .rw[Wn (by simpa using d)];by_cases c:2<=zfu (eG g) a
     .rw[Wm (by simpa using c),Wg];omega
     .rw[Wn (by simpa using c)];exact n
  rw[j];exact key _ λt h=>⟨m t h,o t h⟩
 .have e:∀x∈ordE (eG g),((Dm.suc (eG g) x).filter λt=>decide (2<=zfu (eG g) t)).length=((Wk g.blocks.length).map λb=>if decide (2<=zfu (eG g) b)then(Dm.suc (eG g) x).count b else 0).sum:=λx k=>ztt λt j=>by
   have:=zbl (zo hg) (zmj (zo hg) k j)
   rwa [zdf]at this
  rw[List.map_congr_left e,zyJ];refine zzo λb _=>?_
  by_cases c:2<=zfu (eG g) b
  .have n:1<zfu (eG g) b:=c;rw[if_pos n];simp only[c,decide_true,if_true];exact Nat.le_add_left _ _
  .simp only[c,decide_false];rw[show((ordE (eG g)).map λ_=>if false=true then _ else 0).sum=0 from zoy];exact Wc _
end
def zhK(E:Dm.Adj)(i:Nat)(l:List Nat)(b:Nat):Nat:=(if b=0 then 1 else 0)+(((ordE E).take i).map λx=>(Dm.suc E x).count b).sum+l.count b
def rowI(n:Nat)(f:Nat->Nat):List (List AV):=(Wk n).map λb=>[.int .i64 (f b:Int)]
theorem zi5{n:Nat}{f:Nat->Nat}:(rowI n f).length=n:=by simp[rowI]
theorem zuH{n:Nat}{f:Nat->Nat}{t:Nat}(h:t<n):(rowI n f).getD t []=[.int .i64 (f t:Int)]:=by unfold rowI;rw[zi (by simp;exact h)];simp
theorem zdj{n:Nat}{f:Nat->Nat}:zr (rowI n f):=zI λ_=>rfl
theorem zy5{n:Nat}{f f':Nat->Nat}{t:Nat}{c:AV}(e:c=.int .i64 (f' t:Int))(h:∀b,b≠t->f' b=f b):(rowI n f).set t [c]=rowI n f':=by
 unfold rowI;refine WJ (by simp) λi g j=>?_
 rw[List.getElem_set];by_cases d:t=i
 .subst d;rw[if_pos rfl,e];simp
 .rw[if_neg d];simp[h i (Ne.symm d)]
theorem zA4{E:Dm.Adj}{i t:Nat}{l:List Nat}:zhK E i (l++[t]) t=zhK E i l t+1/\∀b,b≠t->zhK E i (l++[t]) b=zhK E i l b:=by unfold zhK;refine⟨by rw[WK];simp;omega,λb c=>by rw[WK,List.count_singleton];simp[Ne.symm c]⟩
theorem zAP{E:Dm.Adj}{i:Nat}(h:i<(ordE E).length){b:Nat}:zhK E i (Dm.suc E (ordE E)[i]) b=zhK E (i+1) [] b:=by unfold zhK;rw[Wr h,WB,WC];simp;omega
theorem zEN{E:Dm.Adj}{b:Nat}:zhK E (ordE E).length [] b=zfu E b:=by unfold zhK zfu cntE;rw[Wo];simp
def zu7(E:Dm.Adj)(b:Nat):Nat:=((Wk b).map λb=>if 1<zfu E b then zfu E b else 0).sum
theorem zAx{E:Dm.Adj}{b:Nat}:zu7 E (b+1)=zu7 E b+if 1<zfu E b then zfu E b else 0:=by unfold zu7;rw[List.range_succ,WB,WC];simp
theorem zyW{g:G}(d:OkB g){i b:Nat}{l:List Nat}(e:(ordE (eG g)).length<=1000)(m:l.length<=1000):zhK (eG g) i l b<=2000000:=by
 have h:l.count b<=l.length:=WL;have j:(((ordE (eG g)).take i).map λx=>(Dm.suc (eG g) x).count b).sum<=((ordE (eG g)).take i).length*1000:=zmz λx _=>We WL (zus d x)
 have c:((ordE (eG g)).take i).length<=1000:=We (WM _ _) e;have k:((ordE (eG g)).take i).length*1000<=1000*1000:=WN _ c;unfold zhK;split<;>omega
theorem zCK{E:Dm.Adj}{n:Nat}(h:0<n):(Wx n [Xd .i64 0]).set (Int.toNat 0) [Xd .i64 1]=rowI n (zhK E 0 []):=by
 have e:Wx n [Xd .i64 0]=rowI n λ_=>0:=by
  refine WJ (by simp[rowI]) λi d g=>?_
  simp[rowI]
 rw[e];exact zy5 (t:=0) rfl λb c=>by simp[zhK,c]
theorem QB{b p:Prop}(a0:b)(h:b->p:=by intro a0;(try simp only[evWB,Nat.reduceBEq,Nat.reduceAdd,Nat.reduceSub,Nat.reduceLeDiff,Nat.reduceLT,implies_true,a0])<;>(repeat' with_reducible apply And.intro)<;>first|(first|exact RowV.of_flat zdj;done)|exact fin6):p:=h a0
theorem QC{c d p:Prop}(a0:c)(b:d)(h:c->d->p:=by intro a0 b;(try simp only[evWB,Nat.reduceBEq,Nat.reduceAdd,Nat.reduceSub,Nat.reduceLeDiff,Nat.reduceLT,implies_true,a0,b])<;>(repeat' with_reducible apply And.intro)<;>first|(first|exact RowV.of_flat zdj;done)|exact fin6):p:=h a0 b
theorem QD{c d p:Prop}(a0:c)(b:d)(h:c->d->p:=by intro a0 b;(try simp only[evWB,Nat.reduceBEq,Nat.reduceAdd,Nat.reduceSub,Nat.reduceLeDiff,Nat.reduceLT,implies_true,a0,b])<;>(repeat' with_reducible apply And.intro)<;>first|(first|exact zk rfl;done)|exact fin6):p:=h a0 b
theorem L36_StructureGotos_ok(g:G):zq Z9 zeq [.agg g.cells] (·=.bool true):=by
 refine fn_x zmo rfl ?_;refine dcU zgM.eq_1 ?_;have hB:=hBig;have Z:=zs9 g;have q:g.cells.length=2:=rfl;have s:[g.cells.getD 0 .undef,g.cells.getD 1 .undef]=g.cells:=rfl;have A:zu g.cells=true:=rfl;refine Gw4 @ua q s A ?_;intros;refine ze (zh Z rfl) ?_
 cases L:fewG g with
 |false=>refine Gw0 ?_;intros;refine ze (zh za6 rfl) ?_;refine Gw1 @zcn.eq_1 ?_;intros;exact bzO
 |true=>
 have X:=zjk g L;refine Gw4 @ua q s A ?_;intros;refine ze (zh X rfl) ?_;by_cases W:zjb g=0
 case neg=>
  rw[if_neg W];have hk1:(encN (zag 0 0 0)).getD 0 .undef=.int .i64 0:=by rw[zcW];rfl
  refine Gw5 @zD @ua q s A ?_;intros;refine Gw3 @dT @dF hk1 ?_;intros;refine ze (zh za6 rfl) ?_;refine Gw1 @zcn.eq_1 ?_;intros;exact bzO
 rw[if_pos W];have p:=zuo L W;obtain⟨T,D⟩:=Dm.dtree_ex (zo p).ok (zo p).pos;have hn:=Wa (ordE (eG g)).length;have O:=zH9 (znd (zo p) (one:=oneG g) D) (zkj (zo p) D) hn;have U:zco (bld (shpG g) (ordE (eG g)).length)<=168:=We (zrm _ _) (zur L W hn);have hgo:=zFn p;have hin:=λ{x} (h:x∈coll labP (bld (shpG g) (ordE (eG g)).length))=>zCG p ((O.lab x).1 h)
 rw[<-show coll zgg (bld (shpG g) (ordE (eG g)).length)=_ from O.goto_]at hgo;generalize bld (shpG g) (ordE (eG g)).length=e at *;have hGt:=zow e (by omega);have hLb:=znC e (by omega);have hO:=Dm.R24_Order_ok g.toG (zh0 L);rw[G.toG_cells]at hO;have e1:Dm.orderL g.toG.E=ordE (eG g):=by unfold Dm.orderL;rw[if_neg (by rw[zdf];have:=p.pos;omega)];rfl
 rw[e1]at hO;have hgb:=(zdq L).1;have hpo:=p.pos;have hol:=ztH p;have hgc:g.cells.getD 1 .undef=encL 2 Xe g.blocks:=rfl;refine Gw7 @dT @dF @ua @zD q s A ?_;intros;refine ze (zh hO rfl) ?_;refine Gw4 @ua @uf q hgc ?_;intros;refine⟨by simp;omega,?_⟩;have hz:=zCK (E:=eG g) hpo;have M:=λb (N:b<g.blocks.length)=>Dm.R24_Edges_ok g.toG (zh0 L) b (by simpa [G.toG]using N)
 rw[G.toG_cells]at M;rw[hz];refine zd (λi:Nat=>([(1,encP 2 g.cells),(3,encP 5 (encN e)),(5,za (ordE (eG g))),(6,.own 0 0 0 0 g.blocks.length),(7,.int .i64 i)],[(0,.row 1 (rowI g.blocks.length (zhK (eG g) i [])) 0)])) 1 (λi=>i<=(ordE (eG g)).length) (λi=>(ordE (eG g)).length-i) 0 (Wc _) (Xa [(0,1,0)] [0] rfl rfl rfl (QB @ua) (Qz @ua)) ?_;intro i hi wf;clear wf;refine dcU ze3.eq_1 ?_;rcases Wi i (ordE (eG g)).length with v|v
 case inr=>
  have hie:i=(ordE (eG g)).length:=Wj hi v;subst hie;have z:zhK (eG g) (ordE (eG g)).length []=zfu (eG g):=funext λb=>zEN
  have C:∀b,zfu (eG g) b<=2000000:=λb=>by rw[<-z];exact zyW p (by omega) (Wc _)
  simp only[z];refine Gw2 @dF @ub ?_;intros;refine dcU ze0.eq_1 ?_;refine Gw0 ?_;intros;have hml:∀b,zu7 (eG g) b<=b*2000000:=λb=>by have:=zmz (g:=λb=>if 1<zfu (eG g) b then zfu (eG g) b else 0) (m:=2000000) (l:=Wk b) (λx _=>by have:=C x;split<;>omega);rw[WI]at this;exact this
  refine zd (λb:Nat=>([(3,encP 5 (encN e)),(6,.own 0 0 0 0 g.blocks.length),(10,.int .i64 (zu7 (eG g) b)),(11,.int .i64 b)],[(0,.row 1 (rowI g.blocks.length (zfu (eG g))) 0)])) 1 (λb=>b<=g.blocks.length) (λb=>g.blocks.length-b) 0 (Wc _) (Xa [(0,0,0)] [] rfl rfl rfl (QB @ua) (QA @ua)) ?_;intro b N wf;clear wf;refine dcU ze5.eq_1 ?_;rcases Wi b g.blocks.length with F|F
  .have J:=zAx (E:=eG g) (b:=b);have o:=zuH (f:=zfu (eG g)) F;have h1:=hml b;have h2:=C b;have h3:b*2000000<=12*2000000:=WN _ (by omega);refine Gw3 @dT @zi5 o ?_;intros;by_cases hc:1<zfu (eG g) b
   .rw[if_pos hc]at J;have hmi:((zu7 (eG g) (b+1):Nat):Int)=(zu7 (eG g) b:Int)+(zfu (eG g) b:Int):=by omega
    refine Gw3 @dT @zi5 o ?_;intros;exact⟨b+1,by omega,by omega,by rw[hmi];exact(Xa [(0,0,0)] [] rfl rfl rfl (QB @ua) (QA @ua))⟩
   .rw[if_neg hc,Wy]at J;refine Gw3 @dF @zi5 o ?_;intros;exact⟨b+1,by omega,by omega,by rw[J];exact(Xa [(0,0,0)] [] rfl rfl rfl (QB @ua) (QA @ua))⟩
  have hbe:b=g.blocks.length:=Wj N F;subst hbe;have hmo:zu7 (eG g) g.blocks.length=zJO (eG g) g.blocks.length:=rfl;refine Gw2 @dF @zi5 ?_;intros;refine dcU ze2.eq_1 ?_;refine Gw2 @ua @zJ ?_;intros;refine ze (zh hLb (flN rfl)) ?_;have hlb:=We (zo2 zz2 e) U;have hgl2:(coll zgg e).length<=168:=We (zo2 zvZ e) U;generalize coll labP e=l at *;refine Gw0 ?_;intros;refine zd (λj:Nat=>([(3,encP 5 (encN e)),(6,.own 0 0 0 0 g.blocks.length),(10,.int .i64 (zJO (eG g) g.blocks.length)),(12,zb l),(13,.int .i64 j)],[(0,.row 1 (rowI g.blocks.length (zfu (eG g))) 0)])) 1 (λj=>j<=l.length) (λj=>l.length-j) 0 (Wc _) (Xa [(0,0,0)] [] rfl rfl rfl (QB @ua) (QA @ua)) ?_;intro j hj wf;clear wf;refine dcU ze6.eq_1 ?_;rcases Wi j l.length with B|B
  .obtain⟨u,hu,he,h2⟩:=hin (Wl B);have I:(l.map λ(n:Int)=>[Xd .i64 n]).getD j []=[.int .i64 (u:Int)]:=by rw[zi (f:=cI) (d:=[]) B,he]
   have o:=zuH (f:=zfu (eG g)) hu;refine Gw3 @dT @ug I ?_;intros;refine Gw5 @dT @dF @ug I @zi5 ?_;intros;refine Gw6 @dT @dF @ug I o @zi5 ?_;intros;exact⟨j+1,by omega,by omega,(Xa [(0,0,0)] [] rfl rfl rfl (QC @ua @ug) (QD @ua @ug))⟩
  have hje:j=l.length:=Wj hj B;subst hje;refine Gw2 @dF @ug ?_;intros;refine dcU zfc.eq_1 ?_;refine Gw2 @ua @zJ ?_;intros;refine ze (zh hGt (flN rfl)) ?_;refine Gw3 @dT @ua @zJ ?_;intros;refine ze (zh za6 rfl) ?_;refine Gw1 @zcn.eq_1 ?_;intros;exact bzO
 have H:=Wl v;have S:=λb=>zAP v (b:=b)
 have P:((ordE (eG g)).map λ(n:Nat)=>[Xd .i64 (n:Int)]).getD i []=[.int .i64 ((ordE (eG g))[i]:Int)]:=zi (f:=cN) (d:=[]) v;have y:=λt (ht:t∈Dm.suc (eG g) (ordE (eG g))[i])=>zbl (zo p) (zmj (zo p) H ht)
 generalize (ordE (eG g))[i]=b at H S P y;have N:b<g.blocks.length:=by have:=zbl (zo p) H;rwa [zdf]at this
 have Y:=M b N;generalize hl:Dm.suc (eG g) b=l at *;refine Gw5 @dT @ub P @ua s ?_;intros;refine zdn (zh Y rfl) ?_;have hll:l.length<=1000:=by rw[<-hl];exact zus p b
 refine Gw0 ?_;intros;refine zd (λk:Nat=>([(1,encP 2 g.cells),(3,encP 5 (encN e)),(5,za (ordE (eG g))),(6,.own 0 0 0 0 g.blocks.length),(7,.int .i64 i),(8,za l),(9,.int .i64 k)],[(0,.row 1 (rowI g.blocks.length (zhK (eG g) i (l.take k))) 0)])) 1 (λk=>k<=l.length) (λk=>l.length-k) 0 (Wc _) (Xa [(0,0,0)] [] rfl rfl rfl (by((try simp only[evWB,Xb,Xc,Xk,Xg,Xl,implies_true,encP,za,List.take_zero])<;>(repeat' with_reducible apply Wh)<;>first|(first|exact RowV.of_flat zdj;done)|exact fin6)) (by((try simp only[evWB,Xb,Xc,Xk,Xg,Xl,implies_true,encP,za,List.take_zero])<;>(repeat' with_reducible apply Wh)<;>first|(first|exact zk rfl;done)|exact fin6))) ?_;intro k hk wf;clear wf;refine dcU zfb.eq_1 ?_;rcases Wi k l.length with w|w
 .have Q:(l.map λ(n:Nat)=>[Xd .i64 (n:Int)]).getD k []=[.int .i64 (l[k]:Int)]:=zi (f:=cN) (d:=[]) w;have V:l.take (k+1)=l.take k++[l[k]]:=Wr w;have K:=y _ (Wl w);rw[zdf]at K;generalize l[k]=t at Q V K;obtain⟨s1,s2⟩:=zA4 (E:=eG g) (i:=i) (t:=t) (l:=l.take k);have R:=zuH (f:=zhK (eG g) i (l.take k)) K;have hst:=zy5 (n:=g.blocks.length) (f:=zhK (eG g) i (l.take k)) (f':=zhK (eG g) i (l.take k++[t])) (t:=t) (c:=.int .i64 ((zhK (eG g) i (l.take k) t:Int)+1)) (by rw[s1];rfl) s2;have hbnd:zhK (eG g) i (l.take k) t<=2000000:=zyW p (by omega) (We (WM _ _) hll);refine Gw4 @dT @ub Q @zi5 ?_;intros;refine Gw3 R hst @zi5 ?_;intros;exact⟨k+1,by omega,by omega,by rw[V];exact(Xa [(0,0,0)] [] rfl rfl rfl (QC @ua @ub) (QD @ua @ub))⟩
 .have hke:k=l.length:=Wj hk w;subst hke;have z:zhK (eG g) i l=zhK (eG g) (i+1) []:=funext S;rw[Wo,z];refine Gw2 @dF @ub ?_;intros;refine dcU ze4.eq_1 ?_;refine Gw0 ?_;intros;exact⟨i+1,by omega,by omega,(Xa [(0,0,0)] [] rfl rfl rfl (QC @ua @ub) (QD @ua @ub))⟩
end Go.Ab
