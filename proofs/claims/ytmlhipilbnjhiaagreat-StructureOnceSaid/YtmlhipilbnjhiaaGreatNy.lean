/-
  Part 25 of the proof: how the calls of this program run, over values instead of memory, and what each function computes.
-/
import Derived.KernelRfl
import Derived.Test.YtmlhipilbnjhiaaGreatNx
set_option maxRecDepth 100000
set_option linter.unusedVariables false
set_option linter.unusedSimpArgs false
set_option linter.unnecessarySimpa false
set_option linter.unusedSectionVars false
open List renaming range→Wa,all_eq_true→Wd,perm_ext_iff_of_nodup→Wg
open Nat renaming zero_le→Wc,le_refl→We
open Bool renaming and_eq_true→Wf
namespace Go.Ab
open Go.RowKit Go.Proofs
theorem zDt{g:G}(d:OkB g){k:Nat}(e:k<g.blocks.length):zhS g k∈(blG g k).stmts:=by
 have b:=d.ne _ (zfY e);unfold zhS
 cases c:(blG g k).stmts.getLast? with
 |none=>exact absurd (List.getLast?_eq_none_iff.1 c) b
 |some s=>exact List.mem_of_getLast? c
theorem zD5{g:G}(d:OkB g)(c:zfa g=0){k:Nat}(b:k<g.blocks.length):(zhS g k).check=0:=(zql c).2.2 _ (zfY b) _ (zDt d b)
theorem zt6:∀{l:List Ex},zku l=0->∀s∈l,zji s=0
 |
  a::l,h,s,c=>by
  rw[zku]at h;split at h
  .rename_i b;exact absurd h b
  .rename_i b;rcases List.mem_cons.1 c with rfl|c
   .exact Classical.not_not.1 b
   .exact zt6 h s c
theorem zGb{s:St}(h:s.check=0):zal s.op=s.e.length/\(∀e∈s.e,zji e=0)/\(s.op=8->1<=s.cases.length/\s.cases.length<=64):=by
 refine⟨zud h,?_,?_⟩
 .unfold St.check zsv at h;split at h
  .omega
  .split at h
   .rename_i b;exact absurd h b
   .rename_i b;exact zt6 (Classical.not_not.1 b)
 .intro d;unfold St.check zsv at h;split at h
  .omega
  .split at h
   .rename_i b;exact absurd h b
   .split at h
    .rename_i c;unfold zA at c;have:=(of_decide_eq_true c).2.2.2 d;omega
    .omega
theorem zq8:∀y:Nd,zlX y=zb5 y.f.kind y.f.block y.f.label y.cond y.l.length
 |.mk _ _ _=>rfl
theorem zcK{c b lb:Int}{n:Nat}(h:zF c b lb 0 n):zb5 c b lb [] n=true:=yesF h
theorem zpo{d b lb:Int}{n:Nat}{c:List Ex}(j:c.length=1)(g:∀e∈c,zji e=0)(h:zF d b lb 1 n):zb5 d b lb c n=true:=by unfold zb5;rw[j,decide_eq_true h,Bool.true_and,Wd];exact λe k=>decide_eq_true (g e k)
theorem zDR{g:G}(o:OkB g)(s:zfa g=0){x:Nat}(p:x<g.blocks.length){y:Nd}(h:EmP (shpG g) x y):zlX y=true:=by
 obtain⟨d,e,q⟩:=zGb (zD5 o s p);have j:(shpG g).last x=zhS g x:=rfl;have m:=o.tg _ (zfY p);rw[zq8]
 cases h with
 |seq l=>exact zcK (by unfold zF;simp[nSeq,Nd.f])
 |label=>exact zcK (by unfold zF;simp[zax,Nd.f,Nd.l])
 |block=>exact zcK (by unfold zF;simp[zax,Nd.f,Nd.l])
 |loop n _ _=>exact zcK (by unfold zF;simp[Nd.f,Nd.l])
 |while_ n _ _ h7 _=>rw[j]at h7⊢;rw[h7]at d;exact zpo (by simp[Nd.cond];unfold zal at d;simp at d;omega) e (by unfold zF;simp[Nd.f,Nd.l])
 |if_ a b h7 _ _=>rw[j]at h7⊢;rw[h7]at d;exact zpo (by simp[Nd.cond];unfold zal at d;simp at d;omega) e (by unfold zF;simp[Nd.f,Nd.l])
 |switch l h8 hn _=>rw[j]at h8 hn⊢;have u:=q h8;rw[h8]at d;exact zpo (by simp[Nd.cond];unfold zal at d;simp at d;omega) e (by unfold zF;simp[Nd.f,Nd.l];omega)
 |ret=>exact zcK (by unfold zF;simp[zax,Nd.f,Nd.l])
 |halt=>exact zcK (by unfold zF;simp[zax,Nd.f,Nd.l])
 |leaf t c ht _ _=>
  have k:0<=t:=(m t (by rw[zs0];exact ht)).1;unfold zeJ;split
  .exact zcK (by unfold zF;simp[nSeq,Nd.f])
  split
  .exact zcK (by unfold zF;simp[zax,Nd.f,Nd.l])
  split
  .exact zcK (by unfold zF;simp[zax,Nd.f,Nd.l])
  .exact zcK (by unfold zF;simp[zax,Nd.f,Nd.l];exact k)
theorem zyV{y c:Nd}(h:zlX c=true)(b:y.f=c.f)(e:y.cond=c.cond)(g:c.f.kind≠1->y.l.length=c.l.length):zlX y=true:=by
 rw[zq8]at h⊢;rw[b,e];by_cases d:c.f.kind=1
 .unfold zb5 at h⊢;rw[Wf]at h⊢;refine⟨decide_eq_true ?_,h.2⟩;have b:=of_decide_eq_true h.1;unfold zF at b⊢;exact⟨b.1,b.2.1,b.2.2.1,b.2.2.2.1,.inl d,b.2.2.2.2.2⟩
 .rw[g d];exact h
section
variable {g:G} (hg:OkB g) (h0:zfa g=0) {n:Nat} (hn:(ordE (eG g)).length<=n) {e:Nd} (hb:BldOk (shpG g) n e)
include hg hn hb
theorem zpp{y:Nd}(p:y∈allN e):(y.f=⟨1,0,0⟩/\y.cond=[])\/∃x,x<g.blocks.length/\x∈ordE (eG g)/\∃b,EmP (shpG g) x b/\y.f=b.f/\y.cond=b.cond/\(b.f.kind≠1->y.l.length=b.l.length):=by
 obtain⟨T,D⟩:=Dm.dtree_ex (zac hg).ok (zac hg).pos;have j:=zzg (zac hg) (one:=oneG g) D;have P:=zwt (zac hg) D;rcases hb.like y p with h|⟨b,k,m⟩
 .exact .inl h
 .obtain⟨x,d,o⟩:=zlv j P hn k;have c:=zen (zac hg) d;rw[zhL]at c;exact .inr ⟨x,c,d,b,o,m⟩
include h0
theorem zzC:zlM e=true:=by
 rw[<-zpJ,Wd];intro y k;rcases zpp hg hn hb k with ⟨b,c⟩|⟨x,j,_,m,h,b,c,d⟩
 .rw[zq8,b,c];exact zcK (by unfold zF;simp)
 .exact zyV (zDR hg h0 j h) b c d
omit h0
theorem zHY{x:Nat}{y:Nd}(h:EmP (shpG g) x y)(d:y.f.kind=5):y.f.block=x/\(shpG g).one x=true:=by
 cases h with
 |seq l=>exact absurd (show(1:Int)=5 from d) (by decide)
 |label=>exact absurd (show(10:Int)=5 from d) (by decide)
 |block=>exact absurd (show(2:Int)=5 from d) (by decide)
 |loop n _ _=>exact absurd (show(4:Int)=5 from d) (by decide)
 |while_ n _ j _ _=>exact⟨rfl,j⟩
 |if_ a b _ _ _=>exact absurd (show(3:Int)=5 from d) (by decide)
 |switch l _ _ _=>exact absurd (show(6:Int)=5 from d) (by decide)
 |ret=>exact absurd (show(11:Int)=5 from d) (by decide)
 |halt=>exact absurd (show(12:Int)=5 from d) (by decide)
 |leaf t c _ _ _=>rcases zi9 c t with h|h|h|h<;>(rw[h]at d;exact absurd d (by decide))
theorem zyr:zuV g.blocks e=true:=by
 rw[<-zpy,Wd];intro y p;have o:∀y:Nd,whP g.blocks y = !(decide (y.f.kind=5) && !wOk g.blocks y.f.block):=λy=>by cases y;rfl
 rw[o];by_cases c:y.f.kind=5
 .rcases zpp hg hn hb p with ⟨d,_⟩|⟨x,j,_,q,k,d,_,_⟩
  .rw[d]at c;exact absurd (show(1:Int)=5 from c) (by decide)
  .rw[d]at c⊢;obtain⟨h,m⟩:=zHY hg hn hb k c;have b:oneG g x=true:=m;have:wOk g.blocks q.f.block=true:=by rw[h];unfold wOk;rw[if_neg (by omega),Int.toNat_natCast,List.getElem?_eq_getElem j];unfold oneG at b;rw[zrh j]at b;exact b
   rw[this,c];rfl
 .rw[decide_eq_false c];rfl
theorem zm7:(coll blkP e).Nodup/\∀x,x∈coll blkP e↔∃u∈ordE (eG g),x=(u:Nat):=by obtain⟨T,D⟩:=Dm.dtree_ex (zac hg).ok (zac hg).pos;rw[hb.blk];exact zGF (zzg (zac hg) (one:=oneG g) D) (zwt (zac hg) D) hn
theorem zyW:(coll blkP e).length=(ordE (eG g)).length:=by
 obtain⟨c,d⟩:=zm7 hg hn hb;have h:((ordE (eG g)).map λ(u:Nat)=>(u:Int)).Nodup:=zrH (Dm.rpo (zac hg).ok (zac hg).pos).nd
 have:=(Wg c h).2 (λx=>by
  rw[d x,List.mem_map]
  exact⟨λ⟨u,a,b⟩=>⟨u,a,b.symm⟩,λ⟨u,a,b⟩=>⟨u,a,b.symm⟩⟩)
 rw[this.length_eq,List.length_map]
end
mutual
theorem zDr:∀(e:Nd)(b:Bool),zpR e b=zbi e b
 |
  .mk f c l,b=>by
  rw[zpR,zbi];split
  .rfl
  .rw[zz0 l];congr 1;unfold zbE;cases b<;>simp
theorem zz0:∀(l:List Nd)(b:Bool),zgU l b=zJ l b
 |[],b=>by rw[zgU,zJ]
 |x::l,b=>by rw[zgU,zJ,zDr x,zz0 l]
end
def zd1:ACode:=Z8 0xb00e310821001060b00e231000de310721001060a0031140006e2511012140b0090ae2413080e000111710022113ce40000002fd8018e1fc021224cb02b00280021102121402b002902e222331530701400cd31fd360150900b0cd24133 []
def zd0:ACode:=Z8 0x800000000000000000007e000111ec1111101022210127020bb5ff6210021010df7020001763210f125cb0ef520ef16ca0cf534220df5301022210127020bb5ff6210021010df702000176321225cb3242232116ca3365251f62100210107f7020001763209f125cb07f5365205f5342206f45f83111101022210127020bb5ff6210021010df7020001763210f125cb0ef520ef16ca0cf534220df5301022210127020bb5ff6210021010df702000176321225cb3242232116ca3365251f62100210107f702000176321225cb334223365245f631002127602a00215028000f2223 []
def ziq:ACode:=Z8 0x1909605000000113300000721130000c8c26110ed002cd0522dd13cbbd22bd12ca9d23422ad230ed002cd0522113cb0242202112ca036528d2223080000000000007c113c10221012700ba07f61001012d7000017631531136143be61000001760110610301c131404c124000186070ac22133084c01141002211314006c319c860111ca04220106c24133000018278c007c15814400000059324c12c0102c4c2101c2110ca02222c281308091310220ba02131409210c011aa0222923133102100011c0213 [zd1,zd0]
attribute[irreducible]zd1 zd0
def zcr:List ARet:=[.tmp 2]
theorem zoy:z6 Tryz.prog zf2 (qRoL [1] [(8,[0,2,3,4,5,6,7,8,9,10,11,12,13,14,15,16,17,18,19,20,21,22,23,24,25,26,27,28,29,30,31,32,33,34,35,36,37,38,39,40,41,42,43,44,45,46,47,48,49,50,51,52,53,54,55,56,57,58,59,60,61,62,63,64,65,66,67,68,69,70,71,72,73,74,75,76,77,78,79,80,81,82,83,84,85,86,87,88,89,90,91,92,93,94,95,96,97,98,99,100,101,102,103,104,105,106,107,108,109,110,111,112,113,114,115,116,117,118,119,120,121,122,123,124,125,126,127,128,129,130,131,132,133,134,135,136,137,138,139,140,141,142,143,144,145,146,147,148,149]),(17,[0,1,2,3,4,5,6,7,8,9,10,11,13,14,15,16,17,18,19,20,21,22,23,24,25,26,27,28,29,30,31,32,33,34,35,36,37,38,39,40,41,42,43,44,45,46,47,48,49,50,51,52,53,54,55,56,57,58,59,60,61,62,63,64,65,66,67,68,69,70,71,72,73,74,75,76,77,78,79,80,81,82,83,84,85,86,87,88,89,90,91,92,93,94,95,96,97,98,99,100,101,102,103,104,105,106,107,108,109,110,111,112,113,114,115,116,117,118,119,120,121,122,123,124,125,126,127,128,129,130,131,132,133,134,135,136,137,138,139,140,141,142,143,144,145,146,147,148,149])])=some (ziq.strip,zcr,80):=by kernel_rfl
def zjv:ACode:=Z8 0x01c210521001060801c2310000020c7104216c113c010111115c01224ca0800600703c27115307014000841b3601501104113080825133 []
def zjx:ACode:=.seq (.region [(oM 21 4),(oM 2 21)] [1,3,4,5,21]) (.ret)
def zmy:ACode:=Z8 0x19096050000001133016c01130621032900000135ea02226231310216c011c0213 [zjv,zjx]
attribute[irreducible]zjv zjx
def zmD:List ARet:=[.tmp 2]
theorem zsP:z6 Tryz.prog zeV (qRo [1])=some (zmy.strip,zmD,22):=by kernel_rfl
theorem zM9{g:G}(b:OkB g):ordI g=(ordE (eG g)).map λ(u:Nat)=>(u:Int):=by unfold ordI Dm.orderL;rw[if_neg (by rw[zhL];have:=b.pos;omega)];rfl
theorem zAB{l:List Int}(h:l.Nodup){k:Nat}(d:k<l.length):l[k]∉l.take k:=λc=>by obtain⟨j,b,e⟩:=List.getElem_of_mem c;rw[List.length_take]at b;rw[List.getElem_take]at e;have:=(List.getElem_inj h).1 e;omega
section
variable {g:G} (hg:OkB g) (h0:zfa g=0) {n:Nat} (hn:(ordE (eG g)).length<=n) {e:Nd} (hb:BldOk (shpG g) n e)
include hg h0 hn hb
theorem zGx:covB g e=true:=by obtain⟨c,d⟩:=zm7 hg hn hb;unfold covB;rw[zyr hg hn hb,Bool.and_true,Wf,decide_eq_true_eq,decide_eq_true_eq,zM9 hg,List.length_map];refine⟨λk h=>⟨?_,zAB c h⟩,zyW hg hn hb⟩;obtain⟨u,a,b⟩:=(d _).1 (List.getElem_mem h);exact List.mem_map.2 ⟨u,a,b.symm⟩
theorem ztM:zDq g e=0:=by
 unfold zDq;have c:=zzC hg h0 hn hb
 have j:(zn2 e).any (λt=> !hasI (coll labP e) t)=false:=by
  rw[<-zlU (coll labP e) e c];refine List.any_eq_false.2 λy m=>?_
  have k:zGB (coll labP e) y=(decide (y.f.kind=9) && !hasI (coll labP e) y.f.label):=by cases y;rfl
  rw[k];by_cases b:y.f.kind=9
  .have d:y.f.label∈coll zm1 e:=by rw[zs8,List.mem_flatMap];refine⟨y,m,?_⟩;unfold zm1;rw[if_pos b];exact List.mem_singleton.2 rfl
   have:y.f.label∈coll labP e:=(hb.lab _).2 (by rw[<-hb.goto_];exact d);rw[zCY,decide_eq_true this];simp
  .rw[decide_eq_false b];simp
 rw[if_neg (λh=>h h0),if_neg (by rw[c];decide),if_neg (by rw[zGx hg h0 hn hb];decide),if_neg (by rw[zDr,hb.stray];decide),if_neg (by rw[j];decide),if_pos hb.labs]
end
namespace Dm
theorem R24_Reachable_ok(g:Gr)(j:g.small):zo Tryz.prog zeV [.agg g.cells] (·=zR (reachL g.E)):=by
 refine fn_x zsP rfl ?_;refine dcU zmy.eq_1 ?_;have o:=hBig;have c:=g.E_len;have q:=j.1;refine Gw2 @uh @uo ?_;intros;refine zd (ze (zAd g j 0 (-1)) rfl) ?_;refine Gw0 ?_;intros;have d:reachL g.E=mapR (λb=>decide (b∈zk1 g.E 0 (-1))) g.blocks.length:=by unfold reachL;rw[c];rfl
 rw[d];generalize zk1 g.E 0 (-1)=l;generalize k:(λb=>decide (b∈l))=f;have e:∀i,decide (i∈l)=f i:=λi=>by rw[<-k]
 refine zf (λi:Nat=>([(1,encP 2 g.cells),(3,zc l),(4,.own 0 0 0 0 (mapR f i).length),(5,.int .i64 i)],[(0,.row 1 ((mapR f i).map cB) 0)])) 1 (λi=>i<=g.blocks.length) (λi=>g.blocks.length-i) 0 (Wc _) (Ent.tab [(0,1,0)] [] rfl (Gin1_2 @uh @zzv) (Gin1_2 @uh @zzv)) ?_;intro i p wf;refine dcU zjv.eq_1 ?_;refine Gw2 @ub @uh ?_;intros;have m:=zxV (f:=f) (n:=i);(refine zi (λh=>?_) (λh=>?_))<;>(try simp only[dcd]at h)
 ·(refine Gw0 ?_;intros);refine zd zHA ?_;rw[e];refine Gw0 ?_;intros;exact⟨i+1,by omega,by omega,(Ent.tab [(0,0,1)] [] rfl (Gin1_2 @uh @zzJ) (Gin1_2 @uh @zzJ))⟩
 .unfold zjx;refine Gw1 @zmD.eq_1 ?_;intros;refine⟨_,?_,rfl⟩;obtain rfl:i=g.blocks.length:=by omega
  exact zmn trivial rfl (by omega)
end Dm
def cntR(E:Dm.Adj)(i:Nat):Nat:=((Wa i).filter λb=>decide (b∈ordE E)).length
theorem zFt{E:Dm.Adj}{i:Nat}:cntR E (i+1)=if i∈ordE E then cntR E i+1 else cntR E i:=by
 unfold cntR;rw[List.range_succ,List.filter_append,List.length_append];by_cases h:i∈ordE E
 .rw[if_pos h,List.filter_cons_of_pos (by simp[h])];rfl
 .rw[if_neg h,List.filter_cons_of_neg (by simp[h])];rfl
theorem zMM{E:Dm.Adj}{i:Nat}:cntR E i<=i:=by have:=List.length_filter_le (λb=>decide (b∈ordE E)) (Wa i);simpa [cntR]using this
theorem zLJ{g:G}(c:OkB g):cntR (eG g) g.blocks.length=(ordE (eG g)).length:=by
 have d:((Wa g.blocks.length).filter λb=>decide (b∈ordE (eG g))).Nodup:=List.nodup_range.filter _
 have:=(Wg d (Dm.rpo (zac c).ok (zac c).pos).nd).2 (λx=>by
  rw[List.mem_filter,List.mem_range,decide_eq_true_eq];refine⟨λh=>h.2,λh=>⟨?_,h⟩⟩;have:=zen (zac c) h
  rwa [zhL]at this)
 unfold cntR;rw[this.length_eq];rfl
theorem zAW{g:G}(c:OkB g):Dm.reachL (eG g)=(Wa g.blocks.length).map λb=>decide (b∈ordE (eG g)):=by
 have h:=Dm.inB_order (zac c).ok;rw[<-h];have d:Dm.orderL (eG g)=ordE (eG g):=by unfold Dm.orderL;rw[if_neg (by rw[zhL];have:=c.pos;omega)];rfl
 unfold Dm.inB Dm.mapR;rw[d,zhL]
section
mutual
theorem zHF:∀n:Nd,(∀y∈allN n,y.cond.length<=100/\∀x∈y.cond,zeQ x<=1000)->zBE n
 |
  .mk f c l,h=>by
  rw[zBE];exact⟨h (.mk f c l) (by rw[allN];exact List.mem_cons_self),zC7 l λy b=>h y (by rw[allN];exact List.mem_cons_of_mem _ b)⟩
theorem zC7:∀l:List Nd,(∀y∈zag l,y.cond.length<=100/\∀x∈y.cond,zeQ x<=1000)->ztC l
 |[],_=>by rw[ztC];trivial
 |
  x::l,h=>by
  rw[ztC];exact⟨zHF x λy b=>h y (by rw[zag];exact List.mem_append_left _ b),zC7 l λy b=>h y (by rw[zag];exact List.mem_append_right _ b)⟩
end
theorem zJi{g:G}{x:Nat}{y:Nd}(h:EmP (shpG g) x y):y.cond=[]\/y.cond=(zhS g x).e:=by
 cases h with
 |seq l=>exact .inl rfl
 |label=>exact .inl rfl
 |block=>exact .inl rfl
 |loop n _ _=>exact .inl rfl
 |while_ n _ _ _ _=>exact .inr rfl
 |if_ a b _ _ _=>exact .inr rfl
 |switch l _ _ _=>exact .inr rfl
 |ret=>exact .inl rfl
 |halt=>exact .inl rfl
 |leaf t c _ _ _=>
  refine .inl ?_;unfold zeJ;split
  .rfl
  split
  .rfl
  split<;>rfl
end
theorem zEN{g:G}(q:fewG g=true)(d:OkB g){n:Nat}(s:(ordE (eG g)).length<=n){e:Nd}(o:BldOk (shpG g) n e):zBE e:=by
 refine zHF e λy t=>?_
 rcases zpp d s o t with ⟨_,c⟩|⟨x,b,_,v,p,_,c,_⟩
 .rw[c];exact⟨Wc _,λx b=>by cases b⟩
 .rw[c];rcases zJi p with h|h
  .rw[h];exact⟨Wc _,λx b=>by cases b⟩
  .rw[h];obtain⟨_,j⟩:=zdK q;have k:=(j _ (zfY b)).2 _ (zDt d b);refine⟨by omega,λz u=>?_⟩;have m:=zpA k.2.2 u;have:=zpf z 70 200 m;omega
theorem zA3(K:Int->Bool):∀n:Nd,zap (zf8 K n)<=zap n:=by
 intro n
 have key:∀(k:Nat)(n:Nd),zap n<=k->zap (zf8 K n)<=zap n:=λk=>by
  induction k with
  |zero=>intro n h;have:=ztl n;omega
  |succ k ih=>
   intro n h;obtain⟨f,c,l⟩:=n;rw[zap]at h;rw[zf8,zap,zap]
   have:∀l:List Nd,zY l<=k->zY (zb9 K l)<=zY l:=λl=>by
    induction l with
    |nil=>intro _;rw[zb9];exact We _
    |cons a l ih2=>
     intro h;rw[zY]at h;rw[zb9,zY];have b:=ih2 (by omega);have d:=ih a (by omega);split
     .omega
     .rw[zY];omega
   have:=this l (by omega);omega
 exact key _ n (We _)
theorem L36_StructureOnce_ok(g:G):zo Tryz.prog zf2 [.agg g.cells] (·=.bool true):=by
 refine fn_x zoy rfl ?_;refine dcU ziq.eq_1 ?_;have hB:=hBig;have M:=zEg g;have n:g.cells.length=2:=rfl;have c:[g.cells.getD 0 .undef,g.cells.getD 1 .undef]=g.cells:=rfl;have m:zI g.cells=true:=rfl;refine Gw4 @ub n c m ?_;intros;refine zd (ze M rfl) ?_
 cases k:fewG g with
 |false=>refine Gw0 ?_;intros;refine zd (ze zf1 rfl) ?_;refine Gw1 @zcr.eq_1 ?_;intros;exact bzO
 |true=>
 have L:=zqT g k;have N:=zrj g (zty k);refine Gw4 @ub n c m ?_;intros;refine zd (ze L rfl) ?_;by_cases s:zfa g=0
 case neg=>
  rw[if_neg s];have hk0:(encN (zax 0 0 0)).getD 4 .undef=encL 5 encN []:=by unfold zax;rw[zaI];rfl
  have hk1:(encN (zax 0 0 0)).getD 0 .undef=.int .i64 0:=by rw[zei];rfl
  refine Gw5 @zx @ub n c m ?_;intros;refine zd (ze N rfl) ?_;refine Gw5 @dT @dF hk0 hk1 @ug ?_;intros;refine zd (ze zf1 rfl) ?_;refine Gw1 @zcr.eq_1 ?_;intros;exact bzO
 rw[if_pos s];rw[s]at N;have d:=zBp k s;obtain⟨T,D⟩:=Dm.dtree_ex (zac d).ok (zac d).pos;have C:=zzg (zac d) (one:=oneG g) D;have B:=zwt (zac d) D;have q:=We (ordE (eG g)).length;have j:=zL5 C B q;have P:=zMe C B q;have S:=ztM d s q j;have U:=ztM d s q P;have W:=zEN k d q j;obtain⟨hbn,R⟩:=zm7 d q j;have Q:=zyW d q j;have H:zap (bld (shpG g) (ordE (eG g)).length)<=168:=Nat.le_trans (zA3 _ _) (zDk k s q);have I:zap (zfe (bld (shpG g) (ordE (eG g)).length))<=1000:=by have:=zpi (bld (shpG g) (ordE (eG g)).length);omega
 generalize bld (shpG g) (ordE (eG g)).length=e at *;refine Gw5 @zx @ub n c m ?_;intros;refine zd (ze N rfl) ?_;have K:=zpC e (by omega);have A:=Dm.R24_Reachable_ok g.toG (zry k);rw[G.toG_cells]at A;refine Gw4 @dT @dF @zx @zC ?_;intros;have F:Dm.reachL g.toG.E=(Wa g.blocks.length).map λb=>decide (b∈ordE (eG g)):=zAW d
 have o:(Dm.reachL g.toG.E).length=g.blocks.length:=by rw[F];simp
 have hrg:∀i,i<g.blocks.length->((Dm.reachL g.toG.E).map λb=>[AV.bool b]).getD i []=[.bool (decide (i∈ordE (eG g)))]:=λi hi=>by rw[F,zg (by simp;exact hi)];simp
 have hhs:∀i:Nat,hasI (coll blkP e) (i:Int)=decide (i∈ordE (eG g)):=λi=>by rw[zCY,Bool.eq_iff_iff,decide_eq_true_iff,decide_eq_true_iff,R];exact⟨λ⟨u,a,b⟩=>(by omega:u=i)▸a,λh=>⟨i,h,rfl⟩⟩
 have hgb:=(zdK k).1;have Y:=H;have hbl2:=Nat.le_trans (zof zw7 e) H;have O:=znC 1000 e (by omega) (by omega) W;have y:=zkp g k e (by omega);have z:=zkp g k (zfe e) I;rw[S]at y;rw[U]at z;generalize Dm.reachL g.toG.E=rl at *;generalize hle:coll blkP e=l at *;have V:=zLJ d
 have key:zA9 Tryz.prog 0 zd1 (zgx 0 (seqQ Tryz.prog 0 zd0 (retK zcr λv H' _=>∃a,Frz H' v a/\a=AV.bool true))) [(1,encP 2 g.cells),(3,.ptr 0 0 0 0 0),(5,za l),(6,zR rl),(7,.int .i64 0),(8,.int .i64 0)] [(0,.row 5 [encN e] 0)] 1:=by
  refine zf (λi:Nat=>([(1,encP 2 g.cells),(3,encP 5 (encN e)),(5,za l),(6,zR rl),(7,.int .i64 (cntR (eG g) i)),(8,.int .i64 i)],[])) 0 (λi=>i<=g.blocks.length) (λi=>g.blocks.length-i) 0 (Wc _) (Ent.tabB [] [0] rfl rfl rfl trivial (by((try simp only[evWB,Nat.reduceBEq,Nat.reduceAdd,Nat.reduceSub,Nat.reduceLeDiff,Nat.reduceLT,implies_true,encP])<;>(repeat' with_reducible apply And.intro)<;>first|(first|exact zq rfl|exact zxP rfl rfl;done)|exact fin6))) ?_;intro i hi wf;clear wf;refine dcU zd1.eq_1 ?_;rcases Nat.lt_or_ge i g.blocks.length with x|x
  .have w:=hrg i x;have t:=zFt (E:=eG g) (i:=i);have Z:=hhs i;have Y:=zMM (E:=eG g) (i:=i);have p:=zq1 l (i:Int);rw[Z]at p;refine Gw4 @dT @uk o w ?_;intros;refine zcG (ze p rfl) ?_;by_cases J:i∈ordE (eG g)
   .rw[if_pos J]at t;have X:((cntR (eG g) (i+1):Nat):Int)=(cntR (eG g) i:Int)+1:=by omega
    rw[decide_eq_true J];refine Gw5 @dT @dF @uk o w ?_;intros;exact⟨i+1,by omega,by omega,by rw[X];exact Ent.keep rfl fin5⟩
   .rw[if_neg J]at t;rw[decide_eq_false J];refine Gw5 @dT @dF @uk o w ?_;intros;exact⟨i+1,by omega,by omega,by rw[t];exact Ent.keep rfl fin5⟩
  .have hie:i=g.blocks.length:=Nat.le_antisymm hi x;subst hie;refine Gw3 @dF @uk o ?_;intros;refine dcU zd0.eq_1 ?_;refine Gw6 @ub @uf Q V @zC c ?_;intros
   (repeat' first
    |with_reducible apply And.intro
    |(refine zcG (ze y (flN rfl)) ?_;(refine Gw4 @ub @zC c @zx ?_;intros;try with_reducible exact trivial))
    |(refine zd (ze O (flN rfl)) ?_;(refine Gw4 @ub @zC c @zx ?_;intros;try with_reducible exact trivial))
    |(refine zcG (ze z (flN rfl)) ?_;(refine Gw4 @ub @zC c @zx ?_;intros;try with_reducible exact trivial))
    |(refine zcG (ze zf1 rfl) ?_;refine Gw1 @zcr.eq_1 ?_;intros;exact bzO))
 apply And.intro;all_goals refine zd (ze K (flN rfl)) ?_
 all_goals(refine Gw2 @ub c ?_;intros;try with_reducible exact trivial)
 all_goals refine zcG (ze A rfl) ?_
 all_goals(refine Gw0 ?_;intros;try with_reducible exact trivial)
 all_goals exact key
end Go.Ab
