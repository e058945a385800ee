/-
  Part 10 of the proof: how the calls of this program run, over values instead of memory, and what each function computes.
-/
import Derived.KernelRfl
import Derived.Test.YtdhlfajcofgpkaaKi
set_option maxRecDepth 100000
set_option linter.unusedVariables false
set_option linter.unusedSimpArgs false
set_option linter.unnecessarySimpa false
set_option linter.unusedSectionVars false
namespace Go.Ab
open Go.RowKit Go.Proofs
inductive SubD (exit e:List Int):List St→List St→Prop
 | nil:SubD exit e [] []
 | keep {s:St} {x y:List St}:SubD exit e x y→SubD exit e (s::x) (s::y)
 | drop {s:St} {x y:List St}:SubD exit e x y→remS s (zi8 exit x e)=true→SubD exit e x (s::y)
def zwc (exit e:List Int):List St→List St
 | []=>[]
 | s::l=>if remS s (zi8 exit l e)=true then zwc exit e l else s::zwc exit e l
structure RelD (exit:List Int) (x y:List Bl):Prop where
 len:x.length=y.length
 blk:∀ i (h1:i < x.length) (h2:i < y.length),x[i].addr=y[i].addr∧SubD exit (zcz exit x i) x[i].stmts y[i].stmts
def zvy (exit:List Int) (bl:List Bl):List Bl:=bl.mapIdx fun i b=>⟨b.addr,zwc exit (zcz exit bl i) b.stmts⟩
def deadR (exit:List Int):Nat→List Bl→List Bl
 | 0,bl=>bl
 | k+1,bl=>if zx (zvy exit bl)=zx bl then zvy exit bl else deadR exit k (zvy exit bl)
structure OkG (g:G):Prop where
 len:g.blocks.length≤256
 cnt:zx g.blocks≤1024
 ne:g.blocks≠[]
 closed:∀ b∈g.blocks,b.stmts≠[]∧zmo b.stmts=true∧∀ t∈zD b.stmts,0≤t∧t < g.blocks.length
 chk:∀ b∈g.blocks,∀ s∈b.stmts,s.check=0
def st0:St:=⟨0,0,0,0,0,0,[],[]⟩
def revP (l:List St) (i x:Nat):St:=if x < i∨l.length - i≤x then l.getD (l.length - 1 - x) st0 else l.getD x st0
def revL (l:List St) (i:Nat):List St:=(List.range l.length).map (revP l i)
theorem zxK {l:List St} {i:Nat}:(revL l i).length=l.length:=by simp [revL]
theorem zpe {l:List St}:revL l 0=l:=by
 apply List.ext_getElem?
 intro x
 unfold revL revP
 by_cases hx:x < l.length
 ·
  have:¬ l.length≤x:=by omega
  simp [hx,List.getD_eq_getElem?_getD,this]
 · simp [hx]
theorem zxo {l:List St} {i:Nat} (h:l.length≤2 * i+1):revL l i=l.reverse:=by
 apply List.ext_getElem?
 intro x
 unfold revL revP
 by_cases hx:x < l.length
 ·
  rw [List.getElem?_reverse hx]
  simp only [List.getElem?_map,List.getElem?_range hx,Option.map_some]
  by_cases hc:x < i∨l.length - i≤x
  ·
   rw [if_pos hc]
   rw [List.getD_eq_getElem?_getD,List.getElem?_eq_getElem (show l.length - 1 - x < l.length by omega)]
   rfl
  ·
   rw [if_neg hc,show l.length - 1 - x=x by omega,List.getD_eq_getElem?_getD,List.getElem?_eq_getElem hx]
   rfl
 · simp [hx]
theorem zsc {l:List St} {i x:Nat} (hx:x < l.length):((revL l i).map St.cells).getD x []=(revP l i x).cells:=by
 simp [revL,List.getD_eq_getElem?_getD,hx]
theorem zuR {l:List St} {i:Nat} (h:2 * i+1 < l.length) :
  (((revL l i).map St.cells).set i (revP l i (l.length - 1 - i)).cells).set (l.length - 1 - i) (revP l i i).cells=(revL l (i+1)).map St.cells:=by
 unfold revL
 rw [List.map_map,List.map_map,zfF,zfF]
 refine List.map_congr_left fun x hx=>?_
 have hx':=List.mem_range.1 hx
 unfold updF
 simp only [Function.comp]
 by_cases h1:x=l.length - 1 - i
 ·
  rw [if_pos h1]
  unfold revP
  rw [if_neg (by omega),if_pos (by omega),show l.length - 1 - x=i by omega]
 ·
  rw [if_neg h1]
  by_cases h2:x=i
  ·
   rw [if_pos h2]
   unfold revP
   rw [if_neg (by omega),if_pos (by omega),h2]
  ·
   rw [if_neg h2]
   unfold revP
   by_cases h3:x < i∨l.length - i≤x
   · rw [if_pos h3,if_pos (by omega)]
   · rw [if_neg h3,if_neg (by omega)]
theorem renS {ρ:Nat→Nat} {l:List St} {g:Nat}:AObj.ren ρ (.row 8 (l.map St.cells) g)=.row 8 (l.map St.cells) g:=by
 simp only [AObj.ren]
 rw [zfO (ze fun s=>s.flat)]
theorem zkt (l:List St) (g:Nat) (hl:l.length≤1000000):zN Try.prog zaG [.own 0 0 g 0 l.length] [(0, .row 8 (l.map St.cells) g)] 1
  (fun v H nx=>v=.tup []∧H=[(0, .row 8 (l.reverse.map St.cells) g)]∧nx=1):=by
 refine z7 (fn_x zd1 rfl ?_)
 unfold zbQ
 have hB:=hBig
 (repeat first | simp (disch:=try exact dis1) only [evD,Nat.reduceBEq,Nat.reduceAdd,Nat.reduceLeDiff] | with_reducible intro _ | ((with_reducible apply And.intro);omega))
 refine zf (fun i:Nat=>([(0, .own 0 0 g 0 l.length),(2, .int .i64 i),(3, .int .i64 ((l.length:Int) - 1 - i))],[(0, .row 8 ((revL l i).map St.cells) g)])) 1 (fun i=>2 * i≤l.length+1) (fun i=>l.length+1 - i) 0 (by omega) (Ent.tabB [(0,0,0)] [] rfl rfl rfl (by (try simp only [evWB,Nat.reduceBEq,Nat.reduceAdd,Nat.reduceSub,Nat.reduceLeDiff,Nat.reduceLT,implies_true,zpe])<;>exact fin2) (by (try simp only [evWB,Nat.reduceBEq,Nat.reduceAdd,Nat.reduceSub,Nat.reduceLeDiff,Nat.reduceLT,implies_true,zpe])<;>exact fin2)) ?_
 intro i hi wf
 unfold zbo
 (repeat first | simp (disch:=try exact dis1) only [evD,Nat.reduceBEq,Nat.reduceAdd,Nat.reduceLeDiff] | with_reducible intro _ | ((with_reducible apply And.intro);omega))
 (refine z6 (fun h=>?_) (fun h=>?_))<;>(try simp only [dcd] at h)
 ·
  have e:((l.length:Int) - 1 - i).toNat=l.length - 1 - i:=by omega
  have hsw:=zuR (l:=l) (i:=i) (by omega)
  have g1:=zsc (l:=l) (i:=i) (show l.length - 1 - i < l.length by omega)
  have g2:=zsc (l:=l) (i:=i) (show i < l.length by omega)
  (repeat first | simp (disch:=try exact dis1) only [evD,Nat.reduceBEq,Nat.reduceAdd,Nat.reduceLeDiff,e,zxK,g1,g2,St.len,St.eight,List.length_set] | with_reducible intro _ | ((with_reducible apply And.intro);omega))
  rw [hsw]
  exact ⟨i+1,by omega,by omega,(Ent.tabB [(0,0,0)] [] rfl rfl rfl (by (try simp only [evWB,Nat.reduceBEq,Nat.reduceAdd,Nat.reduceSub,Nat.reduceLeDiff,Nat.reduceLT,implies_true])<;>exact fin2) (by (try simp only [evWB,Nat.reduceBEq,Nat.reduceAdd,Nat.reduceSub,Nat.reduceLeDiff,Nat.reduceLT,implies_true])<;>exact fin2))⟩
 ·
  (repeat first | simp (disch:=try exact dis1) only [evD,Nat.reduceBEq,Nat.reduceAdd,Nat.reduceLeDiff,zbP] | with_reducible intro _ | ((with_reducible apply And.intro);omega))
  refine ⟨.tup [],[(0, .row 8 (l.reverse.map St.cells) g)],1,?_,rfl,rfl,rfl⟩
  rw [zxo (by omega)]
  exact (Ent.tabB [(0,0,0)] [] rfl rfl rfl (by (try simp only [evWB,Nat.reduceBEq,Nat.reduceAdd,Nat.reduceSub,Nat.reduceLeDiff,Nat.reduceLT,implies_true])<;>exact fin2) (by (try simp only [evWB,Nat.reduceBEq,Nat.reduceAdd,Nat.reduceSub,Nat.reduceLeDiff,Nat.reduceLT,implies_true])<;>exact fin2))
def zfL (ad:Int) (n:Nat) (D:List Bl) (T:Nat→MS):AH:=[(0, .row 2 [[.int .u32 0, .nilsl]] 0),(1, .row 2 [[.int .u32 ad, .own 2 0 0 0 n]] 0),(2, .row 2 (D.map Bl.cells) 0),(3, .row 1 (mps 4 n) 0),(4,famS n T)]
theorem zyb {exit:List Int} {sts:List St} {i:Nat} {a:MS} (h:i < sts.length):keepM exit (sts.drop i) a=if remS sts[i] (keepM exit (sts.drop (i+1)) a).2.keys=true then keepM exit (sts.drop (i+1)) a else (sts[i]::(keepM exit (sts.drop (i+1)) a).1,zeA exit sts[i] (keepM exit (sts.drop (i+1)) a).2):=by
 rw [List.drop_eq_getElem_cons h,keepM]
theorem zu7 {α:Type} {f:α→List AV} {A:List α} {a:α} {i:Nat} {c:List AV} {H HH:AH} {σ:Nat→Nat→Option (Nat × Nat × Nat)} {D:Nat→Nat→Prop} (hf:∀ a,zF (f a)=true) (hi:i < A.length) (hl:(f a).length=c.length)
  (h:∀ (j:Nat) (x y:AV),c[j]? = some x→(f a)[j]? = some y→Vw H HH σ D true x y):RowV H HH σ D ((A.map f).set i c) ((A.set i a).map f):=by
 refine ⟨by simp,fun k c2 hk=>?_⟩
 rw [List.map_set] at hk
 by_cases hki:i=k
 ·
  subst hki
  rw [List.getElem?_set_self (by simpa using hi)] at hk ⊢
  cases hk
  exact ⟨c,rfl,hl,h⟩
 ·
  rw [List.getElem?_set_ne hki] at hk ⊢
  refine ⟨c2,hk,rfl,fun j x y h1 h2=>?_⟩
  rw [h1] at h2
  cases h2
  obtain ⟨b,_,rfl⟩:=List.mem_map.1 (List.mem_of_getElem? hk)
  exact zdo (zbr (hf b) h1)
theorem ztB {H HH:AH} {σ:Nat→Nat→Option (Nat × Nat × Nat)} {D:Nat→Nat→Prop} {r:Nat} {kp:List St} {x:Int} (hD:D r 0) (hg:H.get r 0=some (.row 8 (kp.map St.cells) 0)) (hb:kp.length≤big) :
  ∀ (j:Nat) (a b:AV),[AV.int .u32 x, .own r 0 0 0 kp.length][j]? = some a→(Bl.cells ⟨x,kp⟩)[j]? = some b→Vw H HH σ D true a b:=by
 intro j a b h1 h2
 match j with
 | 0=>cases h1;cases h2;exact .int _ _ _
 | 1=>cases h1;cases h2;exact zym hD hg hb
 | j+2=>cases h1
theorem zyU {Q:QT} (ad:Int) (n b:Nat) (hb:b < n) (hn:n≤1000000) (D:List Bl) (hD:D.length=n) (T:Nat→MS) (exit:List Int) (sts:List St) (a0:MS) (r0:Nat) (m0:Bool)
  (hsz:∀ s∈sts,zt s.e≤100000) (ha:a0.ok) (h1:a0.1+zby exit.length sts≤1000000) (h2:a0.2.length+zby exit.length sts≤1000000) (hlen:sts.length≤1000000) (hr0:r0+sts.length≤2000000)
  (hfin:∀ K H nx,Ent 0 K H nx [(1,za exit),(4, .ptr 0 0 0 0 0),(8, .ptr 1 0 0 0 0),(9, .int .i64 ((r0+(sts.length - (keepM exit sts a0).1.length):Nat):Int)),(10, .bool (m0||decide ((keepM exit sts a0).1.length < sts.length))),(12, .own 3 0 0 0 n),(35, .int .i64 n),(36, .int .i64 ((b+1:Nat):Int))]
   (zfL ad n (D.set b ⟨(D[b]'(by omega)).addr,(keepM exit sts a0).1⟩) T) 5→Q .normal K H nx)
  {K:Kn} {H:AH} {nx:Nat} (hent:Ent 0 K H nx [(1,za exit),(4, .ptr 0 0 0 0 0),(8, .ptr 1 0 0 0 0),(9, .int .i64 r0),(10, .bool m0),(12, .own 3 0 0 0 n),(13, .int .i64 b),(14, .mp 5 0),(15,encL 8 St.cells sts),(16, .own 6 0 0 0 0),(17, .int .i64 ((sts.length:Int) - 1)),(35, .int .i64 n),(36, .int .i64 b)]
   (zfL ad n D T++[(5, .row 3 ((setM a0.1 a0.2).map cm) 0),(6, .row 8 [] 0)]) 7) :
  zjO Try.prog 0 zd4 (zcF 4 (seqQ Try.prog 0 zd0 (zcF 3 (seqQ Try.prog 0 zdV Q)))) K H nx:=by
 have hB:=hBig
 have hz:keepM exit (sts.drop sts.length) a0=([],a0):=by rw [List.drop_length];rfl
 have hlk:=fun i=>(zlN (exit:=exit) (e:=a0) (sts.drop i)).length_le
 simp only [List.length_drop] at hlk
 refine zf (fun i:Nat=>([(1,za exit),(4, .ptr 0 0 0 0 0),(8, .ptr 1 0 0 0 0),(9, .int .i64 ((r0+(sts.length - i - (keepM exit (sts.drop i) a0).1.length):Nat):Int)),(10, .bool (m0||decide ((keepM exit (sts.drop i) a0).1.length < sts.length - i))),(12, .own 3 0 0 0 n),(13, .int .i64 b),(14, .mp 5 0),(15,encL 8 St.cells sts),(16, .own 6 0 0 0 (keepM exit (sts.drop i) a0).1.length),(17, .int .i64 ((i:Int) - 1)),(35, .int .i64 n),(36, .int .i64 b)],
   zfL ad n D T++[(5, .row 3 ((setM (keepM exit (sts.drop i) a0).2.1 (keepM exit (sts.drop i) a0).2.2).map cm) 0),(6, .row 8 ((keepM exit (sts.drop i) a0).1.reverse.map St.cells) 0)])) 7
  (fun i=>i≤sts.length) (fun i=>i) sts.length (Nat.le_refl _) ?_ ?_
 ·
  rw [hz]
  simp only [List.length_nil,Nat.sub_self,Nat.lt_irrefl,decide_false,Bool.or_false,Nat.add_zero,List.reverse_nil,List.map_nil]
  exact hent
 rintro i hi wf
 unfold zd4
 have hc:=zly (k:=exit.length) (l:=sts) (i:=i)
 obtain ⟨k1,k2,k3⟩:=zsp (exit:=exit) (l:=sts.drop i) ha (by omega) (by omega)
 have hli:=hlk i
 rcases Nat.eq_zero_or_pos i with rfl | hp
 ·
  rw [List.drop_zero] at *
  generalize keepM exit sts a0=R at *
  obtain ⟨kp,a⟩:=R
  simp only [Nat.sub_zero] at *
  have hrl:kp.reverse.length=kp.length:=List.length_reverse
  have hrr:kp.reverse.reverse=kp:=List.reverse_reverse kp
  have hbD:b < D.length:=by omega
  have hrev:=zkt kp.reverse 0 (by omega)
  rw [hrl,hrr] at hrev
  (repeat first | simp (disch:=try exact dis1) only [evD,Nat.reduceBEq,Nat.reduceAdd,Nat.reduceLeDiff,dF,Int.natCast_zero,zfL,List.cons_append,List.nil_append] | with_reducible intro _ | ((with_reducible apply And.intro);omega))
  unfold zd0
  (repeat first | simp (disch:=try exact dis1) only [evD,Nat.reduceBEq,Nat.reduceAdd,Nat.reduceLeDiff] | with_reducible intro _ | ((with_reducible apply And.intro);omega))
  refine zw [(0,6,0)] 1 _ (hrev) rfl rfl fin8 fin8 ?_
  rintro _ _ _ ⟨rfl,rfl,rfl⟩
  have hg:(D.map Bl.cells).getD b []=[.int .u32 D[b].addr,encL 8 St.cells D[b].stmts]:=zz (f:=Bl.cells) (d:=[]) hbD
  have hsp:∀ x y z:AV,splice [x,y] 1 [z]=[x,z]:=fun _ _ _=>rfl
  (repeat first | simp (disch:=try exact dis1) only [evD,Nat.reduceBEq,Nat.reduceAdd,Nat.reduceLeDiff,renS,hg,hsp] | with_reducible intro _ | ((with_reducible apply And.intro);omega))
  unfold zdV
  (repeat first | simp (disch:=try exact dis1) only [evD,Nat.reduceBEq,Nat.reduceAdd,Nat.reduceLeDiff] | with_reducible intro _ | ((with_reducible apply And.intro);omega))
  refine hfin _ _ _ ?_
  refine Ent.tab [(0,0,0),(1,1,0),(2,2,0),(3,3,0),(4,4,0)] [6] rfl ?_ ?_
  · ((try simp only [evWB,Nat.reduceBEq,Nat.reduceAdd,Nat.reduceSub,Nat.reduceLeDiff,Nat.reduceLT,implies_true,zfL,famS])<;>((repeat' with_reducible apply And.intro)<;>first | omega | rfl | (exact zu7 (fun _=>rfl) hbD rfl (ztB rfl rfl (by omega));done) | (refine zA zQ (by decide) ⟨rfl,rfl⟩ ?_;(try simp only [evWB,Nat.reduceBEq,Nat.reduceAdd,Nat.reduceSub,Nat.reduceLeDiff,Nat.reduceLT,implies_true,zfL,famS])<;>((repeat' with_reducible apply And.intro)<;>first | omega | rfl | (refine zA zQ (by decide) ⟨rfl,rfl⟩ ?_;(try simp only [evWB,Nat.reduceBEq,Nat.reduceAdd,Nat.reduceSub,Nat.reduceLeDiff,Nat.reduceLT,implies_true,zfL,famS])<;>((repeat' with_reducible apply And.intro)<;>first | omega | rfl | exact zhs (fun _=>rfl) | exact Vw.it _ _ rfl | exact Vw.mp _ _ _ _ rfl | exact zA zQ (by decide) ⟨rfl,rfl⟩ trivial | exact zA zQ (by decide) (fun _ _=>⟨rfl,rfl⟩) trivial | (refine zjA rfl ?_;(repeat' (first | exact ze zQ | exact zas | exact ze (fun _=>rfl) | exact ze (fun _=>zh) | exact ze (fun _=>zb) | exact zk zh | exact zk zb | exact zaA rfl | exact zaB | exact zk rfl | refine zW ?_ ?_ | refine zg rfl ?_ | refine zg zh ?_ | refine zg zb ?_));done) | exact zeW rfl | (refine RowV.of_flat ?_;(repeat' (first | exact ze zQ | exact zas | exact ze (fun _=>rfl) | exact ze (fun _=>zh) | exact ze (fun _=>zb) | exact zk zh | exact zk zb | exact zaA rfl | exact zaB | exact zk rfl | refine zW ?_ ?_ | refine zg rfl ?_ | refine zg zh ?_ | refine zg zb ?_));done) | ((repeat' (first | exact ze zQ | exact zas | exact ze (fun _=>rfl) | exact ze (fun _=>zh) | exact ze (fun _=>zb) | exact zk zh | exact zk zb | exact zaA rfl | exact zaB | exact zk rfl | refine zW ?_ ?_ | refine zg rfl ?_ | refine zg zh ?_ | refine zg zb ?_));done) | exact zgJ rfl rfl (by omega) | exact zcT rfl rfl (by omega) | exact zeZ rfl rfl (by omega) | exact zgK (fun _=>rfl) | exact zA (fun _=>rfl) (by decide) ⟨rfl,rfl⟩ trivial | exact zA (fun _=>rfl) (by decide) (fun _ _=>⟨rfl,rfl⟩) trivial | (simp;done));done) | exact zhs (fun _=>rfl) | exact Vw.it _ _ rfl | exact Vw.mp _ _ _ _ rfl | exact zA zQ (by decide) ⟨rfl,rfl⟩ trivial | exact zA zQ (by decide) (fun _ _=>⟨rfl,rfl⟩) trivial | (refine zjA rfl ?_;(repeat' (first | exact ze zQ | exact zas | exact ze (fun _=>rfl) | exact ze (fun _=>zh) | exact ze (fun _=>zb) | exact zk zh | exact zk zb | exact zaA rfl | exact zaB | exact zk rfl | refine zW ?_ ?_ | refine zg rfl ?_ | refine zg zh ?_ | refine zg zb ?_));done) | exact zeW rfl | (refine RowV.of_flat ?_;(repeat' (first | exact ze zQ | exact zas | exact ze (fun _=>rfl) | exact ze (fun _=>zh) | exact ze (fun _=>zb) | exact zk zh | exact zk zb | exact zaA rfl | exact zaB | exact zk rfl | refine zW ?_ ?_ | refine zg rfl ?_ | refine zg zh ?_ | refine zg zb ?_));done) | ((repeat' (first | exact ze zQ | exact zas | exact ze (fun _=>rfl) | exact ze (fun _=>zh) | exact ze (fun _=>zb) | exact zk zh | exact zk zb | exact zaA rfl | exact zaB | exact zk rfl | refine zW ?_ ?_ | refine zg rfl ?_ | refine zg zh ?_ | refine zg zb ?_));done) | exact zgJ rfl rfl (by omega) | exact zcT rfl rfl (by omega) | exact zeZ rfl rfl (by omega) | exact zgK (fun _=>rfl) | exact zA (fun _=>rfl) (by decide) ⟨rfl,rfl⟩ trivial | exact zA (fun _=>rfl) (by decide) (fun _ _=>⟨rfl,rfl⟩) trivial | (simp;done));done) | exact zhs (fun _=>rfl) | exact Vw.it _ _ rfl | exact Vw.mp _ _ _ _ rfl | exact zA zQ (by decide) ⟨rfl,rfl⟩ trivial | exact zA zQ (by decide) (fun _ _=>⟨rfl,rfl⟩) trivial | (refine zjA rfl ?_;(repeat' (first | exact ze zQ | exact zas | exact ze (fun _=>rfl) | exact ze (fun _=>zh) | exact ze (fun _=>zb) | exact zk zh | exact zk zb | exact zaA rfl | exact zaB | exact zk rfl | refine zW ?_ ?_ | refine zg rfl ?_ | refine zg zh ?_ | refine zg zb ?_));done) | exact zeW rfl | (refine RowV.of_flat ?_;(repeat' (first | exact ze zQ | exact zas | exact ze (fun _=>rfl) | exact ze (fun _=>zh) | exact ze (fun _=>zb) | exact zk zh | exact zk zb | exact zaA rfl | exact zaB | exact zk rfl | refine zW ?_ ?_ | refine zg rfl ?_ | refine zg zh ?_ | refine zg zb ?_));done) | ((repeat' (first | exact ze zQ | exact zas | exact ze (fun _=>rfl) | exact ze (fun _=>zh) | exact ze (fun _=>zb) | exact zk zh | exact zk zb | exact zaA rfl | exact zaB | exact zk rfl | refine zW ?_ ?_ | refine zg rfl ?_ | refine zg zh ?_ | refine zg zb ?_));done) | exact zgJ rfl rfl (by omega) | exact zcT rfl rfl (by omega) | exact zeZ rfl rfl (by omega) | exact zgK (fun _=>rfl) | exact zA (fun _=>rfl) (by decide) ⟨rfl,rfl⟩ trivial | exact zA (fun _=>rfl) (by decide) (fun _ _=>⟨rfl,rfl⟩) trivial | (simp;done)))
  · ((try simp only [evWB,Nat.reduceBEq,Nat.reduceAdd,Nat.reduceSub,Nat.reduceLeDiff,Nat.reduceLT,implies_true,zfL])<;>((repeat' with_reducible apply And.intro)<;>first | omega | rfl | (rfl;done) | (refine zA zQ (by decide) ⟨rfl,rfl⟩ ?_;(try simp only [evWB,Nat.reduceBEq,Nat.reduceAdd,Nat.reduceSub,Nat.reduceLeDiff,Nat.reduceLT,implies_true,zfL])<;>((repeat' with_reducible apply And.intro)<;>first | omega | rfl | (refine zA zQ (by decide) ⟨rfl,rfl⟩ ?_;(try simp only [evWB,Nat.reduceBEq,Nat.reduceAdd,Nat.reduceSub,Nat.reduceLeDiff,Nat.reduceLT,implies_true,zfL])<;>((repeat' with_reducible apply And.intro)<;>first | omega | rfl | exact zhs (fun _=>rfl) | exact Vw.it _ _ rfl | exact Vw.mp _ _ _ _ rfl | exact zA zQ (by decide) ⟨rfl,rfl⟩ trivial | exact zA zQ (by decide) (fun _ _=>⟨rfl,rfl⟩) trivial | (refine zjA rfl ?_;(repeat' (first | exact ze zQ | exact zas | exact ze (fun _=>rfl) | exact ze (fun _=>zh) | exact ze (fun _=>zb) | exact zk zh | exact zk zb | exact zaA rfl | exact zaB | exact zk rfl | refine zW ?_ ?_ | refine zg rfl ?_ | refine zg zh ?_ | refine zg zb ?_));done) | exact zeW rfl | (refine RowV.of_flat ?_;(repeat' (first | exact ze zQ | exact zas | exact ze (fun _=>rfl) | exact ze (fun _=>zh) | exact ze (fun _=>zb) | exact zk zh | exact zk zb | exact zaA rfl | exact zaB | exact zk rfl | refine zW ?_ ?_ | refine zg rfl ?_ | refine zg zh ?_ | refine zg zb ?_));done) | ((repeat' (first | exact ze zQ | exact zas | exact ze (fun _=>rfl) | exact ze (fun _=>zh) | exact ze (fun _=>zb) | exact zk zh | exact zk zb | exact zaA rfl | exact zaB | exact zk rfl | refine zW ?_ ?_ | refine zg rfl ?_ | refine zg zh ?_ | refine zg zb ?_));done) | exact zgJ rfl rfl (by omega) | exact zcT rfl rfl (by omega) | exact zeZ rfl rfl (by omega) | exact zgK (fun _=>rfl) | exact zA (fun _=>rfl) (by decide) ⟨rfl,rfl⟩ trivial | exact zA (fun _=>rfl) (by decide) (fun _ _=>⟨rfl,rfl⟩) trivial | (simp;done));done) | exact zhs (fun _=>rfl) | exact Vw.it _ _ rfl | exact Vw.mp _ _ _ _ rfl | exact zA zQ (by decide) ⟨rfl,rfl⟩ trivial | exact zA zQ (by decide) (fun _ _=>⟨rfl,rfl⟩) trivial | (refine zjA rfl ?_;(repeat' (first | exact ze zQ | exact zas | exact ze (fun _=>rfl) | exact ze (fun _=>zh) | exact ze (fun _=>zb) | exact zk zh | exact zk zb | exact zaA rfl | exact zaB | exact zk rfl | refine zW ?_ ?_ | refine zg rfl ?_ | refine zg zh ?_ | refine zg zb ?_));done) | exact zeW rfl | (refine RowV.of_flat ?_;(repeat' (first | exact ze zQ | exact zas | exact ze (fun _=>rfl) | exact ze (fun _=>zh) | exact ze (fun _=>zb) | exact zk zh | exact zk zb | exact zaA rfl | exact zaB | exact zk rfl | refine zW ?_ ?_ | refine zg rfl ?_ | refine zg zh ?_ | refine zg zb ?_));done) | ((repeat' (first | exact ze zQ | exact zas | exact ze (fun _=>rfl) | exact ze (fun _=>zh) | exact ze (fun _=>zb) | exact zk zh | exact zk zb | exact zaA rfl | exact zaB | exact zk rfl | refine zW ?_ ?_ | refine zg rfl ?_ | refine zg zh ?_ | refine zg zb ?_));done) | exact zgJ rfl rfl (by omega) | exact zcT rfl rfl (by omega) | exact zeZ rfl rfl (by omega) | exact zgK (fun _=>rfl) | exact zA (fun _=>rfl) (by decide) ⟨rfl,rfl⟩ trivial | exact zA (fun _=>rfl) (by decide) (fun _ _=>⟨rfl,rfl⟩) trivial | (simp;done));done) | exact zhs (fun _=>rfl) | exact Vw.it _ _ rfl | exact Vw.mp _ _ _ _ rfl | exact zA zQ (by decide) ⟨rfl,rfl⟩ trivial | exact zA zQ (by decide) (fun _ _=>⟨rfl,rfl⟩) trivial | (refine zjA rfl ?_;(repeat' (first | exact ze zQ | exact zas | exact ze (fun _=>rfl) | exact ze (fun _=>zh) | exact ze (fun _=>zb) | exact zk zh | exact zk zb | exact zaA rfl | exact zaB | exact zk rfl | refine zW ?_ ?_ | refine zg rfl ?_ | refine zg zh ?_ | refine zg zb ?_));done) | exact zeW rfl | (refine RowV.of_flat ?_;(repeat' (first | exact ze zQ | exact zas | exact ze (fun _=>rfl) | exact ze (fun _=>zh) | exact ze (fun _=>zb) | exact zk zh | exact zk zb | exact zaA rfl | exact zaB | exact zk rfl | refine zW ?_ ?_ | refine zg rfl ?_ | refine zg zh ?_ | refine zg zb ?_));done) | ((repeat' (first | exact ze zQ | exact zas | exact ze (fun _=>rfl) | exact ze (fun _=>zh) | exact ze (fun _=>zb) | exact zk zh | exact zk zb | exact zaA rfl | exact zaB | exact zk rfl | refine zW ?_ ?_ | refine zg rfl ?_ | refine zg zh ?_ | refine zg zb ?_));done) | exact zgJ rfl rfl (by omega) | exact zcT rfl rfl (by omega) | exact zeZ rfl rfl (by omega) | exact zgK (fun _=>rfl) | exact zA (fun _=>rfl) (by decide) ⟨rfl,rfl⟩ trivial | exact zA (fun _=>rfl) (by decide) (fun _ _=>⟨rfl,rfl⟩) trivial | (simp;done)))
 ·
  obtain ⟨i,rfl⟩:∃ k,i=k+1:=⟨i - 1,by omega⟩
  have hil:i < sts.length:=by omega
  have hgl:=zz (f:=St.cells) (d:=[]) hil
  have ei:((i+1:Nat):Int) - 1=i:=by omega
  have hat:=zyb (exit:=exit) (a:=a0) hil
  have hl0:=hlk i
  have hci:=znH (k:=exit.length) hil
  have hc0:=zly (k:=exit.length) (l:=sts) (i:=i)
  have hrem:=zh5 sts[i] (keepM exit (sts.drop (i+1)) a0).2
  have hbk:=zhC (keepM exit (sts.drop (i+1)) a0).2 sts[i] exit k1 (hsz _ (List.getElem_mem hil)) (by omega) (by omega)
  generalize keepM exit (sts.drop (i+1)) a0=R at *
  obtain ⟨kp,a⟩:=R
  simp only at hrem hbk hli k1 k2 k3 hat
  (repeat first | simp (disch:=try exact dis1) only [evD,Nat.reduceBEq,Nat.reduceAdd,Nat.reduceLeDiff,ei,dT,zfL,List.cons_append,List.nil_append,hgl,St.len,St.eight] | with_reducible intro _ | ((with_reducible apply And.intro);omega))
  refine zw [(0,5,0)] 1 _ (hrem) rfl rfl fin8 fin8 ?_
  rintro _ _ _ ⟨rfl,rfl,rfl⟩
  cases hx:remS sts[i] a.keys with
  |
   true =>
   rw [hx,if_pos rfl] at hat
   have hbt:(m0||decide (kp.length < sts.length - i))=true:=by rw [decide_eq_true (by omega)];simp
   (repeat first | simp (disch:=try exact dis1) only [evD,Nat.reduceBEq,Nat.reduceAdd,Nat.reduceLeDiff,renM] | with_reducible intro _ | ((with_reducible apply And.intro);omega))
   refine ⟨i,by omega,by omega,?_⟩
   exact (Ent.tab [(0,0,0),(1,1,0),(2,2,0),(3,3,0),(4,4,0),(5,5,0),(6,6,0)] [] rfl (by (try simp only [evWB,Nat.reduceBEq,Nat.reduceAdd,Nat.reduceSub,Nat.reduceLeDiff,Nat.reduceLT,implies_true,zfL,famS,hat,hbt,List.cons_append,List.nil_append])<;>exact fin8) (by (try simp only [evWB,Nat.reduceBEq,Nat.reduceAdd,Nat.reduceSub,Nat.reduceLeDiff,Nat.reduceLT,implies_true,zfL,famS,hat,hbt,List.cons_append,List.nil_append])<;>exact fin8))
  |
   false =>
   rw [hx,if_neg (by simp)] at hat
   (repeat first | simp (disch:=try exact dis1) only [evD,Nat.reduceBEq,Nat.reduceAdd,Nat.reduceLeDiff,renM,hgl,St.len,St.eight] | with_reducible intro _ | ((with_reducible apply And.intro);omega))
   refine zw [(0,5,0)] 1 _ (hbk) rfl rfl fin8 fin8 ?_
   rintro _ _ _ ⟨rfl,rfl,rfl⟩
   have hkl:kp.reverse.length=kp.length:=List.length_reverse
   have htk:(kp.reverse.map St.cells).take kp.length=kp.reverse.map St.cells:=List.take_of_length_le (by rw [List.length_map,hkl];omega)
   have hbt:decide (kp.length+1 < sts.length - i)=decide (kp.length < sts.length - (i+1)):=decide_eq_decide.2 (by omega)
   (repeat first | simp (disch:=try exact dis1) only [evD,Nat.reduceBEq,Nat.reduceAdd,Nat.reduceLeDiff,renM,hgl,St.len,St.eight,hkl,htk] | with_reducible intro _ | ((with_reducible apply And.intro);omega))
   refine ⟨i,by omega,by omega,?_⟩
   exact (Ent.tab [(0,0,0),(1,1,0),(2,2,0),(3,3,0),(4,4,0),(5,5,0),(6,6,1)] [] rfl (by (try simp only [evWB,Nat.reduceBEq,Nat.reduceAdd,Nat.reduceSub,Nat.reduceLeDiff,Nat.reduceLT,implies_true,zfL,famS,hat,hbt,List.cons_append,List.nil_append,List.length_cons,List.reverse_cons,List.map_append,List.map_cons,List.map_nil])<;>exact fin8) (by (try simp only [evWB,Nat.reduceBEq,Nat.reduceAdd,Nat.reduceSub,Nat.reduceLeDiff,Nat.reduceLT,implies_true,zfL,famS,hat,hbt,List.cons_append,List.nil_append,List.length_cons,List.reverse_cons,List.map_append,List.map_cons,List.map_nil])<;>exact fin8))
def zct (exit:List Int) (bl:List Bl) (i:Nat):List Bl:=bl.mapIdx fun j b=>if j < i then blkD exit bl j b else b
theorem zeH {exit:List Int} {bl:List Bl} {i:Nat}:(zct exit bl i).length=bl.length:=by simp [zct]
theorem zqJ {exit:List Int} {bl:List Bl}:zct exit bl 0=bl:=by
 apply List.ext_getElem
 · exact zeH
 · intro k h1 h2;simp [zct]
theorem zrJ {exit:List Int} {bl:List Bl}:zct exit bl bl.length=zdx exit bl:=by
 apply List.ext_getElem
 · rw [zeH,ziO]
 ·
  intro k h1 h2
  rw [zeH] at h1
  simp [zct,zdx,h1]
theorem zsF {exit:List Int} {bl:List Bl} {i:Nat} (h:i < bl.length):(zct exit bl i)[i]'(by rw [zeH];exact h)=bl[i]:=by simp [zct]
theorem ztd {exit:List Int} {bl:List Bl} {i:Nat} (h:i < bl.length):(zct exit bl i).set i ⟨bl[i].addr,(zj8 exit bl[i].stmts (zcz exit bl i)).1⟩=zct exit bl (i+1):=by
 apply List.ext_getElem
 · simp [zct]
 ·
  intro k h1 h2
  rw [zeH] at h2
  rw [List.getElem_set]
  by_cases hk:i=k
  ·
   subst hk
   simp [zct,blkD]
  ·
   rw [if_neg hk]
   simp only [zct,List.getElem_mapIdx]
   by_cases hl:k < i
   · rw [if_pos hl,if_pos (by omega)]
   · rw [if_neg hl,if_neg (by omega)]
theorem znQ {exit:List Int} {bl:List Bl} {i:Nat}:SubB (zct exit bl i) bl:=by
 refine ⟨zeH,fun k h1 h2=>?_⟩
 simp only [zct,List.getElem_mapIdx]
 split
 · exact ⟨rfl,zif _⟩
 · exact ⟨rfl,List.Sublist.refl _⟩
theorem znN {b:Bl}:∀ {l:List Bl} {i:Nat} (h:i < l.length),zx (l.set i b)+l[i].stmts.length=zx l+b.stmts.length
 | x::l,0,h=>by simp only [zx,List.set_cons_zero,List.map_cons,List.sum_cons,List.getElem_cons_zero];omega
 |
  x::l,i+1,h=>by
  have:=znN (b:=b) (l:=l) (i:=i) (by simpa using h)
  simp only [zx,List.set_cons_succ,List.map_cons,List.sum_cons,List.getElem_cons_succ] at *
  omega
theorem ztg {exit:List Int} {x:List Bl}:zm2 exit x=if zx (zdx exit x)=zx x then x else zm2 exit (zdx exit x):=by
 unfold zm2
 rw [zoO]
 split
 · rfl
 ·
  have:=(zec (exit:=exit) (bl:=x)).count
  exact znk _ _ _ (by omega) (by omega)
theorem zzt {Q:QT} (ad:Int) (bl:List Bl) (exit U:List Int) (hU:GoodB U exit bl) (S T:Nat→MS) (hE:EndB U exit bl S T) (r0:Nat) (hr0:r0+zx bl≤1000000)
  (hfin:∀ K H nx,Ent 0 K H nx [(1,za exit),(4, .ptr 0 0 0 0 0),(8, .ptr 1 0 0 0 0),(9, .int .i64 ((r0+(zx bl - zx (zdx exit bl)):Nat):Int)),(10, .bool (decide (zx (zdx exit bl) < zx bl)))]
   [(0, .row 2 [[.int .u32 0, .nilsl]] 0),(1, .row 2 [[.int .u32 ad, .own 2 0 0 0 bl.length]] 0),(2, .row 2 ((zdx exit bl).map Bl.cells) 0)] 3→Q .normal K H nx)
  {K:Kn} {H:AH} {nx:Nat} (hent:Ent 0 K H nx [(1,za exit),(4, .ptr 0 0 0 0 0),(8, .ptr 1 0 0 0 0),(9, .int .i64 r0),(10, .bool false),(12, .own 3 0 0 0 bl.length),(35, .int .i64 bl.length),(36, .int .i64 0)] (zfL ad bl.length bl T) 5) :
  zjO Try.prog 0 zd8 (zcF 2 Q) K H nx:=by
 have hB:=hBig
 have hlen:=hU.len
 refine zf (fun i:Nat=>([(1,za exit),(4, .ptr 0 0 0 0 0),(8, .ptr 1 0 0 0 0),(9, .int .i64 ((r0+(zx bl - zx (zct exit bl i)):Nat):Int)),(10, .bool (decide (zx (zct exit bl i) < zx bl))),(12, .own 3 0 0 0 bl.length),(35, .int .i64 bl.length),(36, .int .i64 i)],zfL ad bl.length (zct exit bl i) T)) 5
  (fun i=>i≤bl.length) (fun i=>bl.length - i) 0 (Nat.zero_le _) ?_ ?_
 ·
  rw [zqJ]
  simp only [Nat.sub_self,Nat.lt_irrefl,decide_false,Nat.add_zero]
  exact hent
 rintro i hi wf
 unfold zd8
 by_cases hil:i < bl.length
 ·
  have hm:=List.getElem_mem hil
  have hDl:=zeH (exit:=exit) (bl:=bl) (i:=i)
  have hDi:=zsF (exit:=exit) hil
  have hDs:=ztd (exit:=exit) hil
  have hDc:=(znQ (exit:=exit) (bl:=bl) (i:=i)).count
  have hcs:=znN (b:=⟨bl[i].addr,(zj8 exit bl[i].stmts (zcz exit bl i)).1⟩) (l:=zct exit bl i) (i:=i) (by omega)
  rw [hDs,hDi] at hcs
  simp only at hcs
  have hDc1:=(znQ (exit:=exit) (bl:=bl) (i:=i+1)).count
  have hT:=hE.t i
  have hTl:=hT.len
  have hks:zcd ((T i).2.map (·.1))=zcz exit bl i:=hE.keyT hil
  have hkl:(zcz exit bl i).length=(T i).2.length:=by rw [← hks,(zZ _).length_eq,List.length_map]
  have hcost:=hU.cost _ hm
  have hok:(addL (0,[]) (zcz exit bl i)).ok:=zji zmn (by simp only;omega) (by simp only [List.length_nil];omega)
  have hbd:=zei (l:=zcz exit bl i) (s:=(0,[]))
  simp only [List.length_nil] at hbd
  have hkeys:∀ x,x∈(addL (0,[]) (zcz exit bl i)).keys↔x∈zcz exit bl i:=fun x=>by rw [zeV];simp [MS.keys]
  obtain ⟨hkp,_⟩:=zpu (exit:=exit) hkeys bl[i].stmts
  have hll:=(zif (exit:=exit) (e:=zcz exit bl i) bl[i].stmts).length_le
  have hstl:=zkm hm
  have hl0:=fun (Q:QT)=>zyU (Q:=Q) ad bl.length i hil hlen (zct exit bl i) hDl T exit bl[i].stmts (addL (0,[]) (zcz exit bl i)) (r0+(zx bl - zx (zct exit bl i))) (decide (zx (zct exit bl i) < zx bl)) (fun s hs=>(hU.hsz _ hm s hs).1) hok (by omega) (by omega) (by omega) (by omega)
  simp only [hDi] at hl0
  rw [hkp,hDs] at hl0
  have hg:((zct exit bl i).map Bl.cells).getD i []=[.int .u32 bl[i].addr,encL 8 St.cells bl[i].stmts]:=by
   have:=zz (f:=Bl.cells) (d:=[]) (l:=zct exit bl i) (i:=i) (by omega)
   rw [hDi] at this
   exact this
  have hDml:((zct exit bl i).map Bl.cells).length=bl.length:=by rw [List.length_map,hDl]
  have hsa:=zgT (0,[]) (zcz exit bl i) zmn (by simp only;omega) (by simp only [List.length_nil];omega)
  generalize addL (0,[]) (zcz exit bl i)=a0 at *
  generalize zcz exit bl i=lo at *
  clear hDi hDs hDl
  generalize hD:zct exit bl i=D at *
  (repeat first | simp (disch:=try exact dis1) only [evD,Nat.reduceBEq,Nat.reduceAdd,Nat.reduceLeDiff,dT,zfL,za,zgP,zfb hil] | with_reducible intro _ | ((with_reducible apply And.intro);omega))
  refine zw [(0,4,0)] 1 _ (zdf bl.length i hil T hT.ok) rfl rfl (by (try simp only [evWB,Nat.reduceBEq,Nat.reduceAdd,Nat.reduceSub,Nat.reduceLeDiff,Nat.reduceLT,implies_true,famS])<;>exact fin8) (by (try simp only [evWB,Nat.reduceBEq,Nat.reduceAdd,Nat.reduceSub,Nat.reduceLeDiff,Nat.reduceLT,implies_true,famS])<;>exact fin8) ?_
  rintro _ _ _ ⟨rfl,rfl,rfl⟩
  (repeat first | simp (disch:=try exact dis1) only [evD,Nat.reduceBEq,Nat.reduceAdd,Nat.reduceLeDiff,renE,renF,hks,za,zgP,zfb hil] | with_reducible intro _ | ((with_reducible apply And.intro);omega))
  refine zw [(0,5,0)] 1 _ (hsa) rfl rfl (by (try simp only [evWB,Nat.reduceBEq,Nat.reduceAdd,Nat.reduceSub,Nat.reduceLeDiff,Nat.reduceLT,implies_true,zn])<;>exact fin8) (by (try simp only [evWB,Nat.reduceBEq,Nat.reduceAdd,Nat.reduceSub,Nat.reduceLeDiff,Nat.reduceLT,implies_true,zn])<;>exact fin8) ?_
  rintro _ _ _ ⟨rfl,rfl,rfl⟩
  (repeat first | simp (disch:=try exact dis1) only [evD,Nat.reduceBEq,Nat.reduceAdd,Nat.reduceLeDiff,renM,za,hg,hDml] | with_reducible intro _ | ((with_reducible apply And.intro);omega))
  refine hl0 _ ?_ ?_
  ·
   intro K2 H2 nx2 he
   refine ⟨i+1,by omega,by show bl.length - (i+1) < bl.length - i;omega,?_⟩
   have e1:r0+(zx bl - zx D)+(bl[i].stmts.length - (zj8 exit bl[i].stmts lo).1.length)=r0+(zx bl - zx (zct exit bl (i+1))):=by omega
   have e2:(decide (zx D < zx bl)||decide ((zj8 exit bl[i].stmts lo).1.length < bl[i].stmts.length))=decide (zx (zct exit bl (i+1)) < zx bl):=by
    rw [← Bool.decide_or]
    exact decide_eq_decide.2 (by omega)
   rw [e1,e2] at he
   exact he
  · exact (Ent.tab [(0,0,0),(1,1,0),(2,2,0),(3,3,0),(4,4,0),(5,5,0),(6,8,0)] [] rfl (by (try simp only [evWB,Nat.reduceBEq,Nat.reduceAdd,Nat.reduceSub,Nat.reduceLeDiff,Nat.reduceLT,implies_true,zfL,famS,List.cons_append,List.nil_append])<;>exact fin8) (by (try simp only [evWB,Nat.reduceBEq,Nat.reduceAdd,Nat.reduceSub,Nat.reduceLeDiff,Nat.reduceLT,implies_true,zfL,famS,List.cons_append,List.nil_append])<;>exact fin8))
 ·
  obtain rfl:i=bl.length:=by omega
  rw [zrJ]
  (repeat first | simp (disch:=try exact dis1) only [evD,Nat.reduceBEq,Nat.reduceAdd,Nat.reduceLeDiff,dF] | with_reducible intro _ | ((with_reducible apply And.intro);omega))
  refine hfin _ _ _ ?_
  exact (Ent.tab [(0,0,0),(1,1,0),(2,2,0)] [] rfl (by (try simp only [evWB,Nat.reduceBEq,Nat.reduceAdd,Nat.reduceSub,Nat.reduceLeDiff,Nat.reduceLT,implies_true,zfL,famS,za])<;>exact fin8) (by (try simp only [evWB,Nat.reduceBEq,Nat.reduceAdd,Nat.reduceSub,Nat.reduceLeDiff,Nat.reduceLT,implies_true,zfL,famS,za])<;>exact fin8))
theorem zr6 {F n g:Nat}:AObj.refs (.row 1 (mps F n) g):=by
 intro c hc
 obtain ⟨i,_,rfl⟩:=List.mem_map.1 hc
 rfl
theorem zy3 (a:MC):(cm a).all AV.ref0=true:=by
 unfold cm
 split<;>rfl
theorem zpn {n:Nat} {S:Nat→MS}:AObj.refs (famS n S):=by
 intro p hp
 unfold fi at hp
 obtain ⟨i,_,rfl⟩:=List.mem_map.1 hp
 exact zx6 zy3
theorem zwX {n:Nat} {S T:Nat→MS}:AH.refs (bdH n S T):=⟨zr6,zr6,zpn,zpn,trivial⟩
structure RunD (U exit:List Int) (bl0 R x:List Bl) (m:Bool):Prop where
 good:GoodB U exit x
 len:x.length=bl0.length
 cnt:zx x≤zx bl0
 go:zm2 exit x=R
 done:m=false→x=R
theorem RunD.next {U exit:List Int} {bl0 R x:List Bl} (h:RunD U exit bl0 R x true) :
  RunD U exit bl0 R (zdx exit x) (decide (zx (zdx exit x) < zx x))∧2 * zx (zdx exit x)+(bif decide (zx (zdx exit x) < zx x) then 1 else 0) < 2 * zx x+(bif true then 1 else 0):=by
 have hc:=(zec (exit:=exit) (bl:=x)).count
 have hg:=h.go
 have hn:=h.cnt
 rw [ztg] at hg
 refine ⟨⟨h.good.sub zec,by rw [ziO];exact h.len,by omega,?_,fun hm=>?_⟩,?_⟩
 ·
  split at hg
  ·
   rename_i he
   rw [zec.same he]
   exact h.go
  · exact hg
 ·
  have hm:=of_decide_eq_false hm
  rw [if_pos (by omega)] at hg
  rw [zec.same (by omega)]
  exact hg
 ·
  by_cases hlt:zx (zdx exit x) < zx x
  ·
   rw [decide_eq_true hlt]
   simp only [cond_true]
   omega
  ·
   rw [decide_eq_false hlt]
   simp only [cond_true,cond_false]
   omega
theorem zzy {Q:QT} (ad:Int) (bl0 R:List Bl) (exit U:List Int)
  (hcnt:zx bl0≤1000000)
  (hfin:wpX Try.prog 0 zcQ Q [(4, .ptr 0 0 0 0 0),(8, .ptr 1 0 0 0 0),(9, .int .i64 ((zx bl0 - zx R:Nat):Int)),(26, .bool false)]
   [(0, .row 2 [[.int .u32 0, .nilsl]] 0),(1, .row 2 [[.int .u32 ad, .own 2 0 0 0 bl0.length]] 0),(2, .row 2 (R.map Bl.cells) 0)] 3)
  {K:Kn} {H:AH} {nx:Nat} (hrun:RunD U exit bl0 R bl0 true) (hent:Ent 0 K H nx [(1,za exit),(4, .ptr 0 0 0 0 0),(8, .ptr 1 0 0 0 0),(9, .int .i64 0),(10, .bool true)]
   [(0, .row 2 [[.int .u32 0, .nilsl]] 0),(1, .row 2 [[.int .u32 ad, .own 2 0 0 0 bl0.length]] 0),(2, .row 2 (bl0.map Bl.cells) 0)] 3) :
  zjO Try.prog 0 zdZ (zcF 0 (seqQ Try.prog 0 zcQ Q)) K H nx:=by
 have hB:=hBig
 refine zf (fun a:List Bl × Bool=>([(1,za exit),(4, .ptr 0 0 0 0 0),(8, .ptr 1 0 0 0 0),(9, .int .i64 ((zx bl0 - zx a.1:Nat):Int)),(10, .bool a.2)],
   [(0, .row 2 [[.int .u32 0, .nilsl]] 0),(1, .row 2 [[.int .u32 ad, .own 2 0 0 0 bl0.length]] 0),(2, .row 2 (a.1.map Bl.cells) 0)])) 3
  (fun a=>RunD U exit bl0 R a.1 a.2) (fun a=>2 * zx a.1+(bif a.2 then 1 else 0)) (bl0,true) hrun ?_ ?_
 ·
  simp only [Nat.sub_self]
  exact hent
 rintro ⟨x,m⟩ hrn wf
 simp only at hrn
 unfold zdZ
 cases m with
 |
  false =>
  obtain rfl:=hrn.done rfl
  (repeat first | simp (disch:=try exact dis1) only [evD,Nat.reduceBEq,Nat.reduceAdd,Nat.reduceLeDiff] | with_reducible intro _ | ((with_reducible apply And.intro);omega))
  exact hfin
 |
  true =>
  obtain ⟨n1,n2⟩:=hrn.next
  have hxl:=hrn.len
  have hxc:=hrn.cnt
  have hbd:=zjZ ⟨ad,x⟩ exit U hrn.good.univ
  have hxb:=hrn.good.len
  have hml:(x.map Bl.cells).length=x.length:=List.length_map _
  (repeat first | simp (disch:=try exact dis1) only [evD,Nat.reduceBEq,Nat.reduceAdd,Nat.reduceLeDiff] | with_reducible intro _ | ((with_reducible apply And.intro);omega))
  refine zsX (D:=inD [2]) hbd (.cons (.agg _ _ _ rfl (fun j a c h1 h2=>?_)) (.cons (zaF rfl) .nil)) ?_ ?_
  ·
   match j with
   | 0=>cases h1;cases h2;exact .int _ _ _
   | 1=>cases h1;cases h2;rw [← hxl];exact ztZ rfl rfl (by omega)
   | j+2=>cases h1
  ·
   rintro _ _ _ ⟨S,T,rfl,rfl,rfl,_⟩
   exact ⟨rfl,zwX⟩
  rintro _ _ _ ⟨S,T,rfl,rfl,rfl,hend⟩
  simp only at hend
  (repeat first | simp (disch:=try exact dis1) only [evD,Nat.reduceBEq,Nat.reduceAdd,Nat.reduceLeDiff,bdH,renP,renF] | with_reducible intro _ | ((with_reducible apply And.intro);omega))
  refine zzt ad x exit U hrn.good S T hend (zx bl0 - zx x) (by omega) ?_ ?_
  ·
   intro K2 H2 nx2 he
   refine ⟨(zdx exit x,_),n1,n2,?_⟩
   have hc:=(zec (exit:=exit) (bl:=x)).count
   have e1:zx bl0 - zx x+(zx x - zx (zdx exit x))=zx bl0 - zx (zdx exit x):=by omega
   rw [e1,hxl] at he
   exact he
  ·
   rw [hxl]
   exact (Ent.tab [(0,0,0),(1,1,0),(2,2,0),(3,4,0),(4,6,0)] [] rfl (by (try simp only [evWB,Nat.reduceBEq,Nat.reduceAdd,Nat.reduceSub,Nat.reduceLeDiff,Nat.reduceLT,implies_true,zfL,famS])<;>exact fin8) (by (try simp only [evWB,Nat.reduceBEq,Nat.reduceAdd,Nat.reduceSub,Nat.reduceLeDiff,Nat.reduceLT,implies_true,zfL,famS])<;>exact fin8))
def zxm (g:G) (exit:List Int):AV:=if znA g=0 then .tup [.agg (G.cells ⟨g.addr,zm2 exit g.blocks⟩), .int .i64 ((zx g.blocks - zx (zm2 exit g.blocks):Nat):Int), .int .i64 0] else .tup [.agg (G.cells ⟨0,[]⟩), .int .i64 0, .int .i64 (znA g)]
theorem zwq {exit:List Int} {bl:List Bl}:(zm2 exit bl).length=bl.length:=(zpx _ _).1
theorem zhF (g:G) (exit U:List Int) (hU:GoodB U exit g.blocks) (hf:fewB g):zE Try.prog zel [.agg g.cells,za exit] (·=zxm g exit):=by
 refine fn_x zlg rfl ?_
 unfold zhL zxm
 have hB:=hBig
 have hcg:=zlr g hf (fun b hb s hs=>by have:=(hU.hsz b hb s hs).2;omega)
 have hcp:=zuz g hU.len (fun b hb=>Nat.le_trans (zkm hb) hU.cnt) (fun b hb s hs=>⟨(hU.hsz b hb s hs).1,by have:=(hU.hsz b hb s hs).2;omega⟩)
 have hpl:=zwq (exit:=exit) (bl:=g.blocks)
 have hlen:=hU.len
 have hcnt:=hU.cnt
 obtain ⟨ad,bl⟩:=g
 simp only [G.cells] at hcg hcp hpl hU hlen hcnt ⊢
 (repeat first | simp (disch:=try exact dis1) only [evD,Nat.reduceBEq,Nat.reduceAdd,Nat.reduceLeDiff,fldP,za,ziY,tab,List.getD_cons_zero,List.getD_cons_succ] | with_reducible intro _ | ((with_reducible apply And.intro);omega))
 refine zp (zm hcg rfl) ?_
 by_cases hc:znA ⟨ad,bl⟩=0
 ·
  rw [if_pos hc,hc]
  (repeat first | simp (disch:=try exact dis1) only [evD,Nat.reduceBEq,Nat.reduceAdd,Nat.reduceLeDiff,dF,fldP,za,ziY,tab,List.getD_cons_zero,List.getD_cons_succ] | with_reducible intro _ | ((with_reducible apply And.intro);omega))
  refine zw [] 0 _ (hcp) rfl rfl fin9 fin9 ?_
  rintro _ _ _ ⟨rfl,rfl,rfl⟩
  have hrb:∀ {ρ:Nat→Nat} {l:List Bl} {g:Nat},AObj.ren ρ (.row 2 (l.map Bl.cells) g)=.row 2 (l.map Bl.cells) g:=fun {ρ l g}=>by
   simp only [AObj.ren]
   rw [zfO (ze fun s=>rfl)]
  (repeat first | simp (disch:=try exact dis1) only [evD,Nat.reduceBEq,Nat.reduceAdd,Nat.reduceLeDiff,hrb] | with_reducible intro _ | ((with_reducible apply And.intro);omega))
  refine zzy ad bl (zm2 exit bl) exit U hcnt ?_ ⟨hU,rfl,Nat.le_refl _,rfl,fun h=>by cases h⟩ ?_
  ·
   unfold zcQ
   (repeat first | simp (disch:=try exact dis1) only [evD,Nat.reduceBEq,Nat.reduceAdd,Nat.reduceLeDiff,zfc] | with_reducible intro _ | ((with_reducible apply And.intro);omega))
   refine ⟨.tup [.agg [.int .u32 ad,encL 2 Bl.cells (zm2 exit bl)], .int .i64 ((zx bl - zx (zm2 exit bl):Nat):Int), .int .i64 0], .tup _ _ _ rfl (fun j a c h1 h2=>?_),rfl⟩
   match j with
   |
    0 =>
    cases h1;cases h2
    refine .agg _ _ _ rfl (fun j a c h1 h2=>?_)
    match j with
    | 0=>cases h1;cases h2;exact .int _ _ _
    | 1=>cases h1;cases h2;rw [← hpl];exact ztZ trivial rfl (by omega)
    | j+2=>cases h1
   | 1=>cases h1;cases h2;exact .int _ _ _
   | 2=>cases h1;cases h2;exact .int _ _ _
   | j+3=>cases h1
  · exact (Ent.tab [(0,0,0),(1,2,0),(2,1,0)] [] rfl (by (try simp only [evWB,Nat.reduceBEq,Nat.reduceAdd,Nat.reduceSub,Nat.reduceLeDiff,Nat.reduceLT,implies_true,za])<;>exact fin2) (by (try simp only [evWB,Nat.reduceBEq,Nat.reduceAdd,Nat.reduceSub,Nat.reduceLeDiff,Nat.reduceLT,implies_true,za])<;>exact fin2))
 ·
  rw [if_neg hc]
  (repeat first | simp (disch:=try exact dis1) only [evD,Nat.reduceBEq,Nat.reduceAdd,Nat.reduceLeDiff,fldP,dT,za,zfc] | with_reducible intro _ | ((with_reducible apply And.intro);omega))
  refine ⟨.tup [.agg [.int .u32 0,encL 2 Bl.cells []], .int .i64 0, .int .i64 (znA ⟨ad,bl⟩)], .tup _ _ _ rfl (fun j a c h1 h2=>?_),rfl⟩
  match j with
  |
   0 =>
   cases h1;cases h2
   refine .agg _ _ _ rfl (fun j a c h1 h2=>?_)
   match j with
   | 0=>cases h1;cases h2;exact .int _ _ _
   | 1=>cases h1;cases h2;exact .nil0 _ _ _
   | j+2=>cases h1
  | 1=>cases h1;cases h2;exact .int _ _ _
  | 2=>cases h1;cases h2;exact .int _ _ _
  | j+3=>cases h1
structure FewD (exit:List Int) (bl:List Bl):Prop where
 sz:∀ b∈bl,∀ s∈b.stmts,zt s.e≤100000∧s.cases.length≤100000∧(s.op=1→s.e.length=1)
 len:bl.length≤1000000
 cnt:zx bl≤1000
 uni:(univ exit bl).length+exit.length≤400000
structure RunR (exit:List Int) (bl0 R x:List Bl) (k:Nat):Prop where
 few:FewD exit x
 len:x.length=bl0.length
 cnt:k+zx x≤zx bl0
 go:∀ j,zx x < j→deadR exit j x=R
theorem zn4:∀ (k:Nat) (e:Ex) (m n:Int),zc9 e≤k → -1000≤m→m≤1000 → -1≤n→n≤30000→zE Try.prog zht [.agg (encX e), .int .i64 m, .int .i64 n] (·=.int .i64 (zgu e m n)):=by
 intro k
 induction k with
 | zero=>intro e m n h;obtain ⟨_,_,_,_,l⟩:=e;rw [zc9] at h;omega
 | succ k ih =>
 intro e m n hk h1 h2 h3 h4
 obtain ⟨op,nn,v,w,l⟩:=e
 refine fn_x zpJ rfl ?_
 unfold zk9
 have hB:=hBig
 rw [zc9] at hk
 have hR:=zgx (.mk op nn v w l) m n h3
 rw [zgu] at hR ⊢
 generalize hE:encX (.mk op nn v w l)=E
 rw [zdW] at hE
 subst hE
 by_cases c1:m < 1
 ·
  rw [if_pos (.inl c1)]
  (repeat first | simp (disch:=try exact dis1) only [evD,Nat.reduceBEq,Nat.reduceAdd,Nat.reduceLeDiff,dT,zea] | with_reducible intro _ | ((with_reducible apply And.intro);omega))
  exact ⟨_, .int _ _ _,rfl⟩
 by_cases c2:n < 1
 ·
  rw [if_pos (.inr (.inl c2))]
  (repeat first | simp (disch:=try exact dis1) only [evD,Nat.reduceBEq,Nat.reduceAdd,Nat.reduceLeDiff,dT,dF,zea] | with_reducible intro _ | ((with_reducible apply And.intro);omega))
  exact ⟨_, .int _ _ _,rfl⟩
 by_cases c3:4 < l.length
 ·
  rw [if_pos (.inr (.inr c3))]
  (repeat first | simp (disch:=try exact dis1) only [evD,Nat.reduceBEq,Nat.reduceAdd,Nat.reduceLeDiff,dT,dF,zea] | with_reducible intro _ | ((with_reducible apply And.intro);omega))
  exact ⟨_, .int _ _ _,rfl⟩
 rw [if_neg (by omega)] at hR ⊢
 (repeat first | simp (disch:=try exact dis1) only [evD,Nat.reduceBEq,Nat.reduceAdd,Nat.reduceLeDiff,dF] | with_reducible intro _ | ((with_reducible apply And.intro);omega))
 generalize hG:zbR l (m - 1) (n - 1)=R at hR ⊢
 refine zf (fun s:Nat × Int=>([(1, .int .i64 m),(3,encP 5 [.int .i64 op, .int .u32 nn, .int .i64 v, .int .i64 w,encL 5 encX l]),(7, .int .i64 s.2),(8, .int .i64 s.1)],[])) 0 (fun s=>s.1≤l.length ∧ -1≤s.2∧s.2≤n∧zbR (l.drop s.1) (m - 1) s.2=R) (fun s=>l.length - s.1) (0,n - 1) ⟨Nat.zero_le _,by simp only;omega,by simp only;omega,hG⟩ (Ent.keep rfl fin5) ?_
 rintro ⟨i,x⟩ ⟨hi,hx1,hx2,hgo⟩ wf
 simp only at hi hx1 hx2 hgo
 unfold zie
 by_cases hl:i < l.length
 ·
  by_cases hx:0≤x
  ·
   rw [zkW hl hx] at hgo
   have hm:=zgk (List.getElem_mem hl)
   have hr:=zgx l[i] (m - 1) x hx1
   (repeat first | simp (disch:=try exact dis1) only [evD,Nat.reduceBEq,Nat.reduceAdd,Nat.reduceLeDiff,fldP,dT,dF,zz hl,zdt,zcx] | with_reducible intro _ | ((with_reducible apply And.intro);omega))
   refine zp (zm (ih l[i] (m - 1) x (by omega) (by omega) (by omega) (by omega) (by omega)) (flX rfl)) ?_
   (repeat first | simp (disch:=try exact dis1) only [evD,Nat.reduceBEq,Nat.reduceAdd,Nat.reduceLeDiff] | with_reducible intro _ | ((with_reducible apply And.intro);omega))
   exact ⟨(i+1,zgu l[i] (m - 1) x),⟨by simp only;omega,by simp only;omega,by simp only;omega,hgo⟩,by simp only;omega,Ent.keep rfl fin5⟩
  ·
   rw [zjt (by omega)] at hgo
   subst hgo
   (repeat first | simp (disch:=try exact dis1) only [evD,Nat.reduceBEq,Nat.reduceAdd,Nat.reduceLeDiff,fldP,dT,dF] | with_reducible intro _ | ((with_reducible apply And.intro);omega))
   unfold zf3
   (repeat first | simp (disch:=try exact dis1) only [evD,Nat.reduceBEq,Nat.reduceAdd,Nat.reduceLeDiff,zea] | with_reducible intro _ | ((with_reducible apply And.intro);omega))
   exact ⟨_, .int _ _ _,rfl⟩
 ·
  rw [List.drop_of_length_le (by omega),zbR] at hgo
  subst hgo
  (repeat first | simp (disch:=try exact dis1) only [evD,Nat.reduceBEq,Nat.reduceAdd,Nat.reduceLeDiff,fldP,dT,dF] | with_reducible intro _ | ((with_reducible apply And.intro);omega))
  unfold zf3
  (repeat first | simp (disch:=try exact dis1) only [evD,Nat.reduceBEq,Nat.reduceAdd,Nat.reduceLeDiff,zea] | with_reducible intro _ | ((with_reducible apply And.intro);omega))
  exact ⟨_, .int _ _ _,rfl⟩
def zqy (s:St) (n:Int):Int:=if 4 < s.e.length∨100 < s.cases.length then -1 else zbR s.e 8 n
def zf7:List St→Int→Int
 | [],n=>n
 | s::l,n=>if n < 0 then n else zf7 l (zqy s n)
def zrF (b:Bl) (n:Int):Int:=if 1100 < b.stmts.length then -1 else zf7 b.stmts n
def zf0:List Bl→Int→Int
 | [],n=>n
 | b::l,n=>if n < 0 then n else zf0 l (zrF b n)
def zp5 (g:G):Bool:=decide (g.blocks.length≤300)&&decide (0≤zf0 g.blocks 20000)
def zph (g:G) (exit:List Int):Bool:=decide (g.blocks.length≤12)&&(decide (exit.length≤20)&&(zp5 g&&g.blocks.all fun b=>decide (b.stmts.length≤12)))
theorem zq6 {l:List St} {i:Nat} {n:Int} (h:i < l.length) (hn:0≤n):zf7 (l.drop i) n=zf7 (l.drop (i+1)) (zqy l[i] n):=by
 rw [List.drop_eq_getElem_cons h,zf7,if_neg (by omega)]
theorem ziP {l:List St} {n:Int} (hn:n < 0):zf7 l n=n:=by
 cases l with
 | nil=>rw [zf7]
 | cons a l=>rw [zf7,if_pos hn]
theorem zrl {l:List Bl} {i:Nat} {n:Int} (h:i < l.length) (hn:0≤n):zf0 (l.drop i) n=zf0 (l.drop (i+1)) (zrF l[i] n):=by
 rw [List.drop_eq_getElem_cons h,zf0,if_neg (by omega)]
theorem zkH {l:List Bl} {n:Int} (hn:n < 0):zf0 l n=n:=by
 cases l with
 | nil=>rw [zf0]
 | cons a l=>rw [zf0,if_pos hn]
theorem zkq (g:G):zE Try.prog zff [.agg g.cells, .int .i64 8] (·=.bool (zp5 g)):=by
 refine fn_x zko rfl ?_
 unfold zgR zp5
 have hB:=hBig
 obtain ⟨ad,bl⟩:=g
 simp only [G.cells]
 by_cases h300:300 < bl.length
 ·
  rw [decide_eq_false (by omega),Bool.false_and]
  (repeat first | simp (disch:=try exact dis1) only [evD,Nat.reduceBEq,Nat.reduceAdd,Nat.reduceLeDiff,fldP,dT,za0] | with_reducible intro _ | ((with_reducible apply And.intro);omega))
  exact ⟨_, .bool _ _,rfl⟩
 rw [decide_eq_true (by omega),Bool.true_and]
 generalize hR:zf0 bl 20000=R
 have fin:R < 0→decide (0≤R)=false:=fun h=>decide_eq_false (by omega)
 (repeat first | simp (disch:=try exact dis1) only [evD,Nat.reduceBEq,Nat.reduceAdd,Nat.reduceLeDiff,fldP,dF] | with_reducible intro _ | ((with_reducible apply And.intro);omega))
 refine zf (fun a:Nat × Int=>([(1, .int .i64 8),(2,encP 2 [.int .u32 ad,encL 2 Bl.cells bl]),(5, .int .i64 a.2),(6, .int .i64 a.1)],[])) 0 (fun a=>a.1≤bl.length∧0≤a.2∧a.2≤20000∧zf0 (bl.drop a.1) a.2=R) (fun a=>bl.length - a.1) (0,20000) ⟨Nat.zero_le _,by simp only;omega,by simp only;omega,hR⟩ (Ent.keep rfl fin5) ?_
 rintro ⟨i,n⟩ ⟨hi,hn1,hn2,hgo⟩ wf
 simp only at hi hn1 hn2 hgo
 unfold zfk
 by_cases hil:i < bl.length
 case neg =>
  rw [List.drop_of_length_le (by omega),zf0] at hgo
  subst hgo
  rw [decide_eq_true hn1]
  (repeat first | simp (disch:=try exact dis1) only [evD,Nat.reduceBEq,Nat.reduceAdd,Nat.reduceLeDiff,fldP,dF] | with_reducible intro _ | ((with_reducible apply And.intro);omega))
  unfold zfl
  (repeat first | simp (disch:=try exact dis1) only [evD,Nat.reduceBEq,Nat.reduceAdd,Nat.reduceLeDiff,za0] | with_reducible intro _ | ((with_reducible apply And.intro);omega))
  exact ⟨_, .bool _ _,rfl⟩
 have hg:(bl.map Bl.cells).getD i []=[.int .u32 bl[i].addr,encL 8 St.cells bl[i].stmts]:=zz hil
 rw [zrl hil hn1] at hgo
 unfold zrF at hgo
 generalize bl[i].addr=ad2 at hg
 generalize bl[i].stmts=m at hg hgo
 by_cases h11:1100 < m.length
 ·
  rw [if_pos h11,zkH (by omega)] at hgo
  rw [fin (by omega)]
  (repeat first | simp (disch:=try exact dis1) only [evD,Nat.reduceBEq,Nat.reduceAdd,Nat.reduceLeDiff,fldP,dT,hg,za0] | with_reducible intro _ | ((with_reducible apply And.intro);omega))
  exact ⟨_, .bool _ _,rfl⟩
 rw [if_neg h11] at hgo
 (repeat first | simp (disch:=try exact dis1) only [evD,Nat.reduceBEq,Nat.reduceAdd,Nat.reduceLeDiff,fldP,dT,dF,hg] | with_reducible intro _ | ((with_reducible apply And.intro);omega))
 generalize hM:zf7 m n=M at hgo
 have hMR:M < 0→R < 0:=fun h=>by rw [zkH h] at hgo;omega
 refine zf (fun a:Nat × Int=>([(1, .int .i64 8),(2,encP 2 [.int .u32 ad,encL 2 Bl.cells bl]),(5, .int .i64 a.2),(6, .int .i64 i),(7, .int .i64 a.1)],[])) 0 (fun a=>a.1≤m.length∧0≤a.2∧a.2≤20000∧zf7 (m.drop a.1) a.2=M) (fun a=>m.length - a.1) (0,n) ⟨Nat.zero_le _,hn1,hn2,hM⟩ (Ent.keep rfl fin5) ?_
 rintro ⟨k,n2⟩ ⟨hk,hk1,hk2,hgo2⟩ wf2
 simp only at hk hk1 hk2 hgo2
 unfold zfy
 by_cases hkl:k < m.length
 case neg =>
  rw [List.drop_of_length_le (by omega),zf7] at hgo2
  subst hgo2
  (repeat first | simp (disch:=try exact dis1) only [evD,Nat.reduceBEq,Nat.reduceAdd,Nat.reduceLeDiff,fldP,dF,hg] | with_reducible intro _ | ((with_reducible apply And.intro);omega))
  unfold zfq
  (repeat first | simp (disch:=try exact dis1) only [evD,Nat.reduceBEq,Nat.reduceAdd,Nat.reduceLeDiff] | with_reducible intro _ | ((with_reducible apply And.intro);omega))
  exact ⟨(i+1,n2),⟨by simp only;omega,hk1,hk2,hgo⟩,by simp only;omega,Ent.keep rfl fin5⟩
 have hgm:=zz (f:=St.cells) (d:=[]) hkl
 rw [zq6 hkl hk1] at hgo2
 unfold zqy at hgo2
 generalize m[k]=s at hgm hgo2
 obtain ⟨op,var,width,next,els,tgt,e,cs⟩:=s
 simp only at hgo2
 simp only [St.cells] at hgm
 by_cases h4:4 < e.length
 ·
  rw [if_pos (.inl h4),ziP (by omega)] at hgo2
  have:=hMR (by omega)
  rw [fin this]
  (repeat first | simp (disch:=try exact dis1) only [evD,Nat.reduceBEq,Nat.reduceAdd,Nat.reduceLeDiff,fldP,dT,hg,hgm,za0] | with_reducible intro _ | ((with_reducible apply And.intro);omega))
  exact ⟨_, .bool _ _,rfl⟩
 by_cases h100:100 < cs.length
 ·
  rw [if_pos (.inr h100),ziP (by omega)] at hgo2
  have:=hMR (by omega)
  rw [fin this]
  (repeat first | simp (disch:=try exact dis1) only [evD,Nat.reduceBEq,Nat.reduceAdd,Nat.reduceLeDiff,fldP,dT,dF,hg,hgm,za,za0] | with_reducible intro _ | ((with_reducible apply And.intro);omega))
  exact ⟨_, .bool _ _,rfl⟩
 rw [if_neg (by omega)] at hgo2
 generalize hE:zbR e 8 n2=E at hgo2
 have hEM:E < 0→M < 0:=fun h=>by rw [ziP h] at hgo2;omega
 (repeat first | simp (disch:=try exact dis1) only [evD,Nat.reduceBEq,Nat.reduceAdd,Nat.reduceLeDiff,fldP,dT,dF,hg,hgm,za] | with_reducible intro _ | ((with_reducible apply And.intro);omega))
 refine zf (fun a:Nat × Int=>([(1, .int .i64 8),(2,encP 2 [.int .u32 ad,encL 2 Bl.cells bl]),(5, .int .i64 a.2),(6, .int .i64 i),(7, .int .i64 k),(8, .ptr 0 0 0 0 0),(9, .int .i64 a.1)],[(0, .row 8 [[.int .i64 op, .int .i64 var, .int .i64 width, .int .i64 next, .int .i64 els, .int .u32 tgt,encL 5 encX e,za cs]] 0)])) 1 (fun a=>a.1≤e.length∧0≤a.2∧a.2≤20000∧zbR (e.drop a.1) 8 a.2=E) (fun a=>e.length - a.1) (0,n2) ⟨Nat.zero_le _,hk1,hk2,hE⟩ (Ent.tab [(0,0,0)] [] rfl (by (try simp only [evWB,Nat.reduceBEq,Nat.reduceAdd,Nat.reduceSub,Nat.reduceLeDiff,Nat.reduceLT,implies_true,za])<;>exact fin2) (by (try simp only [evWB,Nat.reduceBEq,Nat.reduceAdd,Nat.reduceSub,Nat.reduceLeDiff,Nat.reduceLT,implies_true,za])<;>exact fin2)) ?_
 rintro ⟨j,n3⟩ ⟨hj,hj1,hj2,hgo3⟩ wf3
 simp only at hj hj1 hj2 hgo3
 unfold zfs
 by_cases hjl:j < e.length
 case neg =>
  rw [List.drop_of_length_le (by omega),zbR] at hgo3
  subst hgo3
  (repeat first | simp (disch:=try exact dis1) only [evD,Nat.reduceBEq,Nat.reduceAdd,Nat.reduceLeDiff,fldP,dF,hg] | with_reducible intro _ | ((with_reducible apply And.intro);omega))
  unfold zfm
  (repeat first | simp (disch:=try exact dis1) only [evD,Nat.reduceBEq,Nat.reduceAdd,Nat.reduceLeDiff] | with_reducible intro _ | ((with_reducible apply And.intro);omega))
  exact ⟨(k+1,n3),⟨by simp only;omega,hj1,hj2,hgo2⟩,by simp only;omega,(Ent.tab [] [] rfl (by (try simp only [evWB,Nat.reduceBEq,Nat.reduceAdd,Nat.reduceSub,Nat.reduceLeDiff,Nat.reduceLT,implies_true,za])<;>exact fin2) (by (try simp only [evWB,Nat.reduceBEq,Nat.reduceAdd,Nat.reduceSub,Nat.reduceLeDiff,Nat.reduceLT,implies_true,za])<;>exact fin2))⟩
 rw [zkW hjl hj1] at hgo3
 have hr:=zgx e[j] 8 n3 (by omega)
 (repeat first | simp (disch:=try exact dis1) only [evD,Nat.reduceBEq,Nat.reduceAdd,Nat.reduceLeDiff,fldP,dT,dF,zz hjl,zdt,zcx,za] | with_reducible intro _ | ((with_reducible apply And.intro);omega))
 refine zp (zm (zn4 (zc9 e[j]) e[j] 8 n3 (Nat.le_refl _) (by omega) (by omega) (by omega) (by omega)) (flX rfl)) ?_
 by_cases hx:zgu e[j] 8 n3 < 0
 ·
  rw [zjt hx] at hgo3
  have:=hMR (hEM (by omega))
  rw [fin this]
  (repeat first | simp (disch:=try exact dis1) only [evD,Nat.reduceBEq,Nat.reduceAdd,Nat.reduceLeDiff,dT,za0] | with_reducible intro _ | ((with_reducible apply And.intro);omega))
  exact ⟨_, .bool _ _,rfl⟩
 ·
  (repeat first | simp (disch:=try exact dis1) only [evD,Nat.reduceBEq,Nat.reduceAdd,Nat.reduceLeDiff,dF] | with_reducible intro _ | ((with_reducible apply And.intro);omega))
  exact ⟨(j+1,zgu e[j] 8 n3),⟨by simp only;omega,by simp only;omega,by simp only;omega,hgo3⟩,by simp only;omega,(Ent.tab [(0,0,0)] [] rfl (by (try simp only [evWB,Nat.reduceBEq,Nat.reduceAdd,Nat.reduceSub,Nat.reduceLeDiff,Nat.reduceLT,implies_true,za])<;>exact fin2) (by (try simp only [evWB,Nat.reduceBEq,Nat.reduceAdd,Nat.reduceSub,Nat.reduceLeDiff,Nat.reduceLT,implies_true,za])<;>exact fin2))⟩
theorem zqe (g:G) (exit:List Int):zE Try.prog zjp [.agg g.cells,za exit] (·=.bool (zph g exit)):=by
 refine fn_x zoL rfl ?_
 unfold zk3 zph
 have hB:=hBig
 have hsg:=zkq g
 generalize zp5 g=sg at hsg
 obtain ⟨ad,bl⟩:=g
 simp only [G.cells] at hsg ⊢
 by_cases h12:12 < bl.length
 ·
  rw [decide_eq_false (by omega),Bool.false_and]
  (repeat first | simp (disch:=try exact dis1) only [evD,Nat.reduceBEq,Nat.reduceAdd,Nat.reduceLeDiff,fldP,dT,za,zed] | with_reducible intro _ | ((with_reducible apply And.intro);omega))
  exact ⟨_, .bool _ _,rfl⟩
 rw [decide_eq_true (by omega),Bool.true_and]
 by_cases h20:20 < exit.length
 ·
  rw [decide_eq_false (by omega),Bool.false_and]
  (repeat first | simp (disch:=try exact dis1) only [evD,Nat.reduceBEq,Nat.reduceAdd,Nat.reduceLeDiff,fldP,dT,dF,za,zed] | with_reducible intro _ | ((with_reducible apply And.intro);omega))
  exact ⟨_, .bool _ _,rfl⟩
 rw [decide_eq_true (by omega),Bool.true_and]
 (repeat first | simp (disch:=try exact dis1) only [evD,Nat.reduceBEq,Nat.reduceAdd,Nat.reduceLeDiff,fldP,dT,dF,za,ziY,tab,List.getD_cons_zero,List.getD_cons_succ] | with_reducible intro _ | ((with_reducible apply And.intro);omega))
 refine zp (zm hsg rfl) ?_
 cases sg with
 |
  false =>
  rw [Bool.false_and]
  (repeat first | simp (disch:=try exact dis1) only [evD,Nat.reduceBEq,Nat.reduceAdd,Nat.reduceLeDiff,zed] | with_reducible intro _ | ((with_reducible apply And.intro);omega))
  exact ⟨_, .bool _ _,rfl⟩
 | true =>
 rw [Bool.true_and]
 generalize hR:(bl.all fun b=>decide (b.stmts.length≤12))=R
 (repeat first | simp (disch:=try exact dis1) only [evD,Nat.reduceBEq,Nat.reduceAdd,Nat.reduceLeDiff,fldP] | with_reducible intro _ | ((with_reducible apply And.intro);omega))
 refine zf (fun i:Nat=>([(2,encP 2 [.int .u32 ad,encL 2 Bl.cells bl]),(5, .int .i64 i)],[])) 0 (fun i=>i≤bl.length∧((bl.drop i).all fun b=>decide (b.stmts.length≤12))=R) (fun i=>bl.length - i) 0 ⟨Nat.zero_le _,hR⟩ (Ent.keep rfl fin5) ?_
 rintro i ⟨hi,hgo⟩ wf
 unfold zib
 by_cases hil:i < bl.length
 ·
  have hg:(bl.map Bl.cells).getD i []=[.int .u32 bl[i].addr,encL 8 St.cells bl[i].stmts]:=zz hil
  rw [List.drop_eq_getElem_cons hil,List.all_cons] at hgo
  by_cases h:12 < bl[i].stmts.length
  ·
   rw [decide_eq_false (by omega),Bool.false_and] at hgo
   rw [← hgo]
   (repeat first | simp (disch:=try exact dis1) only [evD,Nat.reduceBEq,Nat.reduceAdd,Nat.reduceLeDiff,fldP,dT,hg,zed] | with_reducible intro _ | ((with_reducible apply And.intro);omega))
   exact ⟨_, .bool _ _,rfl⟩
  ·
   rw [decide_eq_true (by omega),Bool.true_and] at hgo
   (repeat first | simp (disch:=try exact dis1) only [evD,Nat.reduceBEq,Nat.reduceAdd,Nat.reduceLeDiff,fldP,dT,dF,hg] | with_reducible intro _ | ((with_reducible apply And.intro);omega))
   exact ⟨i+1,⟨by omega,hgo⟩,by omega,Ent.keep rfl fin5⟩
 ·
  rw [List.drop_of_length_le (by omega)] at hgo
  rw [← hgo]
  (repeat first | simp (disch:=try exact dis1) only [evD,Nat.reduceBEq,Nat.reduceAdd,Nat.reduceLeDiff,fldP,dF] | with_reducible intro _ | ((with_reducible apply And.intro);omega))
  unfold zh4
  (repeat first | simp (disch:=try exact dis1) only [evD,Nat.reduceBEq,Nat.reduceAdd,Nat.reduceLeDiff,zed] | with_reducible intro _ | ((with_reducible apply And.intro);omega))
  exact ⟨_, .bool _ _,rfl⟩
mutual
theorem zvb:∀ (e:Ex) (m n:Int),0≤zgu e m n→(zc9 e:Int)+zgu e m n≤n
 |
  .mk _ _ _ _ l,m,n,h=>by
  rw [zgu] at h ⊢
  split
  ·
   rename_i hc
   rw [if_pos hc] at h
   omega
  ·
   rename_i hc
   rw [if_neg hc] at h
   have:=zkB l (m - 1) (n - 1) (by omega) h
   rw [zc9]
   omega
theorem zkB:∀ (l:List Ex) (m n:Int),0≤n→0≤zbR l m n→(zt l:Int)+zbR l m n≤n
 | [],m,n,_,h=>by rw [zbR] at h ⊢;rw [zt];omega
 |
  e::l,m,n,hn,h=>by
  rw [zbR,if_neg (by omega)] at h ⊢
  by_cases h0:zgu e m n < 0
  ·
   rw [zjt h0] at h
   omega
  ·
   have h1:=zvb e m n (by omega)
   have h2:=zkB l m _ (by omega) h
   rw [zt]
   omega
end
theorem zma:∀ {l:List St} {n:Int},0≤n→0≤zf7 l n→(zby 0 l:Int)+zf7 l n≤n∧∀ s∈l,s.e.length≤4∧s.cases.length≤100
 |
  [],n,hn,h=>by
  rw [zf7] at h ⊢
  exact ⟨by show ((0:Nat):Int)+n≤n;omega,fun s hs=>by cases hs⟩
 |
  s::l,n,hn,h=>by
  rw [zf7,if_neg (by omega)] at h ⊢
  by_cases h0:zqy s n < 0
  ·
   rw [ziP h0] at h
   omega
  ·
   obtain ⟨h2,h3⟩:=zma (l:=l) (n:=zqy s n) (by omega) h
   have e:(zby 0 (s::l):Int)=zt s.e+zby 0 l:=by
    show ((zt s.e+0+zby 0 l:Nat):Int)=_
    omega
   unfold zqy at h0 h2
   split at h0
   · omega
   ·
    rename_i hc
    rw [if_neg hc] at h2
    have h4:=zkB s.e 8 n hn (by omega)
    refine ⟨?_,fun t ht=>?_⟩
    ·
     rw [e]
     unfold zqy
     rw [if_neg hc]
     omega
    ·
     rcases List.mem_cons.1 ht with rfl | ht
     · omega
     · exact h3 t ht
def zj3 (bl:List Bl):Nat:=(bl.map fun b=>zby 0 b.stmts).sum
theorem zmG:∀ {l:List Bl} {n:Int},0≤n→0≤zf0 l n→(zj3 l:Int)+zf0 l n≤n∧∀ b∈l,∀ s∈b.stmts,s.e.length≤4∧s.cases.length≤100
 |
  [],n,hn,h=>by
  rw [zf0] at h ⊢
  exact ⟨by show ((0:Nat):Int)+n≤n;omega,fun s hs=>by cases hs⟩
 |
  b::l,n,hn,h=>by
  rw [zf0,if_neg (by omega)] at h ⊢
  by_cases h0:zrF b n < 0
  ·
   rw [zkH h0] at h
   omega
  ·
   obtain ⟨h2,h3⟩:=zmG (l:=l) (n:=zrF b n) (by omega) h
   have e:(zj3 (b::l):Int)=zby 0 b.stmts+zj3 l:=by
    unfold zj3
    rw [List.map_cons,List.sum_cons]
    omega
   unfold zrF at h0 h2
   split at h0
   · omega
   ·
    rename_i hc
    rw [if_neg hc] at h2
    obtain ⟨h4,h5⟩:=zma (l:=b.stmts) hn (by omega)
    refine ⟨?_,fun t ht=>?_⟩
    ·
     rw [e]
     unfold zrF
     rw [if_neg hc]
     omega
    ·
     rcases List.mem_cons.1 ht with rfl | ht
     · exact h5
     · exact h3 t ht
theorem zl3:∀ {bl:List Bl} {b:Bl},b∈bl→zby 0 b.stmts≤zj3 bl
 | [],b,h=>by cases h
 |
  x::l,b,h=>by
  have e:zj3 (x::l)=zby 0 x.stmts+zj3 l:=by unfold zj3;rw [List.map_cons,List.sum_cons]
  rcases List.mem_cons.1 h with rfl | h
  · omega
  · have:=zl3 h;omega
theorem zv4 {k:Nat}:∀ {l:List St},zby k l=zby 0 l+k * l.length
 | []=>by simp [zby]
 |
  s::l=>by
  have e1:zby k (s::l)=zt s.e+k+zby k l:=rfl
  have e2:zby 0 (s::l)=zt s.e+0+zby 0 l:=rfl
  rw [e1,e2,zv4 (l:=l),List.length_cons,Nat.mul_succ]
  omega
theorem zqb:∀ {l:List St} {s:St},s∈l→zt s.e≤zby 0 l
 | [],s,h=>by cases h
 |
  x::l,s,h=>by
  have e:zby 0 (x::l)=zt x.e+0+zby 0 l:=rfl
  rcases List.mem_cons.1 h with rfl | h
  · omega
  · have:=zqb h;omega
theorem zpv:∀ {l:List St},(l.flatMap zfD).length≤zby 0 l
 | []=>by simp [zby]
 |
  s::l=>by
  have e:zby 0 (s::l)=zt s.e+0+zby 0 l:=rfl
  have:=zpv (l:=l)
  have:=zlD s
  rw [List.flatMap_cons,List.length_append]
  omega
theorem zo1 {exit:List Int}:∀ {bl:List Bl},(univ exit bl).length≤exit.length+zj3 bl
 | []=>by simp [univ,zj3]
 |
  b::l=>by
  have h:=zo1 (exit:=exit) (bl:=l)
  have e:zj3 (b::l)=zby 0 b.stmts+zj3 l:=by unfold zj3;rw [List.map_cons,List.sum_cons]
  have:=zpv (l:=b.stmts)
  unfold univ at h ⊢
  rw [List.length_append] at h ⊢
  rw [List.flatMap_cons,List.length_append]
  omega
theorem zpZ {m:Nat}:∀ {l:List Bl},(∀ b∈l,b.stmts.length≤m)→zx l≤l.length * m
 | [],_=>by simp [zx]
 |
  b::l,h=>by
  have h1:=zpZ (l:=l) fun c hc=>h c (List.mem_cons_of_mem _ hc)
  have h2:=h b (by simp)
  simp only [zx,List.map_cons,List.sum_cons,List.length_cons] at h1 ⊢
  rw [Nat.succ_mul]
  omega
structure SmallP (g:G):Prop where
 blocks:g.blocks.length≤12
 stmts:∀ b∈g.blocks,b.stmts.length≤12
 parts:∀ b∈g.blocks,∀ s∈b.stmts,s.e.length≤4∧s.cases.length≤100
 size:zj3 g.blocks≤20000
theorem zmg {g:G} {exit:List Int} (h:zph g exit=true):SmallP g∧exit.length≤20:=by
 unfold zph zp5 at h
 simp only [Bool.and_eq_true,decide_eq_true_eq,List.all_eq_true] at h
 obtain ⟨h1,h2,⟨_,h3⟩,h4⟩:=h
 obtain ⟨h5,h6⟩:=zmG (n:=20000) (by omega) h3
 exact ⟨⟨h1,h4,h6,by omega⟩,h2⟩
theorem SmallP.few {g:G} (h:SmallP g):fewB g:=⟨by have:=h.blocks;omega,fun b hb=>by have:=h.stmts b hb;omega⟩
theorem SmallP.cnt {g:G} (h:SmallP g):zx g.blocks≤144:=by
 have h1:=zpZ h.stmts
 have h2:=h.blocks
 have:g.blocks.length * 12≤12 * 12:=Nat.mul_le_mul_right 12 h2
 omega
theorem SmallP.good {g:G} {exit:List Int} (h:SmallP g) (he:exit.length≤40):GoodB (univ exit g.blocks) exit g.blocks:=by
 have hs:=h.size
 have hu:=zo1 (exit:=exit) (bl:=g.blocks)
 refine ⟨fun x hx=>List.mem_append_left _ hx,fun b hb s hs=>zuv hb hs,fun b hb s hm=>?_,fun b hb=>?_,by have:=h.cnt;omega,by have:=h.blocks;omega⟩
 ·
  have h1:=zqb hm
  have h2:=zl3 hb
  have h3:=(h.parts b hb s hm).2
  exact ⟨by omega,by omega⟩
 ·
  have h1:=zv4 (k:=exit.length) (l:=b.stmts)
  have h2:=zl3 hb
  have h3:=h.stmts b hb
  have h4:exit.length * b.stmts.length≤40 * 12:=Nat.mul_le_mul he h3
  omega
def exV (v:Int):Ex:=.mk 2 0 v 0 []
def exC (n:Int):Ex:=.mk 1 n 0 0 []
def ztR (v:Int) (e:Ex):St:=⟨1,v,0,0,0,0,[e],[]⟩
def exE1:G:=⟨0,[⟨0,[ztR 12 (exV 1),ztR 13 (exV 12),ztR 0 (exC 1),⟨9,0,0,0,0,0,[],[]⟩]⟩]⟩
def exE1d:G:=⟨0,[⟨0,[ztR 0 (exC 1),⟨9,0,0,0,0,0,[],[]⟩]⟩]⟩
def exE2:G:=⟨0,[⟨0,[ztR 12 (.mk 18 0 0 4 [exV 1]),⟨10,0,0,0,0,0,[],[]⟩]⟩]⟩
def exSt:St:=ztR 1 (.mk 3 0 0 0 [exV 1, .mk 18 0 0 4 [exV 2]])
theorem zkE:SmallP exE1:=(zmg (exit:=[0,7]) (by decide)).1
theorem znp:SmallP exE2:=(zmg (exit:=[]) (by decide)).1
theorem zuU:zxm exE1 [0,7]=.tup [.agg (G.cells exE1d), .int .i64 2, .int .i64 0]:=by kernel_rfl
theorem zu0:zxm exE2 []=.tup [.agg (G.cells exE2), .int .i64 0, .int .i64 0]:=by kernel_rfl
theorem zvc:AV.tup [zkp (zgA [0,7] exE1.blocks),zkp (outsL [0,7] exE1.blocks)]=.tup [zkp [[1,7]],zkp [[]]]:=by kernel_rfl
theorem zvF:za (zfD exSt)=za [1,2]:=by kernel_rfl
def zyD:List Memo:=[⟨zel,[.agg exE1.cells,za [0,7]], .tup [.agg (G.cells exE1d), .int .i64 2, .int .i64 0]⟩,⟨zf4,[.agg exE1.cells,za [0,7]], .tup [zkp [[1,7]],zkp [[]]]⟩,
 ⟨zek,[.agg exSt.cells],za [1,2]⟩,⟨zel,[.agg exE2.cells,za []], .tup [.agg (G.cells exE2), .int .i64 0, .int .i64 0]⟩]
theorem zvp:∀ e∈zyD,zE Try.prog e.f e.args (·=e.res):=by
 have h1:=zhF exE1 [0,7] _ (zkE.good (by decide)) zkE.few
 have h2:=zlu exE1 [0,7] _ (zkE.good (exit:=[0,7]) (by decide)).univ
 have h3:=zhG exSt (by decide)
 have h4:=zhF exE2 [] _ (znp.good (by decide)) znp.few
 rw [zuU] at h1
 rw [zvc] at h2
 rw [zvF] at h3
 rw [zu0] at h4
 intro e he
 unfold zyD at he
 simp only [List.mem_cons,List.not_mem_nil,or_false] at he
 rcases he with rfl | rfl | rfl | rfl
 · exact h1
 · exact h2
 · exact h3
 · exact h4
def q25:FuncId→Nat→List Nat:=qTabK [(zc5,([19,21,25,32,45,47,78,79,84,90,96,109,111,114],[3583],[])),
 (zlT,([],[67126323],[])),
 (zm9,([],[33571891],[])),
 (zer,([],[1031],[])),
 (zwo,([7],[27],[])),
 (zu3,([],[5],[])),
 (zrG,([],[5],[])),
 (zv8,([10],[119],[])),
 (ztD,([7],[27],[])),
 (zhl,([],[33571891],[])),
 (zdU,([],[17768111],[])),
 (zaM,([],[5],[])),
 (zal,([],[17596514574653],[])),
 (zO,([],[10384593871817177683247510831234831],[])),
 (zdc,([],[5],[])),
 (zU,([],[1073746119],[])),
 (zdu,([],[16661],[]))]
theorem zjk:zE Try.prog zc5 [] (·=.bool true):=zsP (qf:=q25) (zlY zrC zvp) 3000 (by kernel_rfl)
def zfv:ACode:=.seq (.region [ (oN 1 (.rbox (.t 0))),(oN 2 (.mov (.c (.bool false))))] [0,2]) (.seq (.seq (.region [ (oN 3 (.load true 2 (.t 1))),(oN 4 (.call zjp [(.t 3),(.c (.nilsl))])),(oN 5 (.un .not (.t 4)))] [3,4]) (.cond (.t 5) (.seq (.region [ (oN 6 (.call zc5 [])),(oN 2 (.mov (.t 6)))] [1,5,6]) (.ret)) (.skip))) (.seq (.draw ( .step (oN 7 (.load true 2 (.t 1))) ( .step (oN 8 (.callq zdU [(.t 7)])) ( .step (oN 9 (.load true 2 (.t 1))) ( .step (oN 10 (.callq zjr [(.t 9)])) ( .step (oN 11 (.callq zhl [(.t 8),(.t 10)])) ( .step (oN 12 (.mov (.t 11))) ( .step (oG 13 12 true (.callq zc5 [])) ( .step (oN 14 (.pick (.t 12) (.t 13) (.c (.bool false)))) ( .step (oN 2 (.mov (.t 14))) ( .done)))))))))) [1,5,7,8,9,10,11,12,13,14]) (.ret)))
def zdG:List ARet:=[.tmp 2]
theorem zi1:zac Try.prog zfV (qRo [1])=some (zfv.strip,zdG,15):=by kernel_rfl
def tgS (l:List St):List Int:=(l.filter fun s=>decide (s.op=5)).map (·.tgt)
def tgB (l:List Bl):List Int:=l.flatMap fun b=>tgS b.stmts
theorem zrt {l:List St}:(tgS l).length≤l.length:=by
 unfold tgS
 rw [List.length_map]
 exact List.length_filter_le _ _
theorem zuA {l:List St} {k:Nat} (hk:k < l.length) (h:l[k].op=5):tgS (l.take (k+1))=tgS (l.take k)++[l[k].tgt]:=by
 unfold tgS
 rw [List.take_add_one,List.getElem?_eq_getElem hk,List.filter_append]
 simp [h]
theorem zyz {l:List St} {k:Nat} (hk:k < l.length) (h:¬ l[k].op=5):tgS (l.take (k+1))=tgS (l.take k):=by
 unfold tgS
 rw [List.take_add_one,List.getElem?_eq_getElem hk,List.filter_append]
 simp [h]
theorem zsA {l:List Bl} {i:Nat} (hi:i < l.length):tgB (l.take (i+1))=tgB (l.take i)++tgS l[i].stmts:=by
 unfold tgB
 rw [List.take_add_one,List.getElem?_eq_getElem hi,List.flatMap_append]
 simp
theorem zoH:∀ {l:List Bl} {n:Nat},(∀ b∈l,b.stmts.length≤n)→(tgB l).length≤l.length * n
 | [],_,_=>by simp [tgB]
 |
  b::l,n,h=>by
  have ih:=zoH (l:=l) (n:=n) fun x hx=>h x (List.mem_cons_of_mem _ hx)
  have h1:=zrt (l:=b.stmts)
  have h2:=h b (by simp)
  unfold tgB at ih ⊢
  rw [List.flatMap_cons,List.length_append,List.length_cons,Nat.succ_mul]
  omega
theorem zyC {ρ:Nat→Nat} {l:List Int} {g:Nat}:AObj.ren ρ (.row 1 (l.map cW) g)=.row 1 (l.map cW) g:=by
 simp only [AObj.ren]
 rw [zfO (ze fun _=>rfl)]
theorem zkM (g:G) (hb:(tgB g.blocks).length≤250) (hbl:g.blocks.length≤1000) (hst:∀ b∈g.blocks,b.stmts.length≤1000) :
  zE Try.prog zdU [.agg g.cells] (·=encL 1 cW (zbf (zcd (tgB g.blocks)))):=by
 refine fn_x zkL rfl ?_
 unfold zg8
 have hB:=hBig
 obtain ⟨ad,bl⟩:=g
 simp only at hb hbl hst
 unfold G.cells
 simp only
 (repeat first | simp (disch:=try exact dis1) only [evD,Nat.reduceBEq,Nat.reduceAdd,Nat.reduceLeDiff,fldP,ziY] | with_reducible intro _ | ((with_reducible apply And.intro);omega))
 refine zf (fun i:Nat=>([(3, .own 0 0 0 0 (tgB (bl.take i)).length),(9,encL 2 Bl.cells bl),(10, .int .i64 bl.length),(11, .int .i64 i)],[(0, .row 1 ((tgB (bl.take i)).map cW) 0)])) 1 (fun i=>i≤bl.length) (fun i=>bl.length - i) 0 (Nat.zero_le _) (Ent.tab [(0,1,0)] [] rfl (by (try simp only [evWB,Nat.reduceBEq,Nat.reduceAdd,Nat.reduceSub,Nat.reduceLeDiff,Nat.reduceLT,implies_true,List.take_zero,tgB,List.flatMap_nil])<;>exact fin2) (by (try simp only [evWB,Nat.reduceBEq,Nat.reduceAdd,Nat.reduceSub,Nat.reduceLeDiff,Nat.reduceLT,implies_true,List.take_zero,tgB,List.flatMap_nil])<;>exact fin2)) ?_
 rintro i hi wf
 unfold zfo
 by_cases hil:i < bl.length
 ·
  have hg:(bl.map Bl.cells).getD i []=[.int .u32 bl[i].addr,encL 8 St.cells bl[i].stmts]:=zz hil
  have hsl:=hst _ (List.getElem_mem hil)
  have hstep:=zsA hil
  have hle:(tgB (bl.take i)).length≤250000+1000000:=by
   have:=zoH (l:=bl.take i) (n:=1000) fun b hb=>hst b (List.mem_of_mem_take hb)
   rw [List.length_take] at this
   have:min i bl.length * 1000≤1000 * 1000:=Nat.mul_le_mul_right _ (by omega)
   omega
  (repeat first | simp (disch:=try exact dis1) only [evD,Nat.reduceBEq,Nat.reduceAdd,Nat.reduceLeDiff,fldP,ziY,dT,dF,hg] | with_reducible intro _ | ((with_reducible apply And.intro);omega))
  refine zf (fun k:Nat=>([(3, .own 0 0 0 0 (tgB (bl.take i)++tgS (bl[i].stmts.take k)).length),(9,encL 2 Bl.cells bl),(10, .int .i64 bl.length),(11, .int .i64 i),(16,encL 8 St.cells bl[i].stmts),(17, .int .i64 bl[i].stmts.length),(18, .int .i64 k)],[(0, .row 1 ((tgB (bl.take i)++tgS (bl[i].stmts.take k)).map cW) 0)])) 1 (fun k=>k≤bl[i].stmts.length) (fun k=>bl[i].stmts.length - k) 0 (Nat.zero_le _) (Ent.tab [(0,0,0)] [] rfl (by (try simp only [evWB,Nat.reduceBEq,Nat.reduceAdd,Nat.reduceSub,Nat.reduceLeDiff,Nat.reduceLT,implies_true,List.take_zero,tgS,List.filter_nil,List.map_nil,List.append_nil])<;>exact fin2) (by (try simp only [evWB,Nat.reduceBEq,Nat.reduceAdd,Nat.reduceSub,Nat.reduceLeDiff,Nat.reduceLT,implies_true,List.take_zero,tgS,List.filter_nil,List.map_nil,List.append_nil])<;>exact fin2)) ?_
  rintro k hk wf2
  unfold zfw
  by_cases hkl:k < bl[i].stmts.length
  ·
   have hg2:(bl[i].stmts.map St.cells).getD k []=[.int .i64 bl[i].stmts[k].op, .int .i64 bl[i].stmts[k].var, .int .i64 bl[i].stmts[k].width, .int .i64 bl[i].stmts[k].next, .int .i64 bl[i].stmts[k].els, .int .u32 bl[i].stmts[k].tgt,encL 5 encX bl[i].stmts[k].e,za bl[i].stmts[k].cases]:=zz (f:=St.cells) (d:=[]) hkl
   have hle2:(tgS (bl[i].stmts.take k)).length≤1000:=by
    have:=zrt (l:=bl[i].stmts.take k)
    rw [List.length_take] at this
    omega
   by_cases h5:bl[i].stmts[k].op=5
   ·
    have hy:=zuA hkl h5
    have htk:((tgB (bl.take i)++tgS (bl[i].stmts.take k)).map cW).take ((tgB (bl.take i)).length+(tgS (bl[i].stmts.take k)).length)=(tgB (bl.take i)++tgS (bl[i].stmts.take k)).map cW:=List.take_of_length_le (by simp)
    (repeat first | simp (disch:=try exact dis1) only [evD,Nat.reduceBEq,Nat.reduceAdd,Nat.reduceLeDiff,fldP,ziY,dT,dF,hg2,htk,List.length_map,List.length_append] | with_reducible intro _ | ((with_reducible apply And.intro);omega))
    exact ⟨k+1,by omega,by omega,(Ent.tab [(0,0,1)] [] rfl (by (try simp only [evWB,Nat.reduceBEq,Nat.reduceAdd,Nat.reduceSub,Nat.reduceLeDiff,Nat.reduceLT,implies_true,hy,List.length_append,List.length_singleton,List.map_append,List.map_cons,List.map_nil,List.append_assoc,Nat.add_assoc,cW])<;>exact fin2) (by (try simp only [evWB,Nat.reduceBEq,Nat.reduceAdd,Nat.reduceSub,Nat.reduceLeDiff,Nat.reduceLT,implies_true,hy,List.length_append,List.length_singleton,List.map_append,List.map_cons,List.map_nil,List.append_assoc,Nat.add_assoc,cW])<;>exact fin2))⟩
   ·
    have hy:=zyz hkl h5
    (repeat first | simp (disch:=try exact dis1) only [evD,Nat.reduceBEq,Nat.reduceAdd,Nat.reduceLeDiff,fldP,ziY,dT,dF,hg2] | with_reducible intro _ | ((with_reducible apply And.intro);omega))
    exact ⟨k+1,by omega,by omega,(Ent.tab [(0,0,0)] [] rfl (by (try simp only [evWB,Nat.reduceBEq,Nat.reduceAdd,Nat.reduceSub,Nat.reduceLeDiff,Nat.reduceLT,implies_true,hy])<;>exact fin2) (by (try simp only [evWB,Nat.reduceBEq,Nat.reduceAdd,Nat.reduceSub,Nat.reduceLeDiff,Nat.reduceLT,implies_true,hy])<;>exact fin2))⟩
  ·
   obtain rfl:k=bl[i].stmts.length:=by omega
   (repeat first | simp (disch:=try exact dis1) only [evD,Nat.reduceBEq,Nat.reduceAdd,Nat.reduceLeDiff,dF] | with_reducible intro _ | ((with_reducible apply And.intro);omega))
   unfold zfx
   (repeat first | simp (disch:=try exact dis1) only [evD,Nat.reduceBEq,Nat.reduceAdd,Nat.reduceLeDiff,dF] | with_reducible intro _ | ((with_reducible apply And.intro);omega))
   exact ⟨i+1,by omega,by omega,(Ent.tab [(0,0,0)] [] rfl (by (try simp only [evWB,Nat.reduceBEq,Nat.reduceAdd,Nat.reduceSub,Nat.reduceLeDiff,Nat.reduceLT,implies_true,hstep,List.take_length])<;>exact fin2) (by (try simp only [evWB,Nat.reduceBEq,Nat.reduceAdd,Nat.reduceSub,Nat.reduceLeDiff,Nat.reduceLT,implies_true,hstep,List.take_length])<;>exact fin2))⟩
 ·
  obtain rfl:i=bl.length:=by omega
  rw [List.take_length]
  (repeat first | simp (disch:=try exact dis1) only [evD,Nat.reduceBEq,Nat.reduceAdd,Nat.reduceLeDiff,dF] | with_reducible intro _ | ((with_reducible apply And.intro);omega))
  unfold zfz
  have hs:=zxb (tgB bl) 0 hb
  (repeat first | simp (disch:=try exact dis1) only [evD,Nat.reduceBEq,Nat.reduceAdd,Nat.reduceLeDiff,dF] | with_reducible intro _ | ((with_reducible apply And.intro);omega))
  refine zw [(0,0,0)] 1 _ (hs) rfl rfl fin9 fin9 ?_
  rintro v H nx ⟨rfl,rfl,rfl⟩
  have hlen:(zcd (tgB bl)).length=(tgB bl).length:=(zZ _).length_eq
  have hc:=zn5 (zcd (tgB bl)) 0 (by omega)
  rw [hlen] at hc
  (repeat first | simp (disch:=try exact dis1) only [evD,Nat.reduceBEq,Nat.reduceAdd,Nat.reduceLeDiff,zyC] | with_reducible intro _ | ((with_reducible apply And.intro);omega))
  refine zw [(0,0,0)] 1 _ (hc) rfl rfl fin9 fin9 ?_
  rintro v H nx ⟨m,rfl,rfl,rfl⟩
  have hcl:(zbf (zcd (tgB bl))).length≤(zcd (tgB bl)).length:=zny
  (repeat first | simp (disch:=try exact dis1) only [evD,Nat.reduceBEq,Nat.reduceAdd,Nat.reduceLeDiff,zyC,zg6] | with_reducible intro _ | ((with_reducible apply And.intro);omega))
  exact ⟨_,zxM trivial rfl (by omega),rfl⟩
theorem znY (g:G) (hbl:g.blocks.length≤1000) (hst:∀ b∈g.blocks,b.stmts.length≤100) :
  zE Try.prog zjr [.agg g.cells] (·=encL 1 cW (zcf [] (tgB g.blocks))):=by
 refine fn_x zpb rfl ?_
 unfold zkX
 have hB:=hBig
 obtain ⟨ad,bl⟩:=g
 simp only at hbl hst
 unfold G.cells
 simp only
 (repeat first | simp (disch:=try exact dis1) only [evD,Nat.reduceBEq,Nat.reduceAdd,Nat.reduceLeDiff,fldP] | with_reducible intro _ | ((with_reducible apply And.intro);omega))
 refine zf (fun i:Nat=>([(1,encP 2 [.int .u32 ad,encL 2 Bl.cells bl]),(3,encL 1 cW (zcf [] (tgB (bl.take i)))),(4, .int .i64 i)],[])) 0 (fun i=>i≤bl.length) (fun i=>bl.length - i) 0 (Nat.zero_le _) (Ent.tab [] [0,1] rfl trivial ⟨zaF rfl,vw_W (l:=[]) rfl rfl (by decide),zaF rfl,trivial⟩) ?_
 rintro i hi wf
 unfold ziz
 have hub:∀ {m:List Int},(zcf [] m).length≤m.length:=fun {m}=>by
  have:∀ (m a:List Int),(zcf a m).length≤a.length+m.length:=fun m=>by
   induction m with
   | nil=>intro a;simp [zcf]
   |
    cons x m ih =>
    intro a
    have h1:=ih (insU x a)
    have h2:(insU x a).length≤a.length+1:=zos
    unfold zcf at h1 ⊢
    simp only [List.foldl_cons,List.length_cons]
    omega
  have h:=this m []
  simpa using h
 have hus:∀ {m:List Int} {x:Int},zcf [] (m++[x])=insU x (zcf [] m):=fun {m x}=>by unfold zcf;rw [List.foldl_append];rfl
 have hle:(tgB (bl.take i)).length≤100000:=by
  have:=zoH (l:=bl.take i) (n:=100) fun b hb=>hst b (List.mem_of_mem_take hb)
  rw [List.length_take] at this
  have:min i bl.length * 100≤1000 * 100:=Nat.mul_le_mul_right _ (by omega)
  omega
 by_cases hil:i < bl.length
 ·
  have hg:(bl.map Bl.cells).getD i []=[.int .u32 bl[i].addr,encL 8 St.cells bl[i].stmts]:=zz hil
  have hsl:=hst _ (List.getElem_mem hil)
  have hstep:=zsA hil
  (repeat first | simp (disch:=try exact dis1) only [evD,Nat.reduceBEq,Nat.reduceAdd,Nat.reduceLeDiff,fldP,dT,dF] | with_reducible intro _ | ((with_reducible apply And.intro);omega))
  refine zf (fun k:Nat=>([(1,encP 2 [.int .u32 ad,encL 2 Bl.cells bl]),(3,encL 1 cW (zcf [] (tgB (bl.take i)++tgS (bl[i].stmts.take k)))),(4, .int .i64 i),(5, .int .i64 k)],[])) 0 (fun k=>k≤bl[i].stmts.length) (fun k=>bl[i].stmts.length - k) 0 (Nat.zero_le _) (Ent.tab [] [] rfl (by (try simp only [evWB,Nat.reduceBEq,Nat.reduceAdd,Nat.reduceSub,Nat.reduceLeDiff,Nat.reduceLT,implies_true,List.take_zero,tgS,List.filter_nil,List.map_nil,List.append_nil])<;>exact fin2) (by (try simp only [evWB,Nat.reduceBEq,Nat.reduceAdd,Nat.reduceSub,Nat.reduceLeDiff,Nat.reduceLT,implies_true,List.take_zero,tgS,List.filter_nil,List.map_nil,List.append_nil])<;>exact fin2)) ?_
  rintro k hk wf2
  unfold ziA
  by_cases hkl:k < bl[i].stmts.length
  ·
   have hg2:(bl[i].stmts.map St.cells).getD k []=[.int .i64 bl[i].stmts[k].op, .int .i64 bl[i].stmts[k].var, .int .i64 bl[i].stmts[k].width, .int .i64 bl[i].stmts[k].next, .int .i64 bl[i].stmts[k].els, .int .u32 bl[i].stmts[k].tgt,encL 5 encX bl[i].stmts[k].e,za bl[i].stmts[k].cases]:=zz (f:=St.cells) (d:=[]) hkl
   have hle2:(tgS (bl[i].stmts.take k)).length≤1000:=by
    have:=zrt (l:=bl[i].stmts.take k)
    rw [List.length_take] at this
    omega
   by_cases h5:bl[i].stmts[k].op=5
   ·
    have hy:=zuA hkl h5
    have hu:=hub (m:=tgB (bl.take i)++tgS (bl[i].stmts.take k))
    rw [List.length_append] at hu
    (repeat first | simp (disch:=try exact dis1) only [evD,Nat.reduceBEq,Nat.reduceAdd,Nat.reduceLeDiff,fldP,ziY,dT,dF,hg,hg2] | with_reducible intro _ | ((with_reducible apply And.intro);omega))
    refine zp (zm (zok (zcf [] (tgB (bl.take i)++tgS (bl[i].stmts.take k))) bl[i].stmts[k].tgt (by omega)) rfl) ?_
    (repeat first | simp (disch:=try exact dis1) only [evD,Nat.reduceBEq,Nat.reduceAdd,Nat.reduceLeDiff] | with_reducible intro _ | ((with_reducible apply And.intro);omega))
    exact ⟨k+1,by omega,by omega,(Ent.tab [] [] rfl (by (try simp only [evWB,Nat.reduceBEq,Nat.reduceAdd,Nat.reduceSub,Nat.reduceLeDiff,Nat.reduceLT,implies_true,hy,← hus,List.append_assoc])<;>exact fin2) (by (try simp only [evWB,Nat.reduceBEq,Nat.reduceAdd,Nat.reduceSub,Nat.reduceLeDiff,Nat.reduceLT,implies_true,hy,← hus,List.append_assoc])<;>exact fin2))⟩
   ·
    have hy:=zyz hkl h5
    (repeat first | simp (disch:=try exact dis1) only [evD,Nat.reduceBEq,Nat.reduceAdd,Nat.reduceLeDiff,fldP,ziY,dT,dF,hg,hg2] | with_reducible intro _ | ((with_reducible apply And.intro);omega))
    exact ⟨k+1,by omega,by omega,(Ent.tab [] [] rfl (by (try simp only [evWB,Nat.reduceBEq,Nat.reduceAdd,Nat.reduceSub,Nat.reduceLeDiff,Nat.reduceLT,implies_true,hy])<;>exact fin2) (by (try simp only [evWB,Nat.reduceBEq,Nat.reduceAdd,Nat.reduceSub,Nat.reduceLeDiff,Nat.reduceLT,implies_true,hy])<;>exact fin2))⟩
  ·
   obtain rfl:k=bl[i].stmts.length:=by omega
   (repeat first | simp (disch:=try exact dis1) only [evD,Nat.reduceBEq,Nat.reduceAdd,Nat.reduceLeDiff,fldP,ziY,dT,dF,hg] | with_reducible intro _ | ((with_reducible apply And.intro);omega))
   unfold ziq
   (repeat first | simp (disch:=try exact dis1) only [evD,Nat.reduceBEq,Nat.reduceAdd,Nat.reduceLeDiff,dF] | with_reducible intro _ | ((with_reducible apply And.intro);omega))
   exact ⟨i+1,by omega,by omega,(Ent.tab [] [] rfl (by (try simp only [evWB,Nat.reduceBEq,Nat.reduceAdd,Nat.reduceSub,Nat.reduceLeDiff,Nat.reduceLT,implies_true,hstep,List.take_length])<;>exact fin2) (by (try simp only [evWB,Nat.reduceBEq,Nat.reduceAdd,Nat.reduceSub,Nat.reduceLeDiff,Nat.reduceLT,implies_true,hstep,List.take_length])<;>exact fin2))⟩
 ·
  obtain rfl:i=bl.length:=by omega
  rw [List.take_length]
  (repeat first | simp (disch:=try exact dis1) only [evD,Nat.reduceBEq,Nat.reduceAdd,Nat.reduceLeDiff,fldP,dT,dF] | with_reducible intro _ | ((with_reducible apply And.intro);omega))
  unfold ziC
  (repeat first | simp (disch:=try exact dis1) only [evD,Nat.reduceBEq,Nat.reduceAdd,Nat.reduceLeDiff,zk0] | with_reducible intro _ | ((with_reducible apply And.intro);omega))
  exact ⟨_,zaF rfl,rfl⟩
theorem L25_LivenessCalls_ok (g:G):zE Try.prog zfV [.agg g.cells] (·=.bool true):=by
 refine fn_x zi1 rfl ?_
 unfold zfv
 have hB:=hBig
 have hsm:=zqe g []
 have hex:=zjk
 cases hs:zph g [] with
 |
  false =>
  rw [hs] at hsm
  obtain ⟨ad,bl⟩:=g
  simp only [G.cells] at hsm ⊢
  (repeat first | simp (disch:=try exact dis1) only [evD,Nat.reduceBEq,Nat.reduceAdd,Nat.reduceLeDiff,fldP,ziY,tab,List.getD_cons_zero,List.getD_cons_succ] | with_reducible intro _ | ((with_reducible apply And.intro);omega))
  refine zp (zaQ (D:=noR) hsm (.cons (zaF rfl) (.cons (.nil0 _ _ _) .nil)) (.inl rfl)) ?_
  (repeat first | simp (disch:=try exact dis1) only [evD,Nat.reduceBEq,Nat.reduceAdd,Nat.reduceLeDiff] | with_reducible intro _ | ((with_reducible apply And.intro);omega))
  refine zp (zm hex rfl) ?_
  (repeat first | simp (disch:=try exact dis1) only [evD,Nat.reduceBEq,Nat.reduceAdd,Nat.reduceLeDiff,zdG] | with_reducible intro _ | ((with_reducible apply And.intro);omega))
  exact ⟨_, .bool _ _,rfl⟩
 |
  true =>
  rw [hs] at hsm
  obtain ⟨hp,_⟩:=zmg hs
  have hbl:=hp.blocks
  have hln:(tgB g.blocks).length≤250:=by
   have:=zoH (l:=g.blocks) (n:=12) fun b hb=>hp.stmts b hb
   have:g.blocks.length * 12≤12 * 12:=Nat.mul_le_mul_right _ hbl
   omega
  have h1:=zkM g hln (by omega) (fun b hb=>by have:=hp.stmts b hb;omega)
  have h2:=znY g (by omega) (fun b hb=>by have:=hp.stmts b hb;omega)
  have he:zbf (zcd (tgB g.blocks))=zcf [] (tgB g.blocks):=zkZ _ _ (zeh .nil) (fun x=>by rw [zeg];simp)
  rw [he] at h1
  obtain ⟨ad,bl⟩:=g
  simp only [G.cells] at hsm h1 h2 ⊢
  generalize zcf [] (tgB bl)=m at h1 h2
  (repeat first | simp (disch:=try exact dis1) only [evD,Nat.reduceBEq,Nat.reduceAdd,Nat.reduceLeDiff,fldP,ziY,tab,List.getD_cons_zero,List.getD_cons_succ] | with_reducible intro _ | ((with_reducible apply And.intro);omega))
  refine zp (zaQ (D:=noR) hsm (.cons (zaF rfl) (.cons (.nil0 _ _ _) .nil)) (.inl rfl)) ?_
  (repeat first | simp (disch:=try exact dis1) only [evD,Nat.reduceBEq,Nat.reduceAdd,Nat.reduceLeDiff,fldP,ziY,tab,List.getD_cons_zero,List.getD_cons_succ] | with_reducible intro _ | ((with_reducible apply And.intro);omega))
  refine zab (zm h1 rfl) ?_
  (repeat first | simp (disch:=try exact dis1) only [evD,Nat.reduceBEq,Nat.reduceAdd,Nat.reduceLeDiff,fldP,ziY,tab,List.getD_cons_zero,List.getD_cons_succ] | with_reducible intro _ | ((with_reducible apply And.intro);omega))
  refine zab (zm h2 rfl) ?_
  (repeat first | simp (disch:=try exact dis1) only [evD,Nat.reduceBEq,Nat.reduceAdd,Nat.reduceLeDiff] | with_reducible intro _ | ((with_reducible apply And.intro);omega))
  refine zab (zm (zpD m) rfl) ?_
  (repeat first | simp (disch:=try exact dis1) only [evD,Nat.reduceBEq,Nat.reduceAdd,Nat.reduceLeDiff] | with_reducible intro _ | ((with_reducible apply And.intro);omega))
  refine zab (zm hex rfl) ?_
  (repeat first | simp (disch:=try exact dis1) only [evD,Nat.reduceBEq,Nat.reduceAdd,Nat.reduceLeDiff,zdG] | with_reducible intro _ | ((with_reducible apply And.intro);omega))
  exact ⟨_, .bool _ _,rfl⟩
end Go.Ab
