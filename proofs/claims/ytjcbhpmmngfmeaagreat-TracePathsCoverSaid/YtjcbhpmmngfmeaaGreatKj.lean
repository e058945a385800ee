/-
  Part 10 of the proof: how the calls of this program run, over values instead of memory, and what each function computes.
-/
import Derived.KernelRfl
import Derived.Test.YtjcbhpmmngfmeaaGreatKi
set_option maxRecDepth 100000
set_option linter.unusedVariables false
set_option linter.unusedSimpArgs false
set_option linter.unnecessarySimpa false
set_option linter.unusedSectionVars false
open Nat renaming le_refl→Wa,zero_le→We,zero_add→WD,add_sub_cancel→W3
open List renaming getElem?_eq_getElem→Wc,getD_eq_getElem?_getD→Wd,append_nil→Wf,range→Wg,replicate→Wh,take_length→Wi,map_take→Wj,getElem_mem→Wk,length_take→Wl,drop_of_length_le→Wm,mem_map→Wn,cons_append→Wp,nil_append→Wq,drop_eq_getElem_cons→Wr,length_map→Ws,map_append→Wt,map_replicate→Wu,map_cons→Wv,mem_filter→Wx,take_add_one→Wy,filter→Wz,mem_append→WA,all_cons→WB,eq_nil_of_length_eq_zero→WC,getElem_append_left→WE,getLast?_eq_getElem?→WF,pairwise_iff_getElem→WG,take_left→WH,filter_append→WJ,nodup_append→WK,length_filter_le→WL,findIdx?_eq_some_iff_getElem→WM,findIdx?_eq_none_iff→WN,mem_iff_getElem→WO,getElem?_append_right→WP,getElem?_drop→WQ,set_append_right→WR,set_cons_zero→WS,filter_eq_self→WU,length_append→WW,take_append_drop→WX,take_append_of_le_length→WY,map_congr_left→WZ,nodup_iff_pairwise_ne→W0,mem_singleton→W5
open Bool renaming and_eq_true→Wo,false_eq_true→WV
open And renaming intro→Ww
open Int renaming toNat_natCast→WI
namespace Go.Ab
open Go.RowKit Go.Proofs
def zg1:ACode:=.seq (.region [ Yab,Yaj] [0,2]) (.seq (.region [ (oA 3 2 1),(oN 4 (.call zf5 [(.t 3)])),(oN 5 (.call zcM [(.t 4),(.c (.int .i64 0))])),(oM 2 5)] [1,3,4,5]) (.ret))
def zdS:List ARet:=[.tmp 2]
theorem zlF:zT Tryz.prog zeH (qRo [1])=some (zg1.strip,zdS,6):=by kernel_rfl
def zc8:ACode:=.seq (.region [ (oB 14 .lss 13 12)] []) (.seq (.cond (.t 14) (.skip) (.exit 0)) (.seq (.block 1 (.seq (.region [ (oI 15 1 11 13),(oL 16 15),(oM 5 16)] [14,15,16]) (.region [ (oM 17 3),(oM 18 5),(oI 19 1 17 18),⟨none,.store 1 (.t 19) (.c (.bool true)),none⟩] [5,17,18,19]))) (.region [ (oC 20 .add 13 1),(oM 13 20)] [20])))
def zdg:ACode:=.seq (.region [ (oM 21 3),(oM 2 21)] [3,11,12,13,21]) (.ret)
def zes:ACode:=.seq (.region [ Yab,Yaj] [0,2]) (.seq (.region [ (oF 6 1 1 1),(oL 7 6),(oE 8 7),(oN 9 (.mksl 1 1 [.bool false] (.t 8) (.t 8))),(oM 3 9)] [6,7,8,9]) (.seq (.seq (.region [ (oA 10 2 1),(oN 11 (.call zeH [(.t 10)])),(oE 12 11),(oK 13 0)] [1,10]) (.block 0 (.loop zc8))) (zdg)))
def zew:List ARet:=[.tmp 2]
theorem ziQ:zT Tryz.prog zcD (qRo [1])=some (zes.strip,zew,22):=by kernel_rfl
def zgw:ACode:=.seq (.region [ (oB 13 .lss 12 11)] []) (.seq (.cond (.t 13) (.skip) (.exit 0)) (.seq (.block 1 (.seq (.region [ (oM 14 12),(oM 4 14)] [13,14]) (.region [ (oM 15 3),(oM 16 4),(oA 17 2 1),(oM 18 4),(oN 19 (.call zex [(.t 17),(.t 18)])),(oI 20 1 15 16),(oS 1 20 19)] [4,15,16,17,18,19,20]))) (.region [ (oC 21 .add 12 1),(oM 12 21)] [21])))
def zgK:ACode:=.seq (.region [ (oM 22 3),(oM 2 22)] [1,3,11,12,22]) (.ret)
def zix:ACode:=.seq (.region [ Yab,Yaj] [0,2]) (.seq (.region [ (oF 5 1 1 1),(oL 6 5),(oE 7 6),(oN 8 (.mksl 1 24 [.nilsl] (.t 7) (.t 7))),(oM 3 8)] [5,6,7,8]) (.seq (.seq (.region [ (oF 9 1 1 1),(oL 10 9),(oE 11 10),(oK 12 0)] [9,10]) (.block 0 (.loop zgw))) (zgK)))
def ziv:List ARet:=[.tmp 2]
theorem zm3:zT Tryz.prog zf5 (qRo [1])=some (zix.strip,ziv,23):=by kernel_rfl
def zd7:ACode:=.seq (.region [ Yai,Yam] [0,4]) (.seq (.seq (.region [ (oM 8 1),(oL 9 2),(oE 10 9),(oB 11 .geq 8 10)] [8,9,10]) (.cond (.t 11) (.seq (.region [ Yam] [1,2,11]) (.ret)) (.skip))) (.seq (.region [ (oL 12 2),(oE 13 12),(oN 14 (.mksl 1 1 [.bool false] (.t 13) (.t 13))),(oN 5 (.alloc [.nilsl])),(oS 1 5 14)] [4,11,12,13,14]) (.seq (.region [ (oN 6 (.alloc [.nilsl]))] []) (.seq (.region [ (oN 7 (.alloc [.nilfn]))] []) (.seq (.region [ (oN 15 (.mkfn (.func zb6) [(.t 5),(.t 2),(.t 7),(.t 6)])),(oS 1 7 15)] [2,5,15]) (.seq (.region [ (oL 16 7),(oM 17 1),(oN 18 (.callv (.t 16) [(.t 17)]))] [1,7,16,17,18]) (.seq (.region [ (oL 19 6),(oN 20 (.call zbW [(.t 19)]))] [19,20]) (.seq (.region [ (oL 21 6),(oM 4 21)] [6,21]) (.ret)))))))))
def zd4:List ARet:=[.tmp 4]
theorem zhe:zT Tryz.prog zcM (qRo [2])=some (zd7.strip,zd4,22):=by kernel_rfl
def ze7:ACode:=.seq (.region [ (oM 42 7),(oN 43 (.mkfn (.func zcc) [(.t 2)])),(oN 44 (.call zbA [(.t 42),(.t 43)])),(oM 4 44)] [2,6,7,37,42,43,44]) (.ret)
def zhj:ACode:=.seq (.region [ Yai,Yam] [0,4]) (.seq (.region [ (oF 8 1 1 2),(oL 9 8),(oM 10 1),(oI 11 2 9 10),(oF 12 1 1 11),(oL 13 12),(oM 5 13)] [1,8,9,10,11,12,13]) (.seq (.seq (.region [ (oM 14 5),(oE 15 14),(oC 16 .eql 15 0)] [14,15]) (.cond (.t 16) (.seq (.region [ Yam] [2,5,16]) (.ret)) (.skip))) (.seq (.region [ (oM 17 5),(oM 18 5),(oE 19 18),(oC 20 .sub 19 1),(oI 21 8 17 20),(oA 22 8 21),(oN 6 (.alloc [.int .i64 0,.int .i64 0,.int .i64 0,.int .i64 0,.int .i64 0,.int .u32 0,.nilsl,.nilsl])),(oS 8 6 22)] [4,5,16,17,18,19,20,21,22]) (.seq (.region [ (oN 7 (.mknil 1))] []) (.join (.seq (.region [ (oF 23 0 1 6),(oL 24 23)] [23]) (.block 0 (.seq (.region [ (oC 26 .eql 24 6),(oM 25 26)] [26]) (.cond (.t 25) (.region [ (oF 27 3 1 6),(oL 28 27),(oN 29 (.buildSl 1 1 [.int .i64 0] [(0,(.t 28))])),(oM 7 29)] [6,24,25,27,28,29]) (.seq (.region [ (oC 31 .eql 24 7),(oM 30 31)] [25,31]) (.cond (.t 30) (.region [ (oF 32 3 1 6),(oL 33 32),(oF 34 4 1 6),(oL 35 34),(oN 36 (.buildSl 1 2 [.int .i64 0] [(0,(.t 33)),(1,(.t 35))])),(oM 7 36)] [6,24,30,32,33,34,35,36]) (.seq (.region [ (oC 38 .eql 24 8),(oM 37 38)] [24,30,38]) (.cond (.t 37) (.region [ (oF 39 7 1 6),(oL 40 39),(oN 41 (.call zw [(.t 40)])),(oM 7 41)] [6,37,39,40,41]) (.skip))))))))) (ze7))))))
def zd3:List ARet:=[.tmp 4]
theorem zld:zT Tryz.prog zex (qRo [2])=some (zhj.strip,zd3,45):=by kernel_rfl
def zdM:ACode:=.seq (.region [ (oB 17 .lss 16 15)] []) (.seq (.cond (.t 17) (.skip) (.exit 0)) (.seq (.block 1 (.seq (.region [ (oI 18 1 14 16),(oL 19 18),(oM 7 19)] [17,18,19]) (.seq (.region [ (oL 20 1),(oM 21 7),(oI 22 1 20 21),(oL 23 22),(oN 24 (.un .not (.t 23)))] [20,21,22,23]) (.cond (.t 24) (.region [ (oL 25 3),(oM 26 7),(oN 27 (.callv (.t 25) [(.t 26)]))] [7,24,25,26,27]) (.skip))))) (.region [ (oC 28 .add 16 1),(oM 16 28)] [7,24,28])))
def zdY:ACode:=.region [ (oL 29 4),(oM 30 0),(oN 31 (.buildSl 1 1 [.int .i64 0] [(0,(.t 30))])),(oN 32 (.append 1 8 (.t 29) (.t 31))),(oS 1 4 32)] [0,1,3,4,14,15,16,29,30,31,32]
def zfE:ACode:=.seq (.region [ (oL 8 1),(oM 9 0),(oI 10 1 8 9),⟨none,.store 1 (.t 10) (.c (.bool true)),none⟩] [8,9,10]) (.seq (.seq (.region [ (oL 11 2),(oM 12 0),(oI 13 1 11 12),(oL 14 13),(oE 15 14),(oK 16 0)] [2,11,12,13]) (.block 0 (.loop zdM))) (zdY))
def zfp:List ARet:=[]
theorem zjQ:zT Tryz.prog zb6 (qRo [])=some (zfE.strip,zfp,33):=by kernel_rfl
def zcq:ACode:=.seq (.seq (.region [ (oM 7 2),(oM 8 3),(oB 9 .lss 7 8)] [7,8]) (.cond (.t 9) (.skip) (.exit 0))) (.seq (.block 1 (.draw ( .step (oM 14 0) ( .step (oM 15 2) ( .step (oM 16 0) ( .step (oM 17 3) ( .step (oM 18 0) ( .step (oM 19 3) ( .step (oI 20 1 18 19) ( .step (oL 21 20) ( .step (oM 22 0) ( .step (oM 23 2) ( .alt (oI 24 1 22 23) ( .step (oL 25 24) ( .step (oI 26 1 14 15) ( .alt (oS 1 26 21) ( .step (oI 27 1 16 17) ( .alt (oS 1 27 25) ( .done) ( .stop))) ( .stop)))) ( .stop)))))))))))) [9,14,15,16,17,18,19,20,21,22,23,24,25,26,27])) (.region [ (oM 10 2),(oC 11 .add 10 1),(oM 12 3),(oC 13 .sub 12 1),(oM 2 11),(oM 3 13)] [10,11,12,13]))
def zdh:ACode:=.seq (.region [ (oM 4 0),(oE 5 4),(oC 6 .sub 5 1),(oK 2 0),(oM 3 6)] [4,5,6]) (.block 0 (.loop zcq))
def zdb:List ARet:=[]
theorem zhr:zT Tryz.prog zbW (qRo [])=some (zdh.strip,zdb,28):=by kernel_rfl
def zbX:ACode:=.seq (.seq (.region [ (oM 16 6),(oM 17 0),(oE 18 17),(oB 19 .lss 16 18)] [16,17,18]) (.cond (.t 19) (.skip) (.exit 0))) (.seq (.block 1 (.seq (.region [ (oM 22 0),(oM 23 6),(oI 24 1 22 23),(oL 25 24),(oM 7 25)] [19,22,23,24,25]) (.seq (.region [ (oM 26 1),(oM 27 7),(oN 28 (.callv (.t 26) [(.t 27)])),(oN 29 (.un .not (.t 28)))] [26,27,28]) (.cond (.t 29) (.seq (.region [ (oM 30 0),(oM 31 5),(oM 32 7),(oI 33 1 30 31),(oS 1 33 32)] [7,29,30,31,32,33]) (.region [ (oM 34 5),(oC 35 .add 34 1),(oM 5 35)] [34,35])) (.skip))))) (.region [ (oM 20 6),(oC 21 .add 20 1),(oM 6 21)] [7,20,21,29]))
def zbR:ACode:=.seq (.region [ (oM 36 0),(oM 37 5),(oN 38 (.slice 1 (.t 36) (some (.t 37)) none)),⟨none,.clear 1 [.int .i64 0] (.t 38),none⟩] [1,6,36,37,38]) (.seq (.region [ (oM 39 0),(oM 40 5),(oN 41 (.slice 1 (.t 39) none (some (.t 40)))),(oM 4 41)] [0,5,39,40,41]) (.ret))
def zcv:ACode:=.seq (.region [ Yam] [4]) (.seq (.region [ (oM 8 0),(oM 9 1),(oN 10 (.call zak [(.t 8),(.t 9)])),(oM 5 10)] [8,9,10]) (.seq (.seq (.region [ (oM 11 5),(oC 12 .eql 11 (-1))] [11]) (.cond (.t 12) (.seq (.region [ (oM 13 0),(oM 4 13)] [0,1,5,12,13]) (.ret)) (.skip))) (.seq (.seq (.region [ (oM 14 5),(oC 15 .add 14 1),(oM 6 15)] [4,12,14,15]) (.block 0 (.loop zbX))) (zbR))))
def zbr:List ARet:=[.tmp 4]
theorem zfS:zT Tryz.prog zbA (qRo [])=some (zcv.strip,zbr,42):=by kernel_rfl
def zfv:ACode:=.seq (.region [ Yap] [3]) (.seq (.region [ (oM 4 0),(oC 5 .lss 4 0),(oM 6 5),(oG 7 6 false (.mov (.t 0))),(oG 8 6 false (.fldaddr 1 1 (.t 1))),(oG 9 6 false (.load false 1 (.t 8))),(oG 10 6 false (.len (.t 9))),(oG 11 6 false (.bin .geq (.t 7) (.t 10))),(oN 12 (.pick (.t 6) (.c (.bool true)) (.t 11))),(oM 3 12)] [0,1,4,5,6,7,8,9,10,11,12]) (.ret))
def zcZ:List ARet:=[.tmp 3]
theorem zj1:zT Tryz.prog zcc (qRo [])=some (zfv.strip,zcZ,13):=by kernel_rfl
end Go.Ab
namespace Go.Ab.Dm
open Go.RowKit Go.Proofs
theorem zo {α β:Type} {f:α→β} {l:List α} {i:Nat} {d:β} (h:i < l.length):(l.map f).getD i d=f l[i]:=zfW (Wc h)
def ziE (n:Nat) (x:Int):Bool:=decide (0≤x)&&decide (x < n)
def _root_.Go.Ab.Gr.E (g:Gr):Adj:=g.blocks.map fun b=>(b.targets.filter (ziE g.blocks.length)).map Int.toNat
def _root_.Go.Ab.Gr.small (g:Gr):Prop:=g.blocks.length≤1000∧∀b∈g.blocks,b.targets.length≤1000
theorem _root_.Go.Ab.Gr.E_len (g:Gr):g.E.length=g.blocks.length:=by simp[Gr.E]
theorem _root_.Go.Ab.Gr.E_ok (g:Gr):g.E.ok:=by
 intro k n hn;unfold suc Gr.E at hn;rw[Wd,List.getElem?_map] at hn
 cases hb:g.blocks[k]? with
 | none=>rw[hb] at hn;simp at hn
 |
  some b =>
  rw[hb] at hn;simp only[Option.map_some,Option.getD_some,Wn,Wx,ziE,Wo,decide_eq_true_eq] at hn;obtain⟨x,⟨_,h1,h2⟩,rfl⟩:=hn;rw[g.E_len];omega
theorem zrV (l:List Nat):za (l.map fun(n:Nat)=>(n:Int))=zbD l:=by simp[za,zbD,encL];rfl
theorem zdn {α:Type} {p:α→Bool} {l:List α} {i:Nat} (h:i < l.length):(l.take (i+1)).filter p=(l.take i).filter p++if p l[i] then [l[i]] else []:=by
 rw[Wy,Wc h,WJ]
 cases hp:p l[i]<;>simp[Wz,hp]
structure NdL (n:Nat) (l:List Nat):Prop where
 nd:l.Nodup
 lt:∀b∈l,b < n
theorem NdL.len {n:Nat} {l:List Nat} (h:NdL n l):l.length≤n:=by
 obtain⟨h1,h2⟩:=h
 induction n generalizing l with
 |
  zero =>
  cases l with
  | nil=>exact Wa _
  | cons b l=>exact absurd (h2 b (by simp)) (by omega)
 |
  succ n ih =>
  by_cases hn:n∈l
  ·
   have:=ih (h1.erase n) (fun b hb=>by
    have h3:=h2 b (List.mem_of_mem_erase hb);have h4:=(h1.mem_erase_iff.1 hb).1
    omega)
   rw[List.length_erase_of_mem hn] at this;omega
  ·
   have:=ih h1 (fun b hb=>by
    have h3:=h2 b hb
    have h4:b≠n:=fun e=>hn (e▸hb)
    omega)
   omega
theorem NdL.add {n:Nat} {l:List Nat} (h:NdL n l) {x:Int} {c:Nat} (hc:c < n):NdL n (zeE x l c):=by
 unfold zeE;split
 ·
  rename_i hx;refine⟨?_,fun b hb=>?_⟩
  · rw[WK];exact⟨h.nd,by simp,fun a ha b hb=>by simp at hb;subst hb;exact fun e=>hx.2 (e▸ha)⟩
  ·
   rcases WA.1 hb with hb|hb
   · exact h.lt b hb
   · simp at hb;subst hb;exact hc
 · exact h
theorem NdL.fold {n:Nat} {x:Int}:∀ {cs l:List Nat},NdL n l→(∀c∈cs,c < n)→NdL n (cs.foldl (zeE x) l)
 | [],l,h,_=>h
 | c::cs,l,h,hc=>show NdL n (cs.foldl (zeE x) (zeE x l c)) from NdL.fold (x:=x) (h.add (x:=x) (hc c (by simp))) (fun d hd=>hc d (by simp[hd]))
theorem zi4 {α β:Type} {f:β→α→β} {b:β} {l:List α} {i:Nat} (h:i < l.length):(l.take (i+1)).foldl f b=f ((l.take i).foldl f b) l[i]:=by rw[Wy,Wc h,List.foldl_append];rfl
theorem zhX (p:Nat→Bool) (n:Nat):(Wg (n+1)).filter p=(Wg n).filter p++if p n then [n] else []:=by
 rw[List.range_succ,WJ]
 cases h:p n<;>simp[Wz,h]
theorem zm4 (p:Nat→Bool) (n:Nat):((Wg n).filter p).length≤n:=by
 have:=WL p (Wg n)
 simpa using this
def mapR {α:Type} (f:Nat→α) (n:Nat):List α:=(Wg n).map f
def filR (p:Nat→Bool) (n:Nat):List Nat:=(Wg n).filter p
theorem zzW {α:Type} {f:Nat→α} {n:Nat}:(mapR f n).length=n:=by simp[mapR]
theorem zu1 {p:Nat→Bool} {n:Nat} (h:p n=true):filR p (n+1)=filR p n++[n]:=by unfold filR;rw[zhX,h];rfl
theorem zqe {p:Nat→Bool} {n:Nat} (h:p n=false):filR p (n+1)=filR p n:=by unfold filR;rw[zhX,h];simp
theorem zyQ {p:Nat→Bool} {n:Nat}:(filR p n).length≤n:=zm4 p n
def zmR (A:List (List Nat)):AV:=encL 1 (fun r=>[zbD r]) A
abbrev cNs (l:List Nat):List AV:=[zbD l]
theorem vw_NN {H H2:AH} {σ:Nat→Nat→Option (Nat × Nat × Nat)} {D:Nat→Nat→Prop} {t:Bool} {r q g:Nat} {l:List (List Nat)} (hD:D r q) (hg:H.get r q=some (.row 1 (l.map cNs) g)) (hb:l.length≤big) :
  Vw H H2 σ D t (.own r q g 0 l.length) (zmR l):=by
 refine znu hD hg hb (fun a _ j hj=>?_)
 obtain rfl:j=0:=by omega
 exact .sl _ _ _ _
def zcl (E:Adj) (f:Nat) (s:List Nat × List Nat) (n:Nat):List Nat × List Nat:=if n∈s.1 then s else dfs E f n s
theorem zqi (E:Adj) (f k:Nat) (s:List Nat × List Nat) :
  dfs E (f+1) k s=(((suc E k).foldl (zcl E f) (s.1++[k],s.2)).1,((suc E k).foldl (zcl E f) (s.1++[k],s.2)).2++[k]):=rfl
structure DfsI (n m d:Nat) (s:List Nat × List Nat):Prop where
 nd:NdL n s.1
 le:m≤s.1.length
 post:s.1.length=s.2.length+d
theorem NdL.snoc {n:Nat} {l:List Nat} (h:NdL n l) {k:Nat} (hk:k < n) (hn:k∉l):NdL n (l++[k]):=by
 refine⟨?_,fun b hb=>?_⟩
 · rw[WK];exact⟨h.nd,by simp,fun a ha b hb=>by simp at hb;subst hb;exact fun e=>hn (e▸ha)⟩
 ·
  rcases WA.1 hb with hb|hb
  · exact h.lt b hb
  · simp at hb;subst hb;exact hk
theorem zkC {E:Adj} {f m d:Nat} (h:∀(k:Nat) (s:List Nat × List Nat),DfsI E.length m d s→k < E.length→k∉s.1→DfsI E.length m d (dfs E f k s)) :
  ∀(cs:List Nat) (t:List Nat × List Nat),(∀c∈cs,c < E.length)→DfsI E.length m d t→DfsI E.length m d (cs.foldl (zcl E f) t)
 | [],t,_,ht=>ht
 |
  c::cs,t,hc,ht=>by
  refine zkC h cs (zcl E f t c) (fun d hd=>hc d (by simp[hd])) ?_;unfold zcl;split
  · exact ht
  · exact h c t ht (hc c (by simp)) ‹_›
theorem zon {E:Adj} (hE:E.ok):∀(f m d k:Nat) (s:List Nat × List Nat),DfsI E.length m d s→k < E.length→k∉s.1→DfsI E.length m d (dfs E f k s)
 | 0,_,_,_,_,h,_,_=>h
 |
  f+1,m,d,k,s,h,hk,hn=>by
  rw[zqi];have:=zkC (zon hE f m (d+1)) (suc E k) (s.1++[k],s.2) (hE k) ⟨h.nd.snoc hk hn,by have:=h.le;simp;omega,by have:=h.post;simp;omega⟩;exact⟨this.nd,this.le,by have:=this.post;simp;omega⟩
theorem zB6 {A:List (List Nat)} {i:Nat} (h:i < A.length):suc A i=A[i]:=by simp[suc,Wd,h]
structure PredFn (fv:AV) (p:Int→Bool):Prop where
 ex:∃f caps,fv=.fn (.func f) caps∧zcW Tryz.prog f=true∧zt caps=true∧∀x,zk Tryz.prog f ([.int .i64 x]++caps) (·=.bool (p x))
theorem zcI:∀ {l:List AV},zt l=true→l.all AV.flat=true
 | [],_=>rfl
 |
  a::l,h=>by
  simp only[zt,Wo] at h;simp only[WB,Wo];refine⟨?_,zcI h.2⟩
  cases a<;>first|rfl|exact absurd h.1 (by simp[AV.flat0])
theorem zpS {fv:AV} {p:Int→Bool} (hp:PredFn fv p) {x:Int} {H:AH} {nx:Nat} {k:AV→AH→Nat→Prop} (hk:k (.bool (p x)) H nx):zko Tryz.prog fv [.int .i64 x] H nx k:=by obtain⟨f,caps,rfl,hg,hf,hx⟩:=hp.ex;rw[zhG];exact⟨hg,zc (zg (hx x) (by simp only[Wp,Wq,WB,AV.flat,AV.flat0,Bool.true_and];exact zcI hf)) hk⟩
theorem zqZ {fv:AV} {p:Int→Bool} (hp:PredFn fv p) {H H2:AH} {σ:Nat→Nat→Option (Nat × Nat × Nat)} {D:Nat→Nat→Prop} {t:Bool}:Vw H H2 σ D t fv fv:=by
 obtain⟨f,caps,rfl,hg,hf,hx⟩:=hp.ex
 refine .fn _ _ _ _ rfl fun i a b h1 h2=>?_
 rw[h1] at h2;cases h2;exact zco (zby hf h1)
theorem zkR (l:List Int) (fv:AV) (p:Int→Bool) (hp:PredFn fv p):zk Tryz.prog zak [za l,fv] (·=.int .i64 (match l.findIdx? p with|some i=>(i:Int)|none => -1)):=by
 refine fn_x zcE rfl ?_;unfold zbx;have hB:=hBig
 (repeat first|simp(disch:=try exact dis1) only[evD,Nat.reduceBEq,Nat.reduceAdd,Nat.reduceLeDiff,za]|with_reducible first|intro _|refine aJ ?_)
 refine zm (fun i:Nat=>([(0,za l),(1,fv),(7,.int .i64 l.length),(8,.int .i64 i)],[])) 0 (fun i=>i≤l.length∧∀j (h:j < l.length),j < i→p l[j]=false) (fun i=>l.length - i) 0 ⟨We _,fun j _ h=>by omega⟩ (Ent.keep rfl fin5) ?_;intro i ⟨hi,hno⟩ wf;unfold zbf
 (repeat first|simp(disch:=try exact dis1) only[evD,Nat.reduceBEq,Nat.reduceAdd,Nat.reduceLeDiff,za]|with_reducible first|intro _|refine aJ ?_)
 (refine zx (fun h=>?_) (fun h=>?_))<;>(try simp only[dcd] at h)
 ·
  have hi':i < l.length:=by omega
  (repeat first|simp(disch:=try exact dis1) only[evD,Nat.reduceBEq,Nat.reduceAdd,Nat.reduceLeDiff,zo hi']|with_reducible first|intro _|refine aJ ?_)
  refine zpS hp ?_
  (repeat first|simp(disch:=try exact dis1) only[evD,Nat.reduceBEq,Nat.reduceAdd,Nat.reduceLeDiff]|with_reducible first|intro _|refine aJ ?_)
  (refine zx (fun h2=>?_) (fun h2=>?_))<;>(try simp only[dcd] at h2)
  ·
   (repeat first|simp(disch:=try exact dis1) only[evD,Nat.reduceBEq,Nat.reduceAdd,Nat.reduceLeDiff,zag]|with_reducible first|intro _|refine aJ ?_)
   have e:l.findIdx? p=some i:=by rw[WM];exact⟨hi',h2,fun j hj=>by rw[hno j (by omega) hj];simp⟩
   rw[e];exact⟨_,.int _ _ _,rfl⟩
  ·
   (repeat first|simp(disch:=try exact dis1) only[evD,Nat.reduceBEq,Nat.reduceAdd,Nat.reduceLeDiff]|with_reducible first|intro _|refine aJ ?_)
   refine⟨i+1,⟨by omega,fun j hj hji=>?_⟩,by omega,Ent.keep rfl fin5⟩
   by_cases hje:j=i
   · subst hje;simpa using h2
   · exact hno j hj (by omega)
 ·
  unfold zbj
  (repeat first|simp(disch:=try exact dis1) only[evD,Nat.reduceBEq,Nat.reduceAdd,Nat.reduceLeDiff,zag]|with_reducible first|intro _|refine aJ ?_)
  have e:l.findIdx? p=none:=by rw[WN];intro x hx;obtain⟨j,hj,rfl⟩:=WO.1 hx;exact hno j hj (by omega)
  rw[e];exact⟨_,.int _ _ _,rfl⟩
def cur (K l:List Int):List Int:=K++l.drop K.length
theorem zyR {K l:List Int} (h:K.length≤l.length):(cur K l).length=l.length:=by simp[cur];omega
theorem zBD {K l:List Int} {j:Nat} (h:K.length≤j) (hj:j < l.length):(cur K l)[j]? = some l[j]:=by unfold cur;rw[WP h,WQ,show K.length+(j - K.length)=j by omega,Wc hj]
theorem zAp {K l:List Int} {j:Nat} (h:K.length≤j) (hj:j < l.length):((cur K l).map cI).getD j []=[.int .i64 l[j]]:=by simp[Wd,zBD h hj]
theorem zCm {K l:List Int} {v:Int} (h:K.length < l.length):(cur K l).set K.length v=cur (K++[v]) l:=by unfold cur;rw[WR _ _ (Wa _),Nat.sub_self,Wr h,WS];simp
theorem zzL {K l:List Int} {v:Int} (h:K.length < l.length):((cur K l).map cI).set K.length [.int .i64 v]=(cur (K++[v]) l).map cI:=by rw[←zCm h,List.map_set]
theorem zjZ (l:List Int) (g:Nat) (fv:AV) (p:Int→Bool) (hp:PredFn fv p) (hl:l.length≤1000) :
  z7 Tryz.prog zbA [.own 0 0 g 0 l.length,fv] [(0,.row 1 (l.map cI) g)] 1
   (fun v H nx=>∃m,v=.own 0 0 g 0 (l.filter fun x => !p x).length∧H=[(0,.row 1 (((l.filter fun x => !p x)++m).map cI) g)]∧nx=1):=by
 refine z8 (fn_x zfS rfl ?_);unfold zcv;have hB:=hBig
 (repeat first|simp(disch:=try exact dis1) only[evD,Nat.reduceBEq,Nat.reduceAdd,Nat.reduceLeDiff]|with_reducible first|intro _|refine aJ ?_)
 refine zc (zM (D:=fun r _=>r=0) (zkR l fv p hp) (.cons (zaV rfl rfl (by omega)) (.cons (zqZ hp) .nil)) (.inl rfl)) ?_
 cases hf:l.findIdx? p with
 |
  none =>
  have e:l.filter (fun x => !p x)=l:=by rw[WU];intro x hx;rw[WN] at hf;simp[hf x hx]
  (repeat first|simp(disch:=try exact dis1) only[evD,Nat.reduceBEq,Nat.reduceAdd,Nat.reduceLeDiff,zbr]|with_reducible first|intro _|refine aJ ?_)
  refine⟨.own 0 0 g 0 l.length,[(0,.row 1 (l.map cI) g)],1,?_,[],by rw[e],by rw[e,Wf],rfl⟩;exact(Ent.tabB [(0,0,0)] [] rfl rfl rfl (by(try simp only[evWB,Nat.reduceBEq,Nat.reduceAdd,Nat.reduceSub,Nat.reduceLeDiff,Nat.reduceLT,implies_true])<;>exact fin4) (by(try simp only[evWB,Nat.reduceBEq,Nat.reduceAdd,Nat.reduceSub,Nat.reduceLeDiff,Nat.reduceLT,implies_true])<;>exact fin4))
 |
  some i0 =>
  rw[WM] at hf;obtain⟨hi0,hpi,hno⟩:=hf
  (repeat first|simp(disch:=try exact dis1) only[evD,Nat.reduceBEq,Nat.reduceAdd,Nat.reduceLeDiff]|with_reducible first|intro _|refine aJ ?_)
  (refine zx (fun h=>?_) (fun h=>?_))<;>(try simp only[dcd] at h)
  · omega
  (repeat first|simp(disch:=try exact dis1) only[evD,Nat.reduceBEq,Nat.reduceAdd,Nat.reduceLeDiff]|with_reducible first|intro _|refine aJ ?_)
  let K:=fun j=>(l.take j).filter fun x => !p x
  have hK0:K (i0+1)=l.take i0:=by
   simp only[K];rw[zdn hi0,hpi];simp only[Bool.not_true,WV,if_false,Wf];rw[WU];intro x hx;obtain⟨j,hj,rfl⟩:=WO.1 hx;simp only[Wl] at hj;rw[List.getElem_take]
   simpa using hno j (by omega)
  have hKl:∀j,i0 < j→j≤l.length→(K j).length < j:=by
   intro j h1 h2
   induction j with
   | zero=>omega
   |
    succ j ih =>
    by_cases hj:j=i0
    · subst hj;rw[hK0];simp;omega
    ·
     have:=ih (by omega) (by omega);simp only[K] at this ⊢;rw[zdn (show j < l.length by omega)];rw[WW]
     split<;>simp<;>omega
  have hstart:cur (K (i0+1)) l=l:=by rw[hK0];unfold cur;rw[Wl,Nat.min_eq_left (by omega),WX]
  have hK0l:(K (i0+1)).length=i0:=by rw[hK0];simp;omega
  refine zm (fun j:Nat=>([(0,.own 0 0 g 0 l.length),(1,fv),(5,.int .i64 (K j).length),(6,.int .i64 j)],[(0,.row 1 ((cur (K j) l).map cI) g)])) 1 (fun j=>i0 < j∧j≤l.length) (fun j=>l.length - j) (i0+1) ⟨by omega,by omega⟩ (Ent.tabB [(0,0,0)] [] rfl rfl rfl ?_ ?_) ?_
  · simp only[evWB,Nat.reduceBEq,Nat.reduceAdd,Nat.reduceSub,Nat.reduceLeDiff,Nat.reduceLT,implies_true,hstart]
  · simp only[evWB,Nat.reduceBEq,Nat.reduceAdd,Nat.reduceSub,Nat.reduceLeDiff,Nat.reduceLT,implies_true,hK0l];exact zqZ hp
  intro j ⟨hj1,hj2⟩ wf;have hkl:=hKl j hj1 hj2;unfold zbX
  (repeat first|simp(disch:=try exact dis1) only[evD,Nat.reduceBEq,Nat.reduceAdd,Nat.reduceLeDiff]|with_reducible first|intro _|refine aJ ?_)
  (refine zx (fun h2=>?_) (fun h2=>?_))<;>(try simp only[dcd] at h2)
  ·
   have hj':j < l.length:=by omega
   have hst:K (j+1)=K j++if (!p l[j])=true then [l[j]] else []:=zdn hj'
   have hkl2:=hKl (j+1) (by omega) (by omega);have hcl:=zyR (K:=K j) (l:=l) (by omega)
   (repeat first|simp(disch:=try exact dis1) only[evD,Nat.reduceBEq,Nat.reduceAdd,Nat.reduceLeDiff,zAp (K:=K j) (l:=l) (by omega) hj']|with_reducible first|intro _|refine aJ ?_)
   refine zpS hp ?_
   (repeat first|simp(disch:=try exact dis1) only[evD,Nat.reduceBEq,Nat.reduceAdd,Nat.reduceLeDiff]|with_reducible first|intro _|refine aJ ?_)
   (refine zx (fun h3=>?_) (fun h3=>?_))<;>(try simp only[dcd] at h3)
   ·
    rw[h3] at hst;simp only[Bool.not_false,if_true] at hst
    (repeat first|simp(disch:=try exact dis1) only[evD,Nat.reduceBEq,Nat.reduceAdd,Nat.reduceLeDiff]|with_reducible first|intro _|refine aJ ?_)
    rw[zzL (by omega),←hst];exact⟨j+1,⟨by omega,by omega⟩,by omega,Ent.tabB [(0,0,0)] [] rfl rfl rfl (by simp only[evWB,Nat.reduceBEq,Nat.reduceAdd,Nat.reduceSub,Nat.reduceLeDiff,Nat.reduceLT,implies_true]) (by simp only[evWB,Nat.reduceBEq,Nat.reduceAdd,Nat.reduceSub,Nat.reduceLeDiff,Nat.reduceLT,implies_true,hst];exact zqZ hp)⟩
   ·
    have h3':p l[j]=true:=by simpa using h3
    rw[h3'] at hst;simp only[Bool.not_true,WV,if_false,Wf] at hst
    (repeat first|simp(disch:=try exact dis1) only[evD,Nat.reduceBEq,Nat.reduceAdd,Nat.reduceLeDiff]|with_reducible first|intro _|refine aJ ?_)
    rw[←hst];exact⟨j+1,⟨by omega,by omega⟩,by omega,Ent.tabB [(0,0,0)] [] rfl rfl rfl (by simp only[evWB,Nat.reduceBEq,Nat.reduceAdd,Nat.reduceSub,Nat.reduceLeDiff,Nat.reduceLT,implies_true]) (by simp only[evWB,Nat.reduceBEq,Nat.reduceAdd,Nat.reduceSub,Nat.reduceLeDiff,Nat.reduceLT,implies_true];exact zqZ hp)⟩
  ·
   obtain rfl:j=l.length:=by omega
   have hKe:K l.length=l.filter fun x => !p x:=by simp only[K];rw[Wi]
   have hcl:=zyR (K:=K l.length) (l:=l) (by omega);unfold zbR
   have hz:(((l.length:Int) - (K l.length).length).toNat)=l.length - (K l.length).length:=by omega
   have hclr:((cur (K l.length) l).map cI).take (K l.length).length++Wh (l.length - (K l.length).length) [AV.int .i64 0]++((cur (K l.length) l).map cI).drop ((K l.length).length+(l.length - (K l.length).length))=(K l.length++Wh (l.length - (K l.length).length) 0).map cI:=by
    rw[Wm (by rw[Ws,hcl];omega),Wf,←Wj,Wt,Wu]
    congr 2
    unfold cur;rw[WY (Wa _),Wi]
   (repeat first|simp(disch:=try exact dis1) only[evD,Nat.reduceBEq,Nat.reduceAdd,Nat.reduceLeDiff,zbr,hz,hclr]|with_reducible first|intro _|refine aJ ?_)
   refine⟨.own 0 0 g 0 (l.filter fun x => !p x).length,[(0,.row 1 (((l.filter fun x => !p x)++Wh (l.length - (K l.length).length) 0).map cI) g)],1,?_,_,rfl,rfl,rfl⟩;rw[←hKe];exact(Ent.tabB [(0,0,0)] [] rfl rfl rfl (by(try simp only[evWB,Nat.reduceBEq,Nat.reduceAdd,Nat.reduceSub,Nat.reduceLeDiff,Nat.reduceLT,implies_true,Wu])<;>exact fin4) (by(try simp only[evWB,Nat.reduceBEq,Nat.reduceAdd,Nat.reduceSub,Nat.reduceLeDiff,Nat.reduceLT,implies_true,Wu])<;>exact fin4))
theorem zw4 (g:Gr) (x:Int):zk Tryz.prog zcc [.int .i64 x,.iptr 2 fun j=>g.cells.getD j .undef] (·=.bool (!ziE g.blocks.length x)):=by
 refine fn_x zj1 rfl ?_;unfold zfv
 (repeat first|simp(disch:=try exact dis1) only[evD,Nat.reduceBEq,Nat.reduceAdd,Nat.reduceLeDiff,Gr.cells]|with_reducible first|intro _|refine aJ ?_)
 generalize h:decide (x < 0)=hb;cases hb<;>simp only[decide_eq_true_eq,decide_eq_false_iff_not,ne_eq,Classical.not_not] at h
 ·
  (repeat first|simp(disch:=try exact dis1) only[evD,Nat.reduceBEq,Nat.reduceAdd,Nat.reduceLeDiff,zcZ]|with_reducible first|intro _|refine aJ ?_)
  refine⟨_,.bool _ _,?_⟩
  have h0:0≤x:=by omega
  by_cases h2:x < g.blocks.length
  ·
   have:¬(g.blocks.length:Int)≤x:=by omega
   simp[ziE,h0,h2,this]
  ·
   have:(g.blocks.length:Int)≤x:=by omega
   simp[ziE,h0,h2,this]
 ·
  (repeat first|simp(disch:=try exact dis1) only[evD,Nat.reduceBEq,Nat.reduceAdd,Nat.reduceLeDiff,zcZ]|with_reducible first|intro _|refine aJ ?_)
  refine⟨_,.bool _ _,?_⟩;simp[ziE,h]
theorem zww (g:Gr):PredFn (.fn (.func zcc) [.iptr 2 fun j=>g.cells.getD j .undef]) (fun x => !ziE g.blocks.length x) :=
 ⟨_,_,rfl,by kernel_rfl,rfl,zw4 g⟩
theorem slices_Clone_ok (l:List Int) (hl:l.length≤1000):z7 Tryz.prog zw [za l] [] 0 (fun v H nx=>v=.own 0 0 0 0 l.length∧H=[(0,.row 1 (l.map cI) 0)]∧nx=1):=by
 refine z8 (fn_x zbs rfl ?_);unfold zaH;have hB:=hBig
 have hel:∀H,zea 1 (encL 1 (fun n:Int=>[AV.int .i64 n]) l) H=some (l.map fun n=>[AV.int .i64 n]):=fun H=>zpy (fun _ _=>rfl)
 (repeat first|simp(disch:=try exact dis1) only[evD,Nat.reduceBEq,Nat.reduceAdd,Nat.reduceLeDiff,za,zrL]|with_reducible first|intro _|refine aJ ?_)
 cases h0:(l.length == 0) with
 |
  true =>
  have e:l=[]:=WC (by simpa using h0);subst e
  (repeat first|simp(disch:=try exact dis1) only[evD,Nat.reduceBEq,Nat.reduceAdd,Nat.reduceLeDiff]|with_reducible first|intro _|refine aJ ?_)
  rename_i b;cases b
  ·
   (repeat first|simp(disch:=try exact dis1) only[evD,Nat.reduceBEq,Nat.reduceAdd,Nat.reduceLeDiff,hel,zF]|with_reducible first|intro _|refine aJ ?_)
   refine⟨.own 0 0 0 0 0,[(0,.row 1 [] 0)],1,?_,rfl,rfl,rfl⟩;exact(Ent.tab [(0,1,1)] [] rfl (by(try simp only[evWB,Nat.reduceBEq,Nat.reduceAdd,Nat.reduceSub,Nat.reduceLeDiff,Nat.reduceLT,implies_true])<;>exact fin4) (by(try simp only[evWB,Nat.reduceBEq,Nat.reduceAdd,Nat.reduceSub,Nat.reduceLeDiff,Nat.reduceLT,implies_true])<;>exact fin4))
  ·
   (repeat first|simp(disch:=try exact dis1) only[evD,Nat.reduceBEq,Nat.reduceAdd,Nat.reduceLeDiff,zF]|with_reducible first|intro _|refine aJ ?_)
   refine⟨.own 0 0 0 0 0,[(0,.row 1 [] 0)],1,?_,rfl,rfl,rfl⟩;exact(Ent.tab [(0,1,0)] [] rfl (by(try simp only[evWB,Nat.reduceBEq,Nat.reduceAdd,Nat.reduceSub,Nat.reduceLeDiff,Nat.reduceLT,implies_true])<;>exact fin4) (by(try simp only[evWB,Nat.reduceBEq,Nat.reduceAdd,Nat.reduceSub,Nat.reduceLeDiff,Nat.reduceLT,implies_true])<;>exact fin4))
 |
  false =>
  (repeat first|simp(disch:=try exact dis1) only[evD,Nat.reduceBEq,Nat.reduceAdd,Nat.reduceLeDiff,hel,zF]|with_reducible first|intro _|refine aJ ?_)
  refine⟨.own 0 0 0 0 l.length,[(0,.row 1 (l.map cI) 0)],1,?_,rfl,rfl,rfl⟩;exact(Ent.tab [(0,1,1)] [] rfl (by(try simp only[evWB,Nat.reduceBEq,Nat.reduceAdd,Nat.reduceSub,Nat.reduceLeDiff,Nat.reduceLT,implies_true])<;>exact fin4) (by(try simp only[evWB,Nat.reduceBEq,Nat.reduceAdd,Nat.reduceSub,Nat.reduceLeDiff,Nat.reduceLT,implies_true])<;>exact fin4))
theorem zwM {g:Gr} {k:Nat} (hk:k < g.blocks.length):zbD (suc g.E k)=za (g.blocks[k].targets.filter (ziE g.blocks.length)):=by
 rw[←zrV]
 congr 1
 simp only[suc,Gr.E,zo hk,List.map_map]
 conv=>rhs;rw[←List.map_id (Wz _ _)]
 refine WZ fun x hx=>?_
 simp only[Wx,ziE,Wo,decide_eq_true_eq] at hx;simp only[Function.comp,id];omega
theorem zAN {H H2:AH} {σ:Nat→Nat→Option (Nat × Nat × Nat)} {D:Nat→Nat→Prop} {t:Bool} {r q g:Nat} {l m:List Int} (hD:D r q) (hg:H.get r q=some (.row 1 ((l++m).map cI) g)) (hb:l.length≤big) :
  Vw H H2 σ D t (.own r q g 0 l.length) (za l):=by
 refine .frz t r q g 0 l.length 1 ((l++m).map cI) _ hD hg hb (by simp) (fun i j hi hj=>?_)
 obtain rfl:j=0:=by omega
 rw[WD,zo (show i < (l++m).length by simp;omega),zo hi,WE hi];exact .int _ _ _
theorem zlg (g:Gr) (hg:g.small) (k:Nat) (hk:k < g.blocks.length):zk Tryz.prog zex [.agg g.cells,.int .i64 k] (·=zbD (suc g.E k)):=by
 have htl:=hg.2 _ (Wk hk);rw[zwM hk];refine fn_x zld rfl ?_;unfold zhj;have hB:=hBig;have e:(g.blocks.map Blk.cells).getD k []=g.blocks[k].cells:=zfW (Wc hk)
 (repeat first|simp(disch:=try exact dis1) only[evD,Nat.reduceBEq,Nat.reduceAdd,Nat.reduceLeDiff,Gr.cells,e,Blk.cells]|with_reducible first|intro _|refine aJ ?_)
 generalize hbk:g.blocks[k]=b at htl ⊢
 (refine zx (fun h=>?_) (fun h=>?_))<;>(try simp only[dcd] at h)
 ·
  (repeat first|simp(disch:=try exact dis1) only[evD,Nat.reduceBEq,Nat.reduceAdd,Nat.reduceLeDiff,zd3]|with_reducible first|intro _|refine aJ ?_)
  refine⟨_,?_,rfl⟩;have h0:b.stmts=[]:=WC (by omega)
  have e:b.targets=[]:=by simp[Blk.targets,h0]
  rw[e];exact zaV (l:=[]) trivial rfl (We _)
 have h0:0 < b.stmts.length:=by omega
 obtain⟨s,hs⟩:∃s,b.stmts[b.stmts.length - 1]? = some s:=⟨_,Wc (by omega)⟩
 have ht:b.targets=if s.op=6 then [s.next] else if s.op=7 then [s.next,s.els] else if s.op=8 then s.cases else []:=by
  have:b.stmts.getLast? = some s:=by rw[WF,hs]
  simp[Blk.targets,this]
 have e2:(b.stmts.map Stm.cells).getD ((b.stmts.length:Int) - 1).toNat []=s.cells:=by rw[show ((b.stmts.length:Int) - 1).toNat=b.stmts.length - 1 by omega];exact zfW hs
 (repeat first|simp(disch:=try exact dis1) only[evD,Nat.reduceBEq,Nat.reduceAdd,Nat.reduceLeDiff,e2,Stm.cells]|with_reducible first|intro _|refine aJ ?_)
 refine zgI (fun _:Unit=>([(2,.iptr 2 fun j=>g.cells.getD j .undef),(7,.own 0 0 0 0 b.targets.length)],[(0,.row 1 (b.targets.map cI) 0)])) 1 (fun _=>True) ?_ ?_
 ·
  (repeat first|simp(disch:=try exact dis1) only[evD,Nat.reduceBEq,Nat.reduceAdd,Nat.reduceLeDiff]|with_reducible first|intro _|refine aJ ?_)
  (refine zx (fun h=>?_) (fun h=>?_))<;>(try simp only[dcd] at h)
  ·
   rw[if_pos h] at ht
   (repeat first|simp(disch:=try exact dis1) only[evD,Nat.reduceBEq,Nat.reduceAdd,Nat.reduceLeDiff]|with_reducible first|intro _|refine aJ ?_)
   refine⟨(),?_⟩;rw[ht];exact(Ent.tab [(0,3,0)] [] rfl (by(try simp only[evWB,Nat.reduceBEq,Nat.reduceAdd,Nat.reduceSub,Nat.reduceLeDiff,Nat.reduceLT,implies_true,Gr.cells])<;>exact fin4) (by(try simp only[evWB,Nat.reduceBEq,Nat.reduceAdd,Nat.reduceSub,Nat.reduceLeDiff,Nat.reduceLT,implies_true,Gr.cells])<;>exact fin4))
  ·
   rw[if_neg h] at ht
   (repeat first|simp(disch:=try exact dis1) only[evD,Nat.reduceBEq,Nat.reduceAdd,Nat.reduceLeDiff]|with_reducible first|intro _|refine aJ ?_)
   (refine zx (fun h=>?_) (fun h=>?_))<;>(try simp only[dcd] at h)
   ·
    rw[if_pos h] at ht
    (repeat first|simp(disch:=try exact dis1) only[evD,Nat.reduceBEq,Nat.reduceAdd,Nat.reduceLeDiff]|with_reducible first|intro _|refine aJ ?_)
    refine⟨(),?_⟩;rw[ht];exact(Ent.tab [(0,3,0)] [] rfl (by(try simp only[evWB,Nat.reduceBEq,Nat.reduceAdd,Nat.reduceSub,Nat.reduceLeDiff,Nat.reduceLT,implies_true,Gr.cells])<;>exact fin4) (by(try simp only[evWB,Nat.reduceBEq,Nat.reduceAdd,Nat.reduceSub,Nat.reduceLeDiff,Nat.reduceLT,implies_true,Gr.cells])<;>exact fin4))
   ·
    rw[if_neg h] at ht
    (repeat first|simp(disch:=try exact dis1) only[evD,Nat.reduceBEq,Nat.reduceAdd,Nat.reduceLeDiff]|with_reducible first|intro _|refine aJ ?_)
    (refine zx (fun h=>?_) (fun h=>?_))<;>(try simp only[dcd] at h)
    ·
     rw[if_pos h] at ht
     (repeat first|simp(disch:=try exact dis1) only[evD,Nat.reduceBEq,Nat.reduceAdd,Nat.reduceLeDiff]|with_reducible first|intro _|refine aJ ?_)
     refine zbq [] 0 _ (slices_Clone_ok s.cases (by rw[←ht];exact htl)) rfl rfl (by(try simp only[evWB,Nat.reduceBEq,Nat.reduceAdd,Nat.reduceSub,Nat.reduceLeDiff,Nat.reduceLT,implies_true])<;>exact fin4) (by(try simp only[evWB,Nat.reduceBEq,Nat.reduceAdd,Nat.reduceSub,Nat.reduceLeDiff,Nat.reduceLT,implies_true])<;>exact fin4) ?_;rintro v H' nx' ⟨rfl,rfl,rfl⟩
     (repeat first|simp(disch:=try exact dis1) only[evD,Nat.reduceBEq,Nat.reduceAdd,Nat.reduceLeDiff]|with_reducible first|intro _|refine aJ ?_)
     refine⟨(),?_⟩;rw[ht];exact(Ent.tab [(0,3,0)] [] rfl (by(try simp only[evWB,Nat.reduceBEq,Nat.reduceAdd,Nat.reduceSub,Nat.reduceLeDiff,Nat.reduceLT,implies_true,Gr.cells])<;>exact fin4) (by(try simp only[evWB,Nat.reduceBEq,Nat.reduceAdd,Nat.reduceSub,Nat.reduceLeDiff,Nat.reduceLT,implies_true,Gr.cells])<;>exact fin4))
    ·
     rw[if_neg h] at ht
     (repeat first|simp(disch:=try exact dis1) only[evD,Nat.reduceBEq,Nat.reduceAdd,Nat.reduceLeDiff]|with_reducible first|intro _|refine aJ ?_)
     refine⟨(),?_⟩;rw[ht];exact(Ent.tab [(0,2,0)] [] rfl (by(try simp only[evWB,Nat.reduceBEq,Nat.reduceAdd,Nat.reduceSub,Nat.reduceLeDiff,Nat.reduceLT,implies_true,Gr.cells])<;>exact fin4) (by(try simp only[evWB,Nat.reduceBEq,Nat.reduceAdd,Nat.reduceSub,Nat.reduceLeDiff,Nat.reduceLT,implies_true,Gr.cells])<;>exact fin4))
 ·
  rintro _ _ _;unfold ze7
  (repeat first|simp(disch:=try exact dis1) only[evD,Nat.reduceBEq,Nat.reduceAdd,Nat.reduceLeDiff]|with_reducible first|intro _|refine aJ ?_)
  refine zbq [(0,0,0)] 1 _ (zjZ b.targets 0 _ _ (zww g) htl) rfl rfl (by simp only[evWB,Nat.reduceBEq,Nat.reduceAdd,Nat.reduceSub,Nat.reduceLeDiff,Nat.reduceLT,implies_true]) (by simp only[evWB,Nat.reduceBEq,Nat.reduceAdd,Nat.reduceSub,Nat.reduceLeDiff,Nat.reduceLT,implies_true]) ?_;rintro v H' nx' ⟨m,rfl,rfl,rfl⟩
  (repeat first|simp(disch:=try exact dis1) only[evD,Nat.reduceBEq,Nat.reduceAdd,Nat.reduceLeDiff,zd3]|with_reducible first|intro _|refine aJ ?_)
  refine⟨_,?_,rfl⟩;have:=WL (ziE g.blocks.length) b.targets
  try simp only[Bool.not_not]
  exact zAN (l:=b.targets.filter (ziE g.blocks.length)) (m:=m) trivial rfl (by omega)
def aLL (E:Adj) (n k:Nat):List (List AV):=(Wg n).map fun i=>[if i < k then zbD (suc E i) else .nilsl]
theorem zBQ {E:Adj} {n k:Nat}:(aLL E n k).length=n:=by simp[aLL]
theorem zuS {E:Adj} {n:Nat}:aLL E n 0=Wh n [.nilsl]:=by unfold aLL;simp only[Nat.not_lt_zero,if_false];rw[List.map_const',List.length_range]
theorem zBT {E:Adj} {n k:Nat}:(aLL E n k).set k [zbD (suc E k)]=aLL E n (k+1):=by
 unfold aLL;rw[zdV]
 refine WZ fun i hi=>?_
 unfold updF;split
 · rename_i h;subst h;rw[if_pos (by omega)]
 ·
  show [if i < k then zbD (suc E i) else AV.nilsl]=_
  by_cases h:i < k
  · rw[if_pos h,if_pos (by omega)]
  · rw[if_neg h,if_neg (by omega)]
theorem zvd {E:Adj} {n k:Nat}:zu (aLL E n k):=by
 intro c hc;obtain⟨i,_,rfl⟩:=Wn.1 hc
 split<;>rfl
theorem zBw {E:Adj} {n:Nat} (hn:E.length=n):aLL E n n=E.map cNs:=by
 subst hn;apply List.ext_getElem?;intro i;unfold aLL
 by_cases hi:i < E.length
 · simp[hi,suc,Wd]
 · simp[hi]
theorem zm1 (g:Gr) (hg:g.small):zk Tryz.prog zf5 [.agg g.cells] (·=zmR g.E):=by
 refine fn_x zm3 rfl ?_;unfold zix;have hB:=hBig;have hn:=hg.1;have hlen:=g.E_len
 (repeat first|simp(disch:=try exact dis1) only[evD,Nat.reduceBEq,Nat.reduceAdd,Nat.reduceLeDiff,Gr.cells]|with_reducible first|intro _|refine aJ ?_)
 refine zm (fun k:Nat=>([(1,encP 2 g.cells),(3,.own 0 0 0 0 g.blocks.length),(11,.int .i64 g.blocks.length),(12,.int .i64 k)],[(0,.row 1 (aLL g.E g.blocks.length k) 0)])) 1 (fun k=>k≤g.blocks.length) (fun k=>g.blocks.length - k) 0 (We _) (Ent.tab [(0,1,0)] [] rfl (by(try simp only[evWB,Nat.reduceBEq,Nat.reduceAdd,Nat.reduceSub,Nat.reduceLeDiff,Nat.reduceLT,implies_true,Gr.cells,zuS])<;>exact fin4) (by(try simp only[evWB,Nat.reduceBEq,Nat.reduceAdd,Nat.reduceSub,Nat.reduceLeDiff,Nat.reduceLT,implies_true,Gr.cells,zuS])<;>exact fin4)) ?_;intro k hk wf;unfold zgw
 (repeat first|simp(disch:=try exact dis1) only[evD,Nat.reduceBEq,Nat.reduceAdd,Nat.reduceLeDiff,encP,Gr.cells]|with_reducible first|intro _|refine aJ ?_)
 (refine zx (fun h=>?_) (fun h=>?_))<;>(try simp only[dcd] at h)
 ·
  (repeat first|simp(disch:=try exact dis1) only[evD,Nat.reduceBEq,Nat.reduceAdd,Nat.reduceLeDiff,Gr.two]|with_reducible first|intro _|refine aJ ?_)
  refine zc (zg (zlg g hg k (by omega)) rfl) ?_
  (repeat first|simp(disch:=try exact dis1) only[evD,Nat.reduceBEq,Nat.reduceAdd,Nat.reduceLeDiff,zBQ]|with_reducible first|intro _|refine aJ ?_)
  have e:(aLL g.E g.blocks.length k).set k (zbD (suc g.E k)).cells=aLL g.E g.blocks.length (k+1):=zBT;refine⟨⟨by omega,rfl,rfl⟩,?_⟩;rw[e]
  (repeat first|simp(disch:=try exact dis1) only[evD,Nat.reduceBEq,Nat.reduceAdd,Nat.reduceLeDiff]|with_reducible first|intro _|refine aJ ?_)
  exact⟨k+1,by omega,by omega,(Ent.tab [(0,0,0)] [] rfl (by(try simp only[evWB,Nat.reduceBEq,Nat.reduceAdd,Nat.reduceSub,Nat.reduceLeDiff,Nat.reduceLT,implies_true,Gr.cells,zis zvd])<;>exact fin4) (by(try simp only[evWB,Nat.reduceBEq,Nat.reduceAdd,Nat.reduceSub,Nat.reduceLeDiff,Nat.reduceLT,implies_true,Gr.cells,zis zvd])<;>exact fin4))⟩
 ·
  obtain rfl:k=g.blocks.length:=by omega
  unfold zgK
  (repeat first|simp(disch:=try exact dis1) only[evD,Nat.reduceBEq,Nat.reduceAdd,Nat.reduceLeDiff,ziv]|with_reducible first|intro _|refine aJ ?_)
  refine⟨_,?_,rfl⟩;rw[zBw hlen];have:=vw_NN (H:=[(0,.row 1 (g.E.map cNs) 0)]) (H2:=[]) (σ:=nos) (D:=allR) (t:=false) (r:=0) (q:=0) (g:=0) (l:=g.E) trivial rfl (by omega)
  rwa [hlen] at this
structure Adj.small (A:Adj):Prop where
 len:A.length≤2000
 row:∀k,(suc A k).length≤2000000
def keepP (l:List Nat) (j:Nat):Bool:=j == 0||(l.getD j 0 != l.getD (j - 1) 0)
def keepL (l:List Nat) (n:Nat):List Nat:=(filR (keepP l) n).map (fun j=>l.getD j 0)
end Go.Ab.Dm
namespace Go.Ab
open Go.RowKit Go.Proofs Go.Ab.Dm
def ze0 (l:List Int) (j:Nat):Bool:=j == 0||(l.getD j 0 != l.getD (j - 1) 0)
def zaE (l:List Int) (n:Nat):List Int:=(filR (ze0 l) n).map (fun j=>l.getD j 0)
def zab (l:List Int):List Int:=zaE l l.length
theorem zpZ {l:List Int} {n:Nat}:(zaE l n).length≤n:=by unfold zaE;rw[Ws];exact zyQ
theorem zpA {l:List Int} {j:Nat} (hj:j < l.length) (h:ze0 l j=true):zaE l (j+1)=zaE l j++[l[j]]:=by unfold zaE;rw[zu1 h,Wt];simp[Wd,hj]
theorem zsF {l:List Int} {j:Nat} (h:ze0 l j=false):zaE l (j+1)=zaE l j:=by unfold zaE;rw[zqe h]
theorem zl8 {l:List Int} {n:Nat} (hn:n≤l.length) (h:∀j,j < n→ze0 l j=true):zaE l n=l.take n:=by
 induction n with
 | zero=>rfl
 |
  succ n ih =>
  rw[zpA (by omega) (h n (by omega)),ih (by omega) (fun j hj=>h j (by omega)),Wy,Wc (by omega)];rfl
theorem zeX {l:List Int} {j:Nat} (h1:1≤j) (hj:j < l.length):ze0 l j=(l[j] != l[j - 1]):=by unfold ze0;rw[Wd,Wd,Wc hj,Wc (show j - 1 < l.length by omega)];simp;omega
def curI (K l:List Int):List Int:=K++l.drop K.length
theorem zuZ {K l:List Int} (h:K.length≤l.length):(curI K l).length=l.length:=by simp[curI];omega
theorem zAt {K l:List Int} {j:Nat} (h:K.length≤j) (hj:j < l.length):(curI K l)[j]? = some l[j]:=by unfold curI;rw[WP h,WQ,show K.length+(j - K.length)=j by omega,Wc hj]
theorem zsy {K l:List Int} {j:Nat} (h:K.length≤j) (hj:j < l.length):((curI K l).map cI).getD j []=[.int .i64 l[j]]:=by simp[Wd,zAt h hj]
theorem zzt {K l:List Int} {v:Int} (h:K.length < l.length):(curI K l).set K.length v=curI (K++[v]) l:=by unfold curI;rw[WR _ _ (Wa _),Nat.sub_self,Wr h,WS];simp
theorem zyz {K l:List Int} {v:Int} (h:K.length < l.length):((curI K l).map cI).set K.length [.int .i64 v]=(curI (K++[v]) l).map cI:=by rw[←zzt h,List.map_set]
theorem zwL {l:List Int} {n:Nat} (h:n≤l.length):curI (l.take n) l=l:=by unfold curI;rw[Wl,Nat.min_eq_left h,WX]
theorem QV {p q:Prop}(k:q)(h:Im q p:=by(repeat first|simp(disch:=try exact dis1) only[evD,Nat.reduceBEq,Nat.reduceAdd,Nat.reduceLeDiff,zbc] | ((with_reducible apply Im.i);intro _) | ((with_reducible apply Im.a);omega));exact Im.r):p:=h k
theorem Qaz {p:Prop}(h:p:=by(try simp only[evWB,Nat.reduceBEq,Nat.reduceAdd,Nat.reduceSub,Nat.reduceLeDiff,Nat.reduceLT,implies_true,zab])<;>exact fin2):p:=h
theorem zh1 (l:List Int) (g:Nat) (hl:l.length≤100000000000) :
  z7 Tryz.prog zY [.own 0 0 g 0 l.length] [(0,.row 1 (l.map cI) g)] 1
   (fun v H nx=>∃m,v=.own 0 0 g 0 (zab l).length∧H=[(0,.row 1 ((zab l++m).map cI) g)]∧nx=1):=by
 refine z8 (fn_x zhu rfl ?_);unfold zdk;have hB:=hBig
 have fin:∀K m,(∀j,j < l.length→ze0 l j=true)→K=(4,AV.undef)→m=0→zab l=l:=fun K m h _ _=>by unfold zab;rw[zl8 (Wa _) h,Wi]
 (refine Qa ?_;intros)
 (refine zx (fun h=>?_) (fun h=>?_))<;>(try simp only[dcd] at h)
 ·
  (refine QV ?_;intros)
  have hall:∀j,j < l.length→ze0 l j=true:=fun j hj=>by
   have:j=0:=by omega
   subst this;rfl
  have e:=fin (4,.undef) 0 hall rfl rfl;refine⟨.own 0 0 g 0 l.length,[(0,.row 1 ((l++[]).map cI) g)],1,?_,[],by rw[e],by rw[e],rfl⟩;rw[Wf];exact(Ent.tabB [(0,0,0)] [] rfl rfl rfl Qan Qan)
 (refine Qa ?_;intros)
 refine zm (fun i:Nat=>([(0,.own 0 0 g 0 l.length),(3,.int .i64 i)],[(0,.row 1 (l.map cI) g)])) 1 (fun i=>1≤i∧i≤l.length∧∀j,j < i→ze0 l j=true) (fun i=>l.length - i) 1 ⟨by omega,by omega,fun j hj=>(by rw[show j=0 by omega];rfl)⟩ (Ent.tabB [(0,0,0)] [] rfl rfl rfl Qan Qan) ?_;intro i ⟨hi1,hi2,hall⟩ wf;unfold zcu
 (refine Qa ?_;intros)
 (refine zx (fun h2=>?_) (fun h2=>?_))<;>(try simp only[dcd] at h2)
 ·
  have hi':i < l.length:=by omega
  have hi1':i - 1 < l.length:=by omega
  have ei:((i:Int) - 1).toNat=i - 1:=by omega
  (repeat first|simp(disch:=try exact dis1) only[evD,Nat.reduceBEq,Nat.reduceAdd,Nat.reduceLeDiff,zo hi',ei,zo hi1']|with_reducible first|intro _|refine aJ ?_)
  (refine zx (fun h3=>?_) (fun h3=>?_))<;>(try simp only[dcd] at h3)
  ·
   have hne:ze0 l i=false:=by rw[zeX hi1 hi'];simp;omega
   have hk0:zaE l i=l.take i:=zl8 (by omega) hall
   have hk1:zaE l (i+1)=l.take i:=by rw[zsF hne,hk0]
   have hk1l:(zaE l (i+1)).length=i:=by rw[hk1,Wl];omega
   have hstart:curI (zaE l (i+1)) l=l:=by rw[hk1,zwL (by omega)]
   have esl:((l.length:Int) - i).toNat=l.length - i:=by omega
   (repeat first|simp(disch:=try exact dis1) only[evD,Nat.reduceBEq,Nat.reduceAdd,Nat.reduceLeDiff,esl]|with_reducible first|intro _|refine aJ ?_)
   refine zm (fun a:Nat=>([(0,.own 0 0 g 0 l.length),(3,.int .i64 (zaE l (i+a)).length),(4,.own 0 0 g i (l.length - i)),(5,.int .i64 a)],[(0,.row 1 ((curI (zaE l (i+a)) l).map cI) g)])) 1
    (fun a=>1≤a∧i+a≤l.length∧(zaE l (i+a)).length < i+a) (fun a=>l.length - (i+a)) 1 ⟨by omega,by omega,by omega⟩ (Ent.tabB [(0,0,0)] [] rfl rfl rfl (by(try simp only[evWB,Nat.reduceBEq,Nat.reduceAdd,Nat.reduceSub,Nat.reduceLeDiff,Nat.reduceLT,implies_true,hstart,hk1l])<;>exact fin2) (by(try simp only[evWB,Nat.reduceBEq,Nat.reduceAdd,Nat.reduceSub,Nat.reduceLeDiff,Nat.reduceLT,implies_true,hstart,hk1l])<;>exact fin2)) ?_
   intro a ⟨ha1,ha2,ha3⟩ wf;unfold zcs
   (refine Qa ?_;intros)
   (refine zx (fun h4=>?_) (fun h4=>?_))<;>(try simp only[dcd] at h4)
   ·
    have ha':i+a < l.length:=by omega
    have ha1':i+a - 1 < l.length:=by omega
    have e1:i+((a:Int) - 1).toNat=i+a - 1:=by omega
    have g1:=zsy (K:=zaE l (i+a)) (l:=l) (by omega) ha';have g2:=zsy (K:=zaE l (i+a)) (l:=l) (by omega) ha1';have hcl:=zuZ (K:=zaE l (i+a)) (l:=l) (by omega)
    (repeat first|simp(disch:=try exact dis1) only[evD,Nat.reduceBEq,Nat.reduceAdd,Nat.reduceLeDiff,e1,g1,g2]|with_reducible first|intro _|refine aJ ?_)
    (refine zx (fun h5=>?_) (fun h5=>?_))<;>(try simp only[dcd] at h5)
    ·
     have hp:ze0 l (i+a)=true:=by rw[zeX (by omega) ha'];simp;omega
     have hy:=zpA ha' hp;have hst:=zyz (K:=zaE l (i+a)) (l:=l) (v:=l[i+a]) (by omega);rw[←hy] at hst
     have hyl:(zaE l (i+a+1)).length=(zaE l (i+a)).length+1:=by rw[hy];simp
     (repeat first|simp(disch:=try exact dis1) only[evD,Nat.reduceBEq,Nat.reduceAdd,Nat.reduceLeDiff,e1,g1,g2,hst]|with_reducible first|intro _|refine aJ ?_)
     exact⟨a+1,⟨by omega,by omega,by rw[show i+(a+1)=i+a+1 by omega,hyl];omega⟩,by omega,(Ent.tabB [(0,0,0)] [] rfl rfl rfl (by(try simp only[evWB,Nat.reduceBEq,Nat.reduceAdd,Nat.reduceSub,Nat.reduceLeDiff,Nat.reduceLT,implies_true,show i+(a+1)=i+a+1 by omega,hyl])<;>exact fin2) (by(try simp only[evWB,Nat.reduceBEq,Nat.reduceAdd,Nat.reduceSub,Nat.reduceLeDiff,Nat.reduceLT,implies_true,show i+(a+1)=i+a+1 by omega,hyl])<;>exact fin2))⟩
    ·
     have hp:ze0 l (i+a)=false:=by rw[zeX (by omega) ha'];simp;omega
     have hy:=zsF hp
     (refine Qa ?_;intros)
     exact⟨a+1,⟨by omega,by omega,by rw[show i+(a+1)=i+a+1 by omega,hy];omega⟩,by omega,(Ent.tabB [(0,0,0)] [] rfl rfl rfl (by(try simp only[evWB,Nat.reduceBEq,Nat.reduceAdd,Nat.reduceSub,Nat.reduceLeDiff,Nat.reduceLT,implies_true,show i+(a+1)=i+a+1 by omega,hy])<;>exact fin2) (by(try simp only[evWB,Nat.reduceBEq,Nat.reduceAdd,Nat.reduceSub,Nat.reduceLeDiff,Nat.reduceLT,implies_true,show i+(a+1)=i+a+1 by omega,hy])<;>exact fin2))⟩
   ·
    have hia:i+a=l.length:=by omega
    rw[hia] at ha3 ⊢
    have hz:((l.length:Int) - (zaE l l.length).length).toNat=l.length - (zaE l l.length).length:=by omega
    have hcl:=zuZ (K:=zaE l l.length) (l:=l) (by omega)
    have hclr:((curI (zaE l l.length) l).map cI).take (zaE l l.length).length++Wh (l.length - (zaE l l.length).length) [AV.int .i64 0]++((curI (zaE l l.length) l).map cI).drop ((zaE l l.length).length+(l.length - (zaE l l.length).length))=(zaE l l.length++Wh (l.length - (zaE l l.length).length) 0).map cI:=by
     rw[Wm (by rw[Ws,hcl];omega),Wf,←Wj,Wt,Wu]
     congr 2
     unfold curI;rw[WY (Wa _),Wi]
    unfold zcp
    (repeat first|simp(disch:=try exact dis1) only[evD,Nat.reduceBEq,Nat.reduceAdd,Nat.reduceLeDiff,zbc,hz,hclr]|with_reducible first|intro _|refine aJ ?_)
    refine⟨.own 0 0 g 0 (zab l).length,[(0,.row 1 ((zab l++Wh (l.length - (zaE l l.length).length) 0).map cI) g)],1,?_,_,rfl,rfl,rfl⟩;exact(Ent.tabB [(0,0,0)] [] rfl rfl rfl Qaz Qaz)
  ·
   have hne:ze0 l i=true:=by rw[zeX hi1 hi'];simp;omega
   unfold zcw
   (refine Qa ?_;intros)
   refine⟨i+1,⟨by omega,by omega,fun j hj=>?_⟩,by omega,(Ent.tabB [(0,0,0)] [] rfl rfl rfl Qan Qan)⟩
   by_cases hji:j=i
   · subst hji;exact hne
   · exact hall j (by omega)
 ·
  obtain rfl:i=l.length:=by omega
  unfold zct;have e:=fin (4,.undef) 0 hall rfl rfl
  (refine QV ?_;intros)
  refine⟨.own 0 0 g 0 l.length,[(0,.row 1 ((l++[]).map cI) g)],1,?_,[],by rw[e],by rw[e],rfl⟩;rw[Wf];exact(Ent.tabB [(0,0,0)] [] rfl rfl rfl Qan Qan)
theorem zwF {p:Nat→Bool}:∀ {n j:Nat},j < n→p j=false→(filR p n).length < n
 |
  n+1,j,hj,hp=>by
  by_cases h:j=n
  · subst h;rw[zqe hp];have:=zyQ (p:=p) (n:=j);omega
  ·
   have ih:=zwF (n:=n) (by omega) hp
   cases hn:p n with
   | true=>rw[zu1 hn,WW,List.length_singleton];omega
   | false=>rw[zqe hn];omega
theorem zo4 {l:List Int} (hs:l.Pairwise (·≤·)):(zab l).length < l.length↔¬l.Nodup:=by
 constructor
 ·
  intro h hn
  have:zab l=l:=by
   unfold zab;rw[zl8 (Wa _) (fun j hj=>?_),Wi]
   by_cases h0:j=0
   · subst h0;rfl
   ·
    rw[zeX (by omega) hj];have:=W0.1 hn;rw[WG] at this;have:=this (j - 1) j (by omega) hj (by omega);simp only[bne_iff_ne,ne_eq]
    exact fun e=>this e.symm
  rw[this] at h;omega
 ·
  intro hn;unfold zab zaE;rw[Ws]
  have:∃j,j < l.length∧ze0 l j=false:=by
   refine Classical.byContradiction fun hc=>hn ?_
   have hall:∀j,j < l.length→ze0 l j=true:=fun j hj=>by
    cases hk:ze0 l j with
    | true=>rfl
    | false=>exact absurd ⟨j,hj,hk⟩ hc
   rw[W0,WG];intro i j hi hj hij e;have h1:=hall (i+1) (by omega);rw[zeX (by omega) (by omega)] at h1;simp only[W3,bne_iff_ne,ne_eq] at h1;rw[WG] at hs;have h2:=hs i (i+1) hi (by omega) (by omega)
   rcases Nat.lt_or_ge (i+1) j with h3|h3
   · have:=hs (i+1) j (by omega) hj h3;omega
   ·
    obtain rfl:j=i+1:=by omega
    exact h1 e.symm
  obtain⟨j,hj,hp⟩:=this;exact zwF hj hp
theorem znp (l:List Int):decide ((zab (zgx l)).length < (zgx l).length) = !decide l.Nodup:=by
 have h:=zo4 (zdC l);have hp:=(zch l).nodup_iff
 by_cases hn:l.Nodup
 · rw[decide_eq_true hn,decide_eq_false (fun hc=>h.1 hc (hp.2 hn))];rfl
 · rw[decide_eq_false hn,decide_eq_true (h.2 (fun hc=>hn (hp.1 hc)))];rfl
end Go.Ab
namespace Go.Ab
open Go.RowKit Go.Proofs
def zc0 (g:G) (path:List Int):List Int:=zy (blkG g (path.getLast?.getD 0).toNat).stmts
def zc5 (rec:List Int→List (List Int)→Bool × List (List Int)):List Int→List Int→List (List Int)→Bool × List (List Int)
 | [],_,out=>(true,out)
 | b::l,path,out=>if (rec (path++[b]) out).1 then zc5 rec l path (rec (path++[b]) out).2 else (false,(rec (path++[b]) out).2)
def endF (g:G) (most:Int) (path:List Int):Prop:=(zc0 g path).length=0∨(path.length:Int)=most
instance (g:G) (most:Int) (path:List Int):Decidable (endF g most path):=by unfold endF;infer_instance
def zaL (g:G) (most:Int):Nat→List Int→List (List Int)→Bool × List (List Int)
 | 0,path,out=>if endF g most path then (decide (out.length+1≤1024),out++[path]) else (true,out)
 | f+1,path,out=>if endF g most path then (decide (out.length+1≤1024),out++[path]) else zc5 (zaL g most f) (zab (zgx (zc0 g path))) path out
def cP (p:List Int):List AV:=[za p]
def zma (g:G) (most:Int):List AV:=[.iptr 2 fun j=>g.cells.getD j .undef,.iptr 1 fun j=>[AV.int .i64 most].getD j .undef,.ptr 0 0 0 0 0,.ptr 3 0 0 0 0]
def zeL (g:G) (most:Int) (γ γ2:Nat) (out:List (List Int)) (els:List Int):AH :=
 [(0,.row 1 [[.own 1 0 γ 0 out.length]] 0),(1,.row 1 (out.map cP) γ),(2,.row 1 (els.map cI) γ2),(3,.row 1 [[.fn (.func zb0) (zma g most)]] 0)]
theorem zt8 {g:G} {most:Int} {n:Nat} (hn:4≤n):∀a∈zma g most,AV.Below n a:=fun a ha=>by
 unfold zma at ha;simp only[List.mem_cons,List.not_mem_nil,or_false] at ha
 rcases ha with rfl|rfl|rfl|rfl
 · exact .iptr _ _
 · exact .iptr _ _
 · exact .ptr _ _ _ _ _ (by omega)
 · exact .ptr _ _ _ _ _ (by omega)
theorem mapB {α:Type} {n:Nat} {f:α→AV} {l:List α} (h:∀a,AV.Below n (f a)):∀c∈l.map fun a=>[f a],∀v∈c,AV.Below n v:=fun c hc v hv=>by obtain⟨a,_,rfl⟩:=Wn.1 hc;rw[W5.1 hv];exact h a
theorem zgz {g:G} {most:Int} {γ γ2:Nat} {out:List (List Int)} {els:List Int} {n:Nat} (hn:4≤n) (T:AH) (hT:LowH n T):LowH n (zeL g most γ γ2 out els++T):=by unfold zeL;exact .cons (by omega) (zqE (.own _ _ _ _ _ (by omega))) (.cons (by omega) (mapB fun p=>.sl _ _ _) (.cons (by omega) (mapB fun p=>.int _ _) (.cons (by omega) (zqE (.fn _ _ (zt8 hn))) hT)))
theorem put_in {path junk:List Int} {b:Int}:((path++junk).map cI).take (0+path.length)++[[AV.int .i64 b]]++((path++junk).map cI).drop (0+path.length+1)=((path++[b])++junk.drop 1).map cI:=by rw[WD,←Wj,←List.map_drop,WH,←List.drop_drop,List.drop_left];simp[cI]
theorem zBI {path junk:List Int} {b:Int}:(((path++junk).map cI).drop 0).take path.length++[[AV.int .i64 b]]=((path++[b])++[]).map cI:=by rw[List.drop_zero,←Wj,WH];simp[cI]
theorem zrx {rec:List Int→List (List Int)→Bool × List (List Int)} {l:List Int} {i:Nat} (h:i < l.length) {path:List Int} {out:List (List Int)} :
  zc5 rec (l.drop i) path out=if (rec (path++[l[i]]) out).1 then zc5 rec (l.drop (i+1)) path (rec (path++[l[i]]) out).2 else (false,(rec (path++[l[i]]) out).2):=by
 rw[Wr h,zc5]
theorem zmJ {l:List Int} {x:Int} (h:x∈zab l):x∈l:=by
 unfold zab zaE at h;obtain⟨j,hj,rfl⟩:=Wn.1 h;unfold Dm.filR at hj;have hl:=List.mem_range.1 (Wx.1 hj).1
 have e:l.getD j 0=l[j]:=by simp[List.getD,hl]
 rw[e];exact Wk hl
theorem zwX (l junk:List Int) (g:Nat) (hl:l.length≤1000) (h0:l.length≠0):z7 Tryz.prog zw [.own 0 0 g 0 l.length] [(0,.row 1 ((l++junk).map cI) g)] 1
  (fun v H nx=>v=za l∧H=[(0,.row 1 ((l++junk).map cI) g)]∧nx=1):=by
 refine z8 (fn_x zbs rfl ?_);unfold zaH;have hB:=hBig
 have e1:nilB false (.own 0 0 g 0 l.length)=some (some false):=by unfold nilB;simp only[zH h0];rfl
 have hlen:((l++junk).map cI).length=l.length+junk.length:=by simp
 have htk:((l++junk).map cI).take l.length=(l++[]).map cI:=by rw[←Wj,WH,Wf]
 (repeat first|simp(disch:=try exact dis1) only[evD,Nat.reduceBEq,Nat.reduceAdd,Nat.reduceLeDiff,e1,hlen,htk,zF]|with_reducible first|intro _|refine aJ ?_)
 exact⟨_,_,_,Ent.lowFB (Wa _) (fun r o h=>by
  refine Eq.trans (AH.look_app2 r [(0,.row 1 ((l++junk).map cI) g)] _) ?_
  rw[h]) (.cons (by decide) (mapB fun p=>.int _ _) (.nil 1)) ⟨zaV (l:=l) (show 1≤2 by decide) rfl (by omega),trivial⟩,rfl,rfl,rfl⟩
theorem zoK {rec:List Int→List (List Int)→Bool × List (List Int)} (h:∀p o,o.length≤1024→(rec p o).1=true→(rec p o).2.length≤1024):∀(l path:List Int) (out:List (List Int)),out.length≤1024→(zc5 rec l path out).1=true→(zc5 rec l path out).2.length≤1024
 | [],path,out,ho,_=>ho
 |
  b::l,path,out,ho,ht=>by
  rw[zc5] at ht ⊢;split at ht
  · rename_i h1;rw[if_pos h1];exact zoK h l path _ (h _ _ ho h1) ht
  · cases ht
theorem zkS (g:G) (most:Int):∀(f:Nat) (path:List Int) (out:List (List Int)),out.length≤1024→(zaL g most f path out).1=true→(zaL g most f path out).2.length≤1024
 |
  0,path,out,ho,ht=>by
  rw[zaL] at ht ⊢;split at ht
  · rename_i h;rw[if_pos h];simpa using ht
  · rename_i h;rw[if_neg h];exact ho
 |
  f+1,path,out,ho,ht=>by
  rw[zaL] at ht ⊢;split at ht
  · rename_i h;rw[if_pos h];simpa using ht
  · rename_i h;rw[if_neg h];exact zoK (zkS g most f) _ _ _ ho ht
theorem zqV {H:AH} {a b c d:AObj} (h0:H.look 0=some a) (h1:H.look 1=some b) (h2:H.look 2=some c) (h3:H.look 3=some d):∀r o,AH.look [(0,a),(1,b),(2,c),(3,d)] r=some o→H.look r=some o:=fun r o h=>match r,h with
 | 0,h=>h0.trans h
 | 1,h=>h1.trans h
 | 2,h=>h2.trans h
 | 3,h=>h3.trans h
 | _+4,h=>by cases h
theorem zne {H:AH} {a b c d e:AObj} (h0:H.look 0=some a) (h1:H.look 1=some b) (h2:H.look 2=some c) (h3:H.look 3=some d) (h4:H.look 4=some e):∀r o,AH.look [(0,a),(1,b),(2,c),(3,d),(4,e)] r=some o→H.look r=some o:=fun r o h=>match r,h with
 | 0,h=>h0.trans h
 | 1,h=>h1.trans h
 | 2,h=>h2.trans h
 | 3,h=>h3.trans h
 | 4,h=>h4.trans h
 | _+5,h=>by cases h
theorem zs2 {P:Program} {r r2 n γ γ2:Nat} {v:AV} {els:List (List AV)} {d:Option Nat} {rr:Rest} {drop:List Nat} {Q:QT} {K:Kn} {H:AH} {nx:Nat} (hx:H.get r 0=some (.row 1 els γ)) (hy:H.get r2 0=some (.row 1 [[v]] γ2)) (hn:n≤els.length) (hb:(n+1) * 8≤140737488355328)
  (h1:zaI P rr drop Q (setO K d (.own r 0 γ 0 (n+1))) (H.set r 0 (.row 1 (els.take (0+n)++[[v]]++els.drop (0+n+1)) γ)) nx) (h2:zaI P rr drop Q (setO K d (.own nx 0 0 0 (n+1))) (H.set nx 0 (.row 1 ((els.drop 0).take n++[[v]]) 0)) (nx+1)) :
  zzP P 1 8 (.own r 0 γ 0 n) (.own r2 0 γ2 0 1) d rr drop Q K H nx:=by
 unfold zzP zkj
 have e1:zea 1 (.own r2 0 γ2 0 1) H=some [[v]]:=by unfold zea;simp only[hy,zB,Bool.and_self,cond_true];rfl
 have e2:lenV (.own r2 0 γ2 0 1)=some 1:=rfl;simp only[e1,e2,hx];refine⟨⟨trivial,trivial,by omega,?_,hb,by decide⟩,h1,h2⟩;unfold fits;simp only[hy];exact Wa _
theorem zqT {H H2:AH} {σ:Nat→Nat→Option (Nat × Nat × Nat)} {D:Nat→Nat→Prop} {g:G} {most:Int} (h0:σ 0 0=some (0,0,0)) (h3:σ 3 0=some (3,0,0)):VwL H H2 σ D true (zma g most) (zma g most) :=
 ⟨.iptr _ _ _,.iptr _ _ _,.ptr _ _ _ 0 _ _ _ _ _ h0 rfl,.ptr _ _ _ 0 _ _ _ _ _ h3 rfl,trivial⟩
theorem zuX {f:Nat→Nat} {l:List (List Int)} {g:Nat}:AObj.ren f (.row 1 (l.map cP) g)=.row 1 (l.map cP) g:=by
 have e:∀l:List (List Int),(l.map cP).map (fun c=>c.map (AV.ren f))=l.map cP:=fun l=>by
  induction l with
  | nil=>rfl
  |
   cons a l ih =>
   rw[Wv,Wv,ih];simp only[cP,za,encL,Wv,List.map_nil,AV.ren]
 show AObj.row 1 ((l.map cP).map fun c=>c.map (AV.ren f)) g=_;rw[e]
theorem zmc {g:G} {most:Int} {γ γ2:Nat} {out:List (List Int)} {p els:List Int}:zeL g most γ γ2 (out++[p]) els=[(0,.row 1 [[.own 1 0 γ 0 (out.length+1)]] 0),(1,.row 1 (out.map cP++[cP p]) γ),(2,.row 1 (els.map cI) γ2),(3,.row 1 [[.fn (.func zb0) (zma g most)]] 0)]:=by simp[zeL]
theorem zvp {g:G} {most:Int} {γ γ2:Nat} {out:List (List Int)} {els:List Int} {n:Nat} (hn:4≤n):LowH n (zeL g most γ γ2 out els):=by
 have:=zgz (g:=g) (most:=most) (γ:=γ) (γ2:=γ2) (out:=out) (els:=els) hn [] (.nil n)
 simpa using this
theorem retF {g:G} {most:Int} {γ γ' γ2:Nat} {out:List (List Int)} {path junk:List Int} {b:Bool} {H:AH} {nx:Nat} {Q:AV→AH→Nat→Prop} (hH:∀r o,(zeL g most γ' γ2 out (path++junk)).look r=some o→H.look r=some o) (hq:Q (.bool b) (zeL g most γ' γ2 out (path++junk)) 4):zsG 4 Q (.bool b) H nx :=
 ⟨_,_,_,Ent.lowB (Wa _) hH (by have:=zgz (g:=g) (most:=most) (γ:=γ') (γ2:=γ2) (out:=out) (els:=path++junk) (Wa 4) [] (.nil 4);simpa using this) ⟨⟨rfl,.bool _⟩,trivial⟩,hq⟩
theorem QW {p q:Prop}(k:q)(h:Im q p:=by(repeat first|simp(disch:=try exact dis1) only[evD,Nat.reduceBEq,Nat.reduceAdd,Nat.reduceLeDiff,zma] | ((with_reducible apply Im.i);intro _) | ((with_reducible apply Im.a);omega));exact Im.r):p:=h k
theorem QX {p q:Prop}(k:q)(h:Im q p:=by(repeat first|simp(disch:=try exact dis1) only[evD,Nat.reduceBEq,Nat.reduceAdd,Nat.reduceLeDiff,zdq] | ((with_reducible apply Im.i);intro _) | ((with_reducible apply Im.a);omega));exact Im.r):p:=h k
theorem Qap {p:Prop}(h:p:=by(try simp only[evWB,Nat.reduceBEq,Nat.reduceAdd,Nat.reduceSub,Nat.reduceLeDiff,Nat.reduceLT,implies_true,za])<;>exact fin1):p:=h
theorem zod (g:G) (hg:OkG g) (hs:∀b∈g.blocks,(zy b.stmts).length≤1000) (most:Int) (hm:most≤1000):∀(f:Nat) (path junk:List Int) (out:List (List Int)) (γ γ2:Nat),(path.length:Int)+f=most→path.length≠0→(∀b∈path,0≤b∧b < g.blocks.length)→out.length≤1024 →
  ∀Q:AV→AH→Nat→Prop,(∀γ' junk',Q (.bool (zaL g most f path out).1) (zeL g most γ' γ2 (zaL g most f path out).2 (path++junk')) 4)→z7 Tryz.prog zb0 (.own 2 0 γ2 0 path.length::zma g most) (zeL g most γ γ2 out (path++junk)) 4 Q:=by
 intro f
 induction f using Nat.strongRecOn with
 | ind f ih0 =>
 intro path junk out γ γ2 hf hp0 hpr ho Q hQ;refine z8 (fn_x zm2 rfl ?_);unfold ziu;have hB:=hBig;obtain⟨ad,l⟩:=g;simp only[G.cells,zeL,zma];simp only at hs hpr
 have hpl:path.length≤1000:=by omega
 have hlen:((path++junk).map cI).length=path.length+junk.length:=by simp
 have hw1:IntKind.i64.wrap ((path.length:Int) - 1)=(path.length:Int) - 1:=zsd (by omega) (by omega)
 have hidx:(((path.length:Nat):Int) - 1).toNat=path.length - 1:=by omega
 obtain⟨x,hx,hx1⟩:∃x:Nat,path.getLast?.getD 0=(x:Int)∧x < l.length:=by
  have hm:=hpr (path.getLast?.getD 0) (by
   rw[WF,Wc (by omega)]
   exact Wk _)
  exact⟨(path.getLast?.getD 0).toNat,(Int.toNat_of_nonneg hm.1).symm,by have:=hm.2;omega⟩
 have hlast:((path++junk).map cI).getD (path.length - 1) []=[.int .i64 x]:=by rw[zo (f:=cI) (show path.length - 1 < (path++junk).length by simp;omega),WE (by omega),←hx];rw[WF,Wc (by omega)];rfl
 have hmem:=Wk hx1;have hgb:(l.map Bl.cells).getD x []=[.int .u32 l[x].addr,encL 8 St.cells l[x].stmts]:=zo hx1;have hll:=hg.few;have hsh:=hs _ hmem;simp only at hll
 have hnx:zc0 ⟨ad,l⟩ path=zy l[x].stmts:=by unfold zc0 blkG;simp only[hx,WI];simp[List.getD,hx1]
 have hpo:=zeg l[x] (hg.ends _ hmem);simp only[Bl.cells] at hpo
 (refine Ql ?_;intros)
 refine zgI (fun _:Unit=>([(0,.own 2 0 γ2 0 path.length),(2,.iptr 1 fun j=>[AV.int .i64 most].getD j .undef),(3,.ptr 0 0 0 0 0),(4,.ptr 3 0 0 0 0),(7,.own 4 0 0 0 (zy l[x].stmts).length)],zeL ⟨ad,l⟩ most γ γ2 out (path++junk)++[(4,.row 1 ((zy l[x].stmts).map cI) 0)])) 5 (fun _=>True) ?_ ?_
 ·
  (repeat first|simp(disch:=try exact dis1) only[evD,Nat.reduceBEq,Nat.reduceAdd,Nat.reduceLeDiff,fldP,dT,hlen,hw1,hidx,hlast,hgb,List.getD_cons_zero,za,WI]|with_reducible first|intro _|refine aJ ?_)
  (repeat' apply Ww)
  all_goals try omega
  all_goals
   refine zbS (zg hpo rfl) ?_
   (refine Qo ?_;intros)
   refine zbq [] 0 _ (Dm.slices_Clone_ok (zy l[x].stmts) hsh) rfl rfl Qap Qap ?_;rintro v H' nx' ⟨rfl,rfl,rfl⟩
   (refine Qo ?_;intros)
   refine⟨(),Ent.lowB (by decide) (fun r o h=>h) (zgz (by decide) _ (.cons (by decide) (mapB fun p=>.int _ _) (.nil 5))) ?_⟩;exact⟨⟨rfl,.own _ _ _ _ _ (by decide)⟩,⟨rfl,.iptr _ _⟩,⟨rfl,.ptr _ _ _ _ _ (by decide)⟩,⟨rfl,.ptr _ _ _ _ _ (by decide)⟩,⟨rfl,.own _ _ _ _ _ (by decide)⟩,trivial⟩
 ·
  rintro u - wf;clear wf;simp only[zeL,Wp,Wq];unfold zf8;generalize hT:zy l[x].stmts=T at hnx hsh ⊢
  have hlen1:(out.map cP).length=out.length:=by simp
  by_cases hend:endF ⟨ad,l⟩ most path
  ·
   have hR:zaL ⟨ad,l⟩ most f path out=(decide (out.length+1≤1024),out++[path]):=by cases f<;>rw[zaL,if_pos hend]
   rw[hR] at hQ
   have hor:(decide ((T.length:Int)=0)=true)∨(decide ((T.length:Int)=0)=false∧decide ((path.length:Int)=most)=true):=by
    unfold endF at hend;rw[hnx] at hend
    by_cases h:T.length=0
    · exact .inl (by simp[h])
    · exact .inr ⟨by simpa using h,by simpa [h] using hend⟩
   cases hor
   case' inl hd1=>(repeat first|simp(disch:=try exact dis1) only[evD,Nat.reduceBEq,Nat.reduceAdd,Nat.reduceLeDiff,fldP,hd1]|with_reducible first|intro _|refine aJ ?_)
   case' inr hd=>(repeat first|simp(disch:=try exact dis1) only[evD,Nat.reduceBEq,Nat.reduceAdd,Nat.reduceLeDiff,fldP,hd.1,hd.2]|with_reducible first|intro _|refine aJ ?_)
   all_goals
    refine zgI (fun _:Unit=>([(3,.ptr 0 0 0 0 0)],zeL ⟨ad,l⟩ most (γ+1) γ2 (out++[path]) (path++junk))) 4 (fun _=>True) ?_ ?_
    ·
     (refine Ql ?_;intros)
     (repeat' apply Ww)
     all_goals
      refine zbq [(0,2,0)] 1 _ (zwX path junk γ2 hpl hp0) rfl rfl Qao Qao ?_;rintro v H' nx' ⟨rfl,rfl,rfl⟩
      (repeat first|simp(disch:=try exact dis1) only[evD,Nat.reduceBEq,Nat.reduceAdd,Nat.reduceLeDiff,za,hlen1]|with_reducible first|intro _|refine aJ ?_)
      (repeat' apply Ww)
      all_goals try omega
      all_goals exact⟨(),Ent.lowB (Wa _) (by rw[zmc];exact zqV rfl rfl rfl rfl) (zvp (Wa _)) ⟨⟨rfl,.ptr _ _ _ _ _ (by decide)⟩,trivial⟩⟩
    ·
     rintro u - wf;clear wf;rw[zmc];unfold zgC
     (repeat first|simp(disch:=try exact dis1) only[evD,Nat.reduceBEq,Nat.reduceAdd,Nat.reduceLeDiff,fldP,zdq]|with_reducible first|intro _|refine aJ ?_)
     have e:decide (((out.length+1:Nat):Int)≤1024)=decide (out.length+1≤1024):=by rw[Bool.eq_iff_iff,decide_eq_true_eq,decide_eq_true_eq];omega
     rw[e];exact retF (γ:=0) (γ':=γ+1) (out:=out++[path]) (junk:=junk) (by rw[zmc];exact zqV rfl rfl rfl rfl) (hQ _ _)
  ·
   obtain⟨f,rfl⟩:∃f',f=f'+1:=⟨f - 1,by
    have:f≠0:=fun h0=>hend (.inr (by omega))
    omega⟩
   have ih:=ih0 f (Nat.lt_succ_self f)
   have hR:zaL ⟨ad,l⟩ most (f+1) path out=zc5 (zaL ⟨ad,l⟩ most f) (zab (zgx T)) path out:=by rw[zaL,if_neg hend,hnx]
   rw[hR] at hQ
   have hd1:decide ((T.length:Int)=0)=false:=by
    rw[decide_eq_false_iff_not]
    exact fun h=>hend (.inl (by rw[hnx];omega))
   have hd2:decide ((path.length:Int)=most)=false:=by
    rw[decide_eq_false_iff_not]
    exact fun h=>hend (.inr h)
   have hsrt:=fun H nx hr=>zsL (r:=4) (q:=0) (g:=0) (zs:=T) (H:=H) (nx:=nx) hr (by omega)
   have hsl:(zgx T).length=T.length:=(zch T).length_eq
   (repeat first|simp(disch:=try exact dis1) only[evD,Nat.reduceBEq,Nat.reduceAdd,Nat.reduceLeDiff,fldP,hd1,hd2]|with_reducible first|intro _|refine aJ ?_)
   refine zh0 (hsrt _ _ rfl) ?_;rintro v H' nx' he;obtain⟨rfl,rfl,rfl⟩:=he;have hcp:=zh1 (zgx T) 0 (by omega);rw[hsl] at hcp
   (refine Ql ?_;intros)
   refine zbq [(0,4,0)] 1 _ (hcp) rfl rfl Qao Qao ?_;rintro v H' nx' ⟨m,rfl,rfl,rfl⟩;generalize hC:zab (zgx T)=C at hQ ⊢
   have hCm:∀b∈C,0≤b∧b < l.length:=fun b hb=>by rw[←hC] at hb;have h1:=(zch T).mem_iff.1 (zmJ hb);rw[←hT] at h1;exact hg.tgt _ hmem b h1
   have hCl:C.length≤1000:=by rw[←hC];exact Nat.le_trans zpZ (by omega)
   (refine Ql ?_;intros)
   refine zm (fun s:Nat × List (List Int) × Nat × List Int=>([(0,.own 2 0 γ2 0 path.length),(4,.ptr 3 0 0 0 0),(42,.own 4 0 0 0 C.length),(43,.int .i64 C.length),(44,.int .i64 s.1)],zeL ⟨ad,l⟩ most s.2.2.1 γ2 s.2.1 (path++s.2.2.2)++[(4,.row 1 ((C++m).map cI) 0)])) 5
    (fun s=>s.1≤C.length∧s.2.1.length≤1024∧zc5 (zaL ⟨ad,l⟩ most f) (C.drop s.1) path s.2.1=zc5 (zaL ⟨ad,l⟩ most f) C path out) (fun s=>C.length - s.1) (0,out,γ,junk) ⟨We _,ho,rfl⟩ ?_ ?_
   · exact Ent.lowB (by decide) (zne rfl rfl rfl rfl rfl) (zgz (by decide) _ (.cons (by decide) (mapB fun p=>.int _ _) (.nil 5))) ⟨⟨rfl,.own _ _ _ _ _ (by decide)⟩,⟨rfl,.ptr _ _ _ _ _ (by decide)⟩,⟨rfl,.own _ _ _ _ _ (by decide)⟩,⟨rfl,.int _ _⟩,⟨rfl,.int _ _⟩,trivial⟩
   rintro⟨i,out1,γ1,junk1⟩ ⟨hi,ho1,hgo⟩ wf;simp only at hi ho1 hgo;clear wf;unfold zgf;simp only[zeL,Wp,Wq]
   by_cases hil:i < C.length
   ·
    rw[zrx hil] at hgo;have hbm:=hCm C[i] (Wk hil)
    have hgc:((C++m).map cI).getD i []=[.int .i64 C[i]]:=by
     rw[zo (f:=cI) (show i < (C++m).length by simp;omega),WE hil]
     try rfl
    have hcl:((C++m).map cI).length=C.length+m.length:=by simp
    generalize C[i]=b at hgo hbm hgc
    (repeat first|simp(disch:=try exact dis1) only[evD,Nat.reduceBEq,Nat.reduceAdd,Nat.reduceLeDiff,dT,hgc,hcl,WI]|with_reducible first|intro _|refine aJ ?_)
    refine zgI (fun s:Nat × List Int=>([(0,.own 2 0 γ2 0 path.length),(4,.ptr 3 0 0 0 0),(42,.own 4 0 0 0 C.length),(43,.int .i64 C.length),(44,.int .i64 i),(54,.bool (!(zaL ⟨ad,l⟩ most f (path++[b]) out1).1))],zeL ⟨ad,l⟩ most s.1 γ2 (zaL ⟨ad,l⟩ most f (path++[b]) out1).2 (path++s.2)++[(4,.row 1 ((C++m).map cI) 0)])) 5 (fun _=>True) ?_ ?_
    ·
     have hpl1:(path++[b]).length=path.length+1:=by simp
     have hcal:∀junk γ2,z7 Tryz.prog zb0 (.own 2 0 γ2 0 (path.length+1)::zma ⟨ad,l⟩ most) (zeL ⟨ad,l⟩ most γ1 γ2 out1 ((path++[b])++junk)) 4
       (fun v H nx=>v=.bool (zaL ⟨ad,l⟩ most f (path++[b]) out1).1∧∃γ' junk',H=zeL ⟨ad,l⟩ most γ' γ2 (zaL ⟨ad,l⟩ most f (path++[b]) out1).2 ((path++[b])++junk')∧nx=4):=fun junk γ2=>by
      have:=ih (path++[b]) junk out1 γ1 γ2 (by rw[hpl1];omega) (by omega) (fun c hc=>by
       rcases WA.1 hc with hc|hc
       · exact hpr c hc
       · rw[W5.1 hc];exact hbm) ho1 (fun v H nx=>v=.bool (zaL ⟨ad,l⟩ most f (path++[b]) out1).1∧∃γ' junk',H=zeL ⟨ad,l⟩ most γ' γ2 (zaL ⟨ad,l⟩ most f (path++[b]) out1).2 ((path++[b])++junk')∧nx=4) (fun γ' junk'=>⟨rfl,γ',junk',rfl,rfl⟩)
      rw[hpl1] at this;exact this
     generalize zaL ⟨ad,l⟩ most f (path++[b]) out1=R at hcal hgo ⊢
     (refine Qa ?_;intros)
     (repeat' with_reducible apply Ww)
     all_goals
      refine zs2 rfl rfl (by simp) (by omega) ?_ ?_
      ·
       rw[put_in]
       (refine Qa ?_;intros)
       refine⟨by kernel_rfl,?_⟩;refine zbq [(0,0,0),(1,1,0),(2,2,0),(3,3,0)] 4 _ (hcal (junk1.drop 1) γ2) rfl rfl ?_ ?_ ?_
       · simp only[evWB,Nat.reduceBEq,Nat.reduceAdd,Nat.reduceSub,Nat.reduceLeDiff,Nat.reduceLT,implies_true,zeL];exact⟨RowV.of_flat (zfU fun _=>rfl),zqT rfl rfl⟩
       · simp only[evWB,Nat.reduceBEq,Nat.reduceAdd,Nat.reduceSub,Nat.reduceLeDiff,Nat.reduceLT,implies_true];exact zqT rfl rfl
       rintro v H' nx' ⟨rfl,γ',junk',rfl,rfl⟩
       have e:path++[b]++junk'=path++(b::junk'):=by simp
       rw[e];simp only[zeL]
       (refine QW ?_;intros)
       exact⟨(γ',b::junk'),Ent.lowB (by decide) (zne rfl (congrArg some zuX) rfl rfl rfl) (zgz (by decide) _ (.cons (by decide) (mapB fun p=>.int _ _) (.nil 5))) ⟨⟨rfl,.own _ _ _ _ _ (by decide)⟩,⟨rfl,.ptr _ _ _ _ _ (by decide)⟩,⟨rfl,.own _ _ _ _ _ (by decide)⟩,⟨rfl,.int _ _⟩,⟨rfl,.int _ _⟩,⟨rfl,.bool _⟩,trivial⟩⟩
      ·
       rw[zBI]
       (refine Qa ?_;intros)
       refine⟨by kernel_rfl,?_⟩;refine zbq [(0,0,0),(1,1,0),(2,6,0),(3,3,0)] 4 _ (hcal [] 0) rfl rfl ?_ ?_ ?_
       · simp only[evWB,Nat.reduceBEq,Nat.reduceAdd,Nat.reduceSub,Nat.reduceLeDiff,Nat.reduceLT,implies_true,zeL];exact⟨RowV.of_flat (zfU fun _=>rfl),zqT rfl rfl⟩
       · simp only[evWB,Nat.reduceBEq,Nat.reduceAdd,Nat.reduceSub,Nat.reduceLeDiff,Nat.reduceLT,implies_true];exact zqT rfl rfl
       rintro v H' nx' ⟨rfl,γ',junk',rfl,rfl⟩;simp only[zeL]
       (refine QW ?_;intros)
       exact⟨(γ',junk1),Ent.lowB (by decide) (zne rfl (congrArg some zuX) rfl rfl rfl) (zgz (by decide) _ (.cons (by decide) (mapB fun p=>.int _ _) (.nil 5))) ⟨⟨rfl,.own _ _ _ _ _ (by decide)⟩,⟨rfl,.ptr _ _ _ _ _ (by decide)⟩,⟨rfl,.own _ _ _ _ _ (by decide)⟩,⟨rfl,.int _ _⟩,⟨rfl,.int _ _⟩,⟨rfl,.bool _⟩,trivial⟩⟩
    ·
     rintro⟨γ',junk'⟩ - wf;clear wf;unfold zgb;have hRl:=zkS ⟨ad,l⟩ most f (path++[b]) out1 ho1;generalize zaL ⟨ad,l⟩ most f (path++[b]) out1=R at hgo hRl ⊢;obtain⟨ok,out2⟩:=R;simp only[zeL,Wp,Wq] at hgo hRl ⊢
     cases ok with
     |
      true =>
      rw[if_pos rfl] at hgo
      (refine Qa ?_;intros)
      exact⟨(i+1,out2,γ',junk'),⟨hil,hRl rfl,hgo⟩,by dsimp only;omega,Ent.lowB (by decide) (zne rfl rfl rfl rfl rfl) (zgz (by decide) _ (.cons (by decide) (mapB fun p=>.int _ _) (.nil 5))) ⟨⟨rfl,.own _ _ _ _ _ (by decide)⟩,⟨rfl,.ptr _ _ _ _ _ (by decide)⟩,⟨rfl,.own _ _ _ _ _ (by decide)⟩,⟨rfl,.int _ _⟩,⟨rfl,.int _ _⟩,trivial⟩⟩
     |
      false =>
      rw[if_neg (by decide)] at hgo;rw[←hgo] at hQ
      (refine QX ?_;intros)
      exact retF (γ:=0) (γ':=γ') (out:=out2) (junk:=junk') (zqV rfl rfl rfl rfl) (hQ _ _)
   ·
    obtain rfl:i=C.length:=by omega
    rw[List.drop_length,zc5] at hgo;rw[←hgo] at hQ
    (refine Qk ?_;intros)
    unfold zgd
    (refine QX ?_;intros)
    exact retF (γ:=0) (γ':=γ1) (out:=out1) (junk:=junk1) (zqV rfl rfl rfl rfl) (hQ _ _)
theorem zqw (c1 c2:AV) (cs:List Int) (h1:c1.flat0=true) (h2:c2.flat0=true):z7 Tryz.prog zjf [.agg [c1,c2],encL 1 cW cs] [] 0 (fun v H nx=>v=.fn (.func zbt) [.iptr 1 fun j=>[encL 1 cW cs].getD j .undef,.iptr 2 fun j=>[c1,c2].getD j .undef]∧H=[]∧nx=0):=by
 refine fn_x zq9 rfl ?_;unfold zk9;have hB:=hBig
 (repeat first|simp(disch:=try exact dis1) only[evD,Nat.reduceBEq,Nat.reduceAdd,Nat.reduceLeDiff,za,zlD,h1,h2,Bool.and_self]|with_reducible first|intro _|refine aJ ?_)
def cntB (l:List Bl):Nat:=(l.map fun b=>b.stmts.length).sum
theorem zrz {l:List Bl} {i:Nat} (h:i < l.length):cntB (l.take (i+1))=cntB (l.take i)+l[i].stmts.length:=by rw[List.take_succ_eq_append_getElem h];unfold cntB;rw[Wt,List.sum_append];simp only[Wv,List.map_nil,List.sum_cons,List.sum_nil,Nat.add_zero]
def zbi (g:G):Int:=if 256 < g.blocks.length∨1024 < cntB g.blocks then 6 else zmv g
structure manyB (g:G):Prop where
 blocks:g.blocks.length≤1000000
 stmts:∀b∈g.blocks,b.stmts.length≤1000000
theorem QY {p q:Prop}(k:q)(h:Im q p:=by(repeat first|simp(disch:=try exact dis1) only[evD,Nat.reduceBEq,Nat.reduceAdd,Nat.reduceLeDiff,fldP,dT,zaW] | ((with_reducible apply Im.i);intro _) | ((with_reducible apply Im.a);omega));exact Im.r):p:=h k
theorem QZ {p q:Prop}(k:q)(h:Im q p:=by(repeat first|simp(disch:=try exact dis1) only[evD,Nat.reduceBEq,Nat.reduceAdd,Nat.reduceLeDiff,zaW] | ((with_reducible apply Im.i);intro _) | ((with_reducible apply Im.a);omega));exact Im.r):p:=h k
theorem zlO (g:G) (hf:manyB g):zk Tryz.prog zfn [.agg g.cells] (·=.int .i64 (zbi g)):=by
 refine fn_x zml rfl ?_;unfold zhS;have hB:=hBig;obtain⟨hb,hs⟩:=hf;obtain⟨ad,l⟩:=g;simp only at hb hs;simp only[G.cells,zbi,zmv]
 by_cases h256:256 < l.length
 ·
  rw[if_pos (.inl h256)]
  (refine QY ?_;intros)
  exact⟨_,.int _ _ _,rfl⟩
 (refine Qi ?_;intros)
 refine zm (fun s:Nat × Nat=>([(1,encP 2 [.int .u32 ad,encL 2 Bl.cells l]),(3,.int .i64 s.2),(4,.int .i64 s.1)],[])) 0 (fun s=>s.1≤l.length∧s.2=cntB (l.take s.1)∧s.2≤1000000 * s.1) (fun s=>l.length - s.1) (0,0) ⟨We _,rfl,Wa _⟩ (Ent.keep rfl fin5) ?_;rintro⟨i,n⟩ ⟨hi,hn0,hn⟩ wf;simp only at hi hn0 hn;unfold zfP
 by_cases hl:i < l.length
 ·
  have hg:(l.map Bl.cells).getD i []=[.int .u32 l[i].addr,encL 8 St.cells l[i].stmts]:=zo hl;have hsl:=hs l[i] (Wk hl)
  (repeat first|simp(disch:=try exact dis1) only[evD,Nat.reduceBEq,Nat.reduceAdd,Nat.reduceLeDiff,fldP,dT,hg]|with_reducible first|intro _|refine aJ ?_)
  exact⟨(i+1,n+l[i].stmts.length),⟨by simp only;omega,by simp only;rw[zrz hl];omega,by simp only;omega⟩,by simp only;omega,Ent.keep rfl fin5⟩
 obtain rfl:i=l.length:=by omega
 rw[Wi] at hn0
 (refine Qi ?_;intros)
 unfold zfM
 by_cases h1024:1024 < cntB l
 ·
  rw[if_pos (.inr h1024)]
  (refine QY ?_;intros)
  exact⟨_,.int _ _ _,rfl⟩
 rw[if_neg (by omega)]
 by_cases h0:l.length=0
 ·
  obtain rfl:l=[]:=WC h0
  (repeat first|simp(disch:=try exact dis1) only[evD,Nat.reduceBEq,Nat.reduceAdd,Nat.reduceLeDiff,fldP,dT,dF,List.length_nil,zaW]|with_reducible first|intro _|refine aJ ?_)
  exact⟨_,.int _ _ _,rfl⟩
 have he:l.isEmpty=false:=by cases l with|nil=>simp at h0|cons a l=>rfl
 rw[he]
 (refine Qi ?_;intros)
 refine zm (fun i:Nat=>([(1,encP 2 [.int .u32 ad,encL 2 Bl.cells l]),(5,.int .i64 i)],[])) 0 (fun i=>i≤l.length∧((l.drop i).all fun b=>zdx b.stmts l.length)=(l.all fun b=>zdx b.stmts l.length)) (fun i=>l.length - i) 0 ⟨We _,rfl⟩ (Ent.keep rfl fin5) ?_;rintro i ⟨hi,hgo⟩ wf;unfold zfR
 by_cases hl:i < l.length
 ·
  have hg:(l.map Bl.cells).getD i []=[.int .u32 l[i].addr,encL 8 St.cells l[i].stmts]:=zo hl;rw[Wr hl,WB] at hgo
  (repeat first|simp(disch:=try exact dis1) only[evD,Nat.reduceBEq,Nat.reduceAdd,Nat.reduceLeDiff,fldP,dT,hg]|with_reducible first|intro _|refine aJ ?_)
  refine zbS (zg (znt l[i] l.length) rfl) ?_
  cases hc:zdx l[i].stmts l.length with
  |
   true =>
   rw[hc,Bool.true_and] at hgo
   (refine Qa ?_;intros)
   exact⟨i+1,⟨by omega,hgo⟩,by omega,Ent.keep rfl fin5⟩
  |
   false =>
   rw[hc,Bool.false_and] at hgo;rw[←hgo]
   (refine QZ ?_;intros)
   exact⟨_,.int _ _ _,rfl⟩
 rw[Wm (by omega)] at hgo
 replace hgo:(l.all fun b=>zdx b.stmts l.length)=true:=by rw[←hgo];rfl
 rw[hgo]
 (refine Qi ?_;intros)
 unfold zfI
 (refine Qa ?_;intros)
 refine zm (fun i:Nat=>([(1,encP 2 [.int .u32 ad,encL 2 Bl.cells l]),(6,.int .i64 i)],[])) 0 (fun i=>i≤l.length∧zjl (l.drop i)=zjl l) (fun i=>l.length - i) 0 ⟨We _,rfl⟩ (Ent.keep rfl fin5) ?_;rintro i ⟨hi,hgo⟩ wf;unfold zfs
 by_cases hl:i < l.length
 ·
  have hg:(l.map Bl.cells).getD i []=[.int .u32 l[i].addr,encL 8 St.cells l[i].stmts]:=zo hl;rw[zor hl] at hgo
  (repeat first|simp(disch:=try exact dis1) only[evD,Nat.reduceBEq,Nat.reduceAdd,Nat.reduceLeDiff,fldP,dT,hg]|with_reducible first|intro _|refine aJ ?_)
  generalize l[i].stmts=m at hg hgo;generalize l[i].addr=ad' at hg;refine zm (fun j:Nat=>([(1,encP 2 [.int .u32 ad,encL 2 Bl.cells l]),(6,.int .i64 i),(7,.int .i64 j)],[])) 0 (fun j=>j≤m.length∧zgZ (m.drop j)=zgZ m) (fun j=>m.length - j) 0 ⟨We _,rfl⟩ (Ent.keep rfl fin5) ?_;rintro j ⟨hj,hgo2⟩ wf2;unfold zfK
  by_cases hm:j < m.length
  ·
   rw[zoU hm] at hgo2
   (repeat first|simp(disch:=try exact dis1) only[evD,Nat.reduceBEq,Nat.reduceAdd,Nat.reduceLeDiff,fldP,dT,hg,zo hm,St.len,St.eight]|with_reducible first|intro _|refine aJ ?_)
   refine zc (zg (zmW m[j]) rfl) ?_
   by_cases hx:m[j].check=0
   ·
    rw[if_neg (by omega)] at hgo2
    (refine Qk ?_;intros)
    exact⟨j+1,⟨by omega,hgo2⟩,by omega,Ent.keep rfl fin5⟩
   ·
    rw[if_pos hx] at hgo2;rw[←hgo2,if_pos hx] at hgo;rw[←hgo]
    (repeat first|simp(disch:=try exact dis1) only[evD,Nat.reduceBEq,Nat.reduceAdd,Nat.reduceLeDiff,dT,zaW]|with_reducible first|intro _|refine aJ ?_)
    exact⟨_,.int _ _ _,rfl⟩
  ·
   rw[Wm (by omega),zgZ] at hgo2;rw[←hgo2,if_neg (by omega)] at hgo
   (repeat first|simp(disch:=try exact dis1) only[evD,Nat.reduceBEq,Nat.reduceAdd,Nat.reduceLeDiff,fldP,dF,hg]|with_reducible first|intro _|refine aJ ?_)
   unfold zfH
   (refine Qa ?_;intros)
   exact⟨i+1,⟨by omega,hgo⟩,by omega,Ent.keep rfl fin5⟩
 rw[Wm (by omega),zjl] at hgo;rw[←hgo]
 (refine Qi ?_;intros)
 unfold zfw
 (refine QZ ?_;intros)
 exact⟨_,.int _ _ _,rfl⟩
theorem zmN:∀(l:List St) (h:l.length - 1 < l.length),zg6 l=(zlQ (l[l.length - 1]'h) && !((l.take (l.length - 1)).any zlQ))
 | [],h=>by simp at h
 |
  [x],h=>by
  rw[zg6,zg6];simp
 |
  x::y::l,h=>by
  have ih:=zmN (y::l) (by simp);rw[zg6,ih];simp only[List.length_cons,W3,List.isEmpty_cons,List.take_succ_cons,List.any_cons];have e:(x::y::l)[l.length+1]=(y::l)[l.length]:=rfl;rw[e]
  cases zlQ x<;>cases zlQ (y::l)[l.length]<;>simp
theorem zzy {α:Type} {f:α→List AV} {H H2:AH} {σ:Nat→Nat→Option (Nat × Nat × Nat)} {D:Nat→Nat→Prop} {t:Bool} {l:List α} {sz i n z:Nat} (hi:i≤l.length) (hn:n=i) (hz:z=0) (hf:∀a,zt (f a)=true) :
  Vw H H2 σ D t (.sl sz n (fun a j=>((l.map f).getD (z+a) []).getD j .undef)) (encL sz f (l.take i)):=by
 subst hn hz
 have e:(l.take n).length=n:=by rw[Wl];omega
 unfold encL;rw[e];refine .slf _ _ _ _ _ (fun a j ha hj=>?_)
 have e2:(List.map f (List.take n l)).getD a []=(l.map f).getD (0+a) []:=by rw[WD,Wj,Wd,List.getElem?_take_of_lt ha,Wd]
 rw[e2,zo (show 0+a < l.length by omega),Wd]
 cases hx:(f l[0+a])[j]? with
 | none=>exact .undef _ _
 | some x=>exact zco (zby (hf _) hx)
theorem zpE (l:List St):PredT (.fn (.func zcJ) []) l zlQ:=⟨_,_,rfl,by kernel_rfl,rfl,fun s _=>ziI s⟩
theorem QG {p q:Prop}(k:q)(h:Im q p:=by(repeat first|simp(disch:=try exact dis1) only[evD,Nat.reduceBEq,Nat.reduceAdd,Nat.reduceLeDiff,fldP,dT,dF,zeT] | ((with_reducible apply Im.i);intro _) | ((with_reducible apply Im.a);omega));exact Im.r):p:=h k
theorem zpi (t ad:Int) (l:List Bl):zk Tryz.prog zfT [.int .i64 t,encP 2 [.int .u32 ad,encL 2 Bl.cells l]] (·=.bool (!inN l.length t)):=by
 refine fn_x zo0 rfl ?_;unfold zke inN;have hB:=hBig
 by_cases h0:0≤t
 ·
  by_cases h1:t < l.length
  ·
   rw[decide_eq_true ⟨h0,h1⟩]
   (refine QG ?_;intros)
   exact⟨_,.bool _ _,rfl⟩
  ·
   rw[decide_eq_false (fun h=>h1 h.2)]
   (refine QG ?_;intros)
   exact⟨_,.bool _ _,rfl⟩
 ·
  rw[decide_eq_false (fun h=>h0 h.1)]
  (refine QG ?_;intros)
  exact⟨_,.bool _ _,rfl⟩
theorem zmM (ad:Int) (l:List Bl) (m:List Int):PredI (.fn (.func zfT) [encP 2 [.int .u32 ad,encL 2 Bl.cells l]]) m (fun t => !inN l.length t):=⟨_,_,rfl,by kernel_rfl,rfl,fun s _=>zpi s ad l⟩
end Go.Ab
