/-
  Part 3 of the proof: how the calls of this program run, over values instead of memory, and what each function computes.
-/
import Derived.Deep.LoopGhost
import Derived.Scope
import Derived.ScopeJumps
import Derived.IntWalk
import Derived.Test.YtdhlfajcofgpkaaGreatKb
set_option maxRecDepth 100000
set_option linter.unusedVariables false
set_option linter.unusedSimpArgs false
set_option linter.unnecessarySimpa false
set_option linter.unusedSectionVars false
open Option renaming bind_eq_some_iff→Wa,bind_eq_bind→We,map_eq_some_iff→Ws
open Nat renaming beq→Wb,le_refl→Wj,blt→Wl,zero_le→Wr,eq_zero_or_pos→Ww,le_of_ble_eq_true→WC
open List renaming getElem?_eq_getElem→Wc,replicate→Wf,getD→Wi,range→Wk,getElem?_map→Wm,mem_append→Wn,all_eq_true→Wo,mem_filter→Wp,mem_range→Wq,flatMap_cons→Wt,mapM_cons→Wv,getElem?_eq_some_iff→Wx,mem_of_getElem?→Wy,getElem?_eq_none→WB,getD_eq_getElem?_getD→WD,getElem_mem→WE
open Option.some renaming injEq→Wd
open Bool renaming and_eq_true→Wg,not_eq_true'→Wh,false_ne_true→Wz
open Array renaming getD_eq_getD_getElem?→Wu,getElem?_eq_getElem→WA
namespace Go.Ab
open Go.RowKit
section
variable {P:Program} {L:Nat→Prop} {nt:Nat} {w0:World} {ι0:Inj} {H0:AH} {B:Nat}
def QQ (nt:Nat) (w0:World) (L:Nat→Prop) (ι0:Inj) (H0:AH) (B:Nat) (Q:QT):Exit→Act→World→Prop:=fun e a w =>
 ∃ι K H nx,In nt w0 L ι0 H0 B w ι (Kn.get K) H nx a∧match e with
  | .normal=>Q .normal K H nx
  | .exit id=>Q (.exit id) K H nx
  | .ret=>Q .ret K H nx
  | .goto l=>Q (.goto l) K H nx
  | _=>False
theorem In.drop {w:World} {ι:Inj} {K:Kn} {H:AH} {nx:Nat} {a:Act} (h:In nt w0 L ι0 H0 B w ι K.get H nx a) (l:List Nat):In nt w0 L ι0 H0 B w ι (K.drop l).get H nx a:=by
 refine⟨h.size,h.defers,h.st,h.le,fun i=>?_⟩
 rcases Kn.get_drop K l i with h1|h1
 · rw[h1];exact .undef _ _
 · rw[h1];exact h.kn i
theorem In.ent (base:RelH w0 L ι0 H0 B) {w:World} {ι:Inj} {K K2:Kn} {H H2:AH} {nx nx2:Nat} {a:Act} (h:In nt w0 L ι0 H0 B w ι K.get H nx a) (he:Ent B K H nx K2 H2 nx2) :
  ∃ι2,In nt w0 L ι0 H0 B w ι2 K2.get H2 nx2 a:=by
 obtain⟨h1,h2⟩:=he;obtain⟨ι2,h3,h4,h5,h6⟩:=h2 w L ι a.tmps h.st.rel h.kn;refine⟨ι2,h.size,h.defers,⟨h.st.ext,fun r q g l hl=>h6 r q g l (base.idx _ _ _ _ hl) (h.st.inj _ _ _ _ hl),h3,fun b hb=>h.st.lv b (h5 b hb)⟩,h1,h4⟩
theorem In.wfK {w:World} {ι:Inj} {K:Kn} {H:AH} {nx:Nat} {a:Act} (h:In nt w0 L ι0 H0 B w ι K.get H nx a):WfK K:=fun i=>(h.kn i).wf
theorem zno {ops:Array Oper} {drop:List Nat} {Q:QT}:∀(l:List Oper) (asv:List AOper),asv.length=l.length→(∀(i:Nat) (o:Oper) (ao:AOper),l[i]? = some o→asv[i]? = some ao→OpRel P nt ops o ao) →
  ∀ {w:World} {ι:Inj} {K:Kn} {H:AH} {nx:Nat} {a:Act},In nt w0 L ι0 H0 B w ι K.get H nx a→aops P asv drop Q K H nx→wpList P ops (QQ nt w0 L ι0 H0 B Q) l a w
 | [],[],_,_,w,ι,K,H,nx,a,hin,h=>⟨ι,K.drop drop,H,nx,hin.drop drop,h⟩
 |
  o::l,ao::asv,hl,hr,w,ι,K,H,nx,a,hin,h=>by
  have h1:=hr 0 o ao rfl rfl;have hex:=zsT (k':=fun ρ H nx=>∃K',Kn.get K'=ρ∧aops P asv drop Q K' H nx) (fun K H nx hh=>⟨K,rfl,hh⟩) h
  have:=zmS h1 hin hex (Kc:=wpList P ops (QQ nt w0 L ι0 H0 B Q) l) (Qc:=QQ nt w0 L ι0 H0 B Q) (fun w' ι' ρ' H' nx' a' hin' ⟨K',hK',hh⟩=>by
   subst hK'
   exact zno l asv (by simpa using hl) (fun i o ao h1 h2=>hr (i+1) o ao (by simpa using h1) (by simpa using h2)) hin' hh)
  unfold wpList;split
  · rename_i hw;rw[if_pos hw] at this;exact .inl this
  · rename_i hw;rw[if_neg hw] at this;exact this
theorem ztn {ops:Array Oper}:∀ {l:List Oper} {asv:List AOper},l.mapM (zBm P nt ops)=some asv→asv.length=l.length∧∀(i:Nat) (o:Oper) (ao:AOper),l[i]? = some o→asv[i]? = some ao→OpRel P nt ops o ao:=by intro l asv h;refine⟨zgO.mapM_len _ _ _ h,fun i o ao h1 h2=>zBQ (zgO.mapM_get _ _ _ h i o ao h1 h2)⟩
def zvJ (P:Program):Prop:=∀(nt:Nat) (w0:World) (L:Nat→Prop) (ι0:Inj) (H0:AH) (B:Nat) (id:Nat) (ops:Array Oper) (bs:List AOper) (drop:List Nat) (Q:QT),
 bs.length=ops.size→(∀(i:Nat) (o:Oper) (ao:AOper),ops.toList[i]? = some o→bs[i]? = some ao→OpRel P nt ops o ao)→P.follows .mixedOrders=true →
 ((Wk ops.size).all fun j=>((ops.toList.map zcW).getD j []).all fun i=>Wl i j)=true →
 ∀(w:World) (ι:Inj) (K:Kn) (H:AH) (nx:Nat) (a:Act),In nt w0 L ι0 H0 B w ι K.get H nx a →
  awpT P (ze4 bs (ops.toList.map zcW) ops.size (Wf ops.size false)) drop Q K H nx→(Code.region id ops true).wp P (QQ nt w0 L ι0 H0 B Q) a w
theorem zhx (q:List Nat):∀(k:Nat) (asv:List AOper),(zeB q k asv).length=asv.length
 | _,[]=>rfl
 | k,o::r=>by simp[zeB,zhx q (k+1) r]
theorem zlD (q:List Nat):∀(k:Nat) (asv:List AOper) (i:Nat) (b:AOper),(zeB q k asv)[i]? = some b→∃a,asv[i]? = some a∧(b=a∨b=a.quiet)
 | _,[],i,b,h=>by simp[zeB] at h
 |
  k,o::r,0,b,h=>by
  simp only[zeB,List.getElem?_cons_zero,Wd] at h;refine⟨o,rfl,?_⟩
  cases hm:memN q k<;>rw[hm] at h
  · exact .inl h.symm
  · exact .inr h.symm
 |
  k,o::r,i+1,b,h=>by
  simp only[zeB,List.getElem?_cons_succ] at h
  simpa using zlD q (k+1) r i b h
noncomputable def ziE (G:Nat→Act→World→Prop) (a:Act) (w:World):Nat:=open Classical in if h:∃n,G n a w∧∀m,G m a w→n≤m then Classical.choose h else 0
theorem zDZ {p:Nat→Prop} (h:∃n,p n):∃n,p n∧∀m,p m→n≤m:=by
 obtain⟨n,hn⟩:=h
 induction n using Nat.strongRecOn with
 |
  _ n ih =>
  by_cases hs:∃m,m < n∧p m
  · obtain⟨m,h1,h2⟩:=hs;exact ih m h1 h2
  · exact⟨n,hn,fun m hm=>by
    rcases Nat.lt_or_ge m n with h|h
    · exact absurd ⟨m,h,hm⟩ hs
    · exact h⟩
theorem zot {G:Nat→Act→World→Prop} {a:Act} {w:World} (h:∃n,G n a w):G (ziE G a w) a w∧∀m,G m a w→ziE G a w≤m:=by
 have hex:=zDZ h
 have e:ziE G a w=Classical.choose hex:=by unfold ziE;rw[dif_pos hex]
 rw[e];exact Classical.choose_spec hex
theorem zoa {G:Nat→Act→World→Prop} {a:Act} {w:World} (h:∃n,G n a w):G (ziE G a w) a w:=(zot h).1
theorem zrs {G:Nat→Act→World→Prop} {a:Act} {w:World} {n:Nat} (h:G n a w):ziE G a w≤n:=(zot ⟨n,h⟩).2 n h
theorem zwY {a x:ACode} (h:zwo a=some (.scope x)):a=x:=by
 unfold zwo at h;split at h
 · cases h;rfl
 · split at h<;>cases h
theorem zzX {a x y:ACode} {l:Nat} (h:zwo a=some (.jump l x y)):a=x∧zqe a l=some y:=by
 unfold zwo at h;split at h
 · cases h
 ·
  split at h
  · rename_i hf;cases h;exact⟨rfl,hf⟩
  · cases h
theorem zbq {a x:ACode} (h:zwo a=some x):match x with | .scope _=>True | .jump _ _ _=>True|_=>False:=by
 unfold zwo at h;split at h
 · cases h;trivial
 ·
  split at h<;>cases h
  trivial
theorem zq9 {q:Nat→List Nat}:∀ {c:Code} {x:ACode} {l:Nat} {rest:Code},comp P nt q c=some x→findLabel c l=some rest→∃y,zqe x l=some y:=by
 intro c
 induction c with
 |
  seq a b iha ihb =>
  intro x l rest hc hf;simp only[comp,We,Wa,Wd] at hc;obtain⟨x',hx,y',hy,rfl⟩:=hc;simp only[findLabel] at hf;simp only[zqe];split at hf
  · rename_i r hr;obtain⟨y,h1⟩:=iha hx hr;exact⟨_,by rw[h1]⟩
  ·
   obtain⟨y,h1⟩:=ihb hy hf
   cases h2:zqe x' l with
   | none=>exact⟨y,h1⟩
   | some r=>exact⟨_,rfl⟩
 |
  label l' =>
  intro x l rest hc hf;simp only[comp,Wd] at hc;subst hc;simp only[findLabel] at hf;split at hf
  ·
   rename_i h
   have:l'=l:=by simpa using h
   subst this;exact⟨.skip,by simp[zqe]⟩
  · cases hf
 | _=>intro x l rest hc hf;cases hf
theorem zz3 {q:Nat→List Nat}:∀ {c:Code} {x y:ACode} {l:Nat},comp P nt q c=some x→zqe x l=some y→∃rest,findLabel c l=some rest∧comp P nt q rest=some y:=by
 intro c
 induction c with
 |
  seq a b iha ihb =>
  intro x y l hc hf;simp only[comp,We,Wa,Wd] at hc;obtain⟨x',hx,y',hy,rfl⟩:=hc;simp only[zqe] at hf;split at hf
  · rename_i r hr;cases hf;obtain⟨rest,h1,h2⟩:=iha hx hr;exact⟨.seq rest b,by simp[findLabel,h1],by simp[comp,h2,hy]⟩
  ·
   rename_i hr;obtain⟨rest,h1,h2⟩:=ihb hy hf;refine⟨rest,?_,h2⟩
   have hno:findLabel a l=none:=by
    cases hfa:findLabel a l with
    | none=>rfl
    |
     some rest' =>
     obtain⟨y2,h3⟩:=zq9 hx hfa;rw[hr] at h3;cases h3
   simp[findLabel,hno,h1]
 |
  label l' =>
  intro x y l hc hf;simp only[comp,Wd] at hc;subst hc;simp only[zqe] at hf
  cases hb:Wb l' l with
  |
   true =>
   rw[hb] at hf;cases hf;exact⟨.skip,by simp[findLabel,zl hb],rfl⟩
  | false=>rw[hb] at hf;cases hf
 |
  _ =>
  intro x y l hc hf;exfalso;simp only[comp] at hc
  first
  | (cases hc;cases hf;done)
  | (
    obtain⟨x',hx,he⟩:=Wa.1 hc;have:=zbq he
    cases x<;>first | (cases hf;done)|exact this)
  | (
    simp only[We,Wa,Wd] at hc;obtain⟨_,_,rfl⟩:=hc
    cases hf)
  | (
    simp only[We,Wa,Wd] at hc;obtain⟨_,_,_,_,_,_,rfl⟩:=hc
    cases hf)
  | ((repeat' split at hc)<;>first | (cases hc;done) | (simp at hc;(repeat' split at hc)<;>first | (cases hc;cases hf;done) | (cases hc;done)|skip))
theorem zBC (hdraw:zvJ P) (base:RelH w0 L ι0 H0 B) {q:Nat→List Nat}:∀(ac:ACode) (c:Code),comp P nt q c=some ac.strip→∀(Q:QT) (w:World) (ι:Inj) (K:Kn) (H:AH) (nx:Nat) (a:Act),
  In nt w0 L ι0 H0 B w ι K.get H nx a→awp P B ac Q K H nx→c.wp P (QQ nt w0 L ι0 H0 B Q) a w:=by
 intro ac
 induction ac with
 |
  skip =>
  intro c hc Q w ι K H nx a hin h
  cases c<;>simp only[comp,ACode.strip] at hc<;>first|exact wp_skip ⟨ι,K,H,nx,hin,h⟩ | (cases hc;done) | (obtain⟨x',hx,he⟩:=Wa.1 hc;exact(zbq he).elim) | ((repeat' split at hc)<;>simp[Wa] at hc;done)
 |
  region asv drop =>
  intro c hc Q w ι K H nx a hin h
  cases c with
  |
   region id ops draw =>
   simp only[comp,ACode.strip] at hc;split at hc
   ·
    rename_i as' hm
    cases draw with
    | true=>simp at hc
    |
     false =>
     simp at hc;subst hc;obtain⟨h1,h2⟩:=ztn hm;refine wp_region_list (zno _ _ (by simpa using h1) (fun i o ao h3 h4=>?_) hin h);rw[Wm] at h4;obtain⟨b,h5,rfl⟩:=Ws.1 h4;exact(h2 i o b h3 h5).ro
   · cases hc
  |
   scope c1 =>
   exfalso;simp only[comp,ACode.strip,Wa] at hc;obtain⟨x',hx,he⟩:=hc;exact(zbq he).elim
  | _=>simp[comp,ACode.strip,Wa] at hc
 |
  draw t drop =>
  intro c hc Q w ι K H nx a hin h
  cases c with
  |
   region id ops draw =>
   simp only[comp,ACode.strip] at hc;split at hc
   ·
    rename_i as' hm
    cases draw with
    | false=>simp at hc
    |
     true =>
     simp only[if_true] at hc;split at hc
     ·
      rename_i hg;simp only[Wg] at hg;cases hc;obtain⟨h1,h2⟩:=ztn hm;refine hdraw nt w0 L ι0 H0 B id ops ((zeB (q id) 0 as').map (AOper.ro (q 999999))) drop Q (by rw[List.length_map,zhx,h1];simp) (fun i o ao h3 h4=>?_) hg.1 hg.2 w ι K H nx a hin h;rw[Wm] at h4;obtain⟨b0,h40,rfl⟩:=Ws.1 h4;obtain⟨b,h5,h6⟩:=zlD _ _ _ _ _ h40
      rcases h6 with rfl|rfl
      · exact(h2 i o _ h3 h5).ro
      · exact(h2 i o _ h3 h5).quiet.ro
     · cases hc
   · cases hc
  |
   scope c1 =>
   exfalso;simp only[comp,ACode.strip,Wa] at hc;obtain⟨x',hx,he⟩:=hc;exact(zbq he).elim
  | _=>simp[comp,ACode.strip,Wa] at hc
 |
  seq x y ihx ihy =>
  intro c hc Q w ι K H nx a hin h
  cases c with
  |
   seq c1 c2 =>
   simp only[comp,ACode.strip,We,Wa,Wd] at hc;obtain⟨x',hx,y',hy,he⟩:=hc;cases he;refine wp_seq (wp_mono (ihx c1 hx _ w ι K H nx a hin h) fun e a' w' ⟨ι',K',H',nx',hin',hq⟩=>?_)
   cases e with
   | normal=>exact ihy c2 hy Q w' ι' K' H' nx' a' hin' hq
   | exit id=>exact⟨ι',K',H',nx',hin',hq⟩
   | ret=>exact⟨ι',K',H',nx',hin',hq⟩
   | goto l=>exact⟨ι',K',H',nx',hin',hq⟩
   | _=>exact hq.elim
  |
   scope c1 =>
   exfalso;simp only[comp,ACode.strip,Wa] at hc;obtain⟨x',hx,he⟩:=hc;exact(zbq he).elim
  | region id ops draw=>simp only[comp,ACode.strip] at hc;(repeat' split at hc)<;>simp at hc
  | _=>simp[comp,ACode.strip,Wa] at hc
 |
  join x y ihx ihy =>
  intro c hc Q w ι K H nx a hin h
  cases c with
  |
   seq c1 c2 =>
   simp only[comp,ACode.strip,We,Wa,Wd] at hc;obtain⟨x',hx,y',hy,he⟩:=hc;cases he;obtain⟨α,S,N,inv,h1,h2⟩:=h;refine wp_seq (wp_mono (ihx c1 hx _ w ι K H nx a hin h1) fun e a' w' ⟨ι',K',H',nx',hin',hq⟩=>?_)
   cases e with
   |
    normal =>
    obtain⟨s,hs,he⟩:=hq;obtain⟨ι2,hin2⟩:=hin'.ent base he;exact ihy c2 hy Q w' ι2 (S s).1 (S s).2 N a' hin2 (h2 s hs hin2.wfK)
   | exit id=>exact⟨ι',K',H',nx',hin',hq⟩
   | ret=>exact⟨ι',K',H',nx',hin',hq⟩
   | goto l=>exact⟨ι',K',H',nx',hin',hq⟩
   | _=>exact hq.elim
  |
   scope c1 =>
   exfalso;simp only[comp,ACode.strip,Wa] at hc;obtain⟨x',hx,he⟩:=hc;exact(zbq he).elim
  | region id ops draw=>simp only[comp,ACode.strip] at hc;(repeat' split at hc)<;>simp at hc
  | _=>simp[comp,ACode.strip,Wa] at hc
 |
  cond x y z ihy ihz =>
  intro c hc Q w ι K H nx a hin h
  cases c with
  |
   cond x1 c1 c2 =>
   simp only[comp,ACode.strip,We,Wa,Wd] at hc;obtain⟨x',hx,y',hy,z',hz,he⟩:=hc;cases he;have hv:=zz hin.kn hx;simp only[awp] at h
   cases hev:ev K.get x with
   |
    bool t =>
    rw[hev] at h hv;simp only at h;generalize hu:a.eval x1=u at hv;cases hv
    cases t with
    | true=>exact wp_cond_true hu (ihy c1 hy Q w ι K H nx a hin (h.1 rfl))
    | false=>exact wp_cond_false hu (ihz c2 hz Q w ι K H nx a hin (h.2 rfl))
   | _=>rw[hev] at h;exact h.elim
  |
   scope c1 =>
   exfalso;simp only[comp,ACode.strip,Wa] at hc;obtain⟨x',hx,he⟩:=hc;exact(zbq he).elim
  | region id ops draw=>simp only[comp,ACode.strip] at hc;(repeat' split at hc)<;>simp at hc
  | _=>simp[comp,ACode.strip,Wa] at hc
 |
  block id x ih =>
  intro c hc Q w ι K H nx a hin h
  cases c with
  |
   block id' c1 =>
   simp only[comp,ACode.strip,We,Wa,Wd] at hc;obtain⟨x',hx,he⟩:=hc;cases he;refine wp_block (wp_mono (ih c1 hx _ w ι K H nx a hin h) fun e a' w' ⟨ι',K',H',nx',hin',hq⟩=>?_)
   cases e with
   | normal=>exact⟨ι',K',H',nx',hin',hq⟩
   |
    exit j =>
    simp only[Exit.inBlock];simp only at hq
    by_cases hj:j=id
    · subst hj;rw[if_pos rfl];rw[zaG] at hq;exact⟨ι',K',H',nx',hin',hq⟩
    · rw[if_neg hj];rw[zbJ hj] at hq;exact⟨ι',K',H',nx',hin',hq⟩
   | ret=>exact⟨ι',K',H',nx',hin',hq⟩
   | goto l=>exact⟨ι',K',H',nx',hin',hq⟩
   | _=>exact hq.elim
  |
   scope c1 =>
   exfalso;simp only[comp,ACode.strip,Wa] at hc;obtain⟨x',hx,he⟩:=hc;exact(zbq he).elim
  | region id ops draw=>simp only[comp,ACode.strip] at hc;(repeat' split at hc)<;>simp at hc
  | _=>simp[comp,ACode.strip,Wa] at hc
 |
  loop x ih =>
  intro c hc Q w ι K H nx a hin h
  cases c with
  |
   loop c1 =>
   simp only[comp,ACode.strip,We,Wa,Wd] at hc;obtain⟨x',hx,he⟩:=hc;cases he;obtain⟨α,S,N,inv,μ,⟨s0,hs0,he0⟩,hround⟩:=h;obtain⟨ι1,hin1⟩:=hin.ent base he0;refine wp_loop_ghost (fun n a w=>∃s ι,inv s∧μ s=n∧In nt w0 L ι0 H0 B w ι (Kn.get (S s).1) (S s).2 N a) (μ s0) ⟨s0,ι1,hs0,rfl,hin1⟩ ?_;rintro n a' w' ⟨s,ι',hs,rfl,hin'⟩
   refine wp_mono (ih c1 hx _ w' ι' (S s).1 (S s).2 N a' hin' (hround s hs hin'.wfK)) fun e a2 w2 ⟨ι2,K2,H2,nx2,hin2,hq⟩=>?_
   cases e with
   |
    normal =>
    obtain⟨s',hs',hlt,he⟩:=hq;obtain⟨ι3,hin3⟩:=hin2.ent base he;exact⟨_,hlt,s',ι3,hs',rfl,hin3⟩
   | exit id=>exact⟨ι2,K2,H2,nx2,hin2,hq⟩
   | ret=>exact⟨ι2,K2,H2,nx2,hin2,hq⟩
   | goto l=>exact⟨ι2,K2,H2,nx2,hin2,hq⟩
   | _=>exact hq.elim
  |
   scope c1 =>
   exfalso;simp only[comp,ACode.strip,Wa] at hc;obtain⟨x',hx,he⟩:=hc;exact(zbq he).elim
  | region id ops draw=>simp only[comp,ACode.strip] at hc;(repeat' split at hc)<;>simp at hc
  | _=>simp[comp,ACode.strip,Wa] at hc
 |
  exit id =>
  intro c hc Q w ι K H nx a hin h
  cases c with
  |
   exit id' =>
   simp only[comp,ACode.strip,Wd] at hc;cases hc;exact wp_exit ⟨ι,K,H,nx,hin,h⟩
  |
   scope c1 =>
   exfalso;simp only[comp,ACode.strip,Wa] at hc;obtain⟨x',hx,he⟩:=hc;exact(zbq he).elim
  | region id ops draw=>simp only[comp,ACode.strip] at hc;(repeat' split at hc)<;>simp at hc
  | _=>simp[comp,ACode.strip,Wa] at hc
 |
  ret =>
  intro c hc Q w ι K H nx a hin h
  cases c with
  | ret=>exact wp_ret ⟨ι,K,H,nx,hin,h⟩
  |
   scope c1 =>
   exfalso;simp only[comp,ACode.strip,Wa] at hc;obtain⟨x',hx,he⟩:=hc;exact(zbq he).elim
  | region id ops draw=>simp only[comp,ACode.strip] at hc;(repeat' split at hc)<;>simp at hc
  | _=>simp[comp,ACode.strip,Wa] at hc
 |
  label l =>
  intro c hc Q w ι K H nx a hin h
  cases c with
  | label l'=>exact wp_label ⟨ι,K,H,nx,hin,h⟩
  |
   scope c1 =>
   exfalso;simp only[comp,ACode.strip,Wa] at hc;obtain⟨x',hx,he⟩:=hc;exact(zbq he).elim
  | region id ops draw=>simp only[comp,ACode.strip] at hc;(repeat' split at hc)<;>simp at hc
  | _=>simp[comp,ACode.strip,Wa] at hc
 |
  goto l =>
  intro c hc Q w ι K H nx a hin h
  cases c with
  |
   goto l' =>
   simp only[comp,ACode.strip,Wd] at hc;cases hc;exact wp_goto ⟨ι,K,H,nx,hin,h⟩
  |
   scope c1 =>
   exfalso;simp only[comp,ACode.strip,Wa] at hc;obtain⟨x',hx,he⟩:=hc;exact(zbq he).elim
  | region id ops draw=>simp only[comp,ACode.strip] at hc;(repeat' split at hc)<;>simp at hc
  | _=>simp[comp,ACode.strip,Wa] at hc
 |
  scope x ih =>
  intro c hc Q w ι K H nx a hin h
  cases c with
  |
   scope c1 =>
   simp only[comp,ACode.strip,Wa] at hc;obtain⟨x',hx,he⟩:=hc;have hx':=zwY he;subst hx';refine wp_scope_straight (wp_mono (ih c1 hx (noGQ Q) w ι K H nx a hin h) fun e a' w' ⟨ι',K',H',nx',hin',hq⟩=>?_)
   cases e with
   | normal=>exact⟨ι',K',H',nx',hin',hq⟩
   | exit id=>exact⟨ι',K',H',nx',hin',hq⟩
   | ret=>exact⟨ι',K',H',nx',hin',hq⟩
   | _=>exact hq.elim
  | region id ops draw=>simp only[comp,ACode.strip] at hc;(repeat' split at hc)<;>simp at hc
  | _=>simp[comp,ACode.strip,Wa] at hc
 |
  jump l x y ihx ihy =>
  intro c hc Q w ι K H nx a hin h
  cases c with
  |
   scope c1 =>
   simp only[comp,ACode.strip,Wa] at hc;obtain⟨x',hx,he⟩:=hc;obtain⟨rfl,hf⟩:=zzX he;obtain⟨rest,hrest,hcr⟩:=zz3 hx hf;obtain⟨α,S,N,inv,μ,h1,h2⟩:=h
   let G:Nat→Act→World→Prop:=fun n a w=>∃s ι,inv s∧μ s=n∧In nt w0 L ι0 H0 B w ι (Kn.get (S s).1) (S s).2 N a
   refine wp_scope_jumps l (fun a w=>∃n,G n a w) (ziE G) hrest ?_ ?_
   ·
    refine wp_mono (ihx c1 hx _ w ι K H nx a hin h1) fun e a' w' ⟨ι',K',H',nx',hin',hq⟩=>?_
    cases e with
    | normal=>exact⟨ι',K',H',nx',hin',hq⟩
    | exit id=>exact⟨ι',K',H',nx',hin',hq⟩
    | ret=>exact⟨ι',K',H',nx',hin',hq⟩
    |
     goto l' =>
     obtain⟨rfl,s,hs,he⟩:=hq;obtain⟨ι2,hin2⟩:=hin'.ent base he;exact⟨rfl,_,s,ι2,hs,rfl,hin2⟩
    | _=>exact hq.elim
   ·
    intro a' w' hJ;obtain⟨s,ι',hs,hμ,hin'⟩:=zoa hJ
    refine wp_mono (ihy rest hcr _ w' ι' (S s).1 (S s).2 N a' hin' (h2 s hs hin'.wfK)) fun e a2 w2 ⟨ι2,K2,H2,nx2,hin2,hq⟩=>?_
    cases e with
    | normal=>exact⟨ι2,K2,H2,nx2,hin2,hq⟩
    | exit id=>exact⟨ι2,K2,H2,nx2,hin2,hq⟩
    | ret=>exact⟨ι2,K2,H2,nx2,hin2,hq⟩
    |
     goto l' =>
     obtain⟨rfl,s',hs',hlt,he⟩:=hq;obtain⟨ι3,hin3⟩:=hin2.ent base he;have hg:G (μ s') a2 w2:=⟨s',ι3,hs',rfl,hin3⟩;exact⟨rfl,⟨_,hg⟩,by rw[←hμ];exact Nat.lt_of_le_of_lt (zrs hg) hlt⟩
    | _=>exact hq.elim
  | region id ops draw=>simp only[comp,ACode.strip] at hc;(repeat' split at hc)<;>simp at hc
  | _=>simp[comp,ACode.strip,Wa] at hc
 |
  mark n x ih =>
  intro c hc Q w ι K H nx a hin h;obtain⟨K2,H2,nx2,he,h2⟩:=h hin.wfK;obtain⟨ι2,hin2⟩:=hin.ent base he;exact ih c hc Q w ι2 K2 H2 nx2 a hin2 h2
end
section
variable {P:Program}
def opA (P:Program) (bs:List AOper) (i:Nat) (ρ:Nat→AV) (H:AH) (nx:Nat) (k:(Nat→AV)→AH→Nat→Prop):Prop :=
 ExF P false (bs.getD i default) ρ H nx k
def anyA (P:Program) (bs:List AOper) (deps:List (List Nat)) (Q:(Nat→AV)→AH→Nat→Prop):Nat→List Bool→(Nat→AV)→AH→Nat→Prop
 | 0,listed,ρ,H,nx=>(∀i,i < bs.length→zbi deps listed i=false)∧Q ρ H nx
 |
  fuel+1,listed,ρ,H,nx=>((∀i,i < bs.length→zbi deps listed i=false)→Q ρ H nx) ∧
  ∀i,i < bs.length→zbi deps listed i=true→opA P bs i ρ H nx (anyA P bs deps Q fuel (listed.set i true))
theorem zEA {fx:Bool} {o:AOper} {ρ:Nat→AV} {H:AH} {nx:Nat} {k k':(Nat→AV)→AH→Nat→Prop} (hk:∀ρ H nx,k ρ H nx→k' ρ H nx) (h:ExF P fx o ρ H nx k):ExF P fx o ρ H nx k':=by
 unfold ExF at *
 cases hg:o.guard with
 | none=>rw[hg] at h;exact zbX (fun v H nx h=>hk _ _ _ h) h
 |
  some p =>
  obtain⟨t,want⟩:=p;rw[hg] at h;simp only at h ⊢
  cases hv:grd want (ρ t) with
  | some b=>rw[hv] at h;exact⟨fun e=>zbX (fun v H nx h=>hk _ _ _ h) (h.1 e),fun e=>hk _ _ _ (h.2 e)⟩
  | none=>rw[hv] at h;exact h
theorem zY:∀(l:List Nat) (i:Nat),memN l i=true↔i∈l
 | [],i=>by simp[memN]
 |
  j::t,i=>by
  simp only[memN]
  cases h:Wb j i with
  | true=>simp[zl h]
  |
   false =>
   have:¬j=i:=fun e=>by rw[e,zaG] at h;cases h
   simp[zY t i,Ne.symm this,eq_comm]
theorem znN {l:List Nat} {i:Nat} (h:memN l i=false):i∉l:=fun hm=>by rw[(zY l i).2 hm] at h;cases h
theorem zU {ρ ρ':Nat→AV} {x:AOpd} (h:∀t∈x.tmps,ρ t=ρ' t):ev ρ x=ev ρ' x:=by
 cases x with
 | t n=>exact h n (by simp[AOpd.tmps])
 | c v=>rfl
theorem zf9 {ρ ρ':Nat→AV}:∀ {xs:List AOpd},(∀t∈xs.flatMap (·.tmps),ρ t=ρ' t)→evs ρ xs=evs ρ' xs
 | [],_=>rfl
 |
  x::xs,h=>by
  simp only[evs]
  rw[zU (fun t ht=>h t (by simp[ht])),zf9 (fun t ht=>h t (by
   simp only[Wt,Wn]
   exact .inr ht))]
theorem zmJ {ρ ρ':Nat→AV}:∀ {xs:List (Nat × Nat × AOpd)},(∀t∈xs.flatMap (·.2.2.tmps),ρ t=ρ' t)→zc6 ρ xs=zc6 ρ' xs
 | [],_=>rfl
 |
  (a,b,x)::xs,h=>by
  simp only[zc6]
  rw[zU (fun t ht=>h t (by simp[ht])),zmJ (fun t ht=>h t (by
   simp only[Wt,Wn]
   exact .inr ht))]
theorem zlz {ρ ρ':Nat→AV}:∀ {xs:List (Nat × AOpd)},(∀t∈xs.flatMap (·.2.tmps),ρ t=ρ' t)→zh4 ρ xs=zh4 ρ' xs
 | [],_=>rfl
 |
  (a,x)::xs,h=>by
  simp only[zh4]
  rw[zU (fun t ht=>h t (by simp[ht])),zlz (fun t ht=>h t (by
   simp only[Wt,Wn]
   exact .inr ht))]
theorem zvD {ρ ρ':Nat→AV} {H:AH} {nx:Nat} {o:AOp} (h:∀t∈o.tmps,ρ t=ρ' t):aop o ρ H nx=aop o ρ' H nx:=by
 cases o with
 |
  slice sz x lo hi =>
  simp only[aop];rw[zU (x:=x) (fun t ht=>h t (by simp[AOp.tmps,ht]))]
  have h1:evO ρ lo=evO ρ' lo:=by
   cases lo with
   | none=>rfl
   | some y=>simp only[evO];rw[zU (x:=y) (fun t ht=>h t (by simp[AOp.tmps,ht]))]
  have h2:evO ρ hi=evO ρ' hi:=by
   cases hi with
   | none=>rfl
   | some y=>simp only[evO];rw[zU (x:=y) (fun t ht=>h t (by simp[AOp.tmps,ht]))]
  rw[h1,h2]
 | build z ps=>simp only[aop];rw[zmJ (fun t ht=>h t ht)]
 | buildSl sz len z ps=>simp only[aop];rw[zlz (fun t ht=>h t ht)]
 | rbuildSl sz len z ps=>simp only[aop];rw[zlz (fun t ht=>h t ht)]
 | mkfn f cs=>simp only[aop];rw[zf9 (fun t ht=>h t ht)]
 |
  pick c x y =>
  simp only[aop];rw[zU (x:=c) (fun t ht=>h t (by simp[AOp.tmps,ht])),zU (x:=x) (fun t ht=>h t (by simp[AOp.tmps,ht])),zU (x:=y) (fun t ht=>h t (by simp[AOp.tmps,ht]))]
 | store n x y=>simp only[aop];rw[zU (x:=x) (fun t ht=>h t (by simp[AOp.tmps,ht])),zU (x:=y) (fun t ht=>h t (by simp[AOp.tmps,ht]))]
 | idx n x y=>simp only[aop];rw[zU (x:=x) (fun t ht=>h t (by simp[AOp.tmps,ht])),zU (x:=y) (fun t ht=>h t (by simp[AOp.tmps,ht]))]
 | bin op x y=>simp only[aop];rw[zU (x:=x) (fun t ht=>h t (by simp[AOp.tmps,ht])),zU (x:=y) (fun t ht=>h t (by simp[AOp.tmps,ht]))]
 | eqb n x y=>simp only[aop];rw[zU (x:=x) (fun t ht=>h t (by simp[AOp.tmps,ht])),zU (x:=y) (fun t ht=>h t (by simp[AOp.tmps,ht]))]
 | mksl a b z x y=>simp only[aop];rw[zU (x:=x) (fun t ht=>h t (by simp[AOp.tmps,ht])),zU (x:=y) (fun t ht=>h t (by simp[AOp.tmps,ht]))]
 | append a b x y=>simp only[aop];rw[zU (x:=x) (fun t ht=>h t (by simp[AOp.tmps,ht])),zU (x:=y) (fun t ht=>h t (by simp[AOp.tmps,ht]))]
 | mov x=>simp only[aop];rw[zU (x:=x) (fun t ht=>h t ht)]
 | load a n x=>simp only[aop];rw[zU (x:=x) (fun t ht=>h t ht)]
 | fldaddr a n x=>simp only[aop];rw[zU (x:=x) (fun t ht=>h t ht)]
 | fld a n b x=>simp only[aop];rw[zU (x:=x) (fun t ht=>h t ht)]
 | len x=>simp only[aop];rw[zU (x:=x) (fun t ht=>h t ht)]
 | slen x=>simp only[aop];rw[zU (x:=x) (fun t ht=>h t ht)]
 | un op x=>simp only[aop];rw[zU (x:=x) (fun t ht=>h t ht)]
 | conv k x=>simp only[aop];rw[zU (x:=x) (fun t ht=>h t ht)]
 | box x=>simp only[aop];rw[zU (x:=x) (fun t ht=>h t ht)]
 | rbox x=>simp only[aop];rw[zU (x:=x) (fun t ht=>h t ht)]
 | cut x=>simp only[aop];rw[zU (x:=x) (fun t ht=>h t ht)]
 | clear a z x=>simp only[aop];rw[zU (x:=x) (fun t ht=>h t ht)]
 | ext i x=>simp only[aop];rw[zU (x:=x) (fun t ht=>h t ht)]
 | xop x xs=>simp only[aop];rw[zf9 (fun t ht=>h t ht)]
 | _=>rfl
theorem ziO {fx:Bool} {ρ ρ':Nat→AV} {H:AH} {nx:Nat} {o:AOp} {k:AV→AH→Nat→Prop} (h:∀t∈o.tmps,ρ t=ρ' t):zb1 P fx o ρ H nx k=zb1 P fx o ρ' H nx k:=by
 cases o with
 | call f xs=>simp only[zb1];rw[zf9 (fun t ht=>h t ht)]
 | callq f xs=>simp only[zb1];rw[zf9 (fun t ht=>h t ht)]
 | isnil n p x=>simp only[zb1];rw[zU (x:=x) (fun t ht=>h t ht)]
 | mnext x=>simp only[zb1];rw[zU (x:=x) (fun t ht=>h t ht)]
 |
  callv x xs =>
  simp only[zb1]
  rw[zU (x:=x) (fun t ht=>h t (by simp[AOp.tmps,ht])),zf9 (xs:=xs) (fun t ht=>h t (by
   simp only[AOp.tmps,Wn]
   exact .inr ht))]
 | _=>simp only[zb1];rw[zvD h]
theorem zBB {x:XOp} {l:List AV} {H:AH} {nx:Nat} (h:x.pure=true):(xopR x l H nx).H=H∧(xopR x l H nx).nx=nx:=by
 cases x<;>first | (cases h;done)|skip
 all_goals
  unfold xopR
  split<;>(try unfold zyp)<;>simp only[zoJ,zk2,seqR,zsF,b2sR,s2bR,znb,minR,eqsR,sl3R,zgY,zkW,zpD,zmA,zdW,zs6,ztd,zkm,zxw,apzR,bad]
 all_goals (repeat' split)<;>first|exact⟨rfl,rfl⟩|exact⟨trivial,trivial⟩ | (exfalso;simp_all;done)
theorem zyI {x:XOp} {l:List AV} {H H':AH} {nx nx':Nat} (h:x.pure=true) (hr:x.reads=false):(xopR x l H nx).v=(xopR x l H' nx').v∧((xopR x l H nx).side→(xopR x l H' nx').side):=by
 cases x<;>first | (cases h;done) | (cases hr;done)|skip
 all_goals rcases l with _ | ⟨a,_ | ⟨b,_ | ⟨c,l⟩⟩⟩<;>first|exact⟨rfl,id⟩|skip
 all_goals simp only[xopR,zk2,seqR,zsF,minR,eqsR,ztd,zkm,zxw,bad]
 all_goals (repeat' split)<;>first|exact⟨rfl,id⟩|exact⟨trivial,id⟩
theorem zxI {ρ:Nat→AV} {H:AH} {nx:Nat} {o:AOp} (h:o.pure=true):(aop o ρ H nx).H=H∧(aop o ρ H nx).nx=nx:=by
 cases o<;>first | (cases h;done)|exact zBB h|skip
 all_goals simp only[aop,zqQ,zmZ,zcP,zd9,idxR,zbS,fldR,lenR,zpN,binI,eqB,unR,zmk,zi4,zeb,boxR,zrg,zeR,zmf,zmj,zdH,cutR,zdp,zgH,extR,bad]
 all_goals (repeat' split)<;>first|exact⟨rfl,rfl⟩|exact⟨trivial,trivial⟩
theorem zCW {ρ:Nat→AV} {H H':AH} {nx nx':Nat} {o:AOp} (h:o.pure=true) (hr:o.reads=false):(aop o ρ H nx).v=(aop o ρ H' nx').v∧((aop o ρ H nx).side→(aop o ρ H' nx').side):=by
 cases o<;>first | (cases h;done) | (cases hr;done)|exact zyI h hr|skip
 all_goals simp only[aop,zqQ,zmZ,zcP,zd9,idxR,zbS,fldR,lenR,zpN,binI,eqB,unR,zmk,zi4,zeb,boxR,zrg,zeR,zmf,zmj,zdH,cutR,zdp,zgH,extR,bad]
 all_goals (repeat' split)<;>first|exact⟨rfl,id⟩|exact⟨trivial,id⟩
def Yld (P:Program) (o:AOper) (ρ:Nat→AV) (H:AH) (nx:Nat) (v:AV):Prop :=
 let body:Prop:=(o.op.pure=true∧(aop o.op ρ H nx).side∧v=(aop o.op ρ H nx).v)∨∃f xs,o.op=.callq f xs∧zc0 P f (evs ρ xs) H nx v
 match o.guard with
 | none=>body
 | some (t,want)=>∃b,grd want (ρ t)=some b∧((b=true∧body)∨(b=false∧v=.tup []))
theorem zm4 {o:AOper} {ρ:Nat→AV} {H:AH} {nx:Nat} {k:(Nat→AV)→AH→Nat→Prop} (hf:o.fixed=true) (h:ExF P false o ρ H nx k):∃v,Yld P o ρ H nx v∧k (upd ρ o.dst v) H nx:=by
 have key:∀k:AV→AH→Nat→Prop,zb1 P false o.op ρ H nx k→∃v,((o.op.pure=true∧(aop o.op ρ H nx).side∧v=(aop o.op ρ H nx).v)∨∃f xs,o.op=.callq f xs∧zc0 P f (evs ρ xs) H nx v)∧k v H nx:=by
  intro k hb;unfold AOper.fixed at hf
  cases hp:o.op.pure with
  |
   true =>
   obtain⟨h1,h2⟩:=zxI (ρ:=ρ) (H:=H) (nx:=nx) hp
   have hu:zk5 false (aop o.op ρ H nx) k:=by
    unfold zb1 at hb
    cases ho:o.op<;>rw[ho] at hb hp<;>first | (cases hp;done)|exact hb
   refine⟨_,.inl ⟨hp▸rfl,hu.1,rfl⟩,?_⟩;have:=hu.2 trivial
   rwa [h1,h2] at this
  |
   false =>
   rw[hp] at hf;simp only[Bool.false_or] at hf;split at hf
   · rename_i f xs ho;unfold zb1 at hb;rw[ho] at hb;obtain⟨v,h1,h2⟩:=hb;exact⟨v,.inr ⟨f,xs,ho,h1⟩,h2⟩
   · cases hf
 unfold ExF at h;unfold Yld
 cases hg:o.guard with
 |
  none =>
  rw[hg] at h;obtain⟨v,h1,h2⟩:=key _ h;exact⟨v,h1,h2⟩
 |
  some p =>
  obtain⟨t,want⟩:=p;rw[hg] at h;simp only at h ⊢
  cases hv:grd want (ρ t) with
  |
   some b =>
   rw[hv] at h;simp only at h
   cases b with
   |
    true =>
    obtain⟨v,h1,h2⟩:=key _ (h.1 rfl);exact⟨v,⟨true,rfl,.inl ⟨rfl,h1⟩⟩,h2⟩
   | false=>exact⟨.tup [],⟨false,rfl,.inr ⟨rfl,rfl⟩⟩,h.2 rfl⟩
  | none=>rw[hv] at h;exact h.elim
theorem zka {o:AOper} {ρ:Nat→AV} {H:AH} {nx:Nat} {v:AV} {k:(Nat→AV)→AH→Nat→Prop} (hy:Yld P o ρ H nx v) (hk:k (upd ρ o.dst v) H nx):ExF P false o ρ H nx k:=by
 have key:((o.op.pure=true∧(aop o.op ρ H nx).side∧v=(aop o.op ρ H nx).v)∨∃f xs,o.op=.callq f xs∧zc0 P f (evs ρ xs) H nx v)→zb1 P false o.op ρ H nx (fun v H' nx'=>k (upd ρ o.dst v) H' nx'):=by
  rintro(⟨hp,hs,rfl⟩ | ⟨f,xs,ho,hc⟩)
  ·
   obtain⟨h1,h2⟩:=zxI (ρ:=ρ) (H:=H) (nx:=nx) hp
   have hu:zk5 false (aop o.op ρ H nx) (fun v H' nx'=>k (upd ρ o.dst v) H' nx'):=⟨hs,fun _=>by
    rw[h1,h2]
    exact hk⟩
   unfold zb1
   cases ho:o.op<;>rw[ho] at hu hp<;>first | (cases hp;done)|exact hu
  · unfold zb1;rw[ho];exact⟨v,hc,hk⟩
 unfold Yld at hy;unfold ExF
 cases hg:o.guard with
 | none=>rw[hg] at hy;exact key hy
 |
  some p =>
  obtain⟨t,want⟩:=p;rw[hg] at hy;obtain⟨b,hb,hc⟩:=hy;simp only;rw[hb]
  rcases hc with ⟨rfl,h⟩ | ⟨rfl,rfl⟩
  · exact⟨fun _=>key h,fun e=>(by cases e)⟩
  · exact⟨fun e=>(by cases e),fun _=>hk⟩
theorem zFn {ρ:Nat→AV} {d d':Option Nat} {v u:AV} (h:∀x,d=some x→d'≠some x):upd (upd ρ d v) d' u=upd (upd ρ d' u) d v:=by
 cases d with
 | none=>cases d'<;>rfl
 |
  some x =>
  cases d' with
  | none=>rfl
  |
   some y =>
   have hne:y≠x:=fun e=>h x rfl (by rw[e])
   funext i
   simp only[upd]
   by_cases h1:i=y
   · subst h1;simp[hne]
   · simp[h1]
theorem zmc {ρ:Nat→AV} {d:Option Nat} {v:AV} {t:Nat} (h:d≠some t):upd ρ d v t=ρ t:=by
 cases d with
 | none=>rfl
 |
  some x =>
  have:t≠x:=fun e=>h (by rw[e])
  simp[upd,this]
theorem zzn {x y:AOper} (h:x.apart y=true) :
  (∀d,x.dst=some d→d∉y.looks)∧(∀d,x.dst=some d→y.dst≠some d)∧(∀d,y.dst=some d→d∉x.looks)∧(y.fixed=true∨x.sees=false):=by
 unfold AOper.apart at h;simp only[Wg,Bool.or_eq_true,Wh] at h;obtain⟨⟨h1,h2⟩,h3⟩:=h;refine⟨fun d hd=>?_,fun d hd hy=>?_,fun d hd=>?_,h3⟩
 · rw[hd] at h1;simp only[Wg,Wh] at h1;exact znN h1.1
 · rw[hd] at h1;simp only[Wg,Wh] at h1;rw[hy] at h1;simp[zaG] at h1
 · rw[hd] at h2;simp only[Wh] at h2;exact znN h2
theorem zkM {o:AOper} {t:Nat} (h:t∈o.op.tmps):t∈o.looks:=by unfold AOper.looks;exact Wn.2 (.inr h)
theorem ziI {o:AOper} {t:Nat} {want:Bool} (h:o.guard=some (t,want)):t∈o.looks:=by unfold AOper.looks;rw[h];simp
theorem zpw {o:AOper} {ρ ρ':Nat→AV} {H:AH} {nx:Nat} {v:AV} (hρ:∀t∈o.looks,ρ t=ρ' t) (h:Yld P o ρ H nx v):Yld P o ρ' H nx v:=by
 have e1:aop o.op ρ H nx=aop o.op ρ' H nx:=zvD fun t ht=>hρ t (zkM ht)
 have e2:∀f xs,o.op=.callq f xs→evs ρ xs=evs ρ' xs:=fun f xs ho=>zf9 fun t ht=>hρ t (zkM (by rw[ho];exact ht))
 have key:((o.op.pure=true∧(aop o.op ρ H nx).side∧v=(aop o.op ρ H nx).v)∨∃f xs,o.op=.callq f xs∧zc0 P f (evs ρ xs) H nx v) →
   ((o.op.pure=true∧(aop o.op ρ' H nx).side∧v=(aop o.op ρ' H nx).v)∨∃f xs,o.op=.callq f xs∧zc0 P f (evs ρ' xs) H nx v):=by
  rintro(h | ⟨f,xs,ho,hc⟩)
  · rw[←e1];exact .inl h
  · exact .inr ⟨f,xs,ho,by rw[←e2 f xs ho];exact hc⟩
 unfold Yld at *
 cases hg:o.guard with
 | none=>rw[hg] at h;exact key h
 |
  some p =>
  obtain⟨t,want⟩:=p;rw[hg] at h;obtain⟨b,hb,hc⟩:=h;exact⟨b,by rw[←hρ t (ziI hg)];exact hb,hc.imp (fun⟨h1,h2⟩=>⟨h1,key h2⟩) id⟩
theorem ztk {o:AOper} {ρ:Nat→AV} {H H':AH} {nx nx':Nat} {v:AV} (hs:o.sees=false) (h:Yld P o ρ H nx v):Yld P o ρ H' nx' v:=by
 unfold AOper.sees at hs;simp only[Bool.or_eq_false_iff] at hs
 have key:((o.op.pure=true∧(aop o.op ρ H nx).side∧v=(aop o.op ρ H nx).v)∨∃f xs,o.op=.callq f xs∧zc0 P f (evs ρ xs) H nx v) →
   ((o.op.pure=true∧(aop o.op ρ H' nx').side∧v=(aop o.op ρ H' nx').v)∨∃f xs,o.op=.callq f xs∧zc0 P f (evs ρ xs) H' nx' v):=by
  rintro(⟨h1,h2,h3⟩ | ⟨f,xs,ho,hc⟩)
  · obtain⟨e1,e2⟩:=zCW (ρ:=ρ) (H:=H) (H':=H') (nx:=nx) (nx':=nx') h1 hs.1;exact .inl ⟨h1,e2 h2,by rw[←e1];exact h3⟩
  · have:=hs.2;rw[ho] at this;cases this
 unfold Yld at *
 cases hg:o.guard with
 | none=>rw[hg] at h;exact key h
 |
  some p =>
  obtain⟨t,want⟩:=p;rw[hg] at h;obtain⟨b,hb,hc⟩:=h;exact⟨b,hb,hc.imp (fun⟨h1,h2⟩=>⟨h1,key h2⟩) id⟩
theorem zFW {x y:AOper} {ρ:Nat→AV} {H:AH} {nx:Nat} {v:AV} {k:(Nat→AV)→AH→Nat→Prop} (hap:x.apart y=true) (hy:Yld P x ρ H nx v) (h:ExF P false y (upd ρ x.dst v) H nx k) :
  ExF P false y ρ H nx (fun ρ' H' nx'=>Yld P x ρ' H' nx' v∧k (upd ρ' x.dst v) H' nx'):=by
 obtain⟨h1,h2,h3,h4⟩:=zzn hap
 have slots:∀t∈y.looks,upd ρ x.dst v t=ρ t:=fun t ht=>zmc fun e=>h1 t e ht
 have xs:∀u,∀t∈x.looks,ρ t=upd ρ y.dst u t:=fun u t ht=>(zmc fun e=>h3 t e ht).symm
 have stay:∀(u:AV) (H':AH) (nx':Nat),(x.sees=false∨(H'=H∧nx'=nx))→Yld P x (upd ρ y.dst u) H' nx' v:=by
  intro u H' nx' hh
  rcases hh with hh | ⟨rfl,rfl⟩
  · exact ztk hh (zpw (xs u) hy)
  · exact zpw (xs u) hy
 have comm:∀u,upd (upd ρ x.dst v) y.dst u=upd (upd ρ y.dst u) x.dst v:=fun u=>zFn h2
 rcases h4 with hfix|hblind
 · obtain⟨u,hu,hk⟩:=zm4 hfix h;refine zka (zpw slots hu) ⟨stay u H nx (.inr ⟨rfl,rfl⟩),?_⟩;rw[←comm];exact hk
 ·
  have bodyc:zb1 P false y.op (upd ρ x.dst v) H nx (fun u H' nx'=>k (upd (upd ρ x.dst v) y.dst u) H' nx')→zb1 P false y.op ρ H nx (fun u H' nx'=>Yld P x (upd ρ y.dst u) H' nx' v∧k (upd (upd ρ y.dst u) x.dst v) H' nx'):=by intro hb;rw[ziO (fun t ht=>slots t (zkM ht))] at hb;exact zbX (fun u H' nx' hh=>⟨stay u H' nx' (.inl hblind),by rw[←comm];exact hh⟩) hb
  unfold ExF at h ⊢
  cases hg:y.guard with
  | none=>rw[hg] at h;exact bodyc h
  |
   some p =>
   obtain⟨t,want⟩:=p;rw[hg] at h;simp only at h ⊢;rw[slots t (ziI hg)] at h
   cases hv:grd want (ρ t) with
   |
    some b =>
    rw[hv] at h;exact⟨fun e=>bodyc (h.1 e),fun e=>⟨stay (.tup []) H nx (.inl hblind),by rw[←comm];exact h.2 e⟩⟩
   | none=>rw[hv] at h;exact h
theorem zea {l:List Bool} {i j:Nat} (hi:i < l.length):getB (l.set i true) j=if j=i then true else getB l j:=by
 unfold getB
 by_cases h:j=i
 · subst h;simp[hi]
 · rw[if_neg h];simp[List.getElem?_set,Ne.symm h]
theorem zaQ {deps:List (List Nat)} {listed:List Bool} {i:Nat}:zbi deps listed i=true↔getB listed i=false∧∀j∈deps.getD i [],getB listed j=true:=by unfold zbi;simp only[Wg,Wh,Wo]
theorem znM {deps:List (List Nat)} {listed:List Bool} {i j:Nat} (hi:i < listed.length) (h:zbi deps listed j=true) (hne:j≠i):zbi deps (listed.set i true) j=true:=by
 rw[zaQ] at *;refine⟨by rw[zea hi,if_neg hne];exact h.1,fun k hk=>?_⟩;rw[zea hi];split
 · rfl
 · exact h.2 k hk
theorem set_comm (l:List Bool) (i j:Nat):(l.set i true).set j true=(l.set j true).set i true:=by
 by_cases h:i=j
 · subst h;rfl
 · exact List.set_comm _ _ h
theorem zzM {bs:List AOper} {deps:List (List Nat)} {Q:(Nat→AV)→AH→Nat→Prop} {i:Nat} (hi:i < bs.length) {v:AV} :
  ∀(fuel:Nat) (listed:List Bool) (ρ:Nat→AV) (H:AH) (nx:Nat),listed.length=bs.length →
   (∀j,j < bs.length→j≠i→getB listed j=false→i∉deps.getD j []→(bs.getD i default).apart (bs.getD j default)=true) →
   zbi deps listed i=true→Yld P (bs.getD i default) ρ H nx v→anyA P bs deps Q fuel (listed.set i true) (upd ρ (bs.getD i default).dst v) H nx→anyA P bs deps Q (fuel+1) listed ρ H nx:=by
 intro fuel
 induction fuel with
 |
  zero =>
  intro listed ρ H nx hl hfree hr hy h;refine⟨fun h0=>(by rw[h0 i hi] at hr;cases hr),fun j hj hrj=>?_⟩
  by_cases hji:j=i
  · subst hji;exact zka hy h
  · have:=h.1 j hj;rw[znM (by omega) hrj hji] at this;cases this
 |
  succ fuel ih =>
  intro listed ρ H nx hl hfree hr hy h;refine⟨fun h0=>(by rw[h0 i hi] at hr;cases hr),fun j hj hrj=>?_⟩
  by_cases hji:j=i
  · subst hji;exact zka hy h
  ·
   have hil:i < listed.length:=by omega
   have h1:=h.2 j hj (znM hil hrj hji)
   have hnot:i∉deps.getD j []:=fun hm=>by have:=(zaQ.1 hrj).2 i hm;rw[(zaQ.1 hr).1] at this;cases this
   have hap:=hfree j hj hji (zaQ.1 hrj).1 hnot;have h2:=zFW hap hy h1;refine zEA (fun ρ' H' nx' ⟨hy',hk'⟩=>?_) h2;refine ih (listed.set j true) ρ' H' nx' (by simpa using hl) (fun k hk hki hun hno=>hfree k hk hki ?_ hno) (znM (by omega) hr (Ne.symm hji)) hy' ?_
   ·
    rw[zea (by omega)] at hun;split at hun
    · cases hun
    · exact hun
   · rw[set_comm];exact hk'
def zfB:List Bool→Nat
 | []=>0
 | b::r=>(bif b then 0 else 1)+zfB r
theorem zky:∀ {l:List Bool} {i:Nat},i < l.length→getB l i=false→zfB (l.set i true)+1=zfB l
 | [],i,h,_=>by simp at h
 |
  b::r,0,_,hb=>by
  simp[getB] at hb;subst hb;simp[zfB];omega
 |
  b::r,i+1,h,hb=>by
  have:=zky (l:=r) (i:=i) (by simpa using h) (by simpa [getB] using hb);simp only[List.set_cons_succ,zfB];omega
theorem zh8:∀ {l:List Bool},zfB l=0→∀i,i < l.length→getB l i=true
 | [],_,i,h=>by simp at h
 |
  b::r,h,i,hi=>by
  simp only[zfB] at h
  cases b with
  | false=>simp at h
  |
   true =>
   cases i with
   | zero=>rfl
   |
    succ i =>
    have:=zh8 (l:=r) (by simpa using h) i (by simpa using hi)
    simpa [getB] using this
theorem zux {drop:List Nat} {Q:QT}:∀ {l:List (AOper × DTree)} {K:Kn} {H:AH} {nx:Nat},awpT P (zEU l) drop Q K H nx→∀p∈l,ExK P false p.1 K H nx (awpT P p.2 drop Q)
 | [],_,_,_,_,p,hp=>by simp at hp
 |
  (o,t)::r,K,H,nx,h,p,hp=>by
  rcases List.mem_cons.1 hp with rfl|hp
  · exact h.1
  · exact zux (l:=r) h.2 p hp
theorem zyv {bs:List AOper} {deps:List (List Nat)} {drop:List Nat} {Q:QT}:∀(fuel:Nat) (listed:List Bool) (K:Kn) (H:AH) (nx:Nat),listed.length=bs.length→zfB listed≤fuel →
  awpT P (ze4 bs deps fuel listed) drop Q K H nx→anyA P bs deps (fun ρ H nx=>∃K,Kn.get K=ρ∧Q .normal (K.drop drop) H nx) fuel listed K.get H nx
 |
  0,listed,K,H,nx,hl,hc,h=>by
  refine⟨fun i hi=>?_,K,rfl,h⟩;have:=zh8 (l:=listed) (by omega) i (by omega);unfold zbi;rw[this];rfl
 |
  fuel+1,listed,K,H,nx,hl,hc,h=>by
  simp only[ze4] at h
  cases hr:(Wk bs.length).filter (zbi deps listed) with
  |
   nil =>
   rw[hr] at h
   have hnone:∀i,i < bs.length→zbi deps listed i=false:=fun i hi=>by
    cases hb:zbi deps listed i with
    | false=>rfl
    |
     true =>
     have:i∈(Wk bs.length).filter (zbi deps listed):=Wp.2 ⟨Wq.2 hi,hb⟩;rw[hr] at this;simp at this
   exact⟨fun _=>⟨K,rfl,h⟩,fun i hi hb=>by rw[hnone i hi] at hb;cases hb⟩
  |
   cons i0 r0 =>
   rw[hr] at h
   have hmem:∀i,i∈i0::r0→i < bs.length∧zbi deps listed i=true:=fun i hi=>by rw[←hr] at hi;have:=Wp.1 hi;exact⟨Wq.1 this.1,this.2⟩
   simp only at h
   have next:∀i,i∈i0::r0→∀(K':Kn) (H':AH) (nx':Nat),awpT P (ze4 bs deps fuel (listed.set i true)) drop Q K' H' nx' →
     anyA P bs deps (fun ρ H nx=>∃K,Kn.get K=ρ∧Q .normal (K.drop drop) H nx) fuel (listed.set i true) K'.get H' nx':=fun i hi K' H' nx' hh=>by
    obtain⟨h1,h2⟩:=hmem i hi;refine zyv fuel (listed.set i true) K' H' nx' (by simpa using hl) ?_ hh;have:=zky (l:=listed) (i:=i) (by omega) (zaQ.1 h2).1;omega
   cases hf:(i0::r0).find? (zEv bs deps listed) with
   |
    some i =>
    rw[hf] at h;simp only[awpT] at h;have hi:=List.mem_of_find?_eq_some hf;have hfree:=List.find?_some hf;obtain⟨h1,h2⟩:=hmem i hi;unfold zEv at hfree;simp only[Wg,Wo,Wq,Bool.or_eq_true] at hfree;obtain⟨hfix,hall⟩:=hfree;have hex:=zsT (k':=anyA P bs deps (fun ρ H nx=>∃K,Kn.get K=ρ∧Q .normal (K.drop drop) H nx) fuel (listed.set i true)) (fun K' H' nx' hh=>next i hi K' H' nx' hh) h;obtain⟨v,hy,hk⟩:=zm4 hfix hex;refine zzM h1 fuel listed K.get H nx hl (fun j hj hji hun hno=>?_) h2 hy hk
    rcases hall j hj with ((hx|hx)|hx)|hx
    · exact absurd (zl hx).symm hji
    · rw[hun] at hx;cases hx
    · exact absurd ((zY _ _).1 hx) hno
    · exact hx
   |
    none =>
    rw[hf] at h;simp only at h;have halt:=zux h;refine⟨fun h0=>?_,fun i hi hb=>?_⟩
    · have:=h0 i0 (hmem i0 (by simp)).1;rw[(hmem i0 (by simp)).2] at this;cases this
    ·
     have him:i∈i0::r0:=by rw[←hr];exact Wp.2 ⟨Wq.2 hi,hb⟩
     have:=halt (bs.getD i default,ze4 bs deps fuel (listed.set i true)) (List.mem_map.2 ⟨i,him,rfl⟩);exact zsT (fun K' H' nx' hh=>next i him K' H' nx' hh) this
theorem zpZ {ops:Array Oper} {j:Nat} {o:Oper} (h:ops[j]? = some o):(ops.toList.map zcW).getD j []=zcW o:=by simp[Wi,Wm,h]
theorem zrx {o:Oper} {i:Nat}:i∈zcW o↔∃e∈o.after,Region.binds .any e=true∧e.on=i:=by
 unfold zcW;simp only[List.mem_map,Wp,Array.mem_toList_iff];constructor
 · rintro⟨e,⟨h1,h2⟩,h3⟩;exact⟨e,h1,h2,h3⟩
 · rintro⟨e,h1,h2,h3⟩;exact⟨e,⟨h1,h2⟩,h3⟩
theorem zhG {ops:Array Oper} {listed:List Bool} {j:Nat} (hl:listed.length=ops.size):j∈Region.ready .any ops listed.toArray↔j < ops.size∧zbi (ops.toList.map zcW) listed j=true:=by
 rw[mem_ready]
 have e1:∀(i:Nat),listed.toArray.getD i false=getB listed i:=fun i=>by simp[getB,Wi]
 constructor
 ·
  rintro⟨h1,o,h2,h3⟩;have hj:j < ops.size:=(Array.getElem?_eq_some_iff.1 h2).1;refine⟨hj,zaQ.2 ⟨?_,fun i hi=>?_⟩⟩
  ·
   have hjl:j < listed.length:=by omega
   simp[Wu,hjl] at h1;simp[getB,hjl,h1]
  · rw[zpZ h2] at hi;obtain⟨e,he,hb,rfl⟩:=zrx.1 hi;rw[←e1];exact h3 e he hb
 ·
  rintro⟨hj,h⟩;obtain⟨h1,h2⟩:=zaQ.1 h;have ho:ops[j]? = some ops[j]:=WA hj;refine⟨?_,ops[j],ho,fun e he hb=>?_⟩
  ·
   have hjl:j < listed.length:=by omega
   simp[getB,hjl] at h1;simp[Wu,hjl,h1]
  · rw[e1];refine h2 _ ?_;rw[zpZ ho];exact zrx.2 ⟨e,he,hb,rfl⟩
theorem zuA {L:Nat→Prop} {nt:Nat} {w0:World} {ι0:Inj} {H0:AH} {B:Nat} {ops:Array Oper} {bs:List AOper} {Q:(Nat→AV)→AH→Nat→Prop} {Qc:Exit→Act→World→Prop} (hlen:bs.length=ops.size)
  (hrel:∀(i:Nat) (o:Oper) (ao:AOper),ops.toList[i]? = some o→bs[i]? = some ao→OpRel P nt ops o ao)
  (hQ:∀w ι ρ H nx a,In nt w0 L ι0 H0 B w ι ρ H nx a→Q ρ H nx→Qc .normal a w) :
  ∀(fuel:Nat) (listed:List Bool) (w:World) (ι:Inj) (ρ:Nat→AV) (H:AH) (nx:Nat) (a:Act),listed.length=bs.length→In nt w0 L ι0 H0 B w ι ρ H nx a→anyA P bs (ops.toList.map zcW) Q fuel listed ρ H nx →
   wpAny P .any ops Qc fuel listed.toArray a w
 |
  0,listed,w,ι,ρ,H,nx,a,hl,hin,h=>by
  refine⟨?_,hQ _ _ _ _ _ _ hin h.2⟩;rw[List.eq_nil_iff_forall_not_mem];intro j hj;obtain⟨h1,h2⟩:=(zhG (by omega)).1 hj;rw[h.1 j (by omega)] at h2;cases h2
 |
  fuel+1,listed,w,ι,ρ,H,nx,a,hl,hin,h=>by
  refine⟨fun h0=>hQ _ _ _ _ _ _ hin (h.1 fun i hi=>?_),fun i hi=>?_⟩
  ·
   cases hb:zbi (ops.toList.map zcW) listed i with
   | false=>rfl
   |
    true =>
    have:i∈Region.ready .any ops listed.toArray:=(zhG (by omega)).2 ⟨by omega,hb⟩;rw[h0] at this;simp at this
  ·
   obtain⟨h1,h2⟩:=(zhG (by omega)).1 hi;have ho:ops[i]? = some ops[i]:=WA h1
   have hb:bs[i]? = some (bs.getD i default):=by simp[Wi,Wc (show i < bs.length by omega)]
   have hr:=hrel i ops[i] _ (by simp[ho]) hb;have hex:=h.2 i (by omega) h2
   have:=zmS hr hin hex (Kc:=wpAny P .any ops Qc fuel (listed.toArray.setIfInBounds i true)) (Qc:=Qc) (fun w' ι' ρ' H' nx' a' hin' hk=>by
    have:=zuA hlen hrel hQ fuel (listed.set i true) w' ι' ρ' H' nx' a' (by simpa using hl) hin' hk
    simpa using this)
   unfold wpOp;rw[ho];simp only;split
   · rename_i hw;rw[if_pos hw] at this;exact .inl this
   · rename_i hw;rw[if_neg hw] at this;exact this
theorem In.drewW {L:Nat→Prop} {nt:Nat} {w0 w:World} {ι0 ι:Inj} {H0 H:AH} {B nx:Nat} {ρ:Nat→AV} {a:Act} (h:In nt w0 L ι0 H0 B w ι ρ H nx a):In nt w0 L ι0 H0 B { w with drawn:=w.drawn+1 } ι ρ H nx a:=by
 have hm:∀ {M:Nat→Prop} {ι:Inj} {v:Value} {x:AV},VR w M ι v x→VR { w with drawn:=w.drawn+1 } M ι v x:=fun h=>VR.mono (w:=w) (w':={ w with drawn:=w.drawn+1 }) (fun b _ hn=>⟨rfl,hn⟩) h (fun _ _ _ _ h=>h)
 have st:=h.st;refine⟨h.size,h.defers,⟨⟨st.ext.os,st.ext.tape,st.ext.output,st.ext.size,st.ext.block⟩,st.inj,?_,st.lv⟩,h.le,fun i=>hm (h.kn i)⟩
 exact⟨fun r q sz els g hg=>let ⟨l,h1,ok⟩:=st.rel.row r q sz els g hg;⟨l,h1,ok.trans (fun _=>rfl) (fun v a hv=>hm hv)⟩,
  st.rel.apart,st.rel.out,st.rel.idx,st.rel.dom,st.rel.gen,st.rel.Lsz⟩
theorem zrW:zvJ P:=by
 intro nt w0 L ι0 H0 B id ops bs drop Q hlen hrel hfol _ w ι K H nx a hin h
 have htree:=zyv ops.size (Wf ops.size false) K H nx (by simp[hlen]) (by
  have:∀n,zfB (Wf n false)=n:=fun n=>by
   induction n with
   | zero=>rfl
   | succ n ih=>simp[List.replicate_succ,zfB,ih];omega
  rw[this]
  exact Wj _) h
 refine wp_region_any hfol ?_
 have:=zuA hlen hrel (Qc:=QQ nt w0 L ι0 H0 B Q) (fun w ι ρ H nx a hin ⟨K,hK,hq⟩=>by
  subst hK
  exact⟨ι,K.drop drop,H,nx,hin.drop drop,hq⟩) ops.size (Wf ops.size false) _ ι K.get H nx a (by simp[hlen]) hin.drewW htree
 simpa using this
end
section
variable {P:Program}
theorem zDT {w:World} {L:Nat→Prop} {ι:Inj} {agg:Bool} {n:Nat} {pv:Value} {p:AV} {H:AH} {nx:Nat} (hp:VR w L ι pv p) (hs:(zcP agg n p H nx).side):∃a,pv=.pointer (some a):=by
 cases hp<;>first|exact⟨_,rfl⟩|simp[zcP,bad] at hs
theorem zxT {w:World} {L:Nat→Prop} {ι:Inj} {H:AH} {nx:Nat} {tmps:Array Value} {K:Kn} (rel:RelH w L ι H nx) (hk:KOk w (Lt L ι H) ι tmps K.get) :
  ∀(xs:List ResultVar) (rs:List ARet),xs.mapM (cret P)=some rs→zbk K H nx rs →
   ∃vs,(xs.mapM (m:=Sem) fun | .tmp t=>pure (tmps.getD t undef) | .cell a t=>do loadVar t (←asAddr (tmps.getD a undef))).run P w=.ok vs w∧VRs w (Lt L ι H) ι vs (zaE K H nx rs)
 | [],rs,h,_=>by simp at h;subst h;exact⟨[],by simp,.nil⟩
 |
  x::xs,rs,h,hs=>by
  simp only[Wv,We,Option.pure_def,Wa,Wd] at h;obtain⟨b,hb,bs,hbs,rfl⟩:=h
  cases x with
  |
   tmp t =>
   simp only[cret,Wd] at hb;subst hb;obtain⟨vs,h1,h2⟩:=zxT rel hk xs bs hbs hs;refine⟨tmps.getD t undef::vs,?_,.cons (hk t) h2⟩;simp only[Wv,Sem.run_bind,Sem.run_pure,Result.andThen_ok,h1]
  |
   cell t ty =>
   simp only[cret] at hb;split at hb
   ·
    rename_i d i hu hi
    have key:∀(agg:Bool) (n:Nat),zcb d=agg→n=(if zcb d then i.size else 1)→b=.cell t agg n →
      ∃vs,((.cell t ty::xs).mapM (m:=Sem) fun | .tmp t=>pure (tmps.getD t undef) | .cell a t=>do loadVar t (←asAddr (tmps.getD a undef))).run P w=.ok vs w∧VRs w (Lt L ι H) ι vs (zaE K H nx (b::bs)):=by
     rintro agg n rfl hn rfl;obtain⟨hs1,hs2⟩:=hs;obtain⟨v,h1,h2,_⟩:=ztu hu hi rel (hk t) hn hs1;obtain⟨vs,h3,h4⟩:=zxT rel hk xs bs hbs hs2;refine⟨v::vs,?_,.cons h2 h4⟩;obtain⟨a,ha⟩:=zDT (hk t) hs1;rw[ha] at h1;simp only[Instr.loadAt,Instr.sureAddr,Sem.run_bind,Sem.run_pure,Result.andThen_ok] at h1
     have h5:(do loadVar ty (←asAddr (tmps.getD t undef)):Sem Value).run P w=.ok v w:=by simp only[ha,asAddr,Sem.run_bind,Sem.run_pure,Result.andThen_ok,h1]
     rw[Wv,Sem.run_bind,h5,Result.andThen_ok,Sem.run_bind,h3];rfl
    split at hb
    · rename_i hd;cases hb;exact key true i.size hd (by rw[if_pos hd]) rfl
    · rename_i hd;cases hb;exact key false 1 (by simpa using hd) (by rw[if_neg hd]) rfl
   · cases hb
theorem VRs.tup {w:World} {M:Nat→Prop} {ι:Inj} {vs:List Value} {asv:List AV} (h:VRs w M ι vs asv):VR w M ι (.tuple vs.toArray) (.tup asv) :=
 .tup _ _ _ (by simpa using h.length) (fun i v a h1 h2=>h.get i v a (by simpa using h1) h2)
theorem zsh {w:World} {M:Nat→Prop} {ι:Inj} {fn:Func} {tmps:Array Value} {vs:List Value} {asv:List AV}
  (h:(fn.results.toList.mapM (m:=Sem) fun | .tmp t=>pure (tmps.getD t undef) | .cell a t=>do loadVar t (←asAddr (tmps.getD a undef))).run P w=.ok vs w) (hv:VRs w M ι vs asv) :
  ∃v,(results fn tmps).run P w=.ok v w∧VR w M ι v (zh7 asv):=by
 have key:(results fn tmps).run P w=.ok (if h:vs.toArray.size=1 then vs.toArray[0] else .tuple vs.toArray) w:=by unfold results;rw[Array.mapM_eq_mapM_toList];rw[Sem.run_bind,Sem.run_map];exact congrArg (fun(r:Result (List Value))=>(r.andThen fun a w'=>Result.ok a.toArray w').andThen fun a w'=>(pure (if h:a.size=1 then a[0] else Value.tuple a):Sem Value).run P w') h
 rw[key];refine⟨_,rfl,?_⟩
 cases hv with
 | nil=>exact VRs.nil.tup
 |
  cons h1 h2 =>
  cases h2 with
  | nil=>exact h1
  | cons h3 h4=>exact(VRs.cons h1 (.cons h3 h4)).tup
theorem fn_ok {f:FuncId} {fn:Func} {c:Code} {ac:ACode} {q:Nat→List Nat} {rs:List ARet} {args:List AV} {H:AH} {nx:Nat} {Post:AV→AH→Nat→Prop}
  (hf:P.funcs[f]? = some fn) (hb:fn.body=some c) (hc:comp P fn.ntmps q c=some ac.strip) (hr:fn.results.toList.mapM (cret P)=some rs) (hn:args.length≤fn.ntmps)
  (h:awp P nx ac (retK rs Post) (zj0 0 args) H nx):zab P f args H nx Post:=by
 intro w L ι vs rel hv
 have hlen:vs.size=args.length:=by simpa using hv.length
 refine calls_of_wp hf hb ?_
 have hin:In fn.ntmps w L ι H nx w ι (zj0 0 args).get H nx { tmps:=vs++Array.replicate (fn.ntmps - vs.size) undef,defers:=[] }:=by
  refine⟨by simp;omega,rfl,.refl rel,Wj _,fun i=>?_⟩;rw[zqy,if_pos (Wr _),Nat.sub_zero]
  rcases Nat.lt_or_ge i args.length with hi|hi
  ·
   have h1:i < vs.size:=by omega
   refine hv.get i _ _ ?_ (by simp[Wi,Wc hi]);simp[Wu,Array.getElem?_append,h1]
  · rw[show args.getD i .undef=.undef by simp[Wi,WB hi]];exact .undef _ _
 refine wp_mono (zBC zrW rel ac c hc _ w ι _ H nx _ hin h) fun e a' w' ⟨ι',K,H',nx',hin',hq⟩=>?_
 have fin:zbk K H' nx' rs∧Post (zh7 (zaE K H' nx' rs)) H' nx'→a'.defers=[]∧∃v,(results fn a'.tmps).run P w'=.ok v w'∧∃v_1 ι' H' nx' a,Ending.returned v=.returned v_1∧Step w L ι H nx w' ι' H' nx'∧nx≤nx'∧VR w' (Lt L ι' H') ι' v_1 a∧Post a H' nx':=by intro ⟨h1,h2⟩;obtain⟨us,h3,h4⟩:=zxT hin'.st.rel hin'.kn _ _ hr h1;obtain⟨v,h5,h6⟩:=zsh h3 h4;exact⟨hin'.defers,v,h5,v,ι',H',nx',_,rfl,hin'.st,hin'.le,h6,h2⟩
 cases e with
 | normal=>exact fin hq
 | ret=>exact fin hq
 | exit id=>exact hq.elim
 | _=>exact hq.elim
end
def zT (P:Program) (f:FuncId) (q:Nat→List Nat):Option (ACode × List ARet × Nat) :=
 match P.funcs[f]? with
 |
  some fn=>match fn.body with
  |
   some c=>match comp P fn.ntmps q c,fn.results.toList.mapM (cret P) with
   | some a,some r=>some (a,r,fn.ntmps)
   | _,_=>none
  | none=>none
 | none=>none
theorem fn_of {P:Program} {f:FuncId} {q:Nat→List Nat} {ac:ACode} {rs:List ARet} {nt:Nat} (hc:zT P f q=some (ac.strip,rs,nt)) {args:List AV} {H:AH} {nx:Nat} {Post:AV→AH→Nat→Prop} (hn:args.length≤nt)
  (h:awp P nx ac (retK rs Post) (zj0 0 args) H nx):zab P f args H nx Post:=by
 unfold zT at hc;split at hc
 ·
  rename_i fn hf;split at hc
  ·
   rename_i c hb;split at hc
   · rename_i a r h1 h2;cases hc;exact fn_ok hf hb h1 h2 hn h
   · cases hc
  · cases hc
 · cases hc
inductive Vw (H H2:AH) (σ:Nat→Nat→Option (Nat × Nat × Nat)) (D:Nat→Nat→Prop):Bool→AV→AV→Prop
 | undef (t a):Vw H H2 σ D t a .undef
 | int (t k n):Vw H H2 σ D t (.int k n) (.int k n)
 | bool (t b):Vw H H2 σ D t (.bool b) (.bool b)
 | str (t s):Vw H H2 σ D t (.str s) (.str s)
 | nilp (t):Vw H H2 σ D t .nilp .nilp
 | nilfn (t):Vw H H2 σ D t .nilfn .nilfn
 | cut (t):Vw H H2 σ D t .cut .cut
 | nilsl (t):Vw H H2 σ D t .nilsl .nilsl
 | iptr (t n c):Vw H H2 σ D t (.iptr n c) (.iptr n c)
 | sl (t sz n f):Vw H H2 σ D t (.sl sz n f) (.sl sz n f)
 | nil0 (t sz f):Vw H H2 σ D t .nilsl (.sl sz 0 f)
 | slf (t sz n f f') (h:∀i j,i < n→j < sz→Vw H H2 σ D false (f i j) (f' i j)):Vw H H2 σ D t (.sl sz n f) (.sl sz n f')
 | iptrf (t n c c') (h:∀j,j < n→Vw H H2 σ D false (c j) (c' j)):Vw H H2 σ D t (.iptr n c) (.iptr n c')
 | mp (r q r' q') (hs:σ r' q'=some (r,q,0)):Vw H H2 σ D true (.mp r q) (.mp r' q')
 | nilmp (t):Vw H H2 σ D t .nilmp .nilmp
 | it (r r') (hs:σ r' 0=some (r,0,0)):Vw H H2 σ D true (.it r) (.it r')
 | own (r q g d off n r' q' g') (hs:σ r' q'=some (r,q,d)) (hg:g=g'+d):Vw H H2 σ D true (.own r q g off n) (.own r' q' g' off n)
 | ptr (r q g d i f r' q' g') (hs:σ r' q'=some (r,q,d)) (hg:g=g'+d):Vw H H2 σ D true (.ptr r q g i f) (.ptr r' q' g' i f)
 | new (r' q' sz) (hs:σ r' q'=none) (hg:H2.get r' q'=some (.row sz [] 0)):Vw H H2 σ D true .nilsl (.own r' q' 0 0 0)
 | frz (t r q g off n sz els f) (hD:D r q) (hg:H.get r q=some (.row sz els g)) (hb:n≤big) (hl:off+n≤els.length)
   (h:∀i j,i < n→j < sz→Vw H H2 σ D false ((els.getD (off+i) []).getD j .undef) (f i j)):Vw H H2 σ D t (.own r q g off n) (.sl sz n f)
 | frzp (t r q g i o n sz els c) (hD:D r q) (hg:H.get r q=some (.row sz els g)) (hi:i < els.length) (hl:o+n≤sz)
   (h:∀j,j < n→Vw H H2 σ D false ((els.getD i []).getD (o+j) .undef) (c j)):Vw H H2 σ D t (.ptr r q g i o) (.iptr n c)
 | fn (t f asv bs) (hl:asv.length=bs.length) (h:∀(i:Nat) (a b:AV),asv[i]? = some a→bs[i]? = some b→Vw H H2 σ D t a b):Vw H H2 σ D t (.fn f asv) (.fn f bs)
 | agg (t asv bs) (hl:asv.length=bs.length) (h:∀(i:Nat) (a b:AV),asv[i]? = some a→bs[i]? = some b→Vw H H2 σ D t a b):Vw H H2 σ D t (.agg asv) (.agg bs)
 | tup (t asv bs) (hl:asv.length=bs.length) (h:∀(i:Nat) (a b:AV),asv[i]? = some a→bs[i]? = some b→Vw H H2 σ D t a b):Vw H H2 σ D t (.tup asv) (.tup bs)
def zbI (H2:AH) (σ:Nat→Nat→Option (Nat × Nat × Nat)) (ι:Inj):Inj:=fun r' q' g' =>
 match σ r' q' with
 | some (r,q,d)=>ι r q (g'+d)
 |
  none=>match H2.get r' q' with
  | some (.row sz [] 0)=>bif Wb g' 0 then some ⟨0,0,0,sz⟩ else none
  | _=>none
theorem add_add (a:Addr) (h:a.spot=none) (m n:Nat):(a.add m).add n=⟨a.block,a.off+m+n,none⟩:=by
 obtain⟨b,o,s⟩:=a;simp only at h;subst h;unfold Addr.add
 split<;>split<;>simp_all
theorem Vw.sound {H H2:AH} {σ:Nat→Nat→Option (Nat × Nat × Nat)} {D:Nat→Nat→Prop} {w:World} {L M:Nat→Prop} {ι:Inj} {nx:Nat} (rel:RelH w L ι H nx)
  (hM:∀b,M b→Lt L ι H b) (hMD:∀r q sz els g l,D r q→H.get r q=some (.row sz els g)→ι r q g=some l→0 < l.cap * l.sz→¬M l.block) {t:Bool} {a a':AV} (h:Vw H H2 σ D t a a') :
  ∀v,VR w (Lt L ι H) ι v a→VR w M (bif t then zbI H2 σ ι else noI) v a':=by
 induction h with
 | undef=>intro v _;exact .undef _ _
 | int=>intro v h;cases h;exact .int _ _ _ ‹_›
 | bool=>intro v h;cases h;exact .bool _ _
 | str=>intro v h;cases h;exact .str _ _ ‹_›
 | nilp=>intro v h;cases h;exact .nilp _
 | nilfn=>intro v h;cases h;exact .nilfn _
 | cut=>intro v h;cases h;exact .cut _ _
 | mp r q r' q' hs=>intro v h;cases h with|mp _ _ _ l h hm=>exact .mp _ _ _ l (by simp only[cond_true,zbI,hs];exact h) hm
 | nilmp=>intro v h;cases h;exact .nilmp _
 | it r r' hs=>intro v h;cases h with|it _ _ l h hm=>exact .it _ _ l (by simp only[cond_true,zbI,hs];exact h) hm
 | nilsl=>intro v h;cases h;exact .nilsl _
 | nil0=>intro v h;cases h;exact .sl0 _ _ _
 |
  iptr t n c =>
  intro v h
  cases h with
  | iptr _ a n c V hc hL hv=>exact .iptr _ a n c V hc (fun hn hb=>hL hn (hM _ hb)) (fun j hj=>(hv j hj).anti hM)
 |
  sl t sz n f =>
  intro v h
  cases h with
  | sl _ a sz n cap f V hn hb hc hL hv=>exact .sl _ a sz n cap f V hn hb hc (fun hn hb=>hL hn (hM _ hb)) (fun i j hi hj=>(hv i j hi hj).anti hM)
  | sl0=>exact .sl0 _ _ _
 |
  iptrf t n c c' h ih =>
  intro v h
  cases h with
  | iptr _ a n c V hc hL hv=>exact .iptr _ a n c' V hc (fun hn hb=>hL hn (hM _ hb)) (fun j hj=>ih j hj _ ((hv j hj).mono (fun b _ hb=>⟨rfl,hb⟩) (fun _ _ _ _ h=>by cases h)))
 |
  slf t sz n f f' h ih =>
  intro v h
  cases h with
  | sl _ a sz n cap f V hn hb hc hL hv=>exact .sl _ a sz n cap f' V hn hb hc (fun hn hb=>hL hn (hM _ hb)) (fun i j hi hj=>ih i j hi hj _ ((hv i j hi hj).mono (fun b _ hb=>⟨rfl,hb⟩) (fun _ _ _ _ h=>by cases h)))
  | sl0=>exact .sl0 _ _ _
 |
  own r q g d off n r' q' g' hs hg =>
  intro v h;subst hg
  cases h with
  | own _ _ _ _ _ _ a c l h hm hn hc ha=>exact .own _ _ _ _ _ _ _ _ l (by simp only[cond_true,zbI,hs];exact h) hm hn hc ha
 |
  ptr r q g d i f r' q' g' hs hg =>
  intro v h;subst hg
  cases h with
  | ptr _ _ _ _ _ _ l h hm=>exact .ptr _ _ _ _ _ _ l (by simp only[cond_true,zbI,hs];exact h) hm
 |
  new r' q' sz hs hg =>
  intro v h;cases h;refine .own _ _ _ _ _ _ _ _ ⟨0,0,0,sz⟩ (by simp[zbI,hs,hg]) (Wr _) (Wj _) (Wj _) (fun h=>by omega)
 |
  frz t r q g off n sz els f hD hg hb hl h ih =>
  intro v h
  cases h with
  |
   own _ _ _ _ _ _ a c l h hm hn hc ha =>
   obtain⟨l',h1,ok⟩:=rel.row _ _ _ _ _ hg;rw[h] at h1;cases h1;have hsz:=ok.hsz
   cases a with
   |
    none =>
    have:c=0:=by
     rcases Ww c with h0|h0
     · exact h0
     · have:=ha h0;cases this
    subst this
    obtain rfl:n=0:=by omega
    exact .sl0 _ _ _
   |
    some a =>
    have cell:∀i j,i < n→j < sz→∃v,w.cell? ((a.add (i * sz)).add j)=some v∧v.oneCell'=true∧VR w M noI v (f i j):=by
     intro i j hi hj
     have h0:off+i < els.length:=by omega
     have hw:=ok.wide (off+i) _ (Wc h0);obtain⟨v,h2,h3,h4⟩:=ok.holds hm (off+i) _ j _ (Wc h0) (Wc (by rw[hw];exact hj));refine⟨v,?_,h3,ih i j hi hj v ?_⟩
     ·
      have:=ha (by omega);cases this;rw[add_add _ rfl,←h2,hsz]
      congr 2
      show l.off+off * sz+i * sz+j=_;rw[Nat.add_mul];omega
     · simpa [Wi,Wc h0,Wc (show j < els[off+i].length by rw[hw];exact hj)] using h4
    refine .sl _ a sz n c f (fun i j=>(w.cell? ((a.add (i * sz)).add j)).getD Go.undef) hn hb (fun i j hi hj=>?_) (fun hp=>?_) (fun i j hi hj=>?_)
    · obtain⟨v,h2,h3,_⟩:=cell i j hi hj;rw[h2];exact⟨rfl,h3⟩
    ·
     have hn0:0 < n:=by
      rcases Ww n with h0|h0
      · subst h0;simp at hp
      · exact h0
     have hs0:0 < sz:=by
      rcases Ww sz with h0|h0
      · subst h0;simp at hp
      · exact h0
     have:=ha (by omega);cases this;exact hMD _ _ _ _ _ _ hD hg h (by rw[hsz];exact Nat.mul_pos (by omega) hs0)
    ·
     obtain⟨v,h2,_,h4⟩:=cell i j hi hj
     simpa [h2] using h4
 |
  frzp t r q g i o n sz els c hD hg hi hl h ih =>
  intro v h
  cases h with
  |
   ptr _ _ _ _ _ _ l h hm =>
   obtain⟨l',h1,ok⟩:=rel.row _ _ _ _ _ hg;rw[h] at h1;cases h1;have hsz:=ok.hsz;have hw:=ok.wide i _ (Wc hi)
   have cell:∀j,j < n→∃v,w.cell? ((⟨l.block,l.off+i * l.sz+o,none⟩:Addr).add j)=some v∧v.oneCell'=true∧VR w M noI v (c j):=by
    intro j hj;obtain⟨v,h2,h3,h4⟩:=ok.holds hm i _ (o+j) _ (Wc hi) (Wc (by rw[hw];omega));refine⟨v,?_,h3,ih j hj v ?_⟩
    ·
     rw[←h2,hsz];have:=add_add ⟨l.block,l.off+i * sz+o,none⟩ rfl j 0;simp only[Addr.add,if_true] at this ⊢;split
     · rename_i h0;subst h0;rfl
     · simp only[Nat.add_assoc]
    · simpa [Wi,Wc hi,Wc (show o+j < els[i].length by rw[hw];omega)] using h4
   refine .iptr _ _ n c (fun j=>(w.cell? ((⟨l.block,l.off+i * l.sz+o,none⟩:Addr).add j)).getD Go.undef) (fun j hj=>?_) (fun hp=>?_) (fun j hj=>?_)
   · obtain⟨v,h2,h3,_⟩:=cell j hj;rw[h2];exact⟨rfl,h3⟩
   · exact hMD _ _ _ _ _ _ hD hg h (by rw[hsz];exact Nat.mul_pos (Nat.lt_of_lt_of_le (by omega) (ok.plain hm).len) (by omega))
   ·
    obtain⟨v,h2,_,h4⟩:=cell j hj
    simpa [h2] using h4
 |
  fn t f asv bs hl h ih =>
  intro v h
  cases h with
  |
   fn _ _ cs _ hs hv =>
   refine .fn _ _ _ _ (hs.trans hl) (fun i v b h1 h2=>?_)
   have hi:i < asv.length:=by rw[hl];exact(Wx.1 h2).1
   exact ih i _ b (Wc hi) h2 v (hv i v _ h1 (Wc hi))
 |
  agg t asv bs hl h ih =>
  intro v h
  cases h with
  |
   agg _ cs _ hs h1 hv =>
   refine .agg _ _ _ (hs.trans hl) h1 (fun i v b h1 h2=>?_)
   have hi:i < asv.length:=by rw[hl];exact(Wx.1 h2).1
   exact ih i _ b (Wc hi) h2 v (hv i v _ h1 (Wc hi))
 |
  tup t asv bs hl h ih =>
  intro v h
  cases h with
  |
   tup _ cs _ hs hv =>
   refine .tup _ _ _ (hs.trans hl) (fun i v b h1 h2=>?_)
   have hi:i < asv.length:=by rw[hl];exact(Wx.1 h2).1
   exact ih i _ b (Wc hi) h2 v (hv i v _ h1 (Wc hi))
def RowV (H H2:AH) (σ:Nat→Nat→Option (Nat × Nat × Nat)) (D:Nat→Nat→Prop) (els els2:List (List AV)):Prop :=
 els2.length=els.length∧∀(i:Nat) (c2:List AV),els2[i]? = some c2→∃c,els[i]? = some c∧c2.length=c.length∧∀(j:Nat) (a b:AV),c[j]? = some a→c2[j]? = some b→Vw H H2 σ D true a b
structure View (B:Nat) (H:AH) (H2:AH) (nx2:Nat) (σ:Nat→Nat→Option (Nat × Nat × Nat)) (D:Nat→Nat→Prop):Prop where
 le:B≤nx2
 base:∀r q,r < B→σ r q=some (r,q,0)
 inj:∀r1 q1 r2 q2 r q d1 d2,σ r1 q1=some (r,q,d1)→σ r2 q2=some (r,q,d2)→r1=r2∧q1=q2
 apart:∀r' q' r q d,σ r' q'=some (r,q,d)→¬D r q
 idx:∀r' q' x,σ r' q'=some x→r' < nx2
 dom:∀r o,H2.look r=some o→r < nx2
 row:∀r' q' sz els2 g2,H2.get r' q'=some (.row sz els2 g2)→(∃r q d els,σ r' q'=some (r,q,d)∧H.get r q=some (.row sz els (g2+d))∧RowV H H2 σ D els els2)∨(σ r' q'=none∧els2=[]∧g2=0)
section
variable {B:Nat} {H H2:AH} {nx nx2:Nat} {σ:Nat→Nat→Option (Nat × Nat × Nat)} {D:Nat→Nat→Prop} {w:World} {L:Nat→Prop} {ι:Inj}
theorem View.live (vw:View B H H2 nx2 σ D) {b:Nat} (h:live (zbI H2 σ ι) H2 b):∃r' q' r q d sz els els2 g l,σ r' q'=some (r,q,d)∧H2.get r' q'=some (.row sz els2 g)∧H.get r q=some (.row sz els (g+d))∧ι r q (g+d)=some l∧0 < l.cap * l.sz∧l.block=b:=by
 obtain⟨r',q',sz,els2,g,l,h1,h2,h3,rfl⟩:=h
 rcases vw.row _ _ _ _ _ h1 with ⟨r,q,d,els,a1,a2,a3⟩ | ⟨a1,a2,a3⟩
 · simp only[zbI,a1] at h2;exact⟨r',q',r,q,d,sz,els,els2,g,l,a1,h1,a2,h2,h3,rfl⟩
 · subst a2 a3;simp[zbI,a1,h1] at h2;subst h2;simp at h3
theorem View.lv (vw:View B H H2 nx2 σ D) {b:Nat} (h:Go.Ab.live (zbI H2 σ ι) H2 b):Go.Ab.live ι H b:=by obtain⟨r',q',r,q,d,sz,els,els2,g,l,h1,h2,h3,h4,h5,h6⟩:=vw.live h;exact⟨r,q,sz,els,g+d,l,h3,h4,h5,h6⟩
theorem View.lt (vw:View B H H2 nx2 σ D):∀b,Lt L (zbI H2 σ ι) H2 b→Lt L ι H b:=by
 rintro b (h|h)
 · exact .inl h
 · exact .inr (vw.lv h)
theorem View.off (vw:View B H H2 nx2 σ D) (rel:RelH w L ι H nx):∀r q sz els g l,D r q→H.get r q=some (.row sz els g)→ι r q g=some l→0 < l.cap * l.sz→¬Lt L (zbI H2 σ ι) H2 l.block:=by
 intro r q sz els g l hD h1 h2 h3 h4
 rcases h4 with h4|h4
 · exact rel.out _ ⟨r,q,sz,els,g,l,h1,h2,h3,rfl⟩ h4
 · obtain⟨r',q',r1,q1,d,sz1,els1,els2,g1,l1,a1,a2,a3,a4,a5,a6⟩:=vw.live h4;obtain⟨rfl,rfl⟩:=rel.apart _ _ _ _ _ _ _ _ _ _ _ _ h1 a3 h2 a4 h3 a5 a6.symm;exact vw.apart _ _ _ _ _ a1 hD
theorem View.vr (vw:View B H H2 nx2 σ D) (rel:RelH w L ι H nx) {t:Bool} {a b:AV} (h:Vw H H2 σ D t a b) {v:Value} (hv:VR w (Lt L ι H) ι v a):VR w (Lt L (zbI H2 σ ι) H2) (bif t then zbI H2 σ ι else noI) v b :=
 h.sound rel vw.lt (vw.off rel) v hv
theorem View.rel (vw:View B H H2 nx2 σ D) (rel:RelH w L ι H nx):RelH w L (zbI H2 σ ι) H2 nx2:=by
 constructor
 ·
  intro r' q' sz els2 g h
  rcases vw.row _ _ _ _ _ h with ⟨r,q,d,els,a1,a2,a3⟩ | ⟨a1,rfl,rfl⟩
  · obtain⟨l,h1,ok⟩:=rel.row _ _ _ _ _ a2;refine⟨l,by simp only[zbI,a1];exact h1,ok.view (fun _=>rfl) a3.1 (fun i c' hi=>?_)⟩;obtain⟨c1,hc,hl,hv⟩:=a3.2 i c' hi;exact⟨c1,hc,hl,fun j a a' hj hj' v h4=>vw.vr rel (hv j a a' hj hj') h4⟩
  · refine⟨⟨0,0,0,sz⟩,by simp[zbI,a1,h],.mk' rfl (Wj _) (Wr _) (fun k hk=>by simp at hk) (fun h=>by simp at h) (fun i c hi=>by simp at hi) (fun i c j a hi=>by simp at hi)⟩
 ·
  intro r1 q1 r2 q2 s1 e1 g1 l1 s2 e2 g2 l2 h1 h2 h3 h4 h5 h6 h7
  have key:∀r' q' s e g l,H2.get r' q'=some (.row s e g)→zbI H2 σ ι r' q' g=some l→0 < l.cap * l.sz→∃r q d els,σ r' q'=some (r,q,d)∧H.get r q=some (.row s els (g+d))∧ι r q (g+d)=some l:=by
   intro r' q' s e g l a1 a2 a3
   rcases vw.row _ _ _ _ _ a1 with ⟨r,q,d,els,b1,b2,b3⟩ | ⟨b1,rfl,rfl⟩
   · simp only[zbI,b1] at a2;exact⟨r,q,d,els,b1,b2,a2⟩
   · simp[zbI,b1,a1] at a2;subst a2;simp at a3
  obtain⟨x1,y1,d1,z1,a1,a2,a3⟩:=key _ _ _ _ _ _ h1 h3 h5;obtain⟨x2,y2,d2,z2,b1,b2,b3⟩:=key _ _ _ _ _ _ h2 h4 h6;obtain⟨rfl,rfl⟩:=rel.apart _ _ _ _ _ _ _ _ _ _ _ _ a2 b2 a3 b3 h5 h6 h7;exact vw.inj _ _ _ _ _ _ _ _ a1 b1
 · intro b hb;exact rel.out b (vw.lv hb)
 ·
  intro r' q' g l h;unfold zbI at h;split at h
  · rename_i hs;exact vw.idx _ _ _ hs
  ·
   split at h
   ·
    rename_i hg;unfold AH.get at hg
    cases hl:H2.look r' with
    | none=>rw[hl] at hg;cases hg
    | some o=>exact vw.dom _ _ hl
   · cases h
 · exact vw.dom
 ·
  intro r' q' sz els g h g2 l h2
  rcases vw.row _ _ _ _ _ h with ⟨r,q,d,els1,a1,a2,a3⟩ | ⟨a1,rfl,rfl⟩
  · simp only[zbI,a1] at h2;have:=rel.gen _ _ _ _ _ a2 _ _ h2;omega
  ·
   simp only[zbI,a1,h] at h2
   cases hb:Wb g2 0 with
   | true=>rw[zl hb];exact Wj _
   | false=>rw[hb] at h2;cases h2
 · exact rel.Lsz
theorem Ent.view {K K2:Kn} (σ:Nat→Nat→Option (Nat × Nat × Nat)) (D:Nat→Nat→Prop) (vw:View B H H2 nx2 σ D) (hK:∀i,Vw H H2 σ D true (K.get i) (K2.get i)):Ent B K H nx K2 H2 nx2:=by refine⟨vw.le,fun w L ι tmps rel hk=>⟨zbI H2 σ ι,vw.rel rel,fun i=>vw.vr rel (hK i) (hk i),fun b hb=>vw.lv hb,fun r q g l hr h=>?_⟩⟩;simp only[zbI,vw.base r q hr];exact h
end
def nos:Nat→Nat→Option (Nat × Nat × Nat):=fun _ _=>none
def allR:Nat→Nat→Prop:=fun _ _=>True
def noR:Nat→Nat→Prop:=fun _ _=>False
abbrev Frz (H:AH) (v a:AV):Prop:=Vw H [] nos allR false v a
def zu (P:Program) (f:FuncId) (args:List AV) (Q:AV→Prop):Prop :=
 zab P f args [] 0 (fun v H' _=>∃a,Frz H' v a∧Q a)
inductive Lend (H:AH) (D:Nat→Nat→Prop):List AV→List AV→Prop
 | nil:Lend H D [] []
 | cons {a b asv bs} (h:Vw H [] nos D false a b) (t:Lend H D asv bs):Lend H D (a::asv) (b::bs)
section
variable {P:Program} {w w':World} {L:Nat→Prop} {ι:Inj} {H:AH} {nx:Nat} {D:Nat→Nat→Prop}
theorem zab.mono {f:FuncId} {args:List AV} {Q Q':AV→AH→Nat→Prop} (h:zab P f args H nx Q) (hq:∀v H nx,Q v H nx→Q' v H nx):zab P f args H nx Q':=by
 intro w L ι vs h1 h2
 exact(h w L ι vs h1 h2).mono fun e w' ⟨v,ι',H',nx',a,h3,h4,h5,h6,h7⟩=>⟨v,ι',H',nx',a,h3,h4,h5,h6,hq _ _ _ h7⟩
theorem zc0.ok {f:FuncId} {args:List AV} {a:AV} {k:AV→AH→Nat→Prop} (h:zc0 P f args H nx a) (hk:k a H nx):zab P f args H nx k:=by
 intro w L ι vs h1 h2
 exact(h w L ι vs h1 h2).mono fun e w' ⟨v,h3,h4,h5⟩=>⟨v,ι,H,nx,a,h3,h4,Wj _,h5,hk⟩
theorem zjq (b:Nat):¬live noI [] b:=by rintro⟨r,q,sz,els,g,l,h,_⟩;cases h
theorem RelH.empty {M:Nat→Prop} (hM:∀b,M b→b < w.heap.size):RelH w M noI [] 0:=by
 constructor
 · intro r q sz els g h;cases h
 · intro r1 q1 r2 q2 s1 e1 g1 l1 s2 e2 g2 l2 h;cases h
 · intro b hb;exact(zjq b hb).elim
 · intro r q g l h;cases h
 · intro r o h;cases h
 · intro r q sz els g h;cases h
 · exact hM
def ziB (L:Nat→Prop) (ι:Inj) (H:AH) (D:Nat→Nat→Prop):Nat→Prop:=fun b=>Lt L ι H b∧¬ ∃r q sz els g l,D r q∧H.get r q=some (.row sz els g)∧ι r q g=some l∧0 < l.cap * l.sz∧l.block=b
theorem zsx (rel:RelH w L ι H nx):∀b,ziB L ι H D b→b < w.heap.size:=by
 rintro b ⟨h|h,_⟩
 · exact rel.Lsz b h
 · exact rel.live_lt h
theorem Lend.vrs (rel:RelH w L ι H nx) {asv bs:List AV} (h:Lend H D asv bs):∀ {vs:List Value},VRs w (Lt L ι H) ι vs asv→VRs w (Lt (ziB L ι H D) noI []) noI vs bs:=by
 induction h with
 | nil=>intro vs h;cases h;exact .nil
 |
  cons h _ ih =>
  intro vs hv
  cases hv with
  |
   cons h1 h2 =>
   refine .cons ?_ (ih h2)
   exact(h.sound rel (M:=Lt (ziB L ι H D) noI []) (fun b hb=>by rcases hb with hb|hb;exact hb.1;exact(zjq b hb).elim)
    (fun r q sz els g l a1 a2 a3 a4 a5=>by rcases a5 with hb|hb;exact hb.2 ⟨r,q,sz,els,g,l,a1,a2,a3,a4,rfl⟩;exact(zjq _ hb).elim) _ h1)
def AV.scal0:AV→Bool
 | .undef | .int .. | .bool _ | .str _ | .nilp | .nilfn | .nilsl | .cut=>true
 | _=>false
def AV.scal:AV→Bool
 | .agg l=>l.all AV.scal0
 | .tup l=>l.all AV.scal0
 | a=>a.scal0
theorem zym {M M':Nat→Prop} {ι ι':Inj} {v:Value} {a:AV} (ha:a.scal0=true) (h:VR w M ι v a):VR w M' ι' v a:=by
 cases h<;>first | (cases ha;done) | (constructor<;>assumption)
theorem zGX {M M':Nat→Prop} {ι ι':Inj} {v:Value} {a:AV} (ha:a.scal=true) (h:VR w M ι v a):VR w M' ι' v a:=by
 cases h with
 | agg _ cs asv hs h1 hv=>exact .agg _ _ _ hs h1 (fun i v a h2 h3=>zym (Wo.1 ha a (Wy h3)) (hv i v a h2 h3))
 | tup _ cs asv hs hv=>exact .tup _ _ _ hs (fun i v a h2 h3=>zym (Wo.1 ha a (Wy h3)) (hv i v a h2 h3))
 | undef=>exact .undef _ _
 | int _ _ _ h=>exact .int _ _ _ h
 | bool=>exact .bool _ _
 | str _ _ h=>exact .str _ _ h
 | nilp=>exact .nilp _
 | nilfn=>exact .nilfn _
 | nilsl=>exact .nilsl _
 | cut=>exact .cut _ _
 | _=>cases ha
theorem zAX {f:FuncId} {asv bs:List AV} {Q:AV→Prop} (h:zu P f bs Q) (ha:Lend H D asv bs) (hr:∀a,Q a→a.scal=true∨∀r q,¬D r q)
  {vs:Array Value} (rel:RelH w L ι H nx) (hv:VRs w (Lt L ι H) ι vs.toList asv) :
  Calls P f vs w (fun e w'=>∃v a,e=.returned v∧Step w L ι H nx w' ι H nx∧VR w' (Lt L ι H) ι v a∧Q a):=by
 refine(h w (ziB L ι H D) noI vs (.empty (zsx rel)) (ha.vrs rel hv)).mono fun e w' ⟨v,ι',H',nx',a0,h3,h4,_,h6,a,h7,h8⟩=>?_
 have hsame:∀b,b < w.heap.size→w'.heap[b]? = w.heap[b]? := fun b hb=>h4.ext.block b hb (zjq b)
 refine⟨v,a,h3,⟨⟨h4.ext.os,h4.ext.tape,h4.ext.output,h4.ext.size,fun b hb _=>hsame b hb⟩,fun _ _ _ _ h=>h,rel.grow h4.ext.size hsame,fun b hb=>.inl hb⟩,?_,h8⟩
 have key:VR w' (ziB L ι H D) noI v a:=by refine h7.sound h4.rel (M:=ziB L ι H D) (fun b hb=>.inl hb) (fun r q sz els g l _ a2 a3 a4 a5=>?_) v h6;exact h4.rel.out _ ⟨r,q,sz,els,g,l,a2,a3,a4,rfl⟩ a5
 rcases hr a h8 with hs|hd
 · exact zGX hs key
 ·
  have:ziB L ι H D=Lt L ι H:=by
   funext b
   simp[ziB,hd]
  rw[this] at key;exact key.mono (fun b _ hb=>⟨rfl,hb⟩) (fun _ _ _ _ h=>by cases h)
theorem zbd {f:FuncId} {asv bs:List AV} {r:AV} (h:zu P f bs (·=r)) (ha:Lend H D asv bs) (hr:r.scal=true∨∀r q,¬D r q):zc0 P f asv H nx r:=by
 intro w L ι vs rel hv
 exact(zAX h ha (fun a e=>by subst e;exact hr) rel hv).mono fun e w' ⟨v,a,h1,h2,h3,h4⟩=>⟨v,h1,h2,by rw[←h4];exact h3⟩
def AObj.ren (ρ:Nat→Nat):AObj→AObj
 | .row sz els g=>.row sz (els.map (·.map (AV.ren ρ))) g
 | .fam sz ins=>.fam sz (ins.map fun p=>(p.1.map (·.map (AV.ren ρ)),p.2))
theorem AObj.part_ren (ρ:Nat→Nat) (o:AObj) (q:Nat):(o.ren ρ).part q=(o.part q).map (AObj.ren ρ):=by
 cases o with
 | row sz els g=>cases q<;>rfl
 |
  fam sz ins =>
  cases q with
  | zero=>rfl
  |
   succ i =>
   simp only[AObj.ren,AObj.part,Wm,Option.map_map]
   cases ins[i]? <;> rfl
end
def wpX (P:Program) (B:Nat) (c:ACode) (Q:QT) (K:Kn) (H:AH) (nx:Nat):Prop:=awp P B c Q K H nx
def seqQ (P:Program) (B:Nat) (b:ACode) (Q:QT):QT:=fun e K H nx=>match e with
 | .normal=>awp P B b Q K H nx
 | e=>Q e K H nx
def zbv (id:Nat) (Q:QT):QT:=fun e K H nx=>match e with
 | .exit id'=>bif Wb id' id then Q .normal K H nx else Q (.exit id') K H nx
 | e=>Q e K H nx
def ztA (P:Program) (B:Nat) (t:Bool) (a b:ACode) (Q:QT) (K:Kn) (H:AH) (nx:Nat):Prop:=zeW t (awp P B a Q K H nx) (awp P B b Q K H nx)
def zED (P:Program) (B:Nat) (v:AV) (a b:ACode) (Q:QT) (K:Kn) (H:AH) (nx:Nat):Prop:=match v with
 | .bool t=>zeW t (awp P B a Q K H nx) (awp P B b Q K H nx)
 | _=>False
def zjG (P:Program) (B:Nat) (c:ACode) (Q:QT) (K:Kn) (H:AH) (nx:Nat):Prop:=zFD B (awp P B c) Q K H nx
def zF2 (P:Program) (B:Nat) (c:ACode) (Q:QT) (K:Kn) (H:AH) (nx:Nat):Prop:=zFG B (awp P B c Q) K H nx
def joinX (P:Program) (B:Nat) (a b:ACode) (Q:QT) (K:Kn) (H:AH) (nx:Nat):Prop:=zFC B (awp P B a) (awp P B b Q) Q K H nx
def jumpX (P:Program) (B l:Nat) (a b:ACode) (Q:QT) (K:Kn) (H:AH) (nx:Nat):Prop:=zFN B l (awp P B a) (awp P B b) Q K H nx
inductive Rest where
 | ops (os:List AOper)
 | tree (t:DTree)
def zaI (P:Program) (r:Rest) (drop:List Nat) (Q:QT) (K:Kn) (H:AH) (nx:Nat):Prop:=match r with
 | .ops os=>aops P os drop Q K H nx
 | .tree t=>awpT P t drop Q K H nx
def Rest.fx:Rest→Bool
 | .ops _=>true
 | .tree _=>false
def zEj (P:Program) (d:Option Nat) (r:Rest) (drop:List Nat) (Q:QT) (K:Kn):AV→AH→Nat→Prop:=fun v H nx=>zaI P r drop Q (setO K d v) H nx
def opX (P:Program) (op:AOp) (d:Option Nat) (r:Rest) (drop:List Nat) (Q:QT) (K:Kn) (H:AH) (nx:Nat):Prop:=zb1 P r.fx op K.get H nx (zEj P d r drop Q K)
def resX (P:Program) (o:ORes) (d:Option Nat) (r:Rest) (drop:List Nat) (Q:QT) (K:Kn):Prop:=zk5 r.fx o (zEj P d r drop Q K)
def zs4 (P:Program) (d:Option Nat) (r:Rest) (drop:List Nat) (Q:QT) (K:Kn):AV→AH→Nat→Prop:=fun v H nx=>(bif r.fx then v.wf else True)→zaI P r drop Q (setO K d v) H nx
def zAb (P:Program) (f:FuncId) (args:List AV) (H:AH) (nx:Nat) (k:AV→AH→Nat→Prop):Prop:=zab P f args H nx k
def zAP (P:Program) (f:FuncId) (args:List AV) (d:Option Nat) (r:Rest) (drop:List Nat) (Q:QT) (K:Kn) (H:AH) (nx:Nat):Prop:=CallQ P f args H nx (fun v=>zaI P r drop Q (setO K d v) H nx)
def zqE (P:Program) (x:AV) (args:List AV) (H:AH) (nx:Nat) (k:AV→AH→Nat→Prop):Prop:=match x with
 | .fn (.func f) caps=>zfv P f=true∧zab P f (args++caps) H nx k
 | _=>False
def nilX (P:Program) (b:Option (Option Bool)) (neg:Bool) (d:Option Nat) (r:Rest) (drop:List Nat) (Q:QT) (K:Kn) (H:AH) (nx:Nat):Prop:=match b with
 | some (some b)=>zaI P r drop Q (setO K d (.bool (b != neg))) H nx
 | some none=>∀b,zaI P r drop Q (setO K d (.bool b)) H nx
 | none=>False
def zEX (P:Program) (x:AV) (d:Option Nat) (r:Rest) (drop:List Nat) (Q:QT) (K:Kn) (H:AH) (nx:Nat):Prop:=zlp x H nx (zEj P d r drop Q K)
def zi9 (P:Program) (t:Bool) (op:AOp) (d:Option Nat) (r:Rest) (drop:List Nat) (Q:QT) (K:Kn) (H:AH) (nx:Nat):Prop:=zeW t (opX P op d r drop Q K H nx) (zaI P r drop Q (setO K d (.tup [])) H nx)
def zf2 (P:Program) (v:AV) (want:Bool) (op:AOp) (d:Option Nat) (r:Rest) (drop:List Nat) (Q:QT) (K:Kn) (H:AH) (nx:Nat):Prop:=match grd want v with
 | some b=>zi9 P b op d r drop Q K H nx
 | none=>False
section
variable {P:Program} {B:Nat} {Q:QT} {K:Kn} {H:AH} {nx:Nat} {drop:List Nat} {os:List AOper} {d:Option Nat} {r:Rest}
theorem zDH:wpX P B .skip Q K H nx=Q .normal K H nx:=rfl
theorem zzR:wpX P B (.region os drop) Q K H nx=zaI P (.ops os) drop Q K H nx:=rfl
theorem zDP {t:DTree}:wpX P B (.draw t drop) Q K H nx=zaI P (.tree t) drop Q K H nx:=rfl
theorem zFT {a b:ACode}:wpX P B (.seq a b) Q K H nx=wpX P B a (seqQ P B b Q) K H nx:=rfl
theorem zDA {c:AOpd} {a b:ACode}:wpX P B (.cond c a b) Q K H nx=zED P B (ev K.get c) a b Q K H nx:=rfl
theorem zCi {id:Nat} {c:ACode}:wpX P B (.block id c) Q K H nx=wpX P B c (zbv id Q) K H nx:=rfl
theorem zD3 {c:ACode}:wpX P B (.loop c) Q K H nx=zjG P B c Q K H nx:=rfl
theorem zEL {id:Nat}:wpX P B (.exit id) Q K H nx=Q (.exit id) K H nx:=rfl
theorem zFY:wpX P B .ret Q K H nx=Q .ret K H nx:=rfl
theorem zE0 {n:Nat} {c:ACode}:wpX P B (.mark n c) Q K H nx=zF2 P B c Q K H nx:=rfl
theorem zB1 {c:ACode}:wpX P B (.scope c) Q K H nx=wpX P B c (noGQ Q) K H nx:=rfl
theorem zAI {l:Nat}:wpX P B (.label l) Q K H nx=Q .normal K H nx:=rfl
theorem zEm {l:Nat}:wpX P B (.goto l) Q K H nx=Q (.goto l) K H nx:=rfl
theorem zEq {l:Nat} {a b:ACode}:wpX P B (.jump l a b) Q K H nx=jumpX P B l a b Q K H nx:=rfl
theorem zDR {a b:ACode}:wpX P B (.join a b) Q K H nx=joinX P B a b Q K H nx:=rfl
theorem zwv {b:ACode}:seqQ P B b Q .normal K H nx=wpX P B b Q K H nx:=rfl
theorem zDM {b:ACode}:seqQ P B b Q .ret K H nx=Q .ret K H nx:=rfl
theorem zC6 {b:ACode} {l:Nat}:seqQ P B b Q (.goto l) K H nx=Q (.goto l) K H nx:=rfl
theorem zDm {b:ACode} {id:Nat}:seqQ P B b Q (.exit id) K H nx=Q (.exit id) K H nx:=rfl
theorem ztx {id:Nat}:zbv id Q .normal K H nx=Q .normal K H nx:=rfl
theorem zw3 {id l:Nat}:zbv id Q (.goto l) K H nx=Q (.goto l) K H nx:=rfl
theorem zxc:noGQ Q .normal K H nx=Q .normal K H nx:=rfl
theorem zEN:noGQ Q .ret K H nx=Q .ret K H nx:=rfl
theorem zCv {id:Nat}:noGQ Q (.exit id) K H nx=Q (.exit id) K H nx:=rfl
theorem zAh {id:Nat}:zbv id Q .ret K H nx=Q .ret K H nx:=rfl
theorem zwR {id id':Nat}:zbv id Q (.exit id') K H nx=bif Wb id' id then Q .normal K H nx else Q (.exit id') K H nx:=rfl
theorem zAc {t:Bool} {a b:ACode}:zED P B (.bool t) a b Q K H nx=ztA P B t a b Q K H nx:=rfl
theorem zyJ {a b:ACode}:ztA P B true a b Q K H nx=wpX P B a Q K H nx:=by unfold ztA;rw[zeW.true];rfl
theorem zw2 {a b:ACode}:ztA P B false a b Q K H nx=wpX P B b Q K H nx:=by unfold ztA;rw[zeW.false];rfl
theorem zaS {t:Bool} {a b:ACode} (h1:t=true→wpX P B a Q K H nx) (h2:t=false→wpX P B b Q K H nx):ztA P B t a b Q K H nx:=⟨h1,h2⟩
theorem zD9 {rs:List ARet} {Post:AV→AH→Nat→Prop}:retK rs Post .ret K H nx=(zbk K H nx rs∧Post (zh7 (zaE K H nx rs)) H nx):=rfl
theorem zwM {rs:List ARet} {Post:AV→AH→Nat→Prop}:retK rs Post .normal K H nx=(zbk K H nx rs∧Post (zh7 (zaE K H nx rs)) H nx):=rfl
theorem zBG:zaI P (.ops []) drop Q K H nx=Q .normal (K.drop drop) H nx:=rfl
theorem zzT {op:AOp}:zaI P (.ops (⟨d,op,none⟩::os)) drop Q K H nx=opX P op d (.ops os) drop Q K H nx:=rfl
theorem zxz {op:AOp} {t:Nat} {want:Bool}:zaI P (.ops (⟨d,op,some (t,want)⟩::os)) drop Q K H nx=zf2 P (K.get t) want op d (.ops os) drop Q K H nx:=rfl
theorem zzI:zaI P (.tree .done) drop Q K H nx=Q .normal (K.drop drop) H nx:=rfl
theorem zy0:zaI P (.tree .stop) drop Q K H nx=True:=rfl
theorem zyP {op:AOp} {t:DTree}:zaI P (.tree (.step ⟨d,op,none⟩ t)) drop Q K H nx=opX P op d (.tree t) drop Q K H nx:=rfl
theorem zwG {op:AOp} {t:DTree} {g:Nat} {want:Bool}:zaI P (.tree (.step ⟨d,op,some (g,want)⟩ t)) drop Q K H nx=zf2 P (K.get g) want op d (.tree t) drop Q K H nx:=rfl
theorem zC8 {op:AOp} {t u:DTree}:zaI P (.tree (.alt ⟨d,op,none⟩ t u)) drop Q K H nx=(opX P op d (.tree t) drop Q K H nx∧zaI P (.tree u) drop Q K H nx):=rfl
theorem zAq {op:AOp} {t u:DTree} {g:Nat} {want:Bool}:zaI P (.tree (.alt ⟨d,op,some (g,want)⟩ t u)) drop Q K H nx=(zf2 P (K.get g) want op d (.tree t) drop Q K H nx∧zaI P (.tree u) drop Q K H nx):=rfl
theorem zAn {op:AOp} {b:Bool}:zf2 P (.bool b) true op d r drop Q K H nx=zi9 P b op d r drop Q K H nx:=by unfold zf2;cases b<;>rfl
theorem zAU {op:AOp} {b:Bool}:zf2 P (.bool b) false op d r drop Q K H nx=zi9 P (!b) op d r drop Q K H nx:=by unfold zf2;cases b<;>rfl
theorem zxk {op:AOp} {want:Bool}:zf2 P (.tup []) want op d r drop Q K H nx=zaI P r drop Q (setO K d (.tup [])) H nx:=by unfold zf2 grd zi9;simp only[zeW.false]
theorem zws {op:AOp}:zi9 P true op d r drop Q K H nx=opX P op d r drop Q K H nx:=by unfold zi9;rw[zeW.true]
theorem ztD {op:AOp}:zi9 P false op d r drop Q K H nx=zaI P r drop Q (setO K d (.tup [])) H nx:=by unfold zi9;rw[zeW.false]
theorem zDx {s f:Prop} {v:AV} {H':AH} {nx':Nat}:resX P ⟨s,f,v,H',nx'⟩ d (.ops os) drop Q K=(s∧(f→zaI P (.ops os) drop Q (setO K d v) H' nx')):=rfl
theorem zBY {s f:Prop} {v:AV} {H':AH} {nx':Nat} {t:DTree}:resX P ⟨s,f,v,H',nx'⟩ d (.tree t) drop Q K=(s∧zaI P (.tree t) drop Q (setO K d v) H' nx'):=by unfold resX zk5 Rest.fx;simp only[cond_false,true_implies];rfl
theorem zGa {x:AOpd}:opX P (.mov x) d r drop Q K H nx=zaI P r drop Q (setO K d (ev K.get x)) H nx:=by
 unfold opX zb1 zk5 aop
 cases r<;>simp only[Rest.fx,cond_true,cond_false,true_implies,true_and]<;>rfl
theorem zAF {s:Nat}:opX P (.mknil s) d r drop Q K H nx=zaI P r drop Q (setO K d (.own nx 0 0 0 0)) (H.set nx 0 (.row s [] 0)) (nx+1):=by
 unfold opX zb1 zk5 aop zqQ
 cases r<;>simp only[Rest.fx,cond_true,cond_false,true_implies,true_and]<;>rfl
theorem zDO {c x y:AOpd}:opX P (.pick c x y) d r drop Q K H nx=resX P (zmZ (ev K.get c) (ev K.get x) (ev K.get y) H nx) d r drop Q K:=rfl
theorem zFh {g:Bool} {n:Nat} {p:AOpd}:opX P (.load g n p) d r drop Q K H nx=resX P (zcP g n (ev K.get p) H nx) d r drop Q K:=rfl
theorem zBH {n:Nat} {p v:AOpd}:opX P (.store n p v) d r drop Q K H nx=resX P (zd9 n (ev K.get p) (ev K.get v) H nx) d r drop Q K:=rfl
theorem zGh {s:Nat} {x i:AOpd}:opX P (.idx s x i) d r drop Q K H nx=resX P (idxR s (ev K.get x) (ev K.get i) H nx) d r drop Q K:=rfl
theorem zwS {o n:Nat} {x:AOpd}:opX P (.fldaddr o n x) d r drop Q K H nx=resX P (zbS o n (ev K.get x) H nx) d r drop Q K:=rfl
theorem zF5 {o n:Nat} {g:Bool} {x:AOpd}:opX P (.fld o n g x) d r drop Q K H nx=resX P (fldR o n g (ev K.get x) H nx) d r drop Q K:=rfl
theorem zGW {x:AOpd}:opX P (.len x) d r drop Q K H nx=resX P (lenR (ev K.get x) H nx) d r drop Q K:=rfl
theorem zDX {x:AOpd}:opX P (.slen x) d r drop Q K H nx=resX P (zpN (ev K.get x) H nx) d r drop Q K:=rfl
theorem zGw {o:BinOp} {x y:AOpd}:opX P (.bin o x y) d r drop Q K H nx=resX P (binI o (ev K.get x) (ev K.get y) H nx) d r drop Q K:=rfl
theorem zGF {n:Bool} {x y:AOpd}:opX P (.eqb n x y) d r drop Q K H nx=resX P (eqB n (ev K.get x) (ev K.get y) H nx) d r drop Q K:=rfl
theorem opX_un {o:UnOp} {x:AOpd}:opX P (.un o x) d r drop Q K H nx=resX P (unR o (ev K.get x) H nx) d r drop Q K:=rfl
theorem zFo {k:IntKind} {x:AOpd}:opX P (.conv k x) d r drop Q K H nx=resX P (zmk k (ev K.get x) H nx) d r drop Q K:=rfl
theorem zC7 {z:List AV} {ps:List (Nat × Nat × AOpd)}:opX P (.build z ps) d r drop Q K H nx=resX P (zi4 z (zc6 K.get ps) H nx) d r drop Q K:=rfl
theorem zxn {s l:Nat} {z:List AV} {ps:List (Nat × AOpd)}:opX P (.buildSl s l z ps) d r drop Q K H nx=resX P (zeb s l z (zh4 K.get ps) H nx) d r drop Q K:=rfl
theorem zFZ {x:AOpd}:opX P (.box x) d r drop Q K H nx=resX P (boxR (ev K.get x) H nx) d r drop Q K:=rfl
theorem zEk {x:AOpd}:opX P (.rbox x) d r drop Q K H nx=resX P (zrg (ev K.get x) H nx) d r drop Q K:=rfl
theorem zuz {s l:Nat} {z:List AV} {ps:List (Nat × AOpd)}:opX P (.rbuildSl s l z ps) d r drop Q K H nx=resX P (zeR s l z (zh4 K.get ps) H nx) d r drop Q K:=rfl
theorem zBW {x:AOpd}:opX P (.mnext x) d r drop Q K H nx=zEX P (ev K.get x) d r drop Q K H nx:=rfl
theorem zBd {z:List AV}:opX P (.alloc z) d r drop Q K H nx=resX P (zmf z H nx) d r drop Q K:=rfl
theorem zDU {s b:Nat} {z:List AV} {l c:AOpd}:opX P (.mksl s b z l c) d r drop Q K H nx=resX P (zmj s b z (ev K.get l) (ev K.get c) H nx) d r drop Q K:=rfl
theorem zCI {s:Nat} {x:AOpd} {l h:Option AOpd}:opX P (.slice s x l h) d r drop Q K H nx=resX P (zdH s (ev K.get x) (evO K.get l) (evO K.get h) H nx) d r drop Q K:=rfl
theorem zGC {x:AOpd}:opX P (.cut x) d r drop Q K H nx=resX P (cutR (ev K.get x) H nx) d r drop Q K:=rfl
theorem zFx {f:Fn} {cs:List AOpd}:opX P (.mkfn f cs) d r drop Q K H nx=zaI P r drop Q (setO K d (.fn f (evs K.get cs))) H nx:=by
 unfold opX zb1 zk5 aop
 cases r<;>simp only[Rest.fx,cond_true,cond_false,true_implies,true_and]<;>rfl
theorem zyO {s b:Nat} {x y:AOpd}:opX P (.append s b x y) d r drop Q K H nx=resX P (zdp s b (ev K.get x) (ev K.get y) H nx) d r drop Q K:=rfl
theorem zB0 {s:Nat} {z:List AV} {x:AOpd}:opX P (.clear s z x) d r drop Q K H nx=resX P (zgH s z (ev K.get x) H nx) d r drop Q K:=rfl
theorem zGv {i:Nat} {x:AOpd}:opX P (.ext i x) d r drop Q K H nx=resX P (extR i (ev K.get x) H nx) d r drop Q K:=rfl
theorem zBs {n p:Bool} {x:AOpd}:opX P (.isnil n p x) d r drop Q K H nx=nilX P (nilB p (ev K.get x)) n d r drop Q K H nx:=rfl
theorem zDq {f:FuncId} {xs:List AOpd}:opX P (.call f xs) d r drop Q K H nx=zAb P f (evs K.get xs) H nx (zs4 P d r drop Q K):=rfl
theorem zCB {f:FuncId} {xs:List AOpd}:opX P (.callq f xs) d r drop Q K H nx=zAP P f (evs K.get xs) d r drop Q K H nx:=rfl
theorem zGM {x:XOp} {xs:List AOpd}:opX P (.xop x xs) d r drop Q K H nx=resX P (xopR x (evs K.get xs) H nx) d r drop Q K:=rfl
theorem zCC {x:AOpd} {xs:List AOpd}:opX P (.callv x xs) d r drop Q K H nx=zqE P (ev K.get x) (evs K.get xs) H nx (zs4 P d r drop Q K):=rfl
theorem zmb {f:FuncId} {caps args:List AV} {k:AV→AH→Nat→Prop}:zqE P (.fn (.func f) caps) args H nx k=(zfv P f=true∧zAb P f (args++caps) H nx k):=rfl
theorem zGB {b n:Bool}:nilX P (some (some b)) n d r drop Q K H nx=zaI P r drop Q (setO K d (.bool (b != n))) H nx:=rfl
theorem zEt {n:Bool}:nilX P (some none) n d r drop Q K H nx=∀b,zaI P r drop Q (setO K d (.bool b)) H nx:=rfl
theorem zAW {v:AV} {H':AH} {nx':Nat}:zs4 P d (.ops os) drop Q K v H' nx'=(v.wf→zaI P (.ops os) drop Q (setO K d v) H' nx'):=rfl
theorem zzQ {v:AV} {H':AH} {nx':Nat} {t:DTree}:zs4 P d (.tree t) drop Q K v H' nx'=zaI P (.tree t) drop Q (setO K d v) H' nx':=by unfold zs4 Rest.fx;simp only[cond_false,true_implies]
theorem ze {f:FuncId} {args:List AV} {a:AV} {k:AV→AH→Nat→Prop} (h:zc0 P f args H nx a) (hk:k a H nx):zAb P f args H nx k:=h.ok hk
theorem zZ {f:FuncId} {args:List AV} {Q Q':AV→AH→Nat→Prop} (h:zab P f args H nx Q) (hq:∀v H nx,Q v H nx→Q' v H nx):zAb P f args H nx Q':=zab.mono h hq
theorem zai {f:FuncId} {args:List AV} {a:AV} (h:zc0 P f args H nx a) (hk:zaI P r drop Q (setO K d a) H nx):zAP P f args d r drop Q K H nx:=⟨a,h,hk⟩
def zqS (B:Nat) {α:Type} (S:α→Kn × AH) (N:Nat) (inv:α→Prop) (μ:α→Nat) (a:α) (Q:QT):QT:=fun e K H nx=>match e with
 | .normal=>∃a',inv a'∧μ a' < μ a∧Ent B K H nx (S a').1 (S a').2 N
 | e=>Q e K H nx
theorem zvL {α:Type} {S:α→Kn × AH} {N:Nat} {inv:α→Prop} {μ:α→Nat} {a:α}:zqS B S N inv μ a Q .normal K H nx=∃a',inv a'∧μ a' < μ a∧Ent B K H nx (S a').1 (S a').2 N:=rfl
theorem zyT {α:Type} {S:α→Kn × AH} {N:Nat} {inv:α→Prop} {μ:α→Nat} {a:α} {l:Nat}:zqS B S N inv μ a Q (.goto l) K H nx=Q (.goto l) K H nx:=rfl
theorem zCa {α:Type} {S:α→Kn × AH} {N:Nat} {inv:α→Prop} {μ:α→Nat} {a:α}:zqS B S N inv μ a Q .ret K H nx=Q .ret K H nx:=rfl
theorem zzj {α:Type} {S:α→Kn × AH} {N:Nat} {inv:α→Prop} {μ:α→Nat} {a:α} {id:Nat}:zqS B S N inv μ a Q (.exit id) K H nx=Q (.exit id) K H nx:=rfl
theorem zk {c:ACode} {α:Type} (S:α→Kn × AH) (N:Nat) (inv:α→Prop) (μ:α→Nat) (a0:α) (h0:inv a0) (he:Ent B K H nx (S a0).1 (S a0).2 N)
  (hb:∀a,inv a→WfK (S a).1→wpX P B c (zqS B S N inv μ a Q) (S a).1 (S a).2 N):zjG P B c Q K H nx:=by
 refine⟨α,S,N,inv,μ,⟨a0,h0,he⟩,fun a ha hw=>?_⟩;have:=hb a ha hw;unfold wpX at this;refine Eq.mp (congrArg (fun q=>awp P B c q (S a).1 (S a).2 N) (funext fun e=>funext fun K=>funext fun H=>funext fun nx=>?_)) this
 cases e<;>rfl
theorem zqR {c:ACode} (K2:Kn) (H2:AH) (nx2:Nat) (h:WfK K→Ent B K H nx K2 H2 nx2∧wpX P B c Q K2 H2 nx2):zF2 P B c Q K H nx:=fun hw=>⟨K2,H2,nx2,h hw⟩
def zsL (B:Nat) {α:Type} (S:α→Kn × AH) (N:Nat) (inv:α→Prop) (Q:QT):QT:=fun e K H nx=>match e with
 | .normal=>∃a',inv a'∧Ent B K H nx (S a').1 (S a').2 N
 | e=>Q e K H nx
theorem ztM {α:Type} {S:α→Kn × AH} {N:Nat} {inv:α→Prop}:zsL B S N inv Q .normal K H nx=∃a',inv a'∧Ent B K H nx (S a').1 (S a').2 N:=rfl
theorem zzE {α:Type} {S:α→Kn × AH} {N:Nat} {inv:α→Prop} {l:Nat}:zsL B S N inv Q (.goto l) K H nx=Q (.goto l) K H nx:=rfl
theorem zA3 {α:Type} {S:α→Kn × AH} {N:Nat} {inv:α→Prop}:zsL B S N inv Q .ret K H nx=Q .ret K H nx:=rfl
theorem zyN {α:Type} {S:α→Kn × AH} {N:Nat} {inv:α→Prop} {id:Nat}:zsL B S N inv Q (.exit id) K H nx=Q (.exit id) K H nx:=rfl
def zuY (B l:Nat) {α:Type} (S:α→Kn × AH) (N:Nat) (inv:α→Prop) (Q:QT):QT:=fun e K H nx=>match e with
 | .goto l'=>l'=l∧∃a',inv a'∧Ent B K H nx (S a').1 (S a').2 N
 | e=>Q e K H nx
def zua (B l:Nat) {α:Type} (S:α→Kn × AH) (N:Nat) (inv:α→Prop) (μ:α→Nat) (a:α) (Q:QT):QT:=fun e K H nx=>match e with
 | .goto l'=>l'=l∧∃a',inv a'∧μ a' < μ a∧Ent B K H nx (S a').1 (S a').2 N
 | e=>Q e K H nx
theorem zy1 {l l':Nat} {α:Type} {S:α→Kn × AH} {N:Nat} {inv:α→Prop}:zuY B l S N inv Q (.goto l') K H nx=(l'=l∧∃a',inv a'∧Ent B K H nx (S a').1 (S a').2 N):=rfl
theorem zuf {l:Nat} {α:Type} {S:α→Kn × AH} {N:Nat} {inv:α→Prop}:zuY B l S N inv Q .normal K H nx=Q .normal K H nx:=rfl
theorem zBw {l:Nat} {α:Type} {S:α→Kn × AH} {N:Nat} {inv:α→Prop}:zuY B l S N inv Q .ret K H nx=Q .ret K H nx:=rfl
theorem zz0 {l id:Nat} {α:Type} {S:α→Kn × AH} {N:Nat} {inv:α→Prop}:zuY B l S N inv Q (.exit id) K H nx=Q (.exit id) K H nx:=rfl
theorem zAu {l l':Nat} {α:Type} {S:α→Kn × AH} {N:Nat} {inv:α→Prop} {μ:α→Nat} {a:α}:zua B l S N inv μ a Q (.goto l') K H nx=(l'=l∧∃a',inv a'∧μ a' < μ a∧Ent B K H nx (S a').1 (S a').2 N):=rfl
theorem zuZ {l:Nat} {α:Type} {S:α→Kn × AH} {N:Nat} {inv:α→Prop} {μ:α→Nat} {a:α}:zua B l S N inv μ a Q .normal K H nx=Q .normal K H nx:=rfl
theorem zC0 {l:Nat} {α:Type} {S:α→Kn × AH} {N:Nat} {inv:α→Prop} {μ:α→Nat} {a:α}:zua B l S N inv μ a Q .ret K H nx=Q .ret K H nx:=rfl
theorem zAa {l id:Nat} {α:Type} {S:α→Kn × AH} {N:Nat} {inv:α→Prop} {μ:α→Nat} {a:α}:zua B l S N inv μ a Q (.exit id) K H nx=Q (.exit id) K H nx:=rfl
theorem fn_x {f:FuncId} {q:Nat→List Nat} {ac:ACode} {rs:List ARet} {nt:Nat} (hc:zT P f q=some (ac.strip,rs,nt)) {args:List AV} {Post:AV→AH→Nat→Prop} (hn:Nat.ble args.length nt=true)
  (h:wpX P nx ac (retK rs Post) (zj0 0 args) H nx):zab P f args H nx Post:=fn_of hc (WC hn) h
theorem zeV (a b:Nat):Wb a b=(a == b):=by
 cases h:Wb a b with
 | true=>rw[zl h];simp
 |
  false =>
  have:a≠b:=fun e=>by rw[e,zaG] at h;cases h
  simp[this]
end
def subK:Kn→Kn→Prop
 | [],_=>True
 | (j,v)::t,K=>K.get j=v∧subK t K
theorem ztz {K:Kn}:∀ {K2:Kn},subK K2 K→∀i,K2.get i=.undef∨K2.get i=K.get i
 | [],_,i=>.inl rfl
 |
  (j,v)::t,h,i=>by
  simp only[Kn.get]
  cases hb:Wb j i with
  | true=>rw[←zl hb];exact .inr h.1.symm
  | false=>exact ztz h.2 i
theorem Ent.keep {B:Nat} {K K2:Kn} {H:AH} {nx:Nat} (hB:Nat.ble B nx=true) (h:subK K2 K):Ent B K H nx K2 H nx:=by
 refine⟨WC hB,fun w L ι tmps rel hk=>⟨ι,rel,fun i=>?_,fun b hb=>hb,fun r q g l _ hl=>hl⟩⟩
 rcases ztz h i with e|e
 · rw[e];exact .undef _ _
 · rw[e];exact hk i
theorem Ent.same {B:Nat} {K K2:Kn} {H H2:AH} {nx:Nat} (hB:B≤nx) (hH:∀r,H2.look r=H.look r) (h:subK K2 K):Ent B K H nx K2 H2 nx:=by
 have hget:∀r q,H2.get r q=H.get r q:=fun r q=>by unfold AH.get;rw[hH]
 refine⟨hB,fun w L ι tmps rel hk=>⟨ι,?_,fun i=>?_,fun b hb=>?_,fun r q g l _ hl=>hl⟩⟩
 ·
  have hl:∀b,live ι H2 b↔live ι H b:=fun b=>by simp only[live,hget]
  have hlt:Lt L ι H2=Lt L ι H:=by funext b;simp only[Lt,hl]
  exact⟨fun r q sz els g h=>by rw[hlt];rw[hget] at h;exact rel.row r q sz els g h,fun r1 q1 r2 q2 s1 e1 g1 l1 s2 e2 g2 l2 h1 h2=>by rw[hget] at h1 h2;exact rel.apart r1 q1 r2 q2 s1 e1 g1 l1 s2 e2 g2 l2 h1 h2,
   fun b hb=>rel.out b ((hl b).1 hb),rel.idx,fun r o h=>by rw[hH] at h;exact rel.dom r o h,fun r q sz els g h=>by rw[hget] at h;exact rel.gen r q sz els g h,rel.Lsz⟩
 ·
  have hl:∀b,live ι H2 b↔live ι H b:=fun b=>by simp only[live,hget]
  have hlt:Lt L ι H2=Lt L ι H:=by funext b;simp only[Lt,hl]
  rw[hlt]
  rcases ztz h i with e|e
  · rw[e];exact .undef _ _
  · rw[e];exact hk i
 · simp only[live,hget] at hb ⊢;exact hb
abbrev Tab:=List (Nat × Nat × Nat)
def Tab.at:Tab→Nat→Option (Nat × Nat)
 | [],_=>none
 | (r',r,d)::t,x=>bif Wb r' x then some (r,d) else Tab.at t x
def Tab.sig (t:Tab):Nat→Nat→Option (Nat × Nat × Nat):=fun r' q'=>match t.at r' with
 | some (r,d)=>some (r,q',d)
 | none=>none
def inD (ds:List Nat):Nat→Nat→Prop:=fun r _=>memN ds r=true
def Tab.ok (n:Nat) (ds:List Nat):Tab→Bool
 | []=>true
 | (r',r,_)::t=>Wl r' n && !(memN ds r) && !(memN (t.map (·.2.1)) r)&&Tab.ok n ds t
def zkk (H HH:AH) (t:Tab) (ds:List Nat) (n:Nat):AH→Prop
 | []=>True
 | (r',.row sz els2 g2)::u=>Wl r' n=true∧(match t.at r' with
   | some (r,d)=>∃els,H.get r 0=some (.row sz els (g2+d))∧RowV H HH t.sig (inD ds) els els2
   | none=>els2=[]∧g2=0)∧zkk H HH t ds n u
 | (r',.fam sz ins)::u=>Wl r' n=true∧(match t.at r' with
   | some (r,d)=>∀(i:Nat) (p:List (List AV) × Nat),ins[i]? = some p→∃els,H.get r (i+1)=some (.row sz els (p.2+d))∧RowV H HH t.sig (inD ds) els p.1
   | none=>∀(i:Nat) (p:List (List AV) × Nat),ins[i]? = some p→p=([],0))∧zkk H HH t ds n u
def zof (H HH:AH) (t:Tab) (ds:List Nat):Kn→Kn→Prop
 | [],_=>True
 | (j,v)::u,K=>Vw H HH t.sig (inD ds) true (K.get j) v∧zof H HH t ds u K
theorem znx {H HH:AH} {t:Tab} {ds:List Nat} {K:Kn}:∀ {K2:Kn},zof H HH t ds K2 K→∀i,Vw H HH t.sig (inD ds) true (K.get i) (K2.get i)
 | [],_,i=>.undef _ _
 |
  (j,v)::u,h,i=>by
  simp only[Kn.get]
  cases hb:Wb j i with
  | true=>rw[←zl hb];exact h.1
  | false=>exact znx h.2 i
theorem Tab.ok_at {n:Nat} {ds:List Nat}:∀ {t:Tab},t.ok n ds=true→∀ {x r d},t.at x=some (r,d)→x < n∧memN ds r=false∧r∈t.map (·.2.1)
 | [],_,x,r,d,h=>by cases h
 |
  (r',r0,d0)::t,h,x,r,d,hx=>by
  simp only[Tab.ok,Wg,Wh] at h;obtain⟨⟨⟨h1,h2⟩,h3⟩,h4⟩:=h;simp only[Tab.at] at hx
  cases hb:Wb r' x with
  |
   true =>
   rw[hb] at hx;cases hx;have:=zl hb;subst this;exact⟨by simpa [Nat.blt_eq] using h1,h2,by simp⟩
  |
   false =>
   rw[hb] at hx;obtain⟨a1,a2,a3⟩:=Tab.ok_at h4 hx;exact⟨a1,a2,by simp only[List.map_cons,List.mem_cons];exact .inr a3⟩
theorem Tab.ok_inj {n:Nat} {ds:List Nat}:∀ {t:Tab},t.ok n ds=true→∀ {x y r d e},t.at x=some (r,d)→t.at y=some (r,e)→x=y
 | [],_,x,y,r,d,e,h,_=>by cases h
 |
  (r',r0,d0)::t,h,x,y,r,d,e,hx,hy=>by
  have h':=h;simp only[Tab.ok,Wg,Wh] at h';obtain⟨⟨⟨h1,h2⟩,h3⟩,h4⟩:=h';simp only[Tab.at] at hx hy
  cases hb:Wb r' x with
  |
   true =>
   cases hc:Wb r' y with
   | true=>exact(zl hb).symm.trans (zl hc)
   |
    false =>
    rw[hb] at hx;rw[hc] at hy;cases hx;have:=(Tab.ok_at h4 hy).2.2;exact absurd ((zY _ _).2 this) (by rw[h3];exact Wz)
  |
   false =>
   cases hc:Wb r' y with
   |
    true =>
    rw[hb] at hx;rw[hc] at hy;cases hy;have:=(Tab.ok_at h4 hx).2.2;exact absurd ((zY _ _).2 this) (by rw[h3];exact Wz)
   |
    false =>
    rw[hb] at hx;rw[hc] at hy;exact Tab.ok_inj h4 hx hy
theorem zmC {H HH:AH} {t:Tab} {ds:List Nat} {n:Nat}:∀ {H2:AH},zkk H HH t ds n H2→∀r o,H2.look r=some o→r < n
 | [],_,r,o,h=>by cases h
 |
  (r',ob)::u,h,r,o,hl=>by
  have hh:Wl r' n=true∧zkk H HH t ds n u:=by cases ob<;>exact⟨h.1,h.2.2⟩
  simp only[AH.look] at hl
  cases hb:Wb r' r with
  | true=>rw[←zl hb];simpa [Nat.blt_eq] using hh.1
  | false=>rw[hb] at hl;exact zmC hh.2 r o hl
theorem zmr {H HH:AH} {t:Tab} {ds:List Nat} {n:Nat}:∀ {H2:AH},zkk H HH t ds n H2→∀r' q' sz els2 g2,H2.get r' q'=some (.row sz els2 g2) →
  (∃r q d els,t.sig r' q'=some (r,q,d)∧H.get r q=some (.row sz els (g2+d))∧RowV H HH t.sig (inD ds) els els2)∨(t.sig r' q'=none∧els2=[]∧g2=0)
 | [],_,r',q',sz,els2,g2,h=>by cases h
 |
  (r0,ob)::u,h,r',q',sz,els2,g2,hg=>by
  have hh:zkk H HH t ds n u:=by cases ob<;>exact h.2.2
  unfold AH.get at hg;simp only[AH.look] at hg
  cases hb:Wb r0 r' with
  | false=>rw[hb] at hg;exact zmr hh r' q' sz els2 g2 hg
  |
   true =>
   rw[hb] at hg;have:=zl hb;subst this;simp only[cond_true,Option.bind_some] at hg
   cases ob with
   |
    row sz0 els0 g0 =>
    cases q' with
    | succ q=>cases hg
    |
     zero =>
     simp only[AObj.part,Wd,AObj.row.injEq] at hg;obtain⟨rfl,rfl,rfl⟩:=hg;have h2:=h.2.1;unfold Tab.sig
     cases ht:t.at r0 with
     | none=>rw[ht] at h2;exact .inr ⟨rfl,h2⟩
     |
      some p =>
      obtain⟨r,d⟩:=p;rw[ht] at h2;obtain⟨els,h3,h4⟩:=h2;exact .inl ⟨r,0,d,els,rfl,h3,h4⟩
   |
    fam sz0 ins =>
    cases q' with
    | zero=>cases hg
    |
     succ i =>
     simp only[AObj.part] at hg;obtain⟨p,hp,he⟩:=Ws.1 hg;cases he;have h2:=h.2.1;unfold Tab.sig
     cases ht:t.at r0 with
     |
      none =>
      rw[ht] at h2;have:=h2 i p hp;rw[this];exact .inr ⟨rfl,rfl,rfl⟩
     |
      some p' =>
      obtain⟨r,d⟩:=p';rw[ht] at h2;obtain⟨els,h3,h4⟩:=h2 i p hp;exact .inl ⟨r,i+1,d,els,rfl,h3,h4⟩
theorem Ent.tab {K K2:Kn} {H H2:AH} {nx nx2:Nat} (t:Tab) (ds:List Nat) (hok:t.ok nx2 ds=true) (hr:zkk H H2 t ds nx2 H2) (hK:zof H H2 t ds K2 K):Ent 0 K H nx K2 H2 nx2:=by
 refine Ent.view t.sig (inD ds) ⟨Wr _,fun r q h=>absurd h (Nat.not_lt_zero _),?_,?_,?_,zmC hr,zmr hr⟩ (znx hK)
 ·
  intro r1 q1 r2 q2 r q d1 d2 h1 h2;unfold Tab.sig at h1 h2
  cases e1:t.at r1 with
  | none=>rw[e1] at h1;cases h1
  |
   some p1 =>
   cases e2:t.at r2 with
   | none=>rw[e2] at h2;cases h2
   |
    some p2 =>
    rw[e1] at h1;rw[e2] at h2;simp only[Wd,Prod.mk.injEq] at h1 h2;obtain⟨rfl,rfl,rfl⟩:=h1;obtain⟨h3,rfl,rfl⟩:=h2;refine⟨Tab.ok_inj hok (d:=p1.2) (e:=p2.2) e1 ?_,rfl⟩;rw[e2,←h3]
 ·
  intro r' q' r q d h;unfold Tab.sig at h
  cases e1:t.at r' with
  | none=>rw[e1] at h;cases h
  |
   some p1 =>
   rw[e1] at h;simp only[Wd,Prod.mk.injEq] at h;obtain⟨rfl,_,rfl⟩:=h;have:=(Tab.ok_at hok (d:=p1.2) e1).2.1;unfold inD;rw[this];exact Wz
 ·
  intro r' q' x h;unfold Tab.sig at h
  cases e1:t.at r' with
  | none=>rw[e1] at h;cases h
  | some p1=>exact(Tab.ok_at hok (d:=p1.2) e1).1
def zqq (u:Option AObj) (H:AH) (r q:Nat) (o:AObj):AH:=match u with
 | some u=>H.put r (u.upd q o)
 | none=>H.put r o
theorem ev_t {ρ:Nat→AV} {n:Nat}:ev ρ (.t n)=ρ n:=rfl
theorem ev_c {ρ:Nat→AV} {v:AV}:ev ρ (.c v)=v:=rfl
theorem zG4 {ρ:Nat→AV}:evs ρ []=[]:=rfl
theorem zDQ {ρ:Nat→AV} {x:AOpd} {l:List AOpd}:evs ρ (x::l)=ev ρ x::evs ρ l:=rfl
theorem zvQ {ρ:Nat→AV}:zc6 ρ []=[]:=rfl
theorem ztI {ρ:Nat→AV} {a b:Nat} {x:AOpd} {l:List (Nat × Nat × AOpd)}:zc6 ρ ((a,b,x)::l)=(a,b,ev ρ x)::zc6 ρ l:=rfl
theorem zBy {ρ:Nat→AV}:zh4 ρ []=[]:=rfl
theorem zzP {ρ:Nat→AV} {a:Nat} {x:AOpd} {l:List (Nat × AOpd)}:zh4 ρ ((a,x)::l)=(a,ev ρ x)::zh4 ρ l:=rfl
theorem zEB {ρ:Nat→AV}:evO ρ none=none:=rfl
theorem zE7 {ρ:Nat→AV} {x:AOpd}:evO ρ (some x)=some (ev ρ x):=rfl
theorem zAY {K:Kn} {v:AV}:setO K none v=K:=rfl
theorem zCz {K:Kn} {d:Nat} {v:AV}:setO K (some d) v=K.set d v:=rfl
theorem zFA {i:Nat}:Kn.get [] i=.undef:=rfl
theorem zCh {j:Nat} {v:AV} {t:Kn} {i:Nat}:Kn.get ((j,v)::t) i=bif (j == i) then v else Kn.get t i:=by rw[←zeV];rfl
theorem zE5 {i:Nat} {v:AV}:Kn.set [] i v=[(i,v)]:=rfl
theorem zCf {j:Nat} {u v:AV} {t:Kn} {i:Nat}:Kn.set ((j,u)::t) i v=bif (j == i) then (i,v)::t else (j,u)::Kn.set t i v:=by rw[←zeV];rfl
theorem zBj {l:List Nat}:Kn.drop [] l=[]:=rfl
theorem zzy {j:Nat} {v:AV} {t:Kn} {l:List Nat}:Kn.drop ((j,v)::t) l=bif memN l j then Kn.drop t l else (j,v)::Kn.drop t l:=rfl
theorem zEd {i:Nat}:memN [] i=false:=rfl
theorem zAz {j:Nat} {t:List Nat} {i:Nat}:memN (j::t) i=bif (j == i) then true else memN t i:=by rw[←zeV];rfl
theorem zDk {i:Nat}:zj0 i []=[]:=rfl
theorem zzt {i:Nat} {a:AV} {r:List AV}:zj0 i (a::r)=(i,a)::zj0 (i+1) r:=rfl
theorem zxD {K:Kn} {H:AH} {nx:Nat}:zbk K H nx []=True:=rfl
theorem zxy {K:Kn} {H:AH} {nx t:Nat} {r:List ARet}:zbk K H nx (.tmp t::r)=zbk K H nx r:=rfl
theorem zvM {K:Kn} {H:AH} {nx t n:Nat} {g:Bool} {r:List ARet}:zbk K H nx (.cell t g n::r)=((zcP g n (K.get t) H nx).side∧zbk K H nx r):=rfl
theorem zwW {K:Kn} {H:AH} {nx:Nat}:zaE K H nx []=[]:=rfl
theorem zwO {K:Kn} {H:AH} {nx t:Nat} {r:List ARet}:zaE K H nx (.tmp t::r)=K.get t::zaE K H nx r:=rfl
theorem zu9 {K:Kn} {H:AH} {nx t n:Nat} {g:Bool} {r:List ARet}:zaE K H nx (.cell t g n::r)=(zcP g n (K.get t) H nx).v::zaE K H nx r:=rfl
theorem zCH {v:AV}:zh7 [v]=v:=rfl
theorem zzO:zh7 []=.tup []:=rfl
theorem zBn {u v:AV} {l:List AV}:zh7 (u::v::l)=.tup (u::v::l):=rfl
theorem zD1 {r:Nat}:AH.look [] r=none:=rfl
theorem zBI {j:Nat} {o:AObj} {t:AH} {r:Nat}:AH.look ((j,o)::t) r=bif (j == r) then some o else AH.look t r:=by rw[←zeV];rfl
theorem zGz {r:Nat} {o:AObj}:AH.put [] r o=[(r,o)]:=rfl
theorem zEM {j:Nat} {u o:AObj} {t:AH} {r:Nat}:AH.put ((j,u)::t) r o=bif (j == r) then (r,o)::t else (j,u)::AH.put t r o:=by rw[←zeV];rfl
theorem zFj {H:AH} {r q:Nat}:AH.get H r q=(AH.look H r).bind (·.part q):=rfl
theorem zDJ {H:AH} {r q:Nat} {o:AObj}:AH.set H r q o=zqq (AH.look H r) H r q o:=by unfold AH.set zqq;split<;>simp_all
theorem zxC {u:AObj} {H:AH} {r q:Nat} {o:AObj}:zqq (some u) H r q o=H.put r (u.upd q o):=rfl
theorem zwQ {H:AH} {r q:Nat} {o:AObj}:zqq none H r q o=H.put r o:=rfl
theorem zEQ {sz g:Nat} {els:List (List AV)}:AObj.part (.row sz els g) 0=some (.row sz els g):=rfl
theorem zEV {sz i:Nat} {ins:List (List (List AV) × Nat)}:AObj.part (.fam sz ins) (i+1)=(ins[i]?).map fun p=>.row sz p.1 p.2:=rfl
theorem zGQ {sz g:Nat} {els:List (List AV)} {o:AObj} {q:Nat}:AObj.upd (.row sz els g) q o=o:=by cases o<;>rfl
theorem zFX {sz sz' i g:Nat} {ins:List (List (List AV) × Nat)} {els:List (List AV)}:AObj.upd (.fam sz ins) (i+1) (.row sz' els g)=.fam sz (ins.set i (els,g)):=rfl
theorem zzH {o:AObj} {f:AObj→Option AObj}:(some o).bind f=f o:=rfl
theorem evS :
 (∀ {P:Program} {B:Nat} {Q:QT} {K:Kn} {H:AH} {nx:Nat},wpX P B .skip Q K H nx=Q .normal K H nx) ∧
 (∀ {P:Program} {B:Nat} {Q:QT} {K:Kn} {H:AH} {nx:Nat} {drop:List Nat} {os:List AOper},wpX P B (.region os drop) Q K H nx=zaI P (.ops os) drop Q K H nx) ∧
 (∀ {P:Program} {B:Nat} {Q:QT} {K:Kn} {H:AH} {nx:Nat} {drop:List Nat} {t:DTree},wpX P B (.draw t drop) Q K H nx=zaI P (.tree t) drop Q K H nx) ∧
 (∀ {P:Program} {B:Nat} {Q:QT} {K:Kn} {H:AH} {nx:Nat} {a b:ACode},wpX P B (.seq a b) Q K H nx=wpX P B a (seqQ P B b Q) K H nx) ∧
 (∀ {P:Program} {B:Nat} {Q:QT} {K:Kn} {H:AH} {nx:Nat} {c:AOpd} {a b:ACode},wpX P B (.cond c a b) Q K H nx=zED P B (ev K.get c) a b Q K H nx) ∧
 (∀ {P:Program} {B:Nat} {Q:QT} {K:Kn} {H:AH} {nx:Nat} {id:Nat} {c:ACode},wpX P B (.block id c) Q K H nx=wpX P B c (zbv id Q) K H nx) ∧
 (∀ {P:Program} {B:Nat} {Q:QT} {K:Kn} {H:AH} {nx:Nat} {c:ACode},wpX P B (.loop c) Q K H nx=zjG P B c Q K H nx) ∧
 (∀ {P:Program} {B:Nat} {Q:QT} {K:Kn} {H:AH} {nx:Nat} {id:Nat},wpX P B (.exit id) Q K H nx=Q (.exit id) K H nx) ∧
 (∀ {P:Program} {B:Nat} {Q:QT} {K:Kn} {H:AH} {nx:Nat},wpX P B .ret Q K H nx=Q .ret K H nx) ∧
 (∀ {P:Program} {B:Nat} {Q:QT} {K:Kn} {H:AH} {nx:Nat} {n:Nat} {c:ACode},wpX P B (.mark n c) Q K H nx=zF2 P B c Q K H nx) ∧
 (∀ {P:Program} {B:Nat} {Q:QT} {K:Kn} {H:AH} {nx:Nat} {c:ACode},wpX P B (.scope c) Q K H nx=wpX P B c (noGQ Q) K H nx) ∧
 (∀ {P:Program} {B:Nat} {Q:QT} {K:Kn} {H:AH} {nx:Nat} {l:Nat},wpX P B (.label l) Q K H nx=Q .normal K H nx) ∧
 (∀ {P:Program} {B:Nat} {Q:QT} {K:Kn} {H:AH} {nx:Nat} {l:Nat},wpX P B (.goto l) Q K H nx=Q (.goto l) K H nx) ∧
 (∀ {P:Program} {B:Nat} {Q:QT} {K:Kn} {H:AH} {nx:Nat} {l:Nat} {a b:ACode},wpX P B (.jump l a b) Q K H nx=jumpX P B l a b Q K H nx) ∧
 (∀ {P:Program} {B:Nat} {Q:QT} {K:Kn} {H:AH} {nx:Nat} {a b:ACode},wpX P B (.join a b) Q K H nx=joinX P B a b Q K H nx) ∧
 (∀ {P:Program} {B:Nat} {Q:QT} {K:Kn} {H:AH} {nx:Nat} {b:ACode},seqQ P B b Q .normal K H nx=wpX P B b Q K H nx) ∧
 (∀ {P:Program} {B:Nat} {Q:QT} {K:Kn} {H:AH} {nx:Nat} {b:ACode},seqQ P B b Q .ret K H nx=Q .ret K H nx) ∧
 (∀ {P:Program} {B:Nat} {Q:QT} {K:Kn} {H:AH} {nx:Nat} {b:ACode} {l:Nat},seqQ P B b Q (.goto l) K H nx=Q (.goto l) K H nx) ∧
 (∀ {P:Program} {B:Nat} {Q:QT} {K:Kn} {H:AH} {nx:Nat} {b:ACode} {id:Nat},seqQ P B b Q (.exit id) K H nx=Q (.exit id) K H nx) ∧
 (∀ {Q:QT} {K:Kn} {H:AH} {nx:Nat} {id:Nat},zbv id Q .normal K H nx=Q .normal K H nx) ∧
 (∀ {Q:QT} {K:Kn} {H:AH} {nx:Nat} {id l:Nat},zbv id Q (.goto l) K H nx=Q (.goto l) K H nx) ∧
 (∀ {Q:QT} {K:Kn} {H:AH} {nx:Nat},noGQ Q .normal K H nx=Q .normal K H nx) ∧
 (∀ {Q:QT} {K:Kn} {H:AH} {nx:Nat},noGQ Q .ret K H nx=Q .ret K H nx) ∧
 (∀ {Q:QT} {K:Kn} {H:AH} {nx:Nat} {id:Nat},noGQ Q (.exit id) K H nx=Q (.exit id) K H nx) ∧
 (∀ {Q:QT} {K:Kn} {H:AH} {nx:Nat} {id:Nat},zbv id Q .ret K H nx=Q .ret K H nx) ∧
 (∀ {Q:QT} {K:Kn} {H:AH} {nx:Nat} {id id':Nat},zbv id Q (.exit id') K H nx=bif Wb id' id then Q .normal K H nx else Q (.exit id') K H nx) ∧
 (∀ {P:Program} {B:Nat} {Q:QT} {K:Kn} {H:AH} {nx:Nat} {t:Bool} {a b:ACode},zED P B (.bool t) a b Q K H nx=ztA P B t a b Q K H nx) ∧
 (∀ {P:Program} {B:Nat} {Q:QT} {K:Kn} {H:AH} {nx:Nat} {a b:ACode},ztA P B true a b Q K H nx=wpX P B a Q K H nx) ∧
 (∀ {P:Program} {B:Nat} {Q:QT} {K:Kn} {H:AH} {nx:Nat} {a b:ACode},ztA P B false a b Q K H nx=wpX P B b Q K H nx) ∧
 (∀ {K:Kn} {H:AH} {nx:Nat} {rs:List ARet} {Post:AV→AH→Nat→Prop},retK rs Post .ret K H nx=(zbk K H nx rs∧Post (zh7 (zaE K H nx rs)) H nx)) ∧
 (∀ {K:Kn} {H:AH} {nx:Nat} {rs:List ARet} {Post:AV→AH→Nat→Prop},retK rs Post .normal K H nx=(zbk K H nx rs∧Post (zh7 (zaE K H nx rs)) H nx)) ∧
 (∀ {P:Program} {Q:QT} {K:Kn} {H:AH} {nx:Nat} {drop:List Nat},zaI P (.ops []) drop Q K H nx=Q .normal (K.drop drop) H nx) ∧
 (∀ {P:Program} {Q:QT} {K:Kn} {H:AH} {nx:Nat} {drop:List Nat} {os:List AOper} {d:Option Nat} {op:AOp},zaI P (.ops (⟨d,op,none⟩::os)) drop Q K H nx=opX P op d (.ops os) drop Q K H nx) ∧
 (∀ {P:Program} {Q:QT} {K:Kn} {H:AH} {nx:Nat} {drop:List Nat} {os:List AOper} {d:Option Nat} {op:AOp} {t:Nat} {want:Bool},zaI P (.ops (⟨d,op,some (t,want)⟩::os)) drop Q K H nx=zf2 P (K.get t) want op d (.ops os) drop Q K H nx) ∧
 (∀ {P:Program} {Q:QT} {K:Kn} {H:AH} {nx:Nat} {drop:List Nat},zaI P (.tree .done) drop Q K H nx=Q .normal (K.drop drop) H nx) ∧
 (∀ {P:Program} {Q:QT} {K:Kn} {H:AH} {nx:Nat} {drop:List Nat},zaI P (.tree .stop) drop Q K H nx=True) ∧
 (∀ {P:Program} {Q:QT} {K:Kn} {H:AH} {nx:Nat} {drop:List Nat} {d:Option Nat} {op:AOp} {t:DTree},zaI P (.tree (.step ⟨d,op,none⟩ t)) drop Q K H nx=opX P op d (.tree t) drop Q K H nx) ∧
 (∀ {P:Program} {Q:QT} {K:Kn} {H:AH} {nx:Nat} {drop:List Nat} {d:Option Nat} {op:AOp} {t:DTree} {g:Nat} {want:Bool},zaI P (.tree (.step ⟨d,op,some (g,want)⟩ t)) drop Q K H nx=zf2 P (K.get g) want op d (.tree t) drop Q K H nx) ∧
 (∀ {P:Program} {Q:QT} {K:Kn} {H:AH} {nx:Nat} {drop:List Nat} {d:Option Nat} {op:AOp} {t u:DTree},zaI P (.tree (.alt ⟨d,op,none⟩ t u)) drop Q K H nx=(opX P op d (.tree t) drop Q K H nx∧zaI P (.tree u) drop Q K H nx)) ∧
 (∀ {P:Program} {Q:QT} {K:Kn} {H:AH} {nx:Nat} {drop:List Nat} {d:Option Nat} {op:AOp} {t u:DTree} {g:Nat} {want:Bool},zaI P (.tree (.alt ⟨d,op,some (g,want)⟩ t u)) drop Q K H nx=(zf2 P (K.get g) want op d (.tree t) drop Q K H nx∧zaI P (.tree u) drop Q K H nx)) ∧
 (∀ {P:Program} {Q:QT} {K:Kn} {H:AH} {nx:Nat} {drop:List Nat} {d:Option Nat} {r:Rest} {op:AOp} {b:Bool},zf2 P (.bool b) true op d r drop Q K H nx=zi9 P b op d r drop Q K H nx) ∧
 (∀ {P:Program} {Q:QT} {K:Kn} {H:AH} {nx:Nat} {drop:List Nat} {d:Option Nat} {r:Rest} {op:AOp} {b:Bool},zf2 P (.bool b) false op d r drop Q K H nx=zi9 P (!b) op d r drop Q K H nx) ∧
 (∀ {P:Program} {Q:QT} {K:Kn} {H:AH} {nx:Nat} {drop:List Nat} {d:Option Nat} {r:Rest} {op:AOp} {want:Bool},zf2 P (.tup []) want op d r drop Q K H nx=zaI P r drop Q (setO K d (.tup [])) H nx) ∧
 (∀ {P:Program} {Q:QT} {K:Kn} {H:AH} {nx:Nat} {drop:List Nat} {d:Option Nat} {r:Rest} {op:AOp},zi9 P true op d r drop Q K H nx=opX P op d r drop Q K H nx) ∧
 (∀ {P:Program} {Q:QT} {K:Kn} {H:AH} {nx:Nat} {drop:List Nat} {d:Option Nat} {r:Rest} {op:AOp},zi9 P false op d r drop Q K H nx=zaI P r drop Q (setO K d (.tup [])) H nx) ∧
 (∀ {P:Program} {Q:QT} {K:Kn} {drop:List Nat} {os:List AOper} {d:Option Nat} {s f:Prop} {v:AV} {H':AH} {nx':Nat},resX P ⟨s,f,v,H',nx'⟩ d (.ops os) drop Q K=(s∧(f→zaI P (.ops os) drop Q (setO K d v) H' nx'))) ∧
 (∀ {P:Program} {Q:QT} {K:Kn} {drop:List Nat} {d:Option Nat} {s f:Prop} {v:AV} {H':AH} {nx':Nat} {t:DTree},resX P ⟨s,f,v,H',nx'⟩ d (.tree t) drop Q K=(s∧zaI P (.tree t) drop Q (setO K d v) H' nx')) ∧
 (∀ {P:Program} {Q:QT} {K:Kn} {H:AH} {nx:Nat} {drop:List Nat} {d:Option Nat} {r:Rest} {x:AOpd},opX P (.mov x) d r drop Q K H nx=zaI P r drop Q (setO K d (ev K.get x)) H nx) ∧
 (∀ {P:Program} {Q:QT} {K:Kn} {H:AH} {nx:Nat} {drop:List Nat} {d:Option Nat} {r:Rest} {s:Nat},opX P (.mknil s) d r drop Q K H nx=zaI P r drop Q (setO K d (.own nx 0 0 0 0)) (H.set nx 0 (.row s [] 0)) (nx+1)) ∧
 (∀ {P:Program} {Q:QT} {K:Kn} {H:AH} {nx:Nat} {drop:List Nat} {d:Option Nat} {r:Rest} {c x y:AOpd},opX P (.pick c x y) d r drop Q K H nx=resX P (zmZ (ev K.get c) (ev K.get x) (ev K.get y) H nx) d r drop Q K) ∧
 (∀ {P:Program} {Q:QT} {K:Kn} {H:AH} {nx:Nat} {drop:List Nat} {d:Option Nat} {r:Rest} {g:Bool} {n:Nat} {p:AOpd},opX P (.load g n p) d r drop Q K H nx=resX P (zcP g n (ev K.get p) H nx) d r drop Q K) ∧
 (∀ {P:Program} {Q:QT} {K:Kn} {H:AH} {nx:Nat} {drop:List Nat} {d:Option Nat} {r:Rest} {n:Nat} {p v:AOpd},opX P (.store n p v) d r drop Q K H nx=resX P (zd9 n (ev K.get p) (ev K.get v) H nx) d r drop Q K) ∧
 (∀ {P:Program} {Q:QT} {K:Kn} {H:AH} {nx:Nat} {drop:List Nat} {d:Option Nat} {r:Rest} {s:Nat} {x i:AOpd},opX P (.idx s x i) d r drop Q K H nx=resX P (idxR s (ev K.get x) (ev K.get i) H nx) d r drop Q K) ∧
 (∀ {P:Program} {Q:QT} {K:Kn} {H:AH} {nx:Nat} {drop:List Nat} {d:Option Nat} {r:Rest} {o n:Nat} {x:AOpd},opX P (.fldaddr o n x) d r drop Q K H nx=resX P (zbS o n (ev K.get x) H nx) d r drop Q K) ∧
 (∀ {P:Program} {Q:QT} {K:Kn} {H:AH} {nx:Nat} {drop:List Nat} {d:Option Nat} {r:Rest} {o n:Nat} {g:Bool} {x:AOpd},opX P (.fld o n g x) d r drop Q K H nx=resX P (fldR o n g (ev K.get x) H nx) d r drop Q K) ∧
 (∀ {P:Program} {Q:QT} {K:Kn} {H:AH} {nx:Nat} {drop:List Nat} {d:Option Nat} {r:Rest} {x:AOpd},opX P (.len x) d r drop Q K H nx=resX P (lenR (ev K.get x) H nx) d r drop Q K) ∧
 (∀ {P:Program} {Q:QT} {K:Kn} {H:AH} {nx:Nat} {drop:List Nat} {d:Option Nat} {r:Rest} {x:AOpd},opX P (.slen x) d r drop Q K H nx=resX P (zpN (ev K.get x) H nx) d r drop Q K) ∧
 (∀ {P:Program} {Q:QT} {K:Kn} {H:AH} {nx:Nat} {drop:List Nat} {d:Option Nat} {r:Rest} {o:BinOp} {x y:AOpd},opX P (.bin o x y) d r drop Q K H nx=resX P (binI o (ev K.get x) (ev K.get y) H nx) d r drop Q K) ∧
 (∀ {P:Program} {Q:QT} {K:Kn} {H:AH} {nx:Nat} {drop:List Nat} {d:Option Nat} {r:Rest} {n:Bool} {x y:AOpd},opX P (.eqb n x y) d r drop Q K H nx=resX P (eqB n (ev K.get x) (ev K.get y) H nx) d r drop Q K) ∧
 (∀ {P:Program} {Q:QT} {K:Kn} {H:AH} {nx:Nat} {drop:List Nat} {d:Option Nat} {r:Rest} {o:UnOp} {x:AOpd},opX P (.un o x) d r drop Q K H nx=resX P (unR o (ev K.get x) H nx) d r drop Q K) ∧
 (∀ {P:Program} {Q:QT} {K:Kn} {H:AH} {nx:Nat} {drop:List Nat} {d:Option Nat} {r:Rest} {k:IntKind} {x:AOpd},opX P (.conv k x) d r drop Q K H nx=resX P (zmk k (ev K.get x) H nx) d r drop Q K) ∧
 (∀ {P:Program} {Q:QT} {K:Kn} {H:AH} {nx:Nat} {drop:List Nat} {d:Option Nat} {r:Rest} {z:List AV} {ps:List (Nat × Nat × AOpd)},opX P (.build z ps) d r drop Q K H nx=resX P (zi4 z (zc6 K.get ps) H nx) d r drop Q K) ∧
 (∀ {P:Program} {Q:QT} {K:Kn} {H:AH} {nx:Nat} {drop:List Nat} {d:Option Nat} {r:Rest} {s l:Nat} {z:List AV} {ps:List (Nat × AOpd)},opX P (.buildSl s l z ps) d r drop Q K H nx=resX P (zeb s l z (zh4 K.get ps) H nx) d r drop Q K) ∧
 (∀ {P:Program} {Q:QT} {K:Kn} {H:AH} {nx:Nat} {drop:List Nat} {d:Option Nat} {r:Rest} {x:AOpd},opX P (.box x) d r drop Q K H nx=resX P (boxR (ev K.get x) H nx) d r drop Q K) ∧
 (∀ {P:Program} {Q:QT} {K:Kn} {H:AH} {nx:Nat} {drop:List Nat} {d:Option Nat} {r:Rest} {x:AOpd},opX P (.rbox x) d r drop Q K H nx=resX P (zrg (ev K.get x) H nx) d r drop Q K) ∧
 (∀ {P:Program} {Q:QT} {K:Kn} {H:AH} {nx:Nat} {drop:List Nat} {d:Option Nat} {r:Rest} {s l:Nat} {z:List AV} {ps:List (Nat × AOpd)},opX P (.rbuildSl s l z ps) d r drop Q K H nx=resX P (zeR s l z (zh4 K.get ps) H nx) d r drop Q K) ∧
 (∀ {P:Program} {Q:QT} {K:Kn} {H:AH} {nx:Nat} {drop:List Nat} {d:Option Nat} {r:Rest} {x:AOpd},opX P (.mnext x) d r drop Q K H nx=zEX P (ev K.get x) d r drop Q K H nx) ∧
 (∀ {P:Program} {Q:QT} {K:Kn} {H:AH} {nx:Nat} {drop:List Nat} {d:Option Nat} {r:Rest} {z:List AV},opX P (.alloc z) d r drop Q K H nx=resX P (zmf z H nx) d r drop Q K) ∧
 (∀ {P:Program} {Q:QT} {K:Kn} {H:AH} {nx:Nat} {drop:List Nat} {d:Option Nat} {r:Rest} {s b:Nat} {z:List AV} {l c:AOpd},opX P (.mksl s b z l c) d r drop Q K H nx=resX P (zmj s b z (ev K.get l) (ev K.get c) H nx) d r drop Q K) ∧
 (∀ {P:Program} {Q:QT} {K:Kn} {H:AH} {nx:Nat} {drop:List Nat} {d:Option Nat} {r:Rest} {s:Nat} {x:AOpd} {l h:Option AOpd},opX P (.slice s x l h) d r drop Q K H nx=resX P (zdH s (ev K.get x) (evO K.get l) (evO K.get h) H nx) d r drop Q K) ∧
 (∀ {P:Program} {Q:QT} {K:Kn} {H:AH} {nx:Nat} {drop:List Nat} {d:Option Nat} {r:Rest} {x:AOpd},opX P (.cut x) d r drop Q K H nx=resX P (cutR (ev K.get x) H nx) d r drop Q K) ∧
 (∀ {P:Program} {Q:QT} {K:Kn} {H:AH} {nx:Nat} {drop:List Nat} {d:Option Nat} {r:Rest} {f:Fn} {cs:List AOpd},opX P (.mkfn f cs) d r drop Q K H nx=zaI P r drop Q (setO K d (.fn f (evs K.get cs))) H nx) ∧
 (∀ {P:Program} {Q:QT} {K:Kn} {H:AH} {nx:Nat} {drop:List Nat} {d:Option Nat} {r:Rest} {s b:Nat} {x y:AOpd},opX P (.append s b x y) d r drop Q K H nx=resX P (zdp s b (ev K.get x) (ev K.get y) H nx) d r drop Q K) ∧
 (∀ {P:Program} {Q:QT} {K:Kn} {H:AH} {nx:Nat} {drop:List Nat} {d:Option Nat} {r:Rest} {s:Nat} {z:List AV} {x:AOpd},opX P (.clear s z x) d r drop Q K H nx=resX P (zgH s z (ev K.get x) H nx) d r drop Q K) ∧
 (∀ {P:Program} {Q:QT} {K:Kn} {H:AH} {nx:Nat} {drop:List Nat} {d:Option Nat} {r:Rest} {i:Nat} {x:AOpd},opX P (.ext i x) d r drop Q K H nx=resX P (extR i (ev K.get x) H nx) d r drop Q K) ∧
 (∀ {P:Program} {Q:QT} {K:Kn} {H:AH} {nx:Nat} {drop:List Nat} {d:Option Nat} {r:Rest} {n p:Bool} {x:AOpd},opX P (.isnil n p x) d r drop Q K H nx=nilX P (nilB p (ev K.get x)) n d r drop Q K H nx) ∧
 (∀ {P:Program} {Q:QT} {K:Kn} {H:AH} {nx:Nat} {drop:List Nat} {d:Option Nat} {r:Rest} {f:FuncId} {xs:List AOpd},opX P (.call f xs) d r drop Q K H nx=zAb P f (evs K.get xs) H nx (zs4 P d r drop Q K)) ∧
 (∀ {P:Program} {Q:QT} {K:Kn} {H:AH} {nx:Nat} {drop:List Nat} {d:Option Nat} {r:Rest} {f:FuncId} {xs:List AOpd},opX P (.callq f xs) d r drop Q K H nx=zAP P f (evs K.get xs) d r drop Q K H nx) ∧
 (∀ {P:Program} {Q:QT} {K:Kn} {H:AH} {nx:Nat} {drop:List Nat} {d:Option Nat} {r:Rest} {x:XOp} {xs:List AOpd},opX P (.xop x xs) d r drop Q K H nx=resX P (xopR x (evs K.get xs) H nx) d r drop Q K) ∧
 (∀ {P:Program} {Q:QT} {K:Kn} {H:AH} {nx:Nat} {drop:List Nat} {d:Option Nat} {r:Rest} {x:AOpd} {xs:List AOpd},opX P (.callv x xs) d r drop Q K H nx=zqE P (ev K.get x) (evs K.get xs) H nx (zs4 P d r drop Q K)) ∧
 (∀ {P:Program} {H:AH} {nx:Nat} {f:FuncId} {caps args:List AV} {k:AV→AH→Nat→Prop},zqE P (.fn (.func f) caps) args H nx k=(zfv P f=true∧zAb P f (args++caps) H nx k)) ∧
 (∀ {P:Program} {Q:QT} {K:Kn} {H:AH} {nx:Nat} {drop:List Nat} {d:Option Nat} {r:Rest} {b n:Bool},nilX P (some (some b)) n d r drop Q K H nx=zaI P r drop Q (setO K d (.bool (b != n))) H nx) ∧
 (∀ {P:Program} {Q:QT} {K:Kn} {H:AH} {nx:Nat} {drop:List Nat} {d:Option Nat} {r:Rest} {n:Bool},nilX P (some none) n d r drop Q K H nx=∀b,zaI P r drop Q (setO K d (.bool b)) H nx) ∧
 (∀ {P:Program} {Q:QT} {K:Kn} {drop:List Nat} {os:List AOper} {d:Option Nat} {v:AV} {H':AH} {nx':Nat},zs4 P d (.ops os) drop Q K v H' nx'=(v.wf→zaI P (.ops os) drop Q (setO K d v) H' nx')) ∧
 (∀ {P:Program} {Q:QT} {K:Kn} {drop:List Nat} {d:Option Nat} {v:AV} {H':AH} {nx':Nat} {t:DTree},zs4 P d (.tree t) drop Q K v H' nx'=zaI P (.tree t) drop Q (setO K d v) H' nx') ∧
 (∀ {B:Nat} {Q:QT} {K:Kn} {H:AH} {nx:Nat} {α:Type} {S:α→Kn × AH} {N:Nat} {inv:α→Prop} {μ:α→Nat} {a:α},zqS B S N inv μ a Q .normal K H nx=∃a',inv a'∧μ a' < μ a∧Ent B K H nx (S a').1 (S a').2 N) ∧
 (∀ {B:Nat} {Q:QT} {K:Kn} {H:AH} {nx:Nat} {α:Type} {S:α→Kn × AH} {N:Nat} {inv:α→Prop} {μ:α→Nat} {a:α} {l:Nat},zqS B S N inv μ a Q (.goto l) K H nx=Q (.goto l) K H nx) ∧
 (∀ {B:Nat} {Q:QT} {K:Kn} {H:AH} {nx:Nat} {α:Type} {S:α→Kn × AH} {N:Nat} {inv:α→Prop} {μ:α→Nat} {a:α},zqS B S N inv μ a Q .ret K H nx=Q .ret K H nx) ∧
 (∀ {B:Nat} {Q:QT} {K:Kn} {H:AH} {nx:Nat} {α:Type} {S:α→Kn × AH} {N:Nat} {inv:α→Prop} {μ:α→Nat} {a:α} {id:Nat},zqS B S N inv μ a Q (.exit id) K H nx=Q (.exit id) K H nx) ∧
 (∀ {B:Nat} {Q:QT} {K:Kn} {H:AH} {nx:Nat} {α:Type} {S:α→Kn × AH} {N:Nat} {inv:α→Prop},zsL B S N inv Q .normal K H nx=∃a',inv a'∧Ent B K H nx (S a').1 (S a').2 N) ∧
 (∀ {B:Nat} {Q:QT} {K:Kn} {H:AH} {nx:Nat} {α:Type} {S:α→Kn × AH} {N:Nat} {inv:α→Prop} {l:Nat},zsL B S N inv Q (.goto l) K H nx=Q (.goto l) K H nx) ∧
 (∀ {B:Nat} {Q:QT} {K:Kn} {H:AH} {nx:Nat} {α:Type} {S:α→Kn × AH} {N:Nat} {inv:α→Prop},zsL B S N inv Q .ret K H nx=Q .ret K H nx) ∧
 (∀ {B:Nat} {Q:QT} {K:Kn} {H:AH} {nx:Nat} {α:Type} {S:α→Kn × AH} {N:Nat} {inv:α→Prop} {id:Nat},zsL B S N inv Q (.exit id) K H nx=Q (.exit id) K H nx) ∧
 (∀ {B:Nat} {Q:QT} {K:Kn} {H:AH} {nx:Nat} {l l':Nat} {α:Type} {S:α→Kn × AH} {N:Nat} {inv:α→Prop},zuY B l S N inv Q (.goto l') K H nx=(l'=l∧∃a',inv a'∧Ent B K H nx (S a').1 (S a').2 N)) ∧
 (∀ {B:Nat} {Q:QT} {K:Kn} {H:AH} {nx:Nat} {l:Nat} {α:Type} {S:α→Kn × AH} {N:Nat} {inv:α→Prop},zuY B l S N inv Q .normal K H nx=Q .normal K H nx) ∧
 (∀ {B:Nat} {Q:QT} {K:Kn} {H:AH} {nx:Nat} {l:Nat} {α:Type} {S:α→Kn × AH} {N:Nat} {inv:α→Prop},zuY B l S N inv Q .ret K H nx=Q .ret K H nx) ∧
 (∀ {B:Nat} {Q:QT} {K:Kn} {H:AH} {nx:Nat} {l id:Nat} {α:Type} {S:α→Kn × AH} {N:Nat} {inv:α→Prop},zuY B l S N inv Q (.exit id) K H nx=Q (.exit id) K H nx) ∧
 (∀ {B:Nat} {Q:QT} {K:Kn} {H:AH} {nx:Nat} {l l':Nat} {α:Type} {S:α→Kn × AH} {N:Nat} {inv:α→Prop} {μ:α→Nat} {a:α},zua B l S N inv μ a Q (.goto l') K H nx=(l'=l∧∃a',inv a'∧μ a' < μ a∧Ent B K H nx (S a').1 (S a').2 N)) ∧
 (∀ {B:Nat} {Q:QT} {K:Kn} {H:AH} {nx:Nat} {l:Nat} {α:Type} {S:α→Kn × AH} {N:Nat} {inv:α→Prop} {μ:α→Nat} {a:α},zua B l S N inv μ a Q .normal K H nx=Q .normal K H nx) ∧
 (∀ {B:Nat} {Q:QT} {K:Kn} {H:AH} {nx:Nat} {l:Nat} {α:Type} {S:α→Kn × AH} {N:Nat} {inv:α→Prop} {μ:α→Nat} {a:α},zua B l S N inv μ a Q .ret K H nx=Q .ret K H nx) ∧
 (∀ {B:Nat} {Q:QT} {K:Kn} {H:AH} {nx:Nat} {l id:Nat} {α:Type} {S:α→Kn × AH} {N:Nat} {inv:α→Prop} {μ:α→Nat} {a:α},zua B l S N inv μ a Q (.exit id) K H nx=Q (.exit id) K H nx) :=
 ⟨@zDH,@zzR,@zDP,@zFT,@zDA,@zCi,@zD3,@zEL,@zFY,@zE0,@zB1,@zAI,@zEm,@zEq,@zDR,@zwv,@zDM,@zC6,@zDm,@ztx,@zw3,@zxc,@zEN,@zCv,@zAh,@zwR,@zAc,@zyJ,@zw2,@zD9,@zwM,@zBG,@zzT,@zxz,@zzI,@zy0,@zyP,@zwG,@zC8,@zAq,@zAn,@zAU,@zxk,@zws,@ztD,@zDx,@zBY,@zGa,@zAF,@zDO,@zFh,@zBH,@zGh,@zwS,@zF5,@zGW,@zDX,@zGw,@zGF,@opX_un,@zFo,@zC7,@zxn,@zFZ,@zEk,@zuz,@zBW,@zBd,@zDU,@zCI,@zGC,@zFx,@zyO,@zB0,@zGv,@zBs,@zDq,@zCB,@zGM,@zCC,@zmb,@zGB,@zEt,@zAW,@zzQ,@zvL,@zyT,@zCa,@zzj,@ztM,@zzE,@zA3,@zyN,@zy1,@zuf,@zBw,@zz0,@zAu,@zuZ,@zC0,@zAa⟩
theorem evK :
 (∀ {ρ:Nat→AV} {n:Nat},ev ρ (.t n)=ρ n) ∧
 (∀ {ρ:Nat→AV} {v:AV},ev ρ (.c v)=v) ∧
 (∀ {ρ:Nat→AV},evs ρ []=[]) ∧
 (∀ {ρ:Nat→AV} {x:AOpd} {l:List AOpd},evs ρ (x::l)=ev ρ x::evs ρ l) ∧
 (∀ {ρ:Nat→AV},zc6 ρ []=[]) ∧
 (∀ {ρ:Nat→AV} {a b:Nat} {x:AOpd} {l:List (Nat × Nat × AOpd)},zc6 ρ ((a,b,x)::l)=(a,b,ev ρ x)::zc6 ρ l) ∧
 (∀ {ρ:Nat→AV},zh4 ρ []=[]) ∧
 (∀ {ρ:Nat→AV} {a:Nat} {x:AOpd} {l:List (Nat × AOpd)},zh4 ρ ((a,x)::l)=(a,ev ρ x)::zh4 ρ l) ∧
 (∀ {ρ:Nat→AV},evO ρ none=none) ∧
 (∀ {ρ:Nat→AV} {x:AOpd},evO ρ (some x)=some (ev ρ x)) ∧
 (∀ {K:Kn} {v:AV},setO K none v=K) ∧
 (∀ {K:Kn} {d:Nat} {v:AV},setO K (some d) v=K.set d v) ∧
 (∀ {i:Nat},Kn.get [] i=.undef) ∧
 (∀ {j:Nat} {v:AV} {t:Kn} {i:Nat},Kn.get ((j,v)::t) i=bif (j == i) then v else Kn.get t i) ∧
 (∀ {i:Nat} {v:AV},Kn.set [] i v=[(i,v)]) ∧
 (∀ {j:Nat} {u v:AV} {t:Kn} {i:Nat},Kn.set ((j,u)::t) i v=bif (j == i) then (i,v)::t else (j,u)::Kn.set t i v) ∧
 (∀ {l:List Nat},Kn.drop [] l=[]) ∧
 (∀ {j:Nat} {v:AV} {t:Kn} {l:List Nat},Kn.drop ((j,v)::t) l=bif memN l j then Kn.drop t l else (j,v)::Kn.drop t l) ∧
 (∀ {i:Nat},memN [] i=false) ∧
 (∀ {j:Nat} {t:List Nat} {i:Nat},memN (j::t) i=bif (j == i) then true else memN t i) ∧
 (∀ {i:Nat},zj0 i []=[]) ∧
 (∀ {i:Nat} {a:AV} {r:List AV},zj0 i (a::r)=(i,a)::zj0 (i+1) r) ∧
 (∀ {K:Kn} {H:AH} {nx:Nat},zbk K H nx []=True) ∧
 (∀ {K:Kn} {H:AH} {nx t:Nat} {r:List ARet},zbk K H nx (.tmp t::r)=zbk K H nx r) ∧
 (∀ {K:Kn} {H:AH} {nx t n:Nat} {g:Bool} {r:List ARet},zbk K H nx (.cell t g n::r)=((zcP g n (K.get t) H nx).side∧zbk K H nx r)) ∧
 (∀ {K:Kn} {H:AH} {nx:Nat},zaE K H nx []=[]) ∧
 (∀ {K:Kn} {H:AH} {nx t:Nat} {r:List ARet},zaE K H nx (.tmp t::r)=K.get t::zaE K H nx r) ∧
 (∀ {K:Kn} {H:AH} {nx t n:Nat} {g:Bool} {r:List ARet},zaE K H nx (.cell t g n::r)=(zcP g n (K.get t) H nx).v::zaE K H nx r) ∧
 (∀ {v:AV},zh7 [v]=v) ∧
 (zh7 []=.tup []) ∧
 (∀ {u v:AV} {l:List AV},zh7 (u::v::l)=.tup (u::v::l)) ∧
 (∀ {r:Nat},AH.look [] r=none) ∧
 (∀ {j:Nat} {o:AObj} {t:AH} {r:Nat},AH.look ((j,o)::t) r=bif (j == r) then some o else AH.look t r) ∧
 (∀ {r:Nat} {o:AObj},AH.put [] r o=[(r,o)]) ∧
 (∀ {j:Nat} {u o:AObj} {t:AH} {r:Nat},AH.put ((j,u)::t) r o=bif (j == r) then (r,o)::t else (j,u)::AH.put t r o) ∧
 (∀ {H:AH} {r q:Nat},AH.get H r q=(AH.look H r).bind (·.part q)) ∧
 (∀ {H:AH} {r q:Nat} {o:AObj},AH.set H r q o=zqq (AH.look H r) H r q o) ∧
 (∀ {u:AObj} {H:AH} {r q:Nat} {o:AObj},zqq (some u) H r q o=H.put r (u.upd q o)) ∧
 (∀ {H:AH} {r q:Nat} {o:AObj},zqq none H r q o=H.put r o) ∧
 (∀ {sz g:Nat} {els:List (List AV)},AObj.part (.row sz els g) 0=some (.row sz els g)) ∧
 (∀ {sz i:Nat} {ins:List (List (List AV) × Nat)},AObj.part (.fam sz ins) (i+1)=(ins[i]?).map fun p=>.row sz p.1 p.2) ∧
 (∀ {sz g:Nat} {els:List (List AV)} {o:AObj} {q:Nat},AObj.upd (.row sz els g) q o=o) ∧
 (∀ {sz sz' i g:Nat} {ins:List (List (List AV) × Nat)} {els:List (List AV)},AObj.upd (.fam sz ins) (i+1) (.row sz' els g)=.fam sz (ins.set i (els,g))) ∧
 (∀ {o:AObj} {f:AObj→Option AObj},(some o).bind f=f o) :=
 ⟨@ev_t,@ev_c,@zG4,@zDQ,@zvQ,@ztI,@zBy,@zzP,@zEB,@zE7,@zAY,@zCz,@zFA,@zCh,@zE5,@zCf,@zBj,@zzy,@zEd,@zAz,@zDk,@zzt,@zxD,@zxy,@zvM,@zwW,@zwO,@zu9,@zCH,zzO,@zBn,@zD1,@zBI,@zGz,@zEM,@zFj,@zDJ,@zxC,@zwQ,@zEQ,@zEV,@zGQ,@zFX,@zzH⟩
theorem evB:(∀ {α:Type} {a b:α},(bif true then a else b)=a)∧(∀ {α:Type} {a b:α},(bif false then a else b)=b)∧(∀ {p:Prop},(True∧p)=p)∧(∀ {p:Prop},(p∧True)=p)∧(∀ {p:Prop},(True→p)=p) :=
 ⟨rfl,rfl,by simp,by simp,by simp⟩
theorem ztJ {n:Int} (h1 : -9223372036854775808≤n) (h2:n≤9223372036854775807):IntKind.i64.wrap n=n:=IntWalk.i64_in n ⟨h1,h2⟩
def encL {α:Type} (sz:Nat) (f:α→List AV) (l:List α):AV:=.sl sz l.length (fun i j=>((l.map f).getD i []).getD j .undef)
def encP (sz:Nat) (c:List AV):AV:=.iptr sz (fun j=>c.getD j .undef)
theorem zkN {α β:Type} {f:α→β} {l:List α} {i:Nat} {a:α} {d:β} (h:l[i]? = some a):(l.map f).getD i d=f a:=by simp[WD,h]
section
variable {α:Type} {sz:Nat} {f:α→List AV} {l:List α} {H:AH} {nx:Nat}
theorem zoQ:∀(n k:Nat) (c:List AV),k+n=c.length→tab (fun j=>c.getD j .undef) n k=c.drop k
 | 0,k,c,h=>by simp[tab,List.drop_of_length_le (show c.length≤k by omega)]
 |
  n+1,k,c,h=>by
  simp only[tab];rw[zoQ n (k+1) c (by omega),List.drop_eq_getElem_cons (show k < c.length by omega)];simp[WD,Wc (show k < c.length by omega)]
theorem zrG (hw:∀a∈l,(f a).length=sz):zdU sz (encL sz f l) H=some (l.map f):=by
 unfold zdU encL;simp only[zaG,cond_true]
 congr 1
 apply List.ext_getElem?;intro i
 by_cases hi:i < l.length
 · have hm:l[i]∈l:=WE hi;simp only[Wm,List.getElem?_range hi,Option.map_some,Wc hi];have e:(List.map f l).getD i []=f l[i]:=zkN (Wc hi);rw[e,zoQ sz 0 (f l[i]) (by rw[hw _ hm];omega)];rfl
 · simp[WB (show l.length≤i by omega),hi]
theorem zB6:nilB false (encL sz f l)=some (bif Wb l.length 0 then none else some false):=rfl
end
def qRo (l:List Nat):Nat→List Nat:=fun id=>bif Wb id 999999 then l else Wk 150
def qGet:List (Nat × List Nat)→Nat→List Nat
 | [],_=>Wk 150
 | (j,l)::t,i=>bif Wb j i then l else qGet t i
def qRoL (l:List Nat) (x:List (Nat × List Nat)):Nat→List Nat:=fun id=>bif Wb id 999999 then l else qGet x id
def qAll:Nat→List Nat:=qRo []
def za (l:List Int):AV:=encL 1 (fun n=>[.int .i64 n]) l
def zxt (l:List Nat):AV:=encL 1 (fun(n:Nat)=>[.int .i64 (n:Int)]) l
def ztC (l:List Bool):AV:=encL 1 (fun b=>[.bool b]) l
theorem zhq {α:Type} {H H2:AH} {σ:Nat→Nat→Option (Nat × Nat × Nat)} {D:Nat→Nat→Prop} {t:Bool} {sz r q g:Nat} {f f':α→List AV} {l:List α} (hD:D r q) (hg:H.get r q=some (.row sz (l.map f) g)) (hb:l.length≤big)
  (h:∀a∈l,∀j,j < sz→Vw H H2 σ D false ((f a).getD j .undef) ((f' a).getD j .undef)):Vw H H2 σ D t (.own r q g 0 l.length) (encL sz f' l):=by
 refine .frz t r q g 0 l.length sz (l.map f) _ hD hg hb (by simp) (fun i j hi hj=>?_);rw[Nat.zero_add,zkN (Wc hi),zkN (Wc hi)];exact h _ (WE hi) j hj
theorem zbQ {H H2:AH} {σ:Nat→Nat→Option (Nat × Nat × Nat)} {D:Nat→Nat→Prop} {t:Bool} {r q g:Nat} {l:List Int} (hD:D r q) (hg:H.get r q=some (.row 1 (l.map fun n=>[.int .i64 n]) g)) (hb:l.length≤big) :
  Vw H H2 σ D t (.own r q g 0 l.length) (za l):=by
 refine zhq hD hg hb (fun a _ j hj=>?_)
 obtain rfl:j=0:=by omega
 exact .int _ _ _
theorem zhk {H H2:AH} {σ:Nat→Nat→Option (Nat × Nat × Nat)} {D:Nat→Nat→Prop} {t:Bool} {r q g:Nat} {l:List Nat} (hD:D r q) (hg:H.get r q=some (.row 1 (l.map fun(n:Nat)=>[.int .i64 (n:Int)]) g)) (hb:l.length≤big) :
  Vw H H2 σ D t (.own r q g 0 l.length) (zxt l):=by
 refine zhq hD hg hb (fun a _ j hj=>?_)
 obtain rfl:j=0:=by omega
 exact .int _ _ _
theorem zeP {H H2:AH} {σ:Nat→Nat→Option (Nat × Nat × Nat)} {D:Nat→Nat→Prop} {t:Bool} {r q g:Nat} {l:List Bool} (hD:D r q) (hg:H.get r q=some (.row 1 (l.map fun b=>[.bool b]) g)) (hb:l.length≤big) :
  Vw H H2 σ D t (.own r q g 0 l.length) (ztC l):=by
 refine zhq hD hg hb (fun a _ j hj=>?_)
 obtain rfl:j=0:=by omega
 exact .bool _ _
theorem vw_nil {α:Type} {H H2:AH} {σ:Nat→Nat→Option (Nat × Nat × Nat)} {D:Nat→Nat→Prop} {t:Bool} {sz:Nat} {f:α→List AV}:Vw H H2 σ D t .nilsl (encL sz f []):=.nil0 _ _ _
theorem evL :
 (∀ {c:Nat→AV} {k:Nat},tab c 0 k=[]) ∧
 (∀ {c:Nat→AV} {n k:Nat},tab c (n+1) k=c k::tab c n (k+1)) ∧
 (∀ {α:Type} {a:α} {l:List α},(a::l).length=l.length+1) ∧
 (∀ {α:Type},([]:List α).length=0) ∧
 (∀ {α:Type} {a b:α} {l:List α},(a::l).set 0 b=b::l) ∧
 (∀ {α:Type} {a b:α} {l:List α} {n:Nat},(a::l).set (n+1) b=a::l.set n b) ∧
 (∀ {α:Type} {a d:α} {l:List α},(a::l).getD 0 d=a) ∧
 (∀ {α:Type} {a d:α} {l:List α} {n:Nat},(a::l).getD (n+1) d=l.getD n d) ∧
 (∀ {cs:List AV},AV.cells (.agg cs)=cs) ∧
 (∀ {k:IntKind} {n:Int},AV.cells (.int k n)=[.int k n]) ∧
 (∀ {b:Bool},AV.cells (.bool b)=[.bool b]) ∧
 (∀ {sz n:Nat} {f:Nat→Nat→AV},AV.cells (.sl sz n f)=[.sl sz n f]) ∧
 (∀ {α:Type} {sz:Nat} {f:α→List AV} {l:List α},AV.cells (encL sz f l)=[encL sz f l]) ∧
 (∀ {r q g off n:Nat},AV.cells (.own r q g off n)=[.own r q g off n]) ∧
 (∀ {r q g i f:Nat},AV.cells (.ptr r q g i f)=[.ptr r q g i f]) ∧
 (∀ {f:Fn} {cs:List AV},AV.cells (.fn f cs)=[.fn f cs]) ∧
 (AV.cells .nilsl=[.nilsl])∧(AV.cells .nilfn=[.nilfn])∧(AV.cells .nilp=[.nilp]) ∧
 (∀ {s:ByteArray},AV.cells (.str s)=[.str s]) ∧
 (∀ {cs:List AV},AV.solid (.agg cs)=true) ∧
 (∀ {k:IntKind} {n:Int},AV.solid (.int k n)=true) ∧
 (∀ {b:Bool},AV.solid (.bool b)=true) ∧
 (∀ {sz n:Nat} {f:Nat→Nat→AV},AV.solid (.sl sz n f)=true) ∧
 (∀ {α:Type} {sz:Nat} {f:α→List AV} {l:List α},AV.solid (encL sz f l)=true) ∧
 (∀ {r q g off n:Nat},AV.solid (.own r q g off n)=true) ∧
 (∀ {r q g i f:Nat},AV.solid (.ptr r q g i f)=true) ∧
 (∀ {f:Fn} {cs:List AV},AV.solid (.fn f cs)=true) ∧
 (AV.solid .nilsl=true)∧(AV.solid .nilfn=true)∧(AV.solid .nilp=true) ∧
 (∀ {s:ByteArray},AV.solid (.str s)=true) ∧
 (∀ {k:IntKind} {n:Int},AV.wf (.int k n)=InR k n) ∧
 (∀ {b:Bool},AV.wf (.bool b)=True) ∧
 (∀ {cs:List AV},AV.wf (.agg cs)=True) ∧
 (∀ {cs:List AV},AV.wf (.tup cs)=True) ∧
 (∀ {sz n:Nat} {f:Nat→Nat→AV},AV.wf (.sl sz n f)=(n≤big)) ∧
 (∀ {α:Type} {sz:Nat} {f:α→List AV} {l:List α},AV.wf (encL sz f l)=(l.length≤big)) ∧
 (∀ {r q g off n:Nat},AV.wf (.own r q g off n)=True) ∧
 (∀ {r q g i f:Nat},AV.wf (.ptr r q g i f)=True) ∧
 (∀ {n:Nat} {c:Nat→AV},AV.wf (.iptr n c)=True) ∧
 (∀ {f:Fn} {cs:List AV},AV.wf (.fn f cs)=True) ∧
 (AV.wf .nilsl=True)∧(AV.wf .nilfn=True)∧(AV.wf .nilp=True)∧(AV.wf .undef=True) ∧
 (∀ {s:ByteArray},AV.wf (.str s)=(s.size≤big)) ∧
 (∀ {n:Nat},Wb n n=true) ∧
 (∀ {a b:Nat},Wb a b=(a == b)) ∧
 (∀ {b:Bool},(b&&b)=b)∧(∀ {b:Bool},(b&&true)=b)∧(∀ {b:Bool},(true&&b)=b)∧(∀ {b:Bool},(b&&false)=false)∧(∀ {b:Bool},(false&&b)=false) ∧
 (∀ {n:Nat},0+n=n) ∧
 (∀ {n:Nat},((n:Int).toNat)=n) ∧
 (∀ {n:Nat},(0 < n+1)=True) ∧
 (∀ {n:Nat},(n≤n)=True) ∧
 (∀ {α:Type} {a:α},(a=a)=True) ∧
 (∀ {α:Type} {l:List α},[]++l=l)∧(∀ {α:Type} {l:List α},l++[]=l)∧(∀ {α:Type} {a:α} {l m:List α},(a::l)++m=a::(l++m)) ∧
 (∀ {α:Type} {l:List α},l.drop 0=l)∧(∀ {α:Type} {a:α} {l:List α} {n:Nat},(a::l).drop (n+1)=l.drop n) ∧
 (∀ {α:Type} {l:List α},l.take 0=[])∧(∀ {α:Type} {a:α} {l:List α} {n:Nat},(a::l).take (n+1)=a::l.take n) ∧
 (∀ {α:Type} {a:α},Wf 0 a=[])∧(∀ {α:Type} {a:α} {n:Nat},Wf (n+1) a=a::Wf n a) ∧
 (∀ {els:List (List AV)},zel els []=els)∧(∀ {els:List (List AV)} {i:Nat} {v:AV} {r:List (Nat × AV)},zel els ((i,v)::r)=zel (els.set i v.cells) r) ∧
 (∀ {n sz:Nat},ztW n sz []=True)∧(∀ {n sz i:Nat} {v:AV} {r:List (Nat × AV)},ztW n sz ((i,v)::r)=((v.solid=true∧v.cells.length=sz∧i < n)∧ztW n sz r)) ∧
 (∀ {cs:List AV},zAw cs []=cs)∧(∀ {cs:List AV} {off size:Nat} {v:AV} {r:List (Nat × Nat × AV)},zAw cs ((off,size,v)::r)=zAw (splice cs off v.cells) r) ∧
 (∀ {k:IntKind} {n:Int},AV.flat0 (.int k n)=true)∧(∀ {b:Bool},AV.flat0 (.bool b)=true)∧(∀ {s:ByteArray},AV.flat0 (.str s)=true)∧(AV.flat0 .undef=true)∧(AV.flat0 .nilsl=true)∧(AV.flat0 .nilp=true)∧(AV.flat0 .nilfn=true)∧(AV.flat0 .cut=true) ∧
 (∀ {sz n:Nat} {f:Nat→Nat→AV},AV.flat0 (.sl sz n f)=true)∧(∀ {n:Nat} {c:Nat→AV},AV.flat0 (.iptr n c)=true)∧(∀ {α:Type} {sz:Nat} {f:α→List AV} {l:List α},AV.flat0 (encL sz f l)=true) ∧
 (zM []=true)∧(∀ {v:AV} {r:List AV},zM (v::r)=(v.flat0&&zM r)) ∧
 (∀ {n:Nat},zpC n []=True)∧(∀ {n off size:Nat} {v:AV} {r:List (Nat × Nat × AV)},zpC n ((off,size,v)::r)=((v.solid=true∧v.cells.length=size∧off+size≤n)∧zpC n r)):=by
 (repeat' apply And.intro)<;>intros<;>first|rfl|exact Nat.beq_refl _|exact zeV _ _|simp
def AV.flat:AV→Bool
 | .agg l=>l.all AV.flat0
 | .tup l=>l.all AV.flat0
 | a=>a.flat0
theorem zO {H H2:AH} {σ:Nat→Nat→Option (Nat × Nat × Nat)} {D:Nat→Nat→Prop} {t:Bool} {a:AV} (h:a.flat0=true):Vw H H2 σ D t a a:=by
 cases a<;>first | (cases h;done)|constructor
theorem zaq {H H2:AH} {σ:Nat→Nat→Option (Nat × Nat × Nat)} {D:Nat→Nat→Prop} {t:Bool} {a:AV} (h:a.flat=true):Vw H H2 σ D t a a:=by
 have key:∀(l:List AV),l.all AV.flat0=true→∀(i:Nat) (x y:AV),l[i]? = some x→l[i]? = some y→Vw H H2 σ D t x y:=fun l hl i x y h1 h2=>by rw[h1] at h2;cases h2;exact zO (Wo.1 hl x (Wy h1))
 cases a with
 | agg l=>exact .agg _ _ _ rfl (key l h)
 | tup l=>exact .tup _ _ _ rfl (key l h)
 | _=>exact zO h
theorem zvg {H:AH} {D:Nat→Nat→Prop}:∀ {l:List AV},l.all AV.flat=true→Lend H D l l
 | [],_=>.nil
 |
  a::l,h=>by
  simp only[List.all_cons,Wg] at h;exact .cons (zaq h.1) (zvg h.2)
theorem zd {P:Program} {f:FuncId} {l:List AV} {r:AV} {H:AH} {nx:Nat} (h:zu P f l (·=r)) (hl:l.all AV.flat=true):zc0 P f l H nx r :=
 zbd h (zvg (D:=noR) hl) (.inr fun _ _ h=>h)
structure Stm where
 op:Int
 var:Int
 width:Int
 next:Int
 els:Int
 tgt:Int
 e:AV
 cases:List Int
structure Blk where
 addr:Int
 stmts:List Stm
structure Gr where
 addr:Int
 blocks:List Blk
def ldRow (agg:Bool) (n i f g:Nat) (o:Option AObj) (H:AH) (nx:Nat):ORes:=match o with
 |
  some (.row sz els g') =>
  let v:=bif agg then .agg (bif Wb f 0&&Wb n sz then els.getD i [] else sub (els.getD i []) f n) else (els.getD i []).getD f .undef
  ⟨g=g'∧i < els.length∧f+n≤sz,v.wf,v,H,nx⟩
 | _=>bad H nx
def stRow (n r q i f g:Nat) (v:AV) (o:Option AObj) (H:AH) (nx:Nat):ORes:=match o with
 |
  some (.row sz els g') =>
  ⟨g=g'∧i < els.length∧f+n≤sz∧v.solid=true∧v.cells.length=n,True,.undef,
    H.set r q (.row sz (els.set i (bif Wb f 0&&Wb n sz then v.cells else splice (els.getD i []) f v.cells)) g'),nx⟩
 | _=>bad H nx
def ixRow (sz r q g off n:Nat) (k:Int) (o:Option AObj) (H:AH) (nx:Nat):ORes:=match o with
 | some (.row sz' _ g')=>⟨sz'=sz∧g=g'∧0≤k∧k < n,True,.ptr r q g (off+k.toNat) 0,H,nx⟩
 | _=>bad H nx
def zAR (sz r q g off n:Nat) (a b:Int) (o:Option AObj) (H:AH) (nx:Nat):ORes:=match o with
 | some (.row sz' _ g')=>⟨sz'=sz∧g=g'∧0≤a∧a≤b∧b≤n,True,.own r q g (off+a.toNat) (b - a).toNat,H,nx⟩
 | _=>bad H nx
def clRow (sz r q g off n:Nat) (zero:List AV) (o:Option AObj) (H:AH) (nx:Nat):ORes:=match o with
 | some (.row sz' els g')=>⟨sz'=sz∧g=g'∧off+n≤els.length,True,.undef,H.set r q (.row sz (els.take off++Wf n zero++els.drop (off+n)) g'),nx⟩
 | _=>bad H nx
def elRow (sz g off n:Nat) (o:Option AObj):Option (List (List AV)):=match o with
 | some (.row sz' els g')=>bif Wb sz' sz&&Wb g g' then some ((els.drop off).take n) else none
 | _=>none
def ftRow (off n:Nat) (o:Option AObj):Prop:=match o with
 | some (.row _ els _)=>off+n≤els.length
 | _=>False
def zDK (sz bytes r q g off n m:Nat) (news:List (List AV)) (ft:Prop) (o:Option AObj) (H:AH) (nx:Nat):ORes:=match o with
 |
  some (.row sz' els g') =>
  ⟨sz'=sz∧g=g'∧off+n≤els.length∧ft∧(n+m) * bytes≤140737488355328,True,.own r q (g+1) 0 (n+m),H.set r q (.row sz ((els.drop off).take n++news) (g+1)),nx⟩
 | _=>bad H nx
def apTo (sz bytes:Nat) (x:AV) (news:Option (List (List AV))) (m:Option Nat) (ft:Prop) (H:AH) (nx:Nat):ORes:=match news,m with
 |
  some news,some m=>match x with
  | .own r q g off n=>zDK sz bytes r q g off n m news ft (H.get r q) H nx
  | .nilsl | .cut=>⟨ft∧m * bytes≤140737488355328,True,.own nx 0 0 0 m,H.set nx 0 (.row sz news 0),nx+1⟩
  | _=>bad H nx
 | _,_=>bad H nx
theorem zwT {sz bytes:Nat} {x y:AV} {H:AH} {nx:Nat}:zdp sz bytes x y H nx=apTo sz bytes x (zdU sz y H) (lenV y) (fits H y) H nx:=by
 unfold zdp apTo
 cases zdU sz y H with
 | none=>rfl
 |
  some news =>
  cases lenV y with
  | none=>rfl
  |
   some m =>
   cases x<;>try rfl
   all_goals
    simp only[zDK]
    split<;>rfl
theorem zz6 {l:List AV}:splice l 0 []=l:=by simp[splice]
theorem zwy {a v:AV} {l vs:List AV}:splice (a::l) 0 (v::vs)=v::splice l 0 vs:=by simp[splice]
theorem zwB {a:AV} {l vs:List AV} {n:Nat}:splice (a::l) (n+1) vs=a::splice l n vs:=by simp only[splice,List.take_succ_cons,List.cons_append];rw[show n+1+vs.length=(n+vs.length)+1 by omega,List.drop_succ_cons]
theorem evR :
 (∀ {sz r q g off n:Nat} {zero:List AV} {H:AH} {nx:Nat},zgH sz zero (.own r q g off n) H nx=clRow sz r q g off n zero (H.get r q) H nx) ∧
 (∀ {sz r q g off n sz' g':Nat} {zero:List AV} {els:List (List AV)} {H:AH} {nx:Nat},clRow sz r q g off n zero (some (.row sz' els g')) H nx=⟨sz'=sz∧g=g'∧off+n≤els.length,True,.undef,H.set r q (.row sz (els.take off++Wf n zero++els.drop (off+n)) g'),nx⟩) ∧
 (∀ {r q g off n:Nat} {H:AH} {nx:Nat},cutR (.own r q g off n) H nx=⟨True,True,.cut,H,nx⟩)∧(∀ {H:AH} {nx:Nat},cutR .nilsl H nx=⟨True,True,.cut,H,nx⟩)∧(∀ {H:AH} {nx:Nat},cutR .cut H nx=⟨True,True,.cut,H,nx⟩)∧(∀ {α:Type} {sz:Nat} {f:α→List AV} {l:List α} {H:AH} {nx:Nat},cutR (encL sz f l) H nx=⟨True,True,.cut,H,nx⟩) ∧
 (∀ {l:List AV},splice l 0 []=l)∧(∀ {a v:AV} {l vs:List AV},splice (a::l) 0 (v::vs)=v::splice l 0 vs)∧(∀ {a:AV} {l vs:List AV} {n:Nat},splice (a::l) (n+1) vs=a::splice l n vs) ∧
 (∀ {agg:Bool} {n r q g i f:Nat} {H:AH} {nx:Nat},zcP agg n (.ptr r q g i f) H nx=ldRow agg n i f g (H.get r q) H nx) ∧
 (∀ {agg:Bool} {n m:Nat} {c:Nat→AV} {H:AH} {nx:Nat},zcP agg n (.iptr m c) H nx=⟨n≤m,(bif agg then .agg (tab c n 0) else c 0:AV).wf,bif agg then .agg (tab c n 0) else c 0,H,nx⟩) ∧
 (∀ {agg:Bool} {n i f g sz g':Nat} {els:List (List AV)} {H:AH} {nx:Nat},ldRow agg n i f g (some (.row sz els g')) H nx =
  ⟨g=g'∧i < els.length∧f+n≤sz,(bif agg then .agg (bif Wb f 0&&Wb n sz then els.getD i [] else sub (els.getD i []) f n) else (els.getD i []).getD f .undef:AV).wf,bif agg then .agg (bif Wb f 0&&Wb n sz then els.getD i [] else sub (els.getD i []) f n) else (els.getD i []).getD f .undef,H,nx⟩) ∧
 (∀ {n r q g i f:Nat} {v:AV} {H:AH} {nx:Nat},zd9 n (.ptr r q g i f) v H nx=stRow n r q i f g v (H.get r q) H nx) ∧
 (∀ {n r q i f g sz g':Nat} {els:List (List AV)} {v:AV} {H:AH} {nx:Nat},stRow n r q i f g v (some (.row sz els g')) H nx =
  ⟨g=g'∧i < els.length∧f+n≤sz∧v.solid=true∧v.cells.length=n,True,.undef,H.set r q (.row sz (els.set i (bif Wb f 0&&Wb n sz then v.cells else splice (els.getD i []) f v.cells)) g'),nx⟩) ∧
 (∀ {sz r q g off n:Nat} {k:IntKind} {i:Int} {H:AH} {nx:Nat},idxR sz (.own r q g off n) (.int k i) H nx=ixRow sz r q g off n i (H.get r q) H nx) ∧
 (∀ {sz r q g off n sz' g':Nat} {els:List (List AV)} {i:Int} {H:AH} {nx:Nat},ixRow sz r q g off n i (some (.row sz' els g')) H nx=⟨sz'=sz∧g=g'∧0≤i∧i < n,True,.ptr r q g (off+i.toNat) 0,H,nx⟩) ∧
 (∀ {r q g off n:Nat} {H:AH} {nx:Nat},lenR (.own r q g off n) H nx=⟨True,n≤9223372036854775807,.int .i64 n,H,nx⟩) ∧
 (∀ {H:AH} {nx:Nat},lenR .nilsl H nx=⟨True,True,.int .i64 0,H,nx⟩) ∧
 (∀ {H:AH} {nx:Nat},lenR .cut H nx=⟨True,True,.int .i64 0,H,nx⟩) ∧
 (∀ {off n r q g i f:Nat} {H:AH} {nx:Nat},zbS off n (.ptr r q g i f) H nx=⟨True,True,.ptr r q g i (f+off),H,nx⟩) ∧
 (∀ {off n m:Nat} {c:Nat→AV} {H:AH} {nx:Nat},zbS off n (.iptr m c) H nx=⟨off+n≤m,True,.iptr n (fun j=>c (off+j)),H,nx⟩) ∧
 (∀ {sz r q g off n:Nat} {k k':IntKind} {a b:Int} {H:AH} {nx:Nat},zdH sz (.own r q g off n) (some (.int k a)) (some (.int k' b)) H nx=zAR sz r q g off n a b (H.get r q) H nx) ∧
 (∀ {sz r q g off n:Nat} {k:IntKind} {a:Int} {H:AH} {nx:Nat},zdH sz (.own r q g off n) (some (.int k a)) none H nx=zAR sz r q g off n a n (H.get r q) H nx) ∧
 (∀ {sz r q g off n:Nat} {k':IntKind} {b:Int} {H:AH} {nx:Nat},zdH sz (.own r q g off n) none (some (.int k' b)) H nx=zAR sz r q g off n 0 b (H.get r q) H nx) ∧
 (∀ {sz r q g off n sz' g':Nat} {els:List (List AV)} {a b:Int} {H:AH} {nx:Nat},zAR sz r q g off n a b (some (.row sz' els g')) H nx=⟨sz'=sz∧g=g'∧0≤a∧a≤b∧b≤n,True,.own r q g (off+a.toNat) (b - a).toNat,H,nx⟩) ∧
 (∀ {sz bytes:Nat} {x y:AV} {H:AH} {nx:Nat},zdp sz bytes x y H nx=apTo sz bytes x (zdU sz y H) (lenV y) (fits H y) H nx) ∧
 (∀ {sz r q g off n:Nat} {H:AH},zdU sz (.own r q g off n) H=elRow sz g off n (H.get r q)) ∧
 (∀ {sz:Nat} {H:AH},zdU sz .nilsl H=some [])∧(∀ {sz:Nat} {H:AH},zdU sz .cut H=some []) ∧
 (∀ {sz g off n sz' g':Nat} {els:List (List AV)},elRow sz g off n (some (.row sz' els g'))=bif Wb sz' sz&&Wb g g' then some ((els.drop off).take n) else none) ∧
 (∀ {r q g off n:Nat},lenV (.own r q g off n)=some n)∧(lenV .nilsl=some 0)∧(lenV .cut=some 0)∧(∀ {α:Type} {sz:Nat} {f:α→List AV} {l:List α},lenV (encL sz f l)=some l.length) ∧
 (∀ {r q g off n:Nat} {H:AH},fits H (.own r q g off n)=ftRow off n (H.get r q))∧(∀ {H:AH},fits H .nilsl=True)∧(∀ {H:AH},fits H .cut=True)∧(∀ {α:Type} {sz:Nat} {f:α→List AV} {l:List α} {H:AH},fits H (encL sz f l)=True) ∧
 (∀ {off n sz g:Nat} {els:List (List AV)},ftRow off n (some (.row sz els g))=(off+n≤els.length)) ∧
 (∀ {sz bytes r q g off n m:Nat} {news:List (List AV)} {ft:Prop} {H:AH} {nx:Nat},apTo sz bytes (.own r q g off n) (some news) (some m) ft H nx=zDK sz bytes r q g off n m news ft (H.get r q) H nx) ∧
 (∀ {sz bytes m:Nat} {news:List (List AV)} {ft:Prop} {H:AH} {nx:Nat},apTo sz bytes .nilsl (some news) (some m) ft H nx=⟨ft∧m * bytes≤140737488355328,True,.own nx 0 0 0 m,H.set nx 0 (.row sz news 0),nx+1⟩) ∧
 (∀ {sz bytes m:Nat} {news:List (List AV)} {ft:Prop} {H:AH} {nx:Nat},apTo sz bytes .cut (some news) (some m) ft H nx=⟨ft∧m * bytes≤140737488355328,True,.own nx 0 0 0 m,H.set nx 0 (.row sz news 0),nx+1⟩) ∧
 (∀ {sz bytes r q g off n m sz' g':Nat} {news els:List (List AV)} {ft:Prop} {H:AH} {nx:Nat},zDK sz bytes r q g off n m news ft (some (.row sz' els g')) H nx =
  ⟨sz'=sz∧g=g'∧off+n≤els.length∧ft∧(n+m) * bytes≤140737488355328,True,.own r q (g+1) 0 (n+m),H.set r q (.row sz ((els.drop off).take n++news) (g+1)),nx⟩) ∧
 (∀ {α:Type} {sz:Nat} {f:α→List AV} {l:List α} {H:AH} {nx:Nat},lenR (encL sz f l) H nx=⟨True,l.length≤big,.int .i64 l.length,H,nx⟩) ∧
 (∀ {α:Type} {sz:Nat} {f:α→List AV} {l:List α} {H:AH} {nx:Nat} {s:Nat} {k:IntKind} {i:Int},idxR s (encL sz f l) (.int k i) H nx=⟨sz=s∧0≤i∧i < l.length,True,.iptr s (fun j=>((l.map f).getD i.toNat []).getD j .undef),H,nx⟩):=by
 refine⟨rfl,rfl,rfl,rfl,rfl,rfl,zz6,zwy,zwB,rfl,rfl,rfl,rfl,rfl,rfl,rfl,rfl,rfl,rfl,rfl,rfl,?_,?_,?_,rfl,zwT,rfl,rfl,rfl,rfl,rfl,rfl,rfl,rfl,rfl,rfl,rfl,rfl,rfl,rfl,rfl,rfl,rfl,rfl,rfl⟩
 all_goals
  intro sz r q g off n;intros;rename_i H nx;simp only[zdH,zAR]
  cases H.get r q with
  | none=>rfl
  | some o=>cases o<;>rfl
def zEy (r q g off n:Nat) (o:Option AObj) (H:AH) (nx:Nat):ORes:=match o with
 | some (.row sz els g')=>⟨sz=1∧g=g'∧0 < n,True,.own r q g off n,H.set r q (.row sz els g'),nx⟩
 | _=>bad H nx
def zEf (r q g off n:Nat) (s:ByteArray) (o:Option AObj) (H:AH) (nx:Nat):ORes:=match o with
 |
  some (.row sz' els g') =>
  ⟨sz'=1∧g=g'∧off+n≤els.length∧n+s.size≤140737488355328,True,.own r q (g+1) 0 (n+s.size),H.set r q (.row 1 ((els.drop off).take n++s.data.toList.map zj7) (g+1)),nx⟩
 | _=>bad H nx
def zFc (sz r q g off n:Nat) (b c:Int) (o:Option AObj) (H:AH) (nx:Nat):ORes:=match o with
 | some (.row sz' _ g')=>⟨sz'=sz∧g=g'∧0≤b∧b≤c∧c≤n,True,.own r q g off b.toNat,H,nx⟩
 | _=>bad H nx
def eqTo (neg:Bool) (o:Option Bool) (H:AH) (nx:Nat):ORes:=match o with
 | some t=>⟨True,True,.bool (bif neg then !t else t),H,nx⟩
 | none=>bad H nx
def bsTo (ft:Prop) (lv:Bool) (o:Option (List UInt8)) (H:AH) (nx:Nat):ORes:=match o with
 | some l=>⟨ft∧lv=true,(AV.str ⟨l.toArray⟩).wf,.str ⟨l.toArray⟩,H,nx⟩
 | none=>bad H nx
def zxK:Option (List (List AV))→Option (List UInt8)
 | some els=>zez els
 | none=>none
def mlTo (str:Option IntKind) (ok:Bool) (zero k:AV) (sz g:Nat) (o:Option (Option (Nat × AV))) (H:AH) (nx:Nat):ORes:=match o with
 | some res=>⟨sz=3∧g=0∧zgK str k,(mgot ok zero res).wf,mgot ok zero res,H,nx⟩
 | none=>bad H nx
def zET (str:Option IntKind) (ok:Bool) (zero k:AV) (o:Option AObj) (H:AH) (nx:Nat):ORes:=match o with
 | some (.row sz (_::es) g)=>mlTo str ok zero k sz g (zfa k es 0) H nx
 | _=>bad H nx
def msTo (str:Option IntKind) (r q:Nat) (k v:AV) (sz g:Nat) (c:Int) (u u':AV) (es:List (List AV)) (o:Option (Option (Nat × AV))) (H:AH) (nx:Nat):ORes:=match o with
 | some (some (i,_))=>⟨sz=3∧g=0∧zgK str k,True,.undef,H.set r q (.row 3 ([.int .i64 c,u,u']::es.set i [k,v,(es.getD i []).getD 2 .undef]) 0),nx⟩
 | some none=>⟨sz=3∧g=0∧zgK str k∧c < 1152921504606846976,True,.undef,H.set r q (.row 3 ([.int .i64 (c+1),u,u']::(es++[[k,v,.int .i64 c]])) 0),nx⟩
 | none=>bad H nx
def zDV (str:Option IntKind) (r q:Nat) (k v:AV) (o:Option AObj) (H:AH) (nx:Nat):ORes:=match o with
 |
  some (.row sz (hd::es) g)=>match hd with
  | [.int .i64 c,u,u']=>msTo str r q k v sz g c u u' es (zfa k es 0) H nx
  | _=>bad H nx
 | _=>bad H nx
theorem zDW {x:AV} {H:AH} {nx:Nat}:b2sR x H nx=bsTo (fits H x) (lenV x).isSome (zxK (zdU 1 x H)) H nx:=by
 unfold b2sR zxK bsTo
 cases zdU 1 x H with
 | none=>rfl
 | some els=>rfl
theorem zAf {str:Option IntKind} {ok:Bool} {z k:AV} {r q:Nat} {H:AH} {nx:Nat}:zgY str ok z (.mp r q) k H nx=zET str ok z k (H.get r q) H nx:=by
 simp only[zgY,zET]
 cases H.get r q with
 | none=>rfl
 |
  some o =>
  cases o with
  | fam _ _=>rfl
  |
   row sz els g =>
   cases els with
   | nil=>rfl
   | cons hd es=>rfl
theorem zAS {str:Option IntKind} {k v:AV} {r q:Nat} {H:AH} {nx:Nat}:zkW str (.mp r q) k v H nx=zDV str r q k v (H.get r q) H nx:=by
 simp only[zkW,zDV]
 cases H.get r q with
 | none=>rfl
 |
  some o =>
  cases o with
  | fam _ _=>rfl
  |
   row sz els g =>
   cases els with
   | nil=>rfl
   |
    cons hd es =>
    simp only;split
    · rfl
    ·
     rename_i hno;split
     · exact(hno _ _ _ rfl).elim
     · rfl
theorem zFi {sz r q g off n:Nat} {k k':IntKind} {b c:Int} {H:AH} {nx:Nat}:sl3R sz (.own r q g off n) (.int k b) (.int k' c) H nx=zFc sz r q g off n b c (H.get r q) H nx:=by
 simp only[sl3R,zFc]
 cases H.get r q with
 | none=>rfl
 | some o=>cases o<;>rfl
theorem zA1 {r q g off n:Nat} {s:ByteArray} {H:AH} {nx:Nat}:znb (.own r q g off n) (.str s) H nx=zEf r q g off n s (H.get r q) H nx:=by
 simp only[znb,zEf]
 cases H.get r q with
 | none=>rfl
 | some o=>cases o<;>rfl
theorem zA4 {r q g off n:Nat} {H:AH} {nx:Nat}:zoJ (.own r q g off n) H nx=zEy r q g off n (H.get r q) H nx:=by
 simp only[zoJ,zEy]
 cases H.get r q with
 | none=>rfl
 | some o=>cases o<;>rfl
theorem zv0 {l:List UInt8}:zez (l.map zj7)=some l:=by
 induction l with
 | nil=>rfl
 | cons b l ih=>simp[zez,zj7,ih]
theorem evX :
 (∀ {r q g i f:Nat} {H:AH} {nx:Nat},xopR .nilck [.ptr r q g i f] H nx=⟨True,True,.ptr r q g i f,H,nx⟩) ∧
 (∀ {n:Nat} {c:Nat→AV} {H:AH} {nx:Nat},xopR .nilck [.iptr n c] H nx=⟨True,True,.iptr n c,H,nx⟩) ∧
 (∀ {n:Nat} {c:List AV} {H:AH} {nx:Nat},xopR .nilck [encP n c] H nx=⟨True,True,encP n c,H,nx⟩) ∧
 (∀ {neg:Bool} {a b:ByteArray} {H:AH} {nx:Nat},xopR (.seq neg) [.str a,.str b] H nx=⟨True,True,.bool (bif neg then !decide (a=b) else decide (a=b)),H,nx⟩) ∧
 (∀ {s:ByteArray} {k:IntKind} {i:Int} {H:AH} {nx:Nat},xopR .sidx [.str s,.int k i] H nx=⟨0≤i∧i < s.size,True,.int .u8 (zug s i.toNat),H,nx⟩) ∧
 (∀ {s:ByteArray} {H:AH} {nx:Nat},xopR .s2b [.str s] H nx=⟨True,True,.own nx 0 0 0 s.size,H.set nx 0 (.row 1 (s.data.toList.map zj7) 0),nx+1⟩) ∧
 (∀ {x:AV} {H:AH} {nx:Nat},xopR .b2s [x] H nx=bsTo (fits H x) (lenV x).isSome (zxK (zdU 1 x H)) H nx) ∧
 (∀ {ft:Prop} {lv:Bool} {l:List UInt8} {H:AH} {nx:Nat},bsTo ft lv (some l) H nx=⟨ft∧lv=true,(⟨l.toArray⟩:ByteArray).size≤big,.str ⟨l.toArray⟩,H,nx⟩) ∧
 (∀ {els:List (List AV)},zxK (some els)=zez els) ∧
 (∀ {l:List UInt8},zez (l.map zj7)=some l) ∧
 (∀ {r q g off n:Nat} {H:AH} {nx:Nat},xopR .mark [.own r q g off n] H nx=zEy r q g off n (H.get r q) H nx) ∧
 (∀ {r q g off n sz g':Nat} {els:List (List AV)} {H:AH} {nx:Nat},zEy r q g off n (some (.row sz els g')) H nx=⟨sz=1∧g=g'∧0 < n,True,.own r q g off n,H.set r q (.row sz els g'),nx⟩) ∧
 (∀ {r q g off n:Nat} {s:ByteArray} {H:AH} {nx:Nat},xopR .sapp [.own r q g off n,.str s] H nx=zEf r q g off n s (H.get r q) H nx) ∧
 (∀ {r q g off n sz g':Nat} {s:ByteArray} {els:List (List AV)} {H:AH} {nx:Nat},zEf r q g off n s (some (.row sz els g')) H nx =
  ⟨sz=1∧g=g'∧off+n≤els.length∧n+s.size≤140737488355328,True,.own r q (g+1) 0 (n+s.size),H.set r q (.row 1 ((els.drop off).take n++s.data.toList.map zj7) (g+1)),nx⟩) ∧
 (∀ {s:ByteArray} {H:AH} {nx:Nat},xopR .sapp [.nilsl,.str s] H nx=⟨s.size≤140737488355328,True,.own nx 0 0 0 s.size,H.set nx 0 (.row 1 (s.data.toList.map zj7) 0),nx+1⟩) ∧
 (∀ {s:ByteArray} {H:AH} {nx:Nat},xopR .sapp [.cut,.str s] H nx=⟨s.size≤140737488355328,True,.own nx 0 0 0 s.size,H.set nx 0 (.row 1 (s.data.toList.map zj7) 0),nx+1⟩) ∧
 (∀ {k k':IntKind} {a b:Int} {H:AH} {nx:Nat},xopR .min [.int k a,.int k' b] H nx=⟨k=k',True,.int k (if b < a then b else a),H,nx⟩) ∧
 (∀ {k k':IntKind} {a b:Int} {H:AH} {nx:Nat},xopR .max [.int k a,.int k' b] H nx=⟨k=k',True,.int k (if a < b then b else a),H,nx⟩) ∧
 (∀ {neg:Bool} {ss:List Nat} {a b:List AV} {H:AH} {nx:Nat},xopR (.eqs neg ss) [.agg a,.agg b] H nx=eqTo neg (zS ss a b) H nx) ∧
 (∀ {neg t:Bool} {H:AH} {nx:Nat},eqTo neg (some t) H nx=⟨True,True,.bool (bif neg then !t else t),H,nx⟩) ∧
 (zS [] [] []=some true) ∧
 (∀ {s:List Nat} {k:IntKind} {a b:Int} {l m:List AV},zS (0::s) (.int k a::l) (.int k b::m)=(zS s l m).map (decide (a=b)&&·)) ∧
 (∀ {s:List Nat} {a b:ByteArray} {l m:List AV},zS (1::s) (.str a::l) (.str b::m)=(zS s l m).map (decide (a=b)&&·)) ∧
 (∀ {s:List Nat} {a b:Bool} {l m:List AV},zS (2::s) (.bool a::l) (.bool b::m)=(zS s l m).map ((a == b)&&·)) ∧
 (∀ {f:Bool→Bool} {a:Bool},Option.map f (some a)=some (f a)) ∧
 (∀ {sz r q g off n:Nat} {k k':IntKind} {b c:Int} {H:AH} {nx:Nat},xopR (.sl3 sz) [.own r q g off n,.int k b,.int k' c] H nx=zFc sz r q g off n b c (H.get r q) H nx) ∧
 (∀ {sz r q g off n sz' g':Nat} {b c:Int} {els:List (List AV)} {H:AH} {nx:Nat},zFc sz r q g off n b c (some (.row sz' els g')) H nx=⟨sz'=sz∧g=g'∧0≤b∧b≤c∧c≤n,True,.own r q g off b.toNat,H,nx⟩) ∧
 (∀ {sz:Nat} {k k':IntKind} {b c:Int} {H:AH} {nx:Nat},xopR (.sl3 sz) [.nilsl,.int k b,.int k' c] H nx=⟨b=0∧c=0,True,.nilsl,H,nx⟩) ∧
 (∀ {H:AH} {nx:Nat},xopR .mkmap [] H nx=⟨True,True,.mp nx 0,H.set nx 0 (.row 3 [[.int .i64 0,.undef,.undef]] 0),nx+1⟩) ∧
 (∀ {str:Option IntKind} {ok:Bool} {z k:AV} {r q:Nat} {H:AH} {nx:Nat},xopR (.mlook str ok z) [.mp r q,k] H nx=zET str ok z k (H.get r q) H nx) ∧
 (∀ {str:Option IntKind} {ok:Bool} {z k:AV} {sz g:Nat} {hd:List AV} {es:List (List AV)} {H:AH} {nx:Nat},zET str ok z k (some (.row sz (hd::es) g)) H nx=mlTo str ok z k sz g (zfa k es 0) H nx) ∧
 (∀ {str:Option IntKind} {ok:Bool} {z k:AV} {sz g:Nat} {res:Option (Nat × AV)} {H:AH} {nx:Nat},mlTo str ok z k sz g (some res) H nx=⟨sz=3∧g=0∧zgK str k,(mgot ok z res).wf,mgot ok z res,H,nx⟩) ∧
 (∀ {str:Option IntKind} {k v:AV} {r q:Nat} {H:AH} {nx:Nat},xopR (.mset str) [.mp r q,k,v] H nx=zDV str r q k v (H.get r q) H nx) ∧
 (∀ {str:Option IntKind} {k v:AV} {r q sz g:Nat} {c:Int} {u u':AV} {es:List (List AV)} {H:AH} {nx:Nat},zDV str r q k v (some (.row sz ([.int .i64 c,u,u']::es) g)) H nx=msTo str r q k v sz g c u u' es (zfa k es 0) H nx) ∧
 (∀ {str:Option IntKind} {k v:AV} {r q sz g i:Nat} {c:Int} {u u' x:AV} {es:List (List AV)} {H:AH} {nx:Nat},msTo str r q k v sz g c u u' es (some (some (i,x))) H nx =
  ⟨sz=3∧g=0∧zgK str k,True,.undef,H.set r q (.row 3 ([.int .i64 c,u,u']::es.set i [k,v,(es.getD i []).getD 2 .undef]) 0),nx⟩) ∧
 (∀ {str:Option IntKind} {k v:AV} {r q sz g:Nat} {c:Int} {u u':AV} {es:List (List AV)} {H:AH} {nx:Nat},msTo str r q k v sz g c u u' es (some none) H nx =
  ⟨sz=3∧g=0∧zgK str k∧c < 1152921504606846976,True,.undef,H.set r q (.row 3 ([.int .i64 (c+1),u,u']::(es++[[k,v,.int .i64 c]])) 0),nx⟩) ∧
 (∀ {q k:IntKind} {n:Int},zgK (some q) (.int k n)=(q=k))∧(∀ {s:ByteArray},zgK none (.str s)=True) ∧
 (∀ {z:AV} {r:Option (Nat × AV)},mgot false z r=mval z r)∧(∀ {z:AV} {r:Option (Nat × AV)},mgot true z r=.tup [mval z r,.bool r.isSome]) ∧
 (∀ {z v:AV} {i:Nat},mval z (some (i,v))=v)∧(∀ {z:AV},mval z none=z) ∧
 (∀ {r q:Nat},AV.cells (.mp r q)=[.mp r q])∧(AV.cells .nilmp=[.nilmp])∧(∀ {r:Nat},AV.cells (.it r)=[.it r]) ∧
 (∀ {r q:Nat},AV.solid (.mp r q)=true)∧(AV.solid .nilmp=true)∧(∀ {r:Nat},AV.solid (.it r)=true) ∧
 (∀ {r q:Nat},AV.wf (.mp r q)=True)∧(AV.wf .nilmp=True)∧(∀ {r:Nat},AV.wf (.it r)=True) ∧
 (∀ {s:ByteArray} {H:AH} {nx:Nat},zpN (.str s) H nx=⟨True,s.size≤big,.int .i64 s.size,H,nx⟩) ∧
 (∀ {b:Bool},(!!b)=b):=by
 refine⟨rfl,rfl,rfl,rfl,rfl,rfl,zDW,rfl,rfl,zv0,zA4,rfl,zA1,rfl,rfl,rfl,rfl,rfl,?_,rfl,?_,?_,?_,?_,rfl,@fun sz r q g off n k k' b c H nx=>zFi (k:=k) (k':=k'),rfl,rfl,rfl,zAf,rfl,rfl,zAS,rfl,rfl,rfl,rfl,rfl,rfl,rfl,rfl,rfl,rfl,rfl,rfl,rfl,rfl,rfl,rfl,rfl,rfl,rfl,by simp⟩
 ·
  intro neg ss a b H nx;show eqsR neg ss (.agg a) (.agg b) H nx=_;unfold eqsR eqTo;simp only
  cases h:zS ss a b<;>simp only[h]
 · simp[zS]
 · intro s k a b l m;simp[zS]
 · intro s a b l m;simp[zS]
 · intro s a b l m;simp[zS]
end Go.Ab
