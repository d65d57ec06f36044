/- A part of the texts of this claim: every theorem says what it proves, with its conditions. -/
import Derived.Test.YtnaiockballhaaaGreatA18
import Derived.Lib.Overlaps
set_option linter.unusedSimpArgs false
set_option linter.unusedVariables false
set_option linter.unusedSectionVars false
open Array (getD_eq_getD_getElem? getElem?_eq_getElem getElem?_toList replicate)
open Nat (blt lt_irrefl)
open Bool (and_eq_true)
open List (all_cons all_eq_true range)
namespace Go.Ev
open Go.RowKit
noncomputable section
def OL(K:Act->World->Prop)(Q:Exit->Act->World->Prop):Exit->Act->World->Prop
 | .normal,a,w=>K a w
 | e,a,w=>Q e a w
theorem H8{F:Fence}{n:Nat}{P:Program}{o:Oper}{a:Act}{next K:Act->World->Prop}{Q:Exit->Act->World->Prop}(r:Result Next):o.uponIn F n P a next (OL K Q) r=o.uponIn F n P a next Q r:=by
 unfold Oper.uponIn;split<;>rfl
def Qz(P:Program)(ro:Option Nat)(ol:List Oper)(i:Nat)(st:fO)(K:fO->Prop):Prop:=∀(ops:Array Oper),ops.toList=ol->∀(F:Fence) (n:Nat) (σ:Sg) (a:Act) (w:World) (K':Act->World->Prop) (Q:Exit->Act->World->Prop),
 SF σ st a w->BC σ ro F->(∀st' a' w' σ',K st'->SF σ' st' a' w'->Ext σ σ' st.h st'.h w w'->st'.n=st.n->K' a' w')->wpOpIn F n P ops Q i K' a w
theorem Qz.of{P:Program}{ro:Option Nat}{ol:List Oper}{i:Nat}{o:Oper}{st:fO}{K:fO->Prop}(ho:ol[i]?=some o)(hg:∀j b,o.guard=some (j,b)->j<i)(h:je P ro (ol.take (i+1)) [o] st K):Qz P ro ol i st K:=by
 intro ops hops F n σ a w K' Q hs hF hk
 have hlt:i<ol.length:=by
  rcases Nat.lt_or_ge i ol.length with h | h
  ·exact h
  ·rw[List.getElem?_eq_none h] at ho;cases ho
 have hdrop:((ol.take (i+1)).toArray.toList).drop i=[o]:=by
  rw[List.toList_toArray,List.drop_take,show i+1-i=1 by omega]
  have:ol.drop i=o::ol.drop (i+1):=by
   rw[List.drop_eq_getElem_cons hlt];rw[List.getElem?_eq_getElem hlt] at ho;cases ho;rfl
  rw[this];rfl
 have:=h (ol.take (i+1)).toArray i (List.toList_toArray) hdrop F n σ a w (OL K' Q) hs hF λst' a' w' σ' h1 h2 h3 h4=>hk st' a' w' σ' h1 h2 h3 h4;rw[show List.range' i [o].length=[i] from rfl,wpOpsIn_cons] at this;unfold wpOpIn at this ⊢
 have ho1:(ol.take (i+1)).toArray[i]?=some o:=by
  rw[List.getElem?_toArray,List.getElem?_take,if_pos (by omega)];exact ho
 have ho2:ops[i]?=some o:=by rw[<-getElem?_toList,hops];exact ho
 rw[ho1] at this;rw[ho2];simp only at this ⊢
 have hw:Region.wanted o (yielded ops a.tmps)=Region.wanted o (yielded (ol.take (i+1)).toArray a.tmps):=by
  unfold Region.wanted
  cases hgd:o.guard with
  | none=>rfl
  | some jb=>
   obtain⟨j,b⟩:=jb;simp only;have hj:=hg j b hgd
   have:yielded ops a.tmps j=yielded (ol.take (i+1)).toArray a.tmps j:=by
    unfold yielded;rw[<-getElem?_toList (xs:=ops),hops,List.getElem?_toArray,List.getElem?_take,if_pos (by omega)]
   rw[this]
 rw[hw];cases hc:Region.wanted o (yielded (ol.take (i+1)).toArray a.tmps)
 ·rw[hc] at this;simp only[Bool.false_eq_true,if_false] at this ⊢;exact this
 ·rw[hc] at this;simp only[if_true] at this ⊢;unfold Oper.wpIn at this ⊢;refine⟨this.1,?_⟩;have h2:=this.2;rw[H8] at h2;exact h2
theorem je.mono{P:Program}{ro:Option Nat}{all l:List Oper}{st:fO}{K K':fO->Prop}(h:je P ro all l st K)(hk:∀x,K x->K' x):je P ro all l st K':=
 λops i h1 h2 F n σ a w Q hs hF hQ=>h ops i h1 h2 F n σ a w Q hs hF λst' a' w' σ' hK=>hQ st' a' w' σ' (hk _ hK)
def dep(e:Edge):Bool:=Region.binds .any e
def lL:Nat->List Oper->Bool
 | _,[]=>true
 | i,o::l=>(o.after.toList.all λe=>!(dep e)||blt e.on i)&&lL (i+1) l
theorem nS:∀{l:List Oper} {k i:Nat} {o:Oper},lL k l=true->l[i]?=some o->∀e∈o.after.toList,dep e=true->e.on<k+i
 | [],_,_,_,_,h=>by simp at h
 | x::l,k,0,o,hb,h=>by
  simp only[List.getElem?_cons_zero,Option.some.injEq] at h;subst h;intro e he hd;rw[lL,and_eq_true,all_eq_true] at hb;have:=hb.1 e he;rw[hd,Bool.not_true,Bool.false_or] at this;exact fQ this
 | x::l,k,i+1,o,hb,h=>by
  simp only[List.getElem?_cons_succ] at h;rw[lL,and_eq_true] at hb;intro e he hd;have:=nS hb.2 h e he hd;omega
structure QA (ol:List Oper) (L:Nat->Prop) (i:Nat) (o:Oper):Prop where
 ik:ol[i]?=some o
 new:¬L i
 dep:∀e∈o.after.toList,Ev.dep e=true->L e.on
theorem kj.any{P:Program}{ro:Option Nat}{id:Nat}{ops:Array Oper}{st:fO}{Q:Ex->fO->Prop}{ol:List Oper}(hol:ops.toList=ol)(hok:(lL 0 ol&&P.follows .mixedOrders)=true)(J:(Nat->Prop)->fO->Prop)(h0:J (λ_=>False) st)(hn:∀L x,J L x->x.n=st.n)
 (hstep:∀L x i o,J L x->QA ol L i o->Qz P ro ol i x (J λj=>L j\/j=i)) (hend:∀L x,J L x->(∀i,i<ol.length->L i)->Q .normal x):kj P ro (.region id ops true) st Q:=by
 rw[and_eq_true] at hok;obtain⟨hback,hmix⟩:=hok
 have hsz:ops.size=ol.length:=by rw[<-hol];simp
 intro F nn σ0 a0 w0 hs0 hF0;refine wpIn_region_draw λt=>?_;simp only[Region.schedule,hmix,Bool.true_or,if_true];have hE2:Ext σ0 σ0 st.h st.h w0 { w0 with drawn:=w0.drawn+1 }:=Ext.of_eq rfl rfl rfl rfl;refine wpAnyIn_sound ops.size t _ a0 _ ?_
 have key:∀(fuel:Nat) (listed:Array Bool) (x:fO) (σ:Sg) (a:Act) (w:World),listed.size=ops.size->left listed ops.size<=fuel->J (λj=>listed.getD j false=true) x->SF σ x a w->BC σ ro F->Ext σ0 σ st.h x.h w0 w->
  wpAnyIn F nn P .any ops (Ah σ0 st.h w0 st.n Q) fuel listed a w:=by
  intro fuel
  have hdone:∀(listed:Array Bool) (x:fO) (σ:Sg) (a:Act) (w:World),listed.size=ops.size->J (λj=>listed.getD j false=true) x->SF σ x a w->Ext σ0 σ st.h x.h w0 w->Region.ready .any ops listed=[]->Ah σ0 st.h w0 st.n Q .normal a w:=by
   intro listed x σ a w hls hJ hs hE hr
   have hall:∀i,i<ol.length->listed.getD i false=true:=by
    intro i
    induction i using Nat.strongRecOn with
    | _ i ih=>
     intro hi;cases hb:listed.getD i false
     ·exfalso
      have hi':i<ops.size:=by omega
      have hoi:ops[i]?=some ops[i]:=getElem?_eq_getElem hi'
      have hoi':ol[i]?=some ops[i]:=by rw[<-hol,getElem?_toList];exact hoi
      have hm:i∈Region.ready .any ops listed:=by
       refine mem_ready.2 ⟨?_,ops[i],hoi,λe he hbind=>?_⟩
       ·rw[getD_eq_getD_getElem?] at hb ⊢;rw[getElem?_eq_getElem (by omega)] at hb ⊢;exact hb
       ·have hlt:=nS hback hoi' e (by simpa using he) hbind;rw[Nat.zero_add] at hlt;exact ih e.on hlt (by omega)
      rw[hr] at hm;simp at hm
     ·rfl
   exact⟨.normal,x,hend _ x hJ hall,rfl,σ,hs,hE,hn _ x hJ⟩
  induction fuel with
  | zero=>
   intro listed x σ a w hls hle hJ hs hF hE
   have hr:Region.ready .any ops listed=[]:=by
    cases hr:Region.ready .any ops listed with
    | nil=>rfl
    | cons i rs=>
     exfalso
     have hm:i∈Region.ready .any ops listed:=by rw[hr];exact List.mem_cons_self ..
     obtain⟨h1,o,h2,_⟩:=mem_ready.1 hm;have hi:i<ops.size:=(Array.getElem?_eq_some_iff.1 h2).1
     have:i∈(range ops.size).filter λi=>!listed.getD i false:=by
      refine List.mem_filter.2 ⟨List.mem_range.2 hi,?_⟩;rw[getD_eq_getD_getElem?,getElem?_eq_getElem (by omega)] at h1 ⊢;simp only[Option.getD_some] at h1 ⊢;rw[h1];rfl
     have h0:((range ops.size).filter λi=>!listed.getD i false).length=0:=by unfold left at hle;omega
     rw[List.length_eq_zero_iff.1 h0] at this;simp at this
   exact⟨hr,hdone listed x σ a w hls hJ hs hE hr⟩
  | succ fuel ih=>
   intro listed x σ a w hls hle hJ hs hF hE;refine⟨hdone listed x σ a w hls hJ hs hE,λi hi=>?_⟩;obtain⟨h1,o,h2,h3⟩:=mem_ready.1 hi;have hlt:i<ops.size:=(Array.getElem?_eq_some_iff.1 h2).1
   have hfalse:listed.getD i false=false:=by
    rw[getD_eq_getD_getElem?,getElem?_eq_getElem (by omega)] at h1 ⊢;exact h1
   have hrd:QA ol (λj=>listed.getD j false=true) i o:=⟨by rw[<-hol,getElem?_toList];exact h2,by rw[hfalse];simp,λe he hb=>h3 e (by simpa using he) hb⟩;refine hstep _ x i o hJ hrd ops hol F nn σ a w _ _ hs hF ?_;intro x' a' w' σ' hJ' hs' hE' hn';refine ih _ x' σ' a' w' (by simpa using hls) ?_ ?_ hs' (hF.mono hE'.le) (hE.trans hE')
   ·have:left (listed.setIfInBounds i true) ops.size<left listed ops.size:=by
     unfold left;refine filter_lt _ ?_ ⟨i,List.mem_range.2 hlt,by rw[hfalse];rfl,?_⟩
     ·intro y _ hy;by_cases e:i=y
      ·subst e;rw[getD_eq_getD_getElem?,Array.getElem?_setIfInBounds,if_pos rfl,if_pos (by omega)] at hy;simp at hy
      ·rw[getD_set_ne false e] at hy;exact hy
     ·rw[getD_eq_getD_getElem?,Array.getElem?_setIfInBounds,if_pos rfl,if_pos (by omega)];rfl
    omega
   ·have:(λj=>(listed.setIfInBounds i true).getD j false=true)=λj=>listed.getD j false=true\/j=i:=by
     funext j;refine propext ⟨λh=>?_,λh=>?_⟩
     ·by_cases e:i=j
      ·exact .inr e.symm
      ·rw[getD_set_ne false e] at h;exact .inl h
     ·rcases h with h | rfl
      ·exact getD_set_true h
      ·rw[getD_eq_getD_getElem?,Array.getElem?_setIfInBounds,if_pos rfl,if_pos (by omega)];rfl
    rw[this];exact hJ'
 have hrep:∀j,(replicate ops.size false).getD j false=false:=by
  intro j;rw[getD_eq_getD_getElem?,Array.getElem?_replicate];split<;>rfl
 refine key ops.size _ st σ0 a0 _ (by simp) ?_ ?_ ⟨hs0.t,hs0.h.congr rfl,hs0.ds⟩ hF0 hE2
 ·unfold left;exact Nat.le_trans (List.length_filter_le _ _) (by simp)
 ·have hS:(λj=>(replicate ops.size false).getD j false=true)=λ_=>False:=by
   funext j;rw[hrep];simp
  rw[hS];exact h0
theorem ai.any{P:Program}{ro:Option Nat}{id:Nat}{ops:Array Oper}{st:en}{Q:Ex->en->Prop}{ol:List Oper}(hol:ops.toList=ol)(hok:(lL 0 ol&&P.follows .mixedOrders)=true) (hgd:(ol.all λo=>match o.guard with
 | none=>true
 | some _=>false)=true\/∀(i:Nat) (o:Oper),ol[i]?=some o->∀(j:Nat) (b:Bool),o.guard=some (j,b)->j<i) (J:(Nat->Prop)->en->Prop) (h0:J (λ_=>False) st) (hn:∀L x,J L x->x.n=st.n)
 (hstep:∀L x i o,J L x->QA ol L i o->aM P ro (ol.take (i+1)) [o] x (J λj=>L j\/j=i)) (hend:∀L x,J L x->(∀i,i<ol.length->L i)->Q .normal x):ai P ro (.region id ops true) st Q:=by
 intro ρ0 h0' ast hs;refine kj.any hol hok (λL ast'=>∃x,J L x/\jk ρ0 h0' x ast') ⟨st,h0,hs⟩ ?_ ?_ ?_
 ·rintro L ast' ⟨x,hJ,hx⟩;rw[hx.1,hn L x hJ,hs.1]
 ·rintro L ast' i o ⟨x,hJ,hx⟩ hr;refine Qz.of hr.ik ?_ ?_
  ·intro j b hg
   rcases hgd with hgd | hgd
   ·have:=all_eq_true.1 hgd o (List.mem_of_getElem? hr.ik);rw[hg] at this;cases this
   ·exact hgd i o hr.ik j b hg
  ·have:=hstep L x i o hJ hr ρ0 h0' ast' hx;refine this.mono ?_;rintro a' ⟨x',k1,k2,k3⟩;exact⟨x',k1,k3⟩
 ·rintro L ast' ⟨x,hJ,hx⟩ hall;exact⟨x,hend L x hJ hall,hn L x hJ,hx⟩
section
variable {P:Program} {ro:Option Nat} {all l:List Oper} {f:Fm} {n:Nat} {S:List SO} {ds:List jd} {K:en->Prop}
theorem aM.fg{st st':en}(hf:Fg st st')(h:aM P ro all l st' K):aM P ro all l st K:=by
 intro ρ0 h0 ast hs;refine je.mono (h ρ0 h0 ast (hf.2 ρ0 h0 ast hs)) ?_;rintro a ⟨x,k1,k2,k3⟩;exact⟨x,k1,k2.trans hf.1,k3⟩
theorem Fg.tmps{f':Fm}(hf:∀i,aR f' i=aR f i\/aR f' i=.any):Fg ⟨f,n,S,ds⟩ ⟨f',n,S,ds⟩:=by
 refine⟨rfl,?_⟩;rintro ρ0 h0 ⟨af,n',hh,ds'⟩ ⟨rfl,rfl,θ,ρ,hR,hF⟩;refine⟨rfl,rfl,θ,ρ,hR,λi=>?_,hF.u⟩
 rcases hf i with e | e
 ·rw[e];exact hF.v i
 ·rw[e,VS];trivial
end
def BF(P:Program)(g:FuncId):Prop:=∀(w:World) (a b:Addr) (la ca lb cb:Nat) (tA tB:TypeId) (kA kB:Nat),a.block≠b.block->w.shape? a.block=some (tA,kA)->w.shape? b.block=some (tB,kB)->kB≠0->w.frozen? a=false->w.frozen? { block:=a.block,off:=kA }=false->
 (callFunc g #[.slice (some a) la ca,.slice (some b) lb cb]).run P w=.ok (.value (.bool false)) w
theorem AH{w:World}{b o:Nat}{c:Array Value}{e:TypeId}(h:w.heap[b]?=some (.cells c e (0,0))):w.frozen? { block:=b,off:=o }=false:=by
 unfold World.frozen?;simp only[h];simp
theorem Kl{P:Program}{g:FuncId}(hg:BF P g){i1 o1 n1 e1 k1 i2 o2 n2 e2 k2 f1 f2:Nat}{cs1 cs2:List AV}{h:H}(hi:i1≠i2)(h1:h.aQ.get i1=some (.cells cs1 f1))(h2:h.aQ.get i2=some (.cells cs2 f2))(hf:f1≠f2)(hk1:0<k1)(hk2:0<k2)(he:0<cs2.length):
 dT P (.func g) [.slice (some (i1,o1)) n1 e1 (some k1),.slice (some (i2,o2)) n2 e2 (some k2)] h (λa h'=>a=.bool false/\h'=h):=by
 intro σ w args' hv hr;obtain⟨v1,v2,rfl,q1,q2⟩:=La hv;obtain⟨p1,c1,t1,hp1,hb1,hz1,hl1,_⟩:=hr.cells h1;obtain⟨p2,c2,t2,hp2,hb2,hz2,hl2,_⟩:=hr.cells h2
 cases q1 with
 | @slice _ _ _ _ _ a1 p1' x1 hs1 hle1 hr1 hc1 ha1=>
 cases q2 with
 | @slice _ _ _ _ _ a2 p2' x2 hs2 hle2 hr2 hc2 ha2=>
 rw[hp1] at hs1;cases hs1;rw[hp2] at hs2;cases hs2;have hx1:=hc1 k1 rfl;subst hx1;have hx2:=hc2 k2 rfl;subst hx2;have ha1:=ha1.resolve_right (by omega);have ha2:=ha2.resolve_right (by omega);subst ha1;subst ha2
 have hne:p1.b≠p2.b:=by
  intro e
  rcases hr.sep i1 i2 _ _ p1 p2 hi h1 h2 hp1 hp2 e with⟨_,_,f,e3,e4⟩ | ⟨_,_,e3,e4⟩
  ·cases e3;cases e4;exact hf rfl
  ·cases e3
 have hrun:=hg w ⟨p1.b,p1.d+o1,none⟩ ⟨p2.b,p2.d+o2,none⟩ n1 k1 n2 k2 t1 t2 c1.size c2.size hne (by unfold World.shape?;simp only[hb1]) (by unfold World.shape?;simp only[hb2]) (by omega) (AH hb1) (AH hb1);rw[hrun];exact⟨.bool false,h,⟨rfl,rfl⟩,σ,.bool false,hr,.refl _ _ _⟩
def Og:SV->Option (Nat×Nat×Nat×Nat×Nat)
 | .buf o n e (some k)=>some (o,0,n,e,k)
 | .sub o off n e (some k)=>some (o,off,n,e,k)
 | _=>none
theorem aM.Rf{P:Program}{ro:Option Nat}{all:List Oper}{o:Oper}{l:List Oper}{f:Fm}{n:Nat}{S:List SO}{ds:List jd}{K:en->Prop}{d:Nat}{c:Call}{g:FuncId}{v1 v2:SV}{a1 b1 n1 e1 k1 a2 b2 n2 e2 k2:Nat}{cs1 cs2:List SV}(hg:BF P g)(hst:eH all n [o]=true)(hop:o.op=.call c)(hdst:o.dst=some d)(hw:da all f o.guard=some true)(hdy:kH (.call c)=true)
 (hc:gr P f c=some (g,[v1,v2])) (hv1:Og v1=some (a1,b1,n1,e1,k1)) (hv2:Og v2=some (a2,b2,n2,e2,k2)) (hS1:S[a1]?=some (.cells cs1)) (hS2:S[a2]?=some (.cells cs2)) (hne:a1≠a2) (hk1:0<k1) (hk2:0<k2) (he:0<cs2.length)
 (hk:aM P ro all l ⟨(d,.a (.bool false))::f,n,S,ds⟩ K):aM P ro all (o::l) ⟨f,n,S,ds⟩ K:=by
 rintro ρ0 h0 ⟨af,n',h,ds'⟩ ⟨rfl,rfl,θ,ρ,hR,hF⟩
 have hd:blt d n'=true:=by
  have:=(eQ hst).1;rw[hdst] at this;exact this
 obtain⟨xs,cap,h1,h2⟩:=wR hF hc;obtain⟨L1,as1,q1,q2,q3⟩:=hR.obj a1 _ hS1 (λh=>by cases h);obtain⟨L2,as2,r1,r2,r3⟩:=hR.obj a2 _ hS2 (λh=>by cases h);have sp:=hR.sep a1 a2 _ _ hne hS1 (λh=>by cases h) hS2 (λh=>by cases h)
 have hid:(θ a1).id≠(θ a2).id:=by
  rcases L1.e with e | e<;>rcases L2.e with e' | e'<;>rw[e,e']
  ·exact sp.xx
  ·exact sp.xy
  ·exact sp.yx
  ·exact sp.yy
 rw[aL] at h2;obtain⟨x1,rr,hxs,w1,h3⟩:=h2;rw[aL] at h3;obtain⟨x2,r',rfl,w2,h4⟩:=h3;rw[bg] at h4;subst h4
 have own:∀{v:SV} {a b m e k:Nat} {x:AV},Og v=some (a,b,m,e,k)->VS θ ρ v x->x=.slice (some ((θ a).id,b)) m e (some k):=by
  intro v a b m e k x hv hx;unfold Og at hv;split at hv
  ·cases hv;rw[VS] at hx;exact hx
  ·cases hv;rw[VS] at hx;exact hx
  ·cases hv
 have e1:=own hv1 w1;have e2:=own hv2 w2;subst e1;subst e2;refine .c hop hdst (cX hF (ee hst hw)) hdy hd h1 hxs (Kl hg hid q1 r1 sp.f hk1 hk2 (by rw[r2.length];exact he)) ?_;rintro v h' ⟨rfl,rfl⟩;exact hk ρ0 h0 _ ⟨rfl,rfl,θ,ρ,hR,hF.put (fQ hd) (by rw[VS])⟩
section
variable {θ θ':Nat->Loc} {ρ ρ0 ρ':jP} {P:Program} {h0:En} {h h1:H} {S S' S0:List SO}
def vK(B:Nat)(f:Fm):Bool:=f.all λp=>blt p.1 B
theorem sy{B:Nat}:∀{f:Fm},vK B f=true->∀{i:Nat},B<=i->aR f i=.any
 | [],_,i,_=>rfl
 | (d,v)::f,h,i,hi=>by
  unfold vK at h;rw[all_cons,and_eq_true] at h;have h1:=fQ h.1;show(if d=i then v else aR f i)=.any;rw[if_neg (by simp only at h1;omega)];exact sy h.2 hi
theorem DR{d:jd}{ds:List jd}{j:Nat}(h:j<ds.length):PK (d::ds) j=PK ds j:=by
 unfold PK;rw[List.reverse_cons,List.getElem?_append_left (by simpa using h)]
theorem Iw{d:jd}{ds:List jd}{f:Fn}(h:d.fn=some f):PK (d::ds) ds.length=.fn f d.args d.cap:=by
 unfold PK;rw[List.reverse_cons,List.getElem?_append_right (by simp),List.length_reverse,Nat.sub_self];simp[h]
theorem oJ(w:Nat->AV)(ds:List jd){i:Nat}(h:i<7000000):vV w ds i=w i:=by
 cases ds with
 | nil=>rfl
 | cons d ds=>rw[vV,if_neg (by omega)]
theorem FR.push{f:Fm}{af:Nat->AV}{n:Nat}{w:Nat->AV}{ds:List jd}(d:jd)(hF:FR θ ρ (aR f) af n (vV w ds))(hl:vK (7000000+ds.length) f=true):FR θ ρ (aR f) af n (vV w (d::ds)):=by
 refine⟨λi=>?_,λi hi=>by have:=hF.u i hi;rw[oJ _ _ (by omega)] at this ⊢;exact this⟩
 have key:vV w (d::ds) i=vV w ds i\/aR f i=.any:=by
  by_cases h1:i<7000000
  ·rw[oJ _ _ h1,oJ _ _ h1];exact .inl rfl
  ·by_cases h2:i-7000000<ds.length
   ·cases ds with
    | nil=>simp at h2
    | cons d' ds=>
     rw[vV,vV,if_pos (by omega),if_pos (by omega),DR h2];exact .inl rfl
   ·exact .inr (sy hl (show 7000000+ds.length<=i by omega))
 rcases key with e | e
 ·rw[e];exact hF.v i
 ·rw[e,VS];trivial
def Jt(B:Nat):Fm->Fm
 | []=>[]
 | (d,v)::f=>(d+B,v)::Jt B f
def tD(B:Nat):Fm->Fm
 | []=>[]
 | (d,v)::f=>if B<=d then (d-B,v)::tD B f else tD B f
theorem r6{B:Nat}:∀(f:Fm) (i:Nat),aR (Jt B f) i=if B<=i then aR f (i-B) else .any
 | [],i=>by split<;>rfl
 | (d,v)::f,i=>by
  show(if d+B=i then v else aR (Jt B f) i)=if B<=i then (if d=i-B then v else aR f (i-B)) else .any
  rw[r6 f i];by_cases h:B<=i
  ·rw[if_pos h,if_pos h];by_cases e:d+B=i
   ·rw[if_pos e,if_pos (by omega)]
   ·rw[if_neg e,if_neg (by omega)]
  ·rw[if_neg h,if_neg h,if_neg (by omega)]
theorem r5{B:Nat}:∀(f:Fm) (i:Nat),aR (tD B f) i=aR f (B+i)
 | [],i=>rfl
 | (d,v)::f,i=>by
  show aR (if B<=d then (d-B,v)::tD B f else tD B f) i=if d=B+i then v else aR f (B+i)
  by_cases h:B<=d
  ·rw[if_pos h];show(if d-B=i then v else aR (tD B f) i)=_;rw[r5 f i];by_cases e:d=B+i
   ·rw[if_pos e,if_pos (by omega)]
   ·rw[if_neg e,if_neg (by omega)]
  ·rw[if_neg h,r5 f i,if_neg (by omega)]
theorem BS{B:Nat}{f g:Fm}(hl:vK B f=true){i:Nat}(hi:B<=i):aR (f++g) i=aR g i:=
 r4 f g i λv hm=>by
  unfold vK at hl;rw[all_eq_true] at hl;have:=fQ (hl _ hm);simp only at this;omega
theorem BR{f g:Fm}{i:Nat}(hg:aR g i=.any):aR (f++g) i=aR f i:=by
 induction f with
 | nil=>exact hg
 | cons p f ih=>
  obtain⟨d,v⟩:=p
  show(if d=i then v else aR (f++g) i)=if d=i then v else aR f i
  rw[ih]
def Cj:List Tmp->List SV->Fm->Fm
 | k::ks,v::vs,f=>Cj ks vs ((k,v)::f)
 | _,_,f=>f
theorem I2{n:Nat}:∀{ks:List Tmp} {vs:List SV} {f:Fm},ks.all (λk=>blt k n)=true->∀{i:Nat},n<=i->aR (Cj ks vs f) i=aR f i
 | [],_,_,_,_,_=>by rw[Cj];intros;contradiction
 | k::ks,[],_,_,_,_=>by rw[Cj];intros;contradiction
 | k::ks,v::vs,f,h,i,hi=>by
  rw[all_cons,and_eq_true] at h;have:=fQ h.1;rw[Cj,I2 h.2 hi];show(if k=i then v else aR f i)=_;rw[if_neg (λe:k=i=>absurd (e▸this:i<n) (Nat.not_lt.2 hi))]
theorem s7{n:Nat}:∀{ks:List Tmp} {vs:List SV} {aS:List AV} {f:Fm} {t:Tr AV},ks.length=vs.length->c8 θ ρ vs aS->ks.all (λk=>blt k n)=true->(∀i,i<n->VS θ ρ (aR f i) (KB t i))->
 ∃t1,ja (ks.zip aS) n t=some t1/\∀i,i<n->VS θ ρ (aR (Cj ks vs f) i) (KB t1 i)
 | [],[],aS,f,t,_,hv,_,hf=>by
  rw[bg] at hv;subst hv;exact⟨t,rfl,hf⟩
 | k::ks,v::vs,aS,f,t,hl,hv,hk,hf=>by
  rw[aL] at hv;obtain⟨a,r,rfl,h1,h2⟩:=hv;rw[all_cons,and_eq_true] at hk
  have ih:=s7 (f:=(k,v)::f) (t:=t.put k (some a)) (by simpa using hl) h2 hk.2 (by
   intro i hi;show VS θ ρ (if k=i then v else aR f i) (KB _ i);unfold KB;rw[dw];by_cases e:i=k
   ·subst e;rw[if_pos rfl,if_pos rfl];exact h1
   ·rw[if_neg (λh=>e h.symm),if_neg e];exact hf i hi)
  obtain⟨t1,g1,g2⟩:=ih;refine⟨t1,?_,g2⟩;rw[List.zip_cons_cons,ja,hk.1,ah];exact g1
theorem RS.wm{o:Nat}{c:fP}{ls:LoopState}{p:Option Code}{f:Fm}(hR:RS θ ρ0 ρ h0 h S)(hS:S[o]?=some (.loop c ls p f)):
 h.oi c.id=some (ls,p,c.t,c.n,c.ps,c.a,c.b,c.d)/\(∀i,i<c.n->VS θ ρ (aR f i) (KB c.t i))/\∀ls2 p2,RS θ ρ0 ρ h0 (h.set c.id (.loop ls2 p2 c.t c.n c.ps c.a c.b c.d)) (S.set o (.loop c ls2 p2 f)):=by
 obtain⟨hL,hid,h1,h2⟩:=hR.obj o _ hS (λh=>by cases h);refine⟨by unfold H.oi;rw[<-hid,h1],h2,λls2 p2=>?_⟩
 have hidr:¬h0.pr c.id:=by
  rw[<-hid]
  rcases hL.e with e | e<;>rw[e]
  ·exact hL.x.1
  ·exact hL.y.1
 have hidn:c.id<h.next:=by
  rw[<-hid]
  rcases hL.e with e | e<;>rw[e]
  ·exact hL.x.2
  ·exact hL.y.2
 have hg:∀v x,VS θ ρ v x->VS (gj θ o (θ o)) ρ v x:=λv x hv=>hv.ids λp=>by
  by_cases hp:p=o
  ·subst hp;rw[cz]
  ·rw[bY _ _ hp]
 have heq:gj θ o (θ o)=θ:=by
  funext p;by_cases hp:p=o
  ·subst hp;rw[cz]
  ·rw[bY _ _ hp]
 have get:∀j,j≠c.id->(h.set c.id (.loop ls2 p2 c.t c.n c.ps c.a c.b c.d)).aQ.get j=h.aQ.get j:=λj hj=>bj _ _ hj
 have:=hR.yU (h':=h.set c.id (.loop ls2 p2 c.t c.n c.ps c.a c.b c.d)) (S':=S.set o (.loop c ls2 p2 f)) (o:=o) (so':=.loop c ls2 p2 f) (L':=θ o) (g:=λv=>v) (Nat.le_refl _) (λj hj=>get j (λe=>hidr (e▸hj))) (λ_ _=>rfl)
  (mL hR.lw (hR.ok.lo _ hidr)) (Nat.le_trans (dM _ _).1 hR.ln) hL hg
  (λp so hp h3 h4=>by
   have sp:=hR.sep p o so _ hp h3 h4 hS (λh=>by cases h);obtain⟨k,_⟩:=hR.obj p so h3 h4;refine⟨get _ ?_,rfl,sp⟩;rw[<-hid]
   rcases k.e with e1 | e1<;>rcases hL.e with e2 | e2<;>rw[e1,e2]
   ·exact sp.xx
   ·exact sp.xy
   ·exact sp.yx
   ·exact sp.yy)
  (λid ob hi=>by
   obtain⟨r1,r2,r3⟩:=hR.row id ob hi;have:=r3 o _ hS (λh=>by cases h);refine⟨get _ ?_,this⟩;rw[<-hid]
   rcases hL.e with e | e<;>rw[e]
   ·exact this.1
   ·exact this.2)
  (by
   rw[heq];refine⟨hid,?_,h2⟩;rw[hid]
   exact cR _ _ _)
  (λp hp=>by
   rw[List.getElem?_set_ne (λh=>hp h.symm)]
   cases S[p]? with
   | none=>rfl
   | some s=>rw[Option.map_some];exact congrArg some (sz s).symm)
  (by rw[List.getElem?_set_self (bl hS)])
 rw[heq] at this;exact this
end
section
variable {θ θ':Nat->Loc} {ρ ρ0 ρ':jP} {P:Program} {h0:En} {h h1:H} {S S' S0:List SO}
abbrev laid:Nat:=20000000
theorem aM.y{ro:Option Nat}{all:List Oper}{o:Oper}{l:List Oper}{K:en->Prop}{f f1:Fm}{n d oo:Nat}{ds:List jd}{cl:Call}{x:Operand}{vs:List SV}{c:fP}{pend:Option Code}(hst:eH all n [o]=true)(hop:o.op=.call cl)(hdst:o.dst=some d)(hw:da all f o.guard=some true)(hdy:kH (.call cl)=true)
 (hcal:cl.callee=.value x) (hx:eY f x=some (.a (.fn (.yield c.id) [] []))) (hargs:ma f cl.args.toList=some vs) (hS:S[oo]?=some (.loop c .ready pend f1)) (hps:c.ps.toList.length=vs.length) (hlow:vK c.n f1=true) (hn1:c.n<=1000000) (hpar:c.ps.toList.all (λk=>blt k c.n)=true)
 (hbody:∀ro',ai P ro' c.a ⟨Cj c.ps.toList vs (f1++Jt laid f),c.n,S,[]⟩ λex st=>ex=.normal/\∃oo2 pend2 f2,st.S[oo2]?=some (.loop c .ready pend2 f2)/\
  ai P ro' c.b ⟨st.f,c.n,st.S.set oo2 (.loop c .busy pend2 f2),st.ds⟩ λex st=>st.ds=[]/\∃oo3 ls p3 f3,st.S[oo3]?=some (.loop c ls p3 f3)/\
   aM P ro all l ⟨(d,.a (.bool (tT ex)))::tD laid st.f,n,st.S.set oo3 (.loop c (tU ex) (tS ex) f3),ds⟩ K):aM P ro all (o::l) ⟨f,n,S,ds⟩ K:=by
 rintro ρ0 h0 ⟨af,n',h,ds'⟩ ⟨rfl,rfl,θ,ρ,hR,hF⟩
 have hd:blt d n'=true:=by
  have:=(eQ hst).1;rw[hdst] at this;exact this
 obtain⟨a,ha,ka⟩:=bL hF hx;rw[VS] at ka;subst ka;obtain⟨aS,hs,ks⟩:=kq hF hargs
 have hcall:nX P (dL af n') cl=some (.yield c.id,aS,[]):=by
  unfold nX;rw[hcal];simp only;rw[show ev (dL af n') x=_ from ha];simp only;rw[show tF (dL af n') cl.args.toList=_ from hs];rfl
 obtain⟨hlo,hfr,_⟩:=hR.wm hS
 obtain⟨t1,hp1,hp2⟩:=s7 (n:=c.n) (f:=f1++Jt laid f) hps ks hpar (λi hi=>by
  rw[BR (by rw[r6,if_neg (by unfold laid;omega)])];exact hfr i hi)
 obtain⟨w',hw'⟩:∃w':Nat->AV,w'=λi=>if laid<=i then (if i-laid<n' then af (i-laid) else vV h0.w ds' (i-laid)) else kh:=⟨_,rfl⟩
 have hst1:jk ρ0 { h0 with w:=w' } ⟨Cj c.ps.toList vs (f1++Jt laid f),c.n,S,[]⟩ ⟨KB t1,c.n,h,[]⟩:=by
  refine⟨rfl,rfl,θ,ρ,hR.w _,λi=>?_,λi hi=>?_⟩
  ·simp only;by_cases hi:i<c.n
   ·rw[if_pos hi];exact hp2 i hi
   ·have hge:c.n<=i:=Nat.le_of_not_lt hi;rw[if_neg hi,I2 hpar hge,BS hlow hge,r6];show VS θ ρ _ (w' i);by_cases hb:laid<=i
    ·rw[if_pos hb,hw'];simp only;rw[if_pos hb];exact hF.v (i-laid)
    ·rw[if_neg hb,VS];trivial
  ·show w' i=kh;rw[hw'];simp only;rw[if_neg (by unfold laid;omega)]
 have hlen:=ks.length;refine je.c hop hdst (cX hF (ee hst hw)) hdy hd hcall (List.append_nil _) (Q:=λv h'=>∃(bb:Bool) (f':Fm) (S':List SO),v=.bool bb/\aM P ro all l ⟨(d,.a (.bool bb))::f',n',S',ds'⟩ K/\∃θ' ρ',RS θ' ρ0 ρ' h0 h' S'/\FR θ' ρ' (aR f') af n' (vV h0.w ds')) ?_ ?_
 ·refine dT.yield hlo (by rw[hps,hlen]) hp1 (f1:=KB t1) (λ_ _=>rfl) ?_;refine(hbody (some c.id) ρ0 _ _ hst1).mono ?_;rintro ex ⟨af2,n2,h2,ds2⟩ ⟨st,⟨rfl,oo2,pend2,f2,hS2,hb⟩,hn2,e1,e2,θ2,ρ2,hR2,hF2⟩;simp only at e1 e2 hR2 hF2 hn2;obtain⟨hlo2,_,hset2⟩:=hR2.wm hS2;refine⟨rfl,pend2,c.t,c.n,c.ps,c.a,c.b,c.d,hlo2,?_⟩;have hn3:n2=c.n:=e1.trans hn2;subst hn3;have hb2:=hb ρ0 { h0 with w:=w' } ⟨af2,c.n,h2.set c.id (.loop .busy pend2 c.t c.n c.ps c.a c.b c.d),ds2⟩ ⟨rfl,e2,θ2,ρ2,hset2 _ _,by rw[<-e1] at hF2;exact hF2⟩;refine hb2.mono ?_;rintro ex3 ⟨af3,n3,h3,ds3⟩ ⟨st3,⟨hds3,oo3,ls,p3,f3,hS3,hK⟩,hn3,e3,e4,θ3,ρ3,hR3,hF3⟩;simp only at e3 e4 hR3 hF3 hn3;rw[hds3] at e4;subst e4;obtain⟨hlo3,_,hset3⟩:=hR3.wm hS3;refine⟨rfl,ls,p3,c.t,c.n,c.ps,c.a,c.b,c.d,hlo3,tT ex3,tD laid st3.f,_,rfl,hK,θ3,ρ3,(hset3 _ _).w h0.w,λi=>?_,hF.u⟩;rw[r5];have:=hF3.v (laid+i);rw[if_neg (by rw[hn3];unfold laid;omega)] at this
  have e5:vV w' [] (laid+i)=if i<n' then af i else vV h0.w ds' i:=by
   show w' (laid+i)=_;rw[hw'];simp only;rw[if_pos (by omega),Nat.add_sub_cancel_left]
  rw[e5] at this;exact this
 ·rintro v h' ⟨bb,f',S',rfl,hK,θ',ρ',hR',hF'⟩;exact hK ρ0 h0 _ ⟨rfl,rfl,θ',ρ',hR',hF'.put (fQ hd) (by rw[VS])⟩
theorem RS.L9{so:SO}{ob:AO}(hR:RS θ ρ0 ρ h0 h S)(hob:mu (gj θ S.length ⟨h.next,h.next,h.next,h.next⟩) ρ { h with aQ:=h.aQ.put h.next (some ob),next:=h.next+1 } ⟨h.next,h.next,h.next,h.next⟩ (bP S.length so)):
 RS (gj θ S.length ⟨h.next,h.next,h.next,h.next⟩) ρ0 ρ h0 { h with aQ:=h.aQ.put h.next (some ob),next:=h.next+1 } (gi S so):=by
 have hpr:∀j,h0.pr j->j<h.next:=λj hj=>Nat.lt_of_lt_of_le (hR.ok.pr j hj) hR.nx;have hpf:∀j,h0.pf j->j<h.next:=λj hj=>Nat.lt_of_lt_of_le (hR.ok.pf j hj) hR.nx;have hobj:∀j,j<h.next->(h.aQ.put h.next (some ob)).get j=h.aQ.get j:=λj hj=>bj _ _ (by omega);refine hR.yU (g:=bf S.length) (so':=bP S.length so) (by show h.next<=h.next+1;omega) (λj hj=>hobj j (hpr j hj)) (λ_ _=>rfl) hR.lw (Nat.le_succ_of_le hR.ln) ⟨.inl rfl,⟨λhj=>lt_irrefl _ (hpr _ hj),Nat.lt_succ_self _⟩,⟨λhj=>lt_irrefl _ (hpr _ hj),Nat.lt_succ_self _⟩,⟨λhj=>lt_irrefl _ (hpf _ hj),Nat.lt_succ_self _⟩⟩ (λv x hv=>iD (λp hp=>bY _ _ hp) hv) ?_ ?_ hob ?_ ?_
 ·intro p s hp hs hsg;obtain⟨⟨k1,k2,k3,k4⟩,_⟩:=hR.obj p s hs hsg;refine⟨hobj _ (by rcases k1 with e | e<;>omega),rfl,⟨?_,?_,?_,?_,?_⟩⟩<;>(simp only;omega)
 ·intro id ob' hi;have:=(hR.row id ob' hi).1;exact⟨hobj id this,by simp only;omega,by simp only;omega⟩
 ·intro p hp;unfold gi
  have hl:(dq S.length S).length=S.length:=by unfold dq;rw[List.length_map]
  rw[List.getElem?_append];split
  ·exact qh _ _ _
  ·rename_i hlt;rw[hl] at hlt ⊢;have:S[p]?=none:=List.getElem?_eq_none (by omega);rw[this,List.getElem?_eq_none (by simp;omega)];rfl
 ·unfold gi
  have hl:(dq S.length S).length=S.length:=by unfold dq;rw[List.length_map]
  rw[List.getElem?_append_right (by omega),hl,Nat.sub_self];rfl
def PV(P:Program)(g:FuncId)(vs:List SV)(S:List SO)(K:List SO->Prop):Prop:=∃(os:List Nat) (ws:List SV) (S0:List SO) (mv:List Nat) (Q:SV->List SO->Prop),SC P g ws S0 mv Q/\jM (jg os S.length) ws=vs/\os.length=S0.length/\os.Nodup/\
 (∀(i:Nat) so,S0[i]?=some so->∃o,os[i]?=some o/\S[o]?=some (nO (jg os S.length) so))/\∀r S',Q r S'->tK S'.length S'=true/\K (fb S os mv S')
theorem L8(S:List SO)(so:SO):(gi S so).length=S.length+1:=by unfold gi dq;simp
theorem GU(o:Nat)(v:SV):bf o (bf o v)=bf o v:=by
 unfold bf;cases h:names o v
 ·simp[h]
 ·simp[names]
theorem ai.sO(hng:rK P){g:Operand}{ps:Array Tmp}{assign body:Code}{f f1:Fm}{n:Nat}{ds:List jd}{Q:Ex->en->Prop}{fid:FuncId}{fn':Func}{first cap:List SV}(hg:eY f g=some (.fn fid first cap))(hfn:P.funcs[fid]?=some fn')(hb:fn'.body.isSome=true)
 (hf1:qC (dz (S.length+1) (dz S.length f)) f1)
 (hk:∀(N:Nat) (c:fP),c.id=N+1->c.n=n->c.ps=ps->c.a=assign->c.b=body->PV P fid ((first++[SV.a (.fn (.yield (N+1)) [] [])]++cap).map λv=>bf (S.length+1) (bf S.length v)) (gi (gi S (.ni N)) (.loop c .ready none f1)) λS2=>∃oo ls p f2,S2[oo]?=some (.loop c ls p f2)/\ls≠.busy/\vK n f2=true/\
  match p with
  | none=>Q .normal ⟨f2,n,S2.set oo .gone,{ fn:=none,Db:=N,args:=[],cap:=[] }::ds⟩
  | some cd=>ai P none cd ⟨f2,n,S2.set oo .gone,{ fn:=none,Db:=N,args:=[],cap:=[] }::ds⟩ Q):ai P none (.rangeFunc g ps assign body) ⟨f,n,S,ds⟩ Q:=by
 rintro ρ0 h0 ⟨af,n',⟨O,F,N,lw⟩,ds'⟩ ⟨rfl,rfl,θ,ρ,hR,hF⟩;obtain⟨gv,hgv,kgv⟩:=bL hF hg;rw[VS] at kgv;obtain⟨xs,ys,rfl,kx,ky⟩:=kgv;simp only at hR hF;obtain⟨c,hc⟩:∃c:fP,c=⟨N+1,dL af n',n',ps,assign,body,N⟩:=⟨_,rfl⟩;have hkc:=hk N c (by rw[hc]) (by rw[hc]) (by rw[hc]) (by rw[hc]) (by rw[hc]);obtain⟨os,ws,S0,mv,Qc,hsc,hws,hKl,hnd,hos,hpost⟩:=hkc;have hR1:=hR.L9 (so:=.ni N) (ob:=.ni false) ⟨rfl,cR _ _ _⟩;simp only at hR1;have hl1:(gi S (SO.ni N)).length=S.length+1:=L8 _ _
 have hR2:=hR1.L9 (so:=.loop c .ready none f1) (ob:=.loop .ready none (dL af n') n' ps assign body N) (by
  refine⟨by rw[hc],?_,?_⟩
  ·simp only;rw[cR,hc]
  ·intro i hi
   have hn:c.n=n':=by rw[hc]
   rw[hn] at hi
   have e1:KB c.t i=af i:=by
    rw[hc];unfold KB;simp only;rw[mh _ _ _ hi];rfl
   rw[e1,lG,hl1];have hv:=hF.v i;rw[if_pos hi] at hv;have h2:VS (gj θ S.length ⟨N,N,N,N⟩) ρ (bf S.length (aR f i)) (af i):=iD (λp hp=>bY _ _ hp) hv;have h3:VS (gj (gj θ S.length ⟨N,N,N,N⟩) (S.length+1) ⟨N+1,N+1,N+1,N+1⟩) ρ (bf (S.length+1) (bf S.length (aR f i))) (af i):=iD (λp hp=>bY _ _ hp) h2
   rcases hf1.get i with e | e
   ·rw[e,lG,lG];rw[GU];exact h3
   ·rw[e]
    have:bf (S.length+1) SV.any=.any:=by unfold bf;simp[names]
    rw[this,VS];trivial)
 rw[hl1] at hR2;obtain⟨SN,hSN⟩:∃SN,SN=gi (gi S (.ni N)) (.loop c .ready none f1):=⟨_,rfl⟩;rw[<-hSN] at hR2 hws hos hpost
 have hos2:∀o∈os,o<SN.length:=by
  intro o ho;obtain⟨i,hi1,hi2⟩:=List.getElem_of_mem ho
  have:i<S0.length:=by omega
  obtain⟨o',e1,e2⟩:=hos i _ (List.getElem?_eq_getElem this);rw[List.getElem?_eq_getElem hi1] at e1;cases e1;rw[<-hi2];exact bl e2
 have hr:∀(i:Nat) so,S0[i]?=some so->SN[jg os SN.length i]?=some (nO (jg os SN.length) so):=by
  intro i so e;obtain⟨o,e1,e2⟩:=hos i so e;rw[lZ e1];exact e2
 have hargs:c8 (gj (gj θ S.length ⟨N,N,N,N⟩) (S.length+1) ⟨N+1,N+1,N+1,N+1⟩) ρ ((first++[SV.a (.fn (.yield (N+1)) [] [])]++cap).map λv=>bf (S.length+1) (bf S.length v)) (xs++[.fn (.yield (N+1)) [] []]++ys):=by
  have h1:c8 θ ρ (first++[SV.a (.fn (.yield (N+1)) [] [])]++cap) (xs++[.fn (.yield (N+1)) [] []]++ys):=(kx.app (by rw[aL];exact⟨_,_,rfl,by rw[VS],by rw[bg]⟩)).app ky;exact h1.map λv x hv=>iD (λp hp=>bY _ _ hp) (iD (θ':=gj θ S.length ⟨N,N,N,N⟩) (λp hp=>bY _ _ hp) hv)
 rw[<-hws] at hargs;refine kj.sO hng hgv hfn hb (Q1:=λlp v h'=>∃r S' θ' ρ' h1,Qc r S'/\h'={ h1 with low:=gh lw h1.low }/\RS θ' ρ ρ' (Lr (λp=>(gj (gj θ S.length ⟨N,N,N,N⟩) (S.length+1) ⟨N+1,N+1,N+1,N+1⟩) (jg os SN.length p)) h0 ⟨(O.put N (some (.ni false))).put (N+1) (some lp),F,N+2,lw⟩ S0) h1 S'/\VS θ' ρ' r v/\S0.length<=S'.length/\∀i,i<S0.length->i∉mv->(θ' i).id=((gj (gj θ S.length ⟨N,N,N,N⟩) (S.length+1) ⟨N+1,N+1,N+1,N+1⟩) (jg os SN.length i)).id) ?_ ?_
 ·rintro lp rfl;exact hsc _ _ ρ _ _ rfl (hR2.enter hr (λi j=>Cp hnd hos2)) ((c8.rn _).1 hargs)
 ·rintro lp v h' rfl ⟨r,S',θ',ρ',h1,k1,rfl,k3,k4,k5,k6⟩;obtain⟨b2,hq⟩:=hpost r S' k1;obtain⟨j1,_,_⟩:=LU (low:=gh lw h1.low) hR2 hr hKl hnd hos2 k3 k5 k6 b2 rfl;obtain⟨oo,ls,p,f2,hS2,hls,hlow2,hQ⟩:=hq;obtain⟨hlo,hfr,hset⟩:=j1.wm hS2
  have hcid:c.id=N+1:=by rw[hc]
  rw[hcid] at hlo hset
  have hstn:∀p2,jk ρ0 h0 ⟨f2,n',(fb SN os mv S').set oo .gone,{ fn:=none,Db:=N,args:=[],cap:=[] }::ds'⟩ ⟨af,n',H.set { h1 with low:=gh lw h1.low } (N+1) (.loop .exhausted p2 c.t c.n c.ps c.a c.b c.d),{ fn:=none,Db:=N,args:=[],cap:=[] }::ds'⟩:=by
   intro p2;refine⟨rfl,rfl,_,_,(hset .exhausted p2).sub ?_,λi=>?_,λi hi=>by rw[oJ _ _ (by omega)];have:=hF.u i hi;rw[oJ _ _ (by omega)] at this;exact this⟩
   ·intro o so e1 e2;by_cases e:o=oo
    ·subst e;rw[List.getElem?_set_self (bl hS2)] at e1;cases e1;exact absurd rfl e2
    ·rw[List.getElem?_set_ne (λh=>e h.symm)] at e1 ⊢;exact e1
   ·by_cases hi:i<n'
    ·rw[if_pos hi]
     have hn:c.n=n':=by rw[hc]
     have:=hfr i (by rw[hn];exact hi)
     have e1:KB c.t i=af i:=by
      rw[hc];unfold KB;simp only;rw[mh _ _ _ hi];rfl
     rw[e1] at this;exact this
    ·rw[sy hlow2 (Nat.le_of_not_lt hi),VS];trivial
  refine⟨ls,p,c.t,c.n,c.ps,c.a,c.b,c.d,hlo,hls,?_⟩
  cases p with
  | none=>exact⟨_,hQ,rfl,hstn none⟩
  | some cd=>exact hQ ρ0 h0 _ (hstn (some cd))
end
def Dg(P:Program):List jd->H->(H->Prop)->Prop
 | [],h,K=>K h
 | d::ds,h,K=>match d.fn with
  | none=>h.aQ.get d.Db=some (.ni false)/\Dg P ds (h.set d.Db (.ni true)) K
  | some (.func g)=>∃fn c m,P.funcs[g]?=some fn/\fn.body=some c/\(d.args++d.cap).length+(fn.ntmps-(d.args++d.cap).length)=m/\
   kj P none c ⟨qD (d.args++d.cap),m,h,[]⟩ (λe st=>jU e=true/\st.ds=[]/\(∃v,sQ P (dL st.f st.n) st.h fn.results.toList=some v)/\Dg P ds st.h K)
  | _=>False
theorem uj{P:Program}(hng:rK P){n:Nat}{fn:Func}{a:Act}{t:Tr AV}{N:Nat}{R:Ending->World->Prop}{σ0:Sg}{h0:H}{w0:World}{K:H->Prop}:∀(ds:List jd) (h:H),Dg P ds h K->
 ∀(ds':List Deferred) (σ:Sg) (w:World),OC σ ds ds'->HR σ h w->TR σ t N a.tmps->Ext σ0 σ h0 h w0 w->
 (∀h' σ' w',K h'->HR σ' h' w'->TR σ' t N a.tmps->Ext σ0 σ' h0 h' w0 w'->∃v,(results fn a.tmps).run P w'=.ok v w'/\R (.returned v) w')->
 LeavesInM Fence.wide n P fn a.tmps R ds' .returning w
 | [],h,ho,ds',σ,w,hd,hr,ht,hE,hR=>by
  cases ds' with
  | cons d ds=>exact hd.elim
  | nil=>exact hR h σ w ho hr ht hE
 | d::ds,h,ho,ds',σ,w,hd,hr,ht,hE,hR=>by
  cases ds' with
  | nil=>exact hd.elim
  | cons d' ds'=>
   obtain⟨hd1,hd2⟩:=hd;rw[Dg] at ho;unfold PI at hd1
   cases hdf:d.fn with
   | none=>
    rw[hdf] at hd1 ho;simp only at hd1 ho;obtain⟨q,hq,rfl⟩:=hd1;obtain⟨hob,ho⟩:=ho;obtain⟨q',hq',hor⟩:=hr.obj _ _ hob;rw[hq] at hq';cases hq';have hor:w.heap[q.b]?=some (.deferred (some [])):=hor;obtain⟨s1,s2⟩:=hr.jD (o':=.ni true) (ob:=.deferred none) hob rfl rfl hq rfl;refine⟨by simp,.inl ⟨q.b,_,rfl,?_,uj hng ds _ ho ds' σ _ hd2 s1 ht (hE.trans s2) hR⟩⟩;simp only[Instr.takeDeferred,Sem.run_bind,cm hor (by simp),Result.andThen_ok,dY hor (by simp),Sem.run_pure]
   | some f=>
    rw[hdf] at hd1 ho;simp only at hd1;obtain⟨g,cap',rfl,htar,hargs,hcap⟩:=hd1;simp only at ho;obtain⟨fn',c,m,hfn,hbody,hm,hwp⟩:=ho
    have hall':VL σ (d.args++d.cap) (d'.args++cap').toList:=by
     simp only[Array.toList_append];exact hargs.append hcap
    have hcall:=ff hng hfn (by rw[hbody];rfl) (d'.args++cap') w;refine⟨by simp,.inr ⟨λh=>by simp[Fence.wide] at h,.func g,cap',g,d'.args++cap',htar,?_,λ_ _=>trivial,?_⟩⟩
    ·rw[htar];simpa only[invoke] using hcall
    ·subst hm;have hw:=hwp Fence.wide (n-1) σ { tmps:=(d'.args++cap')++replicate (fn'.ntmps-(d'.args++cap').size) undef,defers:=[] } w ⟨Ii hall' _,hr,trivial⟩ rfl;have hD:=callsDIn_of_wp (F:=Fence.wide) (n:=n-1) (u:=.returning) (R:=λe w'=>∃v h' σ',e=.returned v/\Dg P ds h' K/\HR σ' h' w'/\Ext σ σ' h h' w w') hfn hbody trivial (wpIn_mono hw ?_)
     ·refine⟨hD.1,λcc cs hm hroom=>?_⟩;obtain⟨e,u',w',fr,⟨rfl,v,h',σ',rfl,q1,hh',hext⟩,hrest⟩:=hD.2 cc cs hm hroom;refine⟨.returned v,_,w',fr,?_,hrest⟩;have hset:settle .returning=.returning:=rfl;simp only[hset];exact uj hng ds h' q1 ds' σ' w' (hd2.mono hext.le) hh' (ht.mono hext.le) (hE.trans hext) hR
     ·rintro e a' w' ⟨ex,st',⟨hend,hds,⟨rr,hres⟩,h1⟩,hex,σ',hs',hE',hn'⟩
      have hde:a'.defers=[]:=by
       have:=hs'.ds;rw[hds] at this
       cases had:a'.defers with
       | nil=>rfl
       | cons x y=>rw[had] at this;exact this.elim
      obtain⟨v,k1,k2⟩:=sR hs'.sr.t hs'.h hres
      have:bodyPost P fn' (λe w'=>∃v h' σ',e=.returned v/\Dg P ds h' K/\HR σ' h' w'/\Ext σ σ' h h' w w') e a' w':=by
       rcases rT hend with rfl | rfl
       ·have:e=.normal:=hex;subst this;exact⟨hde,v,k1,v,st'.h,σ',rfl,h1,hs'.h,hE'⟩
       ·have:e=.ret:=hex;subst this;exact⟨hde,v,k1,v,st'.h,σ',rfl,h1,hs'.h,hE'⟩
      exact this
theorem dT.qM{P:Program}(hng:rK P){g:FuncId}{fn:Func}{c:Code}{args:List AV}{h:H}{Q:AV->H->Prop}(hf:P.funcs[g]?=some fn)(hb:fn.body=some c){n:Nat}(hn:args.length+(fn.ntmps-args.length)=n)
 (hw:kj P none c ⟨qD args,n,{ h with low:=h.next },[]⟩ λe st=>jU e=true/\Dg P st.ds st.h λh''=>∃v,sQ P (dL st.f st.n) h'' fn.results.toList=some v/\Q v { h'' with low:=gh h.low h''.low }):dT P (.func g) args h Q:=by
 intro σ w args' hv hr;rw[ff hng hf (by rw[hb];rfl)];have hr1:HR σ { h with low:=h.next } w:=⟨hr.obj,hr.fresh,hr.sep,hr.bZ,Nat.le_refl _⟩;subst hn;have hw:=hw Fence.wide 0 σ { tmps:=args'++replicate (fn.ntmps-args'.size) undef,defers:=[] } w ⟨Ii hv _,hr1,trivial⟩ rfl;refine callsIn_wide.1 (callsIn_of_wp_marks (F:=Fence.wide) (n:=0) hf hb trivial (wpIn_mono hw ?_));rintro e a' w' ⟨exx,st',⟨hend,hl⟩,hexx,σ',hs',hE',hn'⟩
 have key:LeavesInM Fence.wide 0 P fn a'.tmps (λe w''=>∃v,e=.returned v/\De σ h w Q v w'') a'.defers .returning w':=by
  refine uj hng st'.ds st'.h hl a'.defers σ' w' hs'.ds hs'.h hs'.sr.t hE' ?_;rintro h'' σ'' w'' ⟨v,hres,hQ⟩ hh'' ht'' hE'';obtain⟨x,k1,k2⟩:=sR ht'' hh'' hres;have:=lower hr hh'' hE'';exact⟨x,k1,x,rfl,v,_,hQ,σ'',k2,this.1,this.2⟩
 rcases rT hend with rfl | rfl
 ·have:e=.normal:=hexx;subst this;exact key
 ·have:e=.ret:=hexx;subst this;exact key
end
end Go.Ev
