/- Lemmas of this claim, each with its conditions. -/
import Derived.Test.YtchdmmkclcnmnaaGreatA15
import Derived.Lib.Overlaps
set_option linter.all false
open Nat (blt)
open List (all_eq_true range)
open Array renaming getD_eq_getD_getElem? -> aa, getElem?_eq_getElem -> ac, getElem?_setIfInBounds -> ad, getElem?_toList -> aj, replicate -> ay
open Bool renaming and_eq_true -> ag
open List renaming getElem?_eq_getElem -> al, getElem?_eq_none -> ap, getElem?_append_right -> ax, getElem?_set_self -> a4, getElem?_toArray -> a5, getElem?_set_ne -> a6, toList_toArray -> a7, getElem?_take -> ba, all_cons -> bc, reverse_cons -> bd, length_map -> bh
open Nat renaming lt_succ_self -> a3, lt_of_lt_of_le -> a8, lt_irrefl -> a9, le_of_not_lt -> be, le_trans -> bi, sub_self -> bk
namespace Go.Ev
open Go.RowKit
noncomputable section
def Q7(K:Act->World->Prop)(Q:Exit->Act->World->Prop):Exit->Act->World->Prop
 | .normal,a,w=>K a w
 | e,a,w=>Q e a w
def JZ{F:Fence}{n:Nat}{P:Program}{o:Oper}{a:Act}{next K:Act->World->Prop}{Q:Exit->Act->World->Prop}(r:Result Next):o.uponIn F n P a next (Q7 K Q) r=o.uponIn F n P a next Q r:=by
 unfold Oper.uponIn;split<;>rfl
def To(P:Program)(ro:Option Nat)(ol:List Oper)(i:Nat)(st:gq)(K:gq->Prop):Prop:=∀(ops:Array Oper),ops.toList=ol->∀(F:Fence) (n:Nat) (σ:Sg) (a:Act) (w:World) (K':Act->World->Prop) (Q:Exit->Act->World->Prop),
 SF σ st a w->C2 σ ro F->(∀st' a' w' σ',K st'->SF σ' st' a' w'->Ext σ σ' st.h st'.h w w'->st'.n=st.n->K' a' w')->wpOpIn F n P ops Q i K' a w
def To.of{P:Program}{ro:Option Nat}{ol:List Oper}{i:Nat}{o:Oper}{st:gq}{K:gq->Prop}(ho:ol[i]?=some o)(hg:∀j b,o.guard=some (j,b)->j<i)(h:iN P ro (ol.take (i+1)) [o] st K):To P ro ol i st K:=by
 intro ops hops F n σ a w K' Q hs hF hk
 have hlt:i<ol.length:=by
  rcases Nat.lt_or_ge i ol.length with h | h
  ·exact h
  ·rw[ap h] at ho;cases ho
 have hdrop:((ol.take (i+1)).toArray.toList).drop i=[o]:=by
  rw[a7,List.drop_take,show i+1-i=1 by omega]
  have:ol.drop i=o::ol.drop (i+1):=by
   rw[List.drop_eq_getElem_cons hlt];rw[al hlt] at ho;cases ho;rfl
  rw[this];rfl
 have:=h (ol.take (i+1)).toArray i (a7) hdrop F n σ a w (Q7 K' Q) hs hF λst' a' w' σ' h1 h2 h3 h4=>hk st' a' w' σ' h1 h2 h3 h4;rw[show List.range' i [o].length=[i] from rfl,wpOpsIn_cons] at this;unfold wpOpIn at this ⊢
 have ho1:(ol.take (i+1)).toArray[i]?=some o:=by
  rw[a5,ba,ul (by omega)];exact ho
 have ho2:ops[i]?=some o:=by rw[<-aj,hops];exact ho
 rw[ho1] at this;rw[ho2];simp only at this ⊢
 have hw:Region.wanted o (yielded ops a.tmps)=Region.wanted o (yielded (ol.take (i+1)).toArray a.tmps):=by
  unfold Region.wanted
  cases hgd:o.guard with
  | none=>rfl
  | some jb=>
   obtain⟨j,b⟩:=jb;simp only;have hj:=hg j b hgd
   have:yielded ops a.tmps j=yielded (ol.take (i+1)).toArray a.tmps j:=by
    unfold yielded;rw[<-aj (xs:=ops),hops,a5,ba,ul (by omega)]
   rw[this]
 rw[hw];cases hc:Region.wanted o (yielded (ol.take (i+1)).toArray a.tmps)
 ·rw[hc] at this;simp only[Bool.false_eq_true,if_false] at this ⊢;exact this
 ·rw[hc] at this;simp only[if_true] at this ⊢;unfold Oper.wpIn at this ⊢;refine⟨this.1,?_⟩;have h2:=this.2;rw[JZ] at h2;exact h2
def iN.mono{P:Program}{ro:Option Nat}{all l:List Oper}{st:gq}{K K':gq->Prop}(h:iN P ro all l st K)(hk:∀x,K x->K' x):iN P ro all l st K':=
 λops i h1 h2 F n σ a w Q hs hF hQ=>h ops i h1 h2 F n σ a w Q hs hF λst' a' w' σ' hK=>hQ st' a' w' σ' (hk _ hK)
def dep(e:Edge):Bool:=Region.binds .any e
def nW:Nat->List Oper->Bool
 | _,[]=>true
 | i,o::l=>(o.after.toList.all λe=>!(dep e)||blt e.on i)&&nW (i+1) l
def si:∀{l:List Oper} {k i:Nat} {o:Oper},nW k l=true->l[i]?=some o->∀e∈o.after.toList,dep e=true->e.on<k+i
 | [],_,_,_,_,h=>by simp at h
 | x::l,k,0,o,hb,h=>by
  simp only[List.getElem?_cons_zero,Option.some.injEq] at h;subst h;intro e he hd;rw[nW,ag,all_eq_true] at hb;have:=hb.1 e he;rw[hd,Bool.not_true,Bool.false_or] at this;exact fW this
 | x::l,k,i+1,o,hb,h=>by
  simp only[List.getElem?_cons_succ] at h;rw[nW,ag] at hb;intro e he hd;have:=si hb.2 h e he hd;omega
structure Tp (ol:List Oper) (L:Nat->Prop) (i:Nat) (o:Oper):Prop where
 fE:ol[i]?=some o
 new:¬L i
 dep:∀e∈o.after.toList,Ev.dep e=true->L e.on
def kX.any{P:Program}{ro:Option Nat}{id:Nat}{ops:Array Oper}{st:gq}{Q:Ex->gq->Prop}{ol:List Oper}(hol:ops.toList=ol)(hok:(nW 0 ol&&P.follows .mixedOrders)=true)(J:(Nat->Prop)->gq->Prop)(h0:J (λ_=>False) st)(hn:∀L x,J L x->x.n=st.n)
 (hstep:∀L x i o,J L x->Tp ol L i o->To P ro ol i x (J λj=>L j\/j=i)) (hend:∀L x,J L x->(∀i,i<ol.length->L i)->Q .normal x):kX P ro (.region id ops true) st Q:=by
 rw[ag] at hok;obtain⟨hback,hmix⟩:=hok
 have hsz:ops.size=ol.length:=by rw[<-hol];simp
 intro F nn σ0 a0 w0 hs0 hF0;refine wpIn_region_draw λt=>?_;simp only[Region.schedule,hmix,Bool.true_or,if_true];have hE2:Ext σ0 σ0 st.h st.h w0 { w0 with drawn:=w0.drawn+1 }:=Ext.of_eq rfl rfl rfl rfl;refine wpAnyIn_sound ops.size t _ a0 _ ?_
 have key:∀(fuel:Nat) (listed:Array Bool) (x:gq) (σ:Sg) (a:Act) (w:World),listed.size=ops.size->left listed ops.size<=fuel->J (λj=>listed.getD j false=true) x->SF σ x a w->C2 σ ro F->Ext σ0 σ st.h x.h w0 w->
  wpAnyIn F nn P .any ops (BD σ0 st.h w0 st.n Q) fuel listed a w:=by
  intro fuel
  have hdone:∀(listed:Array Bool) (x:gq) (σ:Sg) (a:Act) (w:World),listed.size=ops.size->J (λj=>listed.getD j false=true) x->SF σ x a w->Ext σ0 σ st.h x.h w0 w->Region.ready .any ops listed=[]->BD σ0 st.h w0 st.n Q .normal a w:=by
   intro listed x σ a w hls hJ hs hE hr
   have hall:∀i,i<ol.length->listed.getD i false=true:=by
    intro i
    induction i using Nat.strongRecOn with
    | _ i ih=>
     intro hi;cases hb:listed.getD i false
     ·exfalso
      have hi':i<ops.size:=by omega
      have hoi:ops[i]?=some ops[i]:=ac hi'
      have hoi':ol[i]?=some ops[i]:=by rw[<-hol,aj];exact hoi
      have hm:i∈Region.ready .any ops listed:=by
       refine mem_ready.2 ⟨?_,ops[i],hoi,λe he hbind=>?_⟩
       ·rw[aa] at hb ⊢;rw[ac (by omega)] at hb ⊢;exact hb
       ·have hlt:=si hback hoi' e (by simpa using he) hbind;rw[Nat.zero_add] at hlt;exact ih e.on hlt (by omega)
      rw[hr] at hm;simp at hm
     ·rfl
   exact⟨.normal,x,hend _ x hJ hall,rfl,σ,hs,hE,hn _ x hJ⟩
  induction fuel with
  | zero=>
   intro listed x σ a w hls hle hJ hs hF hE
   have hr:Region.ready .any ops listed=[]:=by
    cases hr:Region.ready .any ops listed with
    | nil=>rfl
    | cons i rs=>
     exfalso
     have hm:i∈Region.ready .any ops listed:=by rw[hr];exact List.mem_cons_self ..
     obtain⟨h1,o,h2,_⟩:=mem_ready.1 hm;have hi:i<ops.size:=(Array.getElem?_eq_some_iff.1 h2).1
     have:i∈(range ops.size).filter λi=>!listed.getD i false:=by
      refine List.mem_filter.2 ⟨List.mem_range.2 hi,?_⟩;rw[aa,ac (by omega)] at h1 ⊢;simp only[Option.getD_some] at h1 ⊢;rw[h1];rfl
     have h0:((range ops.size).filter λi=>!listed.getD i false).length=0:=by unfold left at hle;omega
     rw[List.length_eq_zero_iff.1 h0] at this;simp at this
   exact⟨hr,hdone listed x σ a w hls hJ hs hE hr⟩
  | succ fuel ih=>
   intro listed x σ a w hls hle hJ hs hF hE;refine⟨hdone listed x σ a w hls hJ hs hE,λi hi=>?_⟩;obtain⟨h1,o,h2,h3⟩:=mem_ready.1 hi;have hlt:i<ops.size:=(Array.getElem?_eq_some_iff.1 h2).1
   have hfalse:listed.getD i false=false:=by
    rw[aa,ac (by omega)] at h1 ⊢;exact h1
   have hrd:Tp ol (λj=>listed.getD j false=true) i o:=⟨by rw[<-hol,aj];exact h2,by rw[hfalse];simp,λe he hb=>h3 e (by simpa using he) hb⟩;refine hstep _ x i o hJ hrd ops hol F nn σ a w _ _ hs hF ?_;intro x' a' w' σ' hJ' hs' hE' hn';refine ih _ x' σ' a' w' (by simpa using hls) ?_ ?_ hs' (hF.mono hE'.le) (hE.trans hE')
   ·have:left (listed.setIfInBounds i true) ops.size<left listed ops.size:=by
     unfold left;refine filter_lt _ ?_ ⟨i,List.mem_range.2 hlt,by rw[hfalse];rfl,?_⟩
     ·intro y _ hy;by_cases e:i=y
      ·subst e;rw[aa,ad,ul rfl,ul (by omega)] at hy;simp at hy
      ·rw[getD_set_ne false e] at hy;exact hy
     ·rw[aa,ad,ul rfl,ul (by omega)];rfl
    omega
   ·have:(λj=>(listed.setIfInBounds i true).getD j false=true)=λj=>listed.getD j false=true\/j=i:=by
     funext j;refine propext ⟨λh=>?_,λh=>?_⟩
     ·by_cases e:i=j
      ·exact .inr e.symm
      ·rw[getD_set_ne false e] at h;exact .inl h
     ·rcases h with h | rfl
      ·exact getD_set_true h
      ·rw[aa,ad,ul rfl,ul (by omega)];rfl
    rw[this];exact hJ'
 have hrep:∀j,(ay ops.size false).getD j false=false:=by
  intro j;rw[aa,Array.getElem?_replicate];split<;>rfl
 refine key ops.size _ st σ0 a0 _ (by simp) ?_ ?_ ⟨hs0.t,hs0.h.congr rfl,hs0.ds⟩ hF0 hE2
 ·unfold left;exact bi (List.length_filter_le _ _) (by simp)
 ·have hS:(λj=>(ay ops.size false).getD j false=true)=λ_=>False:=by
   funext j;rw[hrep];simp
  rw[hS];exact h0
def ar.any{P:Program}{ro:Option Nat}{id:Nat}{ops:Array Oper}{st:eB}{Q:Ex->eB->Prop}{ol:List Oper}(hol:ops.toList=ol)(hok:(nW 0 ol&&P.follows .mixedOrders)=true) (hgd:(ol.all λo=>match o.guard with
 | none=>true
 | some _=>false)=true\/∀(i:Nat) (o:Oper),ol[i]?=some o->∀(j:Nat) (b:Bool),o.guard=some (j,b)->j<i) (J:(Nat->Prop)->eB->Prop) (h0:J (λ_=>False) st) (hn:∀L x,J L x->x.n=st.n)
 (hstep:∀L x i o,J L x->Tp ol L i o->aI P ro (ol.take (i+1)) [o] x (J λj=>L j\/j=i)) (hend:∀L x,J L x->(∀i,i<ol.length->L i)->Q .normal x):ar P ro (.region id ops true) st Q:=by
 intro ρ0 h0' ast hs;refine kX.any hol hok (λL ast'=>∃x,J L x/\jG ρ0 h0' x ast') ⟨st,h0,hs⟩ ?_ ?_ ?_
 ·rintro L ast' ⟨x,hJ,hx⟩;rw[hx.1,hn L x hJ,hs.1]
 ·rintro L ast' i o ⟨x,hJ,hx⟩ hr;refine To.of hr.fE ?_ ?_
  ·intro j b hg
   rcases hgd with hgd | hgd
   ·have:=all_eq_true.1 hgd o (List.mem_of_getElem? hr.fE);rw[hg] at this;cases this
   ·exact hgd i o hr.fE j b hg
  ·have:=hstep L x i o hJ hr ρ0 h0' ast' hx;refine this.mono ?_;rintro a' ⟨x',k1,k2,k3⟩;exact⟨x',k1,k3⟩
 ·rintro L ast' ⟨x,hJ,hx⟩ hall;exact⟨x,hend L x hJ hall,hn L x hJ,hx⟩
section
variable {P:Program} {ro:Option Nat} {all l:List Oper} {f:Fm} {n:Nat} {S:List SO} {ds:List iV} {K:eB->Prop}
def aI.fg{st st':eB}(hf:Fg st st')(h:aI P ro all l st' K):aI P ro all l st K:=by
 intro ρ0 h0 ast hs;refine iN.mono (h ρ0 h0 ast (hf.2 ρ0 h0 ast hs)) ?_;rintro a ⟨x,k1,k2,k3⟩;exact⟨x,k1,k2.trans hf.1,k3⟩
def Fg.tmps{f':Fm}(hf:∀i,aX f' i=aX f i\/aX f' i=.any):Fg ⟨f,n,S,ds⟩ ⟨f',n,S,ds⟩:=by
 refine⟨rfl,?_⟩;rintro ρ0 h0 ⟨af,n',hh,ds'⟩ ⟨rfl,rfl,θ,ρ,hR,hF⟩;refine⟨rfl,rfl,θ,ρ,hR,λi=>?_,hF.u⟩
 rcases hf i with e | e
 ·rw[e];exact hF.v i
 ·rw[e,VS];trivial
end
def C6(P:Program)(g:FuncId):Prop:=∀(w:World) (a b:Addr) (la ca lb cb:Nat) (tA tB:TypeId) (kA kB:Nat),a.block≠b.block->w.shape? a.block=some (tA,kA)->w.shape? b.block=some (tB,kB)->kB≠0->w.frozen? a=false->w.frozen? { block:=a.block,off:=kA }=false->
 (callFunc g #[.slice (some a) la ca,.slice (some b) lb cb]).run P w=.ok (.value (.bool false)) w
def B1{w:World}{b o:Nat}{c:Array Value}{e:TypeId}(h:w.heap[b]?=some (.cells c e (0,0))):w.frozen? { block:=b,off:=o }=false:=by
 unfold World.frozen?;simp only[h];simp
def Ml{P:Program}{g:FuncId}(hg:C6 P g){i1 o1 n1 e1 k1 i2 o2 n2 e2 k2 f1 f2:Nat}{cs1 cs2:List AV}{h:H}(hi:i1≠i2)(h1:h.aR.get i1=some (.cells cs1 f1))(h2:h.aR.get i2=some (.cells cs2 f2))(hf:f1≠f2)(hk1:0<k1)(hk2:0<k2)(he:0<cs2.length):
 dC P (.func g) [.slice (some (i1,o1)) n1 e1 (some k1),.slice (some (i2,o2)) n2 e2 (some k2)] h (λa h'=>a=.bool false/\h'=h):=by
 intro σ w args' hv hr;obtain⟨v1,v2,rfl,q1,q2⟩:=E5 hv;obtain⟨p1,c1,t1,hp1,hb1,hz1,hl1,_⟩:=hr.cells h1;obtain⟨p2,c2,t2,hp2,hb2,hz2,hl2,_⟩:=hr.cells h2
 cases q1 with
 | @slice _ _ _ _ _ a1 p1' x1 hs1 hle1 hr1 hc1 ha1=>
 cases q2 with
 | @slice _ _ _ _ _ a2 p2' x2 hs2 hle2 hr2 hc2 ha2=>
 rw[hp1] at hs1;cases hs1;rw[hp2] at hs2;cases hs2;have hx1:=hc1 k1 rfl;subst hx1;have hx2:=hc2 k2 rfl;subst hx2;have ha1:=ha1.resolve_right (by omega);have ha2:=ha2.resolve_right (by omega);subst ha1;subst ha2
 have hne:p1.b≠p2.b:=by
  intro e
  rcases hr.sep i1 i2 _ _ p1 p2 hi h1 h2 hp1 hp2 e with⟨_,_,f,e3,e4⟩ | ⟨_,_,e3,e4⟩
  ·cases e3;cases e4;exact hf rfl
  ·cases e3
 have hrun:=hg w ⟨p1.b,p1.d+o1,none⟩ ⟨p2.b,p2.d+o2,none⟩ n1 k1 n2 k2 t1 t2 c1.size c2.size hne (by unfold World.shape?;simp only[hb1]) (by unfold World.shape?;simp only[hb2]) (by omega) (B1 hb1) (B1 hb1);rw[hrun];exact⟨.bool false,h,⟨rfl,rfl⟩,σ,.bool false,hr,.refl _ _ _⟩
def QB:SV->Option (Nat×Nat×Nat×Nat×Nat)
 | .buf o n e (some k)=>some (o,0,n,e,k)
 | .sub o off n e (some k)=>some (o,off,n,e,k)
 | _=>none
def aI.Uo{P:Program}{ro:Option Nat}{all:List Oper}{o:Oper}{l:List Oper}{f:Fm}{n:Nat}{S:List SO}{ds:List iV}{K:eB->Prop}{d:Nat}{c:Call}{g:FuncId}{v1 v2:SV}{a1 b1 n1 e1 k1 a2 b2 n2 e2 k2:Nat}{cs1 cs2:List SV}(hg:C6 P g)(hst:eP all n [o]=true)(hop:o.op=.call c)(hdst:o.dst=some d)(hw:db all f o.guard=some true)(hdy:lj (.call c)=true)
 (hc:gV P f c=some (g,[v1,v2])) (hv1:QB v1=some (a1,b1,n1,e1,k1)) (hv2:QB v2=some (a2,b2,n2,e2,k2)) (hS1:S[a1]?=some (.cells cs1)) (hS2:S[a2]?=some (.cells cs2)) (hne:a1≠a2) (hk1:0<k1) (hk2:0<k2) (he:0<cs2.length)
 (hk:aI P ro all l ⟨(d,.a (.bool false))::f,n,S,ds⟩ K):aI P ro all (o::l) ⟨f,n,S,ds⟩ K:=by
 rintro ρ0 h0 ⟨af,n',h,ds'⟩ ⟨rfl,rfl,θ,ρ,hR,hF⟩
 have hd:blt d n'=true:=by
  have:=(ez hst).1;rw[hdst] at this;exact this
 obtain⟨xs,cap,h1,h2⟩:=ym hF hc;obtain⟨L1,as1,q1,q2,q3⟩:=hR.obj a1 _ hS1 (λh=>by cases h);obtain⟨L2,as2,r1,r2,r3⟩:=hR.obj a2 _ hS2 (λh=>by cases h);have sp:=hR.sep a1 a2 _ _ hne hS1 (λh=>by cases h) hS2 (λh=>by cases h)
 have hid:(θ a1).id≠(θ a2).id:=by
  rcases L1.e with e | e<;>rcases L2.e with e' | e'<;>rw[e,e']
  ·exact sp.xx
  ·exact sp.xy
  ·exact sp.yx
  ·exact sp.yy
 rw[aK] at h2;obtain⟨x1,rr,hxs,w1,h3⟩:=h2;rw[aK] at h3;obtain⟨x2,r',rfl,w2,h4⟩:=h3;rw[aQ] at h4;subst h4
 have own:∀{v:SV} {a b m e k:Nat} {x:AV},QB v=some (a,b,m,e,k)->VS θ ρ v x->x=.slice (some ((θ a).id,b)) m e (some k):=by
  intro v a b m e k x hv hx;unfold QB at hv;split at hv
  ·cases hv;rw[VS] at hx;exact hx
  ·cases hv;rw[VS] at hx;exact hx
  ·cases hv
 have e1:=own hv1 w1;have e2:=own hv2 w2;subst e1;subst e2;refine .c hop hdst (cK hF (dN hst hw)) hdy hd h1 hxs (Ml hg hid q1 r1 sp.f hk1 hk2 (by rw[r2.length];exact he)) ?_;rintro v h' ⟨rfl,rfl⟩;exact hk ρ0 h0 _ ⟨rfl,rfl,θ,ρ,hR,hF.put (fW hd) (by rw[VS])⟩
section
variable {θ θ':Nat->Loc} {ρ ρ0 ρ':kg} {P:Program} {h0:En} {h h1:H} {S S' S0:List SO}
def xr(B:Nat)(f:Fm):Bool:=f.all λp=>blt p.1 B
def tK{B:Nat}:∀{f:Fm},xr B f=true->∀{i:Nat},B<=i->aX f i=.any
 | [],_,i,_=>rfl
 | (d,v)::f,h,i,hi=>by
  unfold xr at h;rw[bc,ag] at h;have h1:=fW h.1;show(if d=i then v else aX f i)=.any;rw[un (by simp only at h1;omega)];exact tK h.2 hi
def FB{d:iV}{ds:List iV}{j:Nat}(h:j<ds.length):Sb (d::ds) j=Sb ds j:=by
 unfold Sb;rw[bd,List.getElem?_append_left (by simpa using h)]
def Kn{d:iV}{ds:List iV}{f:Fn}(h:d.fn=some f):Sb (d::ds) ds.length=.fn f d.args d.cap:=by
 unfold Sb;rw[bd,ax (by simp),List.length_reverse,bk];simp[h]
def pP(w:Nat->AV)(ds:List iV){i:Nat}(h:i<7000000):xI w ds i=w i:=by
 cases ds with
 | nil=>rfl
 | cons d ds=>rw[xI,un (by omega)]
def FR.push{f:Fm}{af:Nat->AV}{n:Nat}{w:Nat->AV}{ds:List iV}(d:iV)(hF:FR θ ρ (aX f) af n (xI w ds))(hl:xr (7000000+ds.length) f=true):FR θ ρ (aX f) af n (xI w (d::ds)):=by
 refine⟨λi=>?_,λi hi=>by have:=hF.u i hi;rw[pP _ _ (by omega)] at this ⊢;exact this⟩
 have key:xI w (d::ds) i=xI w ds i\/aX f i=.any:=by
  by_cases h1:i<7000000
  ·rw[pP _ _ h1,pP _ _ h1];exact .inl rfl
  ·by_cases h2:i-7000000<ds.length
   ·cases ds with
    | nil=>simp at h2
    | cons d' ds=>
     rw[xI,xI,ul (by omega),ul (by omega),FB h2];exact .inl rfl
   ·exact .inr (tK hl (show 7000000+ds.length<=i by omega))
 rcases key with e | e
 ·rw[e];exact hF.v i
 ·rw[e,VS];trivial
def Ld(B:Nat):Fm->Fm
 | []=>[]
 | (d,v)::f=>(d+B,v)::Ld B f
def uM(B:Nat):Fm->Fm
 | []=>[]
 | (d,v)::f=>if B<=d then (d-B,v)::uM B f else uM B f
def tq{B:Nat}:∀(f:Fm) (i:Nat),aX (Ld B f) i=if B<=i then aX f (i-B) else .any
 | [],i=>by split<;>rfl
 | (d,v)::f,i=>by
  show(if d+B=i then v else aX (Ld B f) i)=if B<=i then (if d=i-B then v else aX f (i-B)) else .any
  rw[tq f i];by_cases h:B<=i
  ·rw[ul h,ul h];by_cases e:d+B=i
   ·rw[ul e,ul (by omega)]
   ·rw[un e,un (by omega)]
  ·rw[un h,un h,un (by omega)]
def tp{B:Nat}:∀(f:Fm) (i:Nat),aX (uM B f) i=aX f (B+i)
 | [],i=>rfl
 | (d,v)::f,i=>by
  show aX (if B<=d then (d-B,v)::uM B f else uM B f) i=if d=B+i then v else aX f (B+i)
  by_cases h:B<=d
  ·rw[ul h];show(if d-B=i then v else aX (uM B f) i)=_;rw[tp f i];by_cases e:d=B+i
   ·rw[ul e,ul (by omega)]
   ·rw[un e,un (by omega)]
  ·rw[un h,tp f i,un (by omega)]
def Di{B:Nat}{f g:Fm}(hl:xr B f=true){i:Nat}(hi:B<=i):aX (f++g) i=aX g i:=
 tn f g i λv hm=>by
  unfold xr at hl;rw[all_eq_true] at hl;have:=fW (hl _ hm);simp only at this;omega
def Dh{f g:Fm}{i:Nat}(hg:aX g i=.any):aX (f++g) i=aX f i:=by
 induction f with
 | nil=>exact hg
 | cons p f ih=>
  obtain⟨d,v⟩:=p
  show(if d=i then v else aX (f++g) i)=if d=i then v else aX f i
  rw[ih]
def DP:List Tmp->List SV->Fm->Fm
 | k::ks,v::vs,f=>DP ks vs ((k,v)::f)
 | _,_,f=>f
def KP{n:Nat}:∀{ks:List Tmp} {vs:List SV} {f:Fm},ks.all (λk=>blt k n)=true->∀{i:Nat},n<=i->aX (DP ks vs f) i=aX f i
 | [],_,_,_,_,_=>by rw[DP];intros;contradiction
 | k::ks,[],_,_,_,_=>by rw[DP];intros;contradiction
 | k::ks,v::vs,f,h,i,hi=>by
  rw[bc,ag] at h;have:=fW h.1;rw[DP,KP h.2 hi];show(if k=i then v else aX f i)=_;rw[un (λe:k=i=>t8 (e▸this:i<n) (Nat.not_lt.2 hi))]
def ui{n:Nat}:∀{ks:List Tmp} {vs:List SV} {aS:List AV} {f:Fm} {t:Tr AV},ks.length=vs.length->c7 θ ρ vs aS->ks.all (λk=>blt k n)=true->(∀i,i<n->VS θ ρ (aX f i) (MC t i))->
 ∃t1,jA (ks.zip aS) n t=some t1/\∀i,i<n->VS θ ρ (aX (DP ks vs f) i) (MC t1 i)
 | [],[],aS,f,t,_,hv,_,hf=>by
  rw[aQ] at hv;subst hv;exact⟨t,rfl,hf⟩
 | k::ks,v::vs,aS,f,t,hl,hv,hk,hf=>by
  rw[aK] at hv;obtain⟨a,r,rfl,h1,h2⟩:=hv;rw[bc,ag] at hk
  have ih:=ui (f:=(k,v)::f) (t:=t.put k (some a)) (by simpa using hl) h2 hk.2 (by
   intro i hi;show VS θ ρ (if k=i then v else aX f i) (MC _ i);unfold MC;rw[dH];by_cases e:i=k
   ·subst e;rw[ul rfl,ul rfl];exact h1
   ·rw[un (λh=>e h.symm),un e];exact hf i hi)
  obtain⟨t1,g1,g2⟩:=ih;refine⟨t1,?_,g2⟩;rw[List.zip_cons_cons,jA,hk.1,ai];exact g1
def RS.xX{o:Nat}{c:gr}{ls:LoopState}{p:Option Code}{f:Fm}(hR:RS θ ρ0 ρ h0 h S)(hS:S[o]?=some (.loop c ls p f)):
 h.pC c.id=some (ls,p,c.t,c.n,c.ps,c.a,c.b,c.d)/\(∀i,i<c.n->VS θ ρ (aX f i) (MC c.t i))/\∀ls2 p2,RS θ ρ0 ρ h0 (h.set c.id (.loop ls2 p2 c.t c.n c.ps c.a c.b c.d)) (S.set o (.loop c ls2 p2 f)):=by
 obtain⟨hL,hid,h1,h2⟩:=hR.obj o _ hS (λh=>by cases h);refine⟨by unfold H.pC;rw[<-hid,h1],h2,λls2 p2=>?_⟩
 have hidr:¬h0.pr c.id:=by
  rw[<-hid]
  rcases hL.e with e | e<;>rw[e]
  ·exact hL.x.1
  ·exact hL.y.1
 have hidn:c.id<h.next:=by
  rw[<-hid]
  rcases hL.e with e | e<;>rw[e]
  ·exact hL.x.2
  ·exact hL.y.2
 have hg:∀v x,VS θ ρ v x->VS (gP θ o (θ o)) ρ v x:=λv x hv=>hv.ids λp=>by
  by_cases hp:p=o
  ·subst hp;rw[cC]
  ·rw[bW _ _ hp]
 have heq:gP θ o (θ o)=θ:=by
  funext p;by_cases hp:p=o
  ·subst hp;rw[cC]
  ·rw[bW _ _ hp]
 have get:∀j,j≠c.id->(h.set c.id (.loop ls2 p2 c.t c.n c.ps c.a c.b c.d)).aR.get j=h.aR.get j:=λj hj=>bm _ _ hj
 have:=hR.AU (h':=h.set c.id (.loop ls2 p2 c.t c.n c.ps c.a c.b c.d)) (S':=S.set o (.loop c ls2 p2 f)) (o:=o) (so':=.loop c ls2 p2 f) (L':=θ o) (g:=λv=>v) (Nat.le_refl _) (λj hj=>get j (λe=>hidr (e▸hj))) (λ_ _=>rfl)
  (nI hR.lw (hR.ok.lo _ hidr)) (bi (dR _ _).1 hR.ln) hL hg
  (λp so hp h3 h4=>by
   have sp:=hR.sep p o so _ hp h3 h4 hS (λh=>by cases h);obtain⟨k,_⟩:=hR.obj p so h3 h4;refine⟨get _ ?_,rfl,sp⟩;rw[<-hid]
   rcases k.e with e1 | e1<;>rcases hL.e with e2 | e2<;>rw[e1,e2]
   ·exact sp.xx
   ·exact sp.xy
   ·exact sp.yx
   ·exact sp.yy)
  (λid ob hi=>by
   obtain⟨r1,r2,r3⟩:=hR.row id ob hi;have:=r3 o _ hS (λh=>by cases h);refine⟨get _ ?_,this⟩;rw[<-hid]
   rcases hL.e with e | e<;>rw[e]
   ·exact this.1
   ·exact this.2)
  (by
   rw[heq];refine⟨hid,?_,h2⟩;rw[hid]
   exact cX _ _ _)
  (λp hp=>by
   rw[a6 (λh=>hp h.symm)]
   cases S[p]? with
   | none=>rfl
   | some s=>rw[Option.map_some];exact congrArg some (tL s).symm)
  (by rw[a4 (bD hS)])
 rw[heq] at this;exact this
end
section
variable {θ θ':Nat->Loc} {ρ ρ0 ρ':kg} {P:Program} {h0:En} {h h1:H} {S S' S0:List SO}
abbrev laid:Nat:=20000000
theorem aI.y{ro:Option Nat}{all:List Oper}{o:Oper}{l:List Oper}{K:eB->Prop}{f f1:Fm}{n d oo:Nat}{ds:List iV}{cl:Call}{x:Operand}{vs:List SV}{c:gr}{pend:Option Code}(hst:eP all n [o]=true)(hop:o.op=.call cl)(hdst:o.dst=some d)(hw:db all f o.guard=some true)(hdy:lj (.call cl)=true)
 (hcal:cl.callee=.value x) (hx:eF f x=some (.a (.fn (.yield c.id) [] []))) (hargs:mY f cl.args.toList=some vs) (hS:S[oo]?=some (.loop c .ready pend f1)) (hps:c.ps.toList.length=vs.length) (hlow:xr c.n f1=true) (hn1:c.n<=1000000) (hpar:c.ps.toList.all (λk=>blt k c.n)=true)
 (hbody:∀ro',ar P ro' c.a ⟨DP c.ps.toList vs (f1++Ld laid f),c.n,S,[]⟩ λex st=>ex=.normal/\∃oo2 pend2 f2,st.S[oo2]?=some (.loop c .ready pend2 f2)/\
  ar P ro' c.b ⟨st.f,c.n,st.S.set oo2 (.loop c .busy pend2 f2),st.ds⟩ λex st=>st.ds=[]/\∃oo3 ls p3 f3,st.S[oo3]?=some (.loop c ls p3 f3)/\
   aI P ro all l ⟨(d,.a (.bool (vc ex)))::uM laid st.f,n,st.S.set oo3 (.loop c (vd ex) (vb ex) f3),ds⟩ K):aI P ro all (o::l) ⟨f,n,S,ds⟩ K:=by
 rintro ρ0 h0 ⟨af,n',h,ds'⟩ ⟨rfl,rfl,θ,ρ,hR,hF⟩
 have hd:blt d n'=true:=by
  have:=(ez hst).1;rw[hdst] at this;exact this
 obtain⟨a,ha,ka⟩:=bG hF hx;rw[VS] at ka;subst ka;obtain⟨aS,hs,ks⟩:=kZ hF hargs
 have hcall:pg P (dj af n') cl=some (.yield c.id,aS,[]):=by
  unfold pg;rw[hcal];simp only;rw[show ev (dj af n') x=_ from ha];simp only;rw[show xm (dj af n') cl.args.toList=_ from hs];rfl
 obtain⟨hlo,hfr,_⟩:=hR.xX hS
 obtain⟨t1,hp1,hp2⟩:=ui (n:=c.n) (f:=f1++Ld laid f) hps ks hpar (λi hi=>by
  rw[Dh (by rw[tq,un (by unfold laid;omega)])];exact hfr i hi)
 obtain⟨w',hw'⟩:∃w':Nat->AV,w'=λi=>if laid<=i then (if i-laid<n' then af (i-laid) else xI h0.w ds' (i-laid)) else kn:=⟨_,rfl⟩
 have hst1:jG ρ0 { h0 with w:=w' } ⟨DP c.ps.toList vs (f1++Ld laid f),c.n,S,[]⟩ ⟨MC t1,c.n,h,[]⟩:=by
  refine⟨rfl,rfl,θ,ρ,hR.w _,λi=>?_,λi hi=>?_⟩
  ·simp only;by_cases hi:i<c.n
   ·rw[ul hi];exact hp2 i hi
   ·have hge:c.n<=i:=be hi;rw[un hi,KP hpar hge,Di hlow hge,tq];show VS θ ρ _ (w' i);by_cases hb:laid<=i
    ·rw[ul hb,hw'];simp only;rw[ul hb];exact hF.v (i-laid)
    ·rw[un hb,VS];trivial
  ·show w' i=kn;rw[hw'];simp only;rw[un (by unfold laid;omega)]
 have hlen:=ks.length;refine iN.c hop hdst (cK hF (dN hst hw)) hdy hd hcall (List.append_nil _) (Q:=λv h'=>∃(bb:Bool) (f':Fm) (S':List SO),v=.bool bb/\aI P ro all l ⟨(d,.a (.bool bb))::f',n',S',ds'⟩ K/\∃θ' ρ',RS θ' ρ0 ρ' h0 h' S'/\FR θ' ρ' (aX f') af n' (xI h0.w ds')) ?_ ?_
 ·refine dC.yield hlo (by rw[hps,hlen]) hp1 (f1:=MC t1) (λ_ _=>rfl) ?_;refine(hbody (some c.id) ρ0 _ _ hst1).mono ?_;rintro ex ⟨af2,n2,h2,ds2⟩ ⟨st,⟨rfl,oo2,pend2,f2,hS2,hb⟩,hn2,e1,e2,θ2,ρ2,hR2,hF2⟩;simp only at e1 e2 hR2 hF2 hn2;obtain⟨hlo2,_,hset2⟩:=hR2.xX hS2;refine⟨rfl,pend2,c.t,c.n,c.ps,c.a,c.b,c.d,hlo2,?_⟩;have hn3:n2=c.n:=e1.trans hn2;subst hn3;have hb2:=hb ρ0 { h0 with w:=w' } ⟨af2,c.n,h2.set c.id (.loop .busy pend2 c.t c.n c.ps c.a c.b c.d),ds2⟩ ⟨rfl,e2,θ2,ρ2,hset2 _ _,by rw[<-e1] at hF2;exact hF2⟩;refine hb2.mono ?_;rintro ex3 ⟨af3,n3,h3,ds3⟩ ⟨st3,⟨hds3,oo3,ls,p3,f3,hS3,hK⟩,hn3,e3,e4,θ3,ρ3,hR3,hF3⟩;simp only at e3 e4 hR3 hF3 hn3;rw[hds3] at e4;subst e4;obtain⟨hlo3,_,hset3⟩:=hR3.xX hS3;refine⟨rfl,ls,p3,c.t,c.n,c.ps,c.a,c.b,c.d,hlo3,vc ex3,uM laid st3.f,_,rfl,hK,θ3,ρ3,(hset3 _ _).w h0.w,λi=>?_,hF.u⟩;rw[tp];have:=hF3.v (laid+i);rw[un (by rw[hn3];unfold laid;omega)] at this
  have e5:xI w' [] (laid+i)=if i<n' then af i else xI h0.w ds' i:=by
   show w' (laid+i)=_;rw[hw'];simp only;rw[ul (by omega),Nat.add_sub_cancel_left]
  rw[e5] at this;exact this
 ·rintro v h' ⟨bb,f',S',rfl,hK,θ',ρ',hR',hF'⟩;exact hK ρ0 h0 _ ⟨rfl,rfl,θ',ρ',hR',hF'.put (fW hd) (by rw[VS])⟩
def RS.Om{so:SO}{ob:AO}(hR:RS θ ρ0 ρ h0 h S)(hob:nj (gP θ S.length ⟨h.next,h.next,h.next,h.next⟩) ρ { h with aR:=h.aR.put h.next (some ob),next:=h.next+1 } ⟨h.next,h.next,h.next,h.next⟩ (bQ S.length so)):
 RS (gP θ S.length ⟨h.next,h.next,h.next,h.next⟩) ρ0 ρ h0 { h with aR:=h.aR.put h.next (some ob),next:=h.next+1 } (gO S so):=by
 have hpr:∀j,h0.pr j->j<h.next:=λj hj=>a8 (hR.ok.pr j hj) hR.nx;have hpf:∀j,h0.pf j->j<h.next:=λj hj=>a8 (hR.ok.pf j hj) hR.nx;have hobj:∀j,j<h.next->(h.aR.put h.next (some ob)).get j=h.aR.get j:=λj hj=>bm _ _ (by omega);refine hR.AU (g:=bf S.length) (so':=bQ S.length so) (by show h.next<=h.next+1;omega) (λj hj=>hobj j (hpr j hj)) (λ_ _=>rfl) hR.lw (Nat.le_succ_of_le hR.ln) ⟨.inl rfl,⟨λhj=>a9 _ (hpr _ hj),a3 _⟩,⟨λhj=>a9 _ (hpr _ hj),a3 _⟩,⟨λhj=>a9 _ (hpf _ hj),a3 _⟩⟩ (λv x hv=>je (λp hp=>bW _ _ hp) hv) ?_ ?_ hob ?_ ?_
 ·intro p s hp hs hsg;obtain⟨⟨k1,k2,k3,k4⟩,_⟩:=hR.obj p s hs hsg;refine⟨hobj _ (by rcases k1 with e | e<;>omega),rfl,⟨?_,?_,?_,?_,?_⟩⟩<;>(simp only;omega)
 ·intro id ob' hi;have:=(hR.row id ob' hi).1;exact⟨hobj id this,by simp only;omega,by simp only;omega⟩
 ·intro p hp;unfold gO
  have hl:(dB S.length S).length=S.length:=by unfold dB;rw[bh]
  rw[List.getElem?_append];split
  ·exact rj _ _ _
  ·rename_i hlt;rw[hl] at hlt ⊢;have:S[p]?=none:=ap (by omega);rw[this,ap (by simp;omega)];rfl
 ·unfold gO
  have hl:(dB S.length S).length=S.length:=by unfold dB;rw[bh]
  rw[ax (by omega),hl,bk];rfl
def Su(P:Program)(g:FuncId)(vs:List SV)(S:List SO)(K:List SO->Prop):Prop:=∃(os:List Nat) (ws:List SV) (S0:List SO) (mv:List Nat) (Q:SV->List SO->Prop),SC P g ws S0 mv Q/\kh (jC os S.length) ws=vs/\os.length=S0.length/\os.Nodup/\
 (∀(i:Nat) so,S0[i]?=some so->∃o,os[i]?=some o/\S[o]?=some (nk (jC os S.length) so))/\∀r S',Q r S'->uU S'.length S'=true/\K (fD S os mv S')
def Ol(S:List SO)(so:SO):(gO S so).length=S.length+1:=by unfold gO dB;simp
def IB(o:Nat)(v:SV):bf o (bf o v)=bf o v:=by
 unfold bf;cases h:names o v
 ·simp[h]
 ·simp[names]
def ar.tW(hng:sY P){g:Operand}{ps:Array Tmp}{assign body:Code}{f f1:Fm}{n:Nat}{ds:List iV}{Q:Ex->eB->Prop}{fid:FuncId}{fn':Func}{first cap:List SV}(hg:eF f g=some (.fn fid first cap))(hfn:P.funcs[fid]?=some fn')(hb:fn'.body.isSome=true)
 (hf1:rL (dJ (S.length+1) (dJ S.length f)) f1)
 (hk:∀(N:Nat) (c:gr),c.id=N+1->c.n=n->c.ps=ps->c.a=assign->c.b=body->Su P fid ((first++[SV.a (.fn (.yield (N+1)) [] [])]++cap).map λv=>bf (S.length+1) (bf S.length v)) (gO (gO S (.ox N)) (.loop c .ready none f1)) λS2=>∃oo ls p f2,S2[oo]?=some (.loop c ls p f2)/\ls≠.busy/\xr n f2=true/\
  match p with
  | none=>Q .normal ⟨f2,n,S2.set oo .gone,{ fn:=none,qe:=N,args:=[],cap:=[] }::ds⟩
  | some cd=>ar P none cd ⟨f2,n,S2.set oo .gone,{ fn:=none,qe:=N,args:=[],cap:=[] }::ds⟩ Q):ar P none (.rangeFunc g ps assign body) ⟨f,n,S,ds⟩ Q:=by
 rintro ρ0 h0 ⟨af,n',⟨O,F,N,lw⟩,ds'⟩ ⟨rfl,rfl,θ,ρ,hR,hF⟩;obtain⟨gv,hgv,kgv⟩:=bG hF hg;rw[VS] at kgv;obtain⟨xs,ys,rfl,kx,ky⟩:=kgv;simp only at hR hF;obtain⟨c,hc⟩:∃c:gr,c=⟨N+1,dj af n',n',ps,assign,body,N⟩:=⟨_,rfl⟩;have hkc:=hk N c (by rw[hc]) (by rw[hc]) (by rw[hc]) (by rw[hc]) (by rw[hc]);obtain⟨os,ws,S0,mv,Qc,hsc,hws,hKl,hnd,hos,hpost⟩:=hkc;have hR1:=hR.Om (so:=.ox N) (ob:=.ox false) ⟨rfl,cX _ _ _⟩;simp only at hR1;have hl1:(gO S (SO.ox N)).length=S.length+1:=Ol _ _
 have hR2:=hR1.Om (so:=.loop c .ready none f1) (ob:=.loop .ready none (dj af n') n' ps assign body N) (by
  refine⟨by rw[hc],?_,?_⟩
  ·simp only;rw[cX,hc]
  ·intro i hi
   have hn:c.n=n':=by rw[hc]
   rw[hn] at hi
   have e1:MC c.t i=af i:=by
    rw[hc];unfold MC;simp only;rw[nd _ _ _ hi];rfl
   rw[e1,my,hl1];have hv:=hF.v i;rw[ul hi] at hv;have h2:VS (gP θ S.length ⟨N,N,N,N⟩) ρ (bf S.length (aX f i)) (af i):=je (λp hp=>bW _ _ hp) hv;have h3:VS (gP (gP θ S.length ⟨N,N,N,N⟩) (S.length+1) ⟨N+1,N+1,N+1,N+1⟩) ρ (bf (S.length+1) (bf S.length (aX f i))) (af i):=je (λp hp=>bW _ _ hp) h2
   rcases hf1.get i with e | e
   ·rw[e,my,my];rw[IB];exact h3
   ·rw[e]
    have:bf (S.length+1) SV.any=.any:=by unfold bf;simp[names]
    rw[this,VS];trivial)
 rw[hl1] at hR2;obtain⟨SN,hSN⟩:∃SN,SN=gO (gO S (.ox N)) (.loop c .ready none f1):=⟨_,rfl⟩;rw[<-hSN] at hR2 hws hos hpost
 have hos2:∀o∈os,o<SN.length:=by
  intro o ho;obtain⟨i,hi1,hi2⟩:=List.getElem_of_mem ho
  have:i<S0.length:=by omega
  obtain⟨o',e1,e2⟩:=hos i _ (al this);rw[al hi1] at e1;cases e1;rw[<-hi2];exact bD e2
 have hr:∀(i:Nat) so,S0[i]?=some so->SN[jC os SN.length i]?=some (nk (jC os SN.length) so):=by
  intro i so e;obtain⟨o,e1,e2⟩:=hos i so e;rw[mU e1];exact e2
 have hargs:c7 (gP (gP θ S.length ⟨N,N,N,N⟩) (S.length+1) ⟨N+1,N+1,N+1,N+1⟩) ρ ((first++[SV.a (.fn (.yield (N+1)) [] [])]++cap).map λv=>bf (S.length+1) (bf S.length v)) (xs++[.fn (.yield (N+1)) [] []]++ys):=by
  have h1:c7 θ ρ (first++[SV.a (.fn (.yield (N+1)) [] [])]++cap) (xs++[.fn (.yield (N+1)) [] []]++ys):=(kx.app (by rw[aK];exact⟨_,_,rfl,by rw[VS],by rw[aQ]⟩)).app ky;exact h1.map λv x hv=>je (λp hp=>bW _ _ hp) (je (θ':=gP θ S.length ⟨N,N,N,N⟩) (λp hp=>bW _ _ hp) hv)
 rw[<-hws] at hargs;refine kX.tW hng hgv hfn hb (Q1:=λlp v h'=>∃r S' θ' ρ' h1,Qc r S'/\h'={ h1 with low:=gw lw h1.low }/\RS θ' ρ ρ' (ND (λp=>(gP (gP θ S.length ⟨N,N,N,N⟩) (S.length+1) ⟨N+1,N+1,N+1,N+1⟩) (jC os SN.length p)) h0 ⟨(O.put N (some (.ox false))).put (N+1) (some lp),F,N+2,lw⟩ S0) h1 S'/\VS θ' ρ' r v/\S0.length<=S'.length/\∀i,i<S0.length->i∉mv->(θ' i).id=((gP (gP θ S.length ⟨N,N,N,N⟩) (S.length+1) ⟨N+1,N+1,N+1,N+1⟩) (jC os SN.length i)).id) ?_ ?_
 ·rintro lp rfl;exact hsc _ _ ρ _ _ rfl (hR2.enter hr (λi j=>DY hnd hos2)) ((c7.rn _).1 hargs)
 ·rintro lp v h' rfl ⟨r,S',θ',ρ',h1,k1,rfl,k3,k4,k5,k6⟩;obtain⟨b2,hq⟩:=hpost r S' k1;obtain⟨j1,_,_⟩:=N6 (low:=gw lw h1.low) hR2 hr hKl hnd hos2 k3 k5 k6 b2 rfl;obtain⟨oo,ls,p,f2,hS2,hls,hlow2,hQ⟩:=hq;obtain⟨hlo,hfr,hset⟩:=j1.xX hS2
  have hcid:c.id=N+1:=by rw[hc]
  rw[hcid] at hlo hset
  have hstn:∀p2,jG ρ0 h0 ⟨f2,n',(fD SN os mv S').set oo .gone,{ fn:=none,qe:=N,args:=[],cap:=[] }::ds'⟩ ⟨af,n',H.set { h1 with low:=gw lw h1.low } (N+1) (.loop .exhausted p2 c.t c.n c.ps c.a c.b c.d),{ fn:=none,qe:=N,args:=[],cap:=[] }::ds'⟩:=by
   intro p2;refine⟨rfl,rfl,_,_,(hset .exhausted p2).sub ?_,λi=>?_,λi hi=>by rw[pP _ _ (by omega)];have:=hF.u i hi;rw[pP _ _ (by omega)] at this;exact this⟩
   ·intro o so e1 e2;by_cases e:o=oo
    ·subst e;rw[a4 (bD hS2)] at e1;cases e1;exact t8 rfl e2
    ·rw[a6 (λh=>e h.symm)] at e1 ⊢;exact e1
   ·by_cases hi:i<n'
    ·rw[ul hi]
     have hn:c.n=n':=by rw[hc]
     have:=hfr i (by rw[hn];exact hi)
     have e1:MC c.t i=af i:=by
      rw[hc];unfold MC;simp only;rw[nd _ _ _ hi];rfl
     rw[e1] at this;exact this
    ·rw[tK hlow2 (be hi),VS];trivial
  refine⟨ls,p,c.t,c.n,c.ps,c.a,c.b,c.d,hlo,hls,?_⟩
  cases p with
  | none=>exact⟨_,hQ,rfl,hstn none⟩
  | some cd=>exact hQ ρ0 h0 _ (hstn (some cd))
end
def EW(P:Program):List iV->H->(H->Prop)->Prop
 | [],h,K=>K h
 | d::ds,h,K=>match d.fn with
  | none=>h.aR.get d.qe=some (.ox false)/\EW P ds (h.set d.qe (.ox true)) K
  | some (.func g)=>∃fn c m,P.funcs[g]?=some fn/\fn.body=some c/\(d.args++d.cap).length+(fn.ntmps-(d.args++d.cap).length)=m/\
   kX P none c ⟨rM (d.args++d.cap),m,h,[]⟩ (λe st=>kJ e=true/\st.ds=[]/\(∃v,tY P (dj st.f st.n) st.h fn.results.toList=some v)/\EW P ds st.h K)
  | _=>False
def vA{P:Program}(hng:sY P){n:Nat}{fn:Func}{a:Act}{t:Tr AV}{N:Nat}{R:Ending->World->Prop}{σ0:Sg}{h0:H}{w0:World}{K:H->Prop}:∀(ds:List iV) (h:H),EW P ds h K->
 ∀(ds':List Deferred) (σ:Sg) (w:World),QV σ ds ds'->HR σ h w->TR σ t N a.tmps->Ext σ0 σ h0 h w0 w->
 (∀h' σ' w',K h'->HR σ' h' w'->TR σ' t N a.tmps->Ext σ0 σ' h0 h' w0 w'->∃v,(results fn a.tmps).run P w'=.ok v w'/\R (.returned v) w')->
 LeavesInM Fence.wide n P fn a.tmps R ds' .returning w
 | [],h,ho,ds',σ,w,hd,hr,ht,hE,hR=>by
  cases ds' with
  | cons d ds=>exact hd.elim
  | nil=>exact hR h σ w ho hr ht hE
 | d::ds,h,ho,ds',σ,w,hd,hr,ht,hE,hR=>by
  cases ds' with
  | nil=>exact hd.elim
  | cons d' ds'=>
   obtain⟨hd1,hd2⟩:=hd;rw[EW] at ho;unfold R9 at hd1
   cases hdf:d.fn with
   | none=>
    rw[hdf] at hd1 ho;simp only at hd1 ho;obtain⟨q,hq,rfl⟩:=hd1;obtain⟨hob,ho⟩:=ho;obtain⟨q',hq',hor⟩:=hr.obj _ _ hob;rw[hq] at hq';cases hq';have hor:w.heap[q.b]?=some (.deferred (some [])):=hor;obtain⟨s1,s2⟩:=hr.j8 (o':=.ox true) (ob:=.deferred none) hob rfl rfl hq rfl;refine⟨by simp,.inl ⟨q.b,_,rfl,?_,vA hng ds _ ho ds' σ _ hd2 s1 ht (hE.trans s2) hR⟩⟩;simp only[Instr.takeDeferred,Sem.run_bind,cA hor (by simp),Result.andThen_ok,eo hor (by simp),Sem.run_pure]
   | some f=>
    rw[hdf] at hd1 ho;simp only at hd1;obtain⟨g,cap',rfl,htar,hargs,hcap⟩:=hd1;simp only at ho;obtain⟨fn',c,m,hfn,hbody,hm,hwp⟩:=ho
    have hall':VL σ (d.args++d.cap) (d'.args++cap').toList:=by
     simp only[Array.toList_append];exact hargs.append hcap
    have hcall:=eb hng hfn (by rw[hbody];rfl) (d'.args++cap') w;refine⟨by simp,.inr ⟨λh=>by simp[Fence.wide] at h,.func g,cap',g,d'.args++cap',htar,?_,λ_ _=>trivial,?_⟩⟩
    ·rw[htar];simpa only[invoke] using hcall
    ·subst hm;have hw:=hwp Fence.wide (n-1) σ { tmps:=(d'.args++cap')++ay (fn'.ntmps-(d'.args++cap').size) undef,defers:=[] } w ⟨J7 hall' _,hr,trivial⟩ rfl;have hD:=callsDIn_of_wp (F:=Fence.wide) (n:=n-1) (u:=.returning) (R:=λe w'=>∃v h' σ',e=.returned v/\EW P ds h' K/\HR σ' h' w'/\Ext σ σ' h h' w w') hfn hbody trivial (wpIn_mono hw ?_)
     ·refine⟨hD.1,λcc cs hm hroom=>?_⟩;obtain⟨e,u',w',fr,⟨rfl,v,h',σ',rfl,q1,hh',hext⟩,hrest⟩:=hD.2 cc cs hm hroom;refine⟨.returned v,_,w',fr,?_,hrest⟩;have hset:settle .returning=.returning:=rfl;simp only[hset];exact vA hng ds h' q1 ds' σ' w' (hd2.mono hext.le) hh' (ht.mono hext.le) (hE.trans hext) hR
     ·rintro e a' w' ⟨ex,st',⟨hend,hds,⟨rr,hres⟩,h1⟩,hex,σ',hs',hE',hn'⟩
      have hde:a'.defers=[]:=by
       have:=hs'.ds;rw[hds] at this
       cases had:a'.defers with
       | nil=>rfl
       | cons x y=>rw[had] at this;exact this.elim
      obtain⟨v,k1,k2⟩:=tZ hs'.sr.t hs'.h hres
      have:bodyPost P fn' (λe w'=>∃v h' σ',e=.returned v/\EW P ds h' K/\HR σ' h' w'/\Ext σ σ' h h' w w') e a' w':=by
       rcases th hend with rfl | rfl
       ·have:e=.normal:=hex;subst this;exact⟨hde,v,k1,v,st'.h,σ',rfl,h1,hs'.h,hE'⟩
       ·have:e=.ret:=hex;subst this;exact⟨hde,v,k1,v,st'.h,σ',rfl,h1,hs'.h,hE'⟩
      exact this
def dC.rV{P:Program}(hng:sY P){g:FuncId}{fn:Func}{c:Code}{args:List AV}{h:H}{Q:AV->H->Prop}(hf:P.funcs[g]?=some fn)(hb:fn.body=some c){n:Nat}(hn:args.length+(fn.ntmps-args.length)=n)
 (hw:kX P none c ⟨rM args,n,{ h with low:=h.next },[]⟩ λe st=>kJ e=true/\EW P st.ds st.h λh''=>∃v,tY P (dj st.f st.n) h'' fn.results.toList=some v/\Q v { h'' with low:=gw h.low h''.low }):dC P (.func g) args h Q:=by
 intro σ w args' hv hr;rw[eb hng hf (by rw[hb];rfl)];have hr1:HR σ { h with low:=h.next } w:=⟨hr.obj,hr.fresh,hr.sep,hr.cg,Nat.le_refl _⟩;subst hn;have hw:=hw Fence.wide 0 σ { tmps:=args'++ay (fn.ntmps-args'.size) undef,defers:=[] } w ⟨J7 hv _,hr1,trivial⟩ rfl;refine callsIn_wide.1 (callsIn_of_wp_marks (F:=Fence.wide) (n:=0) hf hb trivial (wpIn_mono hw ?_));rintro e a' w' ⟨exx,st',⟨hend,hl⟩,hexx,σ',hs',hE',hn'⟩
 have key:LeavesInM Fence.wide 0 P fn a'.tmps (λe w''=>∃v,e=.returned v/\EU σ h w Q v w'') a'.defers .returning w':=by
  refine vA hng st'.ds st'.h hl a'.defers σ' w' hs'.ds hs'.h hs'.sr.t hE' ?_;rintro h'' σ'' w'' ⟨v,hres,hQ⟩ hh'' ht'' hE'';obtain⟨x,k1,k2⟩:=tZ ht'' hh'' hres;have:=lower hr hh'' hE'';exact⟨x,k1,x,rfl,v,_,hQ,σ'',k2,this.1,this.2⟩
 rcases th hend with rfl | rfl
 ·have:e=.normal:=hexx;subst this;exact key
 ·have:e=.ret:=hexx;subst this;exact key
end
end Go.Ev
