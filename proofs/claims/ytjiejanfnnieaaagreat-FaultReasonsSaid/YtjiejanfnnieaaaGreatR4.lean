/- Lemmas of this claim, each with its conditions. -/
import Derived.Test.YtjiejanfnnieaaaGreatR3
import Derived.Test.YtjiejanfnnieaaaGreatR2
import Derived.Lib.Overlaps
set_option linter.all false
open Nat (blt beq ble)
open List (mem_append mem_range mem_map mem_filter all_eq_true map_nil ofFn)
open Bool renaming and_eq_true -> aa, or_eq_true -> d1
open Array renaming getD_eq_getD_getElem? -> ac, getElem?_eq_getElem -> ap, toList_append -> be, getElem?_setIfInBounds -> bi, getElem?_toList -> bk, replicate -> b7
open Nat renaming le_of_not_lt -> aj, add_sub_cancel_left -> ax, le_refl -> a6, lt_of_lt_of_le -> ba, le_trans -> bd, lt_succ_self -> bt, zero_add -> b6, zero_le -> b9, sub_zero -> ch, lt_irrefl -> cv, le_succ_of_le -> c5, sub_self -> dd, not_lt_zero -> d0, beq_refl -> d5
open List renaming getElem?_map -> al, mem_cons_self -> am, getElem?_cons_succ -> ay, getElem?_set_self -> aT, getElem?_cons_zero -> a7, getElem?_set_ne -> a8, length_map -> a9, getElem?_eq_none -> bc, mem_cons_of_mem -> bh, getElem_mem -> bq, range -> bv, getElem?_append_right -> bw, getElem_of_mem -> bF, drop_eq_getElem_cons -> bN, map_cons -> b0, replicate -> b8, getElem?_toArray -> ce, getElem?_append -> ci, mem_of_getElem? -> cn, mem_map_of_mem -> co, toList_toArray -> ct, getElem?_ofFn -> c3, getElem?_take -> c4, all_cons -> c6, reverse_cons -> dc, drop_length -> dl, filter_cons -> dt, getElem_inj -> dv, length_ofFn -> dE, append_nil -> d2, map_append -> d3, nodup_cons -> d4
namespace Go.Ev
noncomputable section
section
variable {θ θ':Nat->Loc} {ρ ρ0 ρ':ko} {P:Program} {h0:En} {h h1:H} {S S' S0:List SO}
def oE(K:Nat):Fm:=(bv K).map λi=>(1000000+i,SV.ptr i 0)
def FD(g:Nat->SV):∀(l:List Nat) (j:Nat),aO (l.map λi=>(1000000+i,g i)) j=if j≥1000000/\(j-1000000)∈l then g (j-1000000) else .any
 | [],j=>by simp[aO]
 | i::l,j=>by
  show(if 1000000+i=j then g i else aO (l.map λi=>(1000000+i,g i)) j)=_;rw[FD g l j];by_cases h:1000000+i=j
  ·subst h;rw[ut rfl,ut ⟨by omega,by rw[ax];exact am⟩,ax]
  ·rw[v6 h];by_cases h2:j≥1000000/\(j-1000000)∈l
   ·rw[ut h2,ut ⟨h2.1,bh _ h2.2⟩]
   ·rw[v6 h2,v6];rintro⟨h3,h4⟩
    rcases t7 h4 with e | e
    ·omega
    ·exact h2 ⟨h3,e⟩
def tC:∀(f g:Fm) (j:Nat),(∀v,(j,v)∉f)->aO (f++g) j=aO g j
 | [],g,j,_=>rfl
 | (d,v)::f,g,j,h=>by
  show(if d=j then v else aO (f++g) j)=_;rw[v6 (λe=>h v (by rw[e];exact am)),tC f g j λw hw=>h w (bh _ hw)]
def vf:∀(f g:Fm) (j:Nat) {v:SV},(j,v)∈f->aO (f++g) j=aO f j
 | [],g,j,v,h=>by simp at h
 | (d,w)::f,g,j,v,h=>by
  show(if d=j then w else aO (f++g) j)=(if d=j then w else aO f j);by_cases e:d=j
  ·rw[ut e,ut e]
  ·rw[v6 e,v6 e]
   rcases t7 h with h | h
   ·simp only[m8] at h;exact un h.1.symm e
   ·exact vf f g j h
def yk:∀(vs:List SV) (i j:Nat),i<=j->j<i+vs.length->∃v,(j,v)∈kX i vs
 | [],i,j,h1,h2=>by simp at h2;omega
 | v::vs,i,j,h1,h2=>by
  by_cases e:i=j
  ·subst e;exact⟨v,am⟩
  ·simp only[i7] at h2;obtain⟨w,hw⟩:=yk vs (i+1) j i4 i4;exact⟨w,bh _ hw⟩
def u7:∀(vs:List SV) (i j:Nat) (v:SV),i+vs.length<=j->(j,v)∉kX i vs
 | [],i,j,v,h=>by simp[kX]
 | w::vs,i,j,v,h=>by
  simp only[i7] at h;intro hm
  rcases t7 hm with e | e
  ·simp only[m8] at e;omega
  ·exact u7 vs (i+1) j v i4 e
def Lh(P:Program)(fn:Func)(K:Nat)(mv:List Nat)(Q:SV->List SO->Prop):Ex->ez->Prop:=λe st=>kE e=true/\st.ds=[]/\(∃vs,pd P st.f st.S fn.results.toList=some vs/\Q (eC vs) st.S)/\K<=st.S.length/\∀i,i<K->i∉mv->aO st.f (1000000+i)=.ptr i 0
variable{os:List Nat}{i:Nat}
def mY{B o:Nat}(h:os[i]?=some o):j8 os B i=o:=by unfold j8;rw[h]
def nX{B:Nat}(h:os.length<=i):j8 os B i=B+(i-os.length):=by unfold j8;rw[List.getElem?_eq_none h]
variable{j:Nat}
def DY{B:Nat}(hn:os.Nodup)(hB:∀o∈os,o<B)(h:j8 os B i=j8 os B j):i=j:=by
 by_cases hi:i<os.length
 ·have e1:=mY (B:=B) (jp hi);by_cases hj:j<os.length
  ·have e2:=mY (B:=B) (jp hj);rw[e1,e2] at h;exact(dv hn).1 h
  ·have e2:=nX (B:=B) (aj hj);rw[e1,e2] at h;have:=hB _ (bq hi);omega
 ·have e1:=nX (B:=B) (aj hi);by_cases hj:j<os.length
  ·have e2:=mY (B:=B) (jp hj);rw[e1,e2] at h;have:=hB _ (bq hj);omega
  ·have e2:=nX (B:=B) (aj hj);rw[e1,e2] at h;omega
def de(os mv:List Nat)(B J:Nat):List Nat:=mv.map (λi=>j8 os B i)++(bv J).map λj=>B+j
def dP(S:List SO)(os mv:List Nat)(S':List SO):List SO:=
 gK (gg (de os mv S.length (S'.length-os.length)) S) os (S'.map (qa (j8 os S.length)))
def Gs{α:Type}{p q:α->Prop}(h:¬∀x,p x->q x):∃x,p x/\¬q x:=by
 apply Classical.byContradiction;intro hn;exact h λx hp=>Classical.byContradiction λhq=>hn ⟨x,hp,hq⟩
def NY(θ:Nat->Loc)(h0:En)(h:H)(S0:List SO):En where
 h:={ h with low:=h.next }
 pr:=λj=>j<h.next/\∀i so,S0[i]?=some so->so≠.gone->j≠(θ i).x/\j≠(θ i).y
 pf:=λj=>j<h.next/\∀i so,S0[i]?=some so->so≠.gone->j≠(θ i).bX
 lo:=h0.lo
 w:=λ_=>lV
variable{r:Nat->Nat}
def RS.enter(hR:RS θ ρ0 ρ h0 h S)(hr:∀i so,S0[i]?=some so->S[r i]?=some (qa r so))(hi:∀i j,r i=r j->i=j):
 RS (λp=>θ (r p)) ρ ρ (NY (λp=>θ (r p)) h0 h S0) { h with low:=h.next } S0:=by
 have hlo:h0.lo<=h.next:=bd hR.lw hR.ln;refine⟨⟨λj hj=>hj.1,λj hj=>hj.1,λj hj=>?_,hlo⟩,a6 _,λ_ _=>rfl,λ_ _=>rfl,hlo,a6 _,?_,?_,?_,λid ob h=>.inl h⟩
 ·show h0.lo<=j;by_cases hlt:j<h.next
  ·have:¬∀(q:Nat×SO),(S0[q.1]?=some q.2/\q.2≠.gone)->(j≠(θ (r q.1)).x/\j≠(θ (r q.1)).y):=λhall=>hj ⟨hlt,λi so h1 h2=>hall (i,so) ⟨h1,h2⟩⟩;obtain⟨⟨i,so⟩,⟨h1,h2⟩,h3⟩:=Gs this;obtain⟨k,_⟩:=hR.obj _ _ (hr i so h1) (fa.2 h2);by_cases hx:j=(θ (r i)).x
   ·rw[hx];exact hR.ok.lo _ k.x.1
   ·have:j=(θ (r i)).y:=Decidable.byContradiction λhy=>h3 ⟨hx,hy⟩;rw[this];exact hR.ok.lo _ k.y.1
  ·exact bd hlo (aj hlt)
 ·intro i so h1 h2;obtain⟨k,k2⟩:=hR.obj _ _ (hr i so h1) (fa.2 h2);exact⟨⟨k.e,⟨λhp=>(hp.2 i so h1 h2).1 rfl,k.x.2⟩,⟨λhp=>(hp.2 i so h1 h2).2 rfl,k.y.2⟩,⟨λhp=>hp.2 i so h1 h2 rfl,k.f.2⟩⟩,(ny.rn r).1 k2⟩
 ·intro i j so so' hij h1 h2 h3 h4;exact hR.sep _ _ _ _ (λe=>hij (hi _ _ e)) (hr i so h1) (fa.2 h2) (hr j so' h3) (fa.2 h4)
 ·intro id ob h1;obtain⟨r1,r2,r3⟩:=hR.row id ob h1;exact⟨r1,r2,λi so h2 h3=>r3 _ _ (hr i so h2) (fa.2 h3)⟩
end
section
variable {θ θ':Nat->Loc} {ρ ρ0 ρ':ko} {P:Program} {h0:En} {h h1:H} {S S' S0:List SO}
def RH(θ θ':Nat->Loc)(r:Nat->Nat)(J:Nat):Nat->Loc:=λp=>match (bv J).find? λi=>beq (r i) p with
 | some i=>θ' i
 | none=>θ p
variable{r:Nat->Nat}{i:Nat}
def TA{J:Nat}(hi:∀i j,r i=r j->i=j)(h:i<J):RH θ θ' r J (r i)=θ' i:=by
 unfold RH
 cases hf:(bv J).find? λj=>beq (r j) (r i) with
 | none=>
  have:=List.find?_eq_none.1 hf i (mem_range.2 h);simp at this
 | some j=>
  have:=List.find?_some hf;rw[hi j i (Nat.eq_of_beq_eq_true this)]
def RI{J p:Nat}(h:∀i,i<J->r i≠p):RH θ θ' r J p=θ p:=by
 unfold RH;rw[List.find?_eq_none.2 λi hi=>by simpa using h i (mem_range.1 hi)]
def vM(ρ ρ':ko):ko:=λid=>match ρ id with
 | some ob=>some ob
 | none=>ρ' id
variable{id:Nat}
def GN{ob:AO}(h:ρ id=some ob):vM ρ ρ' id=some ob:=by unfold vM;rw[h]
variable{os:List Nat}{mv:List Nat}
def Oz{low:Nat}(hR:RS θ ρ0 ρ h0 h S)(hr:∀(i:Nat) so,S0[i]?=some so->S[j8 os S.length i]?=some (qa (j8 os S.length) so))(hK:os.length=S0.length)(hnd:os.Nodup)(hos:∀o∈os,o<S.length)
 (hR':RS θ' ρ ρ' (NY (λp=>θ (j8 os S.length p)) h0 h S0) h1 S') (hl:S0.length<=S'.length) (hid:∀i,i<S0.length->i∉mv->(θ' i).id=(θ (j8 os S.length i)).id) (hb:u9 S'.length S'=true) (hlow:low=hY h.low h1.low):
 RS (RH θ θ' (j8 os S.length) S'.length) ρ0 (vM ρ ρ') h0 { h1 with low:=low } (dP S os mv S')/\
 (∀v x,VS θ ρ v x->VS (RH θ θ' (j8 os S.length) S'.length) (vM ρ ρ') (mV (de os mv S.length (S'.length-os.length)) v) x)/\
 ∀v x,dD S'.length v=true->VS θ' ρ' v x->VS (RH θ θ' (j8 os S.length) S'.length) (vM ρ ρ') (fq (j8 os S.length) v) x:=by
 have hi:∀i j,j8 os S.length i=j8 os S.length j->i=j:=λi j=>DY hnd hos;generalize hR0:j8 os S.length=r at *;generalize hT:RH θ θ' r S'.length=θt
 have hT1:∀i,i<S'.length->θt (r i)=θ' i:=λi h=>by rw[<-hT];exact TA hi h
 have hT2:∀p,(∀i,i<S'.length->r i≠p)->θt p=θ p:=λp h=>by rw[<-hT];exact RI h
 have hjn:∀i,r i<S.length↔i<S0.length:=by
  intro i;by_cases h:i<os.length
  ·have e:=mY (B:=S.length) (jp h);rw[hR0] at e;rw[e];exact⟨λ_=>by omega,λ_=>hos _ (bq h)⟩
  ·have e:=nX (B:=S.length) (aj h);rw[hR0] at e;rw[e];exact⟨λ_=>by omega,λ_=>by omega⟩
 have hmem:∀p,p∈de os mv S.length (S'.length-os.length)↔(∃i,i∈mv/\r i=p)\/∃i,S0.length<=i/\i<S'.length/\r i=p:=by
  intro p;unfold de;rw[mem_append,mem_map,mem_map,hR0];refine or_congr Iff.rfl ⟨?_,?_⟩
  ·rintro⟨j,hj,rfl⟩;refine⟨os.length+j,by omega,by have:=mem_range.1 hj;omega,?_⟩;rw[<-hR0,nX i4];omega
  ·rintro⟨i,h1,h2,rfl⟩;refine⟨i-os.length,mem_range.2 i4,?_⟩;rw[<-hR0,nX i4]
 have hpr:∀j,h0.pr j->(NY (λp=>θ (r p)) h0 h S0).pr j:=by
  intro j hj;refine⟨ba (hR.ok.pr j hj) hR.nx,λi so h1 h2=>?_⟩;obtain⟨k,_⟩:=hR.obj _ _ (hr i so h1) (fa.2 h2);exact⟨λe=>k.x.1 (e▸hj),λe=>k.y.1 (e▸hj)⟩
 have hpf:∀j,h0.pf j->(NY (λp=>θ (r p)) h0 h S0).pf j:=by
  intro j hj;refine⟨ba (hR.ok.pf j hj) hR.nx,λi so h1 h2=>?_⟩;obtain⟨k,_⟩:=hR.obj _ _ (hr i so h1) (fa.2 h2);exact λe=>k.f.1 (e▸hj)
 have hlt:∀i so,S0[i]?=some so->i<S'.length:=λi so h=>ba (bo h) hl
 have hoth:∀p so,(∀i,i<S'.length->r i≠p)->S[p]?=some so->so≠.gone->
  (NY (λp=>θ (r p)) h0 h S0).pr (θ p).x/\(NY (λp=>θ (r p)) h0 h S0).pr (θ p).y/\(NY (λp=>θ (r p)) h0 h S0).pf (θ p).bX:=by
  intro p so hp h1 h2;obtain⟨k,_⟩:=hR.obj p so h1 h2;have sp:=λi s (e1:S0[i]?=some s) (e2:s≠.gone)=>hR.sep p (r i) so _ (λe=>hp i (hlt i s e1) e.symm) h1 h2 (hr i s e1) (fa.2 e2);exact⟨⟨k.x.2,λi s e1 e2=>⟨(sp i s e1 e2).xx,(sp i s e1 e2).xy⟩⟩,⟨k.y.2,λi s e1 e2=>⟨(sp i s e1 e2).yx,(sp i s e1 e2).yy⟩⟩,⟨k.f.2,λi s e1 e2=>(sp i s e1 e2).f⟩⟩
 have hob:∀j,(NY (λp=>θ (r p)) h0 h S0).pr j->h1.aW.get j=h.aW.get j:=λj hj=>hR'.ob j hj;have hfm:∀j,(NY (λp=>θ (r p)) h0 h S0).pf j->h1.dC.get j=h.dC.get j:=λj hj=>hR'.fm j hj
 have hrow:∀id ob,ρ id=some ob->(NY (λp=>θ (r p)) h0 h S0).pr id:=by
  intro id ob e;obtain⟨r1,_,r3⟩:=hR.row id ob e;exact⟨r1,λi s e1 e2=>r3 _ _ (hr i s e1) (fa.2 e2)⟩
 have hnew:∀id ob,ρ' id=some ob->vM ρ ρ' id=some ob:=by
  intro id ob e;unfold vM
  cases e2:ρ id with
  | none=>exact e
  | some ob2=>
   have a:=(hR'.row id ob e).2.1;rw[hob id (hrow id ob2 e2),(hR.row id ob2 e2).2.1] at a;exact a
 have hfr0:∀(ρx:ko) v x,VS θ ρx v x->VS θt ρx (mV (de os mv S.length (S'.length-os.length)) v) x:=by
  intro ρx v x hv;refine VS.ids (θ:=HM θ (de os mv S.length (S'.length-os.length)) θt) (λp=>?_) (F6 hv);by_cases hp:p∈de os mv S.length (S'.length-os.length)
  ·rw[x7 (.inl hp)]
  ·rw[HN hp];rw[hmem] at hp;by_cases him:∃i,i<S'.length/\r i=p
   ·obtain⟨i,e1,rfl⟩:=him;have e2:i<S0.length:=Nat.lt_of_not_le λe=>hp (.inr ⟨i,e,e1,rfl⟩);rw[hT1 i e1,hid i e2 (λe=>hp (.inl ⟨i,e,rfl⟩))]
   ·rw[hT2 p λi e1 e2=>him ⟨i,e1,e2⟩]
 have hfr:∀v x,VS θ ρ v x->VS θt (vM ρ ρ') (mV (de os mv S.length (S'.length-os.length)) v) x:=λv x hv=>hfr0 _ _ _ (hv.mono λ_ _ e=>GN e);have hsets:=λp=>CC (os:=os) (S:=gg (de os mv S.length (S'.length-os.length)) S) (ss:=S'.map (qa r)) p hnd (λo ho=>by rw[js];exact hos o ho) (by rw[a9];omega)
 have hA:∀i,i<S'.length->(dP S os mv S')[r i]?=(S'[i]?).map (qa r):=by
  intro i e;unfold dP;rw[hR0];by_cases e1:i<os.length
  ·have e2:os[i]?=some (r i):=by
    have:=mY (B:=S.length) (jp e1);rw[hR0] at this;rw[this,jp e1]
   rw[(hsets (r i)).1 i e2,al]
  ·have e2:=nX (B:=S.length) (aj e1);rw[hR0] at e2;have:=(hsets (r i)).2.2 (by rw[js,e2];omega);rw[this,js,e2,al,show os.length+(S.length+(i-os.length)-S.length)=i by omega]
 have hB:∀p so,(∀i,i<S'.length->r i≠p)->(dP S os mv S')[p]?=some so->so≠.gone->∃s,S[p]?=some s/\s≠.gone/\so=sQ (mV (de os mv S.length (S'.length-os.length))) s:=by
  intro p so hp e1 e2;unfold dP at e1;rw[hR0] at e1
  have hno:p∉os:=by
   intro hm;obtain⟨i,hi1,hi2⟩:=bF hm;have e3:=mY (B:=S.length) (jp hi1);rw[hR0,hi2] at e3;exact hp i i4 e3
  by_cases hpl:p<S.length
  ·rw[(hsets p).2.1 hno (by rw[js];exact hpl),ze] at e1;obtain⟨s,hs,rfl⟩:=az e1;exact⟨s,hs,Cg e2,rfl⟩
  ·rw[(hsets p).2.2 (by rw[js];omega),js,al] at e1;obtain⟨s,hs,_⟩:=az e1;have:=bo hs;refine un ?_ (hp (os.length+(p-S.length)) this);rw[<-hR0,nX i4];omega
 have hcase:∀p so,(dP S os mv S')[p]?=some so->so≠.gone->(∃i s,i<S'.length/\r i=p/\S'[i]?=some s/\s≠.gone/\so=qa r s)\/((∀i,i<S'.length->r i≠p)/\∃s,S[p]?=some s/\s≠.gone/\so=sQ (mV (de os mv S.length (S'.length-os.length))) s):=by
  intro p so e1 e2;by_cases him:∃i,i<S'.length/\r i=p
  ·obtain⟨i,e3,rfl⟩:=him;rw[hA i e3] at e1;obtain⟨s,hs,rfl⟩:=az e1;exact .inl ⟨i,s,e3,rfl,hs,fa.1 e2,rfl⟩
  ·have hp:∀i,i<S'.length->r i≠p:=λi e3 e4=>him ⟨i,e3,e4⟩;exact .inr ⟨hp,hB p so hp e1 e2⟩
 have hrn:∀v x,dD S'.length v=true->VS θ' ρ' v x->VS θt (vM ρ ρ') (fq r v) x:=by
  intro v x e1 e2;rw[VS.rn];refine VS.lE (θ:=θ') (λq hq=>?_) e1 (e2.mono hnew);rw[hT1 q hq]
 refine⟨⟨hR.ok,bd hR.nx hR'.nx,λj hj=>(hob j (hpr j hj)).trans (hR.ob j hj),λj hj=>(hfm j (hpf j hj)).trans (hR.fm j hj),?_,?_,?_,?_,?_,?_⟩,hfr,hrn⟩
 ·show h0.lo<=low;rw[hlow];exact nP hR.lw hR'.lw
 ·show low<=h1.next;rw[hlow];exact bd (dR _ _).2 hR'.ln
 ·intro p so e1 e2
  rcases hcase p so e1 e2 with⟨i,s,e3,rfl,e4,e5,rfl⟩ | ⟨hp,s,e3,e4,rfl⟩
  ·rw[hT1 i e3];obtain⟨k,k2⟩:=hR'.obj i s e4 e5;refine⟨⟨k.e,⟨λe=>k.x.1 (hpr _ e),k.x.2⟩,⟨λe=>k.y.1 (hpr _ e),k.y.2⟩,⟨λe=>k.f.1 (hpf _ e),k.f.2⟩⟩,?_⟩;rw[ny.rn];refine ny.lE (θ:=θ') (λq hq=>by rw[hT1 q hq]) (Fi hb e4) ?_;exact k2.mono hnew rfl rfl
  ·rw[hT2 p hp];obtain⟨k,k2⟩:=hR.obj p s e3 e4;obtain⟨o1,o2,o3⟩:=hoth p s hp e3 e4;refine⟨k.mono hR'.nx,(k2.mono (h':=h) (λ_ _ e=>GN e) rfl rfl).map (hfr0 _) ?_ (hfm _ o3)⟩
   rcases k.e with e | e
   ·rw[e];exact hob _ o1
   ·rw[e];exact hob _ o2
 ·intro p q so so' hpq e1 e2 e3 e4
  rcases hcase p so e1 e2 with⟨i,s,a3,rfl,a4,a5,rfl⟩ | ⟨hp,s,a3,a4,rfl⟩
  ·rcases hcase q so' e3 e4 with⟨j,s',b3,rfl,b4,b5,rfl⟩ | ⟨hq,s',b3,b4,rfl⟩
   ·rw[hT1 i a3,hT1 j b3];exact hR'.sep i j s s' (λe=>hpq (by rw[e])) a4 a5 b4 b5
   ·rw[hT1 i a3,hT2 q hq];obtain⟨k,_⟩:=hR'.obj i s a4 a5;obtain⟨o1,o2,o3⟩:=hoth q s' hq b3 b4;exact⟨λe=>k.x.1 (by rw[e];exact o1),λe=>k.x.1 (by rw[e];exact o2),λe=>k.y.1 (by rw[e];exact o1),λe=>k.y.1 (by rw[e];exact o2),λe=>k.f.1 (by rw[e];exact o3)⟩
  ·rcases hcase q so' e3 e4 with⟨j,s',b3,rfl,b4,b5,rfl⟩ | ⟨hq,s',b3,b4,rfl⟩
   ·rw[hT2 p hp,hT1 j b3];obtain⟨k,_⟩:=hR'.obj j s' b4 b5;obtain⟨o1,o2,o3⟩:=hoth p s hp a3 a4;exact⟨λe=>k.x.1 (by rw[<-e];exact o1),λe=>k.y.1 (by rw[<-e];exact o1),λe=>k.x.1 (by rw[<-e];exact o2),λe=>k.y.1 (by rw[<-e];exact o2),λe=>k.f.1 (by rw[<-e];exact o3)⟩
   ·rw[hT2 p hp,hT2 q hq];exact hR.sep p q s s' hpq a3 a4 b3 b4
 ·intro id ob e
  have hfull:id<h1.next/\h1.aW.get id=some ob:=by
   unfold vM at e
   cases e2:ρ id with
   | some ob2=>
    rw[e2] at e;cases e;exact⟨ba (hR.row id _ e2).1 hR'.nx,by rw[hob id (hrow id _ e2)];exact(hR.row id _ e2).2.1⟩
   | none=>
    rw[e2] at e;exact⟨(hR'.row id ob e).1,(hR'.row id ob e).2.1⟩
  refine⟨hfull.1,hfull.2,?_⟩;intro p so e1 e2;unfold vM at e
  rcases hcase p so e1 e2 with⟨i,s,a3,rfl,a4,a5,rfl⟩ | ⟨hp,s,a3,a4,rfl⟩
  ·rw[hT1 i a3]
   cases e3:ρ id with
   | some ob2=>
    obtain⟨k,_⟩:=hR'.obj i s a4 a5;exact⟨λe=>k.x.1 (by rw[<-e];exact hrow id _ e3),λe=>k.y.1 (by rw[<-e];exact hrow id _ e3)⟩
   | none=>
    rw[e3] at e;exact(hR'.row id ob e).2.2 i s a4 a5
  ·rw[hT2 p hp]
   cases e3:ρ id with
   | some ob2=>exact(hR.row id _ e3).2.2 p s a3 a4
   | none=>
    rw[e3] at e;obtain⟨o1,o2,_⟩:=hoth p s hp a3 a4
    rcases hR'.mE id ob e with e4 | e4
    ·rw[e3] at e4;cases e4
    ·exact⟨λe5=>e4 (by rw[e5];exact o1),λe5=>e4 (by rw[e5];exact o2)⟩
 ·intro id ob e;unfold vM at e
  cases e2:ρ id with
  | some ob2=>rw[e2] at e;cases e;exact hR.mE id _ e2
  | none=>
   rw[e2] at e
   rcases hR'.mE id ob e with e4 | e4
   ·rw[e2] at e4;cases e4
   ·exact .inr λe5=>e4 (hpr id e5)
variable{ro:Option Nat}{all:List Oper}{o:Oper}{l:List Oper}{f:Fm}{n:Nat}{ds:List jG}{K:ez->Prop}{d:Nat}{g:FuncId}{vs:List SV}
def aN.sc{c:Call}{ws:List SV}{Q:SV->List SO->Prop}(os:List Nat)(hst:dg all n [o]=true)(hop:o.op=.call c)(hdst:o.dst=some d)(hw:bT all f o.guard=some true)(hdy:fR (.call c)=true)
 (hc:iN P f c=some (g,vs)) (hq:SC P g ws S0 mv Q) (hvs:mG (j8 os S.length) ws=vs) (hK:os.length=S0.length) (hnd:os.Nodup) (hos:∀(i:Nat) so,S0[i]?=some so->∃o,os[i]?=some o/\S[o]?=some (qa (j8 os S.length) so))
 (hb:∀r S',Q r S'->dD S'.length r=true/\u9 S'.length S'=true)
 (hk:∀r S',Q r S'->aN P ro all l ⟨(d,fq (j8 os S.length) r)::oy (de os mv S.length (S'.length-os.length)) f,n,dP S os mv S',ds⟩ K):aN P ro all (o::l) ⟨f,n,S,ds⟩ K:=by
 rintro ρ0 h0 ⟨af,n',h,ds'⟩ ⟨rfl,rfl,θ,ρ,hR,hF⟩;subst hvs
 have hd:blt d n'=true:=by
  have:=(fO hst).1;rw[hdst] at this;exact this
 have hos2:∀o∈os,o<S.length:=by
  intro o ho;obtain⟨i,hi1,hi2⟩:=bF ho
  have:i<S0.length:=by omega
  obtain⟨o',e1,e2⟩:=hos i _ (jp this);rw[jp hi1] at e1;cases e1;rw[<-hi2];exact bo e2
 have hr:∀(i:Nat) so,S0[i]?=some so->S[j8 os S.length i]?=some (qa (j8 os S.length) so):=by
  intro i so e;obtain⟨o,e1,e2⟩:=hos i so e;rw[mY e1];exact e2
 obtain⟨xs,cap,e1,e2⟩:=yr hF hc;refine .c hop hdst (dn hF (fb hst hw)) hdy hd e1 rfl (hq _ _ ρ h _ rfl (hR.enter hr (λi j=>DY hnd hos2)) ((cZ.rn _).1 e2)) ?_;rintro v h' ⟨r,S',θ',ρ',h1,k1,rfl,k3,k4,k5,k6⟩;obtain⟨b1,b2⟩:=hb r S' k1;obtain⟨j1,j2,j3⟩:=Oz (low:=hY h.low h1.low) hR hr hK hnd hos2 k3 k5 k6 b2 rfl;refine hk r S' k1 ρ0 h0 _ ⟨rfl,rfl,_,_,j1,?_⟩
 have hF2:FR (RH θ θ' (j8 os S.length) S'.length) (vM ρ ρ') (aO (oy (de os mv S.length (S'.length-os.length)) f)) af n' (HQ h0.w ds'):=
  ⟨λi=>by rw[yH];exact j2 _ _ (hF.v i),hF.u⟩
 exact hF2.put (fZ hd) (j3 _ _ b1 k4)
end
section
variable {P:Program} {ro:Option Nat} {f:Fm} {n:Nat} {S:List SO} {ds:List jG} {r:Nat->Nat} {B:Nat}
mutual
def vE{o:Nat}:∀{v:SV},mC v=true->names o v=false
 | .a v,_=>ml v
 | .sl n e cs,_=>Gp n e cs
 | .im ks vs,_=>Gm ks vs
 | .ip cs,_=>Gn cs
 | .any,_=>Ci
 | .e0 e,_=>Gl e
 | .ag cs,h=>by rw[names];exact cm (by rw[mC] at h;exact h)
 | .cx cs,h=>by rw[names];exact cm (by rw[mC] at h;exact h)
 | .fn g a b,h=>by rw[mC,aa] at h;rw[names,cm h.1,cm h.2];rfl
 | .iface t v,h=>by rw[names];exact vE (by rw[mC] at h;exact h)
 | .ptr _ _,h=>by simp[mC] at h
 | .map _,h=>by simp[mC] at h
 | .buf _ _ _ _,h=>by simp[mC] at h
 | .sub _ _ _ _ _,h=>by simp[mC] at h
def cm{o:Nat}:∀{vs:List SV},cj vs=true->eI o vs=false
 | [],_=>rfl
 | d::ds,h=>by rw[cj,aa] at h;rw[eI,vE h.1,cm h.2];rfl
end
variable{v:SV}
def vx{o:Nat}(h:mC v=true):aP o v=v:=by unfold aP;rw[vE h];rfl
def bV{o:Nat}:∀{vs:List SV},cj vs=true->vs.map (aP o)=vs
 | [],_=>rfl
 | d::ds,h=>by rw[cj,aa] at h;rw[b0,vx h.1,bV h.2]
mutual
def KV:∀{v:SV},mC v=true->fq r v=v
 | .a v,_=>by rw[fq]
 | .sl n e cs,_=>by rw[fq]
 | .im ks vs,_=>by rw[fq]
 | .ip cs,_=>by rw[fq]
 | .any,_=>by rw[fq]
 | .e0 e,_=>by rw[fq]
 | .ag cs,h=>by rw[fq,bl (by rw[mC] at h;exact h)]
 | .cx cs,h=>by rw[fq,bl (by rw[mC] at h;exact h)]
 | .fn g a b,h=>by rw[mC,aa] at h;rw[fq,bl h.1,bl h.2]
 | .iface t v,h=>by rw[fq,KV (by rw[mC] at h;exact h)]
 | .ptr _ _,h=>by simp[mC] at h
 | .map _,h=>by simp[mC] at h
 | .buf _ _ _ _,h=>by simp[mC] at h
 | .sub _ _ _ _ _,h=>by simp[mC] at h
def bl:∀{vs:List SV},cj vs=true->mG r vs=vs
 | [],_=>by rw[mG]
 | d::ds,h=>by rw[cj,aa] at h;rw[mG,KV h.1,bl h.2]
end
mutual
def gq:∀{v:SV},mC v=true->dD B v=true
 | .a v,_=>by rw[dD];all_goals (intros;contradiction)
 | .sl n e cs,_=>by rw[dD];all_goals (intros;contradiction)
 | .im ks vs,_=>by rw[dD];all_goals (intros;contradiction)
 | .ip cs,_=>by rw[dD];all_goals (intros;contradiction)
 | .any,_=>by rw[dD];all_goals (intros;contradiction)
 | .e0 e,_=>by rw[dD];all_goals (intros;contradiction)
 | .ag cs,h=>by rw[dD];exact bM (by rw[mC] at h;exact h)
 | .cx cs,h=>by rw[dD];exact bM (by rw[mC] at h;exact h)
 | .fn g a b,h=>by rw[mC,aa] at h;rw[dD,bM h.1,bM h.2];rfl
 | .iface t v,h=>by rw[dD];exact gq (by rw[mC] at h;exact h)
 | .ptr _ _,h=>by simp[mC] at h
 | .map _,h=>by simp[mC] at h
 | .buf _ _ _ _,h=>by simp[mC] at h
 | .sub _ _ _ _ _,h=>by simp[mC] at h
def bM:∀{vs:List SV},cj vs=true->iy B vs=true
 | [],_=>rfl
 | d::ds,h=>by rw[cj,aa] at h;rw[iy,gq h.1,bM h.2];rfl
end
def mS:∀{a b:List SV},cj a=true->cj b=true->cj (a++b)=true
 | [],_,_,h=>h
 | d::ds,b,h,g=>by
  rw[cj,aa] at h;show cj (d::(ds++b))=true;rw[cj,h.1,mS h.2 g];rfl
def aC{α:Type}{enc:α->List SV}(h:∀x,cj (enc x)=true):∀l:List α,cj (l.flatMap enc)=true
 | []=>rfl
 | a::l=>by rw[List.flatMap_cons];exact mS (h a) (aC h l)
def Oj(l:List (List Nat)):cj (l.flatMap (aD ah))=true:=aC (λ_=>rfl) l
def Oi(l:List Int):cj (l.flatMap (aD ab))=true:=aC (λ_=>rfl) l
def F5(o:Nat)(l:List (List Nat)):(l.flatMap (aD ah)).map (aP o)=l.flatMap (aD ah):=bV (Oj l)
def F4(o:Nat)(l:List Int):(l.flatMap (aD ab)).map (aP o)=l.flatMap (aD ab):=bV (Oi l)
def Ps(l:List (List Nat)):mG r (l.flatMap (aD ah))=l.flatMap (aD ah):=bl (Oj l)
def Pr(l:List Int):mG r (l.flatMap (aD ab))=l.flatMap (aD ab):=bl (Oi l)
def Ka(l:List (List Nat)):iy B (l.flatMap (aD ah))=true:=bM (Oj l)
def J9(l:List Int):iy B (l.flatMap (aD ab))=true:=bM (Oi l)
def Pj(v:AV):fq r (.a v)=.a v:=by rw[fq]
def Pl(e:Nat):fq r (.e0 e)=.e0 e:=by rw[fq]
def Pq(n e:Nat)(cs:List SV):fq r (.sl n e cs)=.sl n e cs:=by rw[fq]
def KU:fq r .any=.any:=by rw[fq]
def Po(ks:List AV)(vs:List SV):fq r (.im ks vs)=.im ks vs:=by rw[fq]
def Pp(cs:List SV):fq r (.ip cs)=.ip cs:=by rw[fq]
def KX(o off:Nat):fq r (.ptr o off)=.ptr (r o) off:=by rw[fq]
def KW(o:Nat):fq r (.map o)=.map (r o):=by rw[fq]
def DZ(o n e:Nat)(c:Option Nat):fq r (.buf o n e c)=.buf (r o) n e c:=by rw[fq]
def KY(o off n e:Nat)(c:Option Nat):fq r (.sub o off n e c)=.sub (r o) off n e c:=by rw[fq]
def Pk(cs:List SV):fq r (.ag cs)=.ag (mG r cs):=by rw[fq]
def KZ(cs:List SV):fq r (.cx cs)=.cx (mG r cs):=by rw[fq]
def Pm(g:FuncId)(a b:List SV):fq r (.fn g a b)=.fn g (mG r a) (mG r b):=by rw[fq]
def Pn(t:TypeId)(v:SV):fq r (.iface t v)=.iface t (fq r v):=by rw[fq]
def KR:mG r []=[]:=by rw[mG]
def GR(d:SV)(ds:List SV):mG r (d::ds)=fq r d::mG r ds:=by rw[mG]
def KS(cs:List SV):qa r (.cells cs)=.cells (mG r cs):=rfl
def KT(ks:List AV)(vs:List SV)(b:Option (List Nat×Nat)):qa r (.map ks vs b)=.map ks (mG r vs) b:=rfl
def Sp(m:SV)(bs:List Nat)(c:Nat)(pos:List Nat):qa r (.iter m bs c pos)=.iter (fq r m) bs c pos:=rfl
def Ph(ks:List AV)(vs:List SV)(bs:List Nat)(c:Nat)(pos:List Nat):qa r (.oR ks vs bs c pos)=.oR ks vs bs c pos:=rfl
def Sn:qa r .gone=.gone:=rfl
def Sq(c:jI)(ls:LoopState)(p:Option Code)(f:Fm):qa r (.loop c ls p f)=.loop c ls p (Rw r f):=rfl
def Sm(N:Nat):qa r (.mA N)=.mA N:=rfl
def KQ:Rw r []=[]:=rfl
def GQ(d:Nat)(v:SV)(f:Fm):Rw r ((d,v)::f)=(d,fq r v)::Rw r f:=rfl
def Sj(o:Nat)(os:List Nat)(B:Nat):j8 (o::os) B 0=o:=rfl
def Sl(o:Nat)(os:List Nat)(B i:Nat):j8 (o::os) B (i+1)=j8 os B i:=by
 unfold j8;rw[ay]
 cases os[i]? with
 | some _=>rfl
 | none=>simp
def Sk(B i:Nat):j8 [] B i=B+i:=rfl
def FL(os mv:List Nat)(B:Nat):de os mv B 0=mv.map (j8 os B):=by unfold de;simp
def FM(os mv:List Nat)(B:Nat):de os mv B 1=mv.map (j8 os B)++[B+0]:=by unfold de;rfl
def FN(os mv:List Nat)(B:Nat):de os mv B 2=mv.map (j8 os B)++[B+0,B+1]:=by unfold de;rfl
def FO(os mv:List Nat)(B:Nat):de os mv B 3=mv.map (j8 os B)++[B+0,B+1,B+2]:=by unfold de;rfl
def Uy:(∀f:Fm,oy [] f=f)/\(∀(k:Nat) (ks:List Nat) (f:Fm),oy (k::ks) f=oy ks (dB k f))/\(∀S:List SO,gg [] S=S)/\(∀(k:Nat) (ks:List Nat) (S:List SO),gg (k::ks) S=gg ks (dh k S))/\
 (∀S ss:List SO,gK S [] ss=S++ss)/\(∀(S:List SO) (o:Nat) (os:List Nat) (s:SO) (ss:List SO),gK S (o::os) (s::ss)=gK (S.set o s) os ss)/\(∀(S:List SO) (os mv:List Nat) (S':List SO),dP S os mv S'=gK (gg (de os mv S.length (S'.length-os.length)) S) os (S'.map (qa (j8 os S.length))))/\
 (∀(g:Nat->Nat),([]:List Nat).map g=[])/\(∀(g:Nat->Nat) (a:Nat) (l:List Nat),(a::l).map g=g a::l.map g)/\(∀l:List Nat,[]++l=l)/\(∀(a:Nat) (l m:List Nat),(a::l)++m=a::(l++m))/\(∀(g:SO->SO),([]:List SO).map g=[])/\(∀(g:SO->SO) (a:SO) (l:List SO),(a::l).map g=g a::l.map g)/\
 (([]:List Nat).length=0)/\(∀(a:Nat) (l:List Nat),(a::l).length=l.length+1)/\(([]:List SO).length=0)/\(∀(a:SO) (l:List SO),(a::l).length=l.length+1)/\(∀l:List SO,l++[]=l)/\(∀n:Nat,n-0=n)/\(∀n:Nat,n-n=0):=by
 (repeat' apply And.intro)<;>intros<;>first | rfl | (simp;done) | rw[gK]
def Uz:(type_of% @Pj)/\(type_of% @Pl)/\(type_of% @Pq)/\(type_of% @KU)/\(type_of% @Po)/\(type_of% @Pp)/\(type_of% @KX)/\(type_of% @KW)/\(type_of% @DZ)/\(type_of% @KY)/\(type_of% @Pk)/\(type_of% @KZ)/\(type_of% @Pm)/\(type_of% @Pn)/\(type_of% @KR)/\(type_of% @GR)/\(type_of% @KS)/\(type_of% @KT)/\(type_of% @Sn)/\(type_of% @Sp)/\(type_of% @Ph)/\(type_of% @Sq)/\(type_of% @Sm)/\(type_of% @KQ)/\(type_of% @GQ):=
 ⟨@Pj,@Pl,@Pq,@KU,@Po,@Pp,@KX,@KW,@DZ,@KY,@Pk,@KZ,@Pm,@Pn,@KR,@GR,@KS,@KT,@Sn,@Sp,@Ph,@Sq,@Sm,@KQ,@GQ⟩
def UA:(type_of% @Sj)/\(type_of% @Sl)/\(type_of% @Sk)/\(type_of% @FL)/\(type_of% @FM)/\(type_of% @FN)/\(type_of% @FO)/\(type_of% @F5)/\(type_of% @F4)/\(type_of% @Ps)/\(type_of% @Pr)/\(type_of% @Ka)/\(type_of% @J9):=
 ⟨@Sj,@Sl,@Sk,@FL,@FM,@FN,@FO,@F5,@F4,@Ps,@Pr,@Ka,@J9⟩
def gA:(type_of% @Uy)/\(type_of% @Uz)/\(type_of% @UA):=⟨@Uy,@Uz,@UA⟩
def CE:(type_of% @dD.eq_1)/\(type_of% @dD.eq_2)/\(type_of% @dD.eq_3)/\(type_of% @dD.eq_4)/\(type_of% @dD.eq_5)/\(type_of% @dD.eq_6)/\(type_of% @dD.eq_7)/\(type_of% @dD.eq_8)/\(type_of% @iy.eq_1)/\(type_of% @iy.eq_2)/\(type_of% @mK.eq_1)/\(type_of% @mK.eq_2)/\(type_of% @mK.eq_3)/\(type_of% @mK.eq_4)/\(type_of% @mK.eq_5)/\(type_of% @mK.eq_6)/\(type_of% @mK.eq_7)/\(type_of% @Ff.eq_1)/\(type_of% @Ff.eq_2)/\(type_of% @u9.eq_1)/\(type_of% @u9.eq_2)/\(∀(B:Nat) (v:AV),dD B (.a v)=true)/\(∀(B n e:Nat) (cs:List SV),dD B (.sl n e cs)=true)/\(∀(B:Nat) (cs:List SV),dD B (.ip cs)=true)/\(∀(B:Nat) (ks:List AV) (cs:List SV),dD B (.im ks cs)=true)/\(∀(B e:Nat),dD B (.e0 e)=true)/\(∀B:Nat,dD B .any=true):=
 ⟨@dD.eq_1,@dD.eq_2,@dD.eq_3,@dD.eq_4,@dD.eq_5,@dD.eq_6,@dD.eq_7,@dD.eq_8,@iy.eq_1,@iy.eq_2,@mK.eq_1,@mK.eq_2,@mK.eq_3,@mK.eq_4,@mK.eq_5,@mK.eq_6,@mK.eq_7,@Ff.eq_1,@Ff.eq_2,@u9.eq_1,@u9.eq_2,λ_ _=>gq rfl,λ_ _ _ _=>gq rfl,λ_ _=>gq rfl,λ_ _ _=>gq rfl,λ_ _=>gq rfl,λ_=>gq rfl⟩
variable{all:List Oper}{o:Oper}{l:List Oper}{K:ez->Prop}{d:Nat}
def aN.Me{t yt:Nat}{x:Operand}{y:Value}{k e:Nat}{cs:List SV}(hst:dg all n [o]=true)(hop:o.op=.binOp .eql t x (.const y) yt)(hdst:o.dst=some d)(hw:bT all f o.guard=some true)
 (hx:eW f x=some (.sl k e cs)) (hy:lZ mP y=some (.slice none 0 0 (some 0))) (ht:jc P t=.sl) (hg:P.eqGuardType P.depth t=false) (hk:∀b:Bool,(b=true->k=0)->aN P ro all l ⟨(d,.a (.bool b))::f,n,S,ds⟩ K):aN P ro all (o::l) ⟨f,n,S,ds⟩ K:=by
 rintro ρ0 h0 ⟨af,n',h,ds'⟩ ⟨rfl,rfl,θ,ρ,hR,hF⟩;obtain⟨hd,_⟩:=fO hst;rw[hdst] at hd;obtain⟨a,ha,ka⟩:=bO hF hx;have ha':ev (eo af n') x=some a:=ha;obtain⟨e',hu⟩:=pT ht;have hyv:ev (eo af n') (.const y)=some (.slice none 0 0 (some 0)):=hy
 have fin:∀b:Bool,c8 P .eql t a (.slice none 0 0 (some 0))=some (.bool b)->(b=true->k=0)->jH P ro all (o::l) ⟨af,n',h,ds'⟩ (λast'=>∃st',K st'/\st'.n=n'/\jJ ρ0 h0 st' ast'):=by
  intro b hb hbk;refine .v hop hdst (dn hF (fb hst hw)) rfl hd (by rw[OW,ha',hyv,m7,m7,hb];rfl) ?_;exact hk b hbk ρ0 h0 _ ⟨rfl,rfl,θ,ρ,hR,hF.put (fZ hd) (by rw[VS])⟩
 rw[VS,GS] at ka
 rcases ka with⟨rfl,_,o',e'',c,rfl,_,_⟩ | ⟨id,off,cap,row,rfl,_⟩
 ·cases o' with
  | none=>exact fin true (by unfold c8;simp only[hg,aA,lG,hu,Option.isNone_none,m6]) λ_=>rfl
  | some q=>exact fin false (by unfold c8;simp only[hg,aA,lG,hu,m6]) λ_=>rfl
 ·exact fin false (by unfold c8;simp only[hg,aA,lG,hu,m6]) λh=>by cases h
def Du(S:List SO)(r:Nat->Nat):List SO->List Nat->Prop
 | [],_=>True
 | so::l,o::os=>S[o]?=some (qa r so)/\Du S r l os
 | _::_,[]=>False
def Kp:∀{S0:List SO} {os:List Nat},Du S r S0 os->∀(i:Nat) so,S0[i]?=some so->∃o,os[i]?=some o/\S[o]?=some (qa r so)
 | [],_,_,i,so,h=>by simp at h
 | s::l,o::os,hh,0,so,h=>by
  simp only[a7,qr] at h;subst h;exact⟨o,rfl,hh.1⟩
 | s::l,o::os,hh,i+1,so,h=>by
  simp only[ay] at h ⊢;exact Kp hh.2 i so h
 | _::_,[],hh,_,_,_=>hh.elim
variable{g:FuncId}{vs:List SV}{mv:List Nat}
def aN.sk{c:Call}{ws:List SV}{S0 S1 S2:List SO}{r0 r2:SV}{f2:Fm}(os:List Nat)(hst:dg all n [o]=true)(hop:o.op=.call c)(hdst:o.dst=some d)(hw:bT all f o.guard=some true)(hdy:fR (.call c)=true)
 (hc:iN P f c=some (g,vs)) (hq:SC P g ws S0 mv (λr S'=>r=r0/\S'=S1)) (hvs:mG (j8 os S.length) ws=vs) (hK:os.length=S0.length) (hnd:os.Nodup) (hos:Du S (j8 os S.length) S0 os)
 (hb1:dD S1.length r0=true) (hb2:u9 S1.length S1=true) (hr:fq (j8 os S.length) r0=r2) (hf:oy (de os mv S.length (S1.length-os.length)) f=f2) (hS:dP S os mv S1=S2)
 (hk:aN P ro all l ⟨(d,r2)::f2,n,S2,ds⟩ K):aN P ro all (o::l) ⟨f,n,S,ds⟩ K:=by
 refine .sc os hst hop hdst hw hdy hc hq hvs hK hnd (Kp hos) ?_ ?_
 ·rintro _ _ ⟨rfl,rfl⟩;exact⟨hb1,hb2⟩
 ·rintro _ _ ⟨rfl,rfl⟩;rw[hr,hf,hS];exact hk
def Lh.of{fn:Func}{K:Nat}{Q:SV->List SO->Prop}{e:Ex}{rs:List ResultVar}(he:kE e=true)(hr:fn.results.toList=rs)(h:pd P f S rs=some vs)(hq:Q (eC vs) S)(hK:K<=S.length)(hw:∀i,i<K->i∉mv->aO f (1000000+i)=.ptr i 0):Lh P fn K mv Q e ⟨f,n,S,[]⟩:=
 ⟨he,rfl,⟨vs,by rw[hr];exact h,hq⟩,hK,hw⟩
end
open Go.RowKit
def LM(σ:Sg){vs:Array Value}(ih:∀i:Fin vs.size,∃a,V σ a vs[i]):∃a,V σ a (.agg vs):=by
 refine⟨.agg (ofFn λi=>(ih i).choose),.agg (dE) ?_⟩;intro i a v h1 h2;rw[c3] at h1;by_cases hi:i<vs.size
 ·rw[dif_pos hi] at h1;rw[ap hi] at h2;cases h1;cases h2;exact(ih ⟨i,hi⟩).choose_spec
 ·rw[dif_neg hi] at h1;cases h1
def RY(σ:Sg):∀(n:Nat) (v:Value),SizeOf.sizeOf v<n->∃a,V σ a v
 | 0,_,h=>un h (Nat.not_lt_zero _)
 | n+1,v,h=>by
  by_cases hv:∃vs,v=.agg vs
  ·obtain⟨vs,rfl⟩:=hv;refine LM σ λi=>RY σ n vs[i] ?_;have h1:SizeOf.sizeOf vs[i]<SizeOf.sizeOf vs:=Array.sizeOf_getElem vs i.1 i.2
   have h2:SizeOf.sizeOf (Value.agg vs)=1+SizeOf.sizeOf vs:=by simp
   omega
  ·exact⟨.any,.any λvs e=>hv ⟨vs,e⟩⟩
def T9(σ:Sg)(c:Array Value)(d:Nat):∀(n:Nat),d+n<=c.size->∃aS:List AV,aS.length=n/\∀(i:Nat) (a:AV),aS[i]?=some a->∃v,c[d+i]?=some v/\V σ a v:=by
 intro n hn;have ih:∀i:Fin n,∃a,V σ a (c[d+i.1]'(by have:=i.2;omega)):=λi=>RY σ _ _ (bt _);refine⟨ofFn λi=>(ih i).choose,dE,?_⟩;intro i a h1;rw[c3] at h1;by_cases hi:i<n
 ·rw[dif_pos hi] at h1;cases h1;have hs:=(ih ⟨i,hi⟩).choose_spec;exact⟨_,ap i4,hs⟩
 ·rw[dif_neg hi] at h1;cases h1
noncomputable def H.kH(h:H)(id bX:Nat)(cs:List AV):H:={ h with aW:=h.aW.put id (some (.cells cs bX)),low:=hY h.low id }
def HR.kH{σ:Sg}{h:H}{w:World}(hr:HR σ h w){id bX:Nat}{cs ex:List AV}{p:sZ}(ho:h.aW.get id=some (.cells cs bX))(hp:σ id=some p){c:Array Value}{e:TypeId}(hb:w.heap[p.b]?=some (.cells c e (0,0)))
 (hl:cs.length+ex.length<=p.r) (hV:∀(i:Nat) (a:AV),ex[i]?=some a->∃v,c[p.d+cs.length+i]?=some v/\V σ a v):HR σ (h.kH id bX (cs++ex)) w/\Ext σ σ h (h.kH id bX (cs++ex)) w w:=by
 obtain⟨q,c0,e0,hq,h1,h2,h3,h4⟩:=hr.cells ho;rw[hp] at hq;cases hq;rw[hb] at h1;cases h1;have hm:=dR h.low id
 have get:∀j x,(h.kH id bX (cs++ex)).aW.get j=some x->(j=id/\x=.cells (cs++ex) bX)\/(j≠id/\h.aW.get j=some x):=by
  intro j x hx;simp only[H.kH,dz] at hx;split at hx
  ·rename_i e;cases hx;exact .inl ⟨e,rfl⟩
  ·rename_i hne;exact .inr ⟨hne,hx⟩
 have mE:∀j x,(h.kH id bX (cs++ex)).aW.get j=some x->∃y,h.aW.get j=some y/\(x=y\/(y=.cells cs bX/\x=.cells (cs++ex) bX)):=by
  intro j x hx
  rcases get j x hx with⟨rfl,rfl⟩ | ⟨_,h⟩
  ·exact⟨_,ho,.inr ⟨rfl,rfl⟩⟩
  ·exact⟨x,h,.inl rfl⟩
 refine⟨⟨?_,hr.fresh,?_,?_,bd hm.1 hr.DE⟩,⟨λ_ _ h=>h,a6 _,a6 _,rfl,rfl,rfl,?_,λ_ _ _=>rfl,hm.1,?_,λ_ _ h=>h,?_⟩⟩
 ·intro j x hx
  rcases get j x hx with⟨rfl,rfl⟩ | ⟨_,h⟩
  ·refine⟨p,hp,c,e,hb,h2,by rw[li];exact hl,?_⟩;intro i a ha;rw[ci] at ha;split at ha
   ·exact h4 i a ha
   ·rename_i hlt;obtain⟨v,hv,hV⟩:=hV _ a ha;rw[show p.d+cs.length+(i-cs.length)=p.d+i by omega] at hv;exact⟨v,hv,hV⟩
  ·exact hr.obj j x h
 ·intro i j x y q1 q2 hij hx hy a1 a2 hb2;obtain⟨x',g1,k1⟩:=mE i x hx;obtain⟨y',g2,k2⟩:=mE j y hy;have:=hr.sep i j x' y' q1 q2 hij g1 g2 a1 a2 hb2
  rcases this with⟨b1,b2,f,e1,e2⟩ | ⟨b1,b2,e1,e2⟩
  ·left
   rcases k1 with rfl | ⟨rfl,rfl⟩<;>rcases k2 with rfl | ⟨rfl,rfl⟩
   ·exact⟨_,_,f,e1,e2⟩
   ·cases e2;exact⟨_,_,_,e1,rfl⟩
   ·cases e1;exact⟨_,_,_,rfl,e2⟩
   ·exact⟨_,_,_,rfl,rfl⟩
  ·right
   rcases k1 with rfl | ⟨rfl,rfl⟩<;>rcases k2 with rfl | ⟨rfl,rfl⟩
   ·exact⟨_,_,e1,e2⟩
   ·cases e2
   ·cases e1
   ·cases e1
 ·intro i cs' f hi
  rcases get i _ hi with⟨rfl,e⟩ | ⟨_,h⟩
  ·cases e;exact hr.bX i _ _ ho
  ·exact hr.bX i _ _ h
 ·intro j x q hx hq;obtain⟨x',g1,k1⟩:=mE j x hx;refine .inr ⟨j,x',q,g1,hq,rfl,?_⟩
  rcases k1 with rfl | ⟨rfl,rfl⟩
  ·exact λh=>h
  ·exact λ_ cs e=>by cases e
 ·intro j hj hjn;simp only[H.kH,dz];rw[v6 (by simp only[H.kH] at hj;omega)]
 ·intro j cs' f hj
  rcases get j _ hj with⟨rfl,e⟩ | ⟨_,h⟩
  ·cases e;exact .inr ⟨j,cs,ho⟩
  ·exact .inr ⟨j,cs',h⟩
variable{P:Program}{ro:Option Nat}{id:Nat}
def lW.IZ{c:Code}{st:iu}{Q:Ex->iu->Prop}{i0 len es bX:Nat}{cs:List AV}(hi:i0<st.n)(hf:st.f i0=.slice (some (id,0)) len es none)(ho:st.h.aW.get id=some (.cells cs bX))
 (hk:∀(cap:Nat) (ex:List AV),len<=cap->ex.length=cap*es-cs.length->lW P ro c ⟨A1 st.f i0 (.slice (some (id,0)) len es (some cap)),st.n,st.h.kH id bX (cs++ex),st.ds⟩ Q):lW P ro c st Q:=by
 intro F n σ a w hs hF;have hv:=hs.t.2 i0 hi;rw[hf] at hv;obtain⟨p,c0,e0,hp,h1,h2,h3,h4⟩:=hs.h.cells ho;generalize hg:a.tmps.getD i0 undef=v at hv
 cases hv with
 | @slice _ _ _ _ _ ad p' cp hp' hl hr hc ha=>
  rw[hp] at hp';cases hp';rw[b6] at hr;obtain⟨ex,hx1,hx2⟩:=T9 σ c0 (p.d+cs.length) (cp*es-cs.length) i4;obtain⟨g1,g2⟩:=hs.h.kH ho hp h1 (ex:=ex) i4 hx2;refine(hk cp ex hl hx1).wide (σ:=σ) ?_ hF g2 rfl;refine⟨⟨hs.t.1,λi hi'=>?_⟩,g1,hs.ds⟩;by_cases e:i=i0
  ·subst e;rw[hg];show V σ (A1 st.f i _ i) _;rw[uR];exact .slice hp hl i4 (λx hx=>by cases hx;rfl) ha
  ·show V σ (A1 st.f i0 _ i) _;rw[rZ _ _ e];exact hs.t.2 i hi'
def E5{θ:Nat->Loc}{ρ:ko}:∀(aS:List AV),cZ θ ρ (b8 aS.length .any) aS
 | []=>by rw[i5,List.replicate_zero,aZ]
 | a::aS=>by
  rw[i7,List.replicate_succ,aK];exact⟨a,aS,rfl,by rw[VS];trivial,E5 aS⟩
def aE.IZ{P:Program}{ro:Option Nat}{c:Code}{f:Fm}{n:Nat}{S:List SO}{ds:List jG}{Q:Ex->ez->Prop}(i0:Nat){o len e:Nat}{cs:List SV}(hi:i0<n)(hf:aO f i0=.buf o len e none)(hS:S[o]?=some (.cells cs))
 (hk:∀cap,len<=cap->aE P ro c ⟨(i0,.buf o len e (some cap))::f,n,S.set o (.cells (cs++b8 (cap*e-cs.length) .any)),ds⟩ Q):aE P ro c ⟨f,n,S,ds⟩ Q:=by
 rintro ρ0 h0 ⟨af,n',h,ds'⟩ ⟨rfl,rfl,θ,ρ,hR,hF⟩;obtain⟨hL,aS,g1,g2,g3⟩:=hR.obj o _ hS gt;have hv:=hF.v i0;rw[hf,VS] at hv;rw[ut hi] at hv;refine lW.IZ hi hv g1 ?_;intro cap ex hle hex;have hlen:=g2.length;refine hk cap hle ρ0 h0 _ ⟨rfl,rfl,θ,ρ,?_,?_⟩
 ·have hidr:¬h0.pr (θ o).id:=by
   rcases hL.e with e | e<;>rw[e]
   ·exact hL.x.1
   ·exact hL.y.1
  have hm:=dR h.low (θ o).id
  have hlo:h0.lo<=hY h.low (θ o).id:=by
   have:=hR.ok.lo _ hidr;have:=hR.lw;unfold hY;cases ble h.low (θ o).id<;>simpa
  have get:∀j,j≠(θ o).id->(h.kH (θ o).id (θ o).bX (aS++ex)).aW.get j=h.aW.get j:=by
   intro j hj;simp only[H.kH,dz];rw[v6 hj]
  have own:∀p so,(S.set o (.cells (cs++b8 (cap*e-cs.length) .any)))[p]?=some so->(p=o/\so=.cells (cs++b8 (cap*e-cs.length) .any))\/(p≠o/\S[p]?=some so):=by
   intro p so hp;by_cases e:p=o
   ·subst e;rw[aT (bo hS)] at hp;cases hp;exact .inl ⟨rfl,rfl⟩
   ·rw[a8 (λh=>e h.symm)] at hp;exact .inr ⟨e,hp⟩
  have sepo:∀p so,p≠o->S[p]?=some so->so≠.gone->(θ p).id≠(θ o).id:=by
   intro p so hp h1 h2 e;have sp:=hR.sep p o so _ hp h1 h2 hS gt;obtain⟨k,_⟩:=hR.obj p so h1 h2
   rcases k.e with e1 | e1<;>rcases hL.e with e2 | e2<;>rw[e1,e2] at e
   ·exact sp.xx e
   ·exact sp.xy e
   ·exact sp.yx e
   ·exact sp.yy e
  refine⟨hR.ok,hR.nx,λj hj=>?_,hR.fm,hlo,bd hm.1 hR.ln,?_,?_,?_,hR.mE⟩
  ·rw[get j (λe=>hidr (e▸hj))];exact hR.ob j hj
  ·intro p so hp hg
   rcases own p so hp with⟨rfl,rfl⟩ | ⟨hne,hp'⟩
   ·refine⟨hL,aS++ex,?_,?_,g3⟩
    ·simp only[H.kH,dz];rw[ut trivial]
    ·refine g2.app ?_;rw[<-hlen,<-hex];exact E5 ex
   ·obtain⟨k1,k2⟩:=hR.obj p so hp' hg;refine⟨k1,?_⟩;have hid:=sepo p so hne hp' hg
    cases so with
    | cells cs'=>obtain⟨as',q1,q2,q3⟩:=k2;exact⟨as',by rw[get _ hid];exact q1,q2,q3⟩
    | map ks vs b=>obtain⟨l,c,q1,q2,q3⟩:=k2;exact⟨l,c,by rw[get _ hid];exact q1,q2,q3⟩
    | iter m bs c pos=>obtain⟨j7,q1,q2⟩:=k2;exact⟨j7,q1,by rw[get _ hid];exact q2⟩
    | oR ks vs bs c pos=>obtain⟨j7,l,q1,q2,q3,q4⟩:=k2;exact⟨j7,l,q1,q2,q3,by rw[get _ hid];exact q4⟩
    | gone=>trivial
    | loop=>obtain⟨q1,q2,q3⟩:=k2;exact⟨q1,by rw[get _ hid];exact q2,q3⟩
    | mA=>exact⟨k2.1,by rw[get _ hid];exact k2.2⟩
  ·intro p p' so so' hpp hp hg hp' hg'
   rcases own p so hp with⟨rfl,rfl⟩ | ⟨hne,hq⟩<;>rcases own p' so' hp' with⟨rfl,rfl⟩ | ⟨hne',hq'⟩
   ·exact un rfl hpp
   ·exact hR.sep p p' _ so' hpp hS gt hq' hg'
   ·exact hR.sep p p' so _ hpp hq hg hS gt
   ·exact hR.sep p p' so so' hpp hq hg hq' hg'
  ·intro id ob hi';obtain⟨r1,r2,r3⟩:=hR.row id ob hi'
   have hne:id≠(θ o).id:=by
    have:=r3 o _ hS gt
    rcases hL.e with e | e<;>rw[e]
    ·exact this.1
    ·exact this.2
   refine⟨r1,by rw[get _ hne];exact r2,λp so hp hg=>?_⟩
   rcases own p so hp with⟨rfl,rfl⟩ | ⟨_,hq⟩
   ·exact r3 p _ hS gt
   ·exact r3 p so hq hg
 ·refine⟨λi=>?_,hF.u⟩;show VS θ ρ (if i0=i then _ else aO f i) _;by_cases e:i0=i
  ·subst e;rw[ut rfl,VS];simp only[ut hi,uR]
  ·rw[v6 e];have:=hF.v i;by_cases hi2:i<n'
   ·rw[ut hi2] at this ⊢;simp only;rw[rZ _ _ (λh=>e h.symm)];exact this
   ·rw[v6 hi2] at this ⊢;exact this
def Gk(a b:Nat):hY a b=min a b:=by
 unfold hY;cases h:ble a b
 ·have:¬a<=b:=λe=>by rw[fc e] at h;cases h
  rw[aA];omega
 ·have:=jq h;rw[aq];omega
def MC{h h1:H}{off bX x y:Nat}{cs xs:List AV}(ho:h.aW.get id=some (.cells cs bX))(hf:h.dC.get bX=some (x,y))(hid:id<h.next)(hx:x<h.next)(hy:y<h.next)
 (hs:({ h with low:=h.next }:H).store id off xs=some h1):h.store id off xs=some { h1 with low:=hY h.low h1.low }:=by
 unfold H.store at hs ⊢;simp only[ho] at hs ⊢;cases hc:(ble (off+xs.length) cs.length&&xs.all ki)
 ·rw[hc,aA] at hs;cases hs
 ·rw[hc,aq] at hs;rw[aq];cases hs;unfold H.alone;simp only[hf];cases hb:(beq x id&&beq y id)
  ·simp only[aA,Gk,qr,H.mk.injEq,true_and];omega
  ·simp only[aq,Gk,qr,H.mk.injEq,true_and];omega
variable{g:FuncId}
def SC.row{args cs cs':List SV}{r0:SV}(hlen:cs'.length=cs.length)(hone:∀(θ:Nat->Loc) (ρ:ko) (xs:List AV),cZ θ ρ cs' xs->xs.all ki=true)
 (H:∀(E:En) (θ:Nat->Loc) (ρ:ko) (h:H) (avs asx:List AV) (bX:Nat),E.h={ h with low:=h.next }->RS θ ρ ρ E E.h [.cells cs]->cZ θ ρ args avs->h.aW.get (θ 0).id=some (.cells asx bX)->cZ θ ρ cs asx->
  (∃q:Nat×Nat,h.dC.get bX=some (q.1,q.2)/\((θ 0).id=q.1\/(θ 0).id=q.2)/\q.1<h.next/\q.2<h.next/\bX<h.next/\(θ 0).id<h.next)->
  ee P (.func g) avs h (λv h'=>VS θ ρ r0 v/\∃xs,cZ θ ρ cs' xs/\h.store (θ 0).id 0 xs=some h')):SC P g args [.cells cs] [] (λr S'=>r=r0/\S'=[.cells cs']):=by
 intro E θ ρ h avs hE hR hA;obtain⟨⟨k1,k2,k3,k4⟩,asx,q1,q2,q3⟩:=hR.obj 0 _ rfl gt
 have hidn:(θ 0).id<E.h.next:=by rcases k1 with e | e<;>rw[e];exact k2.2;exact k3.2
 have e1:E.h.aW=h.aW:=by rw[hE]
 have e2:E.h.dC=h.dC:=by rw[hE]
 have e3:E.h.next=h.next:=by rw[hE]
 rw[e1] at q1;rw[e2] at q3;rw[e3] at hidn;have kx:=k2.2;have ky:=k3.2;have kf:=k4.2;rw[e3] at kx ky kf;refine(H E θ ρ h avs asx (θ 0).bX hE hR hA q1 q2 ⟨((θ 0).x,(θ 0).y),q3,k1,kx,ky,kf,hidn⟩).mono ?_;rintro v h' ⟨hv,xs,hxs,hst⟩;obtain⟨h1,g1,g2,g3⟩:=hR.store (o:=0) (cs:=cs) (vs:=cs') (off:=0) rfl hxs (hone θ ρ xs hxs) i4;rw[hE] at g1;have g4:=MC q1 q3 hidn kx ky g1;rw[hst] at g4;cases g4;refine⟨r0,[.cells cs'],_,ρ,h1,⟨rfl,rfl⟩,rfl,?_,g3 _ _ hv,a6 _,?_⟩
 ·have:(cs.take 0++(cs'++cs.drop (0+cs'.length)))=cs':=by
   rw[b6,hlen,dl,d2,List.take_zero,List.nil_append]
  rw[this] at g2;exact g2
 ·intro i hi _
  have:i=0:=by
   have:i<1:=hi;omega
  subst this;rw[cH]
def Fg.e0{f:Fm}{n:Nat}{S:List SO}{ds:List jG}(i e:Nat)(h:aO f i=.a (.slice none 0 0 (some 0))\/∃o,aO f i=.buf o 0 e (some 0)):Fg ⟨f,n,S,ds⟩ ⟨(i,.e0 e)::f,n,S,ds⟩:=by
 refine⟨rfl,?_⟩;rintro ρ0 h0 ⟨af,n',hh,ds'⟩ ⟨rfl,rfl,θ,ρ,hR,hF⟩;refine⟨rfl,rfl,θ,ρ,hR,λj=>?_,hF.u⟩;show VS θ ρ (if i=j then _ else aO f j) _;by_cases e1:i=j
 ·subst e1;rw[ut rfl];have:=hF.v i
  rcases h with h | ⟨o,h⟩
  ·rw[h,VS] at this;rw[VS,this];exact⟨none,0,rfl,λh=>un rfl h⟩
  ·rw[h,VS] at this;rw[VS,this];exact⟨_,e,rfl,λ_=>rfl⟩
 ·rw[v6 e1];exact hF.v j
def Se(K:Act->World->Prop)(Q:Exit->Act->World->Prop):Exit->Act->World->Prop
 | .normal,a,w=>K a w
 | e,a,w=>Q e a w
variable{n:Nat}{o:Oper}
def JS{F:Fence}{a:Act}{next K:Act->World->Prop}{Q:Exit->Act->World->Prop}(r:Result Next):o.uponIn F n P a next (Se K Q) r=o.uponIn F n P a next Q r:=by
 unfold Oper.uponIn;split<;>rfl
def UG(P:Program)(ro:Option Nat)(ol:List Oper)(i:Nat)(st:iu)(K:iu->Prop):Prop:=∀(ops:Array Oper),ops.toList=ol->∀(F:Fence) (n:Nat) (σ:Sg) (a:Act) (w:World) (K':Act->World->Prop) (Q:Exit->Act->World->Prop),
 SF σ st a w->CR σ ro F->(∀st' a' w' σ',K st'->SF σ' st' a' w'->Ext σ σ' st.h st'.h w w'->st'.n=st.n->K' a' w')->wpOpIn F n P ops Q i K' a w
variable{i:Nat}
def UG.of{ol:List Oper}{st:iu}{K:iu->Prop}(ho:ol[i]?=some o)(hg:∀j b,o.guard=some (j,b)->j<i)(h:jH P ro (ol.take (i+1)) [o] st K):UG P ro ol i st K:=by
 intro ops hops F n σ a w K' Q hs hF hk
 have hlt:i<ol.length:=by
  rcases Nat.lt_or_ge i ol.length with h | h
  ·exact h
  ·rw[bc h] at ho;cases ho
 have hdrop:((ol.take (i+1)).toArray.toList).drop i=[o]:=by
  rw[ct,List.drop_take,show i+1-i=1 by omega]
  have:ol.drop i=o::ol.drop (i+1):=by
   rw[bN hlt];rw[jp hlt] at ho;cases ho;rfl
  rw[this];rfl
 have:=h (ol.take (i+1)).toArray i (ct) hdrop F n σ a w (Se K' Q) hs hF λst' a' w' σ' h1 h2 h3 h4=>hk st' a' w' σ' h1 h2 h3 h4;rw[show List.range' i [o].length=[i] from rfl,wpOpsIn_cons] at this;unfold wpOpIn at this ⊢
 have ho1:(ol.take (i+1)).toArray[i]?=some o:=by
  rw[ce,c4,ut i4];exact ho
 have ho2:ops[i]?=some o:=by rw[<-bk,hops];exact ho
 rw[ho1] at this;rw[ho2];simp only at this ⊢
 have hw:Region.wanted o (yielded ops a.tmps)=Region.wanted o (yielded (ol.take (i+1)).toArray a.tmps):=by
  unfold Region.wanted
  cases hgd:o.guard with
  | none=>rfl
  | some jb=>
   obtain⟨j,b⟩:=jb;simp only;have hj:=hg j b hgd
   have:yielded ops a.tmps j=yielded (ol.take (i+1)).toArray a.tmps j:=by
    unfold yielded;rw[<-bk (xs:=ops),hops,ce,c4,ut i4]
   rw[this]
 rw[hw];cases hc:Region.wanted o (yielded (ol.take (i+1)).toArray a.tmps)
 ·rw[hc] at this;simp only[Bool.false_eq_true,if_false] at this ⊢;exact this
 ·rw[hc] at this;simp only[if_true] at this ⊢;unfold Oper.wpIn at this ⊢;refine⟨this.1,?_⟩;have h2:=this.2;rw[JS] at h2;exact h2
variable{all:List Oper}{l:List Oper}
def jH.mono{st:iu}{K K':iu->Prop}(h:jH P ro all l st K)(hk:∀x,K x->K' x):jH P ro all l st K':=
 λops i h1 h2 F n σ a w Q hs hF hQ=>h ops i h1 h2 F n σ a w Q hs hF λst' a' w' σ' hK=>hQ st' a' w' σ' (hk _ hK)
def dep(e:Edge):Bool:=Region.binds .any e
def jK:Nat->List Oper->Bool
 | _,[]=>true
 | i,o::l=>(o.after.toList.all λe=>!(dep e)||blt e.on i)&&jK (i+1) l
def pE:∀{l:List Oper} {k i:Nat} {o:Oper},jK k l=true->l[i]?=some o->∀e∈o.after.toList,dep e=true->e.on<k+i
 | [],_,_,_,_,h=>by simp at h
 | x::l,k,0,o,hb,h=>by
  simp only[a7,qr] at h;subst h;intro e he hd;rw[jK,aa,all_eq_true] at hb;have:=hb.1 e he;rw[hd,Bool.not_true,Bool.false_or] at this;exact fZ this
 | x::l,k,i+1,o,hb,h=>by
  simp only[ay] at h;rw[jK,aa] at hb;intro e he hd;have:=pE hb.2 h e he hd;omega
structure UH (ol:List Oper) (L:Nat->Prop) (i:Nat) (o:Oper):Prop where
 jF:ol[i]?=some o
 new:¬L i
 dep:∀e∈o.after.toList,Ev.dep e=true->L e.on
def lW.any{P:Program}{ro:Option Nat}{id:Nat}{ops:Array Oper}{st:iu}{Q:Ex->iu->Prop}{ol:List Oper}(hol:ops.toList=ol)(hok:(jK 0 ol&&P.follows .mixedOrders)=true)(J:(Nat->Prop)->iu->Prop)(h0:J (λ_=>False) st)(hn:∀L x,J L x->x.n=st.n)
 (hstep:∀L x i o,J L x->UH ol L i o->UG P ro ol i x (J λj=>L j\/j=i)) (hend:∀L x,J L x->(∀i,i<ol.length->L i)->Q .normal x):lW P ro (.region id ops true) st Q:=by
 rw[aa] at hok;obtain⟨hback,hmix⟩:=hok
 have hsz:ops.size=ol.length:=by rw[<-hol];simp
 intro F nn σ0 a0 w0 hs0 hF0;refine wpIn_region_draw λt=>?_;simp only[Region.schedule,hmix,Bool.true_or,if_true];have hE2:Ext σ0 σ0 st.h st.h w0 { w0 with drawn:=w0.drawn+1 }:=Ext.of_eq rfl rfl rfl rfl;refine wpAnyIn_sound ops.size t _ a0 _ ?_
 have key:∀(fuel:Nat) (listed:Array Bool) (x:iu) (σ:Sg) (a:Act) (w:World),listed.size=ops.size->left listed ops.size<=fuel->J (λj=>listed.getD j false=true) x->SF σ x a w->CR σ ro F->Ext σ0 σ st.h x.h w0 w->
  wpAnyIn F nn P .any ops (BI σ0 st.h w0 st.n Q) fuel listed a w:=by
  intro fuel
  have hdone:∀(listed:Array Bool) (x:iu) (σ:Sg) (a:Act) (w:World),listed.size=ops.size->J (λj=>listed.getD j false=true) x->SF σ x a w->Ext σ0 σ st.h x.h w0 w->Region.ready .any ops listed=[]->BI σ0 st.h w0 st.n Q .normal a w:=by
   intro listed x σ a w hls hJ hs hE hr
   have hall:∀i,i<ol.length->listed.getD i false=true:=by
    intro i
    induction i using Nat.strongRecOn with
    | _ i ih=>
     intro hi;cases hb:listed.getD i false
     ·exfalso
      have hi':i<ops.size:=by omega
      have hoi:ops[i]?=some ops[i]:=ap hi'
      have hoi':ol[i]?=some ops[i]:=by rw[<-hol,bk];exact hoi
      have hm:i∈Region.ready .any ops listed:=by
       refine mem_ready.2 ⟨?_,ops[i],hoi,λe he hbind=>?_⟩
       ·rw[ac] at hb ⊢;rw[ap i4] at hb ⊢;exact hb
       ·have hlt:=pE hback hoi' e (by simpa using he) hbind;rw[b6] at hlt;exact ih e.on hlt i4
      rw[hr] at hm;simp at hm
     ·rfl
   exact⟨.normal,x,hend _ x hJ hall,rfl,σ,hs,hE,hn _ x hJ⟩
  induction fuel with
  | zero=>
   intro listed x σ a w hls hle hJ hs hF hE
   have hr:Region.ready .any ops listed=[]:=by
    cases hr:Region.ready .any ops listed with
    | nil=>rfl
    | cons i rs=>
     exfalso
     have hm:i∈Region.ready .any ops listed:=by rw[hr];exact am ..
     obtain⟨h1,o,h2,_⟩:=mem_ready.1 hm;have hi:i<ops.size:=(Array.getElem?_eq_some_iff.1 h2).1
     have:i∈(bv ops.size).filter λi=>!listed.getD i false:=by
      refine mem_filter.2 ⟨mem_range.2 hi,?_⟩;rw[ac,ap i4] at h1 ⊢;simp only[Option.getD_some] at h1 ⊢;rw[h1];rfl
     have h0:((bv ops.size).filter λi=>!listed.getD i false).length=0:=by unfold left at hle;omega
     rw[t8 h0] at this;simp at this
   exact⟨hr,hdone listed x σ a w hls hJ hs hE hr⟩
  | succ fuel ih=>
   intro listed x σ a w hls hle hJ hs hF hE;refine⟨hdone listed x σ a w hls hJ hs hE,λi hi=>?_⟩;obtain⟨h1,o,h2,h3⟩:=mem_ready.1 hi;have hlt:i<ops.size:=(Array.getElem?_eq_some_iff.1 h2).1
   have hfalse:listed.getD i false=false:=by
    rw[ac,ap i4] at h1 ⊢;exact h1
   have hrd:UH ol (λj=>listed.getD j false=true) i o:=⟨by rw[<-hol,bk];exact h2,by rw[hfalse];simp,λe he hb=>h3 e (by simpa using he) hb⟩;refine hstep _ x i o hJ hrd ops hol F nn σ a w _ _ hs hF ?_;intro x' a' w' σ' hJ' hs' hE' hn';refine ih _ x' σ' a' w' (by simpa using hls) ?_ ?_ hs' (hF.mono hE'.le) (hE.trans hE')
   ·have:left (listed.setIfInBounds i true) ops.size<left listed ops.size:=by
     unfold left;refine filter_lt _ ?_ ⟨i,mem_range.2 hlt,by rw[hfalse];rfl,?_⟩
     ·intro y _ hy;by_cases e:i=y
      ·subst e;rw[ac,bi,ut rfl,ut i4] at hy;simp at hy
      ·rw[getD_set_ne false e] at hy;exact hy
     ·rw[ac,bi,ut rfl,ut i4];rfl
    omega
   ·have:(λj=>(listed.setIfInBounds i true).getD j false=true)=λj=>listed.getD j false=true\/j=i:=by
     funext j;refine propext ⟨λh=>?_,λh=>?_⟩
     ·by_cases e:i=j
      ·exact .inr e.symm
      ·rw[getD_set_ne false e] at h;exact .inl h
     ·rcases h with h | rfl
      ·exact getD_set_true h
      ·rw[ac,bi,ut rfl,ut i4];rfl
    rw[this];exact hJ'
 have hrep:∀j,(b7 ops.size false).getD j false=false:=by
  intro j;rw[ac,Array.getElem?_replicate];split<;>rfl
 refine key ops.size _ st σ0 a0 _ ge ?_ ?_ ⟨hs0.t,hs0.h.congr rfl,hs0.ds⟩ hF0 hE2
 ·unfold left;exact bd (List.length_filter_le _ _) ge
 ·have hS:(λj=>(b7 ops.size false).getD j false=true)=λ_=>False:=by
   funext j;rw[hrep];simp
  rw[hS];exact h0
def aE.any{P:Program}{ro:Option Nat}{id:Nat}{ops:Array Oper}{st:ez}{Q:Ex->ez->Prop}{ol:List Oper}(hol:ops.toList=ol)(hok:(jK 0 ol&&P.follows .mixedOrders)=true) (hgd:(ol.all λo=>match o.guard with
 | none=>true
 | some _=>false)=true\/∀(i:Nat) (o:Oper),ol[i]?=some o->∀(j:Nat) (b:Bool),o.guard=some (j,b)->j<i) (J:(Nat->Prop)->ez->Prop) (h0:J (λ_=>False) st) (hn:∀L x,J L x->x.n=st.n)
 (hstep:∀L x i o,J L x->UH ol L i o->aN P ro (ol.take (i+1)) [o] x (J λj=>L j\/j=i)) (hend:∀L x,J L x->(∀i,i<ol.length->L i)->Q .normal x):aE P ro (.region id ops true) st Q:=by
 intro ρ0 h0' ast hs;refine lW.any hol hok (λL ast'=>∃x,J L x/\jJ ρ0 h0' x ast') ⟨st,h0,hs⟩ ?_ ?_ ?_
 ·rintro L ast' ⟨x,hJ,hx⟩;rw[hx.1,hn L x hJ,hs.1]
 ·rintro L ast' i o ⟨x,hJ,hx⟩ hr;refine UG.of hr.jF ?_ ?_
  ·intro j b hg
   rcases hgd with hgd | hgd
   ·have:=all_eq_true.1 hgd o (cn hr.jF);rw[hg] at this;cases this
   ·exact hgd i o hr.jF j b hg
  ·have:=hstep L x i o hJ hr ρ0 h0' ast' hx;refine this.mono ?_;rintro a' ⟨x',k1,k2,k3⟩;exact⟨x',k1,k3⟩
 ·rintro L ast' ⟨x,hJ,hx⟩ hall;exact⟨x,hend L x hJ hall,hn L x hJ,hx⟩
section
variable {P:Program} {ro:Option Nat} {all l:List Oper} {f:Fm} {n:Nat} {S:List SO} {ds:List jG} {K:ez->Prop}
def aN.fg{st st':ez}(hf:Fg st st')(h:aN P ro all l st' K):aN P ro all l st K:=by
 intro ρ0 h0 ast hs;refine jH.mono (h ρ0 h0 ast (hf.2 ρ0 h0 ast hs)) ?_;rintro a ⟨x,k1,k2,k3⟩;exact⟨x,k1,k2.trans hf.1,k3⟩
def Fg.sub{S':List SO}(hs:∀(o:Nat) (so:SO),S'[o]?=some so->so≠.gone->S[o]?=some so):Fg ⟨f,n,S,ds⟩ ⟨f,n,S',ds⟩:=by
 refine⟨rfl,?_⟩;rintro ρ0 h0 ⟨af,n',hh,ds'⟩ ⟨rfl,rfl,θ,ρ,hR,hF⟩;exact⟨rfl,rfl,θ,ρ,hR.sub hs,hF⟩
def Fg.tmps{f':Fm}(hf:∀i,aO f' i=aO f i\/aO f' i=.any):Fg ⟨f,n,S,ds⟩ ⟨f',n,S,ds⟩:=by
 refine⟨rfl,?_⟩;rintro ρ0 h0 ⟨af,n',hh,ds'⟩ ⟨rfl,rfl,θ,ρ,hR,hF⟩;refine⟨rfl,rfl,θ,ρ,hR,λi=>?_,hF.u⟩
 rcases hf i with e | e
 ·rw[e];exact hF.v i
 ·rw[e,VS];trivial
end
def CU(P:Program)(g:FuncId):Prop:=∀(w:World) (a b:Addr) (la ca lb cb:Nat) (tA tB:TypeId) (kA kB:Nat),a.block≠b.block->w.shape? a.block=some (tA,kA)->w.shape? b.block=some (tB,kB)->kB≠0->w.frozen? a=false->w.frozen? { block:=a.block,off:=kA }=false->
 (callFunc g #[.slice (some a) la ca,.slice (some b) lb cb]).run P w=.ok (.value (.bool false)) w
def BZ{w:World}{b o:Nat}{c:Array Value}{e:TypeId}(h:w.heap[b]?=some (.cells c e (0,0))):w.frozen? { block:=b,off:=o }=false:=by
 unfold World.frozen?;simp only[h];simp
def Mn(hg:CU P g){i1 o1 n1 e1 k1 i2 o2 n2 e2 k2 f1 f2:Nat}{cs1 cs2:List AV}{h:H}(hi:i1≠i2)(h1:h.aW.get i1=some (.cells cs1 f1))(h2:h.aW.get i2=some (.cells cs2 f2))(hf:f1≠f2)(hk1:0<k1)(hk2:0<k2)(he:0<cs2.length):
 ee P (.func g) [.slice (some (i1,o1)) n1 e1 (some k1),.slice (some (i2,o2)) n2 e2 (some k2)] h (λa h'=>a=.bool false/\h'=h):=by
 intro σ w args' hv hr;obtain⟨v1,v2,rfl,q1,q2⟩:=Fb hv;obtain⟨p1,c1,t1,hp1,hb1,hz1,hl1,_⟩:=hr.cells h1;obtain⟨p2,c2,t2,hp2,hb2,hz2,hl2,_⟩:=hr.cells h2
 cases q1 with
 | @slice _ _ _ _ _ a1 p1' x1 hs1 hle1 hr1 hc1 ha1=>
 cases q2 with
 | @slice _ _ _ _ _ a2 p2' x2 hs2 hle2 hr2 hc2 ha2=>
 rw[hp1] at hs1;cases hs1;rw[hp2] at hs2;cases hs2;have hx1:=hc1 k1 rfl;subst hx1;have hx2:=hc2 k2 rfl;subst hx2;have ha1:=ha1.resolve_right i4;have ha2:=ha2.resolve_right i4;subst ha1;subst ha2
 have hne:p1.b≠p2.b:=by
  intro e
  rcases hr.sep i1 i2 _ _ p1 p2 hi h1 h2 hp1 hp2 e with⟨_,_,f,e3,e4⟩ | ⟨_,_,e3,e4⟩
  ·cases e3;cases e4;exact hf rfl
  ·cases e3
 have hrun:=hg w ⟨p1.b,p1.d+o1,none⟩ ⟨p2.b,p2.d+o2,none⟩ n1 k1 n2 k2 t1 t2 c1.size c2.size hne (by unfold World.shape?;simp only[hb1]) (by unfold World.shape?;simp only[hb2]) i4 (BZ hb1) (BZ hb1);rw[hrun];exact⟨.bool false,h,⟨rfl,rfl⟩,σ,.bool false,hr,.refl _ _ _⟩
def Rs:SV->Option (Nat×Nat×Nat×Nat×Nat)
 | .buf o n e (some k)=>some (o,0,n,e,k)
 | .sub o off n e (some k)=>some (o,off,n,e,k)
 | _=>none
variable{f:Fm}{ds:List jG}{K:ez->Prop}{d:Nat}
def aN.Wo{S:List SO}{c:Call}{v1 v2:SV}{a1 b1 n1 e1 k1 a2 b2 n2 e2 k2:Nat}{cs1 cs2:List SV}(hg:CU P g)(hst:dg all n [o]=true)(hop:o.op=.call c)(hdst:o.dst=some d)(hw:bT all f o.guard=some true)(hdy:fR (.call c)=true)
 (hc:iN P f c=some (g,[v1,v2])) (hv1:Rs v1=some (a1,b1,n1,e1,k1)) (hv2:Rs v2=some (a2,b2,n2,e2,k2)) (hS1:S[a1]?=some (.cells cs1)) (hS2:S[a2]?=some (.cells cs2)) (hne:a1≠a2) (hk1:0<k1) (hk2:0<k2) (he:0<cs2.length)
 (hk:aN P ro all l ⟨(d,.a (.bool false))::f,n,S,ds⟩ K):aN P ro all (o::l) ⟨f,n,S,ds⟩ K:=by
 rintro ρ0 h0 ⟨af,n',h,ds'⟩ ⟨rfl,rfl,θ,ρ,hR,hF⟩
 have hd:blt d n'=true:=by
  have:=(fO hst).1;rw[hdst] at this;exact this
 obtain⟨xs,cap,h1,h2⟩:=yr hF hc;obtain⟨L1,as1,q1,q2,q3⟩:=hR.obj a1 _ hS1 gt;obtain⟨L2,as2,r1,r2,r3⟩:=hR.obj a2 _ hS2 gt;have sp:=hR.sep a1 a2 _ _ hne hS1 gt hS2 gt
 have hid:(θ a1).id≠(θ a2).id:=by
  rcases L1.e with e | e<;>rcases L2.e with e' | e'<;>rw[e,e']
  ·exact sp.xx
  ·exact sp.xy
  ·exact sp.yx
  ·exact sp.yy
 rw[aK] at h2;obtain⟨x1,rr,hxs,w1,h3⟩:=h2;rw[aK] at h3;obtain⟨x2,r',rfl,w2,h4⟩:=h3;rw[aZ] at h4;subst h4
 have own:∀{v:SV} {a b m e k:Nat} {x:AV},Rs v=some (a,b,m,e,k)->VS θ ρ v x->x=.slice (some ((θ a).id,b)) m e (some k):=by
  intro v a b m e k x hv hx;unfold Rs at hv;split at hv
  ·cases hv;rw[VS] at hx;exact hx
  ·cases hv;rw[VS] at hx;exact hx
  ·cases hv
 have e1:=own hv1 w1;have e2:=own hv2 w2;subst e1;subst e2;refine .c hop hdst (dn hF (fb hst hw)) hdy hd h1 hxs (Mn hg hid q1 r1 sp.f hk1 hk2 (by rw[r2.length];exact he)) ?_;rintro v h' ⟨rfl,rfl⟩;exact hk ρ0 h0 _ ⟨rfl,rfl,θ,ρ,hR,hF.put (fZ hd) (by rw[VS])⟩
section
variable {θ θ':Nat->Loc} {ρ ρ0 ρ':ko} {P:Program} {h0:En} {h h1:H} {S S' S0:List SO}
def Ge(B:Nat)(f:Fm):Bool:=f.all λp=>blt p.1 B
def zn{B:Nat}:∀{f:Fm},Ge B f=true->∀{i:Nat},B<=i->aO f i=.any
 | [],_,i,_=>rfl
 | (d,v)::f,h,i,hi=>by
  unfold Ge at h;rw[c6,aa] at h;have h1:=fZ h.1;show(if d=i then v else aO f i)=.any;rw[v6 (by simp only at h1;omega)];exact zn h.2 hi
variable{j:Nat}
def NT{d:jG}(h:j<ds.length):TO (d::ds) j=TO ds j:=by
 unfold TO;rw[dc,List.getElem?_append_left (by simpa using h)]
def QC{d:jG}{f:Fn}(h:d.fn=some f):TO (d::ds) ds.length=.fn f d.args d.cap:=by
 unfold TO;rw[dc,bw ge,List.length_reverse,dd];simp[h]
def yb(w:Nat->AV)(ds:List jG)(h:i<7000000):HQ w ds i=w i:=by
 cases ds with
 | nil=>rfl
 | cons d ds=>rw[HQ,v6 i4]
def P1(B:Nat):Fm->Fm
 | []=>[]
 | (d,v)::f=>(d+B,v)::P1 B f
def yB(B:Nat):Fm->Fm
 | []=>[]
 | (d,v)::f=>if B<=d then (d-B,v)::yB B f else yB B f
def tE{B:Nat}:∀(f:Fm) (i:Nat),aO (P1 B f) i=if B<=i then aO f (i-B) else .any
 | [],i=>by split<;>rfl
 | (d,v)::f,i=>by
  show(if d+B=i then v else aO (P1 B f) i)=if B<=i then (if d=i-B then v else aO f (i-B)) else .any
  rw[tE f i];by_cases h:B<=i
  ·rw[ut h,ut h];by_cases e:d+B=i
   ·rw[ut e,ut i4]
   ·rw[v6 e,v6 i4]
  ·rw[v6 h,v6 h,v6 i4]
def tD{B:Nat}:∀(f:Fm) (i:Nat),aO (yB B f) i=aO f (B+i)
 | [],i=>rfl
 | (d,v)::f,i=>by
  show aO (if B<=d then (d-B,v)::yB B f else yB B f) i=if d=B+i then v else aO f (B+i)
  by_cases h:B<=d
  ·rw[ut h];show(if d-B=i then v else aO (yB B f) i)=_;rw[tD f i];by_cases e:d=B+i
   ·rw[ut e,ut i4]
   ·rw[v6 e,v6 i4]
  ·rw[v6 h,tD f i,v6 i4]
def Dn{B:Nat}{g:Fm}(hl:Ge B f=true)(hi:B<=i):aO (f++g) i=aO g i:=
 tC f g i λv hm=>by
  unfold Ge at hl;rw[all_eq_true] at hl;have:=fZ (hl _ hm);simp only at this;omega
def Dm{g:Fm}(hg:aO g i=.any):aO (f++g) i=aO f i:=by
 induction f with
 | nil=>exact hg
 | cons p f ih=>
  obtain⟨d,v⟩:=p
  show(if d=i then v else aO (f++g) i)=if d=i then v else aO f i
  rw[ih]
def GA:List Tmp->List SV->Fm->Fm
 | k::ks,v::vs,f=>GA ks vs ((k,v)::f)
 | _,_,f=>f
def KI{n:Nat}:∀{ks:List Tmp} {vs:List SV} {f:Fm},ks.all (λk=>blt k n)=true->∀{i:Nat},n<=i->aO (GA ks vs f) i=aO f i
 | [],_,_,_,_,_=>by rw[GA];intros;contradiction
 | k::ks,[],_,_,_,_=>by rw[GA];intros;contradiction
 | k::ks,v::vs,f,h,i,hi=>by
  rw[c6,aa] at h;have:=fZ h.1;rw[GA,KI h.2 hi];show(if k=i then v else aO f i)=_;rw[v6 (λe:k=i=>un (e▸this:i<n) (Nat.not_lt.2 hi))]
def uw{n:Nat}:∀{ks:List Tmp} {vs:List SV} {aS:List AV} {f:Fm} {t:Tr AV},ks.length=vs.length->cZ θ ρ vs aS->ks.all (λk=>blt k n)=true->(∀i,i<n->VS θ ρ (aO f i) (MD t i))->
 ∃t1,jA (ks.zip aS) n t=some t1/\∀i,i<n->VS θ ρ (aO (GA ks vs f) i) (MD t1 i)
 | [],[],aS,f,t,_,hv,_,hf=>by
  rw[aZ] at hv;subst hv;exact⟨t,rfl,hf⟩
 | k::ks,v::vs,aS,f,t,hl,hv,hk,hf=>by
  rw[aK] at hv;obtain⟨a,r,rfl,h1,h2⟩:=hv;rw[c6,aa] at hk
  have ih:=uw (f:=(k,v)::f) (t:=t.put k (some a)) (by simpa using hl) h2 hk.2 (by
   intro i hi;show VS θ ρ (if k=i then v else aO f i) (MD _ i);unfold MD;rw[dz];by_cases e:i=k
   ·subst e;rw[ut rfl,ut rfl];exact h1
   ·rw[v6 (λh=>e h.symm),v6 e];exact hf i hi)
  obtain⟨t1,g1,g2⟩:=ih;refine⟨t1,?_,g2⟩;rw[List.zip_cons_cons,jA,hk.1,aq];exact g1
def RS.xP{o:Nat}{c:jI}{ls:LoopState}{p:Option Code}(hR:RS θ ρ0 ρ h0 h S)(hS:S[o]?=some (.loop c ls p f)):
 h.pU c.id=some (ls,p,c.t,c.n,c.ps,c.a,c.b,c.d)/\(∀i,i<c.n->VS θ ρ (aO f i) (MD c.t i))/\∀ls2 p2,RS θ ρ0 ρ h0 (h.set c.id (.loop ls2 p2 c.t c.n c.ps c.a c.b c.d)) (S.set o (.loop c ls2 p2 f)):=by
 obtain⟨hL,hid,h1,h2⟩:=hR.obj o _ hS gt;refine⟨by unfold H.pU;rw[<-hid,h1],h2,λls2 p2=>?_⟩
 have hidr:¬h0.pr c.id:=by
  rw[<-hid]
  rcases hL.e with e | e<;>rw[e]
  ·exact hL.x.1
  ·exact hL.y.1
 have hidn:c.id<h.next:=by
  rw[<-hid]
  rcases hL.e with e | e<;>rw[e]
  ·exact hL.x.2
  ·exact hL.y.2
 have hg:∀v x,VS θ ρ v x->VS (gL θ o (θ o)) ρ v x:=λv x hv=>hv.ids λp=>by
  by_cases hp:p=o
  ·subst hp;rw[cH]
  ·rw[bZ _ _ hp]
 have heq:gL θ o (θ o)=θ:=by
  funext p;by_cases hp:p=o
  ·subst hp;rw[cH]
  ·rw[bZ _ _ hp]
 have get:∀j,j≠c.id->(h.set c.id (.loop ls2 p2 c.t c.n c.ps c.a c.b c.d)).aW.get j=h.aW.get j:=λj hj=>bn _ _ hj
 have:=hR.A1 (h':=h.set c.id (.loop ls2 p2 c.t c.n c.ps c.a c.b c.d)) (S':=S.set o (.loop c ls2 p2 f)) (o:=o) (so':=.loop c ls2 p2 f) (L':=θ o) (g:=λv=>v) (a6 _) (λj hj=>get j (λe=>hidr (e▸hj))) (λ_ _=>rfl)
  (nP hR.lw (hR.ok.lo _ hidr)) (bd (dR _ _).1 hR.ln) hL hg
  (λp so hp h3 h4=>by
   have sp:=hR.sep p o so _ hp h3 h4 hS gt;obtain⟨k,_⟩:=hR.obj p so h3 h4;refine⟨get _ ?_,rfl,sp⟩;rw[<-hid]
   rcases k.e with e1 | e1<;>rcases hL.e with e2 | e2<;>rw[e1,e2]
   ·exact sp.xx
   ·exact sp.xy
   ·exact sp.yx
   ·exact sp.yy)
  (λid ob hi=>by
   obtain⟨r1,r2,r3⟩:=hR.row id ob hi;have:=r3 o _ hS gt;refine⟨get _ ?_,this⟩;rw[<-hid]
   rcases hL.e with e | e<;>rw[e]
   ·exact this.1
   ·exact this.2)
  (by
   rw[heq];refine⟨hid,?_,h2⟩;rw[hid]
   exact cW _ _ _)
  (λp hp=>by
   rw[a8 (λh=>hp h.symm)]
   cases S[p]? with
   | none=>rfl
   | some s=>rw[m6];exact rc some (tT s).symm)
  (by rw[aT (bo hS)])
 rw[heq] at this;exact this
end
section
variable {θ θ':Nat->Loc} {ρ ρ0 ρ':ko} {P:Program} {h0:En} {h h1:H} {S S' S0:List SO}
abbrev laid:Nat:=20000000
variable{oo:Nat}{vs:List SV}
theorem aN.y{f1:Fm}{cl:Call}{x:Operand}{c:jI}{pend:Option Code}(hst:dg all n [o]=true)(hop:o.op=.call cl)(hdst:o.dst=some d)(hw:bT all f o.guard=some true)(hdy:fR (.call cl)=true)
 (hcal:cl.callee=.value x) (hx:eW f x=some (.a (.fn (.yield c.id) [] []))) (hargs:qe f cl.args.toList=some vs) (hS:S[oo]?=some (.loop c .ready pend f1)) (hps:c.ps.toList.length=vs.length) (hlow:Ge c.n f1=true) (hn1:c.n<=1000000) (hpar:c.ps.toList.all (λk=>blt k c.n)=true)
 (hbody:∀ro',aE P ro' c.a ⟨GA c.ps.toList vs (f1++P1 laid f),c.n,S,[]⟩ λex st=>ex=.normal/\∃oo2 pend2 f2,st.S[oo2]?=some (.loop c .ready pend2 f2)/\
  aE P ro' c.b ⟨st.f,c.n,st.S.set oo2 (.loop c .busy pend2 f2),st.ds⟩ λex st=>st.ds=[]/\∃oo3 ls p3 f3,st.S[oo3]?=some (.loop c ls p3 f3)/\
   aN P ro all l ⟨(d,.a (.bool (yE ex)))::yB laid st.f,n,st.S.set oo3 (.loop c (A5 ex) (A4 ex) f3),ds⟩ K):aN P ro all (o::l) ⟨f,n,S,ds⟩ K:=by
 rintro ρ0 h0 ⟨af,n',h,ds'⟩ ⟨rfl,rfl,θ,ρ,hR,hF⟩
 have hd:blt d n'=true:=by
  have:=(fO hst).1;rw[hdst] at this;exact this
 obtain⟨a,ha,ka⟩:=bO hF hx;rw[VS] at ka;subst ka;obtain⟨aS,hs,ks⟩:=mq hF hargs
 have hcall:pH P (eo af n') cl=some (.yield c.id,aS,[]):=by
  unfold pH;rw[hcal];simp only;rw[show ev (eo af n') x=_ from ha];simp only;rw[show A7 (eo af n') cl.args.toList=_ from hs];rfl
 obtain⟨hlo,hfr,_⟩:=hR.xP hS
 obtain⟨t1,hp1,hp2⟩:=uw (n:=c.n) (f:=f1++P1 laid f) hps ks hpar (λi hi=>by
  rw[Dm (by rw[tE,v6 (by unfold laid;omega)])];exact hfr i hi)
 obtain⟨w',hw'⟩:∃w':Nat->AV,w'=λi=>if laid<=i then (if i-laid<n' then af (i-laid) else HQ h0.w ds' (i-laid)) else lV:=⟨_,rfl⟩
 have hst1:jJ ρ0 { h0 with w:=w' } ⟨GA c.ps.toList vs (f1++P1 laid f),c.n,S,[]⟩ ⟨MD t1,c.n,h,[]⟩:=by
  refine⟨rfl,rfl,θ,ρ,hR.w _,λi=>?_,λi hi=>?_⟩
  ·simp only;by_cases hi:i<c.n
   ·rw[ut hi];exact hp2 i hi
   ·have hge:c.n<=i:=aj hi;rw[v6 hi,KI hpar hge,Dn hlow hge,tE];show VS θ ρ _ (w' i);by_cases hb:laid<=i
    ·rw[ut hb,hw'];simp only;rw[ut hb];exact hF.v (i-laid)
    ·rw[v6 hb,VS];trivial
  ·show w' i=lV;rw[hw'];simp only;rw[v6 (by unfold laid;omega)]
 have hlen:=ks.length;refine jH.c hop hdst (dn hF (fb hst hw)) hdy hd hcall (d2 _) (Q:=λv h'=>∃(bb:Bool) (f':Fm) (S':List SO),v=.bool bb/\aN P ro all l ⟨(d,.a (.bool bb))::f',n',S',ds'⟩ K/\∃θ' ρ',RS θ' ρ0 ρ' h0 h' S'/\FR θ' ρ' (aO f') af n' (HQ h0.w ds')) ?_ ?_
 ·refine ee.yield hlo (by rw[hps,hlen]) hp1 (f1:=MD t1) (λ_ _=>rfl) ?_;refine(hbody (some c.id) ρ0 _ _ hst1).mono ?_;rintro ex ⟨af2,n2,h2,ds2⟩ ⟨st,⟨rfl,oo2,pend2,f2,hS2,hb⟩,hn2,e1,e2,θ2,ρ2,hR2,hF2⟩;simp only at e1 e2 hR2 hF2 hn2;obtain⟨hlo2,_,hset2⟩:=hR2.xP hS2;refine⟨rfl,pend2,c.t,c.n,c.ps,c.a,c.b,c.d,hlo2,?_⟩;have hn3:n2=c.n:=e1.trans hn2;subst hn3;have hb2:=hb ρ0 { h0 with w:=w' } ⟨af2,c.n,h2.set c.id (.loop .busy pend2 c.t c.n c.ps c.a c.b c.d),ds2⟩ ⟨rfl,e2,θ2,ρ2,hset2 _ _,by rw[<-e1] at hF2;exact hF2⟩;refine hb2.mono ?_;rintro ex3 ⟨af3,n3,h3,ds3⟩ ⟨st3,⟨hds3,oo3,ls,p3,f3,hS3,hK⟩,hn3,e3,e4,θ3,ρ3,hR3,hF3⟩;simp only at e3 e4 hR3 hF3 hn3;rw[hds3] at e4;subst e4;obtain⟨hlo3,_,hset3⟩:=hR3.xP hS3;refine⟨rfl,ls,p3,c.t,c.n,c.ps,c.a,c.b,c.d,hlo3,yE ex3,yB laid st3.f,_,rfl,hK,θ3,ρ3,(hset3 _ _).w h0.w,λi=>?_,hF.u⟩;rw[tD];have:=hF3.v (laid+i);rw[v6 (by rw[hn3];unfold laid;omega)] at this
  have e5:HQ w' [] (laid+i)=if i<n' then af i else HQ h0.w ds' i:=by
   show w' (laid+i)=_;rw[hw'];simp only;rw[ut i4,ax]
  rw[e5] at this;exact this
 ·rintro v h' ⟨bb,f',S',rfl,hK,θ',ρ',hR',hF'⟩;exact hK ρ0 h0 _ ⟨rfl,rfl,θ',ρ',hR',hF'.put (fZ hd) (by rw[VS])⟩
variable{so:SO}
def RS.QZ{ob:AO}(hR:RS θ ρ0 ρ h0 h S)(hob:ny (gL θ S.length ⟨h.next,h.next,h.next,h.next⟩) ρ { h with aW:=h.aW.put h.next (some ob),next:=h.next+1 } ⟨h.next,h.next,h.next,h.next⟩ (bW S.length so)):
 RS (gL θ S.length ⟨h.next,h.next,h.next,h.next⟩) ρ0 ρ h0 { h with aW:=h.aW.put h.next (some ob),next:=h.next+1 } (eJ S so):=by
 have hpr:∀j,h0.pr j->j<h.next:=λj hj=>ba (hR.ok.pr j hj) hR.nx;have hpf:∀j,h0.pf j->j<h.next:=λj hj=>ba (hR.ok.pf j hj) hR.nx;have hobj:∀j,j<h.next->(h.aW.put h.next (some ob)).get j=h.aW.get j:=λj hj=>bn _ _ i4;refine hR.A1 (g:=aP S.length) (so':=bW S.length so) (by show h.next<=h.next+1;omega) (λj hj=>hobj j (hpr j hj)) (λ_ _=>rfl) hR.lw (c5 hR.ln) ⟨.inl rfl,⟨λhj=>cv _ (hpr _ hj),bt _⟩,⟨λhj=>cv _ (hpr _ hj),bt _⟩,⟨λhj=>cv _ (hpf _ hj),bt _⟩⟩ (λv x hv=>ja (λp hp=>bZ _ _ hp) hv) ?_ ?_ hob ?_ ?_
 ·intro p s hp hs hsg;obtain⟨⟨k1,k2,k3,k4⟩,_⟩:=hR.obj p s hs hsg;refine⟨hobj _ (by rcases k1 with e | e<;>omega),rfl,⟨?_,?_,?_,?_,?_⟩⟩<;>(simp only;omega)
 ·intro id ob' hi;have:=(hR.row id ob' hi).1;exact⟨hobj id this,by simp only;omega,by simp only;omega⟩
 ·intro p hp;unfold eJ
  have hl:(dh S.length S).length=S.length:=by unfold dh;rw[a9]
  rw[ci];split
  ·exact rK _ _ _
  ·rename_i hlt;rw[hl] at hlt ⊢;have:S[p]?=none:=bc i4;rw[this,bc (by simp;omega)];rfl
 ·unfold eJ
  have hl:(dh S.length S).length=S.length:=by unfold dh;rw[a9]
  rw[bw i4,hl,dd];rfl
def TX(P:Program)(g:FuncId)(vs:List SV)(S:List SO)(K:List SO->Prop):Prop:=∃(os:List Nat) (ws:List SV) (S0:List SO) (mv:List Nat) (Q:SV->List SO->Prop),SC P g ws S0 mv Q/\mG (j8 os S.length) ws=vs/\os.length=S0.length/\os.Nodup/\
 (∀(i:Nat) so,S0[i]?=some so->∃o,os[i]?=some o/\S[o]?=some (qa (j8 os S.length) so))/\∀r S',Q r S'->u9 S'.length S'=true/\K (dP S os mv S')
def OJ(S:List SO)(so:SO):(eJ S so).length=S.length+1:=by unfold eJ dh;simp
def IB(o:Nat)(v:SV):aP o (aP o v)=aP o v:=by
 unfold aP;cases h:names o v
 ·simp[h]
 ·simp[names]
def aE.ud(hng:ta P){g:Operand}{ps:Array Tmp}{assign body:Code}{f f1:Fm}{n:Nat}{ds:List jG}{Q:Ex->ez->Prop}{fid:FuncId}{fn':Func}{first cap:List SV}(hg:eW f g=some (.fn fid first cap))(hfn:P.funcs[fid]?=some fn')(hb:fn'.body.isSome=true)
 (hf1:uX (dB (S.length+1) (dB S.length f)) f1)
 (hk:∀(N:Nat) (c:jI),c.id=N+1->c.n=n->c.ps=ps->c.a=assign->c.b=body->TX P fid ((first++[SV.a (.fn (.yield (N+1)) [] [])]++cap).map λv=>aP (S.length+1) (aP S.length v)) (eJ (eJ S (.mA N)) (.loop c .ready none f1)) λS2=>∃oo ls p f2,S2[oo]?=some (.loop c ls p f2)/\ls≠.busy/\Ge n f2=true/\
  match p with
  | none=>Q .normal ⟨f2,n,S2.set oo .gone,{ fn:=none,Fe:=N,args:=[],cap:=[] }::ds⟩
  | some cd=>aE P none cd ⟨f2,n,S2.set oo .gone,{ fn:=none,Fe:=N,args:=[],cap:=[] }::ds⟩ Q):aE P none (.rangeFunc g ps assign body) ⟨f,n,S,ds⟩ Q:=by
 rintro ρ0 h0 ⟨af,n',⟨O,F,N,lw⟩,ds'⟩ ⟨rfl,rfl,θ,ρ,hR,hF⟩;obtain⟨gv,hgv,kgv⟩:=bO hF hg;rw[VS] at kgv;obtain⟨xs,ys,rfl,kx,ky⟩:=kgv;simp only at hR hF;obtain⟨c,hc⟩:∃c:jI,c=⟨N+1,eo af n',n',ps,assign,body,N⟩:=⟨_,rfl⟩;have hkc:=hk N c (by rw[hc]) (by rw[hc]) (by rw[hc]) (by rw[hc]) (by rw[hc]);obtain⟨os,ws,S0,mv,Qc,hsc,hws,hKl,hnd,hos,hpost⟩:=hkc;have hR1:=hR.QZ (so:=.mA N) (ob:=.mA false) ⟨rfl,cW _ _ _⟩;simp only at hR1;have hl1:(eJ S (SO.mA N)).length=S.length+1:=OJ _ _
 have hR2:=hR1.QZ (so:=.loop c .ready none f1) (ob:=.loop .ready none (eo af n') n' ps assign body N) (by
  refine⟨by rw[hc],?_,?_⟩
  ·simp only;rw[cW,hc]
  ·intro i hi
   have hn:c.n=n':=by rw[hc]
   rw[hn] at hi
   have e1:MD c.t i=af i:=by
    rw[hc];unfold MD;simp only;rw[nq _ _ _ hi];rfl
   rw[e1,fD,hl1];have hv:=hF.v i;rw[ut hi] at hv;have h2:VS (gL θ S.length ⟨N,N,N,N⟩) ρ (aP S.length (aO f i)) (af i):=ja (λp hp=>bZ _ _ hp) hv;have h3:VS (gL (gL θ S.length ⟨N,N,N,N⟩) (S.length+1) ⟨N+1,N+1,N+1,N+1⟩) ρ (aP (S.length+1) (aP S.length (aO f i))) (af i):=ja (λp hp=>bZ _ _ hp) h2
   rcases hf1.get i with e | e
   ·rw[e,fD,fD];rw[IB];exact h3
   ·rw[e]
    have:aP (S.length+1) SV.any=.any:=by unfold aP;simp[names]
    rw[this,VS];trivial)
 rw[hl1] at hR2;obtain⟨SN,hSN⟩:∃SN,SN=eJ (eJ S (.mA N)) (.loop c .ready none f1):=⟨_,rfl⟩;rw[<-hSN] at hR2 hws hos hpost
 have hos2:∀o∈os,o<SN.length:=by
  intro o ho;obtain⟨i,hi1,hi2⟩:=bF ho
  have:i<S0.length:=by omega
  obtain⟨o',e1,e2⟩:=hos i _ (jp this);rw[jp hi1] at e1;cases e1;rw[<-hi2];exact bo e2
 have hr:∀(i:Nat) so,S0[i]?=some so->SN[j8 os SN.length i]?=some (qa (j8 os SN.length) so):=by
  intro i so e;obtain⟨o,e1,e2⟩:=hos i so e;rw[mY e1];exact e2
 have hargs:cZ (gL (gL θ S.length ⟨N,N,N,N⟩) (S.length+1) ⟨N+1,N+1,N+1,N+1⟩) ρ ((first++[SV.a (.fn (.yield (N+1)) [] [])]++cap).map λv=>aP (S.length+1) (aP S.length v)) (xs++[.fn (.yield (N+1)) [] []]++ys):=by
  have h1:cZ θ ρ (first++[SV.a (.fn (.yield (N+1)) [] [])]++cap) (xs++[.fn (.yield (N+1)) [] []]++ys):=(kx.app (by rw[aK];exact⟨_,_,rfl,by rw[VS],by rw[aZ]⟩)).app ky;exact h1.map λv x hv=>ja (λp hp=>bZ _ _ hp) (ja (θ':=gL θ S.length ⟨N,N,N,N⟩) (λp hp=>bZ _ _ hp) hv)
 rw[<-hws] at hargs;refine lW.ud hng hgv hfn hb (Q1:=λlp v h'=>∃r S' θ' ρ' h1,Qc r S'/\h'={ h1 with low:=hY lw h1.low }/\RS θ' ρ ρ' (NY (λp=>(gL (gL θ S.length ⟨N,N,N,N⟩) (S.length+1) ⟨N+1,N+1,N+1,N+1⟩) (j8 os SN.length p)) h0 ⟨(O.put N (some (.mA false))).put (N+1) (some lp),F,N+2,lw⟩ S0) h1 S'/\VS θ' ρ' r v/\S0.length<=S'.length/\∀i,i<S0.length->i∉mv->(θ' i).id=((gL (gL θ S.length ⟨N,N,N,N⟩) (S.length+1) ⟨N+1,N+1,N+1,N+1⟩) (j8 os SN.length i)).id) ?_ ?_
 ·rintro lp rfl;exact hsc _ _ ρ _ _ rfl (hR2.enter hr (λi j=>DY hnd hos2)) ((cZ.rn _).1 hargs)
 ·rintro lp v h' rfl ⟨r,S',θ',ρ',h1,k1,rfl,k3,k4,k5,k6⟩;obtain⟨b2,hq⟩:=hpost r S' k1;obtain⟨j1,_,_⟩:=Oz (low:=hY lw h1.low) hR2 hr hKl hnd hos2 k3 k5 k6 b2 rfl;obtain⟨oo,ls,p,f2,hS2,hls,hlow2,hQ⟩:=hq;obtain⟨hlo,hfr,hset⟩:=j1.xP hS2
  have hcid:c.id=N+1:=by rw[hc]
  rw[hcid] at hlo hset
  have hstn:∀p2,jJ ρ0 h0 ⟨f2,n',(dP SN os mv S').set oo .gone,{ fn:=none,Fe:=N,args:=[],cap:=[] }::ds'⟩ ⟨af,n',H.set { h1 with low:=hY lw h1.low } (N+1) (.loop .exhausted p2 c.t c.n c.ps c.a c.b c.d),{ fn:=none,Fe:=N,args:=[],cap:=[] }::ds'⟩:=by
   intro p2;refine⟨rfl,rfl,_,_,(hset .exhausted p2).sub ?_,λi=>?_,λi hi=>by rw[yb _ _ i4];have:=hF.u i hi;rw[yb _ _ i4] at this;exact this⟩
   ·intro o so e1 e2;by_cases e:o=oo
    ·subst e;rw[aT (bo hS2)] at e1;cases e1;exact un rfl e2
    ·rw[a8 (λh=>e h.symm)] at e1 ⊢;exact e1
   ·by_cases hi:i<n'
    ·rw[ut hi]
     have hn:c.n=n':=by rw[hc]
     have:=hfr i (by rw[hn];exact hi)
     have e1:MD c.t i=af i:=by
      rw[hc];unfold MD;simp only;rw[nq _ _ _ hi];rfl
     rw[e1] at this;exact this
    ·rw[zn hlow2 (aj hi),VS];trivial
  refine⟨ls,p,c.t,c.n,c.ps,c.a,c.b,c.d,hlo,hls,?_⟩
  cases p with
  | none=>exact⟨_,hQ,rfl,hstn none⟩
  | some cd=>exact hQ ρ0 h0 _ (hstn (some cd))
end
def E4(P:Program):List jG->H->(H->Prop)->Prop
 | [],h,K=>K h
 | d::ds,h,K=>match d.fn with
  | none=>h.aW.get d.Fe=some (.mA false)/\E4 P ds (h.set d.Fe (.mA true)) K
  | some (.func g)=>∃fn c m,P.funcs[g]?=some fn/\fn.body=some c/\(d.args++d.cap).length+(fn.ntmps-(d.args++d.cap).length)=m/\
   lW P none c ⟨r8 (d.args++d.cap),m,h,[]⟩ (λe st=>kE e=true/\st.ds=[]/\(∃v,uf P (eo st.f st.n) st.h fn.results.toList=some v)/\E4 P ds st.h K)
  | _=>False
def vA{P:Program}(hng:ta P){n:Nat}{fn:Func}{a:Act}{t:Tr AV}{N:Nat}{R:Ending->World->Prop}{σ0:Sg}{h0:H}{w0:World}{K:H->Prop}:∀(ds:List jG) (h:H),E4 P ds h K->
 ∀(ds':List Deferred) (σ:Sg) (w:World),RQ σ ds ds'->HR σ h w->TR σ t N a.tmps->Ext σ0 σ h0 h w0 w->
 (∀h' σ' w',K h'->HR σ' h' w'->TR σ' t N a.tmps->Ext σ0 σ' h0 h' w0 w'->∃v,(results fn a.tmps).run P w'=.ok v w'/\R (.returned v) w')->
 LeavesInM Fence.wide n P fn a.tmps R ds' .returning w
 | [],h,ho,ds',σ,w,hd,hr,ht,hE,hR=>by
  cases ds' with
  | cons d ds=>exact hd.elim
  | nil=>exact hR h σ w ho hr ht hE
 | d::ds,h,ho,ds',σ,w,hd,hr,ht,hE,hR=>by
  cases ds' with
  | nil=>exact hd.elim
  | cons d' ds'=>
   obtain⟨hd1,hd2⟩:=hd;rw[E4] at ho;unfold TM at hd1
   cases hdf:d.fn with
   | none=>
    rw[hdf] at hd1 ho;simp only at hd1 ho;obtain⟨q,hq,rfl⟩:=hd1;obtain⟨hob,ho⟩:=ho;obtain⟨q',hq',hor⟩:=hr.obj _ _ hob;rw[hq] at hq';cases hq';have hor:w.heap[q.b]?=some (.deferred (some [])):=hor;obtain⟨s1,s2⟩:=hr.jZ (o':=.mA true) (ob:=.deferred none) hob rfl rfl hq rfl;refine⟨by simp,.inl ⟨q.b,_,rfl,?_,vA hng ds _ ho ds' σ _ hd2 s1 ht (hE.trans s2) hR⟩⟩;simp only[Instr.takeDeferred,ne,cw hor ge,pp,en hor ge,m9]
   | some f=>
    rw[hdf] at hd1 ho;simp only at hd1;obtain⟨g,cap',rfl,htar,hargs,hcap⟩:=hd1;simp only at ho;obtain⟨fn',c,m,hfn,hbody,hm,hwp⟩:=ho
    have hall':VL σ (d.args++d.cap) (d'.args++cap').toList:=by
     simp only[be];exact hargs.append hcap
    have hcall:=eg hng hfn (by rw[hbody];rfl) (d'.args++cap') w;refine⟨by simp,.inr ⟨λh=>by simp[Fence.wide] at h,.func g,cap',g,d'.args++cap',htar,?_,λ_ _=>trivial,?_⟩⟩
    ·rw[htar];simpa only[invoke] using hcall
    ·subst hm;have hw:=hwp Fence.wide (n-1) σ { tmps:=(d'.args++cap')++b7 (fn'.ntmps-(d'.args++cap').size) undef,defers:=[] } w ⟨JZ hall' _,hr,trivial⟩ rfl;have hD:=callsDIn_of_wp (F:=Fence.wide) (n:=n-1) (u:=.returning) (R:=λe w'=>∃v h' σ',e=.returned v/\E4 P ds h' K/\HR σ' h' w'/\Ext σ σ' h h' w w') hfn hbody trivial (wpIn_mono hw ?_)
     ·refine⟨hD.1,λcc cs hm hroom=>?_⟩;obtain⟨e,u',w',fr,⟨rfl,v,h',σ',rfl,q1,hh',hext⟩,hrest⟩:=hD.2 cc cs hm hroom;refine⟨.returned v,_,w',fr,?_,hrest⟩;have hset:settle .returning=.returning:=rfl;simp only[hset];exact vA hng ds h' q1 ds' σ' w' (hd2.mono hext.le) hh' (ht.mono hext.le) (hE.trans hext) hR
     ·rintro e a' w' ⟨ex,st',⟨hend,hds,⟨rr,hres⟩,h1⟩,hex,σ',hs',hE',hn'⟩
      have hde:a'.defers=[]:=by
       have:=hs'.ds;rw[hds] at this
       cases had:a'.defers with
       | nil=>rfl
       | cons x y=>rw[had] at this;exact this.elim
      obtain⟨v,k1,k2⟩:=ug hs'.sr.t hs'.h hres
      have:bodyPost P fn' (λe w'=>∃v h' σ',e=.returned v/\E4 P ds h' K/\HR σ' h' w'/\Ext σ σ' h h' w w') e a' w':=by
       rcases tv hend with rfl | rfl
       ·have:e=.normal:=hex;subst this;exact⟨hde,v,k1,v,st'.h,σ',rfl,h1,hs'.h,hE'⟩
       ·have:e=.ret:=hex;subst this;exact⟨hde,v,k1,v,st'.h,σ',rfl,h1,hs'.h,hE'⟩
      exact this
def ee.tn(hng:ta P){fn:Func}{c:Code}{args:List AV}{h:H}{Q:AV->H->Prop}(hf:P.funcs[g]?=some fn)(hb:fn.body=some c)(hn:args.length+(fn.ntmps-args.length)=n)
 (hw:lW P none c ⟨r8 args,n,{ h with low:=h.next },[]⟩ λe st=>kE e=true/\E4 P st.ds st.h λh''=>∃v,uf P (eo st.f st.n) h'' fn.results.toList=some v/\Q v { h'' with low:=hY h.low h''.low }):ee P (.func g) args h Q:=by
 intro σ w args' hv hr;rw[eg hng hf (by rw[hb];rfl)];have hr1:HR σ { h with low:=h.next } w:=⟨hr.obj,hr.fresh,hr.sep,hr.bX,a6 _⟩;subst hn;have hw:=hw Fence.wide 0 σ { tmps:=args'++b7 (fn.ntmps-args'.size) undef,defers:=[] } w ⟨JZ hv _,hr1,trivial⟩ rfl;refine callsIn_wide.1 (callsIn_of_wp_marks (F:=Fence.wide) (n:=0) hf hb trivial (wpIn_mono hw ?_));rintro e a' w' ⟨exx,st',⟨hend,hl⟩,hexx,σ',hs',hE',hn'⟩
 have key:LeavesInM Fence.wide 0 P fn a'.tmps (λe w''=>∃v,e=.returned v/\E2 σ h w Q v w'') a'.defers .returning w':=by
  refine vA hng st'.ds st'.h hl a'.defers σ' w' hs'.ds hs'.h hs'.sr.t hE' ?_;rintro h'' σ'' w'' ⟨v,hres,hQ⟩ hh'' ht'' hE'';obtain⟨x,k1,k2⟩:=ug ht'' hh'' hres;have:=lower hr hh'' hE'';exact⟨x,k1,x,rfl,v,_,hQ,σ'',k2,this.1,this.2⟩
 rcases tv hend with rfl | rfl
 ·have:e=.normal:=hexx;subst this;exact key
 ·have:e=.ret:=hexx;subst this;exact key
section
variable {θ θ':Nat->Loc} {ρ ρ0 ρ':ko} {P:Program} {h0:En} {h h1:H} {S S' S0:List SO}
variable{bs:List Nat}{j:Nat}{e:AV×AV×Nat}
def rH{l:List (AV×AV×Nat)}(hbs:l.map (·.2.2)=bs)(he:l[j]?=some e):bs.getD j 0=e.2.2:=by
 rw[<-hbs,List.getD_eq_getElem?_getD,al,he];rfl
def born_inj{l:List (AV×AV×Nat)}{c:Nat}(hb:oi l c){e':AV×AV×Nat}(hi:l[i]?=some e)(hj:l[j]?=some e')(h:e.2.2=e'.2.2):i=j:=by
 have h1:(l.map (·.2.2))[i]?=some e.2.2:=by rw[al,hi];rfl
 have h2:(l.map (·.2.2))[j]?=some e.2.2:=by rw[al,hj,h];rfl
 have hl:=bo h1;exact(List.getElem?_inj hl hb.1).1 (h1.trans h2.symm)
def Al(b:Nat):∀(l:List Nat),seenIn b l=true↔b∈l
 | []=>by simp[seenIn]
 | x::l=>by
  simp only[seenIn,d1,Al b l,List.mem_cons];constructor
  ·rintro(h | h)
   ·exact .inl (cS h).symm
   ·exact .inr h
  ·rintro(h | h)
   ·exact .inl (M8 h.symm)
   ·exact .inr h
variable{pos:List Nat}
def Cj{j7 c:Nat}{l:List (AV×AV×Nat)}(hg:h.aW.get id=some (.jd (some j7) c (pos.map λj=>bs.getD j 0) c))(hm:h.mapOf j7=some (l,c))(hb:oi l c)(hbs:l.map (·.2.2)=bs)(hp:∀j∈pos,j<l.length):
 ∃outs,zI h (.ptr (some (id,0))) false=some outs/\∀x∈outs,(x=(.cx [.bool false],h)/\∀j,j<l.length->j∈pos)\/
  ∃j k v,j<l.length/\j∉pos/\x=(.cx [.bool true,k,v],h.set id (.jd (some j7) c ((pos++[j]).map λj=>bs.getD j 0) c)):=by
 have hc:(!(pos.map λj=>bs.getD j 0).isEmpty&&(!l.isEmpty&&l.all (λe=>ble c e.2.2)))=false:=by
  cases hl:l with
  | nil=>simp
  | cons a r=>
   have hall:(a::r).all (λe=>ble c e.2.2)=false:=by
    rw[List.all_eq_false];refine⟨a,am ..,?_⟩;have:=hb.2 a (by rw[hl];exact am ..);intro hh;have:=jq hh;omega
   rw[hall];simp
 have hnx:zI h (.ptr (some (id,0))) false=some (qB h id j7 c (pos.map λj=>bs.getD j 0) c ((l.filter λe=>!(seenIn e.2.2 (pos.map λj=>bs.getD j 0))).filter λe=>blt e.2.2 c) ((l.filter λe=>!(seenIn e.2.2 (pos.map λj=>bs.getD j 0))).filter λe=>!(blt e.2.2 c))):=by
  simp only[zI,hg,hm,m7];rw[hc,aA]
 refine⟨_,hnx,?_⟩;intro x hx;unfold qB at hx
 have hun:∀j e,l[j]?=some e->seenIn e.2.2 (pos.map λj=>bs.getD j 0)=false->j∉pos:=by
  intro j e he hs hj;have:seenIn e.2.2 (pos.map λj=>bs.getD j 0)=true:=(Al _ _).2 (mem_map.2 ⟨j,hj,rH hbs he⟩);rw[this] at hs;cases hs
 rcases mem_append.1 hx with hx | hx
 ·left;cases he:((l.filter λe=>!(seenIn e.2.2 (pos.map λj=>bs.getD j 0))).filter λe=>blt e.2.2 c).isEmpty
  ·rw[he,aA] at hx;cases hx
  ·rw[he,aq] at hx;refine⟨t6 hx,λj hj=>?_⟩;rw[List.isEmpty_iff] at he;have hlj:l[j]?=some l[j]:=jp hj;apply Classical.byContradiction;intro hn
   have hmem:l[j]∈(l.filter λe=>!(seenIn e.2.2 (pos.map λj=>bs.getD j 0))).filter λe=>blt e.2.2 c:=by
    refine mem_filter.2 ⟨mem_filter.2 ⟨bq hj,?_⟩,Nat.ble_eq_true_of_le (hb.2 _ (bq hj))⟩;cases hs:seenIn l[j].2.2 (pos.map λj=>bs.getD j 0)
    ·rfl
    ·exfalso;obtain⟨j',hj',e⟩:=mem_map.1 ((Al _ _).1 hs);obtain⟨e',hlj'⟩:∃e',l[j']?=some e':=⟨_,jp (hp j' hj')⟩;rw[rH hbs hlj'] at e;exact hn (born_inj hb hlj hlj' e.symm▸hj')
   rw[he] at hmem;cases hmem
 ·right;obtain⟨e,he,rfl⟩:=mem_map.1 hx
  have he':e∈l/\seenIn e.2.2 (pos.map λj=>bs.getD j 0)=false:=by
   rcases mem_append.1 he with he | he <;>
   ·have:=mem_filter.1 (mem_filter.1 he).1;exact⟨this.1,by simpa using this.2⟩
  obtain⟨j,hj⟩:=List.mem_iff_getElem?.1 he'.1;refine⟨j,e.1,e.2.1,bo hj,hun j e hj he'.2,?_⟩;rw[d3,b0,map_nil,rH hbs hj]
def BN:∀{l:List (AV×AV×Nat)} {j k:Nat} {e:AV×AV×Nat},(l.map (·.2.2)).Nodup->l[j]?=some e->kC e.2.2 l k=some (k+j)
 | [],j,k,e,_,he=>by simp at he
 | a::l,0,k,e,hn,he=>by
  simp only[a7,qr] at he;subst he;rw[kC,d5];rfl
 | a::l,j+1,k,e,hn,he=>by
  simp only[ay] at he;rw[b0,d4] at hn;rw[kC]
  have hne:beq a.2.2 e.2.2=false:=by
   cases hb:beq a.2.2 e.2.2
   ·rfl
   ·exact un (cS hb▸co (f:=λx:AV×AV×Nat=>x.2.2) (cn he)) hn.1
  rw[hne,aA,BN hn.2 he]
  congr 1;omega
def yF{j7 c:Nat}{l:List (AV×AV×Nat)}(hg:h.aW.get id=some (.jd (some j7) c ((pos++[j]).map λj=>bs.getD j 0) c))(hm:h.mapOf j7=some (l,c))(hb:oi l c)(hbs:l.map (·.2.2)=bs)(he:l[j]?=some e):
 vd h (.ptr (some (id,0)))=some (.cx [e.1,e.2.1]):=by
 have hlast:((pos++[j]).map λj=>bs.getD j 0).getLast?=some e.2.2:=by
  rw[d3,b0,map_nil,List.getLast?_append,rH hbs he];rfl
 simp only[vd,hg,hlast,hm,m7,d5,aq];rw[BN hb.1 he,m7,b6,he];rfl
variable{so:SO}
def RS.put{o:Nat}{so':SO}{ob':AO}(hR:RS θ ρ0 ρ h0 h S)(hS:S[o]?=some so)(hgn:so≠.gone)(hnew:ny θ ρ (h.set (θ o).id ob') (θ o) so'):RS θ ρ0 ρ h0 (h.set (θ o).id ob') (S.set o so'):=by
 obtain⟨hL,_⟩:=hR.obj o _ hS hgn
 have hidr:¬h0.pr (θ o).id:=by
  rcases hL.e with e | e<;>rw[e]
  ·exact hL.x.1
  ·exact hL.y.1
 have hg:∀v x,VS θ ρ v x->VS (gL θ o (θ o)) ρ v x:=λv x hv=>hv.ids λp=>by
  by_cases hp:p=o
  ·subst hp;rw[cH]
  ·rw[bZ _ _ hp]
 have heq:gL θ o (θ o)=θ:=by
  funext p;by_cases hp:p=o
  ·subst hp;rw[cH]
  ·rw[bZ _ _ hp]
 have get:∀j,j≠(θ o).id->(h.set (θ o).id ob').aW.get j=h.aW.get j:=λj hj=>bn _ _ hj
 have:=hR.A1 (h':=h.set (θ o).id ob') (S':=S.set o so') (o:=o) (so':=so') (L':=θ o) (g:=λv=>v) (a6 _) (λj hj=>get j (λe=>hidr (e▸hj))) (λ_ _=>rfl)
  (nP hR.lw (hR.ok.lo _ hidr)) (bd (dR _ _).1 hR.ln) hL hg
  (λp so1 hp h3 h4=>by
   have sp:=hR.sep p o so1 _ hp h3 h4 hS hgn;obtain⟨k,_⟩:=hR.obj p so1 h3 h4;refine⟨get _ ?_,rfl,sp⟩
   rcases k.e with e1 | e1<;>rcases hL.e with e2 | e2<;>rw[e1,e2]
   ·exact sp.xx
   ·exact sp.xy
   ·exact sp.yx
   ·exact sp.yy)
  (λid ob hi=>by
   obtain⟨r1,r2,r3⟩:=hR.row id ob hi;have:=r3 o _ hS hgn;refine⟨get _ ?_,this⟩
   rcases hL.e with e | e<;>rw[e]
   ·exact this.1
   ·exact this.2)
  (by rw[heq];exact hnew)
  (λp hp=>by
   rw[a8 (λh=>hp h.symm)]
   cases S[p]? with
   | none=>rfl
   | some s=>rw[m6];exact rc some (tT s).symm)
  (by rw[aT (bo hS)])
 rw[heq] at this;exact this
def RS.VQ{o:Nat}{so':SO}(hR:RS θ ρ0 ρ h0 h S)(hS:S[o]?=some so)(hgn:so≠.gone)(hnew:ny θ ρ h (θ o) so->ny θ ρ h (θ o) so'):RS θ ρ0 ρ h0 h (S.set o so'):=by
 have own:∀p s,(S.set o so')[p]?=some s->(p=o/\s=so')\/(p≠o/\S[p]?=some s):=by
  intro p s hp;by_cases e:p=o
  ·subst e;rw[aT (bo hS)] at hp;cases hp;exact .inl ⟨rfl,rfl⟩
  ·rw[a8 (λh=>e h.symm)] at hp;exact .inr ⟨e,hp⟩
 refine⟨hR.ok,hR.nx,hR.ob,hR.fm,hR.lw,hR.ln,?_,?_,?_,hR.mE⟩
 ·intro p s hp hg
  rcases own p s hp with⟨rfl,rfl⟩ | ⟨_,hp'⟩
  ·obtain⟨k1,k2⟩:=hR.obj p _ hS hgn;exact⟨k1,hnew k2⟩
  ·exact hR.obj p s hp' hg
 ·intro p q s s' hpq hp hg hq hg'
  have a:∃s0,S[p]?=some s0/\s0≠.gone:=by
   rcases own p s hp with⟨rfl,rfl⟩ | ⟨_,hp'⟩
   ·exact⟨_,hS,hgn⟩
   ·exact⟨_,hp',hg⟩
  have b:∃s0,S[q]?=some s0/\s0≠.gone:=by
   rcases own q s' hq with⟨rfl,rfl⟩ | ⟨_,hp'⟩
   ·exact⟨_,hS,hgn⟩
   ·exact⟨_,hp',hg'⟩
  obtain⟨s0,a1,a2⟩:=a;obtain⟨s1,b1,b2⟩:=b;exact hR.sep p q s0 s1 hpq a1 a2 b1 b2
 ·intro id ob hi;obtain⟨r1,r2,r3⟩:=hR.row id ob hi;refine⟨r1,r2,λp s hp hg=>?_⟩
  rcases own p s hp with⟨rfl,rfl⟩ | ⟨_,hp'⟩
  ·exact r3 p _ hS hgn
  ·exact r3 p s hp' hg
def Kx{t:TypeId}(h:jc P t=.map):∃k e,P.underlying t=some (.map k e):=by
 unfold jc at h
 split at h<;>first | (cases h;done) | exact⟨_,_,by assumption⟩
variable {ro:Option Nat} {all:List Oper} {o:Oper} {l:List Oper} {f:Fm} {n d:Nat} {ds:List jG} {K:ez->Prop} {x:Operand} {ks:List AV} {vs:List SV} {bs pos:List Nat} {c i:Nat}
def aN.UT{t:TypeId}(hst:dg all n [o]=true)(hop:o.op=.range t x)(hdst:o.dst=some d)(hw:bT all f o.guard=some true)(hx:eW f x=some (.im ks vs))(ht:jc P t=.map)
 (hk:∀bs c,bs.length=ks.length->aN P ro all l ⟨(d,.ptr S.length 0)::dB S.length f,n,eJ S (.oR ks vs bs c []),ds⟩ K):aN P ro all (o::l) ⟨f,n,S,ds⟩ K:=by
 rintro ρ0 h0 ⟨af,n',h,ds'⟩ ⟨rfl,rfl,θ,ρ,hR,hF⟩
 have hd:blt d n'=true:=by
  have:=(fO hst).1;rw[hdst] at this;exact this
 obtain⟨a,ha,ka⟩:=bO hF hx;rw[VS,GS] at ka;obtain⟨j7,lm,c,rfl,h1,h2,h3⟩:=ka;obtain⟨kt,et,hu⟩:=Kx ht
 have hm:h.mapOf j7=some (lm,c):=by unfold H.mapOf;rw[(hR.row j7 _ h1).2.1]
 have hrun:eB P (eo af n') h (.range t x)=some [(some (.ptr (some (h.next,0))),{ h with aW:=h.aW.put h.next (some (.jd (some j7) c [] c)),next:=h.next+1 })]:=by
  rw[Gy,show ev (eo af n') x=_ from ha,m7];simp only[vK,hu,hm,m6,H.newObj]
 refine .v hop hdst (dn hF (fb hst hw)) rfl hd hrun ?_;have hR1:=hR.QZ (so:=.oR ks vs (lm.map (·.2.2)) c []) (ob:=.jd (some j7) c [] c) ⟨j7,lm,h1,⟨h2.1,h2.2.1,λp hp=>by cases hp;exact⟨rfl,rfl⟩⟩,h3,cW _ _ _⟩;refine hk (lm.map (·.2.2)) c (by rw[a9,<-h2.1,a9]) ρ0 h0 _ ⟨rfl,rfl,_,ρ,hR1,?_⟩;exact hF.kill (kill:=some S.length) (λv x hv=>ja (λp hp=>bZ _ _ hp) hv) (fZ hd) (by rw[VS,cH])
variable{oo:Nat}{b:Option (List Nat×Nat)}
def aN.Wq{t:TypeId}(hst:dg all n [o]=true)(hop:o.op=.range t x)(hdst:o.dst=some d)(hw:bT all f o.guard=some true)(hx:eW f x=some (.map oo))(hS:S[oo]?=some (.map ks vs b))(ht:jc P t=.map)
 (hk:∀bs c,bs.length=ks.length->aN P ro all l ⟨(d,.ptr S.length 0)::dB S.length f,n,eJ (S.set oo (.map ks vs (some (bs,c)))) (.iter (.map oo) bs c []),ds⟩ K):aN P ro all (o::l) ⟨f,n,S,ds⟩ K:=by
 rintro ρ0 h0 ⟨af,n',h,ds'⟩ ⟨rfl,rfl,θ,ρ,hR,hF⟩
 have hd:blt d n'=true:=by
  have:=(fO hst).1;rw[hdst] at this;exact this
 obtain⟨a,ha,ka⟩:=bO hF hx;rw[VS] at ka;subst ka;obtain⟨_,lm,c,h1,h2,h3⟩:=hR.obj oo _ hS gt;obtain⟨kt,et,hu⟩:=Kx ht
 have hm:h.mapOf (θ oo).id=some (lm,c):=by unfold H.mapOf;rw[h1]
 have hrun:eB P (eo af n') h (.range t x)=some [(some (.ptr (some (h.next,0))),{ h with aW:=h.aW.put h.next (some (.jd (some (θ oo).id) c [] c)),next:=h.next+1 })]:=by
  rw[Gy,show ev (eo af n') x=_ from ha,m7];simp only[vK,hu,hm,m6,H.newObj]
 refine .v hop hdst (dn hF (fb hst hw)) rfl hd hrun ?_;have hR0:RS θ ρ0 ρ h0 h (S.set oo (.map ks vs (some (lm.map (·.2.2),c)))):=hR.VQ hS gt λ_=>⟨lm,c,h1,⟨h2.1,h2.2.1,λp hp=>by cases hp;exact⟨rfl,rfl⟩⟩,h3⟩;have hlen:(S.set oo (.map ks vs (some (lm.map (·.2.2),c)))).length=S.length:=List.length_set;have hlt:=bo hS
 have hkm:aP S.length (.map oo)=.map oo:=by
  unfold aP;rw[names,wd i4];rfl
 have hR1:=hR0.QZ (so:=.iter (.map oo) (lm.map (·.2.2)) c []) (ob:=.jd (some (θ oo).id) c [] c) (by
  rw[hlen,bW,hkm]
  exact⟨(θ oo).id,by rw[VS,bZ _ _ i4],cW _ _ _⟩)
 rw[hlen] at hR1;refine hk (lm.map (·.2.2)) c (by rw[a9,<-h2.1,a9]) ρ0 h0 _ ⟨rfl,rfl,_,ρ,hR1,?_⟩;exact hF.kill (kill:=some S.length) (λv x hv=>ja (λp hp=>bZ _ _ hp) hv) (fZ hd) (by rw[VS,cH])
def aN.UR(hst:dg all n [o]=true)(hop:o.op=.next x false)(hdst:o.dst=some d)(hw:bT all f o.guard=some true)(hx:eW f x=some (.ptr i 0))(hS:S[i]?=some (.oR ks vs bs c pos))(hp:∀j∈pos,j<ks.length)
 (hk0:(∀j,j<ks.length->j∈pos)->aN P ro all l ⟨(d,.cx [.a (.bool false)])::f,n,S,ds⟩ K)
 (hk1:∀j,j<ks.length->j∉pos->aN P ro all l ⟨(d,.cx [.a (.bool true),.any,.any])::f,n,S.set i (.oR ks vs bs c (pos++[j])),ds⟩ K):aN P ro all (o::l) ⟨f,n,S,ds⟩ K:=by
 rintro ρ0 h0 ⟨af,n',h,ds'⟩ ⟨rfl,rfl,θ,ρ,hR,hF⟩
 have hd:blt d n'=true:=by
  have:=(fO hst).1;rw[hdst] at this;exact this
 obtain⟨a,ha,ka⟩:=bO hF hx;rw[VS] at ka;subst ka;obtain⟨_,j7,lm,h1,h2,h3,h4⟩:=hR.obj i _ hS gt
 have hm:h.mapOf j7=some (lm,c):=by unfold H.mapOf;rw[(hR.row j7 _ h1).2.1]
 have hlen:lm.length=ks.length:=by rw[<-h2.1,a9]
 obtain⟨outs,ho,hall⟩:=Cj h4 hm h2.2.1 (h2.2.2 _ rfl).1 (λj hj=>by rw[hlen];exact hp j hj);refine .n hop hdst (dn hF (fb hst hw)) rfl hd (by rw[KG (show ev (eo af n') x=_ from ha),ho];rfl) ?_;intro y hy;obtain⟨z,hz,rfl⟩:=mem_map.1 hy
 rcases hall z hz with⟨rfl,hq⟩ | ⟨j,k,v,hj,hn,rfl⟩
 ·exact hk0 (λj hj=>hq j (by rw[hlen];exact hj)) ρ0 h0 _ ⟨rfl,rfl,θ,ρ,hR,hF.put (fZ hd) (by rw[VS];exact⟨_,rfl,by rw[aK];exact⟨_,_,rfl,by rw[VS],by rw[aZ]⟩⟩)⟩
 ·refine hk1 j (by rw[<-hlen];exact hj) hn ρ0 h0 _ ⟨rfl,rfl,θ,ρ,hR.put hS gt ⟨j7,lm,h1,h2,h3,cW _ _ _⟩,hF.put (fZ hd) ?_⟩;rw[VS];refine⟨_,rfl,?_⟩;rw[aK];refine⟨_,_,rfl,by rw[VS],?_⟩;rw[aK];refine⟨_,_,rfl,by rw[VS];trivial,?_⟩;rw[aK];exact⟨_,_,rfl,by rw[VS];trivial,by rw[aZ]⟩
def aN.Wi(hst:dg all n [o]=true)(hop:o.op=.next x false)(hdst:o.dst=some d)(hw:bT all f o.guard=some true)(hx:eW f x=some (.ptr i 0))(hS:S[i]?=some (.iter (.map oo) bs c pos))(hM:S[oo]?=some (.map ks vs (some (bs,c))))(hp:∀j∈pos,j<ks.length)
 (hk0:(∀j,j<ks.length->j∈pos)->aN P ro all l ⟨(d,.cx [.a (.bool false)])::f,n,S,ds⟩ K)
 (hk1:∀j,j<ks.length->j∉pos->aN P ro all l ⟨(d,.cx [.a (.bool true),.any,.any])::f,n,S.set i (.iter (.map oo) bs c (pos++[j])),ds⟩ K):aN P ro all (o::l) ⟨f,n,S,ds⟩ K:=by
 rintro ρ0 h0 ⟨af,n',h,ds'⟩ ⟨rfl,rfl,θ,ρ,hR,hF⟩
 have hd:blt d n'=true:=by
  have:=(fO hst).1;rw[hdst] at this;exact this
 obtain⟨a,ha,ka⟩:=bO hF hx;rw[VS] at ka;subst ka;obtain⟨_,j7,h3,h4⟩:=hR.obj i _ hS gt;obtain⟨_,lm,c',q1,q2,q3⟩:=hR.obj oo _ hM gt;rw[VS] at h3;simp only[AV.map.injEq,qr] at h3;subst h3;obtain⟨hb1,rfl⟩:=q2.2.2 _ rfl
 have hm:h.mapOf (θ oo).id=some (lm,c'):=by unfold H.mapOf;rw[q1]
 have hlen:lm.length=ks.length:=by rw[<-q2.1,a9]
 obtain⟨outs,ho,hall⟩:=Cj h4 hm q2.2.1 hb1 (λj hj=>by rw[hlen];exact hp j hj);refine .n hop hdst (dn hF (fb hst hw)) rfl hd (by rw[KG (show ev (eo af n') x=_ from ha),ho];rfl) ?_;intro y hy;obtain⟨z,hz,rfl⟩:=mem_map.1 hy
 rcases hall z hz with⟨rfl,hq⟩ | ⟨j,k,v,hj,hn,rfl⟩
 ·exact hk0 (λj hj=>hq j (by rw[hlen];exact hj)) ρ0 h0 _ ⟨rfl,rfl,θ,ρ,hR,hF.put (fZ hd) (by rw[VS];exact⟨_,rfl,by rw[aK];exact⟨_,_,rfl,by rw[VS],by rw[aZ]⟩⟩)⟩
 ·refine hk1 j (by rw[<-hlen];exact hj) hn ρ0 h0 _ ⟨rfl,rfl,θ,ρ,hR.put hS gt ⟨(θ oo).id,by rw[VS],cW _ _ _⟩,hF.put (fZ hd) ?_⟩;rw[VS];refine⟨_,rfl,?_⟩;rw[aK];refine⟨_,_,rfl,by rw[VS],?_⟩;rw[aK];refine⟨_,_,rfl,by rw[VS];trivial,?_⟩;rw[aK];exact⟨_,_,rfl,by rw[VS];trivial,by rw[aZ]⟩
variable{v:SV}
def aN.UL{k:AV}(hst:dg all n [o]=true)(hop:o.op=.entry x)(hdst:o.dst=some d)(hw:bT all f o.guard=some true)(hx:eW f x=some (.ptr i 0))(hS:S[i]?=some (.oR ks vs bs c (pos++[j])))(hkj:ks[j]?=some k)(hvj:vs[j]?=some v)
 (hk:aN P ro all l ⟨(d,.cx [uC k,v])::f,n,S,ds⟩ K):aN P ro all (o::l) ⟨f,n,S,ds⟩ K:=by
 rintro ρ0 h0 ⟨af,n',h,ds'⟩ ⟨rfl,rfl,θ,ρ,hR,hF⟩
 have hd:blt d n'=true:=by
  have:=(fO hst).1;rw[hdst] at this;exact this
 obtain⟨a,ha,ka⟩:=bO hF hx;rw[VS] at ka;subst ka;obtain⟨_,j7,lm,h1,h2,h3,h4⟩:=hR.obj i _ hS gt
 have hm:h.mapOf j7=some (lm,c):=by unfold H.mapOf;rw[(hR.row j7 _ h1).2.1]
 rw[<-h2.1,al] at hkj;obtain⟨e,he,rfl⟩:=az hkj;obtain⟨y,hy,ky⟩:=h3.get hvj;rw[al,he] at hy;simp only[m6,qr] at hy;subst hy;refine .v hop hdst (dn hF (fb hst hw)) rfl hd (by rw[Gx,show ev (eo af n') x=_ from ha,m7,yF h4 hm h2.2.1 (h2.2.2 _ rfl).1 he];rfl) ?_;refine hk ρ0 h0 _ ⟨rfl,rfl,θ,ρ,hR,hF.put (fZ hd) ?_⟩;rw[VS];refine⟨_,rfl,?_⟩;rw[aK];refine⟨_,_,rfl,As _,?_⟩;rw[aK];exact⟨_,_,rfl,ky.vs,by rw[aZ]⟩
def aN.Wc{k:AV}(hst:dg all n [o]=true)(hop:o.op=.entry x)(hdst:o.dst=some d)(hw:bT all f o.guard=some true)(hx:eW f x=some (.ptr i 0))(hS:S[i]?=some (.iter (.map oo) bs c (pos++[j])))(hM:S[oo]?=some (.map ks vs (some (bs,c))))(hkj:ks[j]?=some k)(hvj:vs[j]?=some v)
 (hk:aN P ro all l ⟨(d,.cx [uC k,v])::f,n,S,ds⟩ K):aN P ro all (o::l) ⟨f,n,S,ds⟩ K:=by
 rintro ρ0 h0 ⟨af,n',h,ds'⟩ ⟨rfl,rfl,θ,ρ,hR,hF⟩
 have hd:blt d n'=true:=by
  have:=(fO hst).1;rw[hdst] at this;exact this
 obtain⟨a,ha,ka⟩:=bO hF hx;rw[VS] at ka;subst ka;obtain⟨_,j7,h3,h4⟩:=hR.obj i _ hS gt;obtain⟨_,lm,c',q1,q2,q3⟩:=hR.obj oo _ hM gt;rw[VS] at h3;simp only[AV.map.injEq,qr] at h3;subst h3;obtain⟨hb1,rfl⟩:=q2.2.2 _ rfl
 have hm:h.mapOf (θ oo).id=some (lm,c'):=by unfold H.mapOf;rw[q1]
 rw[<-q2.1,al] at hkj;obtain⟨e,he,rfl⟩:=az hkj;obtain⟨y,hy,ky⟩:=q3.get hvj;rw[al,he] at hy;simp only[m6,qr] at hy;subst hy;refine .v hop hdst (dn hF (fb hst hw)) rfl hd (by rw[Gx,show ev (eo af n') x=_ from ha,m7,yF h4 hm q2.2.1 hb1 he];rfl) ?_;refine hk ρ0 h0 _ ⟨rfl,rfl,θ,ρ,hR,hF.put (fZ hd) ?_⟩;rw[VS];refine⟨_,rfl,?_⟩;rw[aK];refine⟨_,_,rfl,As _,?_⟩;rw[aK];exact⟨_,_,rfl,ky,by rw[aZ]⟩
end
section
variable {θ θ':Nat->Loc} {ρ ρ0 ρ':ko} {P:Program} {h0:En} {h h1:H} {S S' S0:List SO}
def sL(S:List SO)(r:Nat->Nat):List SO->List Nat->Prop
 | [],_=>True
 | so::l,o::os=>(so=.gone\/S[o]?=some (qa r so))/\sL S r l os
 | _::_,[]=>False
def Ko{r:Nat->Nat}:∀{S0:List SO} {os:List Nat},sL S r S0 os->∀(i:Nat) so,S0[i]?=some so->so≠.gone->∃o,os[i]?=some o/\S[o]?=some (qa r so)
 | [],_,_,i,so,h,_=>by simp at h
 | s::l,o::os,hh,0,so,h,hg=>by
  simp only[a7,qr] at h;subst h;exact⟨o,rfl,hh.1.resolve_left hg⟩
 | s::l,o::os,hh,i+1,so,h,hg=>by
  simp only[ay] at h ⊢;exact Ko hh.2 i so h hg
 | _::_,[],hh,_,_,_,_=>hh.elim
def Fg.rn(os:List Nat){f f':Fm}{n:Nat}{ds:List jG}(hnd:os.Nodup)(hK:os.length=S'.length)(hos:sL S (j8 os S.length) S' os)(hf:uX f (Rw (j8 os S.length) f')):Fg ⟨f,n,S,ds⟩ ⟨f',n,S',ds⟩:=by
 refine⟨rfl,?_⟩;rintro ρ0 h0 ⟨af,n',h,ds'⟩ ⟨rfl,rfl,θ,ρ,hR,hF⟩;obtain⟨r,hr⟩:∃r,r=j8 os S.length:=⟨_,rfl⟩;rw[<-hr] at hos hf
 have hmem:∀(i:Nat) so,S'[i]?=some so->so≠.gone->S[r i]?=some (qa r so):=by
  intro i so hi hg;obtain⟨o,h2,h3⟩:=Ko hos i so hi hg;rw[hr,mY h2,<-hr];exact h3
 have hinj:∀i j,i<S'.length->j<S'.length->r i=r j->i=j:=by
  intro i j hi hj e;rw[hr,mY (jp (show i<os.length by omega)),mY (jp (show j<os.length by omega))] at e;exact(dv hnd).1 e
 refine⟨rfl,rfl,λp=>θ (r p),ρ,⟨hR.ok,hR.nx,hR.ob,hR.fm,hR.lw,hR.ln,?_,?_,?_,hR.mE⟩,λi=>?_,hF.u⟩
 ·intro o so h1 h2;obtain⟨k1,k2⟩:=hR.obj _ _ (hmem o so h1 h2) (fa.2 h2);exact⟨k1,(ny.rn r).1 k2⟩
 ·intro o o' so so' hne h1 h2 h3 h4;exact hR.sep _ _ _ _ (λe=>hne (hinj o o' (bo h1) (bo h3) e)) (hmem o so h1 h2) (fa.2 h2) (hmem o' so' h3 h4) (fa.2 h4)
 ·intro id ob hi;obtain⟨r1,r2,r3⟩:=hR.row id ob hi;exact⟨r1,r2,λo so h1 h2=>r3 _ _ (hmem o so h1 h2) (fa.2 h2)⟩
 ·have hv:=hF.v i
  rcases hf.get i with e | e
  ·rw[xM] at e;rw[<-e] at hv;exact(VS.rn r).1 hv
  ·rw[xM] at e
   have:aO f' i=.any:=by
    cases hq:aO f' i<;>rw[hq] at e<;>first | rfl | (simp[fq] at e;done)
   show VS _ _ (aO f' i) _;rw[this,VS];trivial
def Fg.Ws{f':Fm}(hf:∀i,aO f' i=aO f i\/Wk [] (aO f i) (aO f' i)):Fg ⟨f,n,S,ds⟩ ⟨f',n,S,ds⟩:=by
 refine⟨rfl,?_⟩;rintro ρ0 h0 ⟨af,n',h,ds'⟩ ⟨rfl,rfl,θ,ρ,hR,hF⟩;refine⟨rfl,rfl,θ,ρ,hR,λi=>?_,hF.u⟩;have hv:=hF.v i
 rcases hf i with e | e
 ·show VS θ ρ (aO f' i) _;rw[e];exact hv
 ·have:=Wk.ok hR.DK e hv;rw[Ae] at this;exact this.vs
def Fg.wk{f':Fm}(hf:ye [] f f'):Fg ⟨f,n,S,ds⟩ ⟨f',n,S,ds⟩:=.Ws hf.get
variable{vs:List SV}{b:Option (List Nat×Nat)}
def Fg.TI(o:Nat){ks:List AV}(hS:S[o]?=some (.map ks vs b)):Fg ⟨f,n,S,ds⟩ ⟨f,n,S.set o (.map ks vs none),ds⟩:=by
 refine⟨rfl,?_⟩;rintro ρ0 h0 ⟨af,n',h,ds'⟩ ⟨rfl,rfl,θ,ρ,hR,hF⟩;exact⟨rfl,rfl,θ,ρ,hR.VQ hS gt λ⟨l,c,h1,h2,h3⟩=>⟨l,c,h1,⟨h2.1,h2.2.1,λp hp=>by cases hp⟩,h3⟩,hF⟩
section
variable {K U:Type} [DecidableEq K] {kv:K->AV} {uv:U->SV} {k:K} {l:List (K×U)} {t kt et:TypeId} {o:Nat} {x:SV}
def jM(k:K):List (K×U)->List (K×U)
 | []=>[]
 | e::l=>if k=e.1 then l else e::jM k l
def Fw:∀{l:List (K×U)},dA k l=false->jM k l=l
 | [],_=>rfl
 | e::l,h=>by
  simp only[dA,List.any_cons,Bool.or_eq_false_iff,wn] at h;rw[jM,v6 h.1,Fw (by simpa [dA] using h.2)]
def Fx:∀{l:List (K×U)} {j i:Nat},vI k l j=some i->jM k l=l.eraseIdx (i-j)
 | [],_,_,h=>by cases h
 | e::l,j,i,h=>by
  have hle:=(pb h).1;unfold vI at h;split at h
  ·rename_i hk;cases h;rw[jM,ut hk,dd];rfl
  ·rename_i hk;have h2:=(pb h).1;rw[jM,v6 hk,Fx h,show i-j=(i-(j+1))+1 by omega,List.eraseIdx_cons_succ]
def lg:∀{l:List (K×U)},(l.map (·.1)).Nodup->jM k l=l.filter λe=>!decide (e.1=k)
 | [],_=>rfl
 | e::l,h=>by
  rw[b0,d4] at h;by_cases hk:k=e.1
  ·rw[jM,ut hk,dt,v6 (by simp[hk])];symm;rw[List.filter_eq_self];intro x hx;have:x.1≠k:=λhe=>h.1 (by rw[<-hk,<-he];exact co hx);simp[this]
  ·rw[jM,v6 hk,dt,ut (by simp;exact λh=>hk h.symm),lg h.2]
def T2(hm:dw P t=some (kt,et))(hk:Keys P kt kv)(hS:S[o]?=some (bG kv uv l))(hf:cR x=some (kv k)):
 LF P S t (.map o) x=some (S.set o (bG kv uv (jM k l))):=by
 unfold LF;rw[hm,m7];simp only;rw[hf,m7,hk.ck,aq,hS];simp only[bG];rw[rE hk,m6]
 cases hp:vI k l 0 with
 | none=>
  rw[Fw (rS hp)];simp only
  congr 1
  have hlt:=bo hS;apply List.ext_getElem?;intro i;by_cases e:i=o
  ·subst e;rw[aT hlt,hS];rfl
  ·rw[a8 (λh=>e h.symm)]
 | some i=>
  have:=Fx hp;rw[ch] at this;rw[this];simp only[Option.map_none]
  congr 2
  congr 1
  ·exact(fe _ _ _).symm
  ·exact(fe _ _ _).symm
end
end
def pX:∀(n:Nat) (l:List Nat),l.Nodup->(∀x∈l,x<n)->l.length<=n
 | 0,l,_,h=>by
  cases l with
  | nil=>exact a6 _
  | cons a l=>exact un (h a am) (d0 _)
 | n+1,l,hn,h=>by
  by_cases hm:n∈l
  ·have h1:=pX n (l.erase n) (hn.erase n) (λx hx=>by
    have h2:=(hn.mem_erase_iff.1 hx);have:=h x h2.2;have:=h2.1
    omega)
   rw[List.length_erase_of_mem hm] at h1;have:0<l.length:=List.length_pos_of_mem hm;omega
  ·exact c5 (pX n l hn λx hx=>by
    have:=h x hx;have:x≠n:=λe=>hm (e▸hx)
    omega)
variable{j:Nat}{pos:List Nat}
def qW(hn:pos.Nodup)(hp:∀x∈pos,x<n)(hj:j<n)(hne:j∉pos):(pos++[j]).Nodup/\(∀x∈pos++[j],x<n)/\pos.length<n:=by
 have h1:(pos++[j]).Nodup:=by
  rw[List.nodup_append];exact⟨hn,by simp,λa ha b hb=>by rw[t6 hb];exact λe=>hne (e▸ha)⟩
 have h2:∀x∈pos++[j],x<n:=λx hx=>by
  rcases mem_append.1 hx with hx | hx
  ·exact hp x hx
  ·rw[t6 hx];exact hj
 refine⟨h1,h2,?_⟩;have:=pX n _ h1 h2;rw[li] at this;exact this
section
variable {P:Program} {ro:Option Nat} {S S':List SO} {n:Nat} {ds:List jG}
def gl{f1 f2:Fm}:∀{l:List Operand},(∀x∈l,eW f1 x=eW f2 x)->qe f1 l=qe f2 l
 | [],_=>rfl
 | x::l,h=>by rw[qe,qe,h x am,gl λy hy=>h y (bh _ hy)]
def qh{f1 f2:Fm}:∀{l:List (Nat×Operand)},(∀x∈l.map (·.2),eW f1 x=eW f2 x)->lQ f1 l=lQ f2 l
 | [],_=>rfl
 | (i,x)::l,h=>by rw[lQ,lQ,h x am,qh λy hy=>h y (bh _ hy)]
def sU{f1 f2:Fm}{o:Option Operand}(h:∀x,o=some x->eW f1 x=eW f2 x):xl f1 o=xl f2 o:=by
 cases o with
 | none=>rfl
 | some x=>rw[xl,xl,h x rfl]
def tR:Op->Bool
 | .store _ _ _ | .mapUpdate _ _ _ _ | .insert _ _ _ _ | .call { callee:=.builtin .copy,.. }=>true
 | _=>false
def Mw{f1 f2:Fm}{op:Op}(hrd:(kc op||tR op)=true)(h:∀x∈op.operands.toList,eW f1 x=eW f2 x):dk P f1 S op=dk P f2 S op:=by
 cases op with
 | move x=>rw[dk,dk,h x (by simp[Op.operands])]
 | assign x=>rw[dk,dk,h x (by simp[Op.operands])]
 | pick c a b=>rw[dk,dk,h c (by simp[Op.operands]),h a (by simp[Op.operands]),h b (by simp[Op.operands])]
 | build tt ps=>rw[dk,dk,qh λx hx=>h x (by simpa [Op.operands] using hx)]
 | nilCheck x=>rw[dk,dk,h x (by simp[Op.operands])]
 | binOp op xt x y yt=>rw[dk,dk,h x (by simp[Op.operands]),h y (by simp[Op.operands])]
 | unOp op xt x=>rw[dk,dk,h x (by simp[Op.operands])]
 | convert s d x=>rw[dk,dk,h x (by simp[Op.operands])]
 | fieldAddr s x fl=>rw[dk,dk,h x (by simp[Op.operands])]
 | field s x fl=>rw[dk,dk,h x (by simp[Op.operands])]
 | indexAddr t x i=>rw[dk,dk,h x (by simp[Op.operands]),h i (by simp[Op.operands])]
 | index t x i=>rw[dk,dk,h x (by simp[Op.operands]),h i (by simp[Op.operands])]
 | extract x i=>rw[dk,dk,h x (by simp[Op.operands])]
 | load t x=>rw[dk,dk,h x (by simp[Op.operands])]
 | lookup t x k ok=>rw[dk,dk,h x (by simp[Op.operands]),h k (by simp[Op.operands])]
 | slice t x lo hi mx=>
  rw[dk,dk,h x (by simp[Op.operands]),sU (o:=lo) λy hy=>h y (by subst hy;simp[Op.operands]),sU (o:=hi) λy hy=>h y (by subst hy;simp[Op.operands]),sU (o:=mx) λy hy=>h y (by subst hy;simp[Op.operands])]
 | makeFunc g first cap=>
  cases g with
  | func g=>rw[dk,dk,gl λx hx=>h x (by simp only[Op.operands,be,mem_append];exact .inl hx),gl (l:=cap.toList) λx hx=>h x (by simp only[Op.operands,be,mem_append];exact .inr hx)]
  | method nm=>rw[dk,dk,gl λx hx=>h x (by simp only[Op.operands,be,mem_append];exact .inl hx),gl (l:=cap.toList) λx hx=>h x (by simp only[Op.operands,be,mem_append];exact .inr hx)]
  | _=>simp[kc,tR] at hrd
 | call c=>
  obtain⟨callee,aS,ats⟩:=c
  cases callee with
  | builtin b=>rw[dk,dk,gl λx hx=>h x (by simp only[Op.operands,Call.operands,be,mem_append];exact .inr hx)]
  | _=>simp[kc,tR] at hrd
 | store t a x=>rw[dk,dk,h a (by simp[Op.operands]),h x (by simp[Op.operands])]
 | mapUpdate t m k x=>rw[dk,dk,h m (by simp[Op.operands]),h k (by simp[Op.operands]),h x (by simp[Op.operands])]
 | insert t m k x=>rw[dk,dk,h m (by simp[Op.operands]),h k (by simp[Op.operands]),h x (by simp[Op.operands])]
 | _=>simp[kc,tR] at hrd
def UI(ol:List Oper):Nat->Nat->List Nat
 | 0,_=>[]
 | k+1,i=>match ol[i]? with
  | some o=>let l:=(o.after.toList.filter dep).map (·.on);l++l.flatMap (UI ol k)
  | none=>[]
def lX(ol:List Oper)(L:Nat->Prop):Prop:=∀j o,ol[j]?=some o->L j->∀e∈o.after.toList,dep e=true->L e.on
def Nl{ol:List Oper}{L:Nat->Prop}(hc:lX ol L):∀{k i:Nat},(∀o,ol[i]?=some o->∀e∈o.after.toList,dep e=true->L e.on)->∀j∈UI ol k i,L j
 | 0,i,_,j,h=>by cases h
 | k+1,i,hi,j,h=>by
  rw[UI] at h
  cases ho:ol[i]? with
  | none=>rw[ho] at h;cases h
  | some o=>
   rw[ho] at h;simp only[mem_append,mem_map,List.mem_flatMap] at h
   rcases h with⟨e,he,rfl⟩ | ⟨x,⟨e,he,rfl⟩,hx⟩
   ·obtain⟨h1,h2⟩:=mem_filter.1 he;exact hi o ho e h1 h2
   ·obtain⟨h1,h2⟩:=mem_filter.1 he;have hl:=hi o ho e h1 h2;exact Nl hc (i:=e.on) (λo' ho'=>hc e.on o' ho' hl) j hx
def vo(L:Nat->Prop)(i:Nat)(v:SV):SV:=@ite _ (L i) (Classical.propDecidable _) v .any
variable{L:Nat->Prop}{v:SV}
def cI(h:L i):vo L i v=v:=ut h
def ns(h:¬L i):vo L i v=.any:=v6 h
def aN.num{st:ez}(h:aN P ro all l st K):aN P ro all l st (λx=>K x/\x.n=st.n):=
 λρ0 h0 ast hs=>(h ρ0 h0 ast hs).mono λ_ ⟨x,k1,k2,k3⟩=>⟨x,⟨k1,k2⟩,k2,k3⟩
def aE.post{c:Code}{st:ez}{Q:Ex->ez->Prop}(h:aE P ro c st λe x=>∃x',Fg x x'/\Q e x'):aE P ro c st Q:=
 λρ0 h0 ast hs=>(h ρ0 h0 ast hs).mono λ_ _ ⟨_,⟨x',hf,hq⟩,hn,hst⟩=>⟨x',hq,hf.1.trans hn,hf.2 _ _ _ hst⟩
end
section
variable {P:Program} {ro:Option Nat} {S S':List SO} {n:Nat} {ds:List jG} {f f':Fm}
def P6(W:List SO)(o:Nat):List SO->List SO->Nat->Prop
 | _,[],_=>True
 | s::S,s'::S',i=>(s'=.gone\/(i≠o/\(s'=s\/∃cs cs',s=.cells cs/\s'=.cells cs'/\cA W cs cs')))/\P6 W o S S' (i+1)
 | [],_::_,_=>False
def CT{W:List SO}{o:Nat}:∀{S S':List SO} {i:Nat},P6 W o S S' i->∀(p:Nat) s',S'[p]?=some s'->s'≠.gone->i+p≠o/\∃s,S[p]?=some s/\s≠.gone/\(s'=s\/∃cs cs',s=.cells cs/\s'=.cells cs'/\cA W cs cs')
 | _,[],_,_,p,s',h,_=>by simp at h
 | s::S,t::S',i,hh,0,s',h,hg=>by
  simp only[a7,qr] at h;subst h;obtain⟨h1,h2⟩:=hh.1.resolve_left hg;refine⟨h1,s,rfl,?_,h2⟩
  rcases h2 with h2 | ⟨cs,cs',h2,h3,_⟩
  ·rw[<-h2];exact hg
  ·rw[h2];exact λh=>by cases h
 | s::S,t::S',i,hh,p+1,s',h,hg=>by
  simp only[ay] at h ⊢;obtain⟨h1,h2⟩:=CT hh.2 p s' h hg;exact⟨by omega,h2⟩
 | [],_::_,_,hh,_,_,_,_=>hh.elim
variable{so:SO}
def Fg.ma(o:Nat)(hS:S[o]?=some so)(hg:so≠.gone)(hf:ye (jB o so) f f')(hO:P6 (jB o so) o S S' 0):Fg ⟨f,n,S,ds⟩ ⟨f',n,S',ds⟩:=by
 refine⟨rfl,?_⟩;rintro ρ0 h0 ⟨af,n',h,ds'⟩ ⟨rfl,rfl,θ,ρ,hR,hF⟩
 have hsub:∀(p:Nat) (s:SO),(jB o so)[p]?=some s->s≠.gone->S[p]?=some s:=by
  intro p s h1 h2;obtain⟨rfl,rfl⟩:=rT h1 h2;exact hS
 have hR1:=hR.sub hsub
 have hset:∀(p:Nat) (s:SO),S'[p]?=some s->s≠.gone->p≠o/\∃s0,S[p]?=some s0/\s0≠.gone/\(s=s0\/∃cs cs',s0=.cells cs/\s=.cells cs'/\cA (jB o so) cs cs'):=by
  intro p s h1 h2;have:=CT hO p s h1 h2
  rwa [b6] at this
 have hm:∀id ob,ρ id=some ob->pe θ ρ h (jB o so) id=some ob:=λid ob hi=>qX hi
 have key:∀id ob,pe θ ρ h (jB o so) id=some ob->ρ id=some ob\/id=(θ o).id:=by
  intro id ob hi;unfold pe at hi
  cases hr:ρ id with
  | some ob'=>rw[hr] at hi;exact .inl hi
  | none=>
   rw[hr] at hi;simp only at hi;split at hi
   ·rename_i hex;obtain⟨p,s,q1,q2,rfl⟩:=hex;obtain⟨rfl,_⟩:=rT q1 q2;exact .inr rfl
   ·cases hi
 refine⟨rfl,rfl,θ,pe θ ρ h (jB o so),⟨hR.ok,hR.nx,hR.ob,hR.fm,hR.lw,hR.ln,?_,?_,?_,?_⟩,λi=>?_,hF.u⟩
 ·intro p s h1 h2;obtain⟨_,s0,g1,g2,g3⟩:=hset p s h1 h2;obtain⟨k,k2⟩:=hR.obj p s0 g1 g2;refine⟨k,?_⟩
  rcases g3 with rfl | ⟨cs,cs',rfl,rfl,hw⟩
  ·exact k2.mono hm rfl rfl
  ·obtain⟨aS,q1,q2,q3⟩:=k2;exact⟨aS,q1,(hw.ok hR1 q2).vs,q3⟩
 ·intro p q s s' hpq h1 h2 h3 h4;obtain⟨_,s0,g1,g2,_⟩:=hset p s h1 h2;obtain⟨_,s1,g3,g4,_⟩:=hset q s' h3 h4;exact hR.sep p q s0 s1 hpq g1 g2 g3 g4
 ·intro id ob hi;obtain⟨r1,r2⟩:=pZ hR1 id ob hi;refine⟨r1,r2,λp s h1 h2=>?_⟩;obtain⟨hp,s0,g1,g2,_⟩:=hset p s h1 h2
  rcases key id ob hi with e | e
  ·exact(hR.row id ob e).2.2 p s0 g1 g2
  ·subst e;have sp:=hR.sep p o s0 so hp g1 g2 hS hg;obtain⟨k,_⟩:=hR.obj o so hS hg
   rcases k.e with e | e<;>rw[e]
   ·exact⟨sp.xx.symm,sp.yx.symm⟩
   ·exact⟨sp.xy.symm,sp.yy.symm⟩
 ·intro id ob hi
  rcases key id ob hi with e | e
  ·exact hR.mE id ob e
  ·subst e;obtain⟨k,_⟩:=hR.obj o so hS hg;exact .inr (by rcases k.e with e | e<;>rw[e];exact k.x.1;exact k.y.1)
 ·rcases hf.get i with e | e
  ·rw[e];exact(hF.v i).mono hm
  ·exact(e.ok hR1 (hF.v i)).vs
def Fg.UC(hO:P6 [] S.length S S' 0):Fg ⟨f,n,S,ds⟩ ⟨f,n,S',ds⟩:=by
 refine⟨rfl,?_⟩;rintro ρ0 h0 ⟨af,n',h,ds'⟩ ⟨rfl,rfl,θ,ρ,hR,hF⟩
 have hset:∀(p:Nat) (s:SO),S'[p]?=some s->s≠.gone->∃s0,S[p]?=some s0/\s0≠.gone/\(s=s0\/∃cs cs',s0=.cells cs/\s=.cells cs'/\cA [] cs cs'):=by
  intro p s h1 h2;exact(CT hO p s h1 h2).2
 refine⟨rfl,rfl,θ,ρ,⟨hR.ok,hR.nx,hR.ob,hR.fm,hR.lw,hR.ln,?_,?_,?_,hR.mE⟩,hF⟩
 ·intro p s h1 h2;obtain⟨s0,g1,g2,g3⟩:=hset p s h1 h2;obtain⟨k,k2⟩:=hR.obj p s0 g1 g2;refine⟨k,?_⟩
  rcases g3 with rfl | ⟨cs,cs',rfl,rfl,hw⟩
  ·exact k2
  ·obtain⟨aS,q1,q2,q3⟩:=k2;have:=hw.ok hR.DK q2;rw[Ae] at this;exact⟨aS,q1,this.vs,q3⟩
 ·intro p q s s' hpq h1 h2 h3 h4;obtain⟨s0,g1,g2,_⟩:=hset p s h1 h2;obtain⟨s1,g3,g4,_⟩:=hset q s' h3 h4;exact hR.sep p q s0 s1 hpq g1 g2 g3 g4
 ·intro id ob hi;obtain⟨r1,r2,r3⟩:=hR.row id ob hi;refine⟨r1,r2,λp s h1 h2=>?_⟩;obtain⟨s0,g1,g2,_⟩:=hset p s h1 h2;exact r3 p s0 g1 g2
def wo(L:Nat->Prop)(i:Nat)(so:SO):SO:=@ite _ (L i) (Classical.propDecidable _) so .gone
variable{L:Nat->Prop}
def oF(h:L i):wo L i so=so:=ut h
def gp(h:¬L i):wo L i so=.gone:=v6 h
def bB(L:Nat->Prop)(i k:Nat)(v:SV):vo (λj=>L j\/j=i) k v=if k=i then v else vo L k v:=by
 by_cases h:k=i
 ·rw[ut h];exact cI (.inr h)
 ·rw[v6 h];by_cases hl:L k
  ·rw[cI hl];exact cI (.inl hl)
  ·rw[ns hl];exact ns λe=>e.elim hl h
def ft(L:Nat->Prop)(i k:Nat)(so:SO):wo (λj=>L j\/j=i) k so=if k=i then so else wo L k so:=by
 by_cases h:k=i
 ·rw[ut h];exact oF (.inr h)
 ·rw[v6 h];by_cases hl:L k
  ·rw[oF hl];exact oF (.inl hl)
  ·rw[gp hl];exact gp λe=>e.elim hl h
def mh(o:Nat)(L:Nat->Prop)(i:Nat)(so:SO):bW o (wo L i so)=wo L i (bW o so):=by
 by_cases hl:L i
 ·rw[oF hl,oF hl]
 ·rw[gp hl,gp hl];rfl
def Af(r:Nat->Nat)(L:Nat->Prop)(i:Nat)(v:SV):fq r (vo L i v)=vo L i (fq r v):=by
 by_cases hl:L i
 ·rw[cI hl,cI hl]
 ·rw[ns hl,ns hl,fq]
def Cy(r:Nat->Nat)(L:Nat->Prop)(i:Nat)(so:SO):qa r (wo L i so)=wo L i (qa r so):=by
 by_cases hl:L i
 ·rw[oF hl,oF hl]
 ·rw[gp hl,gp hl];rfl
def c7(o:Nat)(L:Nat->Prop)(i:Nat)(v:SV)(h:names o v=false):names o (vo L i v)=false:=by
 by_cases hl:L i
 ·rw[cI hl];exact h
 ·rw[ns hl];simp[names]
def x9(i:Nat)(v:SV):vo (λ_=>False) i v=.any:=ns λh=>h
def ET(i:Nat)(so:SO):wo (λ_=>False) i so=.gone:=gp λh=>h
end
section
variable {θ θ':Nat->Loc} {ρ ρ0 ρ':ko} {P:Program} {h0:En} {h h1:H} {S S' S0:List SO}
def yg(P:Program)(n:Nat):List jG->Fm->List SO->(Fm->List SO->Prop)->Prop
 | [],f,S,K=>K f S
 | d::ds,f,S,K=>∃f2,uX f f2/\Ge (7000000+ds.length) f2=true/\((d.fn=none/\∃o:Nat,S[o]?=some (.mA d.Fe)/\yg P n ds f2 (S.set o .gone) K)\/
  ∃(g:FuncId) (first cap:List SV) (fn:Func) (c:Code) (m:Nat),d.fn=some (.func g)/\aO f (7000000+ds.length)=.fn g first cap/\P.funcs[g]?=some fn/\fn.body=some c/\(first++cap).length+(fn.ntmps-(first++cap).length)=m/\m<=1000000/\
   aE P none c ⟨kX 0 (first++cap)++P1 laid f2,m,S,[]⟩ λe st=>kE e=true/\st.ds=[]/\(∃vs,pd P st.f st.S fn.results.toList=some vs)/\yg P n ds (yB laid st.f) st.S K)
def JQ{aS:List AV}:∀(o:Option (List AV)),o=some aS->o.map (λvs=>match vs with | [v]=>v | vs=>AV.cx vs)=some (PU aS):=by
 rintro _ rfl
 match aS with
 | []=>rfl
 | [_]=>rfl
 | _::_::_=>rfl
def FR.pop{f2:Fm}{af:Nat->AV}{w:Nat->AV}{d:jG}(hF:FR θ ρ (aO f) af n (HQ w (d::ds)))(hh:uX f f2)(hl:Ge (7000000+ds.length) f2=true):FR θ ρ (aO f2) af n (HQ w ds):=by
 refine⟨λi=>?_,λi hi=>by have:=hF.u i hi;rw[yb _ _ i4] at this ⊢;exact this⟩
 rcases hh.get i with e | e
 ·have hv:=hF.v i;rw[e];by_cases hin:i<n
  ·rw[ut hin] at hv ⊢;exact hv
  rw[v6 hin] at hv ⊢;by_cases h1:i<7000000
  ·rw[yb _ _ h1] at hv ⊢;exact hv
  ·by_cases h2:i-7000000<ds.length
   ·cases ds with
    | nil=>simp at h2
    | cons d' ds=>
     rw[HQ,ut i4,NT h2] at hv;rw[HQ,ut i4];exact hv
   ·have e2:=zn hl (show 7000000+ds.length<=i by omega);rw[<-e,e2,VS];trivial
 ·rw[e,VS];trivial
def rl{n:Nat}{af:Nat->AV}{K:Fm->List SO->Prop}(hn:n<=1000000):∀(ds:List jG) (f:Fm) (S:List SO) (h:H) (θ:Nat->Loc) (ρ:ko),yg P n ds f S K->RS θ ρ0 ρ h0 h S->FR θ ρ (aO f) af n (HQ h0.w ds)->
 E4 P ds h λh''=>∃f' S' θ' ρ',K f' S'/\RS θ' ρ0 ρ' h0 h'' S'/\FR θ' ρ' (aO f') af n h0.w
 | [],f,S,h,θ,ρ,hl,hR,hF=>⟨f,S,θ,ρ,hl,hR,hF⟩
 | d::ds,f,S,h,θ,ρ,hl,hR,hF=>by
  obtain⟨f2,hh,hlow,hl⟩:=hl;have hF2:=hF.pop hh hlow;rw[E4]
  rcases hl with⟨hdf,o,hS,hl⟩ | ⟨g,first,cap,fn,c,m,hdf,hfv,hfn,hb,hm,hm1,hl⟩
  ·rw[hdf];obtain⟨_,hid,hob⟩:=hR.obj o _ hS (λe=>by cases e);rw[hid] at hob;refine⟨hob,rl hn ds f2 _ _ θ ρ hl ?_ hF2⟩;rw[<-hid];exact hR.put hS (λe=>by cases e) trivial
  ·rw[hdf];have hv:=hF.v (7000000+ds.length);rw[hfv,v6 i4] at hv;rw[HQ,ut i4,Nat.add_sub_cancel_left,QC hdf,VS] at hv;obtain⟨xs,ys,e,kx,ky⟩:=hv;simp only[AV.fn.injEq,true_and] at e;obtain⟨e1,e2⟩:=e
   have kall:cZ θ ρ (first++cap) (d.args++d.cap):=by rw[e1,e2];exact kx.app ky
   have hlen:=kall.length;refine⟨fn,c,m,hfn,hb,by rw[hlen];exact hm,?_⟩
   obtain⟨w',hw'⟩:∃w':Nat->AV,w'=λi=>if laid<=i then (if i-laid<n then af (i-laid) else HQ h0.w ds (i-laid)) else lV:=⟨_,rfl⟩
   have hvl:(first++cap).length<=m:=by omega
   have hst1:jJ ρ0 { h0 with w:=w' } ⟨kX 0 (first++cap)++P1 laid f2,m,S,[]⟩ ⟨r8 (d.args++d.cap),m,h,[]⟩:=by
    refine⟨rfl,rfl,θ,ρ,hR.w _,λi=>?_,λi hi=>?_⟩
    ·by_cases hi:i<(first++cap).length
     ·obtain⟨w,hw⟩:=yk (first++cap) 0 i (Nat.zero_le _) i4;show VS θ ρ (aO (kX 0 (first++cap)++P1 laid f2) i) _;rw[vf _ _ _ hw,tg,ut (Nat.zero_le _),Nat.sub_zero,jp hi];obtain⟨a,ha,ka⟩:=kall.get (jp hi)
      have hil:i<m:=by omega
      rw[ut hil]
      have e:r8 (d.args++d.cap) i=a:=by unfold r8;rw[ha]
      show VS θ ρ (first++cap)[i] (r8 (d.args++d.cap) i);rw[e];exact ka
     ·show VS θ ρ (aO (kX 0 (first++cap)++P1 laid f2) i) _;rw[tC _ _ _ (λv=>u7 (first++cap) 0 i v i4),tE];by_cases hb:laid<=i
      ·rw[ut hb,v6 (show ¬i<m by unfold laid at hb;omega)];show VS θ ρ _ (w' i);rw[hw'];simp only;rw[ut hb];exact hF2.v (i-laid)
      ·rw[v6 hb,VS];trivial
    ·show w' i=lV;rw[hw'];simp only;rw[v6 (by unfold laid;omega)]
   refine(hl ρ0 _ _ hst1).mono ?_;rintro ex ⟨af2,n2,h2,ds2⟩ ⟨st,⟨he,hds,⟨vs,hres⟩,hK⟩,hn2,e3,e4,θ2,ρ2,hR2,hF3⟩;simp only at e3 e4 hR2 hF3 hn2;rw[hds] at e4;subst e4;subst e3;obtain⟨aS,k1,k2⟩:=ue hR2 hF3 hres;refine⟨he,rfl,⟨PU aS,JQ _ k1⟩,?_⟩;refine rl hn ds _ _ _ θ2 ρ2 hK (hR2.w h0.w) ⟨λi=>?_,hF2.u⟩;rw[tD];have:=hF3.v (laid+i);rw[v6 (by rw[hn2];unfold laid;omega)] at this
   have e5:HQ w' [] (laid+i)=if i<n then af i else HQ h0.w ds i:=by
    show w' (laid+i)=_;rw[hw'];simp only;rw[ut i4,Nat.add_sub_cancel_left]
   rw[e5] at this;exact this
def E4.mono{K K':H->Prop}:∀(ds:List jG) (h:H),E4 P ds h K->(∀h,K h->K' h)->E4 P ds h K'
 | [],h,hl,hk=>hk h hl
 | d::ds,h,hl,hk=>by
  rw[E4] at hl ⊢
  cases hdf:d.fn with
  | none=>
   rw[hdf] at hl;exact⟨hl.1,E4.mono ds _ hl.2 hk⟩
  | some f=>
   rw[hdf] at hl
   cases f with
   | func g=>
    obtain⟨fn,c,m,q1,q2,q3,q4⟩:=hl;exact⟨fn,c,m,q1,q2,q3,q4.mono λe st ⟨a1,a2,a3,a4⟩=>⟨a1,a2,a3,E4.mono ds _ a4 hk⟩⟩
   | _=>exact hl.elim
def P8(P:Program)(fn:Func)(Q:SV->Prop):Ex->ez->Prop:=λe st=>kE e=true/\yg P st.n st.ds st.f st.S λf S=>∃vs r,pd P f S fn.results.toList=some vs/\Wk S (eC vs) r/\Q r
def U1(P:Program)(fn:Func)(K:Nat)(mv:List Nat)(Q:SV->List SO->Prop):Ex->ez->Prop:=λe st=>kE e=true/\yg P st.n st.ds st.f st.S λf S=>(∃vs,pd P f S fn.results.toList=some vs/\Q (eC vs) S)/\K<=S.length/\∀i,i<K->i∉mv->aO f (1000000+i)=.ptr i 0
def PC.tn(hng:ta P){g:FuncId}{fn:Func}{c:Code}{args:List SV}{Q:SV->Prop}(hf:P.funcs[g]?=some fn)(hb:fn.body=some c){n:Nat}(hn:args.length+(fn.ntmps-args.length)=n)(hlim:n<=1000000)
 (hw:aE P none c ⟨kX 0 args,n,[],[]⟩ (P8 P fn Q)):PC P g args Q:=by
 intro ρ h avs hρ hA;have hlen:=hA.length;refine ee.tn (n:=n) hng hf hb (by rw[hlen];exact hn) ?_
 have hst:jJ ρ ⟨{ h with low:=h.next },λj=>j<h.next,λj=>j<h.next,h.next,λ_=>lV⟩ ⟨kX 0 args,n,[],[]⟩ ⟨r8 avs,n,{ h with low:=h.next },[]⟩:=by
  refine⟨rfl,rfl,λ_=>⟨0,0,0,0⟩,ρ,⟨⟨λj hj=>hj,λj hj=>hj,λj hj=>aj hj,a6 _⟩,a6 _,λ_ _=>rfl,λ_ _=>rfl,a6 _,a6 _,λo so h=>by simp at h,λo o' so so' _ h=>by simp at h,λid ob hi=>⟨(hρ id ob hi).1,(hρ id ob hi).2,λo so h=>by simp at h⟩,λid ob hi=>.inl hi⟩,?_,λ_ _=>rfl⟩;intro i;rw[tg,ut (b9 _),ch];by_cases hi:i<args.length
  ·rw[jp hi];obtain⟨a,ha,ka⟩:=hA.get (jp hi)
   have hil:i<n:=by omega
   rw[ut hil]
   have e:r8 avs i=a:=by unfold r8;rw[ha]
   show VS _ _ args[i] (r8 avs i);rw[e];exact ka.vs
  ·rw[bc i4];simp only;rw[VS];trivial
 refine(hw ρ _ _ hst).mono ?_;rintro e ⟨af,n',h',ds'⟩ ⟨st,⟨h1,hl⟩,h6,h7,h8,θ,ρ',hR,hF⟩;simp only at h6 h7 h8 hR hF;subst h7;rw[<-h8] at hl;refine⟨h1,?_⟩;have hlv:=rl (by rw[h6];exact hlim) ds' st.f st.S h' θ ρ' hl hR hF;refine E4.mono ds' h' hlv ?_;rintro h'' ⟨f',S',θ',ρ'',⟨vs,r,h3,h4,h5⟩,hR',hF'⟩;obtain⟨aS,k1,k2⟩:=ue hR' hF' h3;refine⟨PU aS,JQ _ k1,r,pe θ' ρ'' h'' S',h5,⟨hR'.nx,λj hj=>hR'.ob j hj,λj hj=>hR'.fm j hj,λhl=>?_⟩,?_,h4.ok hR' (KP k2)⟩
 ·have:h.next<=h''.low:=hR'.lw;show hY h.low h''.low=h.low;exact vD (bd hl this)
 ·intro id ob hi;have hlt:=pZ hR' id ob hi;unfold pe at hi
  cases hr:ρ'' id with
  | some ob'=>
   rw[hr] at hi;cases hi
   rcases hR'.mE id _ hr with e | e
   ·exact .inl e
   ·exact .inr ⟨aj e,hlt.1,hlt.2⟩
  | none=>
   rw[hr] at hi;simp only at hi;split at hi
   ·rename_i hex;obtain⟨o,so,q1,q2,rfl⟩:=hex;obtain⟨k,_⟩:=hR'.obj o so q1 q2;exact .inr ⟨aj (by rcases k.e with e | e<;>rw[e];exact k.x.1;exact k.y.1),hlt.1,hlt.2⟩
   ·cases hi
def SC.tn(hng:ta P){g:FuncId}{fn:Func}{c:Code}{args:List SV}{mv:List Nat}{Q:SV->List SO->Prop}(hf:P.funcs[g]?=some fn)(hb:fn.body=some c){n:Nat}(hn:args.length+(fn.ntmps-args.length)=n)(hlim:n<=1000000){W:Fm}(hW:W=oE S0.length)(hK:S0.length<=1000000)
 (hw:aE P none c ⟨kX 0 args++W,n,S0,[]⟩ (U1 P fn S0.length mv Q)):SC P g args S0 mv Q:=by
 intro E θ ρ h avs hE hR hA;subst hW;have hlen:=hA.length;refine ee.tn (n:=n) hng hf hb (by rw[hlen];exact hn) ?_
 have hst:jJ ρ { E with w:=λi=>if 1000000<=i/\i<1000000+S0.length then .ptr (some ((θ (i-1000000)).id,0)) else lV } ⟨kX 0 args++oE S0.length,n,S0,[]⟩ ⟨r8 avs,n,{ h with low:=h.next },[]⟩:=by
  refine⟨rfl,rfl,θ,ρ,?_,?_,λi hi=>v6 (λh=>by omega)⟩
  ·rw[<-hE]
   exact⟨⟨hR.ok.pr,hR.ok.pf,hR.ok.lo,hR.ok.ln⟩,hR.nx,hR.ob,hR.fm,hR.lw,hR.ln,λo so h1 h2=>by
    obtain⟨⟨k1,k2,k3,k4⟩,k5⟩:=hR.obj o so h1 h2
    exact⟨⟨k1,k2,k3,k4⟩,k5⟩,hR.sep,hR.row,hR.mE⟩
  ·intro i;by_cases hi:i<args.length
   ·obtain⟨w,hw⟩:=yk args 0 i (b9 _) i4;show VS θ ρ (aO (kX 0 args++oE S0.length) i) _;rw[vf _ _ _ hw,tg,ut (b9 _),ch,jp hi];obtain⟨a,ha,ka⟩:=hA.get (jp hi)
    have hil:i<n:=by omega
    rw[ut hil]
    have e:r8 avs i=a:=by unfold r8;rw[ha]
    show VS θ ρ args[i] (r8 avs i);rw[e];exact ka
   ·show VS θ ρ (aO (kX 0 args++oE S0.length) i) _;rw[tC _ _ _ (λv=>u7 args 0 i v i4)];unfold oE;rw[FD];by_cases hc:i≥1000000/\(i-1000000)∈bv S0.length
    ·have h1:=hc.1;have h2:=mem_range.1 hc.2;rw[ut hc,v6 (show ¬i<n by omega),VS];exact ut ⟨h1,by omega⟩
    ·rw[v6 hc,VS];trivial
 refine(hw ρ _ _ hst).mono ?_;rintro e ⟨af,n',h',ds'⟩ ⟨st,⟨h1,hl⟩,h6,h7,h8,θ',ρ',hR',hF⟩;simp only at h7 h8 hR' hF h6;subst h7;rw[<-h8] at hl;refine⟨h1,?_⟩;have hlv:=rl (by rw[h6];exact hlim) ds' st.f st.S h' θ' ρ' hl hR' hF;refine E4.mono ds' h' hlv ?_;rintro h'' ⟨f',S',θ'',ρ'',⟨⟨vs,h3,h5⟩,hK2,hwt⟩,hR2,hF2⟩;obtain⟨aS,k1,k2⟩:=ue hR2 hF2 h3;refine⟨PU aS,JQ _ k1,eC vs,S',θ'',ρ'',h'',h5,rfl,?_,KP k2,hK2,?_⟩
 ·exact⟨hR.ok,hR2.nx,hR2.ob,hR2.fm,hR2.lw,hR2.ln,λo so h1 h2=>by
   obtain⟨⟨k1,k2,k3,k4⟩,k5⟩:=hR2.obj o so h1 h2
   exact⟨⟨k1,k2,k3,k4⟩,k5⟩,hR2.sep,hR2.row,hR2.mE⟩
 ·intro i hi hm;have:=hF2.v (1000000+i);rw[hwt i hi hm,v6 (show ¬1000000+i<st.n by omega),VS] at this;have e2:=this.symm.trans (ut ⟨by omega,by omega⟩);rw[ax] at e2;simp only[AV.ptr.injEq,qr,m8,and_true] at e2;exact e2
end
section
variable {P:Program} {ro:Option Nat}
def aN.mono{all l:List Oper}{st:ez}{K K':ez->Prop}(h:aN P ro all l st K)(hk:∀x,K x->K' x):aN P ro all l st K':=
 λρ0 h0 ast hs=>(h ρ0 h0 ast hs).mono λ_ ⟨x,k1,k2⟩=>⟨x,hk x k1,k2⟩
def E0(P:Program)(ro:Option Nat)(ol:List Oper):Nat->List Oper->ez->(ez->Prop)->Prop
 | _,[],x,K=>K x
 | i,o::l,x,K=>aN P ro (ol.take (i+1)) [o] x λx'=>E0 P ro ol (i+1) l x' K
def aE.Aq{ops:Array Oper}{st:ez}{Q:Ex->ez->Prop}{ol:List Oper}(m fuel:Nat)(F1:(Nat->Prop)->ez)(hol:ops.toList=ol)(hok:(jK 0 ol&&P.follows .mixedOrders)=true) (hgd:(ol.zipIdx.all λp=>match p.1.guard with
 | none=>true
 | some (j,_)=>blt j p.2)=true) (hm:m<ol.length)
 (hanc:((bv ol.length).all λi=>blt i m||(bv i).all λk=>(UI ol fuel i).contains k)=true) (h0:Fg st (F1 λ_=>False)) (hn:∀L,(F1 L).n=st.n)
 (hpre:∀L i o,i<m->lX ol L->UH ol L i o->aN P ro (ol.take (i+1)) [o] (F1 L) λx=>Fg x (F1 λj=>L j\/j=i))
 (htail:E0 P ro ol m (ol.drop m) (F1 λj=>j<m) (Q .normal)):aE P ro (.region id ops true) st Q:=by
 have hgd2:∀(i:Nat) (o:Oper),ol[i]?=some o->∀(j:Nat) (b:Bool),o.guard=some (j,b)->j<i:=by
  intro i o ho j b hg;have:=all_eq_true.1 hgd (o,i) (List.mem_iff_getElem?.2 ⟨i,by rw[List.getElem?_zipIdx,ho];simp⟩);simp only[hg] at this;exact fZ this
 have hA:∀{L:Nat->Prop} {i k:Nat},lX ol L->(∀o,ol[i]?=some o->∀e∈o.after.toList,dep e=true->L e.on)->i<ol.length->m<=i->k<i->L k:=by
  intro L i k hc hd hi hmi hk;have h1:=all_eq_true.1 hanc i (mem_range.2 hi);rw[d1] at h1
  rcases h1 with h1 | h1
  ·have:=fZ h1;omega
  ·have:=all_eq_true.1 h1 k (mem_range.2 hk);exact Nl hc hd k (List.contains_iff_mem.1 this)
 refine aE.any hol hok (.inr hgd2) (λL x=>x.n=st.n/\(∀k,L k->k<ol.length)/\lX ol L/\((¬L m/\Fg x (F1 L))\/∃t,m<t/\t<=ol.length/\(∀k,L k↔k<t)/\E0 P ro ol t (ol.drop t) x (Q .normal))) ⟨rfl,λ_ h=>h.elim,λ_ _ _ h=>h.elim,.inl ⟨λh=>h,h0⟩⟩ (λL x h=>h.1) ?_ ?_
 ·rintro L x i o ⟨hxn,hlt,hc,hx⟩ hr;have hil:i<ol.length:=bo hr.jF;have hlt2:∀k,(L k\/k=i)->k<ol.length:=λk h=>h.elim (hlt k) (λe=>e▸hil)
  have hc2:lX ol (λj=>L j\/j=i):=by
   intro j o' ho' hj e he hd
   rcases hj with hj | rfl
   ·exact .inl (hc j o' ho' hj e he hd)
   ·have:=hr.jF;rw[ho'] at this;cases this;exact .inl (hr.dep e he hd)
  have hdi:∀o',ol[i]?=some o'->∀e∈o'.after.toList,dep e=true->L e.on:=by
   intro o' ho' e he hd;have:=hr.jF;rw[ho'] at this;cases this;exact hr.dep e he hd
  have hdrop:ol.drop i=o::ol.drop (i+1):=by
   rw[bN hil]
   congr 1
   have:=hr.jF;rw[jp hil] at this;exact Option.some.inj this
  rcases hx with⟨hnm,hfg⟩ | ⟨t,hmt,htl,hL,hch⟩
  ·refine aN.fg hfg ?_;by_cases him:i<m
   ·refine aN.mono (aN.num (hpre L i o him hc hr)) ?_;rintro x' ⟨h1,h2⟩;exact⟨by rw[h2,hn],hlt2,hc2,.inl ⟨λh=>h.elim hnm i4,h1⟩⟩
   ·have hie:i=m:=by
     refine Decidable.byContradiction λhne=>hnm ?_;exact hA hc hdi hil i4 i4
    subst hie
    have hLe:L=λj=>j<i:=by
     funext k;refine propext ⟨λhk=>?_,λhk=>hA hc hdi hil (a6 _) hk⟩;refine Decidable.byContradiction λhge=>?_;by_cases e:k=i
     ·subst e;exact hr.new hk
     ·exact hr.new (hA hc (λo' ho'=>hc k o' ho' hk) (hlt k hk) i4 i4)
    rw[hLe];rw[hdrop,E0] at htail;refine aN.mono (aN.num htail) ?_;rintro x' ⟨h1,h2⟩;refine⟨by rw[h2,hn],λk hk=>hk.elim (λh=>by omega) (λh=>by omega),by rw[hLe] at hc2;exact hc2,.inr ⟨i+1,by omega,hil,λk=>⟨λh=>h.elim (λh=>by omega) (λh=>by omega),λh=>?_⟩,h1⟩⟩;by_cases e:k=i
    ·exact .inr e
    ·exact .inl (by show k<i;omega)
  ·have hit:i=t:=by
    have h1:¬i<t:=λh=>hr.new ((hL i).2 h);refine Decidable.byContradiction λhne=>?_;have:=(hL t).1 (hA hc hdi hil i4 i4);omega
   subst hit;rw[hdrop,E0] at hch;refine aN.mono (aN.num hch) ?_;rintro x' ⟨h1,h2⟩;refine⟨by rw[h2,hxn],hlt2,hc2,.inr ⟨i+1,by omega,hil,λk=>⟨λh=>h.elim (λh=>by have:=(hL k).1 h;omega) (λh=>by omega),λh=>?_⟩,h1⟩⟩;by_cases e:k=i
   ·exact .inr e
   ·exact .inl ((hL k).2 i4)
 ·rintro L x ⟨hxn,hlt,hc,hx⟩ hall
  rcases hx with⟨hnm,_⟩ | ⟨t,hmt,htl,hL,hch⟩
  ·exact un (hall m hm) hnm
  ·have:t=ol.length:=by
    refine Decidable.byContradiction λhne=>?_;have:=(hL t).1 (hall t i4);omega
   subst this;rw[dl] at hch;exact hch
end
end
end Go.Ev
