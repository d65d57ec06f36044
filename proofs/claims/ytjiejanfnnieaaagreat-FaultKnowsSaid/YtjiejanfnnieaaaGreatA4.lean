/- Lemmas of this claim, each with its conditions. -/
import Derived.Test.YtjiejanfnnieaaaGreatA3
import Derived.Test.YtjiejanfnnieaaaGreatA2
import Derived.Lib.Overlaps
set_option linter.all false
open Nat (blt beq ble)
open List (mem_append mem_range mem_map mem_filter all_eq_true map_nil ofFn)
open Bool renaming and_eq_true -> aa, or_eq_true -> d2
open Array renaming getD_eq_getD_getElem? -> ac, getElem?_eq_getElem -> ap, toList_append -> bd, getElem?_setIfInBounds -> bh, getElem?_toList -> bi, replicate -> b8
open Nat renaming le_of_not_lt -> aj, add_sub_cancel_left -> ax, le_refl -> aY, lt_of_lt_of_le -> a9, le_trans -> bc, lt_succ_self -> bt, zero_add -> b7, zero_le -> ce, sub_zero -> ci, lt_irrefl -> cM, le_succ_of_le -> c5, sub_self -> dd, not_lt_zero -> d1, beq_refl -> d6
open List renaming getElem?_map -> al, mem_cons_self -> am, getElem?_cons_succ -> ay, getElem?_set_self -> aJ, getElem?_cons_zero -> a6, getElem?_set_ne -> a7, length_map -> a8, getElem?_eq_none -> ba, mem_cons_of_mem -> be, getElem_mem -> bk, range -> bv, getElem?_append_right -> bw, getElem_of_mem -> bH, drop_eq_getElem_cons -> b0, map_cons -> b6, replicate -> b9, getElem?_toArray -> ch, getElem?_append -> cn, mem_of_getElem? -> co, mem_map_of_mem -> ct, toList_toArray -> cv, getElem?_ofFn -> c3, getElem?_take -> c4, all_cons -> c6, reverse_cons -> dc, drop_length -> dl, filter_cons -> dt, getElem_inj -> dv, length_ofFn -> d0, append_nil -> d3, map_append -> d4, nodup_cons -> d5
namespace Go.Ev
noncomputable section
section
variable {θ θ':Nat->Loc} {ρ ρ0 ρ':kG} {P:Program} {h0:En} {h h1:H} {S S' S0:List SO}
def oI(K:Nat):Fm:=(bv K).map λi=>(1000000+i,SV.ptr i 0)
def Gg(g:Nat->SV):∀(l:List Nat) (j:Nat),aP (l.map λi=>(1000000+i,g i)) j=if j≥1000000/\(j-1000000)∈l then g (j-1000000) else .any
 | [],j=>by simp[aP]
 | i::l,j=>by
  show(if 1000000+i=j then g i else aP (l.map λi=>(1000000+i,g i)) j)=_;rw[Gg g l j];by_cases h:1000000+i=j
  ·subst h;rw[un rfl,un ⟨by omega,by rw[ax];exact am⟩,ax]
  ·rw[ut h];by_cases h2:j≥1000000/\(j-1000000)∈l
   ·rw[un h2,un ⟨h2.1,be _ h2.2⟩]
   ·rw[ut h2,ut];rintro⟨h3,h4⟩
    rcases t6 h4 with e | e
    ·omega
    ·exact h2 ⟨h3,e⟩
def ua:∀(f g:Fm) (j:Nat),(∀v,(j,v)∉f)->aP (f++g) j=aP g j
 | [],g,j,_=>rfl
 | (d,v)::f,g,j,h=>by
  show(if d=j then v else aP (f++g) j)=_;rw[ut (λe=>h v (by rw[e];exact am)),ua f g j λw hw=>h w (be _ hw)]
def vQ:∀(f g:Fm) (j:Nat) {v:SV},(j,v)∈f->aP (f++g) j=aP f j
 | [],g,j,v,h=>by simp at h
 | (d,w)::f,g,j,v,h=>by
  show(if d=j then w else aP (f++g) j)=(if d=j then w else aP f j);by_cases e:d=j
  ·rw[un e,un e]
  ·rw[ut e,ut e]
   rcases t6 h with h | h
   ·simp only[m8] at h;exact ul h.1.symm e
   ·exact vQ f g j h
def yS:∀(vs:List SV) (i j:Nat),i<=j->j<i+vs.length->∃v,(j,v)∈lA i vs
 | [],i,j,h1,h2=>by simp at h2;omega
 | v::vs,i,j,h1,h2=>by
  by_cases e:i=j
  ·subst e;exact⟨v,am⟩
  ·simp only[i7] at h2;obtain⟨w,hw⟩:=yS vs (i+1) j ii ii;exact⟨w,be _ hw⟩
def vJ:∀(vs:List SV) (i j:Nat) (v:SV),i+vs.length<=j->(j,v)∉lA i vs
 | [],i,j,v,h=>by simp[lA]
 | w::vs,i,j,v,h=>by
  simp only[i7] at h;intro hm
  rcases t6 hm with e | e
  ·simp only[m8] at e;omega
  ·exact vJ vs (i+1) j v ii e
def Md(P:Program)(fn:Func)(K:Nat)(mv:List Nat)(Q:SV->List SO->Prop):Ex->eR->Prop:=λe st=>kM e=true/\st.ds=[]/\(∃vs,po P st.f st.S fn.results.toList=some vs/\Q (eI vs) st.S)/\K<=st.S.length/\∀i,i<K->i∉mv->aP st.f (1000000+i)=.ptr i 0
def ns{os:List Nat}{B i o:Nat}(h:os[i]?=some o):km os B i=o:=by unfold km;rw[h]
def oe{os:List Nat}{B i:Nat}(h:os.length<=i):km os B i=B+(i-os.length):=by unfold km;rw[List.getElem?_eq_none h]
def Ez{os:List Nat}{B i j:Nat}(hn:os.Nodup)(hB:∀o∈os,o<B)(h:km os B i=km os B j):i=j:=by
 by_cases hi:i<os.length
 ·have e1:=ns (B:=B) (jp hi);by_cases hj:j<os.length
  ·have e2:=ns (B:=B) (jp hj);rw[e1,e2] at h;exact(dv hn).1 h
  ·have e2:=oe (B:=B) (aj hj);rw[e1,e2] at h;have:=hB _ (bk hi);omega
 ·have e1:=oe (B:=B) (aj hi);by_cases hj:j<os.length
  ·have e2:=ns (B:=B) (jp hj);rw[e1,e2] at h;have:=hB _ (bk hj);omega
  ·have e2:=oe (B:=B) (aj hj);rw[e1,e2] at h;omega
def dg(os mv:List Nat)(B J:Nat):List Nat:=mv.map (λi=>km os B i)++(bv J).map λj=>B+j
def dP(S:List SO)(os mv:List Nat)(S':List SO):List SO:=
 gU (gw (dg os mv S.length (S'.length-os.length)) S) os (S'.map (qo (km os S.length)))
def G8{α:Type}{p q:α->Prop}(h:¬∀x,p x->q x):∃x,p x/\¬q x:=by
 apply Classical.byContradiction;intro hn;exact h λx hp=>Classical.byContradiction λhq=>hn ⟨x,hp,hq⟩
def OQ(θ:Nat->Loc)(h0:En)(h:H)(S0:List SO):En where
 h:={ h with low:=h.next }
 pr:=λj=>j<h.next/\∀i so,S0[i]?=some so->so≠.gone->j≠(θ i).x/\j≠(θ i).y
 pf:=λj=>j<h.next/\∀i so,S0[i]?=some so->so≠.gone->j≠(θ i).bQ
 lo:=h0.lo
 w:=λ_=>mg
def RS.enter(hR:RS θ ρ0 ρ h0 h S){r:Nat->Nat}(hr:∀i so,S0[i]?=some so->S[r i]?=some (qo r so))(hi:∀i j,r i=r j->i=j):
 RS (λp=>θ (r p)) ρ ρ (OQ (λp=>θ (r p)) h0 h S0) { h with low:=h.next } S0:=by
 have hlo:h0.lo<=h.next:=bc hR.lw hR.ln;refine⟨⟨λj hj=>hj.1,λj hj=>hj.1,λj hj=>?_,hlo⟩,aY _,λ_ _=>rfl,λ_ _=>rfl,hlo,aY _,?_,?_,?_,λid ob h=>.inl h⟩
 ·show h0.lo<=j;by_cases hlt:j<h.next
  ·have:¬∀(q:Nat×SO),(S0[q.1]?=some q.2/\q.2≠.gone)->(j≠(θ (r q.1)).x/\j≠(θ (r q.1)).y):=λhall=>hj ⟨hlt,λi so h1 h2=>hall (i,so) ⟨h1,h2⟩⟩;obtain⟨⟨i,so⟩,⟨h1,h2⟩,h3⟩:=G8 this;obtain⟨k,_⟩:=hR.obj _ _ (hr i so h1) (fh.2 h2);by_cases hx:j=(θ (r i)).x
   ·rw[hx];exact hR.ok.lo _ k.x.1
   ·have:j=(θ (r i)).y:=Decidable.byContradiction λhy=>h3 ⟨hx,hy⟩;rw[this];exact hR.ok.lo _ k.y.1
  ·exact bc hlo (aj hlt)
 ·intro i so h1 h2;obtain⟨k,k2⟩:=hR.obj _ _ (hr i so h1) (fh.2 h2);exact⟨⟨k.e,⟨λhp=>(hp.2 i so h1 h2).1 rfl,k.x.2⟩,⟨λhp=>(hp.2 i so h1 h2).2 rfl,k.y.2⟩,⟨λhp=>hp.2 i so h1 h2 rfl,k.f.2⟩⟩,(nH.rn r).1 k2⟩
 ·intro i j so so' hij h1 h2 h3 h4;exact hR.sep _ _ _ _ (λe=>hij (hi _ _ e)) (hr i so h1) (fh.2 h2) (hr j so' h3) (fh.2 h4)
 ·intro id ob h1;obtain⟨r1,r2,r3⟩:=hR.row id ob h1;exact⟨r1,r2,λi so h2 h3=>r3 _ _ (hr i so h2) (fh.2 h3)⟩
end
section
variable {θ θ':Nat->Loc} {ρ ρ0 ρ':kG} {P:Program} {h0:En} {h h1:H} {S S' S0:List SO}
def SL(θ θ':Nat->Loc)(r:Nat->Nat)(J:Nat):Nat->Loc:=λp=>match (bv J).find? λi=>beq (r i) p with
 | some i=>θ' i
 | none=>θ p
def Us{r:Nat->Nat}{J i:Nat}(hi:∀i j,r i=r j->i=j)(h:i<J):SL θ θ' r J (r i)=θ' i:=by
 unfold SL
 cases hf:(bv J).find? λj=>beq (r j) (r i) with
 | none=>
  have:=List.find?_eq_none.1 hf i (mem_range.2 h);simp at this
 | some j=>
  have:=List.find?_some hf;rw[hi j i (Nat.eq_of_beq_eq_true this)]
def SM{r:Nat->Nat}{J p:Nat}(h:∀i,i<J->r i≠p):SL θ θ' r J p=θ p:=by
 unfold SL;rw[List.find?_eq_none.2 λi hi=>by simpa using h i (mem_range.1 hi)]
def wH(ρ ρ':kG):kG:=λid=>match ρ id with
 | some ob=>some ob
 | none=>ρ' id
def Hq{id:Nat}{ob:AO}(h:ρ id=some ob):wH ρ ρ' id=some ob:=by unfold wH;rw[h]
def Pn{os mv:List Nat}{low:Nat}(hR:RS θ ρ0 ρ h0 h S)(hr:∀(i:Nat) so,S0[i]?=some so->S[km os S.length i]?=some (qo (km os S.length) so))(hK:os.length=S0.length)(hnd:os.Nodup)(hos:∀o∈os,o<S.length)
 (hR':RS θ' ρ ρ' (OQ (λp=>θ (km os S.length p)) h0 h S0) h1 S') (hl:S0.length<=S'.length) (hid:∀i,i<S0.length->i∉mv->(θ' i).id=(θ (km os S.length i)).id) (hb:vK S'.length S'=true) (hlow:low=iA h.low h1.low):
 RS (SL θ θ' (km os S.length) S'.length) ρ0 (wH ρ ρ') h0 { h1 with low:=low } (dP S os mv S')/\
 (∀v x,VS θ ρ v x->VS (SL θ θ' (km os S.length) S'.length) (wH ρ ρ') (np (dg os mv S.length (S'.length-os.length)) v) x)/\
 ∀v x,dG S'.length v=true->VS θ' ρ' v x->VS (SL θ θ' (km os S.length) S'.length) (wH ρ ρ') (fG (km os S.length) v) x:=by
 have hi:∀i j,km os S.length i=km os S.length j->i=j:=λi j=>Ez hnd hos;generalize hR0:km os S.length=r at *;generalize hT:SL θ θ' r S'.length=θt
 have hT1:∀i,i<S'.length->θt (r i)=θ' i:=λi h=>by rw[<-hT];exact Us hi h
 have hT2:∀p,(∀i,i<S'.length->r i≠p)->θt p=θ p:=λp h=>by rw[<-hT];exact SM h
 have hjn:∀i,r i<S.length↔i<S0.length:=by
  intro i;by_cases h:i<os.length
  ·have e:=ns (B:=S.length) (jp h);rw[hR0] at e;rw[e];exact⟨λ_=>by omega,λ_=>hos _ (bk h)⟩
  ·have e:=oe (B:=S.length) (aj h);rw[hR0] at e;rw[e];exact⟨λ_=>by omega,λ_=>by omega⟩
 have hmem:∀p,p∈dg os mv S.length (S'.length-os.length)↔(∃i,i∈mv/\r i=p)\/∃i,S0.length<=i/\i<S'.length/\r i=p:=by
  intro p;unfold dg;rw[mem_append,mem_map,mem_map,hR0];refine or_congr Iff.rfl ⟨?_,?_⟩
  ·rintro⟨j,hj,rfl⟩;refine⟨os.length+j,by omega,by have:=mem_range.1 hj;omega,?_⟩;rw[<-hR0,oe ii];omega
  ·rintro⟨i,h1,h2,rfl⟩;refine⟨i-os.length,mem_range.2 ii,?_⟩;rw[<-hR0,oe ii]
 have hpr:∀j,h0.pr j->(OQ (λp=>θ (r p)) h0 h S0).pr j:=by
  intro j hj;refine⟨a9 (hR.ok.pr j hj) hR.nx,λi so h1 h2=>?_⟩;obtain⟨k,_⟩:=hR.obj _ _ (hr i so h1) (fh.2 h2);exact⟨λe=>k.x.1 (e▸hj),λe=>k.y.1 (e▸hj)⟩
 have hpf:∀j,h0.pf j->(OQ (λp=>θ (r p)) h0 h S0).pf j:=by
  intro j hj;refine⟨a9 (hR.ok.pf j hj) hR.nx,λi so h1 h2=>?_⟩;obtain⟨k,_⟩:=hR.obj _ _ (hr i so h1) (fh.2 h2);exact λe=>k.f.1 (e▸hj)
 have hlt:∀i so,S0[i]?=some so->i<S'.length:=λi so h=>a9 (bx h) hl
 have hoth:∀p so,(∀i,i<S'.length->r i≠p)->S[p]?=some so->so≠.gone->
  (OQ (λp=>θ (r p)) h0 h S0).pr (θ p).x/\(OQ (λp=>θ (r p)) h0 h S0).pr (θ p).y/\(OQ (λp=>θ (r p)) h0 h S0).pf (θ p).bQ:=by
  intro p so hp h1 h2;obtain⟨k,_⟩:=hR.obj p so h1 h2;have sp:=λi s (e1:S0[i]?=some s) (e2:s≠.gone)=>hR.sep p (r i) so _ (λe=>hp i (hlt i s e1) e.symm) h1 h2 (hr i s e1) (fh.2 e2);exact⟨⟨k.x.2,λi s e1 e2=>⟨(sp i s e1 e2).xx,(sp i s e1 e2).xy⟩⟩,⟨k.y.2,λi s e1 e2=>⟨(sp i s e1 e2).yx,(sp i s e1 e2).yy⟩⟩,⟨k.f.2,λi s e1 e2=>(sp i s e1 e2).f⟩⟩
 have hob:∀j,(OQ (λp=>θ (r p)) h0 h S0).pr j->h1.aU.get j=h.aU.get j:=λj hj=>hR'.ob j hj;have hfm:∀j,(OQ (λp=>θ (r p)) h0 h S0).pf j->h1.dF.get j=h.dF.get j:=λj hj=>hR'.fm j hj
 have hrow:∀id ob,ρ id=some ob->(OQ (λp=>θ (r p)) h0 h S0).pr id:=by
  intro id ob e;obtain⟨r1,_,r3⟩:=hR.row id ob e;exact⟨r1,λi s e1 e2=>r3 _ _ (hr i s e1) (fh.2 e2)⟩
 have hnew:∀id ob,ρ' id=some ob->wH ρ ρ' id=some ob:=by
  intro id ob e;unfold wH
  cases e2:ρ id with
  | none=>exact e
  | some ob2=>
   have a:=(hR'.row id ob e).2.1;rw[hob id (hrow id ob2 e2),(hR.row id ob2 e2).2.1] at a;exact a
 have hfr0:∀(ρx:kG) v x,VS θ ρx v x->VS θt ρx (np (dg os mv S.length (S'.length-os.length)) v) x:=by
  intro ρx v x hv;refine VS.ids (θ:=Iw θ (dg os mv S.length (S'.length-os.length)) θt) (λp=>?_) (GJ hv);by_cases hp:p∈dg os mv S.length (S'.length-os.length)
  ·rw[yH (.inl hp)]
  ·rw[Ix hp];rw[hmem] at hp;by_cases him:∃i,i<S'.length/\r i=p
   ·obtain⟨i,e1,rfl⟩:=him;have e2:i<S0.length:=Nat.lt_of_not_le λe=>hp (.inr ⟨i,e,e1,rfl⟩);rw[hT1 i e1,hid i e2 (λe=>hp (.inl ⟨i,e,rfl⟩))]
   ·rw[hT2 p λi e1 e2=>him ⟨i,e1,e2⟩]
 have hfr:∀v x,VS θ ρ v x->VS θt (wH ρ ρ') (np (dg os mv S.length (S'.length-os.length)) v) x:=λv x hv=>hfr0 _ _ _ (hv.mono λ_ _ e=>Hq e);have hsets:=λp=>C3 (os:=os) (S:=gw (dg os mv S.length (S'.length-os.length)) S) (ss:=S'.map (qo r)) p hnd (λo ho=>by rw[jB];exact hos o ho) (by rw[a8];omega)
 have hA:∀i,i<S'.length->(dP S os mv S')[r i]?=(S'[i]?).map (qo r):=by
  intro i e;unfold dP;rw[hR0];by_cases e1:i<os.length
  ·have e2:os[i]?=some (r i):=by
    have:=ns (B:=S.length) (jp e1);rw[hR0] at this;rw[this,jp e1]
   rw[(hsets (r i)).1 i e2,al]
  ·have e2:=oe (B:=S.length) (aj e1);rw[hR0] at e2;have:=(hsets (r i)).2.2 (by rw[jB,e2];omega);rw[this,jB,e2,al,show os.length+(S.length+(i-os.length)-S.length)=i by omega]
 have hB:∀p so,(∀i,i<S'.length->r i≠p)->(dP S os mv S')[p]?=some so->so≠.gone->∃s,S[p]?=some s/\s≠.gone/\so=tj (np (dg os mv S.length (S'.length-os.length))) s:=by
  intro p so hp e1 e2;unfold dP at e1;rw[hR0] at e1
  have hno:p∉os:=by
   intro hm;obtain⟨i,hi1,hi2⟩:=bH hm;have e3:=ns (B:=S.length) (jp hi1);rw[hR0,hi2] at e3;exact hp i ii e3
  by_cases hpl:p<S.length
  ·rw[(hsets p).2.1 hno (by rw[jB];exact hpl),Ar] at e1;obtain⟨s,hs,rfl⟩:=au e1;exact⟨s,hs,CH e2,rfl⟩
  ·rw[(hsets p).2.2 (by rw[jB];omega),jB,al] at e1;obtain⟨s,hs,_⟩:=au e1;have:=bx hs;refine ul ?_ (hp (os.length+(p-S.length)) this);rw[<-hR0,oe ii];omega
 have hcase:∀p so,(dP S os mv S')[p]?=some so->so≠.gone->(∃i s,i<S'.length/\r i=p/\S'[i]?=some s/\s≠.gone/\so=qo r s)\/((∀i,i<S'.length->r i≠p)/\∃s,S[p]?=some s/\s≠.gone/\so=tj (np (dg os mv S.length (S'.length-os.length))) s):=by
  intro p so e1 e2;by_cases him:∃i,i<S'.length/\r i=p
  ·obtain⟨i,e3,rfl⟩:=him;rw[hA i e3] at e1;obtain⟨s,hs,rfl⟩:=au e1;exact .inl ⟨i,s,e3,rfl,hs,fh.1 e2,rfl⟩
  ·have hp:∀i,i<S'.length->r i≠p:=λi e3 e4=>him ⟨i,e3,e4⟩;exact .inr ⟨hp,hB p so hp e1 e2⟩
 have hrn:∀v x,dG S'.length v=true->VS θ' ρ' v x->VS θt (wH ρ ρ') (fG r v) x:=by
  intro v x e1 e2;rw[VS.rn];refine VS.lR (θ:=θ') (λq hq=>?_) e1 (e2.mono hnew);rw[hT1 q hq]
 refine⟨⟨hR.ok,bc hR.nx hR'.nx,λj hj=>(hob j (hpr j hj)).trans (hR.ob j hj),λj hj=>(hfm j (hpf j hj)).trans (hR.fm j hj),?_,?_,?_,?_,?_,?_⟩,hfr,hrn⟩
 ·show h0.lo<=low;rw[hlow];exact nU hR.lw hR'.lw
 ·show low<=h1.next;rw[hlow];exact bc (dR _ _).2 hR'.ln
 ·intro p so e1 e2
  rcases hcase p so e1 e2 with⟨i,s,e3,rfl,e4,e5,rfl⟩ | ⟨hp,s,e3,e4,rfl⟩
  ·rw[hT1 i e3];obtain⟨k,k2⟩:=hR'.obj i s e4 e5;refine⟨⟨k.e,⟨λe=>k.x.1 (hpr _ e),k.x.2⟩,⟨λe=>k.y.1 (hpr _ e),k.y.2⟩,⟨λe=>k.f.1 (hpf _ e),k.f.2⟩⟩,?_⟩;rw[nH.rn];refine nH.lR (θ:=θ') (λq hq=>by rw[hT1 q hq]) (FX hb e4) ?_;exact k2.mono hnew rfl rfl
  ·rw[hT2 p hp];obtain⟨k,k2⟩:=hR.obj p s e3 e4;obtain⟨o1,o2,o3⟩:=hoth p s hp e3 e4;refine⟨k.mono hR'.nx,(k2.mono (h':=h) (λ_ _ e=>Hq e) rfl rfl).map (hfr0 _) ?_ (hfm _ o3)⟩
   rcases k.e with e | e
   ·rw[e];exact hob _ o1
   ·rw[e];exact hob _ o2
 ·intro p q so so' hpq e1 e2 e3 e4
  rcases hcase p so e1 e2 with⟨i,s,a3,rfl,a4,a5,rfl⟩ | ⟨hp,s,a3,a4,rfl⟩
  ·rcases hcase q so' e3 e4 with⟨j,s',b3,rfl,b4,b5,rfl⟩ | ⟨hq,s',b3,b4,rfl⟩
   ·rw[hT1 i a3,hT1 j b3];exact hR'.sep i j s s' (λe=>hpq (by rw[e])) a4 a5 b4 b5
   ·rw[hT1 i a3,hT2 q hq];obtain⟨k,_⟩:=hR'.obj i s a4 a5;obtain⟨o1,o2,o3⟩:=hoth q s' hq b3 b4;exact⟨λe=>k.x.1 (by rw[e];exact o1),λe=>k.x.1 (by rw[e];exact o2),λe=>k.y.1 (by rw[e];exact o1),λe=>k.y.1 (by rw[e];exact o2),λe=>k.f.1 (by rw[e];exact o3)⟩
  ·rcases hcase q so' e3 e4 with⟨j,s',b3,rfl,b4,b5,rfl⟩ | ⟨hq,s',b3,b4,rfl⟩
   ·rw[hT2 p hp,hT1 j b3];obtain⟨k,_⟩:=hR'.obj j s' b4 b5;obtain⟨o1,o2,o3⟩:=hoth p s hp a3 a4;exact⟨λe=>k.x.1 (by rw[<-e];exact o1),λe=>k.y.1 (by rw[<-e];exact o1),λe=>k.x.1 (by rw[<-e];exact o2),λe=>k.y.1 (by rw[<-e];exact o2),λe=>k.f.1 (by rw[<-e];exact o3)⟩
   ·rw[hT2 p hp,hT2 q hq];exact hR.sep p q s s' hpq a3 a4 b3 b4
 ·intro id ob e
  have hfull:id<h1.next/\h1.aU.get id=some ob:=by
   unfold wH at e
   cases e2:ρ id with
   | some ob2=>
    rw[e2] at e;cases e;exact⟨a9 (hR.row id _ e2).1 hR'.nx,by rw[hob id (hrow id _ e2)];exact(hR.row id _ e2).2.1⟩
   | none=>
    rw[e2] at e;exact⟨(hR'.row id ob e).1,(hR'.row id ob e).2.1⟩
  refine⟨hfull.1,hfull.2,?_⟩;intro p so e1 e2;unfold wH at e
  rcases hcase p so e1 e2 with⟨i,s,a3,rfl,a4,a5,rfl⟩ | ⟨hp,s,a3,a4,rfl⟩
  ·rw[hT1 i a3]
   cases e3:ρ id with
   | some ob2=>
    obtain⟨k,_⟩:=hR'.obj i s a4 a5;exact⟨λe=>k.x.1 (by rw[<-e];exact hrow id _ e3),λe=>k.y.1 (by rw[<-e];exact hrow id _ e3)⟩
   | none=>
    rw[e3] at e;exact(hR'.row id ob e).2.2 i s a4 a5
  ·rw[hT2 p hp]
   cases e3:ρ id with
   | some ob2=>exact(hR.row id _ e3).2.2 p s a3 a4
   | none=>
    rw[e3] at e;obtain⟨o1,o2,_⟩:=hoth p s hp a3 a4
    rcases hR'.mP id ob e with e4 | e4
    ·rw[e3] at e4;cases e4
    ·exact⟨λe5=>e4 (by rw[e5];exact o1),λe5=>e4 (by rw[e5];exact o2)⟩
 ·intro id ob e;unfold wH at e
  cases e2:ρ id with
  | some ob2=>rw[e2] at e;cases e;exact hR.mP id _ e2
  | none=>
   rw[e2] at e
   rcases hR'.mP id ob e with e4 | e4
   ·rw[e2] at e4;cases e4
   ·exact .inr λe5=>e4 (hpr id e5)
def aR.sc{ro:Option Nat}{all:List Oper}{o:Oper}{l:List Oper}{f:Fm}{n:Nat}{ds:List kr}{K:eR->Prop}{d:Nat}{c:Call}{g:FuncId}{vs ws:List SV}{mv:List Nat}{Q:SV->List SO->Prop}(os:List Nat)(hst:eP all n [o]=true)(hop:o.op=.call c)(hdst:o.dst=some d)(hw:cV all f o.guard=some true)(hdy:gi (.call c)=true)
 (hc:ja P f c=some (g,vs)) (hq:SC P g ws S0 mv Q) (hvs:nr (km os S.length) ws=vs) (hK:os.length=S0.length) (hnd:os.Nodup) (hos:∀(i:Nat) so,S0[i]?=some so->∃o,os[i]?=some o/\S[o]?=some (qo (km os S.length) so))
 (hb:∀r S',Q r S'->dG S'.length r=true/\vK S'.length S'=true)
 (hk:∀r S',Q r S'->aR P ro all l ⟨(d,fG (km os S.length) r)::oD (dg os mv S.length (S'.length-os.length)) f,n,dP S os mv S',ds⟩ K):aR P ro all (o::l) ⟨f,n,S,ds⟩ K:=by
 rintro ρ0 h0 ⟨af,n',h,ds'⟩ ⟨rfl,rfl,θ,ρ,hR,hF⟩;subst hvs
 have hd:blt d n'=true:=by
  have:=(fW hst).1;rw[hdst] at this;exact this
 have hos2:∀o∈os,o<S.length:=by
  intro o ho;obtain⟨i,hi1,hi2⟩:=bH ho
  have:i<S0.length:=by omega
  obtain⟨o',e1,e2⟩:=hos i _ (jp this);rw[jp hi1] at e1;cases e1;rw[<-hi2];exact bx e2
 have hr:∀(i:Nat) so,S0[i]?=some so->S[km os S.length i]?=some (qo (km os S.length) so):=by
  intro i so e;obtain⟨o,e1,e2⟩:=hos i so e;rw[ns e1];exact e2
 obtain⟨xs,cap,e1,e2⟩:=yZ hF hc;refine .c hop hdst (dr hF (fi hst hw)) hdy hd e1 rfl (hq _ _ ρ h _ rfl (hR.enter hr (λi j=>Ez hnd hos2)) ((da.rn _).1 e2)) ?_;rintro v h' ⟨r,S',θ',ρ',h1,k1,rfl,k3,k4,k5,k6⟩;obtain⟨b1,b2⟩:=hb r S' k1;obtain⟨j1,j2,j3⟩:=Pn (low:=iA h.low h1.low) hR hr hK hnd hos2 k3 k5 k6 b2 rfl;refine hk r S' k1 ρ0 h0 _ ⟨rfl,rfl,_,_,j1,?_⟩
 have hF2:FR (SL θ θ' (km os S.length) S'.length) (wH ρ ρ') (aP (oD (dg os mv S.length (S'.length-os.length)) f)) af n' (IC h0.w ds'):=
  ⟨λi=>by rw[zu];exact j2 _ _ (hF.v i),hF.u⟩
 exact hF2.put (gp hd) (j3 _ _ b1 k4)
end
section
variable {P:Program} {ro:Option Nat} {f:Fm} {n:Nat} {S:List SO} {ds:List kr} {r:Nat->Nat} {B:Nat}
mutual
def wu{o:Nat}:∀{v:SV},mN v=true->names o v=false
 | .a v,_=>mA v
 | .sl n e cs,_=>G4 n e cs
 | .im ks vs,_=>G2 ks vs
 | .ip cs,_=>G3 cs
 | .any,_=>CK
 | .e0 e,_=>G1 e
 | .ag cs,h=>by rw[names];exact bX (by rw[mN] at h;exact h)
 | .cq cs,h=>by rw[names];exact bX (by rw[mN] at h;exact h)
 | .fn g a b,h=>by rw[mN,aa] at h;rw[names,bX h.1,bX h.2];rfl
 | .iface t v,h=>by rw[names];exact wu (by rw[mN] at h;exact h)
 | .ptr _ _,h=>by simp[mN] at h
 | .map _,h=>by simp[mN] at h
 | .buf _ _ _ _,h=>by simp[mN] at h
 | .sub _ _ _ _ _,h=>by simp[mN] at h
def bX{o:Nat}:∀{vs:List SV},bZ vs=true->fp o vs=false
 | [],_=>rfl
 | d::ds,h=>by rw[bZ,aa] at h;rw[fp,wu h.1,bX h.2];rfl
end
def wc{o:Nat}{v:SV}(h:mN v=true):bf o v=v:=by unfold bf;rw[wu h];rfl
def bV{o:Nat}:∀{vs:List SV},bZ vs=true->vs.map (bf o)=vs
 | [],_=>rfl
 | d::ds,h=>by rw[bZ,aa] at h;rw[b6,wc h.1,bV h.2]
mutual
def LS:∀{v:SV},mN v=true->fG r v=v
 | .a v,_=>by rw[fG]
 | .sl n e cs,_=>by rw[fG]
 | .im ks vs,_=>by rw[fG]
 | .ip cs,_=>by rw[fG]
 | .any,_=>by rw[fG]
 | .e0 e,_=>by rw[fG]
 | .ag cs,h=>by rw[fG,br (by rw[mN] at h;exact h)]
 | .cq cs,h=>by rw[fG,br (by rw[mN] at h;exact h)]
 | .fn g a b,h=>by rw[mN,aa] at h;rw[fG,br h.1,br h.2]
 | .iface t v,h=>by rw[fG,LS (by rw[mN] at h;exact h)]
 | .ptr _ _,h=>by simp[mN] at h
 | .map _,h=>by simp[mN] at h
 | .buf _ _ _ _,h=>by simp[mN] at h
 | .sub _ _ _ _ _,h=>by simp[mN] at h
def br:∀{vs:List SV},bZ vs=true->nr r vs=vs
 | [],_=>by rw[nr]
 | d::ds,h=>by rw[bZ,aa] at h;rw[nr,LS h.1,br h.2]
end
mutual
def gF:∀{v:SV},mN v=true->dG B v=true
 | .a v,_=>by rw[dG];all_goals (intros;contradiction)
 | .sl n e cs,_=>by rw[dG];all_goals (intros;contradiction)
 | .im ks vs,_=>by rw[dG];all_goals (intros;contradiction)
 | .ip cs,_=>by rw[dG];all_goals (intros;contradiction)
 | .any,_=>by rw[dG];all_goals (intros;contradiction)
 | .e0 e,_=>by rw[dG];all_goals (intros;contradiction)
 | .ag cs,h=>by rw[dG];exact bK (by rw[mN] at h;exact h)
 | .cq cs,h=>by rw[dG];exact bK (by rw[mN] at h;exact h)
 | .fn g a b,h=>by rw[mN,aa] at h;rw[dG,bK h.1,bK h.2];rfl
 | .iface t v,h=>by rw[dG];exact gF (by rw[mN] at h;exact h)
 | .ptr _ _,h=>by simp[mN] at h
 | .map _,h=>by simp[mN] at h
 | .buf _ _ _ _,h=>by simp[mN] at h
 | .sub _ _ _ _ _,h=>by simp[mN] at h
def bK:∀{vs:List SV},bZ vs=true->je B vs=true
 | [],_=>rfl
 | d::ds,h=>by rw[bZ,aa] at h;rw[je,gF h.1,bK h.2];rfl
end
def ni:∀{a b:List SV},bZ a=true->bZ b=true->bZ (a++b)=true
 | [],_,_,h=>h
 | d::ds,b,h,g=>by
  rw[bZ,aa] at h;show bZ (d::(ds++b))=true;rw[bZ,h.1,ni h.2 g];rfl
def aA{α:Type}{enc:α->List SV}(h:∀x,bZ (enc x)=true):∀l:List α,bZ (l.flatMap enc)=true
 | []=>rfl
 | a::l=>by rw[List.flatMap_cons];exact ni (h a) (aA h l)
def Pa(l:List (List Nat)):bZ (l.flatMap (aD ah))=true:=aA (λ_=>rfl) l
def O9(l:List Int):bZ (l.flatMap (aD ab))=true:=aA (λ_=>rfl) l
def GI(o:Nat)(l:List (List Nat)):(l.flatMap (aD ah)).map (bf o)=l.flatMap (aD ah):=bV (Pa l)
def GH(o:Nat)(l:List Int):(l.flatMap (aD ab)).map (bf o)=l.flatMap (aD ab):=bV (O9 l)
def Qn(l:List (List Nat)):nr r (l.flatMap (aD ah))=l.flatMap (aD ah):=br (Pa l)
def Qm(l:List Int):nr r (l.flatMap (aD ab))=l.flatMap (aD ab):=br (O9 l)
def KX(l:List (List Nat)):je B (l.flatMap (aD ah))=true:=bK (Pa l)
def KW(l:List Int):je B (l.flatMap (aD ab))=true:=bK (O9 l)
def Qe(v:AV):fG r (.a v)=.a v:=by rw[fG]
def Qg(e:Nat):fG r (.e0 e)=.e0 e:=by rw[fG]
def Ql(n e:Nat)(cs:List SV):fG r (.sl n e cs)=.sl n e cs:=by rw[fG]
def LR:fG r .any=.any:=by rw[fG]
def Qj(ks:List AV)(vs:List SV):fG r (.im ks vs)=.im ks vs:=by rw[fG]
def Qk(cs:List SV):fG r (.ip cs)=.ip cs:=by rw[fG]
def LV(o off:Nat):fG r (.ptr o off)=.ptr (r o) off:=by rw[fG]
def LU(o:Nat):fG r (.map o)=.map (r o):=by rw[fG]
def EA(o n e:Nat)(c:Option Nat):fG r (.buf o n e c)=.buf (r o) n e c:=by rw[fG]
def LW(o off n e:Nat)(c:Option Nat):fG r (.sub o off n e c)=.sub (r o) off n e c:=by rw[fG]
def Qf(cs:List SV):fG r (.ag cs)=.ag (nr r cs):=by rw[fG]
def LX(cs:List SV):fG r (.cq cs)=.cq (nr r cs):=by rw[fG]
def Qh(g:FuncId)(a b:List SV):fG r (.fn g a b)=.fn g (nr r a) (nr r b):=by rw[fG]
def Qi(t:TypeId)(v:SV):fG r (.iface t v)=.iface t (fG r v):=by rw[fG]
def LO:nr r []=[]:=by rw[nr]
def Hu(d:SV)(ds:List SV):nr r (d::ds)=fG r d::nr r ds:=by rw[nr]
def LP(cs:List SV):qo r (.cells cs)=.cells (nr r cs):=rfl
def LQ(ks:List AV)(vs:List SV)(b:Option (List Nat×Nat)):qo r (.map ks vs b)=.map ks (nr r vs) b:=rfl
def Tu(m:SV)(bs:List Nat)(c:Nat)(pos:List Nat):qo r (.iter m bs c pos)=.iter (fG r m) bs c pos:=rfl
def Qd(ks:List AV)(vs:List SV)(bs:List Nat)(c:Nat)(pos:List Nat):qo r (.pI ks vs bs c pos)=.pI ks vs bs c pos:=rfl
def Tt:qo r .gone=.gone:=rfl
def Tv(c:jP)(ls:LoopState)(p:Option Code)(f:Fm):qo r (.loop c ls p f)=.loop c ls p (Sw r f):=rfl
def Ts(N:Nat):qo r (.nd N)=.nd N:=rfl
def LN:Sw r []=[]:=rfl
def Ht(d:Nat)(v:SV)(f:Fm):Sw r ((d,v)::f)=(d,fG r v)::Sw r f:=rfl
def To(o:Nat)(os:List Nat)(B:Nat):km (o::os) B 0=o:=rfl
def Tq(o:Nat)(os:List Nat)(B i:Nat):km (o::os) B (i+1)=km os B i:=by
 unfold km;rw[ay]
 cases os[i]? with
 | some _=>rfl
 | none=>simp
def Tp(B i:Nat):km [] B i=B+i:=rfl
def Gp(os mv:List Nat)(B:Nat):dg os mv B 0=mv.map (km os B):=by unfold dg;simp
def Gq(os mv:List Nat)(B:Nat):dg os mv B 1=mv.map (km os B)++[B+0]:=by unfold dg;rfl
def Gr(os mv:List Nat)(B:Nat):dg os mv B 2=mv.map (km os B)++[B+0,B+1]:=by unfold dg;rfl
def Gs(os mv:List Nat)(B:Nat):dg os mv B 3=mv.map (km os B)++[B+0,B+1,B+2]:=by unfold dg;rfl
def Vk:(∀f:Fm,oD [] f=f)/\(∀(k:Nat) (ks:List Nat) (f:Fm),oD (k::ks) f=oD ks (eU k f))/\(∀S:List SO,gw [] S=S)/\(∀(k:Nat) (ks:List Nat) (S:List SO),gw (k::ks) S=gw ks (eC k S))/\
 (∀S ss:List SO,gU S [] ss=S++ss)/\(∀(S:List SO) (o:Nat) (os:List Nat) (s:SO) (ss:List SO),gU S (o::os) (s::ss)=gU (S.set o s) os ss)/\(∀(S:List SO) (os mv:List Nat) (S':List SO),dP S os mv S'=gU (gw (dg os mv S.length (S'.length-os.length)) S) os (S'.map (qo (km os S.length))))/\
 (∀(g:Nat->Nat),([]:List Nat).map g=[])/\(∀(g:Nat->Nat) (a:Nat) (l:List Nat),(a::l).map g=g a::l.map g)/\(∀l:List Nat,[]++l=l)/\(∀(a:Nat) (l m:List Nat),(a::l)++m=a::(l++m))/\(∀(g:SO->SO),([]:List SO).map g=[])/\(∀(g:SO->SO) (a:SO) (l:List SO),(a::l).map g=g a::l.map g)/\
 (([]:List Nat).length=0)/\(∀(a:Nat) (l:List Nat),(a::l).length=l.length+1)/\(([]:List SO).length=0)/\(∀(a:SO) (l:List SO),(a::l).length=l.length+1)/\(∀l:List SO,l++[]=l)/\(∀n:Nat,n-0=n)/\(∀n:Nat,n-n=0):=by
 (repeat' apply And.intro)<;>intros<;>first | rfl | (simp;done) | rw[gU]
def Vl:(type_of% @Qe)/\(type_of% @Qg)/\(type_of% @Ql)/\(type_of% @LR)/\(type_of% @Qj)/\(type_of% @Qk)/\(type_of% @LV)/\(type_of% @LU)/\(type_of% @EA)/\(type_of% @LW)/\(type_of% @Qf)/\(type_of% @LX)/\(type_of% @Qh)/\(type_of% @Qi)/\(type_of% @LO)/\(type_of% @Hu)/\(type_of% @LP)/\(type_of% @LQ)/\(type_of% @Tt)/\(type_of% @Tu)/\(type_of% @Qd)/\(type_of% @Tv)/\(type_of% @Ts)/\(type_of% @LN)/\(type_of% @Ht):=
 ⟨@Qe,@Qg,@Ql,@LR,@Qj,@Qk,@LV,@LU,@EA,@LW,@Qf,@LX,@Qh,@Qi,@LO,@Hu,@LP,@LQ,@Tt,@Tu,@Qd,@Tv,@Ts,@LN,@Ht⟩
def Vm:(type_of% @To)/\(type_of% @Tq)/\(type_of% @Tp)/\(type_of% @Gp)/\(type_of% @Gq)/\(type_of% @Gr)/\(type_of% @Gs)/\(type_of% @GI)/\(type_of% @GH)/\(type_of% @Qn)/\(type_of% @Qm)/\(type_of% @KX)/\(type_of% @KW):=
 ⟨@To,@Tq,@Tp,@Gp,@Gq,@Gr,@Gs,@GI,@GH,@Qn,@Qm,@KX,@KW⟩
def gJ:(type_of% @Vk)/\(type_of% @Vl)/\(type_of% @Vm):=⟨@Vk,@Vl,@Vm⟩
def C5:(type_of% @dG.eq_1)/\(type_of% @dG.eq_2)/\(type_of% @dG.eq_3)/\(type_of% @dG.eq_4)/\(type_of% @dG.eq_5)/\(type_of% @dG.eq_6)/\(type_of% @dG.eq_7)/\(type_of% @dG.eq_8)/\(type_of% @je.eq_1)/\(type_of% @je.eq_2)/\(type_of% @mX.eq_1)/\(type_of% @mX.eq_2)/\(type_of% @mX.eq_3)/\(type_of% @mX.eq_4)/\(type_of% @mX.eq_5)/\(type_of% @mX.eq_6)/\(type_of% @mX.eq_7)/\(type_of% @FV.eq_1)/\(type_of% @FV.eq_2)/\(type_of% @vK.eq_1)/\(type_of% @vK.eq_2)/\(∀(B:Nat) (v:AV),dG B (.a v)=true)/\(∀(B n e:Nat) (cs:List SV),dG B (.sl n e cs)=true)/\(∀(B:Nat) (cs:List SV),dG B (.ip cs)=true)/\(∀(B:Nat) (ks:List AV) (cs:List SV),dG B (.im ks cs)=true)/\(∀(B e:Nat),dG B (.e0 e)=true)/\(∀B:Nat,dG B .any=true):=
 ⟨@dG.eq_1,@dG.eq_2,@dG.eq_3,@dG.eq_4,@dG.eq_5,@dG.eq_6,@dG.eq_7,@dG.eq_8,@je.eq_1,@je.eq_2,@mX.eq_1,@mX.eq_2,@mX.eq_3,@mX.eq_4,@mX.eq_5,@mX.eq_6,@mX.eq_7,@FV.eq_1,@FV.eq_2,@vK.eq_1,@vK.eq_2,λ_ _=>gF rfl,λ_ _ _ _=>gF rfl,λ_ _=>gF rfl,λ_ _ _=>gF rfl,λ_ _=>gF rfl,λ_=>gF rfl⟩
def aR.M4{all:List Oper}{o:Oper}{l:List Oper}{K:eR->Prop}{d t yt:Nat}{x:Operand}{y:Value}{k e:Nat}{cs:List SV}(hst:eP all n [o]=true)(hop:o.op=.binOp .eql t x (.const y) yt)(hdst:o.dst=some d)(hw:cV all f o.guard=some true)
 (hx:gf f x=some (.sl k e cs)) (hy:mn na y=some (.slice none 0 0 (some 0))) (ht:jk P t=.sl) (hg:P.eqGuardType P.depth t=false) (hk:∀b:Bool,(b=true->k=0)->aR P ro all l ⟨(d,.a (.bool b))::f,n,S,ds⟩ K):aR P ro all (o::l) ⟨f,n,S,ds⟩ K:=by
 rintro ρ0 h0 ⟨af,n',h,ds'⟩ ⟨rfl,rfl,θ,ρ,hR,hF⟩;obtain⟨hd,_⟩:=fW hst;rw[hdst] at hd;obtain⟨a,ha,ka⟩:=bL hF hx;have ha':ev (eB af n') x=some a:=ha;obtain⟨e',hu⟩:=qg ht;have hyv:ev (eB af n') (.const y)=some (.slice none 0 0 (some 0)):=hy
 have fin:∀b:Bool,dj P .eql t a (.slice none 0 0 (some 0))=some (.bool b)->(b=true->k=0)->jO P ro all (o::l) ⟨af,n',h,ds'⟩ (λast'=>∃st',K st'/\st'.n=n'/\jQ ρ0 h0 st' ast'):=by
  intro b hb hbk;refine .v hop hdst (dr hF (fi hst hw)) rfl hd (by rw[PS,ha',hyv,m7,m7,hb];rfl) ?_;exact hk b hbk ρ0 h0 _ ⟨rfl,rfl,θ,ρ,hR,hF.put (gp hd) (by rw[VS])⟩
 rw[VS,GS] at ka
 rcases ka with⟨rfl,_,o',e'',c,rfl,_,_⟩ | ⟨id,off,cap,row,rfl,_⟩
 ·cases o' with
  | none=>exact fin true (by unfold dj;simp only[hg,aw,lT,hu,Option.isNone_none,m6]) λ_=>rfl
  | some q=>exact fin false (by unfold dj;simp only[hg,aw,lT,hu,m6]) λ_=>rfl
 ·exact fin false (by unfold dj;simp only[hg,aw,lT,hu,m6]) λh=>by cases h
def DY(S:List SO)(r:Nat->Nat):List SO->List Nat->Prop
 | [],_=>True
 | so::l,o::os=>S[o]?=some (qo r so)/\DY S r l os
 | _::_,[]=>False
def Lf:∀{S0:List SO} {os:List Nat},DY S r S0 os->∀(i:Nat) so,S0[i]?=some so->∃o,os[i]?=some o/\S[o]?=some (qo r so)
 | [],_,_,i,so,h=>by simp at h
 | s::l,o::os,hh,0,so,h=>by
  simp only[a6,qr] at h;subst h;exact⟨o,rfl,hh.1⟩
 | s::l,o::os,hh,i+1,so,h=>by
  simp only[ay] at h ⊢;exact Lf hh.2 i so h
 | _::_,[],hh,_,_,_=>hh.elim
def aR.sk{all:List Oper}{o:Oper}{l:List Oper}{K:eR->Prop}{d:Nat}{c:Call}{g:FuncId}{vs ws:List SV}{mv:List Nat}{S0 S1 S2:List SO}{r0 r2:SV}{f2:Fm}(os:List Nat)(hst:eP all n [o]=true)(hop:o.op=.call c)(hdst:o.dst=some d)(hw:cV all f o.guard=some true)(hdy:gi (.call c)=true)
 (hc:ja P f c=some (g,vs)) (hq:SC P g ws S0 mv (λr S'=>r=r0/\S'=S1)) (hvs:nr (km os S.length) ws=vs) (hK:os.length=S0.length) (hnd:os.Nodup) (hos:DY S (km os S.length) S0 os)
 (hb1:dG S1.length r0=true) (hb2:vK S1.length S1=true) (hr:fG (km os S.length) r0=r2) (hf:oD (dg os mv S.length (S1.length-os.length)) f=f2) (hS:dP S os mv S1=S2)
 (hk:aR P ro all l ⟨(d,r2)::f2,n,S2,ds⟩ K):aR P ro all (o::l) ⟨f,n,S,ds⟩ K:=by
 refine .sc os hst hop hdst hw hdy hc hq hvs hK hnd (Lf hos) ?_ ?_
 ·rintro _ _ ⟨rfl,rfl⟩;exact⟨hb1,hb2⟩
 ·rintro _ _ ⟨rfl,rfl⟩;rw[hr,hf,hS];exact hk
def Md.of{fn:Func}{K:Nat}{mv:List Nat}{Q:SV->List SO->Prop}{e:Ex}{rs:List ResultVar}{vs:List SV}(he:kM e=true)(hr:fn.results.toList=rs)(h:po P f S rs=some vs)(hq:Q (eI vs) S)(hK:K<=S.length)(hw:∀i,i<K->i∉mv->aP f (1000000+i)=.ptr i 0):Md P fn K mv Q e ⟨f,n,S,[]⟩:=
 ⟨he,rfl,⟨vs,by rw[hr];exact h,hq⟩,hK,hw⟩
end
open Go.RowKit
def MI(σ:Sg){vs:Array Value}(ih:∀i:Fin vs.size,∃a,V σ a vs[i]):∃a,V σ a (.agg vs):=by
 refine⟨.agg (ofFn λi=>(ih i).choose),.agg (d0) ?_⟩;intro i a v h1 h2;rw[c3] at h1;by_cases hi:i<vs.size
 ·rw[dif_pos hi] at h1;rw[ap hi] at h2;cases h1;cases h2;exact(ih ⟨i,hi⟩).choose_spec
 ·rw[dif_neg hi] at h1;cases h1
def S9(σ:Sg):∀(n:Nat) (v:Value),SizeOf.sizeOf v<n->∃a,V σ a v
 | 0,_,h=>ul h (Nat.not_lt_zero _)
 | n+1,v,h=>by
  by_cases hv:∃vs,v=.agg vs
  ·obtain⟨vs,rfl⟩:=hv;refine MI σ λi=>S9 σ n vs[i] ?_;have h1:SizeOf.sizeOf vs[i]<SizeOf.sizeOf vs:=Array.sizeOf_getElem vs i.1 i.2
   have h2:SizeOf.sizeOf (Value.agg vs)=1+SizeOf.sizeOf vs:=by simp
   omega
  ·exact⟨.any,.any λvs e=>hv ⟨vs,e⟩⟩
def UW(σ:Sg)(c:Array Value)(d:Nat):∀(n:Nat),d+n<=c.size->∃aS:List AV,aS.length=n/\∀(i:Nat) (a:AV),aS[i]?=some a->∃v,c[d+i]?=some v/\V σ a v:=by
 intro n hn;have ih:∀i:Fin n,∃a,V σ a (c[d+i.1]'(by have:=i.2;omega)):=λi=>S9 σ _ _ (bt _);refine⟨ofFn λi=>(ih i).choose,d0,?_⟩;intro i a h1;rw[c3] at h1;by_cases hi:i<n
 ·rw[dif_pos hi] at h1;cases h1;have hs:=(ih ⟨i,hi⟩).choose_spec;exact⟨_,ap ii,hs⟩
 ·rw[dif_neg hi] at h1;cases h1
noncomputable def H.kT(h:H)(id bQ:Nat)(cs:List AV):H:={ h with aU:=h.aU.put id (some (.cells cs bQ)),low:=iA h.low id }
def HR.kT{σ:Sg}{h:H}{w:World}(hr:HR σ h w){id bQ:Nat}{cs ex:List AV}{p:tE}(ho:h.aU.get id=some (.cells cs bQ))(hp:σ id=some p){c:Array Value}{e:TypeId}(hb:w.heap[p.b]?=some (.cells c e (0,0)))
 (hl:cs.length+ex.length<=p.r) (hV:∀(i:Nat) (a:AV),ex[i]?=some a->∃v,c[p.d+cs.length+i]?=some v/\V σ a v):HR σ (h.kT id bQ (cs++ex)) w/\Ext σ σ h (h.kT id bQ (cs++ex)) w w:=by
 obtain⟨q,c0,e0,hq,h1,h2,h3,h4⟩:=hr.cells ho;rw[hp] at hq;cases hq;rw[hb] at h1;cases h1;have hm:=dR h.low id
 have get:∀j x,(h.kT id bQ (cs++ex)).aU.get j=some x->(j=id/\x=.cells (cs++ex) bQ)\/(j≠id/\h.aU.get j=some x):=by
  intro j x hx;simp only[H.kT,dB] at hx;split at hx
  ·rename_i e;cases hx;exact .inl ⟨e,rfl⟩
  ·rename_i hne;exact .inr ⟨hne,hx⟩
 have mP:∀j x,(h.kT id bQ (cs++ex)).aU.get j=some x->∃y,h.aU.get j=some y/\(x=y\/(y=.cells cs bQ/\x=.cells (cs++ex) bQ)):=by
  intro j x hx
  rcases get j x hx with⟨rfl,rfl⟩ | ⟨_,h⟩
  ·exact⟨_,ho,.inr ⟨rfl,rfl⟩⟩
  ·exact⟨x,h,.inl rfl⟩
 refine⟨⟨?_,hr.fresh,?_,?_,bc hm.1 hr.D7⟩,⟨λ_ _ h=>h,aY _,aY _,rfl,rfl,rfl,?_,λ_ _ _=>rfl,hm.1,?_,λ_ _ h=>h,?_⟩⟩
 ·intro j x hx
  rcases get j x hx with⟨rfl,rfl⟩ | ⟨_,h⟩
  ·refine⟨p,hp,c,e,hb,h2,by rw[li];exact hl,?_⟩;intro i a ha;rw[cn] at ha;split at ha
   ·exact h4 i a ha
   ·rename_i hlt;obtain⟨v,hv,hV⟩:=hV _ a ha;rw[show p.d+cs.length+(i-cs.length)=p.d+i by omega] at hv;exact⟨v,hv,hV⟩
  ·exact hr.obj j x h
 ·intro i j x y q1 q2 hij hx hy a1 a2 hb2;obtain⟨x',g1,k1⟩:=mP i x hx;obtain⟨y',g2,k2⟩:=mP j y hy;have:=hr.sep i j x' y' q1 q2 hij g1 g2 a1 a2 hb2
  rcases this with⟨b1,b2,f,e1,e2⟩ | ⟨b1,b2,e1,e2⟩
  ·left
   rcases k1 with rfl | ⟨rfl,rfl⟩<;>rcases k2 with rfl | ⟨rfl,rfl⟩
   ·exact⟨_,_,f,e1,e2⟩
   ·cases e2;exact⟨_,_,_,e1,rfl⟩
   ·cases e1;exact⟨_,_,_,rfl,e2⟩
   ·exact⟨_,_,_,rfl,rfl⟩
  ·right
   rcases k1 with rfl | ⟨rfl,rfl⟩<;>rcases k2 with rfl | ⟨rfl,rfl⟩
   ·exact⟨_,_,e1,e2⟩
   ·cases e2
   ·cases e1
   ·cases e1
 ·intro i cs' f hi
  rcases get i _ hi with⟨rfl,e⟩ | ⟨_,h⟩
  ·cases e;exact hr.bQ i _ _ ho
  ·exact hr.bQ i _ _ h
 ·intro j x q hx hq;obtain⟨x',g1,k1⟩:=mP j x hx;refine .inr ⟨j,x',q,g1,hq,rfl,?_⟩
  rcases k1 with rfl | ⟨rfl,rfl⟩
  ·exact λh=>h
  ·exact λ_ cs e=>by cases e
 ·intro j hj hjn;simp only[H.kT,dB];rw[ut (by simp only[H.kT] at hj;omega)]
 ·intro j cs' f hj
  rcases get j _ hj with⟨rfl,e⟩ | ⟨_,h⟩
  ·cases e;exact .inr ⟨j,cs,ho⟩
  ·exact .inr ⟨j,cs',h⟩
def mh.JG{P:Program}{ro:Option Nat}{c:Code}{st:iJ}{Q:Ex->iJ->Prop}{i0 id len es bQ:Nat}{cs:List AV}(hi:i0<st.n)(hf:st.f i0=.slice (some (id,0)) len es none)(ho:st.h.aU.get id=some (.cells cs bQ))
 (hk:∀(cap:Nat) (ex:List AV),len<=cap->ex.length=cap*es-cs.length->mh P ro c ⟨Br st.f i0 (.slice (some (id,0)) len es (some cap)),st.n,st.h.kT id bQ (cs++ex),st.ds⟩ Q):mh P ro c st Q:=by
 intro F n σ a w hs hF;have hv:=hs.t.2 i0 hi;rw[hf] at hv;obtain⟨p,c0,e0,hp,h1,h2,h3,h4⟩:=hs.h.cells ho;generalize hg:a.tmps.getD i0 undef=v at hv
 cases hv with
 | @slice _ _ _ _ _ ad p' cp hp' hl hr hc ha=>
  rw[hp] at hp';cases hp';rw[b7] at hr;obtain⟨ex,hx1,hx2⟩:=UW σ c0 (p.d+cs.length) (cp*es-cs.length) ii;obtain⟨g1,g2⟩:=hs.h.kT ho hp h1 (ex:=ex) ii hx2;refine(hk cp ex hl hx1).wide (σ:=σ) ?_ hF g2 rfl;refine⟨⟨hs.t.1,λi hi'=>?_⟩,g1,hs.ds⟩;by_cases e:i=i0
  ·subst e;rw[hg];show V σ (Br st.f i _ i) _;rw[vy];exact .slice hp hl ii (λx hx=>by cases hx;rfl) ha
  ·show V σ (Br st.f i0 _ i) _;rw[sj _ _ e];exact hs.t.2 i hi'
def FJ{θ:Nat->Loc}{ρ:kG}:∀(aS:List AV),da θ ρ (b9 aS.length .any) aS
 | []=>by rw[i5,List.replicate_zero,bj]
 | a::aS=>by
  rw[i7,List.replicate_succ,aM];exact⟨a,aS,rfl,by rw[VS];trivial,FJ aS⟩
def aE.JG{P:Program}{ro:Option Nat}{c:Code}{f:Fm}{n:Nat}{S:List SO}{ds:List kr}{Q:Ex->eR->Prop}(i0:Nat){o len e:Nat}{cs:List SV}(hi:i0<n)(hf:aP f i0=.buf o len e none)(hS:S[o]?=some (.cells cs))
 (hk:∀cap,len<=cap->aE P ro c ⟨(i0,.buf o len e (some cap))::f,n,S.set o (.cells (cs++b9 (cap*e-cs.length) .any)),ds⟩ Q):aE P ro c ⟨f,n,S,ds⟩ Q:=by
 rintro ρ0 h0 ⟨af,n',h,ds'⟩ ⟨rfl,rfl,θ,ρ,hR,hF⟩;obtain⟨hL,aS,g1,g2,g3⟩:=hR.obj o _ hS ge;have hv:=hF.v i0;rw[hf,VS] at hv;rw[un hi] at hv;refine mh.JG hi hv g1 ?_;intro cap ex hle hex;have hlen:=g2.length;refine hk cap hle ρ0 h0 _ ⟨rfl,rfl,θ,ρ,?_,?_⟩
 ·have hidr:¬h0.pr (θ o).id:=by
   rcases hL.e with e | e<;>rw[e]
   ·exact hL.x.1
   ·exact hL.y.1
  have hm:=dR h.low (θ o).id
  have hlo:h0.lo<=iA h.low (θ o).id:=by
   have:=hR.ok.lo _ hidr;have:=hR.lw;unfold iA;cases ble h.low (θ o).id<;>simpa
  have get:∀j,j≠(θ o).id->(h.kT (θ o).id (θ o).bQ (aS++ex)).aU.get j=h.aU.get j:=by
   intro j hj;simp only[H.kT,dB];rw[ut hj]
  have own:∀p so,(S.set o (.cells (cs++b9 (cap*e-cs.length) .any)))[p]?=some so->(p=o/\so=.cells (cs++b9 (cap*e-cs.length) .any))\/(p≠o/\S[p]?=some so):=by
   intro p so hp;by_cases e:p=o
   ·subst e;rw[aJ (bx hS)] at hp;cases hp;exact .inl ⟨rfl,rfl⟩
   ·rw[a7 (λh=>e h.symm)] at hp;exact .inr ⟨e,hp⟩
  have sepo:∀p so,p≠o->S[p]?=some so->so≠.gone->(θ p).id≠(θ o).id:=by
   intro p so hp h1 h2 e;have sp:=hR.sep p o so _ hp h1 h2 hS ge;obtain⟨k,_⟩:=hR.obj p so h1 h2
   rcases k.e with e1 | e1<;>rcases hL.e with e2 | e2<;>rw[e1,e2] at e
   ·exact sp.xx e
   ·exact sp.xy e
   ·exact sp.yx e
   ·exact sp.yy e
  refine⟨hR.ok,hR.nx,λj hj=>?_,hR.fm,hlo,bc hm.1 hR.ln,?_,?_,?_,hR.mP⟩
  ·rw[get j (λe=>hidr (e▸hj))];exact hR.ob j hj
  ·intro p so hp hg
   rcases own p so hp with⟨rfl,rfl⟩ | ⟨hne,hp'⟩
   ·refine⟨hL,aS++ex,?_,?_,g3⟩
    ·simp only[H.kT,dB];rw[un trivial]
    ·refine g2.app ?_;rw[<-hlen,<-hex];exact FJ ex
   ·obtain⟨k1,k2⟩:=hR.obj p so hp' hg;refine⟨k1,?_⟩;have hid:=sepo p so hne hp' hg
    cases so with
    | cells cs'=>obtain⟨as',q1,q2,q3⟩:=k2;exact⟨as',by rw[get _ hid];exact q1,q2,q3⟩
    | map ks vs b=>obtain⟨l,c,q1,q2,q3⟩:=k2;exact⟨l,c,by rw[get _ hid];exact q1,q2,q3⟩
    | iter m bs c pos=>obtain⟨j9,q1,q2⟩:=k2;exact⟨j9,q1,by rw[get _ hid];exact q2⟩
    | pI ks vs bs c pos=>obtain⟨j9,l,q1,q2,q3,q4⟩:=k2;exact⟨j9,l,q1,q2,q3,by rw[get _ hid];exact q4⟩
    | gone=>trivial
    | loop=>obtain⟨q1,q2,q3⟩:=k2;exact⟨q1,by rw[get _ hid];exact q2,q3⟩
    | nd=>exact⟨k2.1,by rw[get _ hid];exact k2.2⟩
  ·intro p p' so so' hpp hp hg hp' hg'
   rcases own p so hp with⟨rfl,rfl⟩ | ⟨hne,hq⟩<;>rcases own p' so' hp' with⟨rfl,rfl⟩ | ⟨hne',hq'⟩
   ·exact ul rfl hpp
   ·exact hR.sep p p' _ so' hpp hS ge hq' hg'
   ·exact hR.sep p p' so _ hpp hq hg hS ge
   ·exact hR.sep p p' so so' hpp hq hg hq' hg'
  ·intro id ob hi';obtain⟨r1,r2,r3⟩:=hR.row id ob hi'
   have hne:id≠(θ o).id:=by
    have:=r3 o _ hS ge
    rcases hL.e with e | e<;>rw[e]
    ·exact this.1
    ·exact this.2
   refine⟨r1,by rw[get _ hne];exact r2,λp so hp hg=>?_⟩
   rcases own p so hp with⟨rfl,rfl⟩ | ⟨_,hq⟩
   ·exact r3 p _ hS ge
   ·exact r3 p so hq hg
 ·refine⟨λi=>?_,hF.u⟩;show VS θ ρ (if i0=i then _ else aP f i) _;by_cases e:i0=i
  ·subst e;rw[un rfl,VS];simp only[un hi,vy]
  ·rw[ut e];have:=hF.v i;by_cases hi2:i<n'
   ·rw[un hi2] at this ⊢;simp only;rw[sj _ _ (λh=>e h.symm)];exact this
   ·rw[ut hi2] at this ⊢;exact this
def G0(a b:Nat):iA a b=min a b:=by
 unfold iA;cases h:ble a b
 ·have:¬a<=b:=λe=>by rw[fj e] at h;cases h
  rw[aw];omega
 ·have:=jy h;rw[ar];omega
def Nt{h h1:H}{id off bQ x y:Nat}{cs xs:List AV}(ho:h.aU.get id=some (.cells cs bQ))(hf:h.dF.get bQ=some (x,y))(hid:id<h.next)(hx:x<h.next)(hy:y<h.next)
 (hs:({ h with low:=h.next }:H).store id off xs=some h1):h.store id off xs=some { h1 with low:=iA h.low h1.low }:=by
 unfold H.store at hs ⊢;simp only[ho] at hs ⊢;cases hc:(ble (off+xs.length) cs.length&&xs.all kq)
 ·rw[hc,aw] at hs;cases hs
 ·rw[hc,ar] at hs;rw[ar];cases hs;unfold H.alone;simp only[hf];cases hb:(beq x id&&beq y id)
  ·simp only[aw,G0,qr,H.mk.injEq,true_and];omega
  ·simp only[ar,G0,qr,H.mk.injEq,true_and];omega
def SC.row{P:Program}{g:FuncId}{args cs cs':List SV}{r0:SV}(hlen:cs'.length=cs.length)(hone:∀(θ:Nat->Loc) (ρ:kG) (xs:List AV),da θ ρ cs' xs->xs.all kq=true)
 (H:∀(E:En) (θ:Nat->Loc) (ρ:kG) (h:H) (avs asx:List AV) (bQ:Nat),E.h={ h with low:=h.next }->RS θ ρ ρ E E.h [.cells cs]->da θ ρ args avs->h.aU.get (θ 0).id=some (.cells asx bQ)->da θ ρ cs asx->
  (∃q:Nat×Nat,h.dF.get bQ=some (q.1,q.2)/\((θ 0).id=q.1\/(θ 0).id=q.2)/\q.1<h.next/\q.2<h.next/\bQ<h.next/\(θ 0).id<h.next)->
  ef P (.func g) avs h (λv h'=>VS θ ρ r0 v/\∃xs,da θ ρ cs' xs/\h.store (θ 0).id 0 xs=some h')):SC P g args [.cells cs] [] (λr S'=>r=r0/\S'=[.cells cs']):=by
 intro E θ ρ h avs hE hR hA;obtain⟨⟨k1,k2,k3,k4⟩,asx,q1,q2,q3⟩:=hR.obj 0 _ rfl ge
 have hidn:(θ 0).id<E.h.next:=by rcases k1 with e | e<;>rw[e];exact k2.2;exact k3.2
 have e1:E.h.aU=h.aU:=by rw[hE]
 have e2:E.h.dF=h.dF:=by rw[hE]
 have e3:E.h.next=h.next:=by rw[hE]
 rw[e1] at q1;rw[e2] at q3;rw[e3] at hidn;have kx:=k2.2;have ky:=k3.2;have kf:=k4.2;rw[e3] at kx ky kf;refine(H E θ ρ h avs asx (θ 0).bQ hE hR hA q1 q2 ⟨((θ 0).x,(θ 0).y),q3,k1,kx,ky,kf,hidn⟩).mono ?_;rintro v h' ⟨hv,xs,hxs,hst⟩;obtain⟨h1,g1,g2,g3⟩:=hR.store (o:=0) (cs:=cs) (vs:=cs') (off:=0) rfl hxs (hone θ ρ xs hxs) ii;rw[hE] at g1;have g4:=Nt q1 q3 hidn kx ky g1;rw[hst] at g4;cases g4;refine⟨r0,[.cells cs'],_,ρ,h1,⟨rfl,rfl⟩,rfl,?_,g3 _ _ hv,aY _,?_⟩
 ·have:(cs.take 0++(cs'++cs.drop (0+cs'.length)))=cs':=by
   rw[b7,hlen,dl,d3,List.take_zero,List.nil_append]
  rw[this] at g2;exact g2
 ·intro i hi _
  have:i=0:=by
   have:i<1:=hi;omega
  subst this;rw[cA]
def Fg.e0{f:Fm}{n:Nat}{S:List SO}{ds:List kr}(i e:Nat)(h:aP f i=.a (.slice none 0 0 (some 0))\/∃o,aP f i=.buf o 0 e (some 0)):Fg ⟨f,n,S,ds⟩ ⟨(i,.e0 e)::f,n,S,ds⟩:=by
 refine⟨rfl,?_⟩;rintro ρ0 h0 ⟨af,n',hh,ds'⟩ ⟨rfl,rfl,θ,ρ,hR,hF⟩;refine⟨rfl,rfl,θ,ρ,hR,λj=>?_,hF.u⟩;show VS θ ρ (if i=j then _ else aP f j) _;by_cases e1:i=j
 ·subst e1;rw[un rfl];have:=hF.v i
  rcases h with h | ⟨o,h⟩
  ·rw[h,VS] at this;rw[VS,this];exact⟨none,0,rfl,λh=>ul rfl h⟩
  ·rw[h,VS] at this;rw[VS,this];exact⟨_,e,rfl,λ_=>rfl⟩
 ·rw[ut e1];exact hF.v j
def Tk(K:Act->World->Prop)(Q:Exit->Act->World->Prop):Exit->Act->World->Prop
 | .normal,a,w=>K a w
 | e,a,w=>Q e a w
def KD{F:Fence}{n:Nat}{P:Program}{o:Oper}{a:Act}{next K:Act->World->Prop}{Q:Exit->Act->World->Prop}(r:Result Next):o.uponIn F n P a next (Tk K Q) r=o.uponIn F n P a next Q r:=by
 unfold Oper.uponIn;split<;>rfl
def Vq(P:Program)(ro:Option Nat)(ol:List Oper)(i:Nat)(st:iJ)(K:iJ->Prop):Prop:=∀(ops:Array Oper),ops.toList=ol->∀(F:Fence) (n:Nat) (σ:Sg) (a:Act) (w:World) (K':Act->World->Prop) (Q:Exit->Act->World->Prop),
 SF σ st a w->Dl σ ro F->(∀st' a' w' σ',K st'->SF σ' st' a' w'->Ext σ σ' st.h st'.h w w'->st'.n=st.n->K' a' w')->wpOpIn F n P ops Q i K' a w
def Vq.of{P:Program}{ro:Option Nat}{ol:List Oper}{i:Nat}{o:Oper}{st:iJ}{K:iJ->Prop}(ho:ol[i]?=some o)(hg:∀j b,o.guard=some (j,b)->j<i)(h:jO P ro (ol.take (i+1)) [o] st K):Vq P ro ol i st K:=by
 intro ops hops F n σ a w K' Q hs hF hk
 have hlt:i<ol.length:=by
  rcases Nat.lt_or_ge i ol.length with h | h
  ·exact h
  ·rw[ba h] at ho;cases ho
 have hdrop:((ol.take (i+1)).toArray.toList).drop i=[o]:=by
  rw[cv,List.drop_take,show i+1-i=1 by omega]
  have:ol.drop i=o::ol.drop (i+1):=by
   rw[b0 hlt];rw[jp hlt] at ho;cases ho;rfl
  rw[this];rfl
 have:=h (ol.take (i+1)).toArray i (cv) hdrop F n σ a w (Tk K' Q) hs hF λst' a' w' σ' h1 h2 h3 h4=>hk st' a' w' σ' h1 h2 h3 h4;rw[show List.range' i [o].length=[i] from rfl,wpOpsIn_cons] at this;unfold wpOpIn at this ⊢
 have ho1:(ol.take (i+1)).toArray[i]?=some o:=by
  rw[ch,c4,un ii];exact ho
 have ho2:ops[i]?=some o:=by rw[<-bi,hops];exact ho
 rw[ho1] at this;rw[ho2];simp only at this ⊢
 have hw:Region.wanted o (yielded ops a.tmps)=Region.wanted o (yielded (ol.take (i+1)).toArray a.tmps):=by
  unfold Region.wanted
  cases hgd:o.guard with
  | none=>rfl
  | some jb=>
   obtain⟨j,b⟩:=jb;simp only;have hj:=hg j b hgd
   have:yielded ops a.tmps j=yielded (ol.take (i+1)).toArray a.tmps j:=by
    unfold yielded;rw[<-bi (xs:=ops),hops,ch,c4,un ii]
   rw[this]
 rw[hw];cases hc:Region.wanted o (yielded (ol.take (i+1)).toArray a.tmps)
 ·rw[hc] at this;simp only[Bool.false_eq_true,if_false] at this ⊢;exact this
 ·rw[hc] at this;simp only[if_true] at this ⊢;unfold Oper.wpIn at this ⊢;refine⟨this.1,?_⟩;have h2:=this.2;rw[KD] at h2;exact h2
def jO.mono{P:Program}{ro:Option Nat}{all l:List Oper}{st:iJ}{K K':iJ->Prop}(h:jO P ro all l st K)(hk:∀x,K x->K' x):jO P ro all l st K':=
 λops i h1 h2 F n σ a w Q hs hF hQ=>h ops i h1 h2 F n σ a w Q hs hF λst' a' w' σ' hK=>hQ st' a' w' σ' (hk _ hK)
def dep(e:Edge):Bool:=Region.binds .any e
def lQ:Nat->List Oper->Bool
 | _,[]=>true
 | i,o::l=>(o.after.toList.all λe=>!(dep e)||blt e.on i)&&lQ (i+1) l
def pM:∀{l:List Oper} {k i:Nat} {o:Oper},lQ k l=true->l[i]?=some o->∀e∈o.after.toList,dep e=true->e.on<k+i
 | [],_,_,_,_,h=>by simp at h
 | x::l,k,0,o,hb,h=>by
  simp only[a6,qr] at h;subst h;intro e he hd;rw[lQ,aa,all_eq_true] at hb;have:=hb.1 e he;rw[hd,Bool.not_true,Bool.false_or] at this;exact gp this
 | x::l,k,i+1,o,hb,h=>by
  simp only[ay] at h;rw[lQ,aa] at hb;intro e he hd;have:=pM hb.2 h e he hd;omega
structure Vr (ol:List Oper) (L:Nat->Prop) (i:Nat) (o:Oper):Prop where
 gX:ol[i]?=some o
 new:¬L i
 dep:∀e∈o.after.toList,Ev.dep e=true->L e.on
def mh.any{P:Program}{ro:Option Nat}{id:Nat}{ops:Array Oper}{st:iJ}{Q:Ex->iJ->Prop}{ol:List Oper}(hol:ops.toList=ol)(hok:(lQ 0 ol&&P.follows .mixedOrders)=true)(J:(Nat->Prop)->iJ->Prop)(h0:J (λ_=>False) st)(hn:∀L x,J L x->x.n=st.n)
 (hstep:∀L x i o,J L x->Vr ol L i o->Vq P ro ol i x (J λj=>L j\/j=i)) (hend:∀L x,J L x->(∀i,i<ol.length->L i)->Q .normal x):mh P ro (.region id ops true) st Q:=by
 rw[aa] at hok;obtain⟨hback,hmix⟩:=hok
 have hsz:ops.size=ol.length:=by rw[<-hol];simp
 intro F nn σ0 a0 w0 hs0 hF0;refine wpIn_region_draw λt=>?_;simp only[Region.schedule,hmix,Bool.true_or,if_true];have hE2:Ext σ0 σ0 st.h st.h w0 { w0 with drawn:=w0.drawn+1 }:=Ext.of_eq rfl rfl rfl rfl;refine wpAnyIn_sound ops.size t _ a0 _ ?_
 have key:∀(fuel:Nat) (listed:Array Bool) (x:iJ) (σ:Sg) (a:Act) (w:World),listed.size=ops.size->left listed ops.size<=fuel->J (λj=>listed.getD j false=true) x->SF σ x a w->Dl σ ro F->Ext σ0 σ st.h x.h w0 w->
  wpAnyIn F nn P .any ops (Ca σ0 st.h w0 st.n Q) fuel listed a w:=by
  intro fuel
  have hdone:∀(listed:Array Bool) (x:iJ) (σ:Sg) (a:Act) (w:World),listed.size=ops.size->J (λj=>listed.getD j false=true) x->SF σ x a w->Ext σ0 σ st.h x.h w0 w->Region.ready .any ops listed=[]->Ca σ0 st.h w0 st.n Q .normal a w:=by
   intro listed x σ a w hls hJ hs hE hr
   have hall:∀i,i<ol.length->listed.getD i false=true:=by
    intro i
    induction i using Nat.strongRecOn with
    | _ i ih=>
     intro hi;cases hb:listed.getD i false
     ·exfalso
      have hi':i<ops.size:=by omega
      have hoi:ops[i]?=some ops[i]:=ap hi'
      have hoi':ol[i]?=some ops[i]:=by rw[<-hol,bi];exact hoi
      have hm:i∈Region.ready .any ops listed:=by
       refine mem_ready.2 ⟨?_,ops[i],hoi,λe he hbind=>?_⟩
       ·rw[ac] at hb ⊢;rw[ap ii] at hb ⊢;exact hb
       ·have hlt:=pM hback hoi' e (by simpa using he) hbind;rw[b7] at hlt;exact ih e.on hlt ii
      rw[hr] at hm;simp at hm
     ·rfl
   exact⟨.normal,x,hend _ x hJ hall,rfl,σ,hs,hE,hn _ x hJ⟩
  induction fuel with
  | zero=>
   intro listed x σ a w hls hle hJ hs hF hE
   have hr:Region.ready .any ops listed=[]:=by
    cases hr:Region.ready .any ops listed with
    | nil=>rfl
    | cons i rs=>
     exfalso
     have hm:i∈Region.ready .any ops listed:=by rw[hr];exact am ..
     obtain⟨h1,o,h2,_⟩:=mem_ready.1 hm;have hi:i<ops.size:=(Array.getElem?_eq_some_iff.1 h2).1
     have:i∈(bv ops.size).filter λi=>!listed.getD i false:=by
      refine mem_filter.2 ⟨mem_range.2 hi,?_⟩;rw[ac,ap ii] at h1 ⊢;simp only[Option.getD_some] at h1 ⊢;rw[h1];rfl
     have h0:((bv ops.size).filter λi=>!listed.getD i false).length=0:=by unfold left at hle;omega
     rw[t7 h0] at this;simp at this
   exact⟨hr,hdone listed x σ a w hls hJ hs hE hr⟩
  | succ fuel ih=>
   intro listed x σ a w hls hle hJ hs hF hE;refine⟨hdone listed x σ a w hls hJ hs hE,λi hi=>?_⟩;obtain⟨h1,o,h2,h3⟩:=mem_ready.1 hi;have hlt:i<ops.size:=(Array.getElem?_eq_some_iff.1 h2).1
   have hfalse:listed.getD i false=false:=by
    rw[ac,ap ii] at h1 ⊢;exact h1
   have hrd:Vr ol (λj=>listed.getD j false=true) i o:=⟨by rw[<-hol,bi];exact h2,by rw[hfalse];simp,λe he hb=>h3 e (by simpa using he) hb⟩;refine hstep _ x i o hJ hrd ops hol F nn σ a w _ _ hs hF ?_;intro x' a' w' σ' hJ' hs' hE' hn';refine ih _ x' σ' a' w' (by simpa using hls) ?_ ?_ hs' (hF.mono hE'.le) (hE.trans hE')
   ·have:left (listed.setIfInBounds i true) ops.size<left listed ops.size:=by
     unfold left;refine filter_lt _ ?_ ⟨i,mem_range.2 hlt,by rw[hfalse];rfl,?_⟩
     ·intro y _ hy;by_cases e:i=y
      ·subst e;rw[ac,bh,un rfl,un ii] at hy;simp at hy
      ·rw[getD_set_ne false e] at hy;exact hy
     ·rw[ac,bh,un rfl,un ii];rfl
    omega
   ·have:(λj=>(listed.setIfInBounds i true).getD j false=true)=λj=>listed.getD j false=true\/j=i:=by
     funext j;refine propext ⟨λh=>?_,λh=>?_⟩
     ·by_cases e:i=j
      ·exact .inr e.symm
      ·rw[getD_set_ne false e] at h;exact .inl h
     ·rcases h with h | rfl
      ·exact getD_set_true h
      ·rw[ac,bh,un rfl,un ii];rfl
    rw[this];exact hJ'
 have hrep:∀j,(b8 ops.size false).getD j false=false:=by
  intro j;rw[ac,Array.getElem?_replicate];split<;>rfl
 refine key ops.size _ st σ0 a0 _ gc ?_ ?_ ⟨hs0.t,hs0.h.congr rfl,hs0.ds⟩ hF0 hE2
 ·unfold left;exact bc (List.length_filter_le _ _) gc
 ·have hS:(λj=>(b8 ops.size false).getD j false=true)=λ_=>False:=by
   funext j;rw[hrep];simp
  rw[hS];exact h0
def aE.any{P:Program}{ro:Option Nat}{id:Nat}{ops:Array Oper}{st:eR}{Q:Ex->eR->Prop}{ol:List Oper}(hol:ops.toList=ol)(hok:(lQ 0 ol&&P.follows .mixedOrders)=true) (hgd:(ol.all λo=>match o.guard with
 | none=>true
 | some _=>false)=true\/∀(i:Nat) (o:Oper),ol[i]?=some o->∀(j:Nat) (b:Bool),o.guard=some (j,b)->j<i) (J:(Nat->Prop)->eR->Prop) (h0:J (λ_=>False) st) (hn:∀L x,J L x->x.n=st.n)
 (hstep:∀L x i o,J L x->Vr ol L i o->aR P ro (ol.take (i+1)) [o] x (J λj=>L j\/j=i)) (hend:∀L x,J L x->(∀i,i<ol.length->L i)->Q .normal x):aE P ro (.region id ops true) st Q:=by
 intro ρ0 h0' ast hs;refine mh.any hol hok (λL ast'=>∃x,J L x/\jQ ρ0 h0' x ast') ⟨st,h0,hs⟩ ?_ ?_ ?_
 ·rintro L ast' ⟨x,hJ,hx⟩;rw[hx.1,hn L x hJ,hs.1]
 ·rintro L ast' i o ⟨x,hJ,hx⟩ hr;refine Vq.of hr.gX ?_ ?_
  ·intro j b hg
   rcases hgd with hgd | hgd
   ·have:=all_eq_true.1 hgd o (co hr.gX);rw[hg] at this;cases this
   ·exact hgd i o hr.gX j b hg
  ·have:=hstep L x i o hJ hr ρ0 h0' ast' hx;refine this.mono ?_;rintro a' ⟨x',k1,k2,k3⟩;exact⟨x',k1,k3⟩
 ·rintro L ast' ⟨x,hJ,hx⟩ hall;exact⟨x,hend L x hJ hall,hn L x hJ,hx⟩
section
variable {P:Program} {ro:Option Nat} {all l:List Oper} {f:Fm} {n:Nat} {S:List SO} {ds:List kr} {K:eR->Prop}
def aR.fg{st st':eR}(hf:Fg st st')(h:aR P ro all l st' K):aR P ro all l st K:=by
 intro ρ0 h0 ast hs;refine jO.mono (h ρ0 h0 ast (hf.2 ρ0 h0 ast hs)) ?_;rintro a ⟨x,k1,k2,k3⟩;exact⟨x,k1,k2.trans hf.1,k3⟩
def Fg.tmps{f':Fm}(hf:∀i,aP f' i=aP f i\/aP f' i=.any):Fg ⟨f,n,S,ds⟩ ⟨f',n,S,ds⟩:=by
 refine⟨rfl,?_⟩;rintro ρ0 h0 ⟨af,n',hh,ds'⟩ ⟨rfl,rfl,θ,ρ,hR,hF⟩;refine⟨rfl,rfl,θ,ρ,hR,λi=>?_,hF.u⟩
 rcases hf i with e | e
 ·rw[e];exact hF.v i
 ·rw[e,VS];trivial
end
def Ds(P:Program)(g:FuncId):Prop:=∀(w:World) (a b:Addr) (la ca lb cb:Nat) (tA tB:TypeId) (kA kB:Nat),a.block≠b.block->w.shape? a.block=some (tA,kA)->w.shape? b.block=some (tB,kB)->kB≠0->w.frozen? a=false->w.frozen? { block:=a.block,off:=kA }=false->
 (callFunc g #[.slice (some a) la ca,.slice (some b) lb cb]).run P w=.ok (.value (.bool false)) w
def Cq{w:World}{b o:Nat}{c:Array Value}{e:TypeId}(h:w.heap[b]?=some (.cells c e (0,0))):w.frozen? { block:=b,off:=o }=false:=by
 unfold World.frozen?;simp only[h];simp
def Nf{P:Program}{g:FuncId}(hg:Ds P g){i1 o1 n1 e1 k1 i2 o2 n2 e2 k2 f1 f2:Nat}{cs1 cs2:List AV}{h:H}(hi:i1≠i2)(h1:h.aU.get i1=some (.cells cs1 f1))(h2:h.aU.get i2=some (.cells cs2 f2))(hf:f1≠f2)(hk1:0<k1)(hk2:0<k2)(he:0<cs2.length):
 ef P (.func g) [.slice (some (i1,o1)) n1 e1 (some k1),.slice (some (i2,o2)) n2 e2 (some k2)] h (λa h'=>a=.bool false/\h'=h):=by
 intro σ w args' hv hr;obtain⟨v1,v2,rfl,q1,q2⟩:=FP hv;obtain⟨p1,c1,t1,hp1,hb1,hz1,hl1,_⟩:=hr.cells h1;obtain⟨p2,c2,t2,hp2,hb2,hz2,hl2,_⟩:=hr.cells h2
 cases q1 with
 | @slice _ _ _ _ _ a1 p1' x1 hs1 hle1 hr1 hc1 ha1=>
 cases q2 with
 | @slice _ _ _ _ _ a2 p2' x2 hs2 hle2 hr2 hc2 ha2=>
 rw[hp1] at hs1;cases hs1;rw[hp2] at hs2;cases hs2;have hx1:=hc1 k1 rfl;subst hx1;have hx2:=hc2 k2 rfl;subst hx2;have ha1:=ha1.resolve_right ii;have ha2:=ha2.resolve_right ii;subst ha1;subst ha2
 have hne:p1.b≠p2.b:=by
  intro e
  rcases hr.sep i1 i2 _ _ p1 p2 hi h1 h2 hp1 hp2 e with⟨_,_,f,e3,e4⟩ | ⟨_,_,e3,e4⟩
  ·cases e3;cases e4;exact hf rfl
  ·cases e3
 have hrun:=hg w ⟨p1.b,p1.d+o1,none⟩ ⟨p2.b,p2.d+o2,none⟩ n1 k1 n2 k2 t1 t2 c1.size c2.size hne (by unfold World.shape?;simp only[hb1]) (by unfold World.shape?;simp only[hb2]) ii (Cq hb1) (Cq hb1);rw[hrun];exact⟨.bool false,h,⟨rfl,rfl⟩,σ,.bool false,hr,.refl _ _ _⟩
def Sq:SV->Option (Nat×Nat×Nat×Nat×Nat)
 | .buf o n e (some k)=>some (o,0,n,e,k)
 | .sub o off n e (some k)=>some (o,off,n,e,k)
 | _=>none
def aR.Xc{P:Program}{ro:Option Nat}{all:List Oper}{o:Oper}{l:List Oper}{f:Fm}{n:Nat}{S:List SO}{ds:List kr}{K:eR->Prop}{d:Nat}{c:Call}{g:FuncId}{v1 v2:SV}{a1 b1 n1 e1 k1 a2 b2 n2 e2 k2:Nat}{cs1 cs2:List SV}(hg:Ds P g)(hst:eP all n [o]=true)(hop:o.op=.call c)(hdst:o.dst=some d)(hw:cV all f o.guard=some true)(hdy:gi (.call c)=true)
 (hc:ja P f c=some (g,[v1,v2])) (hv1:Sq v1=some (a1,b1,n1,e1,k1)) (hv2:Sq v2=some (a2,b2,n2,e2,k2)) (hS1:S[a1]?=some (.cells cs1)) (hS2:S[a2]?=some (.cells cs2)) (hne:a1≠a2) (hk1:0<k1) (hk2:0<k2) (he:0<cs2.length)
 (hk:aR P ro all l ⟨(d,.a (.bool false))::f,n,S,ds⟩ K):aR P ro all (o::l) ⟨f,n,S,ds⟩ K:=by
 rintro ρ0 h0 ⟨af,n',h,ds'⟩ ⟨rfl,rfl,θ,ρ,hR,hF⟩
 have hd:blt d n'=true:=by
  have:=(fW hst).1;rw[hdst] at this;exact this
 obtain⟨xs,cap,h1,h2⟩:=yZ hF hc;obtain⟨L1,as1,q1,q2,q3⟩:=hR.obj a1 _ hS1 ge;obtain⟨L2,as2,r1,r2,r3⟩:=hR.obj a2 _ hS2 ge;have sp:=hR.sep a1 a2 _ _ hne hS1 ge hS2 ge
 have hid:(θ a1).id≠(θ a2).id:=by
  rcases L1.e with e | e<;>rcases L2.e with e' | e'<;>rw[e,e']
  ·exact sp.xx
  ·exact sp.xy
  ·exact sp.yx
  ·exact sp.yy
 rw[aM] at h2;obtain⟨x1,rr,hxs,w1,h3⟩:=h2;rw[aM] at h3;obtain⟨x2,r',rfl,w2,h4⟩:=h3;rw[bj] at h4;subst h4
 have own:∀{v:SV} {a b m e k:Nat} {x:AV},Sq v=some (a,b,m,e,k)->VS θ ρ v x->x=.slice (some ((θ a).id,b)) m e (some k):=by
  intro v a b m e k x hv hx;unfold Sq at hv;split at hv
  ·cases hv;rw[VS] at hx;exact hx
  ·cases hv;rw[VS] at hx;exact hx
  ·cases hv
 have e1:=own hv1 w1;have e2:=own hv2 w2;subst e1;subst e2;refine .c hop hdst (dr hF (fi hst hw)) hdy hd h1 hxs (Nf hg hid q1 r1 sp.f hk1 hk2 (by rw[r2.length];exact he)) ?_;rintro v h' ⟨rfl,rfl⟩;exact hk ρ0 h0 _ ⟨rfl,rfl,θ,ρ,hR,hF.put (gp hd) (by rw[VS])⟩
section
variable {θ θ':Nat->Loc} {ρ ρ0 ρ':kG} {P:Program} {h0:En} {h h1:H} {S S' S0:List SO}
def GU(B:Nat)(f:Fm):Bool:=f.all λp=>blt p.1 B
def Ax{B:Nat}:∀{f:Fm},GU B f=true->∀{i:Nat},B<=i->aP f i=.any
 | [],_,i,_=>rfl
 | (d,v)::f,h,i,hi=>by
  unfold GU at h;rw[c6,aa] at h;have h1:=gp h.1;show(if d=i then v else aP f i)=.any;rw[ut (by simp only at h1;omega)];exact Ax h.2 hi
def ON{d:kr}{ds:List kr}{j:Nat}(h:j<ds.length):UD (d::ds) j=UD ds j:=by
 unfold UD;rw[dc,List.getElem?_append_left (by simpa using h)]
def Ru{d:kr}{ds:List kr}{f:Fn}(h:d.fn=some f):UD (d::ds) ds.length=.fn f d.args d.cap:=by
 unfold UD;rw[dc,bw gc,List.length_reverse,dd];simp[h]
def yJ(w:Nat->AV)(ds:List kr){i:Nat}(h:i<7000000):IC w ds i=w i:=by
 cases ds with
 | nil=>rfl
 | cons d ds=>rw[IC,ut ii]
def QX(B:Nat):Fm->Fm
 | []=>[]
 | (d,v)::f=>(d+B,v)::QX B f
def zf(B:Nat):Fm->Fm
 | []=>[]
 | (d,v)::f=>if B<=d then (d-B,v)::zf B f else zf B f
def uc{B:Nat}:∀(f:Fm) (i:Nat),aP (QX B f) i=if B<=i then aP f (i-B) else .any
 | [],i=>by split<;>rfl
 | (d,v)::f,i=>by
  show(if d+B=i then v else aP (QX B f) i)=if B<=i then (if d=i-B then v else aP f (i-B)) else .any
  rw[uc f i];by_cases h:B<=i
  ·rw[un h,un h];by_cases e:d+B=i
   ·rw[un e,un ii]
   ·rw[ut e,ut ii]
  ·rw[ut h,ut h,ut ii]
def ub{B:Nat}:∀(f:Fm) (i:Nat),aP (zf B f) i=aP f (B+i)
 | [],i=>rfl
 | (d,v)::f,i=>by
  show aP (if B<=d then (d-B,v)::zf B f else zf B f) i=if d=B+i then v else aP f (B+i)
  by_cases h:B<=d
  ·rw[un h];show(if d-B=i then v else aP (zf B f) i)=_;rw[ub f i];by_cases e:d=B+i
   ·rw[un e,un ii]
   ·rw[ut e,ut ii]
  ·rw[ut h,ub f i,ut ii]
def DU{B:Nat}{f g:Fm}(hl:GU B f=true){i:Nat}(hi:B<=i):aP (f++g) i=aP g i:=
 ua f g i λv hm=>by
  unfold GU at hl;rw[all_eq_true] at hl;have:=gp (hl _ hm);simp only at this;omega
def DT{f g:Fm}{i:Nat}(hg:aP g i=.any):aP (f++g) i=aP f i:=by
 induction f with
 | nil=>exact hg
 | cons p f ih=>
  obtain⟨d,v⟩:=p
  show(if d=i then v else aP (f++g) i)=if d=i then v else aP f i
  rw[ih]
def Hg:List Tmp->List SV->Fm->Fm
 | k::ks,v::vs,f=>Hg ks vs ((k,v)::f)
 | _,_,f=>f
def LD{n:Nat}:∀{ks:List Tmp} {vs:List SV} {f:Fm},ks.all (λk=>blt k n)=true->∀{i:Nat},n<=i->aP (Hg ks vs f) i=aP f i
 | [],_,_,_,_,_=>by rw[Hg];intros;contradiction
 | k::ks,[],_,_,_,_=>by rw[Hg];intros;contradiction
 | k::ks,v::vs,f,h,i,hi=>by
  rw[c6,aa] at h;have:=gp h.1;rw[Hg,LD h.2 hi];show(if k=i then v else aP f i)=_;rw[ut (λe:k=i=>ul (e▸this:i<n) (Nat.not_lt.2 hi))]
def u7{n:Nat}:∀{ks:List Tmp} {vs:List SV} {aS:List AV} {f:Fm} {t:Tr AV},ks.length=vs.length->da θ ρ vs aS->ks.all (λk=>blt k n)=true->(∀i,i<n->VS θ ρ (aP f i) (Nu t i))->
 ∃t1,jL (ks.zip aS) n t=some t1/\∀i,i<n->VS θ ρ (aP (Hg ks vs f) i) (Nu t1 i)
 | [],[],aS,f,t,_,hv,_,hf=>by
  rw[bj] at hv;subst hv;exact⟨t,rfl,hf⟩
 | k::ks,v::vs,aS,f,t,hl,hv,hk,hf=>by
  rw[aM] at hv;obtain⟨a,r,rfl,h1,h2⟩:=hv;rw[c6,aa] at hk
  have ih:=u7 (f:=(k,v)::f) (t:=t.put k (some a)) (by simpa using hl) h2 hk.2 (by
   intro i hi;show VS θ ρ (if k=i then v else aP f i) (Nu _ i);unfold Nu;rw[dB];by_cases e:i=k
   ·subst e;rw[un rfl,un rfl];exact h1
   ·rw[ut (λh=>e h.symm),ut e];exact hf i hi)
  obtain⟨t1,g1,g2⟩:=ih;refine⟨t1,?_,g2⟩;rw[List.zip_cons_cons,jL,hk.1,ar];exact g1
def RS.yw{o:Nat}{c:jP}{ls:LoopState}{p:Option Code}{f:Fm}(hR:RS θ ρ0 ρ h0 h S)(hS:S[o]?=some (.loop c ls p f)):
 h.qh c.id=some (ls,p,c.t,c.n,c.ps,c.a,c.b,c.d)/\(∀i,i<c.n->VS θ ρ (aP f i) (Nu c.t i))/\∀ls2 p2,RS θ ρ0 ρ h0 (h.set c.id (.loop ls2 p2 c.t c.n c.ps c.a c.b c.d)) (S.set o (.loop c ls2 p2 f)):=by
 obtain⟨hL,hid,h1,h2⟩:=hR.obj o _ hS ge;refine⟨by unfold H.qh;rw[<-hid,h1],h2,λls2 p2=>?_⟩
 have hidr:¬h0.pr c.id:=by
  rw[<-hid]
  rcases hL.e with e | e<;>rw[e]
  ·exact hL.x.1
  ·exact hL.y.1
 have hidn:c.id<h.next:=by
  rw[<-hid]
  rcases hL.e with e | e<;>rw[e]
  ·exact hL.x.2
  ·exact hL.y.2
 have hg:∀v x,VS θ ρ v x->VS (gY θ o (θ o)) ρ v x:=λv x hv=>hv.ids λp=>by
  by_cases hp:p=o
  ·subst hp;rw[cA]
  ·rw[bU _ _ hp]
 have heq:gY θ o (θ o)=θ:=by
  funext p;by_cases hp:p=o
  ·subst hp;rw[cA]
  ·rw[bU _ _ hp]
 have get:∀j,j≠c.id->(h.set c.id (.loop ls2 p2 c.t c.n c.ps c.a c.b c.d)).aU.get j=h.aU.get j:=λj hj=>bq _ _ hj
 have:=hR.Br (h':=h.set c.id (.loop ls2 p2 c.t c.n c.ps c.a c.b c.d)) (S':=S.set o (.loop c ls2 p2 f)) (o:=o) (so':=.loop c ls2 p2 f) (L':=θ o) (g:=λv=>v) (aY _) (λj hj=>get j (λe=>hidr (e▸hj))) (λ_ _=>rfl)
  (nU hR.lw (hR.ok.lo _ hidr)) (bc (dR _ _).1 hR.ln) hL hg
  (λp so hp h3 h4=>by
   have sp:=hR.sep p o so _ hp h3 h4 hS ge;obtain⟨k,_⟩:=hR.obj p so h3 h4;refine⟨get _ ?_,rfl,sp⟩;rw[<-hid]
   rcases k.e with e1 | e1<;>rcases hL.e with e2 | e2<;>rw[e1,e2]
   ·exact sp.xx
   ·exact sp.xy
   ·exact sp.yx
   ·exact sp.yy)
  (λid ob hi=>by
   obtain⟨r1,r2,r3⟩:=hR.row id ob hi;have:=r3 o _ hS ge;refine⟨get _ ?_,this⟩;rw[<-hid]
   rcases hL.e with e | e<;>rw[e]
   ·exact this.1
   ·exact this.2)
  (by
   rw[heq];refine⟨hid,?_,h2⟩;rw[hid]
   exact c7 _ _ _)
  (λp hp=>by
   rw[a7 (λh=>hp h.symm)]
   cases S[p]? with
   | none=>rfl
   | some s=>rw[m6];exact rc some (uA s).symm)
  (by rw[aJ (bx hS)])
 rw[heq] at this;exact this
end
section
variable {θ θ':Nat->Loc} {ρ ρ0 ρ':kG} {P:Program} {h0:En} {h h1:H} {S S' S0:List SO}
abbrev laid:Nat:=20000000
theorem aR.y{ro:Option Nat}{all:List Oper}{o:Oper}{l:List Oper}{K:eR->Prop}{f f1:Fm}{n d oo:Nat}{ds:List kr}{cl:Call}{x:Operand}{vs:List SV}{c:jP}{pend:Option Code}(hst:eP all n [o]=true)(hop:o.op=.call cl)(hdst:o.dst=some d)(hw:cV all f o.guard=some true)(hdy:gi (.call cl)=true)
 (hcal:cl.callee=.value x) (hx:gf f x=some (.a (.fn (.yield c.id) [] []))) (hargs:qt f cl.args.toList=some vs) (hS:S[oo]?=some (.loop c .ready pend f1)) (hps:c.ps.toList.length=vs.length) (hlow:GU c.n f1=true) (hn1:c.n<=1000000) (hpar:c.ps.toList.all (λk=>blt k c.n)=true)
 (hbody:∀ro',aE P ro' c.a ⟨Hg c.ps.toList vs (f1++QX laid f),c.n,S,[]⟩ λex st=>ex=.normal/\∃oo2 pend2 f2,st.S[oo2]?=some (.loop c .ready pend2 f2)/\
  aE P ro' c.b ⟨st.f,c.n,st.S.set oo2 (.loop c .busy pend2 f2),st.ds⟩ λex st=>st.ds=[]/\∃oo3 ls p3 f3,st.S[oo3]?=some (.loop c ls p3 f3)/\
   aR P ro all l ⟨(d,.a (.bool (zk ex)))::zf laid st.f,n,st.S.set oo3 (.loop c (Bx ex) (Bw ex) f3),ds⟩ K):aR P ro all (o::l) ⟨f,n,S,ds⟩ K:=by
 rintro ρ0 h0 ⟨af,n',h,ds'⟩ ⟨rfl,rfl,θ,ρ,hR,hF⟩
 have hd:blt d n'=true:=by
  have:=(fW hst).1;rw[hdst] at this;exact this
 obtain⟨a,ha,ka⟩:=bL hF hx;rw[VS] at ka;subst ka;obtain⟨aS,hs,ks⟩:=mD hF hargs
 have hcall:pQ P (eB af n') cl=some (.yield c.id,aS,[]):=by
  unfold pQ;rw[hcal];simp only;rw[show ev (eB af n') x=_ from ha];simp only;rw[show Bz (eB af n') cl.args.toList=_ from hs];rfl
 obtain⟨hlo,hfr,_⟩:=hR.yw hS
 obtain⟨t1,hp1,hp2⟩:=u7 (n:=c.n) (f:=f1++QX laid f) hps ks hpar (λi hi=>by
  rw[DT (by rw[uc,ut (by unfold laid;omega)])];exact hfr i hi)
 obtain⟨w',hw'⟩:∃w':Nat->AV,w'=λi=>if laid<=i then (if i-laid<n' then af (i-laid) else IC h0.w ds' (i-laid)) else mg:=⟨_,rfl⟩
 have hst1:jQ ρ0 { h0 with w:=w' } ⟨Hg c.ps.toList vs (f1++QX laid f),c.n,S,[]⟩ ⟨Nu t1,c.n,h,[]⟩:=by
  refine⟨rfl,rfl,θ,ρ,hR.w _,λi=>?_,λi hi=>?_⟩
  ·simp only;by_cases hi:i<c.n
   ·rw[un hi];exact hp2 i hi
   ·have hge:c.n<=i:=aj hi;rw[ut hi,LD hpar hge,DU hlow hge,uc];show VS θ ρ _ (w' i);by_cases hb:laid<=i
    ·rw[un hb,hw'];simp only;rw[un hb];exact hF.v (i-laid)
    ·rw[ut hb,VS];trivial
  ·show w' i=mg;rw[hw'];simp only;rw[ut (by unfold laid;omega)]
 have hlen:=ks.length;refine jO.c hop hdst (dr hF (fi hst hw)) hdy hd hcall (d3 _) (Q:=λv h'=>∃(bb:Bool) (f':Fm) (S':List SO),v=.bool bb/\aR P ro all l ⟨(d,.a (.bool bb))::f',n',S',ds'⟩ K/\∃θ' ρ',RS θ' ρ0 ρ' h0 h' S'/\FR θ' ρ' (aP f') af n' (IC h0.w ds')) ?_ ?_
 ·refine ef.yield hlo (by rw[hps,hlen]) hp1 (f1:=Nu t1) (λ_ _=>rfl) ?_;refine(hbody (some c.id) ρ0 _ _ hst1).mono ?_;rintro ex ⟨af2,n2,h2,ds2⟩ ⟨st,⟨rfl,oo2,pend2,f2,hS2,hb⟩,hn2,e1,e2,θ2,ρ2,hR2,hF2⟩;simp only at e1 e2 hR2 hF2 hn2;obtain⟨hlo2,_,hset2⟩:=hR2.yw hS2;refine⟨rfl,pend2,c.t,c.n,c.ps,c.a,c.b,c.d,hlo2,?_⟩;have hn3:n2=c.n:=e1.trans hn2;subst hn3;have hb2:=hb ρ0 { h0 with w:=w' } ⟨af2,c.n,h2.set c.id (.loop .busy pend2 c.t c.n c.ps c.a c.b c.d),ds2⟩ ⟨rfl,e2,θ2,ρ2,hset2 _ _,by rw[<-e1] at hF2;exact hF2⟩;refine hb2.mono ?_;rintro ex3 ⟨af3,n3,h3,ds3⟩ ⟨st3,⟨hds3,oo3,ls,p3,f3,hS3,hK⟩,hn3,e3,e4,θ3,ρ3,hR3,hF3⟩;simp only at e3 e4 hR3 hF3 hn3;rw[hds3] at e4;subst e4;obtain⟨hlo3,_,hset3⟩:=hR3.yw hS3;refine⟨rfl,ls,p3,c.t,c.n,c.ps,c.a,c.b,c.d,hlo3,zk ex3,zf laid st3.f,_,rfl,hK,θ3,ρ3,(hset3 _ _).w h0.w,λi=>?_,hF.u⟩;rw[ub];have:=hF3.v (laid+i);rw[ut (by rw[hn3];unfold laid;omega)] at this
  have e5:IC w' [] (laid+i)=if i<n' then af i else IC h0.w ds' i:=by
   show w' (laid+i)=_;rw[hw'];simp only;rw[un ii,ax]
  rw[e5] at this;exact this
 ·rintro v h' ⟨bb,f',S',rfl,hK,θ',ρ',hR',hF'⟩;exact hK ρ0 h0 _ ⟨rfl,rfl,θ',ρ',hR',hF'.put (gp hd) (by rw[VS])⟩
def RS.RV{so:SO}{ob:AO}(hR:RS θ ρ0 ρ h0 h S)(hob:nH (gY θ S.length ⟨h.next,h.next,h.next,h.next⟩) ρ { h with aU:=h.aU.put h.next (some ob),next:=h.next+1 } ⟨h.next,h.next,h.next,h.next⟩ (cI S.length so)):
 RS (gY θ S.length ⟨h.next,h.next,h.next,h.next⟩) ρ0 ρ h0 { h with aU:=h.aU.put h.next (some ob),next:=h.next+1 } (gy S so):=by
 have hpr:∀j,h0.pr j->j<h.next:=λj hj=>a9 (hR.ok.pr j hj) hR.nx;have hpf:∀j,h0.pf j->j<h.next:=λj hj=>a9 (hR.ok.pf j hj) hR.nx;have hobj:∀j,j<h.next->(h.aU.put h.next (some ob)).get j=h.aU.get j:=λj hj=>bq _ _ ii;refine hR.Br (g:=bf S.length) (so':=cI S.length so) (by show h.next<=h.next+1;omega) (λj hj=>hobj j (hpr j hj)) (λ_ _=>rfl) hR.lw (c5 hR.ln) ⟨.inl rfl,⟨λhj=>cM _ (hpr _ hj),bt _⟩,⟨λhj=>cM _ (hpr _ hj),bt _⟩,⟨λhj=>cM _ (hpf _ hj),bt _⟩⟩ (λv x hv=>jj (λp hp=>bU _ _ hp) hv) ?_ ?_ hob ?_ ?_
 ·intro p s hp hs hsg;obtain⟨⟨k1,k2,k3,k4⟩,_⟩:=hR.obj p s hs hsg;refine⟨hobj _ (by rcases k1 with e | e<;>omega),rfl,⟨?_,?_,?_,?_,?_⟩⟩<;>(simp only;omega)
 ·intro id ob' hi;have:=(hR.row id ob' hi).1;exact⟨hobj id this,by simp only;omega,by simp only;omega⟩
 ·intro p hp;unfold gy
  have hl:(eC S.length S).length=S.length:=by unfold eC;rw[a8]
  rw[cn];split
  ·exact rU _ _ _
  ·rename_i hlt;rw[hl] at hlt ⊢;have:S[p]?=none:=ba ii;rw[this,ba (by simp;omega)];rfl
 ·unfold gy
  have hl:(eC S.length S).length=S.length:=by unfold eC;rw[a8]
  rw[bw ii,hl,dd];rfl
def UL(P:Program)(g:FuncId)(vs:List SV)(S:List SO)(K:List SO->Prop):Prop:=∃(os:List Nat) (ws:List SV) (S0:List SO) (mv:List Nat) (Q:SV->List SO->Prop),SC P g ws S0 mv Q/\nr (km os S.length) ws=vs/\os.length=S0.length/\os.Nodup/\
 (∀(i:Nat) so,S0[i]?=some so->∃o,os[i]?=some o/\S[o]?=some (qo (km os S.length) so))/\∀r S',Q r S'->vK S'.length S'=true/\K (dP S os mv S')
def PA(S:List SO)(so:SO):(gy S so).length=S.length+1:=by unfold gy eC;simp
def Jj(o:Nat)(v:SV):bf o (bf o v)=bf o v:=by
 unfold bf;cases h:names o v
 ·simp[h]
 ·simp[names]
def aE.uL(hng:tG P){g:Operand}{ps:Array Tmp}{assign body:Code}{f f1:Fm}{n:Nat}{ds:List kr}{Q:Ex->eR->Prop}{fid:FuncId}{fn':Func}{first cap:List SV}(hg:gf f g=some (.fn fid first cap))(hfn:P.funcs[fid]?=some fn')(hb:fn'.body.isSome=true)
 (hf1:vE (eU (S.length+1) (eU S.length f)) f1)
 (hk:∀(N:Nat) (c:jP),c.id=N+1->c.n=n->c.ps=ps->c.a=assign->c.b=body->UL P fid ((first++[SV.a (.fn (.yield (N+1)) [] [])]++cap).map λv=>bf (S.length+1) (bf S.length v)) (gy (gy S (.nd N)) (.loop c .ready none f1)) λS2=>∃oo ls p f2,S2[oo]?=some (.loop c ls p f2)/\ls≠.busy/\GU n f2=true/\
  match p with
  | none=>Q .normal ⟨f2,n,S2.set oo .gone,{ fn:=none,FU:=N,args:=[],cap:=[] }::ds⟩
  | some cd=>aE P none cd ⟨f2,n,S2.set oo .gone,{ fn:=none,FU:=N,args:=[],cap:=[] }::ds⟩ Q):aE P none (.rangeFunc g ps assign body) ⟨f,n,S,ds⟩ Q:=by
 rintro ρ0 h0 ⟨af,n',⟨O,F,N,lw⟩,ds'⟩ ⟨rfl,rfl,θ,ρ,hR,hF⟩;obtain⟨gv,hgv,kgv⟩:=bL hF hg;rw[VS] at kgv;obtain⟨xs,ys,rfl,kx,ky⟩:=kgv;simp only at hR hF;obtain⟨c,hc⟩:∃c:jP,c=⟨N+1,eB af n',n',ps,assign,body,N⟩:=⟨_,rfl⟩;have hkc:=hk N c (by rw[hc]) (by rw[hc]) (by rw[hc]) (by rw[hc]) (by rw[hc]);obtain⟨os,ws,S0,mv,Qc,hsc,hws,hKl,hnd,hos,hpost⟩:=hkc;have hR1:=hR.RV (so:=.nd N) (ob:=.nd false) ⟨rfl,c7 _ _ _⟩;simp only at hR1;have hl1:(gy S (SO.nd N)).length=S.length+1:=PA _ _
 have hR2:=hR1.RV (so:=.loop c .ready none f1) (ob:=.loop .ready none (eB af n') n' ps assign body N) (by
  refine⟨by rw[hc],?_,?_⟩
  ·simp only;rw[c7,hc]
  ·intro i hi
   have hn:c.n=n':=by rw[hc]
   rw[hn] at hi
   have e1:Nu c.t i=af i:=by
    rw[hc];unfold Nu;simp only;rw[nD _ _ _ hi];rfl
   rw[e1,iN,hl1];have hv:=hF.v i;rw[un hi] at hv;have h2:VS (gY θ S.length ⟨N,N,N,N⟩) ρ (bf S.length (aP f i)) (af i):=jj (λp hp=>bU _ _ hp) hv;have h3:VS (gY (gY θ S.length ⟨N,N,N,N⟩) (S.length+1) ⟨N+1,N+1,N+1,N+1⟩) ρ (bf (S.length+1) (bf S.length (aP f i))) (af i):=jj (λp hp=>bU _ _ hp) h2
   rcases hf1.get i with e | e
   ·rw[e,iN,iN];rw[Jj];exact h3
   ·rw[e]
    have:bf (S.length+1) SV.any=.any:=by unfold bf;simp[names]
    rw[this,VS];trivial)
 rw[hl1] at hR2;obtain⟨SN,hSN⟩:∃SN,SN=gy (gy S (.nd N)) (.loop c .ready none f1):=⟨_,rfl⟩;rw[<-hSN] at hR2 hws hos hpost
 have hos2:∀o∈os,o<SN.length:=by
  intro o ho;obtain⟨i,hi1,hi2⟩:=bH ho
  have:i<S0.length:=by omega
  obtain⟨o',e1,e2⟩:=hos i _ (jp this);rw[jp hi1] at e1;cases e1;rw[<-hi2];exact bx e2
 have hr:∀(i:Nat) so,S0[i]?=some so->SN[km os SN.length i]?=some (qo (km os SN.length) so):=by
  intro i so e;obtain⟨o,e1,e2⟩:=hos i so e;rw[ns e1];exact e2
 have hargs:da (gY (gY θ S.length ⟨N,N,N,N⟩) (S.length+1) ⟨N+1,N+1,N+1,N+1⟩) ρ ((first++[SV.a (.fn (.yield (N+1)) [] [])]++cap).map λv=>bf (S.length+1) (bf S.length v)) (xs++[.fn (.yield (N+1)) [] []]++ys):=by
  have h1:da θ ρ (first++[SV.a (.fn (.yield (N+1)) [] [])]++cap) (xs++[.fn (.yield (N+1)) [] []]++ys):=(kx.app (by rw[aM];exact⟨_,_,rfl,by rw[VS],by rw[bj]⟩)).app ky;exact h1.map λv x hv=>jj (λp hp=>bU _ _ hp) (jj (θ':=gY θ S.length ⟨N,N,N,N⟩) (λp hp=>bU _ _ hp) hv)
 rw[<-hws] at hargs;refine mh.uL hng hgv hfn hb (Q1:=λlp v h'=>∃r S' θ' ρ' h1,Qc r S'/\h'={ h1 with low:=iA lw h1.low }/\RS θ' ρ ρ' (OQ (λp=>(gY (gY θ S.length ⟨N,N,N,N⟩) (S.length+1) ⟨N+1,N+1,N+1,N+1⟩) (km os SN.length p)) h0 ⟨(O.put N (some (.nd false))).put (N+1) (some lp),F,N+2,lw⟩ S0) h1 S'/\VS θ' ρ' r v/\S0.length<=S'.length/\∀i,i<S0.length->i∉mv->(θ' i).id=((gY (gY θ S.length ⟨N,N,N,N⟩) (S.length+1) ⟨N+1,N+1,N+1,N+1⟩) (km os SN.length i)).id) ?_ ?_
 ·rintro lp rfl;exact hsc _ _ ρ _ _ rfl (hR2.enter hr (λi j=>Ez hnd hos2)) ((da.rn _).1 hargs)
 ·rintro lp v h' rfl ⟨r,S',θ',ρ',h1,k1,rfl,k3,k4,k5,k6⟩;obtain⟨b2,hq⟩:=hpost r S' k1;obtain⟨j1,_,_⟩:=Pn (low:=iA lw h1.low) hR2 hr hKl hnd hos2 k3 k5 k6 b2 rfl;obtain⟨oo,ls,p,f2,hS2,hls,hlow2,hQ⟩:=hq;obtain⟨hlo,hfr,hset⟩:=j1.yw hS2
  have hcid:c.id=N+1:=by rw[hc]
  rw[hcid] at hlo hset
  have hstn:∀p2,jQ ρ0 h0 ⟨f2,n',(dP SN os mv S').set oo .gone,{ fn:=none,FU:=N,args:=[],cap:=[] }::ds'⟩ ⟨af,n',H.set { h1 with low:=iA lw h1.low } (N+1) (.loop .exhausted p2 c.t c.n c.ps c.a c.b c.d),{ fn:=none,FU:=N,args:=[],cap:=[] }::ds'⟩:=by
   intro p2;refine⟨rfl,rfl,_,_,(hset .exhausted p2).sub ?_,λi=>?_,λi hi=>by rw[yJ _ _ ii];have:=hF.u i hi;rw[yJ _ _ ii] at this;exact this⟩
   ·intro o so e1 e2;by_cases e:o=oo
    ·subst e;rw[aJ (bx hS2)] at e1;cases e1;exact ul rfl e2
    ·rw[a7 (λh=>e h.symm)] at e1 ⊢;exact e1
   ·by_cases hi:i<n'
    ·rw[un hi]
     have hn:c.n=n':=by rw[hc]
     have:=hfr i (by rw[hn];exact hi)
     have e1:Nu c.t i=af i:=by
      rw[hc];unfold Nu;simp only;rw[nD _ _ _ hi];rfl
     rw[e1] at this;exact this
    ·rw[Ax hlow2 (aj hi),VS];trivial
  refine⟨ls,p,c.t,c.n,c.ps,c.a,c.b,c.d,hlo,hls,?_⟩
  cases p with
  | none=>exact⟨_,hQ,rfl,hstn none⟩
  | some cd=>exact hQ ρ0 h0 _ (hstn (some cd))
end
def FI(P:Program):List kr->H->(H->Prop)->Prop
 | [],h,K=>K h
 | d::ds,h,K=>match d.fn with
  | none=>h.aU.get d.FU=some (.nd false)/\FI P ds (h.set d.FU (.nd true)) K
  | some (.func g)=>∃fn c m,P.funcs[g]?=some fn/\fn.body=some c/\(d.args++d.cap).length+(fn.ntmps-(d.args++d.cap).length)=m/\
   mh P none c ⟨sn (d.args++d.cap),m,h,[]⟩ (λe st=>kM e=true/\st.ds=[]/\(∃v,uN P (eB st.f st.n) st.h fn.results.toList=some v)/\FI P ds st.h K)
  | _=>False
def wh{P:Program}(hng:tG P){n:Nat}{fn:Func}{a:Act}{t:Tr AV}{N:Nat}{R:Ending->World->Prop}{σ0:Sg}{h0:H}{w0:World}{K:H->Prop}:∀(ds:List kr) (h:H),FI P ds h K->
 ∀(ds':List Deferred) (σ:Sg) (w:World),SZ σ ds ds'->HR σ h w->TR σ t N a.tmps->Ext σ0 σ h0 h w0 w->
 (∀h' σ' w',K h'->HR σ' h' w'->TR σ' t N a.tmps->Ext σ0 σ' h0 h' w0 w'->∃v,(results fn a.tmps).run P w'=.ok v w'/\R (.returned v) w')->
 LeavesInM Fence.wide n P fn a.tmps R ds' .returning w
 | [],h,ho,ds',σ,w,hd,hr,ht,hE,hR=>by
  cases ds' with
  | cons d ds=>exact hd.elim
  | nil=>exact hR h σ w ho hr ht hE
 | d::ds,h,ho,ds',σ,w,hd,hr,ht,hE,hR=>by
  cases ds' with
  | nil=>exact hd.elim
  | cons d' ds'=>
   obtain⟨hd1,hd2⟩:=hd;rw[FI] at ho;unfold UA at hd1
   cases hdf:d.fn with
   | none=>
    rw[hdf] at hd1 ho;simp only at hd1 ho;obtain⟨q,hq,rfl⟩:=hd1;obtain⟨hob,ho⟩:=ho;obtain⟨q',hq',hor⟩:=hr.obj _ _ hob;rw[hq] at hq';cases hq';have hor:w.heap[q.b]?=some (.deferred (some [])):=hor;obtain⟨s1,s2⟩:=hr.kh (o':=.nd true) (ob:=.deferred none) hob rfl rfl hq rfl;refine⟨by simp,.inl ⟨q.b,_,rfl,?_,wh hng ds _ ho ds' σ _ hd2 s1 ht (hE.trans s2) hR⟩⟩;simp only[Instr.takeDeferred,ne,cm hor gc,pp,ez hor gc,m9]
   | some f=>
    rw[hdf] at hd1 ho;simp only at hd1;obtain⟨g,cap',rfl,htar,hargs,hcap⟩:=hd1;simp only at ho;obtain⟨fn',c,m,hfn,hbody,hm,hwp⟩:=ho
    have hall':VL σ (d.args++d.cap) (d'.args++cap').toList:=by
     simp only[bd];exact hargs.append hcap
    have hcall:=ei hng hfn (by rw[hbody];rfl) (d'.args++cap') w;refine⟨by simp,.inr ⟨λh=>by simp[Fence.wide] at h,.func g,cap',g,d'.args++cap',htar,?_,λ_ _=>trivial,?_⟩⟩
    ·rw[htar];simpa only[invoke] using hcall
    ·subst hm;have hw:=hwp Fence.wide (n-1) σ { tmps:=(d'.args++cap')++b8 (fn'.ntmps-(d'.args++cap').size) undef,defers:=[] } w ⟨KL hall' _,hr,trivial⟩ rfl;have hD:=callsDIn_of_wp (F:=Fence.wide) (n:=n-1) (u:=.returning) (R:=λe w'=>∃v h' σ',e=.returned v/\FI P ds h' K/\HR σ' h' w'/\Ext σ σ' h h' w w') hfn hbody trivial (wpIn_mono hw ?_)
     ·refine⟨hD.1,λcc cs hm hroom=>?_⟩;obtain⟨e,u',w',fr,⟨rfl,v,h',σ',rfl,q1,hh',hext⟩,hrest⟩:=hD.2 cc cs hm hroom;refine⟨.returned v,_,w',fr,?_,hrest⟩;have hset:settle .returning=.returning:=rfl;simp only[hset];exact wh hng ds h' q1 ds' σ' w' (hd2.mono hext.le) hh' (ht.mono hext.le) (hE.trans hext) hR
     ·rintro e a' w' ⟨ex,st',⟨hend,hds,⟨rr,hres⟩,h1⟩,hex,σ',hs',hE',hn'⟩
      have hde:a'.defers=[]:=by
       have:=hs'.ds;rw[hds] at this
       cases had:a'.defers with
       | nil=>rfl
       | cons x y=>rw[had] at this;exact this.elim
      obtain⟨v,k1,k2⟩:=uO hs'.sr.t hs'.h hres
      have:bodyPost P fn' (λe w'=>∃v h' σ',e=.returned v/\FI P ds h' K/\HR σ' h' w'/\Ext σ σ' h h' w w') e a' w':=by
       rcases tV hend with rfl | rfl
       ·have:e=.normal:=hex;subst this;exact⟨hde,v,k1,v,st'.h,σ',rfl,h1,hs'.h,hE'⟩
       ·have:e=.ret:=hex;subst this;exact⟨hde,v,k1,v,st'.h,σ',rfl,h1,hs'.h,hE'⟩
      exact this
def ef.tQ{P:Program}(hng:tG P){g:FuncId}{fn:Func}{c:Code}{args:List AV}{h:H}{Q:AV->H->Prop}(hf:P.funcs[g]?=some fn)(hb:fn.body=some c){n:Nat}(hn:args.length+(fn.ntmps-args.length)=n)
 (hw:mh P none c ⟨sn args,n,{ h with low:=h.next },[]⟩ λe st=>kM e=true/\FI P st.ds st.h λh''=>∃v,uN P (eB st.f st.n) h'' fn.results.toList=some v/\Q v { h'' with low:=iA h.low h''.low }):ef P (.func g) args h Q:=by
 intro σ w args' hv hr;rw[ei hng hf (by rw[hb];rfl)];have hr1:HR σ { h with low:=h.next } w:=⟨hr.obj,hr.fresh,hr.sep,hr.bQ,aY _⟩;subst hn;have hw:=hw Fence.wide 0 σ { tmps:=args'++b8 (fn.ntmps-args'.size) undef,defers:=[] } w ⟨KL hv _,hr1,trivial⟩ rfl;refine callsIn_wide.1 (callsIn_of_wp_marks (F:=Fence.wide) (n:=0) hf hb trivial (wpIn_mono hw ?_));rintro e a' w' ⟨exx,st',⟨hend,hl⟩,hexx,σ',hs',hE',hn'⟩
 have key:LeavesInM Fence.wide 0 P fn a'.tmps (λe w''=>∃v,e=.returned v/\FG σ h w Q v w'') a'.defers .returning w':=by
  refine wh hng st'.ds st'.h hl a'.defers σ' w' hs'.ds hs'.h hs'.sr.t hE' ?_;rintro h'' σ'' w'' ⟨v,hres,hQ⟩ hh'' ht'' hE'';obtain⟨x,k1,k2⟩:=uO ht'' hh'' hres;have:=lower hr hh'' hE'';exact⟨x,k1,x,rfl,v,_,hQ,σ'',k2,this.1,this.2⟩
 rcases tV hend with rfl | rfl
 ·have:e=.normal:=hexx;subst this;exact key
 ·have:e=.ret:=hexx;subst this;exact key
section
variable {θ θ':Nat->Loc} {ρ ρ0 ρ':kG} {P:Program} {h0:En} {h h1:H} {S S' S0:List SO}
def rT{l:List (AV×AV×Nat)}{bs:List Nat}(hbs:l.map (·.2.2)=bs){j:Nat}{e:AV×AV×Nat}(he:l[j]?=some e):bs.getD j 0=e.2.2:=by
 rw[<-hbs,List.getD_eq_getElem?_getD,al,he];rfl
def born_inj{l:List (AV×AV×Nat)}{c:Nat}(hb:ot l c){i j:Nat}{e e':AV×AV×Nat}(hi:l[i]?=some e)(hj:l[j]?=some e')(h:e.2.2=e'.2.2):i=j:=by
 have h1:(l.map (·.2.2))[i]?=some e.2.2:=by rw[al,hi];rfl
 have h2:(l.map (·.2.2))[j]?=some e.2.2:=by rw[al,hj,h];rfl
 have hl:=bx h1;exact(List.getElem?_inj hl hb.1).1 (h1.trans h2.symm)
def AU(b:Nat):∀(l:List Nat),seenIn b l=true↔b∈l
 | []=>by simp[seenIn]
 | x::l=>by
  simp only[seenIn,d2,AU b l,List.mem_cons];constructor
  ·rintro(h | h)
   ·exact .inl (cW h).symm
   ·exact .inr h
  ·rintro(h | h)
   ·exact .inl (N0 h.symm)
   ·exact .inr h
def CL{id j9 c:Nat}{l:List (AV×AV×Nat)}{bs pos:List Nat}(hg:h.aU.get id=some (.jl (some j9) c (pos.map λj=>bs.getD j 0) c))(hm:h.mapOf j9=some (l,c))(hb:ot l c)(hbs:l.map (·.2.2)=bs)(hp:∀j∈pos,j<l.length):
 ∃outs,AE h (.ptr (some (id,0))) false=some outs/\∀x∈outs,(x=(.cq [.bool false],h)/\∀j,j<l.length->j∈pos)\/
  ∃j k v,j<l.length/\j∉pos/\x=(.cq [.bool true,k,v],h.set id (.jl (some j9) c ((pos++[j]).map λj=>bs.getD j 0) c)):=by
 have hc:(!(pos.map λj=>bs.getD j 0).isEmpty&&(!l.isEmpty&&l.all (λe=>ble c e.2.2)))=false:=by
  cases hl:l with
  | nil=>simp
  | cons a r=>
   have hall:(a::r).all (λe=>ble c e.2.2)=false:=by
    rw[List.all_eq_false];refine⟨a,am ..,?_⟩;have:=hb.2 a (by rw[hl];exact am ..);intro hh;have:=jy hh;omega
   rw[hall];simp
 have hnx:AE h (.ptr (some (id,0))) false=some (qM h id j9 c (pos.map λj=>bs.getD j 0) c ((l.filter λe=>!(seenIn e.2.2 (pos.map λj=>bs.getD j 0))).filter λe=>blt e.2.2 c) ((l.filter λe=>!(seenIn e.2.2 (pos.map λj=>bs.getD j 0))).filter λe=>!(blt e.2.2 c))):=by
  simp only[AE,hg,hm,m7];rw[hc,aw]
 refine⟨_,hnx,?_⟩;intro x hx;unfold qM at hx
 have hun:∀j e,l[j]?=some e->seenIn e.2.2 (pos.map λj=>bs.getD j 0)=false->j∉pos:=by
  intro j e he hs hj;have:seenIn e.2.2 (pos.map λj=>bs.getD j 0)=true:=(AU _ _).2 (mem_map.2 ⟨j,hj,rT hbs he⟩);rw[this] at hs;cases hs
 rcases mem_append.1 hx with hx | hx
 ·left;cases he:((l.filter λe=>!(seenIn e.2.2 (pos.map λj=>bs.getD j 0))).filter λe=>blt e.2.2 c).isEmpty
  ·rw[he,aw] at hx;cases hx
  ·rw[he,ar] at hx;refine⟨rx hx,λj hj=>?_⟩;rw[List.isEmpty_iff] at he;have hlj:l[j]?=some l[j]:=jp hj;apply Classical.byContradiction;intro hn
   have hmem:l[j]∈(l.filter λe=>!(seenIn e.2.2 (pos.map λj=>bs.getD j 0))).filter λe=>blt e.2.2 c:=by
    refine mem_filter.2 ⟨mem_filter.2 ⟨bk hj,?_⟩,Nat.ble_eq_true_of_le (hb.2 _ (bk hj))⟩;cases hs:seenIn l[j].2.2 (pos.map λj=>bs.getD j 0)
    ·rfl
    ·exfalso;obtain⟨j',hj',e⟩:=mem_map.1 ((AU _ _).1 hs);obtain⟨e',hlj'⟩:∃e',l[j']?=some e':=⟨_,jp (hp j' hj')⟩;rw[rT hbs hlj'] at e;exact hn (born_inj hb hlj hlj' e.symm▸hj')
   rw[he] at hmem;cases hmem
 ·right;obtain⟨e,he,rfl⟩:=mem_map.1 hx
  have he':e∈l/\seenIn e.2.2 (pos.map λj=>bs.getD j 0)=false:=by
   rcases mem_append.1 he with he | he <;>
   ·have:=mem_filter.1 (mem_filter.1 he).1;exact⟨this.1,by simpa using this.2⟩
  obtain⟨j,hj⟩:=List.mem_iff_getElem?.1 he'.1;refine⟨j,e.1,e.2.1,bx hj,hun j e hj he'.2,?_⟩;rw[d4,b6,map_nil,rT hbs hj]
def Ce:∀{l:List (AV×AV×Nat)} {j k:Nat} {e:AV×AV×Nat},(l.map (·.2.2)).Nodup->l[j]?=some e->kK e.2.2 l k=some (k+j)
 | [],j,k,e,_,he=>by simp at he
 | a::l,0,k,e,hn,he=>by
  simp only[a6,qr] at he;subst he;rw[kK,d6];rfl
 | a::l,j+1,k,e,hn,he=>by
  simp only[ay] at he;rw[b6,d5] at hn;rw[kK]
  have hne:beq a.2.2 e.2.2=false:=by
   cases hb:beq a.2.2 e.2.2
   ·rfl
   ·exact ul (cW hb▸ct (f:=λx:AV×AV×Nat=>x.2.2) (co he)) hn.1
  rw[hne,aw,Ce hn.2 he]
  congr 1;omega
def zm{id j9 c j:Nat}{l:List (AV×AV×Nat)}{bs pos:List Nat}{e:AV×AV×Nat}(hg:h.aU.get id=some (.jl (some j9) c ((pos++[j]).map λj=>bs.getD j 0) c))(hm:h.mapOf j9=some (l,c))(hb:ot l c)(hbs:l.map (·.2.2)=bs)(he:l[j]?=some e):
 vN h (.ptr (some (id,0)))=some (.cq [e.1,e.2.1]):=by
 have hlast:((pos++[j]).map λj=>bs.getD j 0).getLast?=some e.2.2:=by
  rw[d4,b6,map_nil,List.getLast?_append,rT hbs he];rfl
 simp only[vN,hg,hlast,hm,m7,d6,ar];rw[Ce hb.1 he,m7,b7,he];rfl
def RS.put{o:Nat}{so so':SO}{ob':AO}(hR:RS θ ρ0 ρ h0 h S)(hS:S[o]?=some so)(hgn:so≠.gone)(hnew:nH θ ρ (h.set (θ o).id ob') (θ o) so'):RS θ ρ0 ρ h0 (h.set (θ o).id ob') (S.set o so'):=by
 obtain⟨hL,_⟩:=hR.obj o _ hS hgn
 have hidr:¬h0.pr (θ o).id:=by
  rcases hL.e with e | e<;>rw[e]
  ·exact hL.x.1
  ·exact hL.y.1
 have hg:∀v x,VS θ ρ v x->VS (gY θ o (θ o)) ρ v x:=λv x hv=>hv.ids λp=>by
  by_cases hp:p=o
  ·subst hp;rw[cA]
  ·rw[bU _ _ hp]
 have heq:gY θ o (θ o)=θ:=by
  funext p;by_cases hp:p=o
  ·subst hp;rw[cA]
  ·rw[bU _ _ hp]
 have get:∀j,j≠(θ o).id->(h.set (θ o).id ob').aU.get j=h.aU.get j:=λj hj=>bq _ _ hj
 have:=hR.Br (h':=h.set (θ o).id ob') (S':=S.set o so') (o:=o) (so':=so') (L':=θ o) (g:=λv=>v) (aY _) (λj hj=>get j (λe=>hidr (e▸hj))) (λ_ _=>rfl)
  (nU hR.lw (hR.ok.lo _ hidr)) (bc (dR _ _).1 hR.ln) hL hg
  (λp so1 hp h3 h4=>by
   have sp:=hR.sep p o so1 _ hp h3 h4 hS hgn;obtain⟨k,_⟩:=hR.obj p so1 h3 h4;refine⟨get _ ?_,rfl,sp⟩
   rcases k.e with e1 | e1<;>rcases hL.e with e2 | e2<;>rw[e1,e2]
   ·exact sp.xx
   ·exact sp.xy
   ·exact sp.yx
   ·exact sp.yy)
  (λid ob hi=>by
   obtain⟨r1,r2,r3⟩:=hR.row id ob hi;have:=r3 o _ hS hgn;refine⟨get _ ?_,this⟩
   rcases hL.e with e | e<;>rw[e]
   ·exact this.1
   ·exact this.2)
  (by rw[heq];exact hnew)
  (λp hp=>by
   rw[a7 (λh=>hp h.symm)]
   cases S[p]? with
   | none=>rfl
   | some s=>rw[m6];exact rc some (uA s).symm)
  (by rw[aJ (bx hS)])
 rw[heq] at this;exact this
def RS.WJ{o:Nat}{so so':SO}(hR:RS θ ρ0 ρ h0 h S)(hS:S[o]?=some so)(hgn:so≠.gone)(hnew:nH θ ρ h (θ o) so->nH θ ρ h (θ o) so'):RS θ ρ0 ρ h0 h (S.set o so'):=by
 have own:∀p s,(S.set o so')[p]?=some s->(p=o/\s=so')\/(p≠o/\S[p]?=some s):=by
  intro p s hp;by_cases e:p=o
  ·subst e;rw[aJ (bx hS)] at hp;cases hp;exact .inl ⟨rfl,rfl⟩
  ·rw[a7 (λh=>e h.symm)] at hp;exact .inr ⟨e,hp⟩
 refine⟨hR.ok,hR.nx,hR.ob,hR.fm,hR.lw,hR.ln,?_,?_,?_,hR.mP⟩
 ·intro p s hp hg
  rcases own p s hp with⟨rfl,rfl⟩ | ⟨_,hp'⟩
  ·obtain⟨k1,k2⟩:=hR.obj p _ hS hgn;exact⟨k1,hnew k2⟩
  ·exact hR.obj p s hp' hg
 ·intro p q s s' hpq hp hg hq hg'
  have a:∃s0,S[p]?=some s0/\s0≠.gone:=by
   rcases own p s hp with⟨rfl,rfl⟩ | ⟨_,hp'⟩
   ·exact⟨_,hS,hgn⟩
   ·exact⟨_,hp',hg⟩
  have b:∃s0,S[q]?=some s0/\s0≠.gone:=by
   rcases own q s' hq with⟨rfl,rfl⟩ | ⟨_,hp'⟩
   ·exact⟨_,hS,hgn⟩
   ·exact⟨_,hp',hg'⟩
  obtain⟨s0,a1,a2⟩:=a;obtain⟨s1,b1,b2⟩:=b;exact hR.sep p q s0 s1 hpq a1 a2 b1 b2
 ·intro id ob hi;obtain⟨r1,r2,r3⟩:=hR.row id ob hi;refine⟨r1,r2,λp s hp hg=>?_⟩
  rcases own p s hp with⟨rfl,rfl⟩ | ⟨_,hp'⟩
  ·exact r3 p _ hS hgn
  ·exact r3 p s hp' hg
def Lp{t:TypeId}(h:jk P t=.map):∃k e,P.underlying t=some (.map k e):=by
 unfold jk at h
 split at h<;>first | (cases h;done) | exact⟨_,_,by assumption⟩
variable {ro:Option Nat} {all:List Oper} {o:Oper} {l:List Oper} {f:Fm} {n d:Nat} {ds:List kr} {K:eR->Prop} {x:Operand} {ks:List AV} {vs:List SV} {bs pos:List Nat} {c i:Nat}
def aR.VE{t:TypeId}(hst:eP all n [o]=true)(hop:o.op=.range t x)(hdst:o.dst=some d)(hw:cV all f o.guard=some true)(hx:gf f x=some (.im ks vs))(ht:jk P t=.map)
 (hk:∀bs c,bs.length=ks.length->aR P ro all l ⟨(d,.ptr S.length 0)::eU S.length f,n,gy S (.pI ks vs bs c []),ds⟩ K):aR P ro all (o::l) ⟨f,n,S,ds⟩ K:=by
 rintro ρ0 h0 ⟨af,n',h,ds'⟩ ⟨rfl,rfl,θ,ρ,hR,hF⟩
 have hd:blt d n'=true:=by
  have:=(fW hst).1;rw[hdst] at this;exact this
 obtain⟨a,ha,ka⟩:=bL hF hx;rw[VS,GS] at ka;obtain⟨j9,lm,c,rfl,h1,h2,h3⟩:=ka;obtain⟨kt,et,hu⟩:=Lp ht
 have hm:h.mapOf j9=some (lm,c):=by unfold H.mapOf;rw[(hR.row j9 _ h1).2.1]
 have hrun:eH P (eB af n') h (.range t x)=some [(some (.ptr (some (h.next,0))),{ h with aU:=h.aU.put h.next (some (.jl (some j9) c [] c)),next:=h.next+1 })]:=by
  rw[Hd,show ev (eB af n') x=_ from ha,m7];simp only[wG,hu,hm,m6,H.newObj]
 refine .v hop hdst (dr hF (fi hst hw)) rfl hd hrun ?_;have hR1:=hR.RV (so:=.pI ks vs (lm.map (·.2.2)) c []) (ob:=.jl (some j9) c [] c) ⟨j9,lm,h1,⟨h2.1,h2.2.1,λp hp=>by cases hp;exact⟨rfl,rfl⟩⟩,h3,c7 _ _ _⟩;refine hk (lm.map (·.2.2)) c (by rw[a8,<-h2.1,a8]) ρ0 h0 _ ⟨rfl,rfl,_,ρ,hR1,?_⟩;exact hF.kill (kill:=some S.length) (λv x hv=>jj (λp hp=>bU _ _ hp) hv) (gp hd) (by rw[VS,cA])
def aR.Xe{t:TypeId}{oo:Nat}{b:Option (List Nat×Nat)}(hst:eP all n [o]=true)(hop:o.op=.range t x)(hdst:o.dst=some d)(hw:cV all f o.guard=some true)(hx:gf f x=some (.map oo))(hS:S[oo]?=some (.map ks vs b))(ht:jk P t=.map)
 (hk:∀bs c,bs.length=ks.length->aR P ro all l ⟨(d,.ptr S.length 0)::eU S.length f,n,gy (S.set oo (.map ks vs (some (bs,c)))) (.iter (.map oo) bs c []),ds⟩ K):aR P ro all (o::l) ⟨f,n,S,ds⟩ K:=by
 rintro ρ0 h0 ⟨af,n',h,ds'⟩ ⟨rfl,rfl,θ,ρ,hR,hF⟩
 have hd:blt d n'=true:=by
  have:=(fW hst).1;rw[hdst] at this;exact this
 obtain⟨a,ha,ka⟩:=bL hF hx;rw[VS] at ka;subst ka;obtain⟨_,lm,c,h1,h2,h3⟩:=hR.obj oo _ hS ge;obtain⟨kt,et,hu⟩:=Lp ht
 have hm:h.mapOf (θ oo).id=some (lm,c):=by unfold H.mapOf;rw[h1]
 have hrun:eH P (eB af n') h (.range t x)=some [(some (.ptr (some (h.next,0))),{ h with aU:=h.aU.put h.next (some (.jl (some (θ oo).id) c [] c)),next:=h.next+1 })]:=by
  rw[Hd,show ev (eB af n') x=_ from ha,m7];simp only[wG,hu,hm,m6,H.newObj]
 refine .v hop hdst (dr hF (fi hst hw)) rfl hd hrun ?_;have hR0:RS θ ρ0 ρ h0 h (S.set oo (.map ks vs (some (lm.map (·.2.2),c)))):=hR.WJ hS ge λ_=>⟨lm,c,h1,⟨h2.1,h2.2.1,λp hp=>by cases hp;exact⟨rfl,rfl⟩⟩,h3⟩;have hlen:(S.set oo (.map ks vs (some (lm.map (·.2.2),c)))).length=S.length:=List.length_set;have hlt:=bx hS
 have hkm:bf S.length (.map oo)=.map oo:=by
  unfold bf;rw[names,wd ii];rfl
 have hR1:=hR0.RV (so:=.iter (.map oo) (lm.map (·.2.2)) c []) (ob:=.jl (some (θ oo).id) c [] c) (by
  rw[hlen,cI,hkm]
  exact⟨(θ oo).id,by rw[VS,bU _ _ ii],c7 _ _ _⟩)
 rw[hlen] at hR1;refine hk (lm.map (·.2.2)) c (by rw[a8,<-h2.1,a8]) ρ0 h0 _ ⟨rfl,rfl,_,ρ,hR1,?_⟩;exact hF.kill (kill:=some S.length) (λv x hv=>jj (λp hp=>bU _ _ hp) hv) (gp hd) (by rw[VS,cA])
def aR.VB(hst:eP all n [o]=true)(hop:o.op=.next x false)(hdst:o.dst=some d)(hw:cV all f o.guard=some true)(hx:gf f x=some (.ptr i 0))(hS:S[i]?=some (.pI ks vs bs c pos))(hp:∀j∈pos,j<ks.length)
 (hk0:(∀j,j<ks.length->j∈pos)->aR P ro all l ⟨(d,.cq [.a (.bool false)])::f,n,S,ds⟩ K)
 (hk1:∀j,j<ks.length->j∉pos->aR P ro all l ⟨(d,.cq [.a (.bool true),.any,.any])::f,n,S.set i (.pI ks vs bs c (pos++[j])),ds⟩ K):aR P ro all (o::l) ⟨f,n,S,ds⟩ K:=by
 rintro ρ0 h0 ⟨af,n',h,ds'⟩ ⟨rfl,rfl,θ,ρ,hR,hF⟩
 have hd:blt d n'=true:=by
  have:=(fW hst).1;rw[hdst] at this;exact this
 obtain⟨a,ha,ka⟩:=bL hF hx;rw[VS] at ka;subst ka;obtain⟨_,j9,lm,h1,h2,h3,h4⟩:=hR.obj i _ hS ge
 have hm:h.mapOf j9=some (lm,c):=by unfold H.mapOf;rw[(hR.row j9 _ h1).2.1]
 have hlen:lm.length=ks.length:=by rw[<-h2.1,a8]
 obtain⟨outs,ho,hall⟩:=CL h4 hm h2.2.1 (h2.2.2 _ rfl).1 (λj hj=>by rw[hlen];exact hp j hj);refine .n hop hdst (dr hF (fi hst hw)) rfl hd (by rw[LA (show ev (eB af n') x=_ from ha),ho];rfl) ?_;intro y hy;obtain⟨z,hz,rfl⟩:=mem_map.1 hy
 rcases hall z hz with⟨rfl,hq⟩ | ⟨j,k,v,hj,hn,rfl⟩
 ·exact hk0 (λj hj=>hq j (by rw[hlen];exact hj)) ρ0 h0 _ ⟨rfl,rfl,θ,ρ,hR,hF.put (gp hd) (by rw[VS];exact⟨_,rfl,by rw[aM];exact⟨_,_,rfl,by rw[VS],by rw[bj]⟩⟩)⟩
 ·refine hk1 j (by rw[<-hlen];exact hj) hn ρ0 h0 _ ⟨rfl,rfl,θ,ρ,hR.put hS ge ⟨j9,lm,h1,h2,h3,c7 _ _ _⟩,hF.put (gp hd) ?_⟩;rw[VS];refine⟨_,rfl,?_⟩;rw[aM];refine⟨_,_,rfl,by rw[VS],?_⟩;rw[aM];refine⟨_,_,rfl,by rw[VS];trivial,?_⟩;rw[aM];exact⟨_,_,rfl,by rw[VS];trivial,by rw[bj]⟩
def aR.W7{oo:Nat}(hst:eP all n [o]=true)(hop:o.op=.next x false)(hdst:o.dst=some d)(hw:cV all f o.guard=some true)(hx:gf f x=some (.ptr i 0))(hS:S[i]?=some (.iter (.map oo) bs c pos))(hM:S[oo]?=some (.map ks vs (some (bs,c))))(hp:∀j∈pos,j<ks.length)
 (hk0:(∀j,j<ks.length->j∈pos)->aR P ro all l ⟨(d,.cq [.a (.bool false)])::f,n,S,ds⟩ K)
 (hk1:∀j,j<ks.length->j∉pos->aR P ro all l ⟨(d,.cq [.a (.bool true),.any,.any])::f,n,S.set i (.iter (.map oo) bs c (pos++[j])),ds⟩ K):aR P ro all (o::l) ⟨f,n,S,ds⟩ K:=by
 rintro ρ0 h0 ⟨af,n',h,ds'⟩ ⟨rfl,rfl,θ,ρ,hR,hF⟩
 have hd:blt d n'=true:=by
  have:=(fW hst).1;rw[hdst] at this;exact this
 obtain⟨a,ha,ka⟩:=bL hF hx;rw[VS] at ka;subst ka;obtain⟨_,j9,h3,h4⟩:=hR.obj i _ hS ge;obtain⟨_,lm,c',q1,q2,q3⟩:=hR.obj oo _ hM ge;rw[VS] at h3;simp only[AV.map.injEq,qr] at h3;subst h3;obtain⟨hb1,rfl⟩:=q2.2.2 _ rfl
 have hm:h.mapOf (θ oo).id=some (lm,c'):=by unfold H.mapOf;rw[q1]
 have hlen:lm.length=ks.length:=by rw[<-q2.1,a8]
 obtain⟨outs,ho,hall⟩:=CL h4 hm q2.2.1 hb1 (λj hj=>by rw[hlen];exact hp j hj);refine .n hop hdst (dr hF (fi hst hw)) rfl hd (by rw[LA (show ev (eB af n') x=_ from ha),ho];rfl) ?_;intro y hy;obtain⟨z,hz,rfl⟩:=mem_map.1 hy
 rcases hall z hz with⟨rfl,hq⟩ | ⟨j,k,v,hj,hn,rfl⟩
 ·exact hk0 (λj hj=>hq j (by rw[hlen];exact hj)) ρ0 h0 _ ⟨rfl,rfl,θ,ρ,hR,hF.put (gp hd) (by rw[VS];exact⟨_,rfl,by rw[aM];exact⟨_,_,rfl,by rw[VS],by rw[bj]⟩⟩)⟩
 ·refine hk1 j (by rw[<-hlen];exact hj) hn ρ0 h0 _ ⟨rfl,rfl,θ,ρ,hR.put hS ge ⟨(θ oo).id,by rw[VS],c7 _ _ _⟩,hF.put (gp hd) ?_⟩;rw[VS];refine⟨_,rfl,?_⟩;rw[aM];refine⟨_,_,rfl,by rw[VS],?_⟩;rw[aM];refine⟨_,_,rfl,by rw[VS];trivial,?_⟩;rw[aM];exact⟨_,_,rfl,by rw[VS];trivial,by rw[bj]⟩
def aR.Vw{j:Nat}{k:AV}{v:SV}(hst:eP all n [o]=true)(hop:o.op=.entry x)(hdst:o.dst=some d)(hw:cV all f o.guard=some true)(hx:gf f x=some (.ptr i 0))(hS:S[i]?=some (.pI ks vs bs c (pos++[j])))(hkj:ks[j]?=some k)(hvj:vs[j]?=some v)
 (hk:aR P ro all l ⟨(d,.cq [ve k,v])::f,n,S,ds⟩ K):aR P ro all (o::l) ⟨f,n,S,ds⟩ K:=by
 rintro ρ0 h0 ⟨af,n',h,ds'⟩ ⟨rfl,rfl,θ,ρ,hR,hF⟩
 have hd:blt d n'=true:=by
  have:=(fW hst).1;rw[hdst] at this;exact this
 obtain⟨a,ha,ka⟩:=bL hF hx;rw[VS] at ka;subst ka;obtain⟨_,j9,lm,h1,h2,h3,h4⟩:=hR.obj i _ hS ge
 have hm:h.mapOf j9=some (lm,c):=by unfold H.mapOf;rw[(hR.row j9 _ h1).2.1]
 rw[<-h2.1,al] at hkj;obtain⟨e,he,rfl⟩:=au hkj;obtain⟨y,hy,ky⟩:=h3.get hvj;rw[al,he] at hy;simp only[m6,qr] at hy;subst hy;refine .v hop hdst (dr hF (fi hst hw)) rfl hd (by rw[Hc,show ev (eB af n') x=_ from ha,m7,zm h4 hm h2.2.1 (h2.2.2 _ rfl).1 he];rfl) ?_;refine hk ρ0 h0 _ ⟨rfl,rfl,θ,ρ,hR,hF.put (gp hd) ?_⟩;rw[VS];refine⟨_,rfl,?_⟩;rw[aM];refine⟨_,_,rfl,A2 _,?_⟩;rw[aM];exact⟨_,_,rfl,ky.vs,by rw[bj]⟩
def aR.W1{oo j:Nat}{k:AV}{v:SV}(hst:eP all n [o]=true)(hop:o.op=.entry x)(hdst:o.dst=some d)(hw:cV all f o.guard=some true)(hx:gf f x=some (.ptr i 0))(hS:S[i]?=some (.iter (.map oo) bs c (pos++[j])))(hM:S[oo]?=some (.map ks vs (some (bs,c))))(hkj:ks[j]?=some k)(hvj:vs[j]?=some v)
 (hk:aR P ro all l ⟨(d,.cq [ve k,v])::f,n,S,ds⟩ K):aR P ro all (o::l) ⟨f,n,S,ds⟩ K:=by
 rintro ρ0 h0 ⟨af,n',h,ds'⟩ ⟨rfl,rfl,θ,ρ,hR,hF⟩
 have hd:blt d n'=true:=by
  have:=(fW hst).1;rw[hdst] at this;exact this
 obtain⟨a,ha,ka⟩:=bL hF hx;rw[VS] at ka;subst ka;obtain⟨_,j9,h3,h4⟩:=hR.obj i _ hS ge;obtain⟨_,lm,c',q1,q2,q3⟩:=hR.obj oo _ hM ge;rw[VS] at h3;simp only[AV.map.injEq,qr] at h3;subst h3;obtain⟨hb1,rfl⟩:=q2.2.2 _ rfl
 have hm:h.mapOf (θ oo).id=some (lm,c'):=by unfold H.mapOf;rw[q1]
 rw[<-q2.1,al] at hkj;obtain⟨e,he,rfl⟩:=au hkj;obtain⟨y,hy,ky⟩:=q3.get hvj;rw[al,he] at hy;simp only[m6,qr] at hy;subst hy;refine .v hop hdst (dr hF (fi hst hw)) rfl hd (by rw[Hc,show ev (eB af n') x=_ from ha,m7,zm h4 hm q2.2.1 hb1 he];rfl) ?_;refine hk ρ0 h0 _ ⟨rfl,rfl,θ,ρ,hR,hF.put (gp hd) ?_⟩;rw[VS];refine⟨_,rfl,?_⟩;rw[aM];refine⟨_,_,rfl,A2 _,?_⟩;rw[aM];exact⟨_,_,rfl,ky,by rw[bj]⟩
end
section
variable {θ θ':Nat->Loc} {ρ ρ0 ρ':kG} {P:Program} {h0:En} {h h1:H} {S S' S0:List SO}
def qX(S:List SO)(r:Nat->Nat):List SO->List Nat->Prop
 | [],_=>True
 | so::l,o::os=>(so=.gone\/S[o]?=some (qo r so))/\qX S r l os
 | _::_,[]=>False
def Le{r:Nat->Nat}:∀{S0:List SO} {os:List Nat},qX S r S0 os->∀(i:Nat) so,S0[i]?=some so->so≠.gone->∃o,os[i]?=some o/\S[o]?=some (qo r so)
 | [],_,_,i,so,h,_=>by simp at h
 | s::l,o::os,hh,0,so,h,hg=>by
  simp only[a6,qr] at h;subst h;exact⟨o,rfl,hh.1.resolve_left hg⟩
 | s::l,o::os,hh,i+1,so,h,hg=>by
  simp only[ay] at h ⊢;exact Le hh.2 i so h hg
 | _::_,[],hh,_,_,_,_=>hh.elim
def Fg.rn(os:List Nat){f f':Fm}{n:Nat}{ds:List kr}(hnd:os.Nodup)(hK:os.length=S'.length)(hos:qX S (km os S.length) S' os)(hf:vE f (Sw (km os S.length) f')):Fg ⟨f,n,S,ds⟩ ⟨f',n,S',ds⟩:=by
 refine⟨rfl,?_⟩;rintro ρ0 h0 ⟨af,n',h,ds'⟩ ⟨rfl,rfl,θ,ρ,hR,hF⟩;obtain⟨r,hr⟩:∃r,r=km os S.length:=⟨_,rfl⟩;rw[<-hr] at hos hf
 have hmem:∀(i:Nat) so,S'[i]?=some so->so≠.gone->S[r i]?=some (qo r so):=by
  intro i so hi hg;obtain⟨o,h2,h3⟩:=Le hos i so hi hg;rw[hr,ns h2,<-hr];exact h3
 have hinj:∀i j,i<S'.length->j<S'.length->r i=r j->i=j:=by
  intro i j hi hj e;rw[hr,ns (jp (show i<os.length by omega)),ns (jp (show j<os.length by omega))] at e;exact(dv hnd).1 e
 refine⟨rfl,rfl,λp=>θ (r p),ρ,⟨hR.ok,hR.nx,hR.ob,hR.fm,hR.lw,hR.ln,?_,?_,?_,hR.mP⟩,λi=>?_,hF.u⟩
 ·intro o so h1 h2;obtain⟨k1,k2⟩:=hR.obj _ _ (hmem o so h1 h2) (fh.2 h2);exact⟨k1,(nH.rn r).1 k2⟩
 ·intro o o' so so' hne h1 h2 h3 h4;exact hR.sep _ _ _ _ (λe=>hne (hinj o o' (bx h1) (bx h3) e)) (hmem o so h1 h2) (fh.2 h2) (hmem o' so' h3 h4) (fh.2 h4)
 ·intro id ob hi;obtain⟨r1,r2,r3⟩:=hR.row id ob hi;exact⟨r1,r2,λo so h1 h2=>r3 _ _ (hmem o so h1 h2) (fh.2 h2)⟩
 ·have hv:=hF.v i
  rcases hf.get i with e | e
  ·rw[yr] at e;rw[<-e] at hv;exact(VS.rn r).1 hv
  ·rw[yr] at e
   have:aP f' i=.any:=by
    cases hq:aP f' i<;>rw[hq] at e<;>first | rfl | (simp[fG] at e;done)
   show VS _ _ (aP f' i) _;rw[this,VS];trivial
def Fg.wk{f f':Fm}{n:Nat}{ds:List kr}(hf:yN [] f f'):Fg ⟨f,n,S,ds⟩ ⟨f',n,S,ds⟩:=by
 refine⟨rfl,?_⟩;rintro ρ0 h0 ⟨af,n',h,ds'⟩ ⟨rfl,rfl,θ,ρ,hR,hF⟩;refine⟨rfl,rfl,θ,ρ,hR,λi=>?_,hF.u⟩;have hv:=hF.v i
 rcases hf.get i with e | e
 ·show VS θ ρ (aP f' i) _;rw[e];exact hv
 ·have:=Wk.ok hR.Eh e hv;rw[AN] at this;exact this.vs
def Fg.Ux(o:Nat){f:Fm}{n:Nat}{ds:List kr}{ks:List AV}{vs:List SV}{b:Option (List Nat×Nat)}(hS:S[o]?=some (.map ks vs b)):Fg ⟨f,n,S,ds⟩ ⟨f,n,S.set o (.map ks vs none),ds⟩:=by
 refine⟨rfl,?_⟩;rintro ρ0 h0 ⟨af,n',h,ds'⟩ ⟨rfl,rfl,θ,ρ,hR,hF⟩;exact⟨rfl,rfl,θ,ρ,hR.WJ hS ge λ⟨l,c,h1,h2,h3⟩=>⟨l,c,h1,⟨h2.1,h2.2.1,λp hp=>by cases hp⟩,h3⟩,hF⟩
section
variable {K U:Type} [DecidableEq K] {kv:K->AV} {uv:U->SV} {k:K} {l:List (K×U)} {t kt et:TypeId} {o:Nat} {x:SV}
def jS(k:K):List (K×U)->List (K×U)
 | []=>[]
 | e::l=>if k=e.1 then l else e::jS k l
def F9:∀{l:List (K×U)},dx k l=false->jS k l=l
 | [],_=>rfl
 | e::l,h=>by
  simp only[dx,List.any_cons,Bool.or_eq_false_iff,wn] at h;rw[jS,ut h.1,F9 (by simpa [dx] using h.2)]
def Ga:∀{l:List (K×U)} {j i:Nat},wD k l j=some i->jS k l=l.eraseIdx (i-j)
 | [],_,_,h=>by cases h
 | e::l,j,i,h=>by
  have hle:=(pk h).1;unfold wD at h;split at h
  ·rename_i hk;cases h;rw[jS,un hk,dd];rfl
  ·rename_i hk;have h2:=(pk h).1;rw[jS,ut hk,Ga h,show i-j=(i-(j+1))+1 by omega,List.eraseIdx_cons_succ]
def lC:∀{l:List (K×U)},(l.map (·.1)).Nodup->jS k l=l.filter λe=>!decide (e.1=k)
 | [],_=>rfl
 | e::l,h=>by
  rw[b6,d5] at h;by_cases hk:k=e.1
  ·rw[jS,un hk,dt,ut (by simp[hk])];symm;rw[List.filter_eq_self];intro x hx;have:x.1≠k:=λhe=>h.1 (by rw[<-hk,<-he];exact ct hx);simp[this]
  ·rw[jS,ut hk,dt,un (by simp;exact λh=>hk h.symm),lC h.2]
def UP(hm:dy P t=some (kt,et))(hk:Keys P kt kv)(hS:S[o]?=some (bD kv uv l))(hf:cU x=some (kv k)):
 MC P S t (.map o) x=some (S.set o (bD kv uv (jS k l))):=by
 unfold MC;rw[hm,m7];simp only;rw[hf,m7,hk.ck,ar,hS];simp only[bD];rw[rQ hk,m6]
 cases hp:wD k l 0 with
 | none=>
  rw[F9 (sa hp)];simp only
  congr 1
  have hlt:=bx hS;apply List.ext_getElem?;intro i;by_cases e:i=o
  ·subst e;rw[aJ hlt,hS];rfl
  ·rw[a7 (λh=>e h.symm)]
 | some i=>
  have:=Ga hp;rw[ci] at this;rw[this];simp only[Option.map_none]
  congr 2
  congr 1
  ·exact(fo _ _ _).symm
  ·exact(fo _ _ _).symm
end
end
def qk:∀(n:Nat) (l:List Nat),l.Nodup->(∀x∈l,x<n)->l.length<=n
 | 0,l,_,h=>by
  cases l with
  | nil=>exact aY _
  | cons a l=>exact ul (h a am) (d1 _)
 | n+1,l,hn,h=>by
  by_cases hm:n∈l
  ·have h1:=qk n (l.erase n) (hn.erase n) (λx hx=>by
    have h2:=(hn.mem_erase_iff.1 hx);have:=h x h2.2;have:=h2.1
    omega)
   rw[List.length_erase_of_mem hm] at h1;have:0<l.length:=List.length_pos_of_mem hm;omega
  ·exact c5 (qk n l hn λx hx=>by
    have:=h x hx;have:x≠n:=λe=>hm (e▸hx)
    omega)
def rj{n j:Nat}{pos:List Nat}(hn:pos.Nodup)(hp:∀x∈pos,x<n)(hj:j<n)(hne:j∉pos):(pos++[j]).Nodup/\(∀x∈pos++[j],x<n)/\pos.length<n:=by
 have h1:(pos++[j]).Nodup:=by
  rw[List.nodup_append];exact⟨hn,by simp,λa ha b hb=>by rw[rx hb];exact λe=>hne (e▸ha)⟩
 have h2:∀x∈pos++[j],x<n:=λx hx=>by
  rcases mem_append.1 hx with hx | hx
  ·exact hp x hx
  ·rw[rx hx];exact hj
 refine⟨h1,h2,?_⟩;have:=qk n _ h1 h2;rw[li] at this;exact this
section
variable {P:Program} {ro:Option Nat} {S S':List SO} {n:Nat} {ds:List kr}
def gC{f1 f2:Fm}:∀{l:List Operand},(∀x∈l,gf f1 x=gf f2 x)->qt f1 l=qt f2 l
 | [],_=>rfl
 | x::l,h=>by rw[qt,qt,h x am,gC λy hy=>h y (be _ hy)]
def qv{f1 f2:Fm}:∀{l:List (Nat×Operand)},(∀x∈l.map (·.2),gf f1 x=gf f2 x)->l8 f1 l=l8 f2 l
 | [],_=>rfl
 | (i,x)::l,h=>by rw[l8,l8,h x am,qv λy hy=>h y (be _ hy)]
def tq{f1 f2:Fm}{o:Option Operand}(h:∀x,o=some x->gf f1 x=gf f2 x):x8 f1 o=x8 f2 o:=by
 cases o with
 | none=>rfl
 | some x=>rw[x8,x8,h x rfl]
def uw:Op->Bool
 | .store _ _ _ | .mapUpdate _ _ _ _ | .insert _ _ _ _ | .call { callee:=.builtin .copy,.. }=>true
 | _=>false
def Nn{f1 f2:Fm}{op:Op}(hrd:(kQ op||uw op)=true)(h:∀x∈op.operands.toList,gf f1 x=gf f2 x):dO P f1 S op=dO P f2 S op:=by
 cases op with
 | move x=>rw[dO,dO,h x (by simp[Op.operands])]
 | assign x=>rw[dO,dO,h x (by simp[Op.operands])]
 | pick c a b=>rw[dO,dO,h c (by simp[Op.operands]),h a (by simp[Op.operands]),h b (by simp[Op.operands])]
 | build tt ps=>rw[dO,dO,qv λx hx=>h x (by simpa [Op.operands] using hx)]
 | nilCheck x=>rw[dO,dO,h x (by simp[Op.operands])]
 | binOp op xt x y yt=>rw[dO,dO,h x (by simp[Op.operands]),h y (by simp[Op.operands])]
 | unOp op xt x=>rw[dO,dO,h x (by simp[Op.operands])]
 | convert s d x=>rw[dO,dO,h x (by simp[Op.operands])]
 | fieldAddr s x fl=>rw[dO,dO,h x (by simp[Op.operands])]
 | field s x fl=>rw[dO,dO,h x (by simp[Op.operands])]
 | indexAddr t x i=>rw[dO,dO,h x (by simp[Op.operands]),h i (by simp[Op.operands])]
 | index t x i=>rw[dO,dO,h x (by simp[Op.operands]),h i (by simp[Op.operands])]
 | extract x i=>rw[dO,dO,h x (by simp[Op.operands])]
 | load t x=>rw[dO,dO,h x (by simp[Op.operands])]
 | lookup t x k ok=>rw[dO,dO,h x (by simp[Op.operands]),h k (by simp[Op.operands])]
 | slice t x lo hi mx=>
  rw[dO,dO,h x (by simp[Op.operands]),tq (o:=lo) λy hy=>h y (by subst hy;simp[Op.operands]),tq (o:=hi) λy hy=>h y (by subst hy;simp[Op.operands]),tq (o:=mx) λy hy=>h y (by subst hy;simp[Op.operands])]
 | makeFunc g first cap=>
  cases g with
  | func g=>rw[dO,dO,gC λx hx=>h x (by simp only[Op.operands,bd,mem_append];exact .inl hx),gC (l:=cap.toList) λx hx=>h x (by simp only[Op.operands,bd,mem_append];exact .inr hx)]
  | method nm=>rw[dO,dO,gC λx hx=>h x (by simp only[Op.operands,bd,mem_append];exact .inl hx),gC (l:=cap.toList) λx hx=>h x (by simp only[Op.operands,bd,mem_append];exact .inr hx)]
  | _=>simp[kQ,uw] at hrd
 | call c=>
  obtain⟨callee,aS,ats⟩:=c
  cases callee with
  | builtin b=>rw[dO,dO,gC λx hx=>h x (by simp only[Op.operands,Call.operands,bd,mem_append];exact .inr hx)]
  | _=>simp[kQ,uw] at hrd
 | store t a x=>rw[dO,dO,h a (by simp[Op.operands]),h x (by simp[Op.operands])]
 | mapUpdate t m k x=>rw[dO,dO,h m (by simp[Op.operands]),h k (by simp[Op.operands]),h x (by simp[Op.operands])]
 | insert t m k x=>rw[dO,dO,h m (by simp[Op.operands]),h k (by simp[Op.operands]),h x (by simp[Op.operands])]
 | _=>simp[kQ,uw] at hrd
def Vs(ol:List Oper):Nat->Nat->List Nat
 | 0,_=>[]
 | k+1,i=>match ol[i]? with
  | some o=>let l:=(o.after.toList.filter dep).map (·.on);l++l.flatMap (Vs ol k)
  | none=>[]
def mi(ol:List Oper)(L:Nat->Prop):Prop:=∀j o,ol[j]?=some o->L j->∀e∈o.after.toList,dep e=true->L e.on
def Od{ol:List Oper}{L:Nat->Prop}(hc:mi ol L):∀{k i:Nat},(∀o,ol[i]?=some o->∀e∈o.after.toList,dep e=true->L e.on)->∀j∈Vs ol k i,L j
 | 0,i,_,j,h=>by cases h
 | k+1,i,hi,j,h=>by
  rw[Vs] at h
  cases ho:ol[i]? with
  | none=>rw[ho] at h;cases h
  | some o=>
   rw[ho] at h;simp only[mem_append,mem_map,List.mem_flatMap] at h
   rcases h with⟨e,he,rfl⟩ | ⟨x,⟨e,he,rfl⟩,hx⟩
   ·obtain⟨h1,h2⟩:=mem_filter.1 he;exact hi o ho e h1 h2
   ·obtain⟨h1,h2⟩:=mem_filter.1 he;have hl:=hi o ho e h1 h2;exact Od hc (i:=e.on) (λo' ho'=>hc e.on o' ho' hl) j hx
def vo(L:Nat->Prop)(i:Nat)(v:SV):SV:=@ite _ (L i) (Classical.propDecidable _) v .any
def cg{L:Nat->Prop}{i:Nat}{v:SV}(h:L i):vo L i v=v:=un h
def nF{L:Nat->Prop}{i:Nat}{v:SV}(h:¬L i):vo L i v=.any:=ut h
def aR.num{all l:List Oper}{st:eR}{K:eR->Prop}(h:aR P ro all l st K):aR P ro all l st (λx=>K x/\x.n=st.n):=
 λρ0 h0 ast hs=>(h ρ0 h0 ast hs).mono λ_ ⟨x,k1,k2,k3⟩=>⟨x,⟨k1,k2⟩,k2,k3⟩
def aE.post{c:Code}{st:eR}{Q:Ex->eR->Prop}(h:aE P ro c st λe x=>∃x',Fg x x'/\Q e x'):aE P ro c st Q:=
 λρ0 h0 ast hs=>(h ρ0 h0 ast hs).mono λ_ _ ⟨_,⟨x',hf,hq⟩,hn,hst⟩=>⟨x',hq,hf.1.trans hn,hf.2 _ _ _ hst⟩
end
section
variable {P:Program} {ro:Option Nat} {S S':List SO} {n:Nat} {ds:List kr} {f f':Fm}
def Q4(W:List SO)(o:Nat):List SO->List SO->Nat->Prop
 | _,[],_=>True
 | s::S,s'::S',i=>(s'=.gone\/(i≠o/\(s'=s\/∃cs cs',s=.cells cs/\s'=.cells cs'/\bm W cs cs')))/\Q4 W o S S' (i+1)
 | [],_::_,_=>False
def Dn{W:List SO}{o:Nat}:∀{S S':List SO} {i:Nat},Q4 W o S S' i->∀(p:Nat) s',S'[p]?=some s'->s'≠.gone->i+p≠o/\∃s,S[p]?=some s/\s≠.gone/\(s'=s\/∃cs cs',s=.cells cs/\s'=.cells cs'/\bm W cs cs')
 | _,[],_,_,p,s',h,_=>by simp at h
 | s::S,t::S',i,hh,0,s',h,hg=>by
  simp only[a6,qr] at h;subst h;obtain⟨h1,h2⟩:=hh.1.resolve_left hg;refine⟨h1,s,rfl,?_,h2⟩
  rcases h2 with h2 | ⟨cs,cs',h2,h3,_⟩
  ·rw[<-h2];exact hg
  ·rw[h2];exact λh=>by cases h
 | s::S,t::S',i,hh,p+1,s',h,hg=>by
  simp only[ay] at h ⊢;obtain⟨h1,h2⟩:=Dn hh.2 p s' h hg;exact⟨by omega,h2⟩
 | [],_::_,_,hh,_,_,_,_=>hh.elim
def Fg.mr(o:Nat){so:SO}(hS:S[o]?=some so)(hg:so≠.gone)(hf:yN (mf o so) f f')(hO:Q4 (mf o so) o S S' 0):Fg ⟨f,n,S,ds⟩ ⟨f',n,S',ds⟩:=by
 refine⟨rfl,?_⟩;rintro ρ0 h0 ⟨af,n',h,ds'⟩ ⟨rfl,rfl,θ,ρ,hR,hF⟩
 have hsub:∀(p:Nat) (s:SO),(mf o so)[p]?=some s->s≠.gone->S[p]?=some s:=by
  intro p s h1 h2;obtain⟨rfl,rfl⟩:=sb h1 h2;exact hS
 have hR1:=hR.sub hsub
 have hset:∀(p:Nat) (s:SO),S'[p]?=some s->s≠.gone->p≠o/\∃s0,S[p]?=some s0/\s0≠.gone/\(s=s0\/∃cs cs',s0=.cells cs/\s=.cells cs'/\bm (mf o so) cs cs'):=by
  intro p s h1 h2;have:=Dn hO p s h1 h2
  rwa [b7] at this
 have hm:∀id ob,ρ id=some ob->pq θ ρ h (mf o so) id=some ob:=λid ob hi=>rk hi
 have key:∀id ob,pq θ ρ h (mf o so) id=some ob->ρ id=some ob\/id=(θ o).id:=by
  intro id ob hi;unfold pq at hi
  cases hr:ρ id with
  | some ob'=>rw[hr] at hi;exact .inl hi
  | none=>
   rw[hr] at hi;simp only at hi;split at hi
   ·rename_i hex;obtain⟨p,s,q1,q2,rfl⟩:=hex;obtain⟨rfl,_⟩:=sb q1 q2;exact .inr rfl
   ·cases hi
 refine⟨rfl,rfl,θ,pq θ ρ h (mf o so),⟨hR.ok,hR.nx,hR.ob,hR.fm,hR.lw,hR.ln,?_,?_,?_,?_⟩,λi=>?_,hF.u⟩
 ·intro p s h1 h2;obtain⟨_,s0,g1,g2,g3⟩:=hset p s h1 h2;obtain⟨k,k2⟩:=hR.obj p s0 g1 g2;refine⟨k,?_⟩
  rcases g3 with rfl | ⟨cs,cs',rfl,rfl,hw⟩
  ·exact k2.mono hm rfl rfl
  ·obtain⟨aS,q1,q2,q3⟩:=k2;exact⟨aS,q1,(hw.ok hR1 q2).vs,q3⟩
 ·intro p q s s' hpq h1 h2 h3 h4;obtain⟨_,s0,g1,g2,_⟩:=hset p s h1 h2;obtain⟨_,s1,g3,g4,_⟩:=hset q s' h3 h4;exact hR.sep p q s0 s1 hpq g1 g2 g3 g4
 ·intro id ob hi;obtain⟨r1,r2⟩:=qm hR1 id ob hi;refine⟨r1,r2,λp s h1 h2=>?_⟩;obtain⟨hp,s0,g1,g2,_⟩:=hset p s h1 h2
  rcases key id ob hi with e | e
  ·exact(hR.row id ob e).2.2 p s0 g1 g2
  ·subst e;have sp:=hR.sep p o s0 so hp g1 g2 hS hg;obtain⟨k,_⟩:=hR.obj o so hS hg
   rcases k.e with e | e<;>rw[e]
   ·exact⟨sp.xx.symm,sp.yx.symm⟩
   ·exact⟨sp.xy.symm,sp.yy.symm⟩
 ·intro id ob hi
  rcases key id ob hi with e | e
  ·exact hR.mP id ob e
  ·subst e;obtain⟨k,_⟩:=hR.obj o so hS hg;exact .inr (by rcases k.e with e | e<;>rw[e];exact k.x.1;exact k.y.1)
 ·rcases hf.get i with e | e
  ·rw[e];exact(hF.v i).mono hm
  ·exact(e.ok hR1 (hF.v i)).vs
def Fg.Vn(hO:Q4 [] S.length S S' 0):Fg ⟨f,n,S,ds⟩ ⟨f,n,S',ds⟩:=by
 refine⟨rfl,?_⟩;rintro ρ0 h0 ⟨af,n',h,ds'⟩ ⟨rfl,rfl,θ,ρ,hR,hF⟩
 have hset:∀(p:Nat) (s:SO),S'[p]?=some s->s≠.gone->∃s0,S[p]?=some s0/\s0≠.gone/\(s=s0\/∃cs cs',s0=.cells cs/\s=.cells cs'/\bm [] cs cs'):=by
  intro p s h1 h2;exact(Dn hO p s h1 h2).2
 refine⟨rfl,rfl,θ,ρ,⟨hR.ok,hR.nx,hR.ob,hR.fm,hR.lw,hR.ln,?_,?_,?_,hR.mP⟩,hF⟩
 ·intro p s h1 h2;obtain⟨s0,g1,g2,g3⟩:=hset p s h1 h2;obtain⟨k,k2⟩:=hR.obj p s0 g1 g2;refine⟨k,?_⟩
  rcases g3 with rfl | ⟨cs,cs',rfl,rfl,hw⟩
  ·exact k2
  ·obtain⟨aS,q1,q2,q3⟩:=k2;have:=hw.ok hR.Eh q2;rw[AN] at this;exact⟨aS,q1,this.vs,q3⟩
 ·intro p q s s' hpq h1 h2 h3 h4;obtain⟨s0,g1,g2,_⟩:=hset p s h1 h2;obtain⟨s1,g3,g4,_⟩:=hset q s' h3 h4;exact hR.sep p q s0 s1 hpq g1 g2 g3 g4
 ·intro id ob hi;obtain⟨r1,r2,r3⟩:=hR.row id ob hi;refine⟨r1,r2,λp s h1 h2=>?_⟩;obtain⟨s0,g1,g2,_⟩:=hset p s h1 h2;exact r3 p s0 g1 g2
def wo(L:Nat->Prop)(i:Nat)(so:SO):SO:=@ite _ (L i) (Classical.propDecidable _) so .gone
def ma{L:Nat->Prop}{i:Nat}{so:SO}(h:L i):wo L i so=so:=un h
def fz{L:Nat->Prop}{i:Nat}{so:SO}(h:¬L i):wo L i so=.gone:=ut h
def aZ(L:Nat->Prop)(i k:Nat)(v:SV):vo (λj=>L j\/j=i) k v=if k=i then v else vo L k v:=by
 by_cases h:k=i
 ·rw[un h];exact cg (.inr h)
 ·rw[ut h];by_cases hl:L k
  ·rw[cg hl];exact cg (.inl hl)
  ·rw[nF hl];exact nF λe=>e.elim hl h
def cN(L:Nat->Prop)(i k:Nat)(so:SO):wo (λj=>L j\/j=i) k so=if k=i then so else wo L k so:=by
 by_cases h:k=i
 ·rw[un h];exact ma (.inr h)
 ·rw[ut h];by_cases hl:L k
  ·rw[ma hl];exact ma (.inl hl)
  ·rw[fz hl];exact fz λe=>e.elim hl h
def j6(o:Nat)(L:Nat->Prop)(i:Nat)(so:SO):cI o (wo L i so)=wo L i (cI o so):=by
 by_cases hl:L i
 ·rw[ma hl,ma hl]
 ·rw[fz hl,fz hl];rfl
def rl(r:Nat->Nat)(L:Nat->Prop)(i:Nat)(v:SV):fG r (vo L i v)=vo L i (fG r v):=by
 by_cases hl:L i
 ·rw[cg hl,cg hl]
 ·rw[nF hl,nF hl,fG]
def sE(r:Nat->Nat)(L:Nat->Prop)(i:Nat)(so:SO):qo r (wo L i so)=wo L i (qo r so):=by
 by_cases hl:L i
 ·rw[ma hl,ma hl]
 ·rw[fz hl,fz hl];rfl
def cr(o:Nat)(L:Nat->Prop)(i:Nat)(v:SV)(h:names o v=false):names o (vo L i v)=false:=by
 by_cases hl:L i
 ·rw[cg hl];exact h
 ·rw[nF hl];simp[names]
def vA(i:Nat)(v:SV):vo (λ_=>False) i v=.any:=nF λh=>h
def yK(i:Nat)(so:SO):wo (λ_=>False) i so=.gone:=fz λh=>h
end
section
variable {θ θ':Nat->Loc} {ρ ρ0 ρ':kG} {P:Program} {h0:En} {h h1:H} {S S' S0:List SO}
def yP(P:Program)(n:Nat):List kr->Fm->List SO->(Fm->List SO->Prop)->Prop
 | [],f,S,K=>K f S
 | d::ds,f,S,K=>∃f2,vE f f2/\GU (7000000+ds.length) f2=true/\((d.fn=none/\∃o:Nat,S[o]?=some (.nd d.FU)/\yP P n ds f2 (S.set o .gone) K)\/
  ∃(g:FuncId) (first cap:List SV) (fn:Func) (c:Code) (m:Nat),d.fn=some (.func g)/\aP f (7000000+ds.length)=.fn g first cap/\P.funcs[g]?=some fn/\fn.body=some c/\(first++cap).length+(fn.ntmps-(first++cap).length)=m/\m<=1000000/\
   aE P none c ⟨lA 0 (first++cap)++QX laid f2,m,S,[]⟩ λe st=>kM e=true/\st.ds=[]/\(∃vs,po P st.f st.S fn.results.toList=some vs)/\yP P n ds (zf laid st.f) st.S K)
def KB{aS:List AV}:∀(o:Option (List AV)),o=some aS->o.map (λvs=>match vs with | [v]=>v | vs=>AV.cq vs)=some (QO aS):=by
 rintro _ rfl
 match aS with
 | []=>rfl
 | [_]=>rfl
 | _::_::_=>rfl
def FR.pop{f f2:Fm}{af:Nat->AV}{n:Nat}{w:Nat->AV}{d:kr}{ds:List kr}(hF:FR θ ρ (aP f) af n (IC w (d::ds)))(hh:vE f f2)(hl:GU (7000000+ds.length) f2=true):FR θ ρ (aP f2) af n (IC w ds):=by
 refine⟨λi=>?_,λi hi=>by have:=hF.u i hi;rw[yJ _ _ ii] at this ⊢;exact this⟩
 rcases hh.get i with e | e
 ·have hv:=hF.v i;rw[e];by_cases hin:i<n
  ·rw[un hin] at hv ⊢;exact hv
  rw[ut hin] at hv ⊢;by_cases h1:i<7000000
  ·rw[yJ _ _ h1] at hv ⊢;exact hv
  ·by_cases h2:i-7000000<ds.length
   ·cases ds with
    | nil=>simp at h2
    | cons d' ds=>
     rw[IC,un ii,ON h2] at hv;rw[IC,un ii];exact hv
   ·have e2:=Ax hl (show 7000000+ds.length<=i by omega);rw[<-e,e2,VS];trivial
 ·rw[e,VS];trivial
def rJ{n:Nat}{af:Nat->AV}{K:Fm->List SO->Prop}(hn:n<=1000000):∀(ds:List kr) (f:Fm) (S:List SO) (h:H) (θ:Nat->Loc) (ρ:kG),yP P n ds f S K->RS θ ρ0 ρ h0 h S->FR θ ρ (aP f) af n (IC h0.w ds)->
 FI P ds h λh''=>∃f' S' θ' ρ',K f' S'/\RS θ' ρ0 ρ' h0 h'' S'/\FR θ' ρ' (aP f') af n h0.w
 | [],f,S,h,θ,ρ,hl,hR,hF=>⟨f,S,θ,ρ,hl,hR,hF⟩
 | d::ds,f,S,h,θ,ρ,hl,hR,hF=>by
  obtain⟨f2,hh,hlow,hl⟩:=hl;have hF2:=hF.pop hh hlow;rw[FI]
  rcases hl with⟨hdf,o,hS,hl⟩ | ⟨g,first,cap,fn,c,m,hdf,hfv,hfn,hb,hm,hm1,hl⟩
  ·rw[hdf];obtain⟨_,hid,hob⟩:=hR.obj o _ hS (λe=>by cases e);rw[hid] at hob;refine⟨hob,rJ hn ds f2 _ _ θ ρ hl ?_ hF2⟩;rw[<-hid];exact hR.put hS (λe=>by cases e) trivial
  ·rw[hdf];have hv:=hF.v (7000000+ds.length);rw[hfv,ut ii] at hv;rw[IC,un ii,Nat.add_sub_cancel_left,Ru hdf,VS] at hv;obtain⟨xs,ys,e,kx,ky⟩:=hv;simp only[AV.fn.injEq,true_and] at e;obtain⟨e1,e2⟩:=e
   have kall:da θ ρ (first++cap) (d.args++d.cap):=by rw[e1,e2];exact kx.app ky
   have hlen:=kall.length;refine⟨fn,c,m,hfn,hb,by rw[hlen];exact hm,?_⟩
   obtain⟨w',hw'⟩:∃w':Nat->AV,w'=λi=>if laid<=i then (if i-laid<n then af (i-laid) else IC h0.w ds (i-laid)) else mg:=⟨_,rfl⟩
   have hvl:(first++cap).length<=m:=by omega
   have hst1:jQ ρ0 { h0 with w:=w' } ⟨lA 0 (first++cap)++QX laid f2,m,S,[]⟩ ⟨sn (d.args++d.cap),m,h,[]⟩:=by
    refine⟨rfl,rfl,θ,ρ,hR.w _,λi=>?_,λi hi=>?_⟩
    ·by_cases hi:i<(first++cap).length
     ·obtain⟨w,hw⟩:=yS (first++cap) 0 i (Nat.zero_le _) ii;show VS θ ρ (aP (lA 0 (first++cap)++QX laid f2) i) _;rw[vQ _ _ _ hw,tL,un (Nat.zero_le _),Nat.sub_zero,jp hi];obtain⟨a,ha,ka⟩:=kall.get (jp hi)
      have hil:i<m:=by omega
      rw[un hil]
      have e:sn (d.args++d.cap) i=a:=by unfold sn;rw[ha]
      show VS θ ρ (first++cap)[i] (sn (d.args++d.cap) i);rw[e];exact ka
     ·show VS θ ρ (aP (lA 0 (first++cap)++QX laid f2) i) _;rw[ua _ _ _ (λv=>vJ (first++cap) 0 i v ii),uc];by_cases hb:laid<=i
      ·rw[un hb,ut (show ¬i<m by unfold laid at hb;omega)];show VS θ ρ _ (w' i);rw[hw'];simp only;rw[un hb];exact hF2.v (i-laid)
      ·rw[ut hb,VS];trivial
    ·show w' i=mg;rw[hw'];simp only;rw[ut (by unfold laid;omega)]
   refine(hl ρ0 _ _ hst1).mono ?_;rintro ex ⟨af2,n2,h2,ds2⟩ ⟨st,⟨he,hds,⟨vs,hres⟩,hK⟩,hn2,e3,e4,θ2,ρ2,hR2,hF3⟩;simp only at e3 e4 hR2 hF3 hn2;rw[hds] at e4;subst e4;subst e3;obtain⟨aS,k1,k2⟩:=uM hR2 hF3 hres;refine⟨he,rfl,⟨QO aS,KB _ k1⟩,?_⟩;refine rJ hn ds _ _ _ θ2 ρ2 hK (hR2.w h0.w) ⟨λi=>?_,hF2.u⟩;rw[ub];have:=hF3.v (laid+i);rw[ut (by rw[hn2];unfold laid;omega)] at this
   have e5:IC w' [] (laid+i)=if i<n then af i else IC h0.w ds i:=by
    show w' (laid+i)=_;rw[hw'];simp only;rw[un ii,Nat.add_sub_cancel_left]
   rw[e5] at this;exact this
def FI.mono{K K':H->Prop}:∀(ds:List kr) (h:H),FI P ds h K->(∀h,K h->K' h)->FI P ds h K'
 | [],h,hl,hk=>hk h hl
 | d::ds,h,hl,hk=>by
  rw[FI] at hl ⊢
  cases hdf:d.fn with
  | none=>
   rw[hdf] at hl;exact⟨hl.1,FI.mono ds _ hl.2 hk⟩
  | some f=>
   rw[hdf] at hl
   cases f with
   | func g=>
    obtain⟨fn,c,m,q1,q2,q3,q4⟩:=hl;exact⟨fn,c,m,q1,q2,q3,q4.mono λe st ⟨a1,a2,a3,a4⟩=>⟨a1,a2,a3,FI.mono ds _ a4 hk⟩⟩
   | _=>exact hl.elim
def Q6(P:Program)(fn:Func)(Q:SV->Prop):Ex->eR->Prop:=λe st=>kM e=true/\yP P st.n st.ds st.f st.S λf S=>∃vs r,po P f S fn.results.toList=some vs/\Wk S (eI vs) r/\Q r
def VK(P:Program)(fn:Func)(K:Nat)(mv:List Nat)(Q:SV->List SO->Prop):Ex->eR->Prop:=λe st=>kM e=true/\yP P st.n st.ds st.f st.S λf S=>(∃vs,po P f S fn.results.toList=some vs/\Q (eI vs) S)/\K<=S.length/\∀i,i<K->i∉mv->aP f (1000000+i)=.ptr i 0
def PC.tQ(hng:tG P){g:FuncId}{fn:Func}{c:Code}{args:List SV}{Q:SV->Prop}(hf:P.funcs[g]?=some fn)(hb:fn.body=some c){n:Nat}(hn:args.length+(fn.ntmps-args.length)=n)(hlim:n<=1000000)
 (hw:aE P none c ⟨lA 0 args,n,[],[]⟩ (Q6 P fn Q)):PC P g args Q:=by
 intro ρ h avs hρ hA;have hlen:=hA.length;refine ef.tQ (n:=n) hng hf hb (by rw[hlen];exact hn) ?_
 have hst:jQ ρ ⟨{ h with low:=h.next },λj=>j<h.next,λj=>j<h.next,h.next,λ_=>mg⟩ ⟨lA 0 args,n,[],[]⟩ ⟨sn avs,n,{ h with low:=h.next },[]⟩:=by
  refine⟨rfl,rfl,λ_=>⟨0,0,0,0⟩,ρ,⟨⟨λj hj=>hj,λj hj=>hj,λj hj=>aj hj,aY _⟩,aY _,λ_ _=>rfl,λ_ _=>rfl,aY _,aY _,λo so h=>by simp at h,λo o' so so' _ h=>by simp at h,λid ob hi=>⟨(hρ id ob hi).1,(hρ id ob hi).2,λo so h=>by simp at h⟩,λid ob hi=>.inl hi⟩,?_,λ_ _=>rfl⟩;intro i;rw[tL,un (ce _),ci];by_cases hi:i<args.length
  ·rw[jp hi];obtain⟨a,ha,ka⟩:=hA.get (jp hi)
   have hil:i<n:=by omega
   rw[un hil]
   have e:sn avs i=a:=by unfold sn;rw[ha]
   show VS _ _ args[i] (sn avs i);rw[e];exact ka.vs
  ·rw[ba ii];simp only;rw[VS];trivial
 refine(hw ρ _ _ hst).mono ?_;rintro e ⟨af,n',h',ds'⟩ ⟨st,⟨h1,hl⟩,h6,h7,h8,θ,ρ',hR,hF⟩;simp only at h6 h7 h8 hR hF;subst h7;rw[<-h8] at hl;refine⟨h1,?_⟩;have hlv:=rJ (by rw[h6];exact hlim) ds' st.f st.S h' θ ρ' hl hR hF;refine FI.mono ds' h' hlv ?_;rintro h'' ⟨f',S',θ',ρ'',⟨vs,r,h3,h4,h5⟩,hR',hF'⟩;obtain⟨aS,k1,k2⟩:=uM hR' hF' h3;refine⟨QO aS,KB _ k1,r,pq θ' ρ'' h'' S',h5,⟨hR'.nx,λj hj=>hR'.ob j hj,λj hj=>hR'.fm j hj,λhl=>?_⟩,?_,h4.ok hR' (LM k2)⟩
 ·have:h.next<=h''.low:=hR'.lw;show iA h.low h''.low=h.low;exact wq (bc hl this)
 ·intro id ob hi;have hlt:=qm hR' id ob hi;unfold pq at hi
  cases hr:ρ'' id with
  | some ob'=>
   rw[hr] at hi;cases hi
   rcases hR'.mP id _ hr with e | e
   ·exact .inl e
   ·exact .inr ⟨aj e,hlt.1,hlt.2⟩
  | none=>
   rw[hr] at hi;simp only at hi;split at hi
   ·rename_i hex;obtain⟨o,so,q1,q2,rfl⟩:=hex;obtain⟨k,_⟩:=hR'.obj o so q1 q2;exact .inr ⟨aj (by rcases k.e with e | e<;>rw[e];exact k.x.1;exact k.y.1),hlt.1,hlt.2⟩
   ·cases hi
def SC.tQ(hng:tG P){g:FuncId}{fn:Func}{c:Code}{args:List SV}{mv:List Nat}{Q:SV->List SO->Prop}(hf:P.funcs[g]?=some fn)(hb:fn.body=some c){n:Nat}(hn:args.length+(fn.ntmps-args.length)=n)(hlim:n<=1000000){W:Fm}(hW:W=oI S0.length)(hK:S0.length<=1000000)
 (hw:aE P none c ⟨lA 0 args++W,n,S0,[]⟩ (VK P fn S0.length mv Q)):SC P g args S0 mv Q:=by
 intro E θ ρ h avs hE hR hA;subst hW;have hlen:=hA.length;refine ef.tQ (n:=n) hng hf hb (by rw[hlen];exact hn) ?_
 have hst:jQ ρ { E with w:=λi=>if 1000000<=i/\i<1000000+S0.length then .ptr (some ((θ (i-1000000)).id,0)) else mg } ⟨lA 0 args++oI S0.length,n,S0,[]⟩ ⟨sn avs,n,{ h with low:=h.next },[]⟩:=by
  refine⟨rfl,rfl,θ,ρ,?_,?_,λi hi=>ut (λh=>by omega)⟩
  ·rw[<-hE]
   exact⟨⟨hR.ok.pr,hR.ok.pf,hR.ok.lo,hR.ok.ln⟩,hR.nx,hR.ob,hR.fm,hR.lw,hR.ln,λo so h1 h2=>by
    obtain⟨⟨k1,k2,k3,k4⟩,k5⟩:=hR.obj o so h1 h2
    exact⟨⟨k1,k2,k3,k4⟩,k5⟩,hR.sep,hR.row,hR.mP⟩
  ·intro i;by_cases hi:i<args.length
   ·obtain⟨w,hw⟩:=yS args 0 i (ce _) ii;show VS θ ρ (aP (lA 0 args++oI S0.length) i) _;rw[vQ _ _ _ hw,tL,un (ce _),ci,jp hi];obtain⟨a,ha,ka⟩:=hA.get (jp hi)
    have hil:i<n:=by omega
    rw[un hil]
    have e:sn avs i=a:=by unfold sn;rw[ha]
    show VS θ ρ args[i] (sn avs i);rw[e];exact ka
   ·show VS θ ρ (aP (lA 0 args++oI S0.length) i) _;rw[ua _ _ _ (λv=>vJ args 0 i v ii)];unfold oI;rw[Gg];by_cases hc:i≥1000000/\(i-1000000)∈bv S0.length
    ·have h1:=hc.1;have h2:=mem_range.1 hc.2;rw[un hc,ut (show ¬i<n by omega),VS];exact un ⟨h1,by omega⟩
    ·rw[ut hc,VS];trivial
 refine(hw ρ _ _ hst).mono ?_;rintro e ⟨af,n',h',ds'⟩ ⟨st,⟨h1,hl⟩,h6,h7,h8,θ',ρ',hR',hF⟩;simp only at h7 h8 hR' hF h6;subst h7;rw[<-h8] at hl;refine⟨h1,?_⟩;have hlv:=rJ (by rw[h6];exact hlim) ds' st.f st.S h' θ' ρ' hl hR' hF;refine FI.mono ds' h' hlv ?_;rintro h'' ⟨f',S',θ'',ρ'',⟨⟨vs,h3,h5⟩,hK2,hwt⟩,hR2,hF2⟩;obtain⟨aS,k1,k2⟩:=uM hR2 hF2 h3;refine⟨QO aS,KB _ k1,eI vs,S',θ'',ρ'',h'',h5,rfl,?_,LM k2,hK2,?_⟩
 ·exact⟨hR.ok,hR2.nx,hR2.ob,hR2.fm,hR2.lw,hR2.ln,λo so h1 h2=>by
   obtain⟨⟨k1,k2,k3,k4⟩,k5⟩:=hR2.obj o so h1 h2
   exact⟨⟨k1,k2,k3,k4⟩,k5⟩,hR2.sep,hR2.row,hR2.mP⟩
 ·intro i hi hm;have:=hF2.v (1000000+i);rw[hwt i hi hm,ut (show ¬1000000+i<st.n by omega),VS] at this;have e2:=this.symm.trans (un ⟨by omega,by omega⟩);rw[ax] at e2;simp only[AV.ptr.injEq,qr,m8,and_true] at e2;exact e2
end
section
variable {P:Program} {ro:Option Nat}
def aR.mono{all l:List Oper}{st:eR}{K K':eR->Prop}(h:aR P ro all l st K)(hk:∀x,K x->K' x):aR P ro all l st K':=
 λρ0 h0 ast hs=>(h ρ0 h0 ast hs).mono λ_ ⟨x,k1,k2⟩=>⟨x,hk x k1,k2⟩
def FE(P:Program)(ro:Option Nat)(ol:List Oper):Nat->List Oper->eR->(eR->Prop)->Prop
 | _,[],x,K=>K x
 | i,o::l,x,K=>aR P ro (ol.take (i+1)) [o] x λx'=>FE P ro ol (i+1) l x' K
def aE.xm{id:Nat}{ops:Array Oper}{st:eR}{Q:Ex->eR->Prop}{ol:List Oper}(m fuel:Nat)(F1:(Nat->Prop)->eR)(hol:ops.toList=ol)(hok:(lQ 0 ol&&P.follows .mixedOrders)=true) (hgd:(ol.zipIdx.all λp=>match p.1.guard with
 | none=>true
 | some (j,_)=>blt j p.2)=true) (hm:m<ol.length)
 (hanc:((bv ol.length).all λi=>blt i m||(bv i).all λk=>(Vs ol fuel i).contains k)=true) (h0:Fg st (F1 λ_=>False)) (hn:∀L,(F1 L).n=st.n)
 (hpre:∀L i o,i<m->mi ol L->Vr ol L i o->aR P ro (ol.take (i+1)) [o] (F1 L) λx=>Fg x (F1 λj=>L j\/j=i))
 (htail:FE P ro ol m (ol.drop m) (F1 λj=>j<m) (Q .normal)):aE P ro (.region id ops true) st Q:=by
 have hgd2:∀(i:Nat) (o:Oper),ol[i]?=some o->∀(j:Nat) (b:Bool),o.guard=some (j,b)->j<i:=by
  intro i o ho j b hg;have:=all_eq_true.1 hgd (o,i) (List.mem_iff_getElem?.2 ⟨i,by rw[List.getElem?_zipIdx,ho];simp⟩);simp only[hg] at this;exact gp this
 have hA:∀{L:Nat->Prop} {i k:Nat},mi ol L->(∀o,ol[i]?=some o->∀e∈o.after.toList,dep e=true->L e.on)->i<ol.length->m<=i->k<i->L k:=by
  intro L i k hc hd hi hmi hk;have h1:=all_eq_true.1 hanc i (mem_range.2 hi);rw[d2] at h1
  rcases h1 with h1 | h1
  ·have:=gp h1;omega
  ·have:=all_eq_true.1 h1 k (mem_range.2 hk);exact Od hc hd k (List.contains_iff_mem.1 this)
 refine aE.any hol hok (.inr hgd2) (λL x=>x.n=st.n/\(∀k,L k->k<ol.length)/\mi ol L/\((¬L m/\Fg x (F1 L))\/∃t,m<t/\t<=ol.length/\(∀k,L k↔k<t)/\FE P ro ol t (ol.drop t) x (Q .normal))) ⟨rfl,λ_ h=>h.elim,λ_ _ _ h=>h.elim,.inl ⟨λh=>h,h0⟩⟩ (λL x h=>h.1) ?_ ?_
 ·rintro L x i o ⟨hxn,hlt,hc,hx⟩ hr;have hil:i<ol.length:=bx hr.gX;have hlt2:∀k,(L k\/k=i)->k<ol.length:=λk h=>h.elim (hlt k) (λe=>e▸hil)
  have hc2:mi ol (λj=>L j\/j=i):=by
   intro j o' ho' hj e he hd
   rcases hj with hj | rfl
   ·exact .inl (hc j o' ho' hj e he hd)
   ·have:=hr.gX;rw[ho'] at this;cases this;exact .inl (hr.dep e he hd)
  have hdi:∀o',ol[i]?=some o'->∀e∈o'.after.toList,dep e=true->L e.on:=by
   intro o' ho' e he hd;have:=hr.gX;rw[ho'] at this;cases this;exact hr.dep e he hd
  have hdrop:ol.drop i=o::ol.drop (i+1):=by
   rw[b0 hil]
   congr 1
   have:=hr.gX;rw[jp hil] at this;exact Option.some.inj this
  rcases hx with⟨hnm,hfg⟩ | ⟨t,hmt,htl,hL,hch⟩
  ·refine aR.fg hfg ?_;by_cases him:i<m
   ·refine aR.mono (aR.num (hpre L i o him hc hr)) ?_;rintro x' ⟨h1,h2⟩;exact⟨by rw[h2,hn],hlt2,hc2,.inl ⟨λh=>h.elim hnm ii,h1⟩⟩
   ·have hie:i=m:=by
     refine Decidable.byContradiction λhne=>hnm ?_;exact hA hc hdi hil ii ii
    subst hie
    have hLe:L=λj=>j<i:=by
     funext k;refine propext ⟨λhk=>?_,λhk=>hA hc hdi hil (aY _) hk⟩;refine Decidable.byContradiction λhge=>?_;by_cases e:k=i
     ·subst e;exact hr.new hk
     ·exact hr.new (hA hc (λo' ho'=>hc k o' ho' hk) (hlt k hk) ii ii)
    rw[hLe];rw[hdrop,FE] at htail;refine aR.mono (aR.num htail) ?_;rintro x' ⟨h1,h2⟩;refine⟨by rw[h2,hn],λk hk=>hk.elim (λh=>by omega) (λh=>by omega),by rw[hLe] at hc2;exact hc2,.inr ⟨i+1,by omega,hil,λk=>⟨λh=>h.elim (λh=>by omega) (λh=>by omega),λh=>?_⟩,h1⟩⟩;by_cases e:k=i
    ·exact .inr e
    ·exact .inl (by show k<i;omega)
  ·have hit:i=t:=by
    have h1:¬i<t:=λh=>hr.new ((hL i).2 h);refine Decidable.byContradiction λhne=>?_;have:=(hL t).1 (hA hc hdi hil ii ii);omega
   subst hit;rw[hdrop,FE] at hch;refine aR.mono (aR.num hch) ?_;rintro x' ⟨h1,h2⟩;refine⟨by rw[h2,hxn],hlt2,hc2,.inr ⟨i+1,by omega,hil,λk=>⟨λh=>h.elim (λh=>by have:=(hL k).1 h;omega) (λh=>by omega),λh=>?_⟩,h1⟩⟩;by_cases e:k=i
   ·exact .inr e
   ·exact .inl ((hL k).2 ii)
 ·rintro L x ⟨hxn,hlt,hc,hx⟩ hall
  rcases hx with⟨hnm,_⟩ | ⟨t,hmt,htl,hL,hch⟩
  ·exact ul (hall m hm) hnm
  ·have:t=ol.length:=by
    refine Decidable.byContradiction λhne=>?_;have:=(hL t).1 (hall t ii);omega
   subst this;rw[dl] at hch;exact hch
end
end
end Go.Ev
