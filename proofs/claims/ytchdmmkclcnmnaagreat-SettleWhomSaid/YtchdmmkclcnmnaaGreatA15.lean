/- Lemmas of this claim, each with its conditions. -/
import Derived.Test.YtchdmmkclcnmnaaGreatA14
import Derived.Test.YtchdmmkclcnmnaaGreatA8
set_option linter.all false
open List (mem_range mem_cons mem_map ofFn)
open Nat (beq ble)
open List renaming getElem?_eq_getElem -> aa, mem_cons_of_mem -> ax, mem_cons_self -> ay, getElem?_cons_succ -> a7, getElem?_map -> a8, replicate -> a9, getElem_mem -> bb, length_cons -> bc, getElem_of_mem -> bd, getElem?_ofFn -> be, length_ofFn -> bi, range -> bk
open Bool renaming and_eq_true -> ac
open Nat renaming le_of_not_lt -> aj, lt_of_lt_of_le -> al, le_trans -> ap, add_sub_cancel_left -> a6, le_refl -> ba, zero_add -> bt
open Array renaming getElem?_eq_getElem -> a0
open Option renaming map_some -> bh, bind_some -> bo
namespace Go.Ev
noncomputable section
section
variable {θ θ':Nat->Loc} {ρ ρ0 ρ':kg} {P:Program} {h0:En} {h h1:H} {S S' S0:List SO}
def ov(K:Nat):Fm:=(bk K).map λi=>(1000000+i,SV.ptr i 0)
def FH(g:Nat->SV):∀(l:List Nat) (j:Nat),aX (l.map λi=>(1000000+i,g i)) j=if j≥1000000/\(j-1000000)∈l then g (j-1000000) else .any
 | [],j=>by simp[aX]
 | i::l,j=>by
  show(if 1000000+i=j then g i else aX (l.map λi=>(1000000+i,g i)) j)=_;rw[FH g l j];by_cases h:1000000+i=j
  ·subst h;rw[ul rfl,ul ⟨by omega,by rw[a6];exact ay⟩,a6]
  ·rw[un h];by_cases h2:j≥1000000/\(j-1000000)∈l
   ·rw[ul h2,ul ⟨h2.1,ax _ h2.2⟩]
   ·rw[un h2,un];rintro⟨h3,h4⟩
    rcases mem_cons.1 h4 with e | e
    ·omega
    ·exact h2 ⟨h3,e⟩
def tn:∀(f g:Fm) (j:Nat),(∀v,(j,v)∉f)->aX (f++g) j=aX g j
 | [],g,j,_=>rfl
 | (d,v)::f,g,j,h=>by
  show(if d=j then v else aX (f++g) j)=_;rw[un (λe=>h v (by rw[e];exact ay)),tn f g j λw hw=>h w (ax _ hw)]
def vg:∀(f g:Fm) (j:Nat) {v:SV},(j,v)∈f->aX (f++g) j=aX f j
 | [],g,j,v,h=>by simp at h
 | (d,w)::f,g,j,v,h=>by
  show(if d=j then w else aX (f++g) j)=(if d=j then w else aX f j);by_cases e:d=j
  ·rw[ul e,ul e]
  ·rw[un e,un e]
   rcases mem_cons.1 h with h | h
   ·simp only[Prod.mk.injEq] at h;exact t8 h.1.symm e
   ·exact vg f g j h
def yf:∀(vs:List SV) (i j:Nat),i<=j->j<i+vs.length->∃v,(j,v)∈kj i vs
 | [],i,j,h1,h2=>by simp at h2;omega
 | v::vs,i,j,h1,h2=>by
  by_cases e:i=j
  ·subst e;exact⟨v,ay⟩
  ·simp only[bc] at h2;obtain⟨w,hw⟩:=yf vs (i+1) j (by omega) (by omega);exact⟨w,ax _ hw⟩
def uT:∀(vs:List SV) (i j:Nat) (v:SV),i+vs.length<=j->(j,v)∉kj i vs
 | [],i,j,v,h=>by simp[kj]
 | w::vs,i,j,v,h=>by
  simp only[bc] at h;intro hm
  rcases mem_cons.1 hm with e | e
  ·simp only[Prod.mk.injEq] at e;omega
  ·exact uT vs (i+1) j v (by omega) e
def MV(P:Program)(fn:Func)(K:Nat)(mv:List Nat)(Q:SV->List SO->Prop):Ex->eB->Prop:=λe st=>kJ e=true/\st.ds=[]/\(∃vs,mT P st.f st.S fn.results.toList=some vs/\Q (dh vs) st.S)/\K<=st.S.length/\∀i,i<K->i∉mv->aX st.f (1000000+i)=.ptr i 0
def mU{os:List Nat}{B i o:Nat}(h:os[i]?=some o):jC os B i=o:=by unfold jC;rw[h]
def nL{os:List Nat}{B i:Nat}(h:os.length<=i):jC os B i=B+(i-os.length):=by unfold jC;rw[List.getElem?_eq_none h]
def DY{os:List Nat}{B i j:Nat}(hn:os.Nodup)(hB:∀o∈os,o<B)(h:jC os B i=jC os B j):i=j:=by
 by_cases hi:i<os.length
 ·have e1:=mU (B:=B) (aa hi);by_cases hj:j<os.length
  ·have e2:=mU (B:=B) (aa hj);rw[e1,e2] at h;exact(List.getElem_inj hn).1 h
  ·have e2:=nL (B:=B) (aj hj);rw[e1,e2] at h;have:=hB _ (bb hi);omega
 ·have e1:=nL (B:=B) (aj hi);by_cases hj:j<os.length
  ·have e2:=mU (B:=B) (aa hj);rw[e1,e2] at h;have:=hB _ (bb hj);omega
  ·have e2:=nL (B:=B) (aj hj);rw[e1,e2] at h;omega
def dQ(os mv:List Nat)(B J:Nat):List Nat:=mv.map (λi=>jC os B i)++(bk J).map λj=>B+j
def fD(S:List SO)(os mv:List Nat)(S':List SO):List SO:=
 jB (jt (dQ os mv S.length (S'.length-os.length)) S) os (S'.map (nk (jC os S.length)))
def Gi{α:Type}{p q:α->Prop}(h:¬∀x,p x->q x):∃x,p x/\¬q x:=by
 apply Classical.byContradiction;intro hn;exact h λx hp=>Classical.byContradiction λhq=>hn ⟨x,hp,hq⟩
def ND(θ:Nat->Loc)(h0:En)(h:H)(S0:List SO):En where
 h:={ h with low:=h.next }
 pr:=λj=>j<h.next/\∀i so,S0[i]?=some so->so≠.gone->j≠(θ i).x/\j≠(θ i).y
 pf:=λj=>j<h.next/\∀i so,S0[i]?=some so->so≠.gone->j≠(θ i).cg
 lo:=h0.lo
 w:=λ_=>kn
def RS.enter(hR:RS θ ρ0 ρ h0 h S){r:Nat->Nat}(hr:∀i so,S0[i]?=some so->S[r i]?=some (nk r so))(hi:∀i j,r i=r j->i=j):
 RS (λp=>θ (r p)) ρ ρ (ND (λp=>θ (r p)) h0 h S0) { h with low:=h.next } S0:=by
 have hlo:h0.lo<=h.next:=ap hR.lw hR.ln;refine⟨⟨λj hj=>hj.1,λj hj=>hj.1,λj hj=>?_,hlo⟩,ba _,λ_ _=>rfl,λ_ _=>rfl,hlo,ba _,?_,?_,?_,λid ob h=>.inl h⟩
 ·show h0.lo<=j;by_cases hlt:j<h.next
  ·have:¬∀(q:Nat×SO),(S0[q.1]?=some q.2/\q.2≠.gone)->(j≠(θ (r q.1)).x/\j≠(θ (r q.1)).y):=λhall=>hj ⟨hlt,λi so h1 h2=>hall (i,so) ⟨h1,h2⟩⟩;obtain⟨⟨i,so⟩,⟨h1,h2⟩,h3⟩:=Gi this;obtain⟨k,_⟩:=hR.obj _ _ (hr i so h1) (fc.2 h2);by_cases hx:j=(θ (r i)).x
   ·rw[hx];exact hR.ok.lo _ k.x.1
   ·have:j=(θ (r i)).y:=Decidable.byContradiction λhy=>h3 ⟨hx,hy⟩;rw[this];exact hR.ok.lo _ k.y.1
  ·exact ap hlo (aj hlt)
 ·intro i so h1 h2;obtain⟨k,k2⟩:=hR.obj _ _ (hr i so h1) (fc.2 h2);exact⟨⟨k.e,⟨λhp=>(hp.2 i so h1 h2).1 rfl,k.x.2⟩,⟨λhp=>(hp.2 i so h1 h2).2 rfl,k.y.2⟩,⟨λhp=>hp.2 i so h1 h2 rfl,k.f.2⟩⟩,(nj.rn r).1 k2⟩
 ·intro i j so so' hij h1 h2 h3 h4;exact hR.sep _ _ _ _ (λe=>hij (hi _ _ e)) (hr i so h1) (fc.2 h2) (hr j so' h3) (fc.2 h4)
 ·intro id ob h1;obtain⟨r1,r2,r3⟩:=hR.row id ob h1;exact⟨r1,r2,λi so h2 h3=>r3 _ _ (hr i so h2) (fc.2 h3)⟩
end
section
variable {θ θ':Nat->Loc} {ρ ρ0 ρ':kg} {P:Program} {h0:En} {h h1:H} {S S' S0:List SO}
def QN(θ θ':Nat->Loc)(r:Nat->Nat)(J:Nat):Nat->Loc:=λp=>match (bk J).find? λi=>beq (r i) p with
 | some i=>θ' i
 | none=>θ p
def RW{r:Nat->Nat}{J i:Nat}(hi:∀i j,r i=r j->i=j)(h:i<J):QN θ θ' r J (r i)=θ' i:=by
 unfold QN
 cases hf:(bk J).find? λj=>beq (r j) (r i) with
 | none=>
  have:=List.find?_eq_none.1 hf i (mem_range.2 h);simp at this
 | some j=>
  have:=List.find?_some hf;rw[hi j i (Nat.eq_of_beq_eq_true this)]
def QO{r:Nat->Nat}{J p:Nat}(h:∀i,i<J->r i≠p):QN θ θ' r J p=θ p:=by
 unfold QN;rw[List.find?_eq_none.2 λi hi=>by simpa using h i (mem_range.1 hi)]
def vO(ρ ρ':kg):kg:=λid=>match ρ id with
 | some ob=>some ob
 | none=>ρ' id
def GI{id:Nat}{ob:AO}(h:ρ id=some ob):vO ρ ρ' id=some ob:=by unfold vO;rw[h]
def N6{os mv:List Nat}{low:Nat}(hR:RS θ ρ0 ρ h0 h S)(hr:∀(i:Nat) so,S0[i]?=some so->S[jC os S.length i]?=some (nk (jC os S.length) so))(hK:os.length=S0.length)(hnd:os.Nodup)(hos:∀o∈os,o<S.length)
 (hR':RS θ' ρ ρ' (ND (λp=>θ (jC os S.length p)) h0 h S0) h1 S') (hl:S0.length<=S'.length) (hid:∀i,i<S0.length->i∉mv->(θ' i).id=(θ (jC os S.length i)).id) (hb:uU S'.length S'=true) (hlow:low=gw h.low h1.low):
 RS (QN θ θ' (jC os S.length) S'.length) ρ0 (vO ρ ρ') h0 { h1 with low:=low } (fD S os mv S')/\
 (∀v x,VS θ ρ v x->VS (QN θ θ' (jC os S.length) S'.length) (vO ρ ρ') (mN (dQ os mv S.length (S'.length-os.length)) v) x)/\
 ∀v x,dI S'.length v=true->VS θ' ρ' v x->VS (QN θ θ' (jC os S.length) S'.length) (vO ρ ρ') (fU (jC os S.length) v) x:=by
 have hi:∀i j,jC os S.length i=jC os S.length j->i=j:=λi j=>DY hnd hos;generalize hR0:jC os S.length=r at *;generalize hT:QN θ θ' r S'.length=θt
 have hT1:∀i,i<S'.length->θt (r i)=θ' i:=λi h=>by rw[<-hT];exact RW hi h
 have hT2:∀p,(∀i,i<S'.length->r i≠p)->θt p=θ p:=λp h=>by rw[<-hT];exact QO h
 have hjn:∀i,r i<S.length↔i<S0.length:=by
  intro i;by_cases h:i<os.length
  ·have e:=mU (B:=S.length) (aa h);rw[hR0] at e;rw[e];exact⟨λ_=>by omega,λ_=>hos _ (bb h)⟩
  ·have e:=nL (B:=S.length) (aj h);rw[hR0] at e;rw[e];exact⟨λ_=>by omega,λ_=>by omega⟩
 have hmem:∀p,p∈dQ os mv S.length (S'.length-os.length)↔(∃i,i∈mv/\r i=p)\/∃i,S0.length<=i/\i<S'.length/\r i=p:=by
  intro p;unfold dQ;rw[List.mem_append,mem_map,mem_map,hR0];refine or_congr Iff.rfl ⟨?_,?_⟩
  ·rintro⟨j,hj,rfl⟩;refine⟨os.length+j,by omega,by have:=mem_range.1 hj;omega,?_⟩;rw[<-hR0,nL (by omega)];omega
  ·rintro⟨i,h1,h2,rfl⟩;refine⟨i-os.length,mem_range.2 (by omega),?_⟩;rw[<-hR0,nL (by omega)]
 have hpr:∀j,h0.pr j->(ND (λp=>θ (r p)) h0 h S0).pr j:=by
  intro j hj;refine⟨al (hR.ok.pr j hj) hR.nx,λi so h1 h2=>?_⟩;obtain⟨k,_⟩:=hR.obj _ _ (hr i so h1) (fc.2 h2);exact⟨λe=>k.x.1 (e▸hj),λe=>k.y.1 (e▸hj)⟩
 have hpf:∀j,h0.pf j->(ND (λp=>θ (r p)) h0 h S0).pf j:=by
  intro j hj;refine⟨al (hR.ok.pf j hj) hR.nx,λi so h1 h2=>?_⟩;obtain⟨k,_⟩:=hR.obj _ _ (hr i so h1) (fc.2 h2);exact λe=>k.f.1 (e▸hj)
 have hlt:∀i so,S0[i]?=some so->i<S'.length:=λi so h=>al (bD h) hl
 have hoth:∀p so,(∀i,i<S'.length->r i≠p)->S[p]?=some so->so≠.gone->
  (ND (λp=>θ (r p)) h0 h S0).pr (θ p).x/\(ND (λp=>θ (r p)) h0 h S0).pr (θ p).y/\(ND (λp=>θ (r p)) h0 h S0).pf (θ p).cg:=by
  intro p so hp h1 h2;obtain⟨k,_⟩:=hR.obj p so h1 h2;have sp:=λi s (e1:S0[i]?=some s) (e2:s≠.gone)=>hR.sep p (r i) so _ (λe=>hp i (hlt i s e1) e.symm) h1 h2 (hr i s e1) (fc.2 e2);exact⟨⟨k.x.2,λi s e1 e2=>⟨(sp i s e1 e2).xx,(sp i s e1 e2).xy⟩⟩,⟨k.y.2,λi s e1 e2=>⟨(sp i s e1 e2).yx,(sp i s e1 e2).yy⟩⟩,⟨k.f.2,λi s e1 e2=>(sp i s e1 e2).f⟩⟩
 have hob:∀j,(ND (λp=>θ (r p)) h0 h S0).pr j->h1.aR.get j=h.aR.get j:=λj hj=>hR'.ob j hj;have hfm:∀j,(ND (λp=>θ (r p)) h0 h S0).pf j->h1.dE.get j=h.dE.get j:=λj hj=>hR'.fm j hj
 have hrow:∀id ob,ρ id=some ob->(ND (λp=>θ (r p)) h0 h S0).pr id:=by
  intro id ob e;obtain⟨r1,_,r3⟩:=hR.row id ob e;exact⟨r1,λi s e1 e2=>r3 _ _ (hr i s e1) (fc.2 e2)⟩
 have hnew:∀id ob,ρ' id=some ob->vO ρ ρ' id=some ob:=by
  intro id ob e;unfold vO
  cases e2:ρ id with
  | none=>exact e
  | some ob2=>
   have a:=(hR'.row id ob e).2.1;rw[hob id (hrow id ob2 e2),(hR.row id ob2 e2).2.1] at a;exact a
 have hfr0:∀(ρx:kg) v x,VS θ ρx v x->VS θt ρx (mN (dQ os mv S.length (S'.length-os.length)) v) x:=by
  intro ρx v x hv;refine VS.ids (θ:=HQ θ (dQ os mv S.length (S'.length-os.length)) θt) (λp=>?_) (FY hv);by_cases hp:p∈dQ os mv S.length (S'.length-os.length)
  ·rw[x6 (.inl hp)]
  ·rw[HS hp];rw[hmem] at hp;by_cases him:∃i,i<S'.length/\r i=p
   ·obtain⟨i,e1,rfl⟩:=him;have e2:i<S0.length:=Nat.lt_of_not_le λe=>hp (.inr ⟨i,e,e1,rfl⟩);rw[hT1 i e1,hid i e2 (λe=>hp (.inl ⟨i,e,rfl⟩))]
   ·rw[hT2 p λi e1 e2=>him ⟨i,e1,e2⟩]
 have hfr:∀v x,VS θ ρ v x->VS θt (vO ρ ρ') (mN (dQ os mv S.length (S'.length-os.length)) v) x:=λv x hv=>hfr0 _ _ _ (hv.mono λ_ _ e=>GI e);have hsets:=λp=>CC (os:=os) (S:=jt (dQ os mv S.length (S'.length-os.length)) S) (ss:=S'.map (nk r)) p hnd (λo ho=>by rw[ju];exact hos o ho) (by rw[List.length_map];omega)
 have hA:∀i,i<S'.length->(fD S os mv S')[r i]?=(S'[i]?).map (nk r):=by
  intro i e;unfold fD;rw[hR0];by_cases e1:i<os.length
  ·have e2:os[i]?=some (r i):=by
    have:=mU (B:=S.length) (aa e1);rw[hR0] at this;rw[this,aa e1]
   rw[(hsets (r i)).1 i e2,a8]
  ·have e2:=nL (B:=S.length) (aj e1);rw[hR0] at e2;have:=(hsets (r i)).2.2 (by rw[ju,e2];omega);rw[this,ju,e2,a8,show os.length+(S.length+(i-os.length)-S.length)=i by omega]
 have hB:∀p so,(∀i,i<S'.length->r i≠p)->(fD S os mv S')[p]?=some so->so≠.gone->∃s,S[p]?=some s/\s≠.gone/\so=sG (mN (dQ os mv S.length (S'.length-os.length))) s:=by
  intro p so hp e1 e2;unfold fD at e1;rw[hR0] at e1
  have hno:p∉os:=by
   intro hm;obtain⟨i,hi1,hi2⟩:=bd hm;have e3:=mU (B:=S.length) (aa hi1);rw[hR0,hi2] at e3;exact hp i (by omega) e3
  by_cases hpl:p<S.length
  ·rw[(hsets p).2.1 hno (by rw[ju];exact hpl),yY] at e1;obtain⟨s,hs,rfl⟩:=aq e1;exact⟨s,hs,Ch e2,rfl⟩
  ·rw[(hsets p).2.2 (by rw[ju];omega),ju,a8] at e1;obtain⟨s,hs,_⟩:=aq e1;have:=bD hs;refine t8 ?_ (hp (os.length+(p-S.length)) this);rw[<-hR0,nL (by omega)];omega
 have hcase:∀p so,(fD S os mv S')[p]?=some so->so≠.gone->(∃i s,i<S'.length/\r i=p/\S'[i]?=some s/\s≠.gone/\so=nk r s)\/((∀i,i<S'.length->r i≠p)/\∃s,S[p]?=some s/\s≠.gone/\so=sG (mN (dQ os mv S.length (S'.length-os.length))) s):=by
  intro p so e1 e2;by_cases him:∃i,i<S'.length/\r i=p
  ·obtain⟨i,e3,rfl⟩:=him;rw[hA i e3] at e1;obtain⟨s,hs,rfl⟩:=aq e1;exact .inl ⟨i,s,e3,rfl,hs,fc.1 e2,rfl⟩
  ·have hp:∀i,i<S'.length->r i≠p:=λi e3 e4=>him ⟨i,e3,e4⟩;exact .inr ⟨hp,hB p so hp e1 e2⟩
 have hrn:∀v x,dI S'.length v=true->VS θ' ρ' v x->VS θt (vO ρ ρ') (fU r v) x:=by
  intro v x e1 e2;rw[VS.rn];refine VS.lF (θ:=θ') (λq hq=>?_) e1 (e2.mono hnew);rw[hT1 q hq]
 refine⟨⟨hR.ok,ap hR.nx hR'.nx,λj hj=>(hob j (hpr j hj)).trans (hR.ob j hj),λj hj=>(hfm j (hpf j hj)).trans (hR.fm j hj),?_,?_,?_,?_,?_,?_⟩,hfr,hrn⟩
 ·show h0.lo<=low;rw[hlow];exact nI hR.lw hR'.lw
 ·show low<=h1.next;rw[hlow];exact ap (dR _ _).2 hR'.ln
 ·intro p so e1 e2
  rcases hcase p so e1 e2 with⟨i,s,e3,rfl,e4,e5,rfl⟩ | ⟨hp,s,e3,e4,rfl⟩
  ·rw[hT1 i e3];obtain⟨k,k2⟩:=hR'.obj i s e4 e5;refine⟨⟨k.e,⟨λe=>k.x.1 (hpr _ e),k.x.2⟩,⟨λe=>k.y.1 (hpr _ e),k.y.2⟩,⟨λe=>k.f.1 (hpf _ e),k.f.2⟩⟩,?_⟩;rw[nj.rn];refine nj.lF (θ:=θ') (λq hq=>by rw[hT1 q hq]) (Fj hb e4) ?_;exact k2.mono hnew rfl rfl
  ·rw[hT2 p hp];obtain⟨k,k2⟩:=hR.obj p s e3 e4;obtain⟨o1,o2,o3⟩:=hoth p s hp e3 e4;refine⟨k.mono hR'.nx,(k2.mono (h':=h) (λ_ _ e=>GI e) rfl rfl).map (hfr0 _) ?_ (hfm _ o3)⟩
   rcases k.e with e | e
   ·rw[e];exact hob _ o1
   ·rw[e];exact hob _ o2
 ·intro p q so so' hpq e1 e2 e3 e4
  rcases hcase p so e1 e2 with⟨i,s,a3,rfl,a4,a5,rfl⟩ | ⟨hp,s,a3,a4,rfl⟩
  ·rcases hcase q so' e3 e4 with⟨j,s',b3,rfl,b4,b5,rfl⟩ | ⟨hq,s',b3,b4,rfl⟩
   ·rw[hT1 i a3,hT1 j b3];exact hR'.sep i j s s' (λe=>hpq (by rw[e])) a4 a5 b4 b5
   ·rw[hT1 i a3,hT2 q hq];obtain⟨k,_⟩:=hR'.obj i s a4 a5;obtain⟨o1,o2,o3⟩:=hoth q s' hq b3 b4;exact⟨λe=>k.x.1 (by rw[e];exact o1),λe=>k.x.1 (by rw[e];exact o2),λe=>k.y.1 (by rw[e];exact o1),λe=>k.y.1 (by rw[e];exact o2),λe=>k.f.1 (by rw[e];exact o3)⟩
  ·rcases hcase q so' e3 e4 with⟨j,s',b3,rfl,b4,b5,rfl⟩ | ⟨hq,s',b3,b4,rfl⟩
   ·rw[hT2 p hp,hT1 j b3];obtain⟨k,_⟩:=hR'.obj j s' b4 b5;obtain⟨o1,o2,o3⟩:=hoth p s hp a3 a4;exact⟨λe=>k.x.1 (by rw[<-e];exact o1),λe=>k.y.1 (by rw[<-e];exact o1),λe=>k.x.1 (by rw[<-e];exact o2),λe=>k.y.1 (by rw[<-e];exact o2),λe=>k.f.1 (by rw[<-e];exact o3)⟩
   ·rw[hT2 p hp,hT2 q hq];exact hR.sep p q s s' hpq a3 a4 b3 b4
 ·intro id ob e
  have hfull:id<h1.next/\h1.aR.get id=some ob:=by
   unfold vO at e
   cases e2:ρ id with
   | some ob2=>
    rw[e2] at e;cases e;exact⟨al (hR.row id _ e2).1 hR'.nx,by rw[hob id (hrow id _ e2)];exact(hR.row id _ e2).2.1⟩
   | none=>
    rw[e2] at e;exact⟨(hR'.row id ob e).1,(hR'.row id ob e).2.1⟩
  refine⟨hfull.1,hfull.2,?_⟩;intro p so e1 e2;unfold vO at e
  rcases hcase p so e1 e2 with⟨i,s,a3,rfl,a4,a5,rfl⟩ | ⟨hp,s,a3,a4,rfl⟩
  ·rw[hT1 i a3]
   cases e3:ρ id with
   | some ob2=>
    obtain⟨k,_⟩:=hR'.obj i s a4 a5;exact⟨λe=>k.x.1 (by rw[<-e];exact hrow id _ e3),λe=>k.y.1 (by rw[<-e];exact hrow id _ e3)⟩
   | none=>
    rw[e3] at e;exact(hR'.row id ob e).2.2 i s a4 a5
  ·rw[hT2 p hp]
   cases e3:ρ id with
   | some ob2=>exact(hR.row id _ e3).2.2 p s a3 a4
   | none=>
    rw[e3] at e;obtain⟨o1,o2,_⟩:=hoth p s hp a3 a4
    rcases hR'.mB id ob e with e4 | e4
    ·rw[e3] at e4;cases e4
    ·exact⟨λe5=>e4 (by rw[e5];exact o1),λe5=>e4 (by rw[e5];exact o2)⟩
 ·intro id ob e;unfold vO at e
  cases e2:ρ id with
  | some ob2=>rw[e2] at e;cases e;exact hR.mB id _ e2
  | none=>
   rw[e2] at e
   rcases hR'.mB id ob e with e4 | e4
   ·rw[e2] at e4;cases e4
   ·exact .inr λe5=>e4 (hpr id e5)
def aI.sc{ro:Option Nat}{all:List Oper}{o:Oper}{l:List Oper}{f:Fm}{n:Nat}{ds:List iV}{K:eB->Prop}{d:Nat}{c:Call}{g:FuncId}{vs ws:List SV}{mv:List Nat}{Q:SV->List SO->Prop}(os:List Nat)(hst:eP all n [o]=true)(hop:o.op=.call c)(hdst:o.dst=some d)(hw:db all f o.guard=some true)(hdy:lj (.call c)=true)
 (hc:gV P f c=some (g,vs)) (hq:SC P g ws S0 mv Q) (hvs:kh (jC os S.length) ws=vs) (hK:os.length=S0.length) (hnd:os.Nodup) (hos:∀(i:Nat) so,S0[i]?=some so->∃o,os[i]?=some o/\S[o]?=some (nk (jC os S.length) so))
 (hb:∀r S',Q r S'->dI S'.length r=true/\uU S'.length S'=true)
 (hk:∀r S',Q r S'->aI P ro all l ⟨(d,fU (jC os S.length) r)::oe (dQ os mv S.length (S'.length-os.length)) f,n,fD S os mv S',ds⟩ K):aI P ro all (o::l) ⟨f,n,S,ds⟩ K:=by
 rintro ρ0 h0 ⟨af,n',h,ds'⟩ ⟨rfl,rfl,θ,ρ,hR,hF⟩;subst hvs
 have hd:Nat.blt d n'=true:=by
  have:=(ez hst).1;rw[hdst] at this;exact this
 have hos2:∀o∈os,o<S.length:=by
  intro o ho;obtain⟨i,hi1,hi2⟩:=bd ho
  have:i<S0.length:=by omega
  obtain⟨o',e1,e2⟩:=hos i _ (aa this);rw[aa hi1] at e1;cases e1;rw[<-hi2];exact bD e2
 have hr:∀(i:Nat) so,S0[i]?=some so->S[jC os S.length i]?=some (nk (jC os S.length) so):=by
  intro i so e;obtain⟨o,e1,e2⟩:=hos i so e;rw[mU e1];exact e2
 obtain⟨xs,cap,e1,e2⟩:=ym hF hc;refine .c hop hdst (cK hF (dN hst hw)) hdy hd e1 rfl (hq _ _ ρ h _ rfl (hR.enter hr (λi j=>DY hnd hos2)) ((c7.rn _).1 e2)) ?_;rintro v h' ⟨r,S',θ',ρ',h1,k1,rfl,k3,k4,k5,k6⟩;obtain⟨b1,b2⟩:=hb r S' k1;obtain⟨j1,j2,j3⟩:=N6 (low:=gw h.low h1.low) hR hr hK hnd hos2 k3 k5 k6 b2 rfl;refine hk r S' k1 ρ0 h0 _ ⟨rfl,rfl,_,_,j1,?_⟩
 have hF2:FR (QN θ θ' (jC os S.length) S'.length) (vO ρ ρ') (aX (oe (dQ os mv S.length (S'.length-os.length)) f)) af n' (xI h0.w ds'):=
  ⟨λi=>by rw[yD];exact j2 _ _ (hF.v i),hF.u⟩
 exact hF2.put (fW hd) (j3 _ _ b1 k4)
end
section
variable {P:Program} {ro:Option Nat} {f:Fm} {n:Nat} {S:List SO} {ds:List iV} {r:Nat->Nat} {B:Nat}
mutual
def vE{o:Nat}:∀{v:SV},lB v=true->names o v=false
 | .a v,_=>jo v
 | .sl n e cs,_=>zr n e cs
 | .im ks vs,_=>zm ks vs
 | .ip cs,_=>zn cs
 | .any,_=>vD
 | .e0 e,_=>zk e
 | .ag cs,h=>by rw[names];exact dm (by rw[lB] at h;exact h)
 | .bE cs,h=>by rw[names];exact dm (by rw[lB] at h;exact h)
 | .fn g a b,h=>by rw[lB,ac] at h;rw[names,dm h.1,dm h.2];rfl
 | .iface t v,h=>by rw[names];exact vE (by rw[lB] at h;exact h)
 | .ptr _ _,h=>by simp[lB] at h
 | .map _,h=>by simp[lB] at h
 | .buf _ _ _ _,h=>by simp[lB] at h
 | .sub _ _ _ _ _,h=>by simp[lB] at h
def dm{o:Nat}:∀{vs:List SV},cr vs=true->gh o vs=false
 | [],_=>rfl
 | d::ds,h=>by rw[cr,ac] at h;rw[gh,vE h.1,dm h.2];rfl
end
def vw{o:Nat}{v:SV}(h:lB v=true):bf o v=v:=by unfold bf;rw[vE h];rfl
def bI{o:Nat}:∀{vs:List SV},cr vs=true->vs.map (bf o)=vs
 | [],_=>rfl
 | d::ds,h=>by rw[cr,ac] at h;rw[List.map_cons,vw h.1,bI h.2]
mutual
def KX:∀{v:SV},lB v=true->fU r v=v
 | .a v,_=>by rw[fU]
 | .sl n e cs,_=>by rw[fU]
 | .im ks vs,_=>by rw[fU]
 | .ip cs,_=>by rw[fU]
 | .any,_=>by rw[fU]
 | .e0 e,_=>by rw[fU]
 | .ag cs,h=>by rw[fU,aY (by rw[lB] at h;exact h)]
 | .bE cs,h=>by rw[fU,aY (by rw[lB] at h;exact h)]
 | .fn g a b,h=>by rw[lB,ac] at h;rw[fU,aY h.1,aY h.2]
 | .iface t v,h=>by rw[fU,KX (by rw[lB] at h;exact h)]
 | .ptr _ _,h=>by simp[lB] at h
 | .map _,h=>by simp[lB] at h
 | .buf _ _ _ _,h=>by simp[lB] at h
 | .sub _ _ _ _ _,h=>by simp[lB] at h
def aY:∀{vs:List SV},cr vs=true->kh r vs=vs
 | [],_=>by rw[kh]
 | d::ds,h=>by rw[cr,ac] at h;rw[kh,KX h.1,aY h.2]
end
mutual
def fF:∀{v:SV},lB v=true->dI B v=true
 | .a v,_=>by rw[dI];all_goals (intros;contradiction)
 | .sl n e cs,_=>by rw[dI];all_goals (intros;contradiction)
 | .im ks vs,_=>by rw[dI];all_goals (intros;contradiction)
 | .ip cs,_=>by rw[dI];all_goals (intros;contradiction)
 | .any,_=>by rw[dI];all_goals (intros;contradiction)
 | .e0 e,_=>by rw[dI];all_goals (intros;contradiction)
 | .ag cs,h=>by rw[dI];exact bC (by rw[lB] at h;exact h)
 | .bE cs,h=>by rw[dI];exact bC (by rw[lB] at h;exact h)
 | .fn g a b,h=>by rw[lB,ac] at h;rw[dI,bC h.1,bC h.2];rfl
 | .iface t v,h=>by rw[dI];exact fF (by rw[lB] at h;exact h)
 | .ptr _ _,h=>by simp[lB] at h
 | .map _,h=>by simp[lB] at h
 | .buf _ _ _ _,h=>by simp[lB] at h
 | .sub _ _ _ _ _,h=>by simp[lB] at h
def bC:∀{vs:List SV},cr vs=true->fq B vs=true
 | [],_=>rfl
 | d::ds,h=>by rw[cr,ac] at h;rw[fq,fF h.1,bC h.2];rfl
end
def jc:∀{a b:List SV},cr a=true->cr b=true->cr (a++b)=true
 | [],_,_,h=>h
 | d::ds,b,h,g=>by
  rw[cr,ac] at h;show cr (d::(ds++b))=true;rw[cr,h.1,jc h.2 g];rfl
def aB{α:Type}{enc:α->List SV}(h:∀x,cr (enc x)=true):∀l:List α,cr (l.flatMap enc)=true
 | []=>rfl
 | a::l=>by rw[List.flatMap_cons];exact jc (h a) (aB h l)
def Ks(l:List (List Nat)):cr (l.flatMap (aA ae))=true:=aB (λ_=>rfl) l
def NS(l:List Int):cr (l.flatMap (aA ab))=true:=aB (λ_=>rfl) l
def oN(o:Nat)(l:List (List Nat)):(l.flatMap (aA ae)).map (bf o)=l.flatMap (aA ae):=bI (Ks l)
def FX(o:Nat)(l:List Int):(l.flatMap (aA ab)).map (bf o)=l.flatMap (aA ab):=bI (NS l)
def O4(l:List (List Nat)):kh r (l.flatMap (aA ae))=l.flatMap (aA ae):=aY (Ks l)
def O3(l:List Int):kh r (l.flatMap (aA ab))=l.flatMap (aA ab):=aY (NS l)
def Ke(l:List (List Nat)):fq B (l.flatMap (aA ae))=true:=bC (Ks l)
def Kc(l:List Int):fq B (l.flatMap (aA ab))=true:=bC (NS l)
def OV(v:AV):fU r (.a v)=.a v:=by rw[fU]
def OX(e:Nat):fU r (.e0 e)=.e0 e:=by rw[fU]
def O2(n e:Nat)(cs:List SV):fU r (.sl n e cs)=.sl n e cs:=by rw[fU]
def KW:fU r .any=.any:=by rw[fU]
def O0(ks:List AV)(vs:List SV):fU r (.im ks vs)=.im ks vs:=by rw[fU]
def O1(cs:List SV):fU r (.ip cs)=.ip cs:=by rw[fU]
def KZ(o off:Nat):fU r (.ptr o off)=.ptr (r o) off:=by rw[fU]
def KY(o:Nat):fU r (.map o)=.map (r o):=by rw[fU]
def DZ(o n e:Nat)(c:Option Nat):fU r (.buf o n e c)=.buf (r o) n e c:=by rw[fU]
def K0(o off n e:Nat)(c:Option Nat):fU r (.sub o off n e c)=.sub (r o) off n e c:=by rw[fU]
def OW(cs:List SV):fU r (.ag cs)=.ag (kh r cs):=by rw[fU]
def K1(cs:List SV):fU r (.bE cs)=.bE (kh r cs):=by rw[fU]
def OY(g:FuncId)(a b:List SV):fU r (.fn g a b)=.fn g (kh r a) (kh r b):=by rw[fU]
def OZ(t:TypeId)(v:SV):fU r (.iface t v)=.iface t (fU r v):=by rw[fU]
def KV:kh r []=[]:=by rw[kh]
def GL(d:SV)(ds:List SV):kh r (d::ds)=fU r d::kh r ds:=by rw[kh]
def OT(cs:List SV):nk r (.cells cs)=.cells (kh r cs):=rfl
def GM(ks:List AV)(vs:List SV)(b:Option (List Nat×Nat)):nk r (.map ks vs b)=.map ks (kh r vs) b:=rfl
def Rh(m:SV)(bs:List Nat)(c:Nat)(pos:List Nat):nk r (.iter m bs c pos)=.iter (fU r m) bs c pos:=rfl
def OU(ks:List AV)(vs:List SV)(bs:List Nat)(c:Nat)(pos:List Nat):nk r (.oL ks vs bs c pos)=.oL ks vs bs c pos:=rfl
def Rg:nk r .gone=.gone:=rfl
def Ri(c:gr)(ls:LoopState)(p:Option Code)(f:Fm):nk r (.loop c ls p f)=.loop c ls p (QG r f):=rfl
def Rf(N:Nat):nk r (.ox N)=.ox N:=rfl
def KU:QG r []=[]:=rfl
def GK(d:Nat)(v:SV)(f:Fm):QG r ((d,v)::f)=(d,fU r v)::QG r f:=rfl
def Rb(o:Nat)(os:List Nat)(B:Nat):jC (o::os) B 0=o:=rfl
def Re(o:Nat)(os:List Nat)(B i:Nat):jC (o::os) B (i+1)=jC os B i:=by
 unfold jC;rw[a7]
 cases os[i]? with
 | some _=>rfl
 | none=>simp
def Rc(B i:Nat):jC [] B i=B+i:=rfl
def FL(os mv:List Nat)(B:Nat):dQ os mv B 0=mv.map (jC os B):=by unfold dQ;simp
def FM(os mv:List Nat)(B:Nat):dQ os mv B 1=mv.map (jC os B)++[B+0]:=by unfold dQ;rfl
def FN(os mv:List Nat)(B:Nat):dQ os mv B 2=mv.map (jC os B)++[B+0,B+1]:=by unfold dQ;rfl
def FO(os mv:List Nat)(B:Nat):dQ os mv B 3=mv.map (jC os B)++[B+0,B+1,B+2]:=by unfold dQ;rfl
def Td:(∀f:Fm,oe [] f=f)/\(∀(k:Nat) (ks:List Nat) (f:Fm),oe (k::ks) f=oe ks (dJ k f))/\(∀S:List SO,jt [] S=S)/\(∀(k:Nat) (ks:List Nat) (S:List SO),jt (k::ks) S=jt ks (dB k S))/\
 (∀S ss:List SO,jB S [] ss=S++ss)/\(∀(S:List SO) (o:Nat) (os:List Nat) (s:SO) (ss:List SO),jB S (o::os) (s::ss)=jB (S.set o s) os ss)/\(∀(S:List SO) (os mv:List Nat) (S':List SO),fD S os mv S'=jB (jt (dQ os mv S.length (S'.length-os.length)) S) os (S'.map (nk (jC os S.length))))/\
 (∀(g:Nat->Nat),([]:List Nat).map g=[])/\(∀(g:Nat->Nat) (a:Nat) (l:List Nat),(a::l).map g=g a::l.map g)/\(∀l:List Nat,[]++l=l)/\(∀(a:Nat) (l m:List Nat),(a::l)++m=a::(l++m))/\(∀(g:SO->SO),([]:List SO).map g=[])/\(∀(g:SO->SO) (a:SO) (l:List SO),(a::l).map g=g a::l.map g)/\
 (([]:List Nat).length=0)/\(∀(a:Nat) (l:List Nat),(a::l).length=l.length+1)/\(([]:List SO).length=0)/\(∀(a:SO) (l:List SO),(a::l).length=l.length+1)/\(∀l:List SO,l++[]=l)/\(∀n:Nat,n-0=n)/\(∀n:Nat,n-n=0):=by
 (repeat' apply And.intro)<;>intros<;>first | rfl | (simp;done) | rw[jB]
def Te:(type_of% @OV)/\(type_of% @OX)/\(type_of% @O2)/\(type_of% @KW)/\(type_of% @O0)/\(type_of% @O1)/\(type_of% @KZ)/\(type_of% @KY)/\(type_of% @DZ)/\(type_of% @K0)/\(type_of% @OW)/\(type_of% @K1)/\(type_of% @OY)/\(type_of% @OZ)/\(type_of% @KV)/\(type_of% @GL)/\(type_of% @OT)/\(type_of% @GM)/\(type_of% @Rg)/\(type_of% @Rh)/\(type_of% @OU)/\(type_of% @Ri)/\(type_of% @Rf)/\(type_of% @KU)/\(type_of% @GK):=
 ⟨@OV,@OX,@O2,@KW,@O0,@O1,@KZ,@KY,@DZ,@K0,@OW,@K1,@OY,@OZ,@KV,@GL,@OT,@GM,@Rg,@Rh,@OU,@Ri,@Rf,@KU,@GK⟩
def Tf:(type_of% @Rb)/\(type_of% @Re)/\(type_of% @Rc)/\(type_of% @FL)/\(type_of% @FM)/\(type_of% @FN)/\(type_of% @FO)/\(type_of% @oN)/\(type_of% @FX)/\(type_of% @O4)/\(type_of% @O3)/\(type_of% @Ke)/\(type_of% @Kc):=
 ⟨@Rb,@Re,@Rc,@FL,@FM,@FN,@FO,@oN,@FX,@O4,@O3,@Ke,@Kc⟩
def ef:(type_of% @Td)/\(type_of% @Te)/\(type_of% @Tf):=⟨@Td,@Te,@Tf⟩
def xw:(type_of% @dI.eq_1)/\(type_of% @dI.eq_2)/\(type_of% @dI.eq_3)/\(type_of% @dI.eq_4)/\(type_of% @dI.eq_5)/\(type_of% @dI.eq_6)/\(type_of% @dI.eq_7)/\(type_of% @dI.eq_8)/\(type_of% @fq.eq_1)/\(type_of% @fq.eq_2)/\(type_of% @kl.eq_1)/\(type_of% @kl.eq_2)/\(type_of% @kl.eq_3)/\(type_of% @kl.eq_4)/\(type_of% @kl.eq_5)/\(type_of% @kl.eq_6)/\(type_of% @kl.eq_7)/\(type_of% @C9.eq_1)/\(type_of% @C9.eq_2)/\(type_of% @uU.eq_1)/\(type_of% @uU.eq_2)/\(∀(B:Nat) (v:AV),dI B (.a v)=true)/\(∀(B n e:Nat) (cs:List SV),dI B (.sl n e cs)=true)/\(∀(B:Nat) (cs:List SV),dI B (.ip cs)=true)/\(∀(B:Nat) (ks:List AV) (cs:List SV),dI B (.im ks cs)=true)/\(∀(B e:Nat),dI B (.e0 e)=true)/\(∀B:Nat,dI B .any=true):=
 ⟨@dI.eq_1,@dI.eq_2,@dI.eq_3,@dI.eq_4,@dI.eq_5,@dI.eq_6,@dI.eq_7,@dI.eq_8,@fq.eq_1,@fq.eq_2,@kl.eq_1,@kl.eq_2,@kl.eq_3,@kl.eq_4,@kl.eq_5,@kl.eq_6,@kl.eq_7,@C9.eq_1,@C9.eq_2,@uU.eq_1,@uU.eq_2,λ_ _=>fF rfl,λ_ _ _ _=>fF rfl,λ_ _=>fF rfl,λ_ _ _=>fF rfl,λ_ _=>fF rfl,λ_=>fF rfl⟩
def aI.Mh{all:List Oper}{o:Oper}{l:List Oper}{K:eB->Prop}{d t yt:Nat}{x:Operand}{y:Value}{k e:Nat}{cs:List SV}(hst:eP all n [o]=true)(hop:o.op=.binOp .eql t x (.const y) yt)(hdst:o.dst=some d)(hw:db all f o.guard=some true)
 (hx:eF f x=some (.sl k e cs)) (hy:lE lH y=some (.slice none 0 0 (some 0))) (ht:iM P t=.sl) (hg:P.eqGuardType P.depth t=false) (hk:∀b:Bool,(b=true->k=0)->aI P ro all l ⟨(d,.a (.bool b))::f,n,S,ds⟩ K):aI P ro all (o::l) ⟨f,n,S,ds⟩ K:=by
 rintro ρ0 h0 ⟨af,n',h,ds'⟩ ⟨rfl,rfl,θ,ρ,hR,hF⟩;obtain⟨hd,_⟩:=ez hst;rw[hdst] at hd;obtain⟨a,ha,ka⟩:=bG hF hx;have ha':ev (dj af n') x=some a:=ha;obtain⟨e',hu⟩:=pz ht;have hyv:ev (dj af n') (.const y)=some (.slice none 0 0 (some 0)):=hy
 have fin:∀b:Bool,cS P .eql t a (.slice none 0 0 (some 0))=some (.bool b)->(b=true->k=0)->iN P ro all (o::l) ⟨af,n',h,ds'⟩ (λast'=>∃st',K st'/\st'.n=n'/\jG ρ0 h0 st' ast'):=by
  intro b hb hbk;refine .v hop hdst (cK hF (dN hst hw)) rfl hd (by rw[IT,ha',hyv,bo,bo,hb];rfl) ?_;exact hk b hbk ρ0 h0 _ ⟨rfl,rfl,θ,ρ,hR,hF.put (fW hd) (by rw[VS])⟩
 rw[VS,GS] at ka
 rcases ka with⟨rfl,_,o',e'',c,rfl,_,_⟩ | ⟨id,off,cap,row,rfl,_⟩
 ·cases o' with
  | none=>exact fin true (by unfold cS;simp only[hg,an,lA,hu,Option.isNone_none,bh]) λ_=>rfl
  | some q=>exact fin false (by unfold cS;simp only[hg,an,lA,hu,bh]) λ_=>rfl
 ·exact fin false (by unfold cS;simp only[hg,an,lA,hu,bh]) λh=>by cases h
def sD(S:List SO)(r:Nat->Nat):List SO->List Nat->Prop
 | [],_=>True
 | so::l,o::os=>S[o]?=some (nk r so)/\sD S r l os
 | _::_,[]=>False
def Ku:∀{S0:List SO} {os:List Nat},sD S r S0 os->∀(i:Nat) so,S0[i]?=some so->∃o,os[i]?=some o/\S[o]?=some (nk r so)
 | [],_,_,i,so,h=>by simp at h
 | s::l,o::os,hh,0,so,h=>by
  simp only[List.getElem?_cons_zero,Option.some.injEq] at h;subst h;exact⟨o,rfl,hh.1⟩
 | s::l,o::os,hh,i+1,so,h=>by
  simp only[a7] at h ⊢;exact Ku hh.2 i so h
 | _::_,[],hh,_,_,_=>hh.elim
def aI.sk{all:List Oper}{o:Oper}{l:List Oper}{K:eB->Prop}{d:Nat}{c:Call}{g:FuncId}{vs ws:List SV}{mv:List Nat}{S0 S1 S2:List SO}{r0 r2:SV}{f2:Fm}(os:List Nat)(hst:eP all n [o]=true)(hop:o.op=.call c)(hdst:o.dst=some d)(hw:db all f o.guard=some true)(hdy:lj (.call c)=true)
 (hc:gV P f c=some (g,vs)) (hq:SC P g ws S0 mv (λr S'=>r=r0/\S'=S1)) (hvs:kh (jC os S.length) ws=vs) (hK:os.length=S0.length) (hnd:os.Nodup) (hos:sD S (jC os S.length) S0 os)
 (hb1:dI S1.length r0=true) (hb2:uU S1.length S1=true) (hr:fU (jC os S.length) r0=r2) (hf:oe (dQ os mv S.length (S1.length-os.length)) f=f2) (hS:fD S os mv S1=S2)
 (hk:aI P ro all l ⟨(d,r2)::f2,n,S2,ds⟩ K):aI P ro all (o::l) ⟨f,n,S,ds⟩ K:=by
 refine .sc os hst hop hdst hw hdy hc hq hvs hK hnd (Ku hos) ?_ ?_
 ·rintro _ _ ⟨rfl,rfl⟩;exact⟨hb1,hb2⟩
 ·rintro _ _ ⟨rfl,rfl⟩;rw[hr,hf,hS];exact hk
def MV.of{fn:Func}{K:Nat}{mv:List Nat}{Q:SV->List SO->Prop}{e:Ex}{rs:List ResultVar}{vs:List SV}(he:kJ e=true)(hr:fn.results.toList=rs)(h:mT P f S rs=some vs)(hq:Q (dh vs) S)(hK:K<=S.length)(hw:∀i,i<K->i∉mv->aX f (1000000+i)=.ptr i 0):MV P fn K mv Q e ⟨f,n,S,[]⟩:=
 ⟨he,rfl,⟨vs,by rw[hr];exact h,hq⟩,hK,hw⟩
end
open Go.RowKit
def LJ(σ:Sg){vs:Array Value}(ih:∀i:Fin vs.size,∃a,V σ a vs[i]):∃a,V σ a (.agg vs):=by
 refine⟨.agg (ofFn λi=>(ih i).choose),.agg (bi) ?_⟩;intro i a v h1 h2;rw[be] at h1;by_cases hi:i<vs.size
 ·rw[dif_pos hi] at h1;rw[a0 hi] at h2;cases h1;cases h2;exact(ih ⟨i,hi⟩).choose_spec
 ·rw[dif_neg hi] at h1;cases h1
def Q4(σ:Sg):∀(n:Nat) (v:Value),SizeOf.sizeOf v<n->∃a,V σ a v
 | 0,_,h=>t8 h (Nat.not_lt_zero _)
 | n+1,v,h=>by
  by_cases hv:∃vs,v=.agg vs
  ·obtain⟨vs,rfl⟩:=hv;refine LJ σ λi=>Q4 σ n vs[i] ?_;have h1:SizeOf.sizeOf vs[i]<SizeOf.sizeOf vs:=Array.sizeOf_getElem vs i.1 i.2
   have h2:SizeOf.sizeOf (Value.agg vs)=1+SizeOf.sizeOf vs:=by simp
   omega
  ·exact⟨.any,.any λvs e=>hv ⟨vs,e⟩⟩
def SB(σ:Sg)(c:Array Value)(d:Nat):∀(n:Nat),d+n<=c.size->∃aS:List AV,aS.length=n/\∀(i:Nat) (a:AV),aS[i]?=some a->∃v,c[d+i]?=some v/\V σ a v:=by
 intro n hn;have ih:∀i:Fin n,∃a,V σ a (c[d+i.1]'(by have:=i.2;omega)):=λi=>Q4 σ _ _ (Nat.lt_succ_self _);refine⟨ofFn λi=>(ih i).choose,bi,?_⟩;intro i a h1;rw[be] at h1;by_cases hi:i<n
 ·rw[dif_pos hi] at h1;cases h1;have hs:=(ih ⟨i,hi⟩).choose_spec;exact⟨_,a0 (by omega),hs⟩
 ·rw[dif_neg hi] at h1;cases h1
noncomputable def H.kN(h:H)(id cg:Nat)(cs:List AV):H:={ h with aR:=h.aR.put id (some (.cells cs cg)),low:=gw h.low id }
def HR.kN{σ:Sg}{h:H}{w:World}(hr:HR σ h w){id cg:Nat}{cs ex:List AV}{p:sW}(ho:h.aR.get id=some (.cells cs cg))(hp:σ id=some p){c:Array Value}{e:TypeId}(hb:w.heap[p.b]?=some (.cells c e (0,0)))
 (hl:cs.length+ex.length<=p.r) (hV:∀(i:Nat) (a:AV),ex[i]?=some a->∃v,c[p.d+cs.length+i]?=some v/\V σ a v):HR σ (h.kN id cg (cs++ex)) w/\Ext σ σ h (h.kN id cg (cs++ex)) w w:=by
 obtain⟨q,c0,e0,hq,h1,h2,h3,h4⟩:=hr.cells ho;rw[hp] at hq;cases hq;rw[hb] at h1;cases h1;have hm:=dR h.low id
 have get:∀j x,(h.kN id cg (cs++ex)).aR.get j=some x->(j=id/\x=.cells (cs++ex) cg)\/(j≠id/\h.aR.get j=some x):=by
  intro j x hx;simp only[H.kN,dH] at hx;split at hx
  ·rename_i e;cases hx;exact .inl ⟨e,rfl⟩
  ·rename_i hne;exact .inr ⟨hne,hx⟩
 have mB:∀j x,(h.kN id cg (cs++ex)).aR.get j=some x->∃y,h.aR.get j=some y/\(x=y\/(y=.cells cs cg/\x=.cells (cs++ex) cg)):=by
  intro j x hx
  rcases get j x hx with⟨rfl,rfl⟩ | ⟨_,h⟩
  ·exact⟨_,ho,.inr ⟨rfl,rfl⟩⟩
  ·exact⟨x,h,.inl rfl⟩
 refine⟨⟨?_,hr.fresh,?_,?_,ap hm.1 hr.y7⟩,⟨λ_ _ h=>h,ba _,ba _,rfl,rfl,rfl,?_,λ_ _ _=>rfl,hm.1,?_,λ_ _ h=>h,?_⟩⟩
 ·intro j x hx
  rcases get j x hx with⟨rfl,rfl⟩ | ⟨_,h⟩
  ·refine⟨p,hp,c,e,hb,h2,by rw[List.length_append];exact hl,?_⟩;intro i a ha;rw[List.getElem?_append] at ha;split at ha
   ·exact h4 i a ha
   ·rename_i hlt;obtain⟨v,hv,hV⟩:=hV _ a ha;rw[show p.d+cs.length+(i-cs.length)=p.d+i by omega] at hv;exact⟨v,hv,hV⟩
  ·exact hr.obj j x h
 ·intro i j x y q1 q2 hij hx hy a1 a2 hb2;obtain⟨x',g1,k1⟩:=mB i x hx;obtain⟨y',g2,k2⟩:=mB j y hy;have:=hr.sep i j x' y' q1 q2 hij g1 g2 a1 a2 hb2
  rcases this with⟨b1,b2,f,e1,e2⟩ | ⟨b1,b2,e1,e2⟩
  ·left
   rcases k1 with rfl | ⟨rfl,rfl⟩<;>rcases k2 with rfl | ⟨rfl,rfl⟩
   ·exact⟨_,_,f,e1,e2⟩
   ·cases e2;exact⟨_,_,_,e1,rfl⟩
   ·cases e1;exact⟨_,_,_,rfl,e2⟩
   ·exact⟨_,_,_,rfl,rfl⟩
  ·right
   rcases k1 with rfl | ⟨rfl,rfl⟩<;>rcases k2 with rfl | ⟨rfl,rfl⟩
   ·exact⟨_,_,e1,e2⟩
   ·cases e2
   ·cases e1
   ·cases e1
 ·intro i cs' f hi
  rcases get i _ hi with⟨rfl,e⟩ | ⟨_,h⟩
  ·cases e;exact hr.cg i _ _ ho
  ·exact hr.cg i _ _ h
 ·intro j x q hx hq;obtain⟨x',g1,k1⟩:=mB j x hx;refine .inr ⟨j,x',q,g1,hq,rfl,?_⟩
  rcases k1 with rfl | ⟨rfl,rfl⟩
  ·exact λh=>h
  ·exact λ_ cs e=>by cases e
 ·intro j hj hjn;simp only[H.kN,dH];rw[un (by simp only[H.kN] at hj;omega)]
 ·intro j cs' f hj
  rcases get j _ hj with⟨rfl,e⟩ | ⟨_,h⟩
  ·cases e;exact .inr ⟨j,cs,ho⟩
  ·exact .inr ⟨j,cs',h⟩
def kX.DX{P:Program}{ro:Option Nat}{c:Code}{st:gq}{Q:Ex->gq->Prop}{i0 id len es cg:Nat}{cs:List AV}(hi:i0<st.n)(hf:st.f i0=.slice (some (id,0)) len es none)(ho:st.h.aR.get id=some (.cells cs cg))
 (hk:∀(cap:Nat) (ex:List AV),len<=cap->ex.length=cap*es-cs.length->kX P ro c ⟨AU st.f i0 (.slice (some (id,0)) len es (some cap)),st.n,st.h.kN id cg (cs++ex),st.ds⟩ Q):kX P ro c st Q:=by
 intro F n σ a w hs hF;have hv:=hs.t.2 i0 hi;rw[hf] at hv;obtain⟨p,c0,e0,hp,h1,h2,h3,h4⟩:=hs.h.cells ho;generalize hg:a.tmps.getD i0 undef=v at hv
 cases hv with
 | @slice _ _ _ _ _ ad p' cp hp' hl hr hc ha=>
  rw[hp] at hp';cases hp';rw[bt] at hr;obtain⟨ex,hx1,hx2⟩:=SB σ c0 (p.d+cs.length) (cp*es-cs.length) (by omega);obtain⟨g1,g2⟩:=hs.h.kN ho hp h1 (ex:=ex) (by omega) hx2;refine(hk cp ex hl hx1).wide (σ:=σ) ?_ hF g2 rfl;refine⟨⟨hs.t.1,λi hi'=>?_⟩,g1,hs.ds⟩;by_cases e:i=i0
  ·subst e;rw[hg];show V σ (AU st.f i _ i) _;rw[uJ];exact .slice hp hl (by omega) (λx hx=>by cases hx;rfl) ha
  ·show V σ (AU st.f i0 _ i) _;rw[rJ _ _ e];exact hs.t.2 i hi'
def EX{θ:Nat->Loc}{ρ:kg}:∀(aS:List AV),c7 θ ρ (a9 aS.length .any) aS
 | []=>by rw[List.length_nil,List.replicate_zero,aQ]
 | a::aS=>by
  rw[bc,List.replicate_succ,aK];exact⟨a,aS,rfl,by rw[VS];trivial,EX aS⟩
def ar.DX{P:Program}{ro:Option Nat}{c:Code}{f:Fm}{n:Nat}{S:List SO}{ds:List iV}{Q:Ex->eB->Prop}(i0:Nat){o len e:Nat}{cs:List SV}(hi:i0<n)(hf:aX f i0=.buf o len e none)(hS:S[o]?=some (.cells cs))
 (hk:∀cap,len<=cap->ar P ro c ⟨(i0,.buf o len e (some cap))::f,n,S.set o (.cells (cs++a9 (cap*e-cs.length) .any)),ds⟩ Q):ar P ro c ⟨f,n,S,ds⟩ Q:=by
 rintro ρ0 h0 ⟨af,n',h,ds'⟩ ⟨rfl,rfl,θ,ρ,hR,hF⟩;obtain⟨hL,aS,g1,g2,g3⟩:=hR.obj o _ hS (λh=>by cases h);have hv:=hF.v i0;rw[hf,VS] at hv;rw[ul hi] at hv;refine kX.DX hi hv g1 ?_;intro cap ex hle hex;have hlen:=g2.length;refine hk cap hle ρ0 h0 _ ⟨rfl,rfl,θ,ρ,?_,?_⟩
 ·have hidr:¬h0.pr (θ o).id:=by
   rcases hL.e with e | e<;>rw[e]
   ·exact hL.x.1
   ·exact hL.y.1
  have hm:=dR h.low (θ o).id
  have hlo:h0.lo<=gw h.low (θ o).id:=by
   have:=hR.ok.lo _ hidr;have:=hR.lw;unfold gw;cases ble h.low (θ o).id<;>simpa
  have get:∀j,j≠(θ o).id->(h.kN (θ o).id (θ o).cg (aS++ex)).aR.get j=h.aR.get j:=by
   intro j hj;simp only[H.kN,dH];rw[un hj]
  have own:∀p so,(S.set o (.cells (cs++a9 (cap*e-cs.length) .any)))[p]?=some so->(p=o/\so=.cells (cs++a9 (cap*e-cs.length) .any))\/(p≠o/\S[p]?=some so):=by
   intro p so hp;by_cases e:p=o
   ·subst e;rw[List.getElem?_set_self (bD hS)] at hp;cases hp;exact .inl ⟨rfl,rfl⟩
   ·rw[List.getElem?_set_ne (λh=>e h.symm)] at hp;exact .inr ⟨e,hp⟩
  have sepo:∀p so,p≠o->S[p]?=some so->so≠.gone->(θ p).id≠(θ o).id:=by
   intro p so hp h1 h2 e;have sp:=hR.sep p o so _ hp h1 h2 hS (λh=>by cases h);obtain⟨k,_⟩:=hR.obj p so h1 h2
   rcases k.e with e1 | e1<;>rcases hL.e with e2 | e2<;>rw[e1,e2] at e
   ·exact sp.xx e
   ·exact sp.xy e
   ·exact sp.yx e
   ·exact sp.yy e
  refine⟨hR.ok,hR.nx,λj hj=>?_,hR.fm,hlo,ap hm.1 hR.ln,?_,?_,?_,hR.mB⟩
  ·rw[get j (λe=>hidr (e▸hj))];exact hR.ob j hj
  ·intro p so hp hg
   rcases own p so hp with⟨rfl,rfl⟩ | ⟨hne,hp'⟩
   ·refine⟨hL,aS++ex,?_,?_,g3⟩
    ·simp only[H.kN,dH];rw[ul trivial]
    ·refine g2.app ?_;rw[<-hlen,<-hex];exact EX ex
   ·obtain⟨k1,k2⟩:=hR.obj p so hp' hg;refine⟨k1,?_⟩;have hid:=sepo p so hne hp' hg
    cases so with
    | cells cs'=>obtain⟨as',q1,q2,q3⟩:=k2;exact⟨as',by rw[get _ hid];exact q1,q2,q3⟩
    | map ks vs b=>obtain⟨l,c,q1,q2,q3⟩:=k2;exact⟨l,c,by rw[get _ hid];exact q1,q2,q3⟩
    | iter m bs c pos=>obtain⟨kY,q1,q2⟩:=k2;exact⟨kY,q1,by rw[get _ hid];exact q2⟩
    | oL ks vs bs c pos=>obtain⟨kY,l,q1,q2,q3,q4⟩:=k2;exact⟨kY,l,q1,q2,q3,by rw[get _ hid];exact q4⟩
    | gone=>trivial
    | loop=>obtain⟨q1,q2,q3⟩:=k2;exact⟨q1,by rw[get _ hid];exact q2,q3⟩
    | ox=>exact⟨k2.1,by rw[get _ hid];exact k2.2⟩
  ·intro p p' so so' hpp hp hg hp' hg'
   rcases own p so hp with⟨rfl,rfl⟩ | ⟨hne,hq⟩<;>rcases own p' so' hp' with⟨rfl,rfl⟩ | ⟨hne',hq'⟩
   ·exact t8 rfl hpp
   ·exact hR.sep p p' _ so' hpp hS (λh=>by cases h) hq' hg'
   ·exact hR.sep p p' so _ hpp hq hg hS (λh=>by cases h)
   ·exact hR.sep p p' so so' hpp hq hg hq' hg'
  ·intro id ob hi';obtain⟨r1,r2,r3⟩:=hR.row id ob hi'
   have hne:id≠(θ o).id:=by
    have:=r3 o _ hS (λh=>by cases h)
    rcases hL.e with e | e<;>rw[e]
    ·exact this.1
    ·exact this.2
   refine⟨r1,by rw[get _ hne];exact r2,λp so hp hg=>?_⟩
   rcases own p so hp with⟨rfl,rfl⟩ | ⟨_,hq⟩
   ·exact r3 p _ hS (λh=>by cases h)
   ·exact r3 p so hq hg
 ·refine⟨λi=>?_,hF.u⟩;show VS θ ρ (if i0=i then _ else aX f i) _;by_cases e:i0=i
  ·subst e;rw[ul rfl,VS];simp only[ul hi,uJ]
  ·rw[un e];have:=hF.v i;by_cases hi2:i<n'
   ·rw[ul hi2] at this ⊢;simp only;rw[rJ _ _ (λh=>e h.symm)];exact this
   ·rw[un hi2] at this ⊢;exact this
def zh(a b:Nat):gw a b=min a b:=by
 unfold gw;cases h:ble a b
 ·have:¬a<=b:=λe=>by rw[eN e] at h;cases h
  rw[an];omega
 ·have:=jq h;rw[ai];omega
def CE{h h1:H}{id off cg x y:Nat}{cs xs:List AV}(ho:h.aR.get id=some (.cells cs cg))(hf:h.dE.get cg=some (x,y))(hid:id<h.next)(hx:x<h.next)(hy:y<h.next)
 (hs:({ h with low:=h.next }:H).store id off xs=some h1):h.store id off xs=some { h1 with low:=gw h.low h1.low }:=by
 unfold H.store at hs ⊢;simp only[ho] at hs ⊢;cases hc:(ble (off+xs.length) cs.length&&xs.all jZ)
 ·rw[hc,an] at hs;cases hs
 ·rw[hc,ai] at hs;rw[ai];cases hs;unfold H.alone;simp only[hf];cases hb:(beq x id&&beq y id)
  ·simp only[an,zh,Option.some.injEq,H.mk.injEq,true_and];omega
  ·simp only[ai,zh,Option.some.injEq,H.mk.injEq,true_and];omega
def SC.row{P:Program}{g:FuncId}{args cs cs':List SV}{r0:SV}(hlen:cs'.length=cs.length)(hone:∀(θ:Nat->Loc) (ρ:kg) (xs:List AV),c7 θ ρ cs' xs->xs.all jZ=true)
 (H:∀(E:En) (θ:Nat->Loc) (ρ:kg) (h:H) (avs asx:List AV) (cg:Nat),E.h={ h with low:=h.next }->RS θ ρ ρ E E.h [.cells cs]->c7 θ ρ args avs->h.aR.get (θ 0).id=some (.cells asx cg)->c7 θ ρ cs asx->
  (∃q:Nat×Nat,h.dE.get cg=some (q.1,q.2)/\((θ 0).id=q.1\/(θ 0).id=q.2)/\q.1<h.next/\q.2<h.next/\cg<h.next/\(θ 0).id<h.next)->
  dC P (.func g) avs h (λv h'=>VS θ ρ r0 v/\∃xs,c7 θ ρ cs' xs/\h.store (θ 0).id 0 xs=some h')):SC P g args [.cells cs] [] (λr S'=>r=r0/\S'=[.cells cs']):=by
 intro E θ ρ h avs hE hR hA;obtain⟨⟨k1,k2,k3,k4⟩,asx,q1,q2,q3⟩:=hR.obj 0 _ rfl (λh=>by cases h)
 have hidn:(θ 0).id<E.h.next:=by rcases k1 with e | e<;>rw[e];exact k2.2;exact k3.2
 have e1:E.h.aR=h.aR:=by rw[hE]
 have e2:E.h.dE=h.dE:=by rw[hE]
 have e3:E.h.next=h.next:=by rw[hE]
 rw[e1] at q1;rw[e2] at q3;rw[e3] at hidn;have kx:=k2.2;have ky:=k3.2;have kf:=k4.2;rw[e3] at kx ky kf;refine(H E θ ρ h avs asx (θ 0).cg hE hR hA q1 q2 ⟨((θ 0).x,(θ 0).y),q3,k1,kx,ky,kf,hidn⟩).mono ?_;rintro v h' ⟨hv,xs,hxs,hst⟩;obtain⟨h1,g1,g2,g3⟩:=hR.store (o:=0) (cs:=cs) (vs:=cs') (off:=0) rfl hxs (hone θ ρ xs hxs) (by omega);rw[hE] at g1;have g4:=CE q1 q3 hidn kx ky g1;rw[hst] at g4;cases g4;refine⟨r0,[.cells cs'],_,ρ,h1,⟨rfl,rfl⟩,rfl,?_,g3 _ _ hv,ba _,?_⟩
 ·have:(cs.take 0++(cs'++cs.drop (0+cs'.length)))=cs':=by
   rw[bt,hlen,List.drop_length,List.append_nil,List.take_zero,List.nil_append]
  rw[this] at g2;exact g2
 ·intro i hi _
  have:i=0:=by
   have:i<1:=hi;omega
  subst this;rw[cC]
def Fg.e0{f:Fm}{n:Nat}{S:List SO}{ds:List iV}(i e:Nat)(h:aX f i=.a (.slice none 0 0 (some 0))\/∃o,aX f i=.buf o 0 e (some 0)):Fg ⟨f,n,S,ds⟩ ⟨(i,.e0 e)::f,n,S,ds⟩:=by
 refine⟨rfl,?_⟩;rintro ρ0 h0 ⟨af,n',hh,ds'⟩ ⟨rfl,rfl,θ,ρ,hR,hF⟩;refine⟨rfl,rfl,θ,ρ,hR,λj=>?_,hF.u⟩;show VS θ ρ (if i=j then _ else aX f j) _;by_cases e1:i=j
 ·subst e1;rw[ul rfl];have:=hF.v i
  rcases h with h | ⟨o,h⟩
  ·rw[h,VS] at this;rw[VS,this];exact⟨none,0,rfl,λh=>t8 rfl h⟩
  ·rw[h,VS] at this;rw[VS,this];exact⟨_,e,rfl,λ_=>rfl⟩
 ·rw[un e1];exact hF.v j
end
end Go.Ev
