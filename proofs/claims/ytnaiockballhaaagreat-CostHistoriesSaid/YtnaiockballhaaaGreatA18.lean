/- A part of the texts of this claim: every theorem says what it proves, with its conditions. -/
import Derived.Test.YtnaiockballhaaaGreatA17
import Derived.Test.YtnaiockballhaaaGreatA10
set_option linter.unusedSimpArgs false
set_option linter.unusedVariables false
set_option linter.unusedSectionVars false
open Bool (and_eq_true)
open List (getElem?_eq_getElem mem_range replicate getElem?_map mem_map ofFn range)
open Nat (beq le_trans ble le_refl)
open Option (map_some bind_some)
namespace Go.Ev
noncomputable section
section
variable {θ θ':Nat->Loc} {ρ ρ0 ρ':jP} {P:Program} {h0:En} {h h1:H} {S S' S0:List SO}
def Ov(θ θ':Nat->Loc)(r:Nat->Nat)(J:Nat):Nat->Loc:=λp=>match (range J).find? λi=>beq (r i) p with
 | some i=>θ' i
 | none=>θ p
theorem PA{r:Nat->Nat}{J i:Nat}(hi:∀i j,r i=r j->i=j)(h:i<J):Ov θ θ' r J (r i)=θ' i:=by
 unfold Ov
 cases hf:(range J).find? λj=>beq (r j) (r i) with
 | none=>
  have:=List.find?_eq_none.1 hf i (mem_range.2 h);simp at this
 | some j=>
  have:=List.find?_some hf;rw[hi j i (Nat.eq_of_beq_eq_true this)]
theorem Ow{r:Nat->Nat}{J p:Nat}(h:∀i,i<J->r i≠p):Ov θ θ' r J p=θ p:=by
 unfold Ov;rw[List.find?_eq_none.2 λi hi=>by simpa using h i (mem_range.1 hi)]
def uD(ρ ρ':jP):jP:=λid=>match ρ id with
 | some ob=>some ob
 | none=>ρ' id
theorem EZ{id:Nat}{ob:AO}(h:ρ id=some ob):uD ρ ρ' id=some ob:=by unfold uD;rw[h]
theorem LU{os mv:List Nat}{low:Nat}(hR:RS θ ρ0 ρ h0 h S)(hr:∀(i:Nat) so,S0[i]?=some so->S[jg os S.length i]?=some (nO (jg os S.length) so))(hK:os.length=S0.length)(hnd:os.Nodup)(hos:∀o∈os,o<S.length)
 (hR':RS θ' ρ ρ' (Lr (λp=>θ (jg os S.length p)) h0 h S0) h1 S') (hl:S0.length<=S'.length) (hid:∀i,i<S0.length->i∉mv->(θ' i).id=(θ (jg os S.length i)).id) (hb:tK S'.length S'=true) (hlow:low=gh h.low h1.low):
 RS (Ov θ θ' (jg os S.length) S'.length) ρ0 (uD ρ ρ') h0 { h1 with low:=low } (fb S os mv S')/\
 (∀v x,VS θ ρ v x->VS (Ov θ θ' (jg os S.length) S'.length) (uD ρ ρ') (lU (dK os mv S.length (S'.length-os.length)) v) x)/\
 ∀v x,dx S'.length v=true->VS θ' ρ' v x->VS (Ov θ θ' (jg os S.length) S'.length) (uD ρ ρ') (fv (jg os S.length) v) x:=by
 have hi:∀i j,jg os S.length i=jg os S.length j->i=j:=λi j=>Cp hnd hos;generalize hR0:jg os S.length=r at *;generalize hT:Ov θ θ' r S'.length=θt
 have hT1:∀i,i<S'.length->θt (r i)=θ' i:=λi h=>by rw[<-hT];exact PA hi h
 have hT2:∀p,(∀i,i<S'.length->r i≠p)->θt p=θ p:=λp h=>by rw[<-hT];exact Ow h
 have hjn:∀i,r i<S.length↔i<S0.length:=by
  intro i;by_cases h:i<os.length
  ·have e:=lZ (B:=S.length) (getElem?_eq_getElem h);rw[hR0] at e;rw[e];exact⟨λ_=>by omega,λ_=>hos _ (List.getElem_mem h)⟩
  ·have e:=mN (B:=S.length) (Nat.le_of_not_lt h);rw[hR0] at e;rw[e];exact⟨λ_=>by omega,λ_=>by omega⟩
 have hmem:∀p,p∈dK os mv S.length (S'.length-os.length)↔(∃i,i∈mv/\r i=p)\/∃i,S0.length<=i/\i<S'.length/\r i=p:=by
  intro p;unfold dK;rw[List.mem_append,mem_map,mem_map,hR0];refine or_congr Iff.rfl ⟨?_,?_⟩
  ·rintro⟨j,hj,rfl⟩;refine⟨os.length+j,by omega,by have:=mem_range.1 hj;omega,?_⟩;rw[<-hR0,mN (by omega)];omega
  ·rintro⟨i,h1,h2,rfl⟩;refine⟨i-os.length,mem_range.2 (by omega),?_⟩;rw[<-hR0,mN (by omega)]
 have hpr:∀j,h0.pr j->(Lr (λp=>θ (r p)) h0 h S0).pr j:=by
  intro j hj;refine⟨Nat.lt_of_lt_of_le (hR.ok.pr j hj) hR.nx,λi so h1 h2=>?_⟩;obtain⟨k,_⟩:=hR.obj _ _ (hr i so h1) (eP.2 h2);exact⟨λe=>k.x.1 (e▸hj),λe=>k.y.1 (e▸hj)⟩
 have hpf:∀j,h0.pf j->(Lr (λp=>θ (r p)) h0 h S0).pf j:=by
  intro j hj;refine⟨Nat.lt_of_lt_of_le (hR.ok.pf j hj) hR.nx,λi so h1 h2=>?_⟩;obtain⟨k,_⟩:=hR.obj _ _ (hr i so h1) (eP.2 h2);exact λe=>k.f.1 (e▸hj)
 have hlt:∀i so,S0[i]?=some so->i<S'.length:=λi so h=>Nat.lt_of_lt_of_le (bl h) hl
 have hoth:∀p so,(∀i,i<S'.length->r i≠p)->S[p]?=some so->so≠.gone->
  (Lr (λp=>θ (r p)) h0 h S0).pr (θ p).x/\(Lr (λp=>θ (r p)) h0 h S0).pr (θ p).y/\(Lr (λp=>θ (r p)) h0 h S0).pf (θ p).bZ:=by
  intro p so hp h1 h2;obtain⟨k,_⟩:=hR.obj p so h1 h2;have sp:=λi s (e1:S0[i]?=some s) (e2:s≠.gone)=>hR.sep p (r i) so _ (λe=>hp i (hlt i s e1) e.symm) h1 h2 (hr i s e1) (eP.2 e2);exact⟨⟨k.x.2,λi s e1 e2=>⟨(sp i s e1 e2).xx,(sp i s e1 e2).xy⟩⟩,⟨k.y.2,λi s e1 e2=>⟨(sp i s e1 e2).yx,(sp i s e1 e2).yy⟩⟩,⟨k.f.2,λi s e1 e2=>(sp i s e1 e2).f⟩⟩
 have hob:∀j,(Lr (λp=>θ (r p)) h0 h S0).pr j->h1.aQ.get j=h.aQ.get j:=λj hj=>hR'.ob j hj;have hfm:∀j,(Lr (λp=>θ (r p)) h0 h S0).pf j->h1.dA.get j=h.dA.get j:=λj hj=>hR'.fm j hj
 have hrow:∀id ob,ρ id=some ob->(Lr (λp=>θ (r p)) h0 h S0).pr id:=by
  intro id ob e;obtain⟨r1,_,r3⟩:=hR.row id ob e;exact⟨r1,λi s e1 e2=>r3 _ _ (hr i s e1) (eP.2 e2)⟩
 have hnew:∀id ob,ρ' id=some ob->uD ρ ρ' id=some ob:=by
  intro id ob e;unfold uD
  cases e2:ρ id with
  | none=>exact e
  | some ob2=>
   have a:=(hR'.row id ob e).2.1;rw[hob id (hrow id ob2 e2),(hR.row id ob2 e2).2.1] at a;exact a
 have hfr0:∀(ρx:jP) v x,VS θ ρx v x->VS θt ρx (lU (dK os mv S.length (S'.length-os.length)) v) x:=by
  intro ρx v x hv;refine VS.ids (θ:=Gc θ (dK os mv S.length (S'.length-os.length)) θt) (λp=>?_) (Eb hv);by_cases hp:p∈dK os mv S.length (S'.length-os.length)
  ·rw[wx (.inl hp)]
  ·rw[Gd hp];rw[hmem] at hp;by_cases him:∃i,i<S'.length/\r i=p
   ·obtain⟨i,e1,rfl⟩:=him;have e2:i<S0.length:=Nat.lt_of_not_le λe=>hp (.inr ⟨i,e,e1,rfl⟩);rw[hT1 i e1,hid i e2 (λe=>hp (.inl ⟨i,e,rfl⟩))]
   ·rw[hT2 p λi e1 e2=>him ⟨i,e1,e2⟩]
 have hfr:∀v x,VS θ ρ v x->VS θt (uD ρ ρ') (lU (dK os mv S.length (S'.length-os.length)) v) x:=λv x hv=>hfr0 _ _ _ (hv.mono λ_ _ e=>EZ e);have hsets:=λp=>Be (os:=os) (S:=iQ (dK os mv S.length (S'.length-os.length)) S) (ss:=S'.map (nO r)) p hnd (λo ho=>by rw[iR];exact hos o ho) (by rw[List.length_map];omega)
 have hA:∀i,i<S'.length->(fb S os mv S')[r i]?=(S'[i]?).map (nO r):=by
  intro i e;unfold fb;rw[hR0];by_cases e1:i<os.length
  ·have e2:os[i]?=some (r i):=by
    have:=lZ (B:=S.length) (getElem?_eq_getElem e1);rw[hR0] at this;rw[this,getElem?_eq_getElem e1]
   rw[(hsets (r i)).1 i e2,getElem?_map]
  ·have e2:=mN (B:=S.length) (Nat.le_of_not_lt e1);rw[hR0] at e2;have:=(hsets (r i)).2.2 (by rw[iR,e2];omega);rw[this,iR,e2,getElem?_map,show os.length+(S.length+(i-os.length)-S.length)=i by omega]
 have hB:∀p so,(∀i,i<S'.length->r i≠p)->(fb S os mv S')[p]?=some so->so≠.gone->∃s,S[p]?=some s/\s≠.gone/\so=rh (lU (dK os mv S.length (S'.length-os.length))) s:=by
  intro p so hp e1 e2;unfold fb at e1;rw[hR0] at e1
  have hno:p∉os:=by
   intro hm;obtain⟨i,hi1,hi2⟩:=List.getElem_of_mem hm;have e3:=lZ (B:=S.length) (getElem?_eq_getElem hi1);rw[hR0,hi2] at e3;exact hp i (by omega) e3
  by_cases hpl:p<S.length
  ·rw[(hsets p).2.1 hno (by rw[iR];exact hpl),xH] at e1;obtain⟨s,hs,rfl⟩:=au e1;exact⟨s,hs,AY e2,rfl⟩
  ·rw[(hsets p).2.2 (by rw[iR];omega),iR,getElem?_map] at e1;obtain⟨s,hs,_⟩:=au e1;have:=bl hs;refine absurd ?_ (hp (os.length+(p-S.length)) this);rw[<-hR0,mN (by omega)];omega
 have hcase:∀p so,(fb S os mv S')[p]?=some so->so≠.gone->(∃i s,i<S'.length/\r i=p/\S'[i]?=some s/\s≠.gone/\so=nO r s)\/((∀i,i<S'.length->r i≠p)/\∃s,S[p]?=some s/\s≠.gone/\so=rh (lU (dK os mv S.length (S'.length-os.length))) s):=by
  intro p so e1 e2;by_cases him:∃i,i<S'.length/\r i=p
  ·obtain⟨i,e3,rfl⟩:=him;rw[hA i e3] at e1;obtain⟨s,hs,rfl⟩:=au e1;exact .inl ⟨i,s,e3,rfl,hs,eP.1 e2,rfl⟩
  ·have hp:∀i,i<S'.length->r i≠p:=λi e3 e4=>him ⟨i,e3,e4⟩;exact .inr ⟨hp,hB p so hp e1 e2⟩
 have hrn:∀v x,dx S'.length v=true->VS θ' ρ' v x->VS θt (uD ρ ρ') (fv r v) x:=by
  intro v x e1 e2;rw[VS.rn];refine VS.kU (θ:=θ') (λq hq=>?_) e1 (e2.mono hnew);rw[hT1 q hq]
 refine⟨⟨hR.ok,le_trans hR.nx hR'.nx,λj hj=>(hob j (hpr j hj)).trans (hR.ob j hj),λj hj=>(hfm j (hpf j hj)).trans (hR.fm j hj),?_,?_,?_,?_,?_,?_⟩,hfr,hrn⟩
 ·show h0.lo<=low;rw[hlow];exact mL hR.lw hR'.lw
 ·show low<=h1.next;rw[hlow];exact le_trans (dM _ _).2 hR'.ln
 ·intro p so e1 e2
  rcases hcase p so e1 e2 with⟨i,s,e3,rfl,e4,e5,rfl⟩ | ⟨hp,s,e3,e4,rfl⟩
  ·rw[hT1 i e3];obtain⟨k,k2⟩:=hR'.obj i s e4 e5;refine⟨⟨k.e,⟨λe=>k.x.1 (hpr _ e),k.x.2⟩,⟨λe=>k.y.1 (hpr _ e),k.y.2⟩,⟨λe=>k.f.1 (hpf _ e),k.f.2⟩⟩,?_⟩;rw[mu.rn];refine mu.kU (θ:=θ') (λq hq=>by rw[hT1 q hq]) (DC hb e4) ?_;exact k2.mono hnew rfl rfl
  ·rw[hT2 p hp];obtain⟨k,k2⟩:=hR.obj p s e3 e4;obtain⟨o1,o2,o3⟩:=hoth p s hp e3 e4;refine⟨k.mono hR'.nx,(k2.mono (h':=h) (λ_ _ e=>EZ e) rfl rfl).map (hfr0 _) ?_ (hfm _ o3)⟩
   rcases k.e with e | e
   ·rw[e];exact hob _ o1
   ·rw[e];exact hob _ o2
 ·intro p q so so' hpq e1 e2 e3 e4
  rcases hcase p so e1 e2 with⟨i,s,a3,rfl,a4,a5,rfl⟩ | ⟨hp,s,a3,a4,rfl⟩
  ·rcases hcase q so' e3 e4 with⟨j,s',b3,rfl,b4,b5,rfl⟩ | ⟨hq,s',b3,b4,rfl⟩
   ·rw[hT1 i a3,hT1 j b3];exact hR'.sep i j s s' (λe=>hpq (by rw[e])) a4 a5 b4 b5
   ·rw[hT1 i a3,hT2 q hq];obtain⟨k,_⟩:=hR'.obj i s a4 a5;obtain⟨o1,o2,o3⟩:=hoth q s' hq b3 b4;exact⟨λe=>k.x.1 (by rw[e];exact o1),λe=>k.x.1 (by rw[e];exact o2),λe=>k.y.1 (by rw[e];exact o1),λe=>k.y.1 (by rw[e];exact o2),λe=>k.f.1 (by rw[e];exact o3)⟩
  ·rcases hcase q so' e3 e4 with⟨j,s',b3,rfl,b4,b5,rfl⟩ | ⟨hq,s',b3,b4,rfl⟩
   ·rw[hT2 p hp,hT1 j b3];obtain⟨k,_⟩:=hR'.obj j s' b4 b5;obtain⟨o1,o2,o3⟩:=hoth p s hp a3 a4;exact⟨λe=>k.x.1 (by rw[<-e];exact o1),λe=>k.y.1 (by rw[<-e];exact o1),λe=>k.x.1 (by rw[<-e];exact o2),λe=>k.y.1 (by rw[<-e];exact o2),λe=>k.f.1 (by rw[<-e];exact o3)⟩
   ·rw[hT2 p hp,hT2 q hq];exact hR.sep p q s s' hpq a3 a4 b3 b4
 ·intro id ob e
  have hfull:id<h1.next/\h1.aQ.get id=some ob:=by
   unfold uD at e
   cases e2:ρ id with
   | some ob2=>
    rw[e2] at e;cases e;exact⟨Nat.lt_of_lt_of_le (hR.row id _ e2).1 hR'.nx,by rw[hob id (hrow id _ e2)];exact(hR.row id _ e2).2.1⟩
   | none=>
    rw[e2] at e;exact⟨(hR'.row id ob e).1,(hR'.row id ob e).2.1⟩
  refine⟨hfull.1,hfull.2,?_⟩;intro p so e1 e2;unfold uD at e
  rcases hcase p so e1 e2 with⟨i,s,a3,rfl,a4,a5,rfl⟩ | ⟨hp,s,a3,a4,rfl⟩
  ·rw[hT1 i a3]
   cases e3:ρ id with
   | some ob2=>
    obtain⟨k,_⟩:=hR'.obj i s a4 a5;exact⟨λe=>k.x.1 (by rw[<-e];exact hrow id _ e3),λe=>k.y.1 (by rw[<-e];exact hrow id _ e3)⟩
   | none=>
    rw[e3] at e;exact(hR'.row id ob e).2.2 i s a4 a5
  ·rw[hT2 p hp]
   cases e3:ρ id with
   | some ob2=>exact(hR.row id _ e3).2.2 p s a3 a4
   | none=>
    rw[e3] at e;obtain⟨o1,o2,_⟩:=hoth p s hp a3 a4
    rcases hR'.lJ id ob e with e4 | e4
    ·rw[e3] at e4;cases e4
    ·exact⟨λe5=>e4 (by rw[e5];exact o1),λe5=>e4 (by rw[e5];exact o2)⟩
 ·intro id ob e;unfold uD at e
  cases e2:ρ id with
  | some ob2=>rw[e2] at e;cases e;exact hR.lJ id _ e2
  | none=>
   rw[e2] at e
   rcases hR'.lJ id ob e with e4 | e4
   ·rw[e2] at e4;cases e4
   ·exact .inr λe5=>e4 (hpr id e5)
theorem aM.sc{ro:Option Nat}{all:List Oper}{o:Oper}{l:List Oper}{f:Fm}{n:Nat}{ds:List jd}{K:en->Prop}{d:Nat}{c:Call}{g:FuncId}{vs ws:List SV}{mv:List Nat}{Q:SV->List SO->Prop}(os:List Nat)(hst:eH all n [o]=true)(hop:o.op=.call c)(hdst:o.dst=some d)(hw:da all f o.guard=some true)(hdy:kH (.call c)=true)
 (hc:gr P f c=some (g,vs)) (hq:SC P g ws S0 mv Q) (hvs:jM (jg os S.length) ws=vs) (hK:os.length=S0.length) (hnd:os.Nodup) (hos:∀(i:Nat) so,S0[i]?=some so->∃o,os[i]?=some o/\S[o]?=some (nO (jg os S.length) so))
 (hb:∀r S',Q r S'->dx S'.length r=true/\tK S'.length S'=true)
 (hk:∀r S',Q r S'->aM P ro all l ⟨(d,fv (jg os S.length) r)::m8 (dK os mv S.length (S'.length-os.length)) f,n,fb S os mv S',ds⟩ K):aM P ro all (o::l) ⟨f,n,S,ds⟩ K:=by
 rintro ρ0 h0 ⟨af,n',h,ds'⟩ ⟨rfl,rfl,θ,ρ,hR,hF⟩;subst hvs
 have hd:Nat.blt d n'=true:=by
  have:=(eQ hst).1;rw[hdst] at this;exact this
 have hos2:∀o∈os,o<S.length:=by
  intro o ho;obtain⟨i,hi1,hi2⟩:=List.getElem_of_mem ho
  have:i<S0.length:=by omega
  obtain⟨o',e1,e2⟩:=hos i _ (getElem?_eq_getElem this);rw[getElem?_eq_getElem hi1] at e1;cases e1;rw[<-hi2];exact bl e2
 have hr:∀(i:Nat) so,S0[i]?=some so->S[jg os S.length i]?=some (nO (jg os S.length) so):=by
  intro i so e;obtain⟨o,e1,e2⟩:=hos i so e;rw[lZ e1];exact e2
 obtain⟨xs,cap,e1,e2⟩:=wR hF hc;refine .c hop hdst (cX hF (ee hst hw)) hdy hd e1 rfl (hq _ _ ρ h _ rfl (hR.enter hr (λi j=>Cp hnd hos2)) ((c8.rn _).1 e2)) ?_;rintro v h' ⟨r,S',θ',ρ',h1,k1,rfl,k3,k4,k5,k6⟩;obtain⟨b1,b2⟩:=hb r S' k1;obtain⟨j1,j2,j3⟩:=LU (low:=gh h.low h1.low) hR hr hK hnd hos2 k3 k5 k6 b2 rfl;refine hk r S' k1 ρ0 h0 _ ⟨rfl,rfl,_,_,j1,?_⟩
 have hF2:FR (Ov θ θ' (jg os S.length) S'.length) (uD ρ ρ') (aR (m8 (dK os mv S.length (S'.length-os.length)) f)) af n' (vV h0.w ds'):=
  ⟨λi=>by rw[xg];exact j2 _ _ (hF.v i),hF.u⟩
 exact hF2.put (fQ hd) (j3 _ _ b1 k4)
end
section
variable {P:Program} {ro:Option Nat} {f:Fm} {n:Nat} {S:List SO} {ds:List jd} {r:Nat->Nat} {B:Nat}
mutual
theorem uu{o:Nat}:∀{v:SV},ld v=true->names o v=false
 | .a v,_=>ko v
 | .sl n e cs,_=>xW n e cs
 | .im ks vs,_=>xU ks vs
 | .ip cs,_=>xV cs
 | .any,_=>ur
 | .e0 e,_=>xT e
 | .ag cs,h=>by rw[names];exact du (by rw[ld] at h;exact h)
 | .bI cs,h=>by rw[names];exact du (by rw[ld] at h;exact h)
 | .fn g a b,h=>by rw[ld,and_eq_true] at h;rw[names,du h.1,du h.2];rfl
 | .iface t v,h=>by rw[names];exact uu (by rw[ld] at h;exact h)
 | .ptr _ _,h=>by simp[ld] at h
 | .map _,h=>by simp[ld] at h
 | .buf _ _ _ _,h=>by simp[ld] at h
 | .sub _ _ _ _ _,h=>by simp[ld] at h
theorem du{o:Nat}:∀{vs:List SV},cr vs=true->fF o vs=false
 | [],_=>rfl
 | d::ds,h=>by rw[cr,and_eq_true] at h;rw[fF,uu h.1,du h.2];rfl
end
theorem uf{o:Nat}{v:SV}(h:ld v=true):bf o v=v:=by unfold bf;rw[uu h];rfl
theorem bK{o:Nat}:∀{vs:List SV},cr vs=true->vs.map (bf o)=vs
 | [],_=>rfl
 | d::ds,h=>by rw[cr,and_eq_true] at h;rw[List.map_cons,uf h.1,bK h.2]
mutual
theorem Ja:∀{v:SV},ld v=true->fv r v=v
 | .a v,_=>by rw[fv]
 | .sl n e cs,_=>by rw[fv]
 | .im ks vs,_=>by rw[fv]
 | .ip cs,_=>by rw[fv]
 | .any,_=>by rw[fv]
 | .e0 e,_=>by rw[fv]
 | .ag cs,h=>by rw[fv,aZ (by rw[ld] at h;exact h)]
 | .bI cs,h=>by rw[fv,aZ (by rw[ld] at h;exact h)]
 | .fn g a b,h=>by rw[ld,and_eq_true] at h;rw[fv,aZ h.1,aZ h.2]
 | .iface t v,h=>by rw[fv,Ja (by rw[ld] at h;exact h)]
 | .ptr _ _,h=>by simp[ld] at h
 | .map _,h=>by simp[ld] at h
 | .buf _ _ _ _,h=>by simp[ld] at h
 | .sub _ _ _ _ _,h=>by simp[ld] at h
theorem aZ:∀{vs:List SV},cr vs=true->jM r vs=vs
 | [],_=>by rw[jM]
 | d::ds,h=>by rw[cr,and_eq_true] at h;rw[jM,Ja h.1,aZ h.2]
end
mutual
theorem fe:∀{v:SV},ld v=true->dx B v=true
 | .a v,_=>by rw[dx];all_goals (intros;contradiction)
 | .sl n e cs,_=>by rw[dx];all_goals (intros;contradiction)
 | .im ks vs,_=>by rw[dx];all_goals (intros;contradiction)
 | .ip cs,_=>by rw[dx];all_goals (intros;contradiction)
 | .any,_=>by rw[dx];all_goals (intros;contradiction)
 | .e0 e,_=>by rw[dx];all_goals (intros;contradiction)
 | .ag cs,h=>by rw[dx];exact bu (by rw[ld] at h;exact h)
 | .bI cs,h=>by rw[dx];exact bu (by rw[ld] at h;exact h)
 | .fn g a b,h=>by rw[ld,and_eq_true] at h;rw[dx,bu h.1,bu h.2];rfl
 | .iface t v,h=>by rw[dx];exact fe (by rw[ld] at h;exact h)
 | .ptr _ _,h=>by simp[ld] at h
 | .map _,h=>by simp[ld] at h
 | .buf _ _ _ _,h=>by simp[ld] at h
 | .sub _ _ _ _ _,h=>by simp[ld] at h
theorem bu:∀{vs:List SV},cr vs=true->fc B vs=true
 | [],_=>rfl
 | d::ds,h=>by rw[cr,and_eq_true] at h;rw[fc,fe h.1,bu h.2];rfl
end
theorem iB:∀{a b:List SV},cr a=true->cr b=true->cr (a++b)=true
 | [],_,_,h=>h
 | d::ds,b,h,g=>by
  rw[cr,and_eq_true] at h;show cr (d::(ds++b))=true;rw[cr,h.1,iB h.2 g];rfl
theorem aB{α:Type}{enc:α->List SV}(h:∀x,cr (enc x)=true):∀l:List α,cr (l.flatMap enc)=true
 | []=>rfl
 | a::l=>by rw[List.flatMap_cons];exact iB (h a) (aB h l)
theorem ID(l:List (List Nat)):cr (l.flatMap (az ak))=true:=aB (λ_=>rfl) l
theorem LG(l:List Int):cr (l.flatMap (az aa))=true:=aB (λ_=>rfl) l
theorem nD(o:Nat)(l:List (List Nat)):(l.flatMap (az ak)).map (bf o)=l.flatMap (az ak):=bK (ID l)
theorem Ea(o:Nat)(l:List Int):(l.flatMap (az aa)).map (bf o)=l.flatMap (az aa):=bK (LG l)
theorem MJ(l:List (List Nat)):jM r (l.flatMap (az ak))=l.flatMap (az ak):=aZ (ID l)
theorem MI(l:List Int):jM r (l.flatMap (az aa))=l.flatMap (az aa):=aZ (LG l)
theorem Ip(l:List (List Nat)):fc B (l.flatMap (az ak))=true:=bu (ID l)
theorem Io(l:List Int):fc B (l.flatMap (az aa))=true:=bu (LG l)
theorem MA(v:AV):fv r (.a v)=.a v:=by rw[fv]
theorem MC(e:Nat):fv r (.e0 e)=.e0 e:=by rw[fv]
theorem MH(n e:Nat)(cs:List SV):fv r (.sl n e cs)=.sl n e cs:=by rw[fv]
theorem I9:fv r .any=.any:=by rw[fv]
theorem MF(ks:List AV)(vs:List SV):fv r (.im ks vs)=.im ks vs:=by rw[fv]
theorem MG(cs:List SV):fv r (.ip cs)=.ip cs:=by rw[fv]
theorem Jc(o off:Nat):fv r (.ptr o off)=.ptr (r o) off:=by rw[fv]
theorem Jb(o:Nat):fv r (.map o)=.map (r o):=by rw[fv]
theorem Cq(o n e:Nat)(c:Option Nat):fv r (.buf o n e c)=.buf (r o) n e c:=by rw[fv]
theorem Jd(o off n e:Nat)(c:Option Nat):fv r (.sub o off n e c)=.sub (r o) off n e c:=by rw[fv]
theorem MB(cs:List SV):fv r (.ag cs)=.ag (jM r cs):=by rw[fv]
theorem Je(cs:List SV):fv r (.bI cs)=.bI (jM r cs):=by rw[fv]
theorem MD(g:FuncId)(a b:List SV):fv r (.fn g a b)=.fn g (jM r a) (jM r b):=by rw[fv]
theorem ME(t:TypeId)(v:SV):fv r (.iface t v)=.iface t (fv r v):=by rw[fv]
theorem I8:jM r []=[]:=by rw[jM]
theorem E2(d:SV)(ds:List SV):jM r (d::ds)=fv r d::jM r ds:=by rw[jM]
theorem My(cs:List SV):nO r (.cells cs)=.cells (jM r cs):=rfl
theorem E3(ks:List AV)(vs:List SV)(b:Option (List Nat×Nat)):nO r (.map ks vs b)=.map ks (jM r vs) b:=rfl
theorem OV(m:SV)(bs:List Nat)(c:Nat)(pos:List Nat):nO r (.iter m bs c pos)=.iter (fv r m) bs c pos:=rfl
theorem Mz(ks:List AV)(vs:List SV)(bs:List Nat)(c:Nat)(pos:List Nat):nO r (.rI ks vs bs c pos)=.rI ks vs bs c pos:=rfl
theorem OU:nO r .gone=.gone:=rfl
theorem OW(c:fP)(ls:LoopState)(p:Option Code)(f:Fm):nO r (.loop c ls p f)=.loop c ls p (Oi r f):=rfl
theorem OT(N:Nat):nO r (.ni N)=.ni N:=rfl
theorem I7:Oi r []=[]:=rfl
theorem E1(d:Nat)(v:SV)(f:Fm):Oi r ((d,v)::f)=(d,fv r v)::Oi r f:=rfl
theorem OP(o:Nat)(os:List Nat)(B:Nat):jg (o::os) B 0=o:=rfl
theorem OS(o:Nat)(os:List Nat)(B i:Nat):jg (o::os) B (i+1)=jg os B i:=by
 unfold jg;rw[List.getElem?_cons_succ]
 cases os[i]? with
 | some _=>rfl
 | none=>simp
theorem OQ(B i:Nat):jg [] B i=B+i:=rfl
theorem D3(os mv:List Nat)(B:Nat):dK os mv B 0=mv.map (jg os B):=by unfold dK;simp
theorem D4(os mv:List Nat)(B:Nat):dK os mv B 1=mv.map (jg os B)++[B+0]:=by unfold dK;rfl
theorem D5(os mv:List Nat)(B:Nat):dK os mv B 2=mv.map (jg os B)++[B+0,B+1]:=by unfold dK;rfl
theorem D6(os mv:List Nat)(B:Nat):dK os mv B 3=mv.map (jg os B)++[B+0,B+1,B+2]:=by unfold dK;rfl
theorem Qn:(∀f:Fm,m8 [] f=f)/\(∀(k:Nat) (ks:List Nat) (f:Fm),m8 (k::ks) f=m8 ks (dz k f))/\(∀S:List SO,iQ [] S=S)/\(∀(k:Nat) (ks:List Nat) (S:List SO),iQ (k::ks) S=iQ ks (dq k S))/\
 (∀S ss:List SO,jc S [] ss=S++ss)/\(∀(S:List SO) (o:Nat) (os:List Nat) (s:SO) (ss:List SO),jc S (o::os) (s::ss)=jc (S.set o s) os ss)/\(∀(S:List SO) (os mv:List Nat) (S':List SO),fb S os mv S'=jc (iQ (dK os mv S.length (S'.length-os.length)) S) os (S'.map (nO (jg os S.length))))/\
 (∀(g:Nat->Nat),([]:List Nat).map g=[])/\(∀(g:Nat->Nat) (a:Nat) (l:List Nat),(a::l).map g=g a::l.map g)/\(∀l:List Nat,[]++l=l)/\(∀(a:Nat) (l m:List Nat),(a::l)++m=a::(l++m))/\(∀(g:SO->SO),([]:List SO).map g=[])/\(∀(g:SO->SO) (a:SO) (l:List SO),(a::l).map g=g a::l.map g)/\
 (([]:List Nat).length=0)/\(∀(a:Nat) (l:List Nat),(a::l).length=l.length+1)/\(([]:List SO).length=0)/\(∀(a:SO) (l:List SO),(a::l).length=l.length+1)/\(∀l:List SO,l++[]=l)/\(∀n:Nat,n-0=n)/\(∀n:Nat,n-n=0):=by
 (repeat' apply And.intro)<;>intros<;>first | rfl | (simp;done) | rw[jc]
theorem Qo:(type_of% @MA)/\(type_of% @MC)/\(type_of% @MH)/\(type_of% @I9)/\(type_of% @MF)/\(type_of% @MG)/\(type_of% @Jc)/\(type_of% @Jb)/\(type_of% @Cq)/\(type_of% @Jd)/\(type_of% @MB)/\(type_of% @Je)/\(type_of% @MD)/\(type_of% @ME)/\(type_of% @I8)/\(type_of% @E2)/\(type_of% @My)/\(type_of% @E3)/\(type_of% @OU)/\(type_of% @OV)/\(type_of% @Mz)/\(type_of% @OW)/\(type_of% @OT)/\(type_of% @I7)/\(type_of% @E1):=
 ⟨@MA,@MC,@MH,@I9,@MF,@MG,@Jc,@Jb,@Cq,@Jd,@MB,@Je,@MD,@ME,@I8,@E2,@My,@E3,@OU,@OV,@Mz,@OW,@OT,@I7,@E1⟩
theorem Qp:(type_of% @OP)/\(type_of% @OS)/\(type_of% @OQ)/\(type_of% @D3)/\(type_of% @D4)/\(type_of% @D5)/\(type_of% @D6)/\(type_of% @nD)/\(type_of% @Ea)/\(type_of% @MJ)/\(type_of% @MI)/\(type_of% @Ip)/\(type_of% @Io):=
 ⟨@OP,@OS,@OQ,@D3,@D4,@D5,@D6,@nD,@Ea,@MJ,@MI,@Ip,@Io⟩
theorem ec:(type_of% @Qn)/\(type_of% @Qo)/\(type_of% @Qp):=⟨@Qn,@Qo,@Qp⟩
theorem vN:(type_of% @dx.eq_1)/\(type_of% @dx.eq_2)/\(type_of% @dx.eq_3)/\(type_of% @dx.eq_4)/\(type_of% @dx.eq_5)/\(type_of% @dx.eq_6)/\(type_of% @dx.eq_7)/\(type_of% @dx.eq_8)/\(type_of% @fc.eq_1)/\(type_of% @fc.eq_2)/\(type_of% @kD.eq_1)/\(type_of% @kD.eq_2)/\(type_of% @kD.eq_3)/\(type_of% @kD.eq_4)/\(type_of% @kD.eq_5)/\(type_of% @kD.eq_6)/\(type_of% @kD.eq_7)/\(type_of% @BI.eq_1)/\(type_of% @BI.eq_2)/\(type_of% @tK.eq_1)/\(type_of% @tK.eq_2)/\(∀(B:Nat) (v:AV),dx B (.a v)=true)/\(∀(B n e:Nat) (cs:List SV),dx B (.sl n e cs)=true)/\(∀(B:Nat) (cs:List SV),dx B (.ip cs)=true)/\(∀(B:Nat) (ks:List AV) (cs:List SV),dx B (.im ks cs)=true)/\(∀(B e:Nat),dx B (.e0 e)=true)/\(∀B:Nat,dx B .any=true):=
 ⟨@dx.eq_1,@dx.eq_2,@dx.eq_3,@dx.eq_4,@dx.eq_5,@dx.eq_6,@dx.eq_7,@dx.eq_8,@fc.eq_1,@fc.eq_2,@kD.eq_1,@kD.eq_2,@kD.eq_3,@kD.eq_4,@kD.eq_5,@kD.eq_6,@kD.eq_7,@BI.eq_1,@BI.eq_2,@tK.eq_1,@tK.eq_2,λ_ _=>fe rfl,λ_ _ _ _=>fe rfl,λ_ _=>fe rfl,λ_ _ _=>fe rfl,λ_ _=>fe rfl,λ_=>fe rfl⟩
theorem aM.Kh{all:List Oper}{o:Oper}{l:List Oper}{K:en->Prop}{d t yt:Nat}{x:Operand}{y:Value}{k e:Nat}{cs:List SV}(hst:eH all n [o]=true)(hop:o.op=.binOp .eql t x (.const y) yt)(hdst:o.dst=some d)(hw:da all f o.guard=some true)
 (hx:eY f x=some (.sl k e cs)) (hy:kT kW y=some (.slice none 0 0 (some 0))) (ht:gV P t=.sl) (hg:P.eqGuardType P.depth t=false) (hk:∀b:Bool,(b=true->k=0)->aM P ro all l ⟨(d,.a (.bool b))::f,n,S,ds⟩ K):aM P ro all (o::l) ⟨f,n,S,ds⟩ K:=by
 rintro ρ0 h0 ⟨af,n',h,ds'⟩ ⟨rfl,rfl,θ,ρ,hR,hF⟩;obtain⟨hd,_⟩:=eQ hst;rw[hdst] at hd;obtain⟨a,ha,ka⟩:=bL hF hx;have ha':ev (dL af n') x=some a:=ha;obtain⟨e',hu⟩:=oh ht;have hyv:ev (dL af n') (.const y)=some (.slice none 0 0 (some 0)):=hy
 have fin:∀b:Bool,cM P .eql t a (.slice none 0 0 (some 0))=some (.bool b)->(b=true->k=0)->je P ro all (o::l) ⟨af,n',h,ds'⟩ (λast'=>∃st',K st'/\st'.n=n'/\jk ρ0 h0 st' ast'):=by
  intro b hb hbk;refine .v hop hdst (cX hF (ee hst hw)) rfl hd (by rw[G9,ha',hyv,bind_some,bind_some,hb];rfl) ?_;exact hk b hbk ρ0 h0 _ ⟨rfl,rfl,θ,ρ,hR,hF.put (fQ hd) (by rw[VS])⟩
 rw[VS,GS] at ka
 rcases ka with⟨rfl,_,o',e'',c,rfl,_,_⟩ | ⟨id,off,cap,row,rfl,_⟩
 ·cases o' with
  | none=>exact fin true (by unfold cM;simp only[hg,ao,kR,hu,Option.isNone_none,map_some]) λ_=>rfl
  | some q=>exact fin false (by unfold cM;simp only[hg,ao,kR,hu,map_some]) λ_=>rfl
 ·exact fin false (by unfold cM;simp only[hg,ao,kR,hu,map_some]) λh=>by cases h
def rb(S:List SO)(r:Nat->Nat):List SO->List Nat->Prop
 | [],_=>True
 | so::l,o::os=>S[o]?=some (nO r so)/\rb S r l os
 | _::_,[]=>False
theorem IF:∀{S0:List SO} {os:List Nat},rb S r S0 os->∀(i:Nat) so,S0[i]?=some so->∃o,os[i]?=some o/\S[o]?=some (nO r so)
 | [],_,_,i,so,h=>by simp at h
 | s::l,o::os,hh,0,so,h=>by
  simp only[List.getElem?_cons_zero,Option.some.injEq] at h;subst h;exact⟨o,rfl,hh.1⟩
 | s::l,o::os,hh,i+1,so,h=>by
  simp only[List.getElem?_cons_succ] at h ⊢;exact IF hh.2 i so h
 | _::_,[],hh,_,_,_=>hh.elim
theorem aM.sk{all:List Oper}{o:Oper}{l:List Oper}{K:en->Prop}{d:Nat}{c:Call}{g:FuncId}{vs ws:List SV}{mv:List Nat}{S0 S1 S2:List SO}{r0 r2:SV}{f2:Fm}(os:List Nat)(hst:eH all n [o]=true)(hop:o.op=.call c)(hdst:o.dst=some d)(hw:da all f o.guard=some true)(hdy:kH (.call c)=true)
 (hc:gr P f c=some (g,vs)) (hq:SC P g ws S0 mv (λr S'=>r=r0/\S'=S1)) (hvs:jM (jg os S.length) ws=vs) (hK:os.length=S0.length) (hnd:os.Nodup) (hos:rb S (jg os S.length) S0 os)
 (hb1:dx S1.length r0=true) (hb2:tK S1.length S1=true) (hr:fv (jg os S.length) r0=r2) (hf:m8 (dK os mv S.length (S1.length-os.length)) f=f2) (hS:fb S os mv S1=S2)
 (hk:aM P ro all l ⟨(d,r2)::f2,n,S2,ds⟩ K):aM P ro all (o::l) ⟨f,n,S,ds⟩ K:=by
 refine .sc os hst hop hdst hw hdy hc hq hvs hK hnd (IF hos) ?_ ?_
 ·rintro _ _ ⟨rfl,rfl⟩;exact⟨hb1,hb2⟩
 ·rintro _ _ ⟨rfl,rfl⟩;rw[hr,hf,hS];exact hk
theorem KO.of{fn:Func}{K:Nat}{mv:List Nat}{Q:SV->List SO->Prop}{e:Ex}{rs:List ResultVar}{vs:List SV}(he:jU e=true)(hr:fn.results.toList=rs)(h:nd P f S rs=some vs)(hq:Q (aC vs) S)(hK:K<=S.length)(hw:∀i,i<K->i∉mv->aR f (1000000+i)=.ptr i 0):KO P fn K mv Q e ⟨f,n,S,[]⟩:=
 ⟨he,rfl,⟨vs,by rw[hr];exact h,hq⟩,hK,hw⟩
end
open Go.RowKit
theorem JU(σ:Sg){vs:Array Value}(ih:∀i:Fin vs.size,∃a,V σ a vs[i]):∃a,V σ a (.agg vs):=by
 refine⟨.agg (ofFn λi=>(ih i).choose),.agg (List.length_ofFn) ?_⟩;intro i a v h1 h2;rw[List.getElem?_ofFn] at h1;by_cases hi:i<vs.size
 ·rw[dif_pos hi] at h1;rw[Array.getElem?_eq_getElem hi] at h2;cases h1;cases h2;exact(ih ⟨i,hi⟩).choose_spec
 ·rw[dif_neg hi] at h1;cases h1
theorem OI(σ:Sg):∀(n:Nat) (v:Value),SizeOf.sizeOf v<n->∃a,V σ a v
 | 0,_,h=>absurd h (Nat.not_lt_zero _)
 | n+1,v,h=>by
  by_cases hv:∃vs,v=.agg vs
  ·obtain⟨vs,rfl⟩:=hv;refine JU σ λi=>OI σ n vs[i] ?_;have h1:SizeOf.sizeOf vs[i]<SizeOf.sizeOf vs:=Array.sizeOf_getElem vs i.1 i.2
   have h2:SizeOf.sizeOf (Value.agg vs)=1+SizeOf.sizeOf vs:=by simp
   omega
  ·exact⟨.any,.any λvs e=>hv ⟨vs,e⟩⟩
theorem P2(σ:Sg)(c:Array Value)(d:Nat):∀(n:Nat),d+n<=c.size->∃aS:List AV,aS.length=n/\∀(i:Nat) (a:AV),aS[i]?=some a->∃v,c[d+i]?=some v/\V σ a v:=by
 intro n hn;have ih:∀i:Fin n,∃a,V σ a (c[d+i.1]'(by have:=i.2;omega)):=λi=>OI σ _ _ (Nat.lt_succ_self _);refine⟨ofFn λi=>(ih i).choose,List.length_ofFn,?_⟩;intro i a h1;rw[List.getElem?_ofFn] at h1;by_cases hi:i<n
 ·rw[dif_pos hi] at h1;cases h1;have hs:=(ih ⟨i,hi⟩).choose_spec;exact⟨_,Array.getElem?_eq_getElem (by omega),hs⟩
 ·rw[dif_neg hi] at h1;cases h1
noncomputable def H.jX(h:H)(id bZ:Nat)(cs:List AV):H:={ h with aQ:=h.aQ.put id (some (.cells cs bZ)),low:=gh h.low id }
theorem HR.jX{σ:Sg}{h:H}{w:World}(hr:HR σ h w){id bZ:Nat}{cs ex:List AV}{p:rH}(ho:h.aQ.get id=some (.cells cs bZ))(hp:σ id=some p){c:Array Value}{e:TypeId}(hb:w.heap[p.b]?=some (.cells c e (0,0)))
 (hl:cs.length+ex.length<=p.r) (hV:∀(i:Nat) (a:AV),ex[i]?=some a->∃v,c[p.d+cs.length+i]?=some v/\V σ a v):HR σ (h.jX id bZ (cs++ex)) w/\Ext σ σ h (h.jX id bZ (cs++ex)) w w:=by
 obtain⟨q,c0,e0,hq,h1,h2,h3,h4⟩:=hr.cells ho;rw[hp] at hq;cases hq;rw[hb] at h1;cases h1;have hm:=dM h.low id
 have get:∀j x,(h.jX id bZ (cs++ex)).aQ.get j=some x->(j=id/\x=.cells (cs++ex) bZ)\/(j≠id/\h.aQ.get j=some x):=by
  intro j x hx;simp only[H.jX,dw] at hx;split at hx
  ·rename_i e;cases hx;exact .inl ⟨e,rfl⟩
  ·rename_i hne;exact .inr ⟨hne,hx⟩
 have lJ:∀j x,(h.jX id bZ (cs++ex)).aQ.get j=some x->∃y,h.aQ.get j=some y/\(x=y\/(y=.cells cs bZ/\x=.cells (cs++ex) bZ)):=by
  intro j x hx
  rcases get j x hx with⟨rfl,rfl⟩ | ⟨_,h⟩
  ·exact⟨_,ho,.inr ⟨rfl,rfl⟩⟩
  ·exact⟨x,h,.inl rfl⟩
 refine⟨⟨?_,hr.fresh,?_,?_,le_trans hm.1 hr.y8⟩,⟨λ_ _ h=>h,le_refl _,le_refl _,rfl,rfl,rfl,?_,λ_ _ _=>rfl,hm.1,?_,λ_ _ h=>h,?_⟩⟩
 ·intro j x hx
  rcases get j x hx with⟨rfl,rfl⟩ | ⟨_,h⟩
  ·refine⟨p,hp,c,e,hb,h2,by rw[List.length_append];exact hl,?_⟩;intro i a ha;rw[List.getElem?_append] at ha;split at ha
   ·exact h4 i a ha
   ·rename_i hlt;obtain⟨v,hv,hV⟩:=hV _ a ha;rw[show p.d+cs.length+(i-cs.length)=p.d+i by omega] at hv;exact⟨v,hv,hV⟩
  ·exact hr.obj j x h
 ·intro i j x y q1 q2 hij hx hy a1 a2 hb2;obtain⟨x',g1,k1⟩:=lJ i x hx;obtain⟨y',g2,k2⟩:=lJ j y hy;have:=hr.sep i j x' y' q1 q2 hij g1 g2 a1 a2 hb2
  rcases this with⟨b1,b2,f,e1,e2⟩ | ⟨b1,b2,e1,e2⟩
  ·left
   rcases k1 with rfl | ⟨rfl,rfl⟩<;>rcases k2 with rfl | ⟨rfl,rfl⟩
   ·exact⟨_,_,f,e1,e2⟩
   ·cases e2;exact⟨_,_,_,e1,rfl⟩
   ·cases e1;exact⟨_,_,_,rfl,e2⟩
   ·exact⟨_,_,_,rfl,rfl⟩
  ·right
   rcases k1 with rfl | ⟨rfl,rfl⟩<;>rcases k2 with rfl | ⟨rfl,rfl⟩
   ·exact⟨_,_,e1,e2⟩
   ·cases e2
   ·cases e1
   ·cases e1
 ·intro i cs' f hi
  rcases get i _ hi with⟨rfl,e⟩ | ⟨_,h⟩
  ·cases e;exact hr.bZ i _ _ ho
  ·exact hr.bZ i _ _ h
 ·intro j x q hx hq;obtain⟨x',g1,k1⟩:=lJ j x hx;refine .inr ⟨j,x',q,g1,hq,rfl,?_⟩
  rcases k1 with rfl | ⟨rfl,rfl⟩
  ·exact λh=>h
  ·exact λ_ cs e=>by cases e
 ·intro j hj hjn;simp only[H.jX,dw];rw[if_neg (by simp only[H.jX] at hj;omega)]
 ·intro j cs' f hj
  rcases get j _ hj with⟨rfl,e⟩ | ⟨_,h⟩
  ·cases e;exact .inr ⟨j,cs,ho⟩
  ·exact .inr ⟨j,cs',h⟩
theorem kj.Cn{P:Program}{ro:Option Nat}{c:Code}{st:fO}{Q:Ex->fO->Prop}{i0 id len es bZ:Nat}{cs:List AV}(hi:i0<st.n)(hf:st.f i0=.slice (some (id,0)) len es none)(ho:st.h.aQ.get id=some (.cells cs bZ))
 (hk:∀(cap:Nat) (ex:List AV),len<=cap->ex.length=cap*es-cs.length->kj P ro c ⟨yU st.f i0 (.slice (some (id,0)) len es (some cap)),st.n,st.h.jX id bZ (cs++ex),st.ds⟩ Q):kj P ro c st Q:=by
 intro F n σ a w hs hF;have hv:=hs.t.2 i0 hi;rw[hf] at hv;obtain⟨p,c0,e0,hp,h1,h2,h3,h4⟩:=hs.h.cells ho;generalize hg:a.tmps.getD i0 undef=v at hv
 cases hv with
 | @slice _ _ _ _ _ ad p' cp hp' hl hr hc ha=>
  rw[hp] at hp';cases hp';rw[Nat.zero_add] at hr;obtain⟨ex,hx1,hx2⟩:=P2 σ c0 (p.d+cs.length) (cp*es-cs.length) (by omega);obtain⟨g1,g2⟩:=hs.h.jX ho hp h1 (ex:=ex) (by omega) hx2;refine(hk cp ex hl hx1).wide (σ:=σ) ?_ hF g2 rfl;refine⟨⟨hs.t.1,λi hi'=>?_⟩,g1,hs.ds⟩;by_cases e:i=i0
  ·subst e;rw[hg];show V σ (yU st.f i _ i) _;rw[tw];exact .slice hp hl (by omega) (λx hx=>by cases hx;rfl) ha
  ·show V σ (yU st.f i0 _ i) _;rw[qB _ _ e];exact hs.t.2 i hi'
theorem Dh{θ:Nat->Loc}{ρ:jP}:∀(aS:List AV),c8 θ ρ (replicate aS.length .any) aS
 | []=>by rw[List.length_nil,List.replicate_zero,bg]
 | a::aS=>by
  rw[List.length_cons,List.replicate_succ,aL];exact⟨a,aS,rfl,by rw[VS];trivial,Dh aS⟩
theorem ai.Cn{P:Program}{ro:Option Nat}{c:Code}{f:Fm}{n:Nat}{S:List SO}{ds:List jd}{Q:Ex->en->Prop}(i0:Nat){o len e:Nat}{cs:List SV}(hi:i0<n)(hf:aR f i0=.buf o len e none)(hS:S[o]?=some (.cells cs))
 (hk:∀cap,len<=cap->ai P ro c ⟨(i0,.buf o len e (some cap))::f,n,S.set o (.cells (cs++replicate (cap*e-cs.length) .any)),ds⟩ Q):ai P ro c ⟨f,n,S,ds⟩ Q:=by
 rintro ρ0 h0 ⟨af,n',h,ds'⟩ ⟨rfl,rfl,θ,ρ,hR,hF⟩;obtain⟨hL,aS,g1,g2,g3⟩:=hR.obj o _ hS (λh=>by cases h);have hv:=hF.v i0;rw[hf,VS] at hv;rw[if_pos hi] at hv;refine kj.Cn hi hv g1 ?_;intro cap ex hle hex;have hlen:=g2.length;refine hk cap hle ρ0 h0 _ ⟨rfl,rfl,θ,ρ,?_,?_⟩
 ·have hidr:¬h0.pr (θ o).id:=by
   rcases hL.e with e | e<;>rw[e]
   ·exact hL.x.1
   ·exact hL.y.1
  have hm:=dM h.low (θ o).id
  have hlo:h0.lo<=gh h.low (θ o).id:=by
   have:=hR.ok.lo _ hidr;have:=hR.lw;unfold gh;cases ble h.low (θ o).id<;>simpa
  have get:∀j,j≠(θ o).id->(h.jX (θ o).id (θ o).bZ (aS++ex)).aQ.get j=h.aQ.get j:=by
   intro j hj;simp only[H.jX,dw];rw[if_neg hj]
  have own:∀p so,(S.set o (.cells (cs++replicate (cap*e-cs.length) .any)))[p]?=some so->(p=o/\so=.cells (cs++replicate (cap*e-cs.length) .any))\/(p≠o/\S[p]?=some so):=by
   intro p so hp;by_cases e:p=o
   ·subst e;rw[List.getElem?_set_self (bl hS)] at hp;cases hp;exact .inl ⟨rfl,rfl⟩
   ·rw[List.getElem?_set_ne (λh=>e h.symm)] at hp;exact .inr ⟨e,hp⟩
  have sepo:∀p so,p≠o->S[p]?=some so->so≠.gone->(θ p).id≠(θ o).id:=by
   intro p so hp h1 h2 e;have sp:=hR.sep p o so _ hp h1 h2 hS (λh=>by cases h);obtain⟨k,_⟩:=hR.obj p so h1 h2
   rcases k.e with e1 | e1<;>rcases hL.e with e2 | e2<;>rw[e1,e2] at e
   ·exact sp.xx e
   ·exact sp.xy e
   ·exact sp.yx e
   ·exact sp.yy e
  refine⟨hR.ok,hR.nx,λj hj=>?_,hR.fm,hlo,le_trans hm.1 hR.ln,?_,?_,?_,hR.lJ⟩
  ·rw[get j (λe=>hidr (e▸hj))];exact hR.ob j hj
  ·intro p so hp hg
   rcases own p so hp with⟨rfl,rfl⟩ | ⟨hne,hp'⟩
   ·refine⟨hL,aS++ex,?_,?_,g3⟩
    ·simp only[H.jX,dw];rw[if_pos trivial]
    ·refine g2.app ?_;rw[<-hlen,<-hex];exact Dh ex
   ·obtain⟨k1,k2⟩:=hR.obj p so hp' hg;refine⟨k1,?_⟩;have hid:=sepo p so hne hp' hg
    cases so with
    | cells cs'=>obtain⟨as',q1,q2,q3⟩:=k2;exact⟨as',by rw[get _ hid];exact q1,q2,q3⟩
    | map ks vs b=>obtain⟨l,c,q1,q2,q3⟩:=k2;exact⟨l,c,by rw[get _ hid];exact q1,q2,q3⟩
    | iter m bs c pos=>obtain⟨kn,q1,q2⟩:=k2;exact⟨kn,q1,by rw[get _ hid];exact q2⟩
    | rI ks vs bs c pos=>obtain⟨kn,l,q1,q2,q3,q4⟩:=k2;exact⟨kn,l,q1,q2,q3,by rw[get _ hid];exact q4⟩
    | gone=>trivial
    | loop=>obtain⟨q1,q2,q3⟩:=k2;exact⟨q1,by rw[get _ hid];exact q2,q3⟩
    | ni=>exact⟨k2.1,by rw[get _ hid];exact k2.2⟩
  ·intro p p' so so' hpp hp hg hp' hg'
   rcases own p so hp with⟨rfl,rfl⟩ | ⟨hne,hq⟩<;>rcases own p' so' hp' with⟨rfl,rfl⟩ | ⟨hne',hq'⟩
   ·exact absurd rfl hpp
   ·exact hR.sep p p' _ so' hpp hS (λh=>by cases h) hq' hg'
   ·exact hR.sep p p' so _ hpp hq hg hS (λh=>by cases h)
   ·exact hR.sep p p' so so' hpp hq hg hq' hg'
  ·intro id ob hi';obtain⟨r1,r2,r3⟩:=hR.row id ob hi'
   have hne:id≠(θ o).id:=by
    have:=r3 o _ hS (λh=>by cases h)
    rcases hL.e with e | e<;>rw[e]
    ·exact this.1
    ·exact this.2
   refine⟨r1,by rw[get _ hne];exact r2,λp so hp hg=>?_⟩
   rcases own p so hp with⟨rfl,rfl⟩ | ⟨_,hq⟩
   ·exact r3 p _ hS (λh=>by cases h)
   ·exact r3 p so hq hg
 ·refine⟨λi=>?_,hF.u⟩;show VS θ ρ (if i0=i then _ else aR f i) _;by_cases e:i0=i
  ·subst e;rw[if_pos rfl,VS];simp only[if_pos hi,tw]
  ·rw[if_neg e];have:=hF.v i;by_cases hi2:i<n'
   ·rw[if_pos hi2] at this ⊢;simp only;rw[qB _ _ (λh=>e h.symm)];exact this
   ·rw[if_neg hi2] at this ⊢;exact this
theorem Er(a b:Nat):gh a b=min a b:=by
 unfold gh;cases h:ble a b
 ·have:¬a<=b:=λe=>by rw[ek e] at h;cases h
  rw[ao];omega
 ·have:=iO h;rw[ah];omega
theorem Kz{h h1:H}{id off bZ x y:Nat}{cs xs:List AV}(ho:h.aQ.get id=some (.cells cs bZ))(hf:h.dA.get bZ=some (x,y))(hid:id<h.next)(hx:x<h.next)(hy:y<h.next)
 (hs:({ h with low:=h.next }:H).store id off xs=some h1):h.store id off xs=some { h1 with low:=gh h.low h1.low }:=by
 unfold H.store at hs ⊢;simp only[ho] at hs ⊢;cases hc:(ble (off+xs.length) cs.length&&xs.all j7)
 ·rw[hc,ao] at hs;cases hs
 ·rw[hc,ah] at hs;rw[ah];cases hs;unfold H.alone;simp only[hf];cases hb:(beq x id&&beq y id)
  ·simp only[ao,Er,Option.some.injEq,H.mk.injEq,true_and];omega
  ·simp only[ah,Er,Option.some.injEq,H.mk.injEq,true_and];omega
theorem SC.row{P:Program}{g:FuncId}{args cs cs':List SV}{r0:SV}(hlen:cs'.length=cs.length)(hone:∀(θ:Nat->Loc) (ρ:jP) (xs:List AV),c8 θ ρ cs' xs->xs.all j7=true)
 (H:∀(E:En) (θ:Nat->Loc) (ρ:jP) (h:H) (avs asx:List AV) (bZ:Nat),E.h={ h with low:=h.next }->RS θ ρ ρ E E.h [.cells cs]->c8 θ ρ args avs->h.aQ.get (θ 0).id=some (.cells asx bZ)->c8 θ ρ cs asx->
  (∃q:Nat×Nat,h.dA.get bZ=some (q.1,q.2)/\((θ 0).id=q.1\/(θ 0).id=q.2)/\q.1<h.next/\q.2<h.next/\bZ<h.next/\(θ 0).id<h.next)->
  dT P (.func g) avs h (λv h'=>VS θ ρ r0 v/\∃xs,c8 θ ρ cs' xs/\h.store (θ 0).id 0 xs=some h')):SC P g args [.cells cs] [] (λr S'=>r=r0/\S'=[.cells cs']):=by
 intro E θ ρ h avs hE hR hA;obtain⟨⟨k1,k2,k3,k4⟩,asx,q1,q2,q3⟩:=hR.obj 0 _ rfl (λh=>by cases h)
 have hidn:(θ 0).id<E.h.next:=by rcases k1 with e | e<;>rw[e];exact k2.2;exact k3.2
 have e1:E.h.aQ=h.aQ:=by rw[hE]
 have e2:E.h.dA=h.dA:=by rw[hE]
 have e3:E.h.next=h.next:=by rw[hE]
 rw[e1] at q1;rw[e2] at q3;rw[e3] at hidn;have kx:=k2.2;have ky:=k3.2;have kf:=k4.2;rw[e3] at kx ky kf;refine(H E θ ρ h avs asx (θ 0).bZ hE hR hA q1 q2 ⟨((θ 0).x,(θ 0).y),q3,k1,kx,ky,kf,hidn⟩).mono ?_;rintro v h' ⟨hv,xs,hxs,hst⟩;obtain⟨h1,g1,g2,g3⟩:=hR.store (o:=0) (cs:=cs) (vs:=cs') (off:=0) rfl hxs (hone θ ρ xs hxs) (by omega);rw[hE] at g1;have g4:=Kz q1 q3 hidn kx ky g1;rw[hst] at g4;cases g4;refine⟨r0,[.cells cs'],_,ρ,h1,⟨rfl,rfl⟩,rfl,?_,g3 _ _ hv,le_refl _,?_⟩
 ·have:(cs.take 0++(cs'++cs.drop (0+cs'.length)))=cs':=by
   rw[Nat.zero_add,hlen,List.drop_length,List.append_nil,List.take_zero,List.nil_append]
  rw[this] at g2;exact g2
 ·intro i hi _
  have:i=0:=by
   have:i<1:=hi;omega
  subst this;rw[cz]
theorem Fg.e0{f:Fm}{n:Nat}{S:List SO}{ds:List jd}(i e:Nat)(h:aR f i=.a (.slice none 0 0 (some 0))\/∃o,aR f i=.buf o 0 e (some 0)):Fg ⟨f,n,S,ds⟩ ⟨(i,.e0 e)::f,n,S,ds⟩:=by
 refine⟨rfl,?_⟩;rintro ρ0 h0 ⟨af,n',hh,ds'⟩ ⟨rfl,rfl,θ,ρ,hR,hF⟩;refine⟨rfl,rfl,θ,ρ,hR,λj=>?_,hF.u⟩;show VS θ ρ (if i=j then _ else aR f j) _;by_cases e1:i=j
 ·subst e1;rw[if_pos rfl];have:=hF.v i
  rcases h with h | ⟨o,h⟩
  ·rw[h,VS] at this;rw[VS,this];exact⟨none,0,rfl,λh=>absurd rfl h⟩
  ·rw[h,VS] at this;rw[VS,this];exact⟨_,e,rfl,λ_=>rfl⟩
 ·rw[if_neg e1];exact hF.v j
end
end Go.Ev
