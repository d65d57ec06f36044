/- A part of the texts of this claim: every theorem says what it proves, with its conditions. -/
import Derived.Test.YtnaiockballhaaaGreatA14
set_option linter.unusedSimpArgs false
set_option linter.unusedVariables false
set_option linter.unusedSectionVars false
open Bool (and_eq_true)
open Option (bind_eq_some_iff bind_some)
open Nat (blt)
namespace Go.Ev
noncomputable section
structure en where
 f:Fm
 n:Nat
 S:List SO
 ds:List jd
def PK(ds:List jd)(j:Nat):AV:=match ds.reverse[j]? with
 | some d=>match d.fn with
  | some f=>.fn f d.args d.cap
  | none=>kh
 | none=>kh
def vV(w:Nat->AV):List jd->Nat->AV
 | [],i=>w i
 | d::ds,i=>if 7000000<=i then PK (d::ds) (i-7000000) else w i
def jk(ρ0:jP)(h0:En)(st:en)(ast:fO):Prop:=ast.n=st.n/\ast.ds=st.ds/\∃θ ρ,RS θ ρ0 ρ h0 ast.h st.S/\FR θ ρ (aR st.f) ast.f st.n (vV h0.w ast.ds)
def PX(ρ0:jP)(h0:En)(N:Nat)(Q:Ex->en->Prop):Ex->fO->Prop:=λex ast=>∃st,Q ex st/\st.n=N/\jk ρ0 h0 st ast
def ai(P:Program)(ro:Option Nat)(c:Code)(st:en)(Q:Ex->en->Prop):Prop:=∀ρ0 h0 ast,jk ρ0 h0 st ast->kj P ro c ast (PX ρ0 h0 st.n Q)
def aM(P:Program)(ro:Option Nat)(all l:List Oper)(st:en)(K:en->Prop):Prop:=∀ρ0 h0 ast,jk ρ0 h0 st ast->je P ro all l ast (λast'=>∃st',K st'/\st'.n=st.n/\jk ρ0 h0 st' ast')
section
variable {P:Program} {ro:Option Nat}
theorem ai.mono{c:Code}{st:en}{Q Q':Ex->en->Prop}(h:ai P ro c st Q)(hq:∀e x,Q e x->Q' e x):ai P ro c st Q':=
 λρ0 h0 ast hs=>(h ρ0 h0 ast hs).mono λ_ _ ⟨x,h1,h2⟩=>⟨x,hq _ _ h1,h2⟩
theorem ai.skip{st:en}{Q:Ex->en->Prop}(h:Q .normal st):ai P ro .skip st Q:=λ_ _ _ hs=>.skip ⟨st,h,rfl,hs⟩
theorem ai.label{l:Nat}{st:en}{Q:Ex->en->Prop}(h:Q .normal st):ai P ro (.label l) st Q:=λ_ _ _ hs=>.label ⟨st,h,rfl,hs⟩
theorem ai.exit{id:Nat}{st:en}{Q:Ex->en->Prop}(h:Q (.exit id) st):ai P ro (.exit id) st Q:=λ_ _ _ hs=>.exit ⟨st,h,rfl,hs⟩
theorem ai.ret{st:en}{Q:Ex->en->Prop}(h:Q .ret st):ai P ro .ret st Q:=λ_ _ _ hs=>.ret ⟨st,h,rfl,hs⟩
def eB(P:Program)(ro:Option Nat)(y:Code)(Q:Ex->en->Prop):Ex->en->Prop
 | .normal,st=>ai P ro y st Q
 | e,st=>Q e st
theorem ai.seq{x y:Code}{st:en}{Q:Ex->en->Prop}(h:ai P ro x st (eB P ro y Q)):ai P ro (.seq x y) st Q:=by
 intro ρ0 h0 ast hs;refine .seq ((h ρ0 h0 ast hs).mono ?_);rintro e a ⟨st',h1,h2,h3⟩
 cases e with
 | normal=>
  have:=h1 ρ0 h0 a h3;rw[h2] at this;exact this
 | _=>exact⟨st',h1,h2,h3⟩
theorem ai.cond{c:Operand}{x y:Code}{st:en}{Q:Ex->en->Prop}{b:Bool}(hc:eY st.f c=some (.a (.bool b)))(h1:b=true->ai P ro x st Q)(h2:b=false->ai P ro y st Q):ai P ro (.cond c x y) st Q:=by
 intro ρ0 h0 ast hs;obtain⟨a1,a2,θ,ρ,hR,hF⟩:=hs;rw[<-a1] at hF;obtain⟨a,ha,ka⟩:=bL hF hc;rw[VS] at ka;subst ka;refine .cond ha (λh=>h1 h ρ0 h0 ast ⟨a1,a2,θ,ρ,hR,by rw[<-a1];exact hF⟩) (λh=>h2 h ρ0 h0 ast ⟨a1,a2,θ,ρ,hR,by rw[<-a1];exact hF⟩)
theorem ai.yes{c:Operand}{x y:Code}{st:en}{Q:Ex->en->Prop}(hc:eY st.f c=some (.a (.bool true)))(h1:ai P ro x st Q):ai P ro (.cond c x y) st Q:=.cond hc (λ_=>h1) (λh=>by cases h)
theorem ai.no{c:Operand}{x y:Code}{st:en}{Q:Ex->en->Prop}(hc:eY st.f c=some (.a (.bool false)))(h1:ai P ro y st Q):ai P ro (.cond c x y) st Q:=.cond hc (λh=>by cases h) (λ_=>h1)
def iq(id:Nat)(Q:Ex->en->Prop):Ex->en->Prop
 | .exit i,st=>if i=id then Q .normal st else Q (.exit i) st
 | e,st=>Q e st
theorem ai.block{id:Nat}{x:Code}{st:en}{Q:Ex->en->Prop}(h:ai P ro x st (iq id Q)):ai P ro (.block id x) st Q:=by
 intro ρ0 h0 ast hs;refine .block ((h ρ0 h0 ast hs).mono ?_);rintro e a ⟨st',h1,h2,h3⟩
 cases e with
 | exit i=>
  simp only[iq] at h1;simp only[KY];by_cases hi:i=id
  ·rw[if_pos hi] at h1 ⊢;exact⟨st',h1,h2,h3⟩
  ·rw[if_neg hi] at h1 ⊢;exact⟨st',h1,h2,h3⟩
 | _=>exact⟨st',h1,h2,h3⟩
def Fg(st st':en):Prop:=st'.n=st.n/\∀ρ0 h0 ast,jk ρ0 h0 st ast->jk ρ0 h0 st' ast
theorem Fg.trans{a b c:en}(h1:Fg a b)(h2:Fg b c):Fg a c:=⟨h2.1.trans h1.1,λ_ _ _ h=>h2.2 _ _ _ (h1.2 _ _ _ h)⟩
theorem ai.fg{c:Code}{st st':en}{Q:Ex->en->Prop}(hf:Fg st st')(h:ai P ro c st' Q):ai P ro c st Q:=by
 intro ρ0 h0 ast hs;have:=h ρ0 h0 ast (hf.2 _ _ _ hs);rw[hf.1] at this;exact this
def df(I:Nat->en->Prop)(m:Nat)(Q:Ex->en->Prop):Ex->en->Prop
 | .normal,st=>∃k st',k<m/\Fg st st'/\I k st'
 | e,st=>Q e st
theorem ai.loop{x:Code}{st:en}{Q:Ex->en->Prop}(I:Nat->en->Prop)(m:Nat){st0:en}(hf:Fg st st0)(h0:I m st0)(hn:∀m st',I m st'->st'.n=st.n)(h:∀m st,I m st->ai P ro x st (df I m Q)):ai P ro (.loop x) st Q:=by
 intro ρ0 hh ast hs;refine .loop (λm a=>∃st',I m st'/\jk ρ0 hh st' a) m ⟨st0,h0,hf.2 _ _ _ hs⟩ ?_;rintro k a ⟨st1,hI,hst⟩;refine(h k st1 hI ρ0 hh a hst).mono ?_;rintro e a' ⟨st',h1,h2,h3⟩;have hn1:=hn _ _ hI
 cases e with
 | normal=>
  obtain⟨k',st2,hk,hfg,hI2⟩:=h1;exact⟨k',hk,st2,hI2,hfg.2 _ _ _ h3⟩
 | _=>exact⟨st',h1,h2.trans hn1,h3⟩
def cL(Q:Ex->en->Prop):Ex->en->Prop
 | .goto _,_=>False
 | e,st=>Q e st
theorem ai.scope{x:Code}{st:en}{Q:Ex->en->Prop}(h:ai P ro x st (cL Q)):ai P ro (.scope x) st Q:=by
 intro ρ0 h0 ast hs;refine .scope ((h ρ0 h0 ast hs).mono ?_);rintro e a ⟨st',h1,h2,h3⟩
 cases e with
 | goto l=>exact h1.elim
 | _=>exact⟨st',h1,h2,h3⟩
theorem ai.region{id:Nat}{ops:Array Oper}{st:en}{Q:Ex->en->Prop}(h:aM P ro ops.toList ops.toList st (Q .normal)):ai P ro (.region id ops false) st Q:=by
 intro ρ0 h0 ast hs;obtain⟨f,n,hh,ds⟩:=ast;refine .region ?_;have:=h ρ0 h0 _ hs;intro ops i h1 h2 F n σ a w Q' h3 h4 h5;exact this ops i h1 h2 F n σ a w Q' h3 h4 λst' a' w' σ' h6=>h5 st' a' w' σ' (by obtain⟨x,k1,k2,k3⟩:=h6;exact⟨x,k1,k2,k3⟩)
def tz(ops:List Oper)(f:Fm)(n:Nat)(o:Oper):Option Bool:=match o.guard with
 | none=>some true
 | some (j,want)=>match (ops[j]?).bind (·.dst) with
  | some d=>_root_.cond (blt d n) (match aR f d with
   | .a (.bool b)=>some (b==want)
   | .a (.bI [])=>some false
   | _=>none) none
  | none=>none
theorem cX{θ:Nat->Loc}{ρ:jP}{ops:List Oper}{f:Fm}{af:Nat->AV}{n:Nat}{wv:Nat->AV}(hF:FR θ ρ (aR f) af n wv){o:Oper}{b:Bool}(h:tz ops f n o=some b):kr ops af n o=some b:=by
 unfold tz at h;unfold kr;split at h
 ·rename_i hg;rw[hg];exact h
 ·rename_i j want hg;rw[hg];simp only;split at h
  ·rename_i d hd;obtain⟨hlt,h2⟩:=aK h;have:=hF.v d;rw[if_pos (fQ hlt)] at this;rw[hd];simp only;rw[hlt,ah];split at h2
   ·rename_i hx;rw[hx,VS] at this;rw[this];exact h2
   ·rename_i hx;rw[hx,VS] at this;rw[this];exact h2
   ·cases h2
  ·cases h
def eH(all:List Oper)(n:Nat)(l:List Oper):Bool:=l.all λo=>uT o.dst n&&(match o.guard with
 | none=>true
 | some (j,_)=>match (all[j]?).bind (·.dst) with
  | some d=>blt d n
  | none=>false)
def Bz(want:Bool):SV->Option Bool
 | .a (.bool b)=>some (_root_.cond want b (!b))
 | .a (.bI [])=>some false
 | _=>none
def da(all:List Oper)(f:Fm)(g:Option (Nat×Bool)):Option Bool:=match g with
 | none=>some true
 | some (j,want)=>(all[j]?).bind λo=>o.dst.bind λd=>Bz want (aR f d)
theorem ee{all:List Oper}{f:Fm}{n:Nat}{o:Oper}{l:List Oper}{b:Bool}(hs:eH all n (o::l)=true)(h:da all f o.guard=some b):tz all f n o=some b:=by
 unfold eH at hs;rw[List.all_cons,and_eq_true,and_eq_true] at hs;have hs2:=hs.1.2;unfold da at h;unfold tz
 cases hg:o.guard with
 | none=>rw[hg] at h;exact h
 | some q=>
  obtain⟨j,want⟩:=q;rw[hg] at h hs2;simp only at h hs2 ⊢;obtain⟨oj,hj,h⟩:=bind_eq_some_iff.1 h;obtain⟨d,hd,h⟩:=bind_eq_some_iff.1 h;rw[hj,bind_some,hd] at hs2 ⊢;simp only at hs2 ⊢;rw[hs2,ah];unfold Bz at h;split at h
  ·rename_i b' hb;cases want<;>cases b'<;>exact h
  ·exact h
  ·cases h
theorem eQ{all:List Oper}{n:Nat}{o:Oper}{l:List Oper}(hs:eH all n (o::l)=true):uT o.dst n=true/\eH all n l=true:=by
 unfold eH at hs ⊢;rw[List.all_cons,and_eq_true,and_eq_true] at hs;exact⟨hs.1.1,hs.2⟩
def kP(P:Program)(all:List Oper):List Oper->Fm->List SO->List Oper×Fm×List SO
 | [],f,S=>([],f,S)
 | o::l,f,S=>match da all f o.guard with
  | some true=>match db P f S o.op with
   | some q=>kP P all l (se f q.2.2 o.dst q.1) q.2.1
   | none=>(o::l,f,S)
  | some false=>match o.dst with
   | some d=>kP P all l ((d,.a kh)::f) S
   | none=>(o::l,f,S)
  | none=>(o::l,f,S)
theorem aM.nil{all:List Oper}{st:en}{K:en->Prop}(h:K st):aM P ro all [] st K:=λ_ _ _ hs=>.nil ⟨st,h,rfl,hs⟩
theorem Kr{f:Fm}{S:List SO}{op:Op}{q:SV×List SO×Option Nat}(h:db P f S op=some q):sD op=true:=by
 cases op<;>first | rfl | (simp[db] at h;done)
theorem aM.run{all:List Oper}{ds:List jd}{n:Nat}{K:en->Prop}:∀{l l':List Oper} {f f':Fm} {S S':List SO},eH all n l=true->kP P all l f S=(l',f',S')->aM P ro all l' ⟨f',n,S',ds⟩ K->aM P ro all l ⟨f,n,S,ds⟩ K
 | [],l',f,f',S,S',_,h,hk=>by
  simp only[kP,Prod.mk.injEq] at h;obtain⟨rfl,rfl,rfl⟩:=h;exact hk
 | o::l,l',f,f',S,S',hst,h,hk=>by
  have stop:(o::l,f,S)=(l',f',S')->aM P ro all (o::l) ⟨f,n,S,ds⟩ K:=by
   intro e;simp only[Prod.mk.injEq] at e;obtain⟨rfl,rfl,rfl⟩:=e;exact hk
  obtain⟨hd,hst2⟩:=eQ hst;unfold kP at h;split at h
  ·rename_i hw;have hw:=ee hst hw;split at h
   ·rename_i q hop;obtain⟨v,S1,kill⟩:=q;rintro ρ0 h0 ⟨af,n',hh,ds'⟩ ⟨rfl,rfl,θ,ρ,hR,hF⟩;obtain⟨rv,h',θ',e1,e2,e3,e4⟩:=Pw hR hF hop;refine .cons (cX hF hw) (.run (Kr hop) hd e1 ?_);intro x hx;rw[List.mem_singleton.1 hx];refine aM.run hst2 h hk ρ0 h0 _ ⟨rfl,rfl,θ',ρ,e2,?_⟩
    cases hdd:o.dst with
    | none=>exact hF.ia e4
    | some d=>rw[hdd] at hd;cases rv<;>exact hF.kill e4 (fQ hd) e3
   ·exact stop h
  ·rename_i hw;have hw:=ee hst hw;split at h
   ·rename_i d hdst;rw[hdst] at hd;rintro ρ0 h0 ⟨af,n',hh,ds'⟩ ⟨rfl,rfl,θ,ρ,hR,hF⟩;refine .s hdst (cX hF hw) hd ?_;exact aM.run hst2 h hk ρ0 h0 _ ⟨rfl,rfl,θ,ρ,hR,hF.put (fQ hd) (by rw[VS])⟩
   ·exact stop h
  ·exact stop h
end
mutual
inductive Wk (S:List SO):SV->SV->Prop
 | any (v:SV):Wk S v .any
 | a (v:AV):Wk S (.a v) (.a v)
 | sl (n e:Nat) (cs:List SV):Wk S (.sl n e cs) (.sl n e cs)
 | im (ks:List AV) (vs:List SV):Wk S (.im ks vs) (.im ks vs)
 | ip (cs:List SV):Wk S (.ip cs) (.ip cs)
 | nil (e:Nat):Wk S (.a (.slice none 0 0 (some 0))) (.sl 0 e [])
 | ptr {o off:Nat} {cs ds:List SV}:S[o]?=some (.cells cs)->bn S (cs.drop off) ds->off<=cs.length->Wk S (.ptr o off) (.ip ds)
 | buf {o n e:Nat} {c:Option Nat} {cs ds:List SV}:S[o]?=some (.cells cs)->bn S (cs.take (n*e)) ds->n*e<=cs.length->Wk S (.buf o n e c) (.sl n e ds)
 | sub {o off n e:Nat} {c:Option Nat} {cs ds:List SV}:S[o]?=some (.cells cs)->bn S ((cs.drop off).take (n*e)) ds->off+n*e<=cs.length->Wk S (.sub o off n e c) (.sl n e ds)
 | e0 (e:Nat):Wk S (.e0 e) (.e0 e)
 | QH (e:Nat):Wk S (.e0 e) (.sl 0 e [])
 | map {o:Nat} {ks:List AV} {vs ws:List SV} {b:Option (List Nat×Nat)}:S[o]?=some (.map ks vs b)->bn S vs ws->Wk S (.map o) (.im ks ws)
 | ag {cs ds:List SV}:bn S cs ds->Wk S (.ag cs) (.ag ds)
 | bI {cs ds:List SV}:bn S cs ds->Wk S (.bI cs) (.bI ds)
 | fn {g:FuncId} {a b c d:List SV}:bn S a c->bn S b d->Wk S (.fn g a b) (.fn g c d)
 | iface {t:TypeId} {v w:SV}:Wk S v w->Wk S (.iface t v) (.iface t w)
inductive bn (S:List SO):List SV->List SV->Prop
 | nil:bn S [] []
 | cons {v w:SV} {vs ws:List SV}:Wk S v w->bn S vs ws->bn S (v::vs) (w::ws)
end
def nH(θ:Nat->Loc)(ρ:jP)(h:H)(S:List SO):jP:=λid=>match ρ id with
 | some ob=>some ob
 | none=>@ite _ (∃o so,S[o]?=some so/\so≠.gone/\(θ o).id=id) (Classical.propDecidable _) (h.aQ.get id) none
section
variable {θ:Nat->Loc} {ρ ρ0:jP} {P:Program} {h0:En} {h:H} {S:List SO}
theorem pO{id:Nat}{ob:AO}(hi:ρ id=some ob):nH θ ρ h S id=some ob:=by unfold nH;rw[hi]
theorem sS(hR:RS θ ρ0 ρ h0 h S){o:Nat}{so:SO}(hS:S[o]?=some so)(hg:so≠.gone):nH θ ρ h S (θ o).id=h.aQ.get (θ o).id:=by
 unfold nH
 cases hr:ρ (θ o).id with
 | some ob=>rw[(hR.row _ _ hr).2.1]
 | none=>simp only;rw[if_pos ⟨o,so,hS,hg,rfl⟩]
mutual
theorem Wk.ok(hR:RS θ ρ0 ρ h0 h S):∀{v w:SV} {x:AV},Wk S v w->VS θ ρ v x->GS (nH θ ρ h S) w x
 | _,_,_,.any v,_=>by rw[GS];trivial
 | _,_,_,.a v,hv=>by rw[VS] at hv;rw[GS];exact hv
 | _,_,_,.sl n e cs,hv=>by rw[VS] at hv;exact hv.mono λ_ _ h=>pO h
 | _,_,_,.im ks vs,hv=>by rw[VS] at hv;exact hv.mono λ_ _ h=>pO h
 | _,_,_,.ip cs,hv=>by rw[VS] at hv;exact hv.mono λ_ _ h=>pO h
 | _,_,_,.nil e,hv=>by
  rw[VS] at hv;subst hv;rw[GS];exact .inl ⟨rfl,rfl,none,0,some 0,rfl,λ_=>rfl,λh=>absurd rfl h⟩
 | _,_,_,@Wk.ptr _ o off cs ds hS hw hle,hv=>by
  rw[VS] at hv;subst hv;obtain⟨_,aS,q1,q2,_⟩:=hR.obj o _ hS (λh=>by cases h);rw[GS];refine⟨_,off,aS,aS.length-off,rfl,?_,?_,?_⟩
  ·unfold oC;rw[sS hR hS (λh=>by cases h),q1]
  ·rw[q2.length];omega
  ·have:=bn.ok hR hw (q2.drop off);rw[List.take_of_length_le (by rw[List.length_drop];exact Nat.le_refl _)];exact this
 | _,_,_,@Wk.buf _ o n e c cs ds hS hw hle,hv=>by
  rw[VS] at hv;subst hv;obtain⟨_,aS,q1,q2,_⟩:=hR.obj o _ hS (λh=>by cases h);rw[GS];refine .inr ⟨_,0,c,aS,rfl,?_,by rw[q2.length];omega,?_⟩
  ·unfold oC;rw[sS hR hS (λh=>by cases h),q1]
  ·rw[List.drop_zero];exact bn.ok hR hw (q2.take _)
 | _,_,_,@Wk.sub _ o off n e c cs ds hS hw hle,hv=>by
  rw[VS] at hv;subst hv;obtain⟨_,aS,q1,q2,_⟩:=hR.obj o _ hS (λh=>by cases h);rw[GS];refine .inr ⟨_,off,c,aS,rfl,?_,by rw[q2.length];omega,?_⟩
  ·unfold oC;rw[sS hR hS (λh=>by cases h),q1]
  ·exact bn.ok hR hw ((q2.drop off).take _)
 | _,_,_,.e0 e,hv=>by rw[VS] at hv;rw[GS];exact hv
 | _,_,_,.QH e,hv=>by
  rw[VS] at hv;obtain⟨o,e',rfl,ho⟩:=hv;rw[GS];exact .inl ⟨rfl,rfl,o,e',some 0,rfl,λ_=>rfl,ho⟩
 | _,_,_,@Wk.map _ o ks vs ws b hS hw,hv=>by
  rw[VS] at hv;subst hv;obtain⟨_,l,c,q1,q2,q3⟩:=hR.obj o _ hS (λh=>by cases h);rw[GS];exact⟨_,l,c,rfl,by rw[sS hR hS (λh=>by cases h),q1],⟨q2.1,q2.2.1,λp hp=>by cases hp⟩,bn.ok hR hw q3⟩
 | _,_,_,.ag hw,hv=>by rw[VS] at hv;obtain⟨aS,h1,h2⟩:=hv;rw[GS];exact⟨aS,h1,bn.ok hR hw h2⟩
 | _,_,_,.bI hw,hv=>by rw[VS] at hv;obtain⟨aS,h1,h2⟩:=hv;rw[GS];exact⟨aS,h1,bn.ok hR hw h2⟩
 | _,_,_,.fn hw1 hw2,hv=>by rw[VS] at hv;obtain⟨xs,ys,h1,h2,h3⟩:=hv;rw[GS];exact⟨xs,ys,h1,bn.ok hR hw1 h2,bn.ok hR hw2 h3⟩
 | _,_,_,.iface hw,hv=>by rw[VS] at hv;obtain⟨y,h1,h2⟩:=hv;rw[GS];exact⟨y,h1,Wk.ok hR hw h2⟩
theorem bn.ok(hR:RS θ ρ0 ρ h0 h S):∀{vs ws:List SV} {xs:List AV},bn S vs ws->c8 θ ρ vs xs->jH (nH θ ρ h S) ws xs
 | _,_,_,.nil,hv=>by rw[bg] at hv;rw[fX];exact hv
 | _,_,_,.cons h1 h2,hv=>by
  rw[aL] at hv;obtain⟨a,r,rfl,k1,k2⟩:=hv;rw[dZ];exact⟨a,r,rfl,Wk.ok hR h1 k1,bn.ok hR h2 k2⟩
end
theorem RS.Cc(hR:RS θ ρ0 ρ h0 h S):RS θ ρ0 ρ h0 h []:=⟨hR.ok,hR.nx,hR.ob,hR.fm,hR.lw,hR.ln,λo so h=>by simp at h,λo o' so so' _ h=>by simp at h,λid ob hi=>⟨(hR.row id ob hi).1,(hR.row id ob hi).2.1,λo so h=>by simp at h⟩,hR.lJ⟩
theorem x9:nH θ ρ h []=ρ:=by
 funext id;unfold nH
 cases hr:ρ id with
 | some ob=>rfl
 | none=>simp only;rw[if_neg];rintro⟨o,so,h,_⟩;simp at h
def K0(ρ:jP)(h:H):Prop:=∀id ob,ρ id=some ob->id<h.next/\h.aQ.get id=some ob
def PT(h:H)(ρ ρ':jP)(h':H):Prop:=∀id ob,ρ' id=some ob->ρ id=some ob\/(h.next<=id/\id<h'.next/\h'.aQ.get id=some ob)
theorem oA(hR:RS θ ρ0 ρ h0 h S):K0 (nH θ ρ h S) h:=by
 intro id ob hi;unfold nH at hi
 cases hr:ρ id with
 | some ob'=>rw[hr] at hi;cases hi;exact⟨(hR.row id _ hr).1,(hR.row id _ hr).2.1⟩
 | none=>
  rw[hr] at hi;simp only at hi;split at hi
  ·rename_i hex;obtain⟨o,so,h1,h2,rfl⟩:=hex;obtain⟨⟨k1,k2,k3,_⟩,_⟩:=hR.obj o so h1 h2;exact⟨by rcases k1 with e | e<;>omega,hi⟩
  ·cases hi
def PC(P:Program)(g:FuncId)(args:List SV)(Q:SV->Prop):Prop:=∀ρ h avs,K0 ρ h->jH ρ args avs->
 dT P (.func g) avs h (λv h'=>∃r ρ',Q r/\Over h.next h h'/\PT h ρ ρ' h'/\GS ρ' r v)
mutual
def Az:SV->Bool
 | .any=>true
 | .a _=>true
 | .ag cs=>LD cs
 | .bI cs=>LD cs
 | _=>false
def LD:List SV->Bool
 | []=>true
 | d::ds=>Az d&&LD ds
end
mutual
theorem GS.flat{ρ':jP}:∀{r:SV} {x:AV},Az r=true->GS ρ' r x->VS θ ρ r x
 | .any,_,_,_=>by rw[VS];trivial
 | .a v,x,_,hg=>by rw[GS] at hg;rw[VS];exact hg
 | .ag cs,x,hf,hg=>by rw[Az] at hf;rw[GS] at hg;obtain⟨aS,h1,h2⟩:=hg;rw[VS];exact⟨aS,h1,jH.flat hf h2⟩
 | .bI cs,x,hf,hg=>by rw[Az] at hf;rw[GS] at hg;obtain⟨aS,h1,h2⟩:=hg;rw[VS];exact⟨aS,h1,jH.flat hf h2⟩
 | .sl _ _ _,_,hf,_=>by simp[Az] at hf
 | .im _ _,_,hf,_=>by simp[Az] at hf
 | .ip _,_,hf,_=>by simp[Az] at hf
 | .ptr _ _,_,hf,_=>by simp[Az] at hf
 | .map _,_,hf,_=>by simp[Az] at hf
 | .buf _ _ _ _,_,hf,_=>by simp[Az] at hf
 | .sub _ _ _ _ _,_,hf,_=>by simp[Az] at hf
 | .e0 _,_,hf,_=>by simp[Az] at hf
 | .fn _ _ _,_,hf,_=>by simp[Az] at hf
 | .iface _ _,_,hf,_=>by simp[Az] at hf
theorem jH.flat{ρ':jP}:∀{rs:List SV} {xs:List AV},LD rs=true->jH ρ' rs xs->c8 θ ρ rs xs
 | [],xs,_,hg=>by rw[fX] at hg;rw[bg];exact hg
 | d::ds,xs,hf,hg=>by
  rw[LD,and_eq_true] at hf;rw[dZ] at hg;obtain⟨a,r,rfl,h1,h2⟩:=hg;rw[aL];exact⟨a,r,rfl,GS.flat hf.1 h1,jH.flat hf.2 h2⟩
end
def gr(P:Program)(f:Fm)(c:Call):Option (FuncId×List SV):=match c.callee with
 | .value x=>match eY f x with
  | some (.fn g first cap)=>(ma f c.args.toList).map λxs=>(g,(first++xs)++cap)
  | _=>none
 | .invoke r name=>match eY f r with
  | some (.iface t v)=>(iM P t name).bind λg=>(ma f c.args.toList).map λxs=>(g,v::xs)
  | _=>none
 | .builtin _=>none
theorem wR{f:Fm}{af:Nat->AV}{n:Nat}{wv:Nat->AV}(hF:FR θ ρ (aR f) af n wv){c:Call}{g:FuncId}{vs:List SV}(hc:gr P f c=some (g,vs)):∃xs cap,nX P (dL af n) c=some (.func g,xs,cap)/\c8 θ ρ vs (xs++cap):=by
 unfold gr at hc;unfold nX;split at hc
 ·rename_i x hx;rw[hx];simp only;split at hc
  ·rename_i g' first cap hv
   obtain⟨xs,hxs,e⟩:=au hc;cases e;obtain⟨a,ha,ka⟩:=bL hF hv;rw[VS] at ka;obtain⟨fs,cs,rfl,k1,k2⟩:=ka;obtain⟨aS,hs,ks⟩:=kq hF hxs;rw[ha];simp only;rw[hs];exact⟨fs++aS,cs,rfl,(k1.app ks).app k2⟩
  ·cases hc
 ·rename_i r name hx;rw[hx];simp only;split at hc
  ·rename_i t v hv;obtain⟨g',hg,hc⟩:=bind_eq_some_iff.1 hc;obtain⟨xs,hxs,e⟩:=au hc;cases e;obtain⟨a,ha,ka⟩:=bL hF hv;rw[VS] at ka;obtain⟨y,rfl,k1⟩:=ka;obtain⟨aS,hs,ks⟩:=kq hF hxs;rw[ha];simp only;rw[hg,bind_some,hs];refine⟨y::aS,[],rfl,?_⟩;rw[List.append_nil,aL];exact⟨y,aS,rfl,k1,ks⟩
  ·cases hc
 ·cases hc
theorem mu.mono{ρ':jP}{h':H}{L:Loc}{so:SO}(hx:mu θ ρ h L so)(hm:∀id ob,ρ id=some ob->ρ' id=some ob)(ho:h'.aQ.get L.id=h.aQ.get L.id)(hf:h'.dA.get L.bZ=h.dA.get L.bZ):mu θ ρ' h' L so:=by
 cases so with
 | cells cs=>obtain⟨aS,h1,h2,h3⟩:=hx;exact⟨aS,by rw[ho];exact h1,h2.mono hm,by rw[hf];exact h3⟩
 | map ks vs b=>obtain⟨l,c,h1,h2,h3⟩:=hx;exact⟨l,c,by rw[ho];exact h1,h2,h3.mono hm⟩
 | iter m bs c pos=>obtain⟨kn,h1,h2⟩:=hx;exact⟨kn,h1.mono hm,by rw[ho];exact h2⟩
 | rI ks vs bs c pos=>obtain⟨kn,l,h1,h2,h3,h4⟩:=hx;exact⟨kn,l,hm _ _ h1,h2,h3.mono hm,by rw[ho];exact h4⟩
 | gone=>trivial
 | loop c ls p f=>
  obtain⟨h1,h2,h3⟩:=hx;exact⟨h1,by rw[ho];exact h2,λi hi=>(h3 i hi).mono hm⟩
 | ni N=>exact⟨hx.1,by rw[ho];exact hx.2⟩
def E0(h:H)(ρ ρ':jP):jP:=λid=>if id<h.next then ρ id else ρ' id
theorem RS.call{ρ':jP}{h':H}(hR:RS θ ρ0 ρ h0 h S)(ho:Over h.next h h')(hn:PT h ρ ρ' h'):RS θ ρ0 (E0 h ρ ρ') h0 h' S/\(∀id ob,ρ id=some ob->E0 h ρ ρ' id=some ob)/\∀id ob,ρ' id=some ob->E0 h ρ ρ' id=some ob:=by
 have hold:∀id ob,ρ id=some ob->E0 h ρ ρ' id=some ob:=by
  intro id ob hi;unfold E0;rw[if_pos (hR.row id ob hi).1];exact hi
 have hlw:h'.low=h.low:=ho.low hR.ln;have hpr:∀j,h0.pr j->j<h.next:=λj hj=>Nat.lt_of_lt_of_le (hR.ok.pr j hj) hR.nx;have hpf:∀j,h0.pf j->j<h.next:=λj hj=>Nat.lt_of_lt_of_le (hR.ok.pf j hj) hR.nx;refine⟨⟨hR.ok,Nat.le_trans hR.nx ho.next,λj hj=>(ho.aQ j (hpr j hj)).trans (hR.ob j hj),λj hj=>(ho.dA j (hpf j hj)).trans (hR.fm j hj),by rw[hlw];exact hR.lw,by rw[hlw];exact Nat.le_trans hR.ln ho.next,?_,hR.sep,?_,?_⟩,hold,?_⟩
 ·intro o so h1 h2;obtain⟨k,k2⟩:=hR.obj o so h1 h2;refine⟨k.mono ho.next,?_⟩
  have hid:(θ o).id<h.next:=by rcases k.e with e | e<;>rw[e];exact k.x.2;exact k.y.2
  exact k2.mono hold (ho.aQ _ hid) (ho.dA _ k.f.2)
 ·intro id ob hi;unfold E0 at hi;split at hi
  ·rename_i hlt;obtain⟨r1,r2,r3⟩:=hR.row id ob hi;exact⟨Nat.lt_of_lt_of_le r1 ho.next,by rw[ho.aQ id r1];exact r2,r3⟩
  ·rename_i hlt
   rcases hn id ob hi with e | ⟨e1,e2,e3⟩
   ·exact absurd (hR.row id ob e).1 hlt
   ·refine⟨e2,e3,λo so h1 h2=>?_⟩;obtain⟨k,_⟩:=hR.obj o so h1 h2;have:=k.x.2;have:=k.y.2;omega
 ·intro id ob hi;unfold E0 at hi;split at hi
  ·exact hR.lJ id ob hi
  ·exact .inr (λhj=>by have:=hpr id hj;omega)
 ·intro id ob hi;unfold E0;split
  ·rename_i hlt
   rcases hn id ob hi with e | ⟨e1,_⟩
   ·exact e
   ·omega
  ·exact hi
theorem FR.mono{ρ':jP}{f:Nat->SV}{af:Nat->AV}{n:Nat}{wv:Nat->AV}(hF:FR θ ρ f af n wv)(hm:∀id ob,ρ id=some ob->ρ' id=some ob):FR θ ρ' f af n wv:=⟨λi=>(hF.v i).mono hm,hF.u⟩
theorem aM.call{ro:Option Nat}{all:List Oper}{o:Oper}{l:List Oper}{f:Fm}{n:Nat}{ds:List jd}{K:en->Prop}{d:Nat}{c:Call}{g:FuncId}{vs ws:List SV}{Q:SV->Prop}(hop:o.op=.call c)(hdst:o.dst=some d)(hw:tz all f n o=some true)(hdy:kH (.call c)=true)(hd:blt d n=true)
 (hc:gr P f c=some (g,vs)) (hq:PC P g ws Q) (hwk:bn S vs ws) (hfl:(∀r,Q r->Az r=true)\/bn [] vs ws) (hk:∀r,Q r->aM P ro all l ⟨(d,r)::f,n,S,ds⟩ K):aM P ro all (o::l) ⟨f,n,S,ds⟩ K:=by
 rintro ρ0 h0 ⟨af,n',h,ds'⟩ ⟨rfl,rfl,θ,ρ,hR,hF⟩;obtain⟨xs,cap,h1,h2⟩:=wR hF hc
 rcases hfl with hfl | hfl
 ·refine .c hop hdst (cX hF hw) hdy hd h1 rfl (hq _ _ _ (oA hR) (hwk.ok hR h2)) ?_;rintro v h' ⟨r,ρ',k1,k2,k3,k4⟩;obtain⟨j1,j2,_⟩:=hR.call (ρ':=λ_=>none) k2 (λid ob hi=>by cases hi);exact hk r k1 ρ0 h0 _ ⟨rfl,rfl,θ,_,j1,(hF.mono j2).put (fQ hd) (k4.flat (hfl r k1))⟩
 ·have:=hfl.ok hR.Cc h2;rw[x9] at this;refine .c hop hdst (cX hF hw) hdy hd h1 rfl (hq _ _ _ (λid ob hi=>⟨(hR.row id ob hi).1,(hR.row id ob hi).2.1⟩) this) ?_;rintro v h' ⟨r,ρ',k1,k2,k3,k4⟩;obtain⟨j1,j2,j3⟩:=hR.call k2 k3;exact hk r k1 ρ0 h0 _ ⟨rfl,rfl,θ,_,j1,(hF.mono j2).put (fQ hd) ((k4.mono j3).vs)⟩
end
def jI:Nat->List SV->Fm
 | _,[]=>[]
 | i,v::vs=>(i,v)::jI (i+1) vs
theorem rN:∀(vs:List SV) (i j:Nat),aR (jI i vs) j=if i<=j then (match vs[j-i]? with | some v=>v | none=>.any) else .any
 | [],i,j=>by simp[jI,aR]
 | v::vs,i,j=>by
  show(if i=j then v else aR (jI (i+1) vs) j)=_;rw[rN vs (i+1) j];by_cases h:i=j
  ·subst h;simp
  ·rw[if_neg h];by_cases h2:i<=j
   ·rw[if_pos (by omega),if_pos h2];obtain⟨k,hk⟩:∃k,j-i=k+1:=⟨j-i-1,by omega⟩;rw[hk,List.getElem?_cons_succ,show j-(i+1)=k by omega]
   ·rw[if_neg (by omega),if_neg h2]
def nd(P:Program)(f:Fm)(S:List SO):List ResultVar->Option (List SV)
 | []=>some []
 | .tmp i::l=>(eY f (.tmp i)).bind λv=>(nd P f S l).map λb=>v::b
 | .cell a t::l=>(eY f (.tmp a)).bind λx=>(sw P S t x).bind λv=>(nd P f S l).map λb=>v::b
def aC:List SV->SV
 | [v]=>v
 | vs=>.bI vs
def tH(P:Program)(fn:Func)(Q:SV->Prop):Ex->en->Prop:=λe st=>jU e=true/\st.ds=[]/\∃vs r,nd P st.f st.S fn.results.toList=some vs/\Wk st.S (aC vs) r/\Q r
section
variable {P:Program}
theorem sP{θ:Nat->Loc}{ρ ρ0:jP}{h0:En}{h:H}{S:List SO}(hR:RS θ ρ0 ρ h0 h S){f:Fm}{af:Nat->AV}{n:Nat}{wv:Nat->AV}(hF:FR θ ρ (aR f) af n wv):∀{l:List ResultVar} {vs:List SV},nd P f S l=some vs->∃aS,(l.mapM λ
 | ResultVar.tmp i=>ev (dL af n) (.tmp i)
 | ResultVar.cell a tt=>match ev (dL af n) (.tmp a) with
  | some (.ptr (some (id,off)))=>h.load P tt id off
  | _=>none)=some aS/\c8 θ ρ vs aS
 | [],vs,hv=>by
  simp only[nd,Option.some.injEq] at hv;subst hv;exact⟨[],rfl,by rw[bg]⟩
 | .tmp i::l,vs,hv=>by
  rw[nd] at hv;obtain⟨v0,hv0,hv⟩:=bind_eq_some_iff.1 hv;obtain⟨b,hb,rfl⟩:=au hv;obtain⟨aS,h1,h2⟩:=sP hR hF hb;obtain⟨a,ha,ka⟩:=bL hF (x:=.tmp i) hv0;refine⟨a::aS,?_,by rw[aL];exact⟨a,aS,rfl,ka,h2⟩⟩;rw[List.mapM_cons];simp only[ha,h1];rfl
 | .cell a t::l,vs,hv=>by
  rw[nd] at hv;obtain⟨v0,hv0,hv⟩:=bind_eq_some_iff.1 hv;obtain⟨v,hv1,hv⟩:=bind_eq_some_iff.1 hv;obtain⟨b,hb,rfl⟩:=au hv;obtain⟨aS,h1,h2⟩:=sP hR hF hb;obtain⟨p,hp,kp⟩:=bL hF (x:=.tmp a) hv0;obtain⟨y,hy,ky⟩:=Ei hR kp hv1;refine⟨y::aS,?_,by rw[aL];exact⟨y,aS,rfl,ky,h2⟩⟩;rw[List.mapM_cons];simp only[hp,h1];unfold B6 at hy;split at hy
  ·rename_i he;cases he;simp only[hy];rfl
  ·cases hy
def MZ:List AV->AV
 | [v]=>v
 | vs=>.bI vs
theorem I6{θ:Nat->Loc}{ρ:jP}{vs:List SV}{aS:List AV}(h:c8 θ ρ vs aS):VS θ ρ (aC vs) (MZ aS):=by
 match vs,h with
 | [],h=>rw[bg] at h;subst h;simp only[aC];rw[VS];exact⟨[],rfl,by rw[bg]⟩
 | [v],h=>
  rw[aL] at h;obtain⟨a,r,rfl,h1,h2⟩:=h;rw[bg] at h2;subst h2;exact h1
 | v::w::vs,h=>
  have h':=h;rw[aL] at h;obtain⟨a,r,rfl,h1,h2⟩:=h;rw[aL] at h2;obtain⟨b,r2,rfl,h3,h4⟩:=h2;simp only[aC];rw[VS];exact⟨_,rfl,h'⟩
end
section
variable {θ:Nat->Loc} {ρ ρ0:jP} {P:Program} {h0:En} {h:H} {S S':List SO}
def qC(f:Fm):Fm->Prop
 | []=>True
 | (i,v)::l=>aR f i=v/\qC f l
def wD(S:List SO):List SO->Nat->Prop
 | [],_=>True
 | s::l,k=>(s=.gone\/S[k]?=some s)/\wD S l (k+1)
theorem wD.get:∀{l:List SO} {k:Nat},wD S l k->∀{o:Nat} {so:SO},l[o]?=some so->so≠.gone->S[k+o]?=some so
 | [],_,_,o,so,h,_=>by simp at h
 | s::l,k,hs,o,so,h,hg=>by
  obtain⟨h1,h2⟩:=hs
  cases o with
  | zero=>
   simp only[List.getElem?_cons_zero,Option.some.injEq] at h;subst h;exact h1.resolve_left hg
  | succ o=>
   simp only[List.getElem?_cons_succ] at h;have:=wD.get h2 h hg;rw[show k+(o+1)=k+1+o by omega];exact this
theorem RS.sub(hR:RS θ ρ0 ρ h0 h S)(hs:∀(o:Nat) (so:SO),S'[o]?=some so->so≠.gone->S[o]?=some so):RS θ ρ0 ρ h0 h S':=
 ⟨hR.ok,hR.nx,hR.ob,hR.fm,hR.lw,hR.ln,λo so h1 h2=>hR.obj o so (hs o so h1 h2) h2,λo o' so so' h h1 h2 h3 h4=>hR.sep o o' so so' h (hs o so h1 h2) h2 (hs o' so' h3 h4) h4,
  λid ob hi=>⟨(hR.row id ob hi).1,(hR.row id ob hi).2.1,λo so h1 h2=>(hR.row id ob hi).2.2 o so (hs o so h1 h2) h2⟩,hR.lJ⟩
theorem qC.get{f:Fm}:∀{f':Fm},qC f f'->∀i,aR f' i=aR f i\/aR f' i=.any
 | [],_,i=>.inr rfl
 | (d,v)::l,h,i=>by
  obtain⟨h1,h2⟩:=h;show(if d=i then v else aR l i)=_\/(if d=i then v else aR l i)=_;by_cases e:d=i
  ·subst e;rw[if_pos rfl];exact .inl h1.symm
  ·rw[if_neg e];exact qC.get h2 i
theorem Fg.less{f f':Fm}{n:Nat}{ds:List jd}(hf:qC f f')(hs:wD S S' 0):Fg ⟨f,n,S,ds⟩ ⟨f',n,S',ds⟩:=by
 refine⟨rfl,?_⟩;rintro ρ0 h0 ⟨af,n',h,ds'⟩ ⟨rfl,rfl,θ,ρ,hR,hF⟩;refine⟨rfl,rfl,θ,ρ,hR.sub λo so h1 h2=>by have:=hs.get h1 h2;rw[Nat.zero_add] at this;exact this,λi=>?_,hF.u⟩
 rcases hf.get i with e | e
 ·rw[e];exact hF.v i
 ·rw[e,VS];trivial
def mf(o:Nat)(so:SO):List SO:=List.replicate o .gone++[so]
theorem qw{o p:Nat}{so s:SO}(h:(mf o so)[p]?=some s)(hg:s≠.gone):p=o/\s=so:=by
 unfold mf at h;rw[List.getElem?_append] at h;split at h
 ·rename_i hl;rw[List.length_replicate] at hl;rw[List.getElem?_replicate,if_pos hl] at h;cases h;exact absurd rfl hg
 ·rename_i hl;rw[List.length_replicate] at hl h
  have:p-o=0:=by
   apply Decidable.byContradiction;intro hn;rw[List.getElem?_eq_none (by simp;omega)] at h;cases h
  rw[this] at h;simp only[List.getElem?_cons_zero,Option.some.injEq] at h;exact⟨by omega,h.symm⟩
def yV(S:List SO)(f:Fm):Fm->Prop
 | []=>True
 | (i,v)::l=>(aR f i=v\/Wk S (aR f i) v)/\yV S f l
theorem yV.get{f:Fm}:∀{f':Fm},yV S f f'->∀i,aR f' i=aR f i\/Wk S (aR f i) (aR f' i)
 | [],_,i=>.inr (.any _)
 | (d,v)::l,h,i=>by
  obtain⟨h1,h2⟩:=h;show(if d=i then v else aR l i)=_\/Wk S _ (if d=i then v else aR l i);by_cases e:d=i
  ·subst e;rw[if_pos rfl]
   rcases h1 with h1 | h1
   ·exact .inl h1.symm
   ·exact .inr h1
  ·rw[if_neg e];exact yV.get h2 i
theorem Fg.freeze{f f':Fm}{n:Nat}{ds:List jd}(o:Nat){so:SO}(hS:S[o]?=some so)(hg:so≠.gone)(hf:yV (mf o so) f f'):Fg ⟨f,n,S,ds⟩ ⟨f',n,S.set o .gone,ds⟩:=by
 refine⟨rfl,?_⟩;rintro ρ0 h0 ⟨af,n',h,ds'⟩ ⟨rfl,rfl,θ,ρ,hR,hF⟩
 have hsub:∀(p:Nat) (s:SO),(mf o so)[p]?=some s->s≠.gone->S[p]?=some s:=by
  intro p s h1 h2;obtain⟨rfl,rfl⟩:=qw h1 h2;exact hS
 have hR1:=hR.sub hsub
 have hset:∀(p:Nat) (s:SO),(S.set o .gone)[p]?=some s->s≠.gone->S[p]?=some s/\p≠o:=by
  intro p s h1 h2;by_cases hp:p=o
  ·subst hp;rw[List.getElem?_set_self (bl hS)] at h1;cases h1;exact absurd rfl h2
  ·rw[List.getElem?_set_ne (λe=>hp e.symm)] at h1;exact⟨h1,hp⟩
 have hR2:=hR.sub (S':=S.set o .gone) λp s h1 h2=>(hset p s h1 h2).1;have hm:∀id ob,ρ id=some ob->nH θ ρ h (mf o so) id=some ob:=λid ob hi=>pO hi
 have key:∀id ob,nH θ ρ h (mf o so) id=some ob->ρ id=some ob\/id=(θ o).id:=by
  intro id ob hi;unfold nH at hi
  cases hr:ρ id with
  | some ob'=>rw[hr] at hi;exact .inl hi
  | none=>
   rw[hr] at hi;simp only at hi;split at hi
   ·rename_i hex;obtain⟨p,s,q1,q2,rfl⟩:=hex;obtain⟨rfl,_⟩:=qw q1 q2;exact .inr rfl
   ·cases hi
 refine⟨rfl,rfl,θ,nH θ ρ h (mf o so),⟨hR2.ok,hR2.nx,hR2.ob,hR2.fm,hR2.lw,hR2.ln,?_,hR2.sep,?_,?_⟩,λi=>?_,hF.u⟩
 ·intro p s h1 h2;obtain⟨k,k2⟩:=hR2.obj p s h1 h2;exact⟨k,k2.mono hm rfl rfl⟩
 ·intro id ob hi;obtain⟨r1,r2⟩:=oA hR1 id ob hi;refine⟨r1,r2,λp s h1 h2=>?_⟩
  rcases key id ob hi with e | e
  ·exact(hR2.row id ob e).2.2 p s h1 h2
  ·subst e;obtain⟨g1,g2⟩:=hset p s h1 h2;have sp:=hR.sep p o s so g2 g1 h2 hS hg;obtain⟨k,_⟩:=hR.obj o so hS hg
   rcases k.e with e | e<;>rw[e]
   ·exact⟨sp.xx.symm,sp.yx.symm⟩
   ·exact⟨sp.xy.symm,sp.yy.symm⟩
 ·intro id ob hi
  rcases key id ob hi with e | e
  ·exact hR.lJ id ob e
  ·subst e;obtain⟨k,_⟩:=hR.obj o so hS hg;exact .inr (by rcases k.e with e | e<;>rw[e];exact k.x.1;exact k.y.1)
 ·rcases hf.get i with e | e
  ·rw[e];exact(hF.v i).mono hm
  ·exact(e.ok hR1 (hF.v i)).vs
mutual
def ld:SV->Bool
 | .a _=>true
 | .sl _ _ _=>true
 | .im _ _=>true
 | .ip _=>true
 | .any=>true
 | .e0 _=>true
 | .ag cs=>cr cs
 | .bI cs=>cr cs
 | .fn _ a b=>cr a&&cr b
 | .iface _ v=>ld v
 | _=>false
def cr:List SV->Bool
 | []=>true
 | d::ds=>ld d&&cr ds
end
mutual
theorem Wk.refl:∀{v:SV},ld v=true->Wk S v v
 | .a v,_=>.a v
 | .sl n e cs,_=>.sl n e cs
 | .im ks vs,_=>.im ks vs
 | .ip cs,_=>.ip cs
 | .any,_=>.any _
 | .e0 e,_=>.e0 e
 | .sub _ _ _ _ _,h=>by simp[ld] at h
 | .ag cs,h=>.ag (bn.refl (by rw[ld] at h;exact h))
 | .bI cs,h=>.bI (bn.refl (by rw[ld] at h;exact h))
 | .fn g a b,h=>by rw[ld,and_eq_true] at h;exact .fn (bn.refl h.1) (bn.refl h.2)
 | .iface t v,h=>.iface (Wk.refl (by rw[ld] at h;exact h))
 | .ptr _ _,h=>by simp[ld] at h
 | .map _,h=>by simp[ld] at h
 | .buf _ _ _ _,h=>by simp[ld] at h
theorem bn.refl:∀{vs:List SV},cr vs=true->bn S vs vs
 | [],_=>.nil
 | d::ds,h=>by rw[cr,and_eq_true] at h;exact .cons (Wk.refl h.1) (bn.refl h.2)
end
theorem bn.app:∀{a b c d:List SV},bn S a c->bn S b d->bn S (a++b) (c++d)
 | _,_,_,_,.nil,h=>h
 | _,_,_,_,.cons h1 h2,h=>.cons h1 (bn.app h2 h)
end
end
end Go.Ev
