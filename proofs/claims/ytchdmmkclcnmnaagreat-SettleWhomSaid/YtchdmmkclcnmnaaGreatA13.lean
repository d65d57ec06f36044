/- Lemmas of this claim, each with its conditions. -/
import Derived.Test.YtchdmmkclcnmnaaGreatA12
import Derived.Test.YtchdmmkclcnmnaaGreatProg
set_option linter.all false
open Option (bind_eq_some_iff)
open And renaming intro -> aa
open Nat renaming lt_of_lt_of_le -> ac, le_trans -> a0
open List renaming getElem?_cons_succ -> ad, getElem?_cons_zero -> aj, length_replicate -> ap, mapM_cons -> ax, replicate -> ay
open Bool renaming and_eq_true -> al
namespace Go.Ev
noncomputable section
mutual
inductive Wk (S:List SO):SV->SV->Prop
 | any (v:SV):Wk S v .any
 | a (v:AV):Wk S (.a v) (.a v)
 | sl (n e:Nat) (cs:List SV):Wk S (.sl n e cs) (.sl n e cs)
 | im (ks:List AV) (vs:List SV):Wk S (.im ks vs) (.im ks vs)
 | ip (cs:List SV):Wk S (.ip cs) (.ip cs)
 | nil (e:Nat):Wk S (.a (.slice none 0 0 (some 0))) (.sl 0 e [])
 | ptr {o off:Nat} {cs ds:List SV}:S[o]?=some (.cells cs)->bp S (cs.drop off) ds->off<=cs.length->Wk S (.ptr o off) (.ip ds)
 | buf {o n e:Nat} {c:Option Nat} {cs ds:List SV}:S[o]?=some (.cells cs)->bp S (cs.take (n*e)) ds->n*e<=cs.length->Wk S (.buf o n e c) (.sl n e ds)
 | sub {o off n e:Nat} {c:Option Nat} {cs ds:List SV}:S[o]?=some (.cells cs)->bp S ((cs.drop off).take (n*e)) ds->off+n*e<=cs.length->Wk S (.sub o off n e c) (.sl n e ds)
 | e0 (e:Nat):Wk S (.e0 e) (.e0 e)
 | TM (e:Nat):Wk S (.e0 e) (.sl 0 e [])
 | map {o:Nat} {ks:List AV} {vs ws:List SV} {b:Option (List Nat×Nat)}:S[o]?=some (.map ks vs b)->bp S vs ws->Wk S (.map o) (.im ks ws)
 | ag {cs ds:List SV}:bp S cs ds->Wk S (.ag cs) (.ag ds)
 | bE {cs ds:List SV}:bp S cs ds->Wk S (.bE cs) (.bE ds)
 | fn {g:FuncId} {a b c d:List SV}:bp S a c->bp S b d->Wk S (.fn g a b) (.fn g c d)
 | iface {t:TypeId} {v w:SV}:Wk S v w->Wk S (.iface t v) (.iface t w)
inductive bp (S:List SO):List SV->List SV->Prop
 | nil:bp S [] []
 | cons {v w:SV} {vs ws:List SV}:Wk S v w->bp S vs ws->bp S (v::vs) (w::ws)
end
def oV(θ:Nat->Loc)(ρ:kg)(h:H)(S:List SO):kg:=λid=>match ρ id with
 | some ob=>some ob
 | none=>@ite _ (∃o so,S[o]?=some so/\so≠.gone/\(θ o).id=id) (Classical.propDecidable _) (h.aR.get id) none
section
variable {θ:Nat->Loc} {ρ ρ0:kg} {P:Program} {h0:En} {h:H} {S:List SO}
def qL{id:Nat}{ob:AO}(hi:ρ id=some ob):oV θ ρ h S id=some ob:=by unfold oV;rw[hi]
def ua(hR:RS θ ρ0 ρ h0 h S){o:Nat}{so:SO}(hS:S[o]?=some so)(hg:so≠.gone):oV θ ρ h S (θ o).id=h.aR.get (θ o).id:=by
 unfold oV
 cases hr:ρ (θ o).id with
 | some ob=>rw[(hR.row _ _ hr).2.1]
 | none=>simp only;rw[ul ⟨o,so,hS,hg,rfl⟩]
mutual
def Wk.ok(hR:RS θ ρ0 ρ h0 h S):∀{v w:SV} {x:AV},Wk S v w->VS θ ρ v x->GS (oV θ ρ h S) w x
 | _,_,_,.any v,_=>by rw[GS];trivial
 | _,_,_,.a v,hv=>by rw[VS] at hv;rw[GS];exact hv
 | _,_,_,.sl n e cs,hv=>by rw[VS] at hv;exact hv.mono λ_ _ h=>qL h
 | _,_,_,.im ks vs,hv=>by rw[VS] at hv;exact hv.mono λ_ _ h=>qL h
 | _,_,_,.ip cs,hv=>by rw[VS] at hv;exact hv.mono λ_ _ h=>qL h
 | _,_,_,.nil e,hv=>by
  rw[VS] at hv;subst hv;rw[GS];exact .inl ⟨rfl,rfl,none,0,some 0,rfl,λ_=>rfl,λh=>t8 rfl h⟩
 | _,_,_,@Wk.ptr _ o off cs ds hS hw hle,hv=>by
  rw[VS] at hv;subst hv;obtain⟨_,aS,q1,q2,_⟩:=hR.obj o _ hS (λh=>by cases h);rw[GS];refine⟨_,off,aS,aS.length-off,rfl,?_,?_,?_⟩
  ·unfold pJ;rw[ua hR hS (λh=>by cases h),q1]
  ·rw[q2.length];omega
  ·have:=bp.ok hR hw (q2.drop off);rw[List.take_of_length_le (by rw[List.length_drop];exact Nat.le_refl _)];exact this
 | _,_,_,@Wk.buf _ o n e c cs ds hS hw hle,hv=>by
  rw[VS] at hv;subst hv;obtain⟨_,aS,q1,q2,_⟩:=hR.obj o _ hS (λh=>by cases h);rw[GS];refine .inr ⟨_,0,c,aS,rfl,?_,by rw[q2.length];omega,?_⟩
  ·unfold pJ;rw[ua hR hS (λh=>by cases h),q1]
  ·rw[List.drop_zero];exact bp.ok hR hw (q2.take _)
 | _,_,_,@Wk.sub _ o off n e c cs ds hS hw hle,hv=>by
  rw[VS] at hv;subst hv;obtain⟨_,aS,q1,q2,_⟩:=hR.obj o _ hS (λh=>by cases h);rw[GS];refine .inr ⟨_,off,c,aS,rfl,?_,by rw[q2.length];omega,?_⟩
  ·unfold pJ;rw[ua hR hS (λh=>by cases h),q1]
  ·exact bp.ok hR hw ((q2.drop off).take _)
 | _,_,_,.e0 e,hv=>by rw[VS] at hv;rw[GS];exact hv
 | _,_,_,.TM e,hv=>by
  rw[VS] at hv;obtain⟨o,e',rfl,ho⟩:=hv;rw[GS];exact .inl ⟨rfl,rfl,o,e',some 0,rfl,λ_=>rfl,ho⟩
 | _,_,_,@Wk.map _ o ks vs ws b hS hw,hv=>by
  rw[VS] at hv;subst hv;obtain⟨_,l,c,q1,q2,q3⟩:=hR.obj o _ hS (λh=>by cases h);rw[GS];exact⟨_,l,c,rfl,by rw[ua hR hS (λh=>by cases h),q1],⟨q2.1,q2.2.1,λp hp=>by cases hp⟩,bp.ok hR hw q3⟩
 | _,_,_,.ag hw,hv=>by rw[VS] at hv;obtain⟨aS,h1,h2⟩:=hv;rw[GS];exact⟨aS,h1,bp.ok hR hw h2⟩
 | _,_,_,.bE hw,hv=>by rw[VS] at hv;obtain⟨aS,h1,h2⟩:=hv;rw[GS];exact⟨aS,h1,bp.ok hR hw h2⟩
 | _,_,_,.fn hw1 hw2,hv=>by rw[VS] at hv;obtain⟨xs,ys,h1,h2,h3⟩:=hv;rw[GS];exact⟨xs,ys,h1,bp.ok hR hw1 h2,bp.ok hR hw2 h3⟩
 | _,_,_,.iface hw,hv=>by rw[VS] at hv;obtain⟨y,h1,h2⟩:=hv;rw[GS];exact⟨y,h1,Wk.ok hR hw h2⟩
def bp.ok(hR:RS θ ρ0 ρ h0 h S):∀{vs ws:List SV} {xs:List AV},bp S vs ws->c7 θ ρ vs xs->ki (oV θ ρ h S) ws xs
 | _,_,_,.nil,hv=>by rw[aQ] at hv;rw[gH];exact hv
 | _,_,_,.cons h1 h2,hv=>by
  rw[aK] at hv;obtain⟨a,r,rfl,k1,k2⟩:=hv;rw[ep];exact⟨a,r,rfl,Wk.ok hR h1 k1,bp.ok hR h2 k2⟩
end
def RS.DH(hR:RS θ ρ0 ρ h0 h S):RS θ ρ0 ρ h0 h []:=⟨hR.ok,hR.nx,hR.ob,hR.fm,hR.lw,hR.ln,λo so h=>by simp at h,λo o' so so' _ h=>by simp at h,λid ob hi=>⟨(hR.row id ob hi).1,(hR.row id ob hi).2.1,λo so h=>by simp at h⟩,hR.mB⟩
def Ac:oV θ ρ h []=ρ:=by
 funext id;unfold oV
 cases hr:ρ id with
 | some ob=>rfl
 | none=>simp only;rw[un];rintro⟨o,so,h,_⟩;simp at h
def M7(ρ:kg)(h:H):Prop:=∀id ob,ρ id=some ob->id<h.next/\h.aR.get id=some ob
def Sr(h:H)(ρ ρ':kg)(h':H):Prop:=∀id ob,ρ' id=some ob->ρ id=some ob\/(h.next<=id/\id<h'.next/\h'.aR.get id=some ob)
def pH(hR:RS θ ρ0 ρ h0 h S):M7 (oV θ ρ h S) h:=by
 intro id ob hi;unfold oV at hi
 cases hr:ρ id with
 | some ob'=>rw[hr] at hi;cases hi;exact⟨(hR.row id _ hr).1,(hR.row id _ hr).2.1⟩
 | none=>
  rw[hr] at hi;simp only at hi;split at hi
  ·rename_i hex;obtain⟨o,so,h1,h2,rfl⟩:=hex;obtain⟨⟨k1,k2,k3,_⟩,_⟩:=hR.obj o so h1 h2;exact⟨by rcases k1 with e | e<;>omega,hi⟩
  ·cases hi
def PC(P:Program)(g:FuncId)(args:List SV)(Q:SV->Prop):Prop:=∀ρ h avs,M7 ρ h->ki ρ args avs->
 dC P (.func g) avs h (λv h'=>∃r ρ',Q r/\Over h.next h h'/\Sr h ρ ρ' h'/\GS ρ' r v)
mutual
def BU:SV->Bool
 | .any=>true
 | .a _=>true
 | .ag cs=>NQ cs
 | .bE cs=>NQ cs
 | _=>false
def NQ:List SV->Bool
 | []=>true
 | d::ds=>BU d&&NQ ds
end
mutual
def GS.flat{ρ':kg}:∀{r:SV} {x:AV},BU r=true->GS ρ' r x->VS θ ρ r x
 | .any,_,_,_=>by rw[VS];trivial
 | .a v,x,_,hg=>by rw[GS] at hg;rw[VS];exact hg
 | .ag cs,x,hf,hg=>by rw[BU] at hf;rw[GS] at hg;obtain⟨aS,h1,h2⟩:=hg;rw[VS];exact⟨aS,h1,ki.flat hf h2⟩
 | .bE cs,x,hf,hg=>by rw[BU] at hf;rw[GS] at hg;obtain⟨aS,h1,h2⟩:=hg;rw[VS];exact⟨aS,h1,ki.flat hf h2⟩
 | .sl _ _ _,_,hf,_=>by simp[BU] at hf
 | .im _ _,_,hf,_=>by simp[BU] at hf
 | .ip _,_,hf,_=>by simp[BU] at hf
 | .ptr _ _,_,hf,_=>by simp[BU] at hf
 | .map _,_,hf,_=>by simp[BU] at hf
 | .buf _ _ _ _,_,hf,_=>by simp[BU] at hf
 | .sub _ _ _ _ _,_,hf,_=>by simp[BU] at hf
 | .e0 _,_,hf,_=>by simp[BU] at hf
 | .fn _ _ _,_,hf,_=>by simp[BU] at hf
 | .iface _ _,_,hf,_=>by simp[BU] at hf
def ki.flat{ρ':kg}:∀{rs:List SV} {xs:List AV},NQ rs=true->ki ρ' rs xs->c7 θ ρ rs xs
 | [],xs,_,hg=>by rw[gH] at hg;rw[aQ];exact hg
 | d::ds,xs,hf,hg=>by
  rw[NQ,al] at hf;rw[ep] at hg;obtain⟨a,r,rfl,h1,h2⟩:=hg;rw[aK];exact⟨a,r,rfl,GS.flat hf.1 h1,ki.flat hf.2 h2⟩
end
def gV(P:Program)(f:Fm)(c:Call):Option (FuncId×List SV):=match c.callee with
 | .value x=>match eF f x with
  | some (.fn g first cap)=>(mY f c.args.toList).map λxs=>(g,(first++xs)++cap)
  | _=>none
 | .invoke r name=>match eF f r with
  | some (.iface t v)=>(jn P t name).bind λg=>(mY f c.args.toList).map λxs=>(g,v::xs)
  | _=>none
 | .builtin _=>none
def ym{f:Fm}{af:Nat->AV}{n:Nat}{wv:Nat->AV}(hF:FR θ ρ (aX f) af n wv){c:Call}{g:FuncId}{vs:List SV}(hc:gV P f c=some (g,vs)):∃xs cap,pg P (dj af n) c=some (.func g,xs,cap)/\c7 θ ρ vs (xs++cap):=by
 unfold gV at hc;unfold pg;split at hc
 ·rename_i x hx;rw[hx];simp only;split at hc
  ·rename_i g' first cap hv
   obtain⟨xs,hxs,e⟩:=aq hc;cases e;obtain⟨a,ha,ka⟩:=bG hF hv;rw[VS] at ka;obtain⟨fs,cs,rfl,k1,k2⟩:=ka;obtain⟨aS,hs,ks⟩:=kZ hF hxs;rw[ha];simp only;rw[hs];exact⟨fs++aS,cs,rfl,(k1.app ks).app k2⟩
  ·cases hc
 ·rename_i r name hx;rw[hx];simp only;split at hc
  ·rename_i t v hv;obtain⟨g',hg,hc⟩:=bind_eq_some_iff.1 hc;obtain⟨xs,hxs,e⟩:=aq hc;cases e;obtain⟨a,ha,ka⟩:=bG hF hv;rw[VS] at ka;obtain⟨y,rfl,k1⟩:=ka;obtain⟨aS,hs,ks⟩:=kZ hF hxs;rw[ha];simp only;rw[hg,Option.bind_some,hs];refine⟨y::aS,[],rfl,?_⟩;rw[List.append_nil,aK];exact⟨y,aS,rfl,k1,ks⟩
  ·cases hc
 ·cases hc
def nj.mono{ρ':kg}{h':H}{L:Loc}{so:SO}(hx:nj θ ρ h L so)(hm:∀id ob,ρ id=some ob->ρ' id=some ob)(ho:h'.aR.get L.id=h.aR.get L.id)(hf:h'.dE.get L.cg=h.dE.get L.cg):nj θ ρ' h' L so:=by
 cases so with
 | cells cs=>obtain⟨aS,h1,h2,h3⟩:=hx;exact⟨aS,by rw[ho];exact h1,h2.mono hm,by rw[hf];exact h3⟩
 | map ks vs b=>obtain⟨l,c,h1,h2,h3⟩:=hx;exact⟨l,c,by rw[ho];exact h1,h2,h3.mono hm⟩
 | iter m bs c pos=>obtain⟨kY,h1,h2⟩:=hx;exact⟨kY,h1.mono hm,by rw[ho];exact h2⟩
 | oL ks vs bs c pos=>obtain⟨kY,l,h1,h2,h3,h4⟩:=hx;exact⟨kY,l,hm _ _ h1,h2,h3.mono hm,by rw[ho];exact h4⟩
 | gone=>trivial
 | loop c ls p f=>
  obtain⟨h1,h2,h3⟩:=hx;exact⟨h1,by rw[ho];exact h2,λi hi=>(h3 i hi).mono hm⟩
 | ox N=>exact⟨hx.1,by rw[ho];exact hx.2⟩
def GJ(h:H)(ρ ρ':kg):kg:=λid=>if id<h.next then ρ id else ρ' id
def RS.call{ρ':kg}{h':H}(hR:RS θ ρ0 ρ h0 h S)(ho:Over h.next h h')(hn:Sr h ρ ρ' h'):RS θ ρ0 (GJ h ρ ρ') h0 h' S/\(∀id ob,ρ id=some ob->GJ h ρ ρ' id=some ob)/\∀id ob,ρ' id=some ob->GJ h ρ ρ' id=some ob:=by
 have hold:∀id ob,ρ id=some ob->GJ h ρ ρ' id=some ob:=by
  intro id ob hi;unfold GJ;rw[ul (hR.row id ob hi).1];exact hi
 have hlw:h'.low=h.low:=ho.low hR.ln;have hpr:∀j,h0.pr j->j<h.next:=λj hj=>ac (hR.ok.pr j hj) hR.nx;have hpf:∀j,h0.pf j->j<h.next:=λj hj=>ac (hR.ok.pf j hj) hR.nx;refine⟨⟨hR.ok,a0 hR.nx ho.next,λj hj=>(ho.aR j (hpr j hj)).trans (hR.ob j hj),λj hj=>(ho.dE j (hpf j hj)).trans (hR.fm j hj),by rw[hlw];exact hR.lw,by rw[hlw];exact a0 hR.ln ho.next,?_,hR.sep,?_,?_⟩,hold,?_⟩
 ·intro o so h1 h2;obtain⟨k,k2⟩:=hR.obj o so h1 h2;refine⟨k.mono ho.next,?_⟩
  have hid:(θ o).id<h.next:=by rcases k.e with e | e<;>rw[e];exact k.x.2;exact k.y.2
  exact k2.mono hold (ho.aR _ hid) (ho.dE _ k.f.2)
 ·intro id ob hi;unfold GJ at hi;split at hi
  ·rename_i hlt;obtain⟨r1,r2,r3⟩:=hR.row id ob hi;exact⟨ac r1 ho.next,by rw[ho.aR id r1];exact r2,r3⟩
  ·rename_i hlt
   rcases hn id ob hi with e | ⟨e1,e2,e3⟩
   ·exact t8 (hR.row id ob e).1 hlt
   ·refine⟨e2,e3,λo so h1 h2=>?_⟩;obtain⟨k,_⟩:=hR.obj o so h1 h2;have:=k.x.2;have:=k.y.2;omega
 ·intro id ob hi;unfold GJ at hi;split at hi
  ·exact hR.mB id ob hi
  ·exact .inr (λhj=>by have:=hpr id hj;omega)
 ·intro id ob hi;unfold GJ;split
  ·rename_i hlt
   rcases hn id ob hi with e | ⟨e1,_⟩
   ·exact e
   ·omega
  ·exact hi
def FR.mono{ρ':kg}{f:Nat->SV}{af:Nat->AV}{n:Nat}{wv:Nat->AV}(hF:FR θ ρ f af n wv)(hm:∀id ob,ρ id=some ob->ρ' id=some ob):FR θ ρ' f af n wv:=⟨λi=>(hF.v i).mono hm,hF.u⟩
def aI.call{ro:Option Nat}{all:List Oper}{o:Oper}{l:List Oper}{f:Fm}{n:Nat}{ds:List iV}{K:eB->Prop}{d:Nat}{c:Call}{g:FuncId}{vs ws:List SV}{Q:SV->Prop}(hop:o.op=.call c)(hdst:o.dst=some d)(hw:uL all f n o=some true)(hdy:lj (.call c)=true)(hd:Nat.blt d n=true)
 (hc:gV P f c=some (g,vs)) (hq:PC P g ws Q) (hwk:bp S vs ws) (hfl:(∀r,Q r->BU r=true)\/bp [] vs ws) (hk:∀r,Q r->aI P ro all l ⟨(d,r)::f,n,S,ds⟩ K):aI P ro all (o::l) ⟨f,n,S,ds⟩ K:=by
 rintro ρ0 h0 ⟨af,n',h,ds'⟩ ⟨rfl,rfl,θ,ρ,hR,hF⟩;obtain⟨xs,cap,h1,h2⟩:=ym hF hc
 rcases hfl with hfl | hfl
 ·refine .c hop hdst (cK hF hw) hdy hd h1 rfl (hq _ _ _ (pH hR) (hwk.ok hR h2)) ?_;rintro v h' ⟨r,ρ',k1,k2,k3,k4⟩;obtain⟨j1,j2,_⟩:=hR.call (ρ':=λ_=>none) k2 (λid ob hi=>by cases hi);exact hk r k1 ρ0 h0 _ ⟨rfl,rfl,θ,_,j1,(hF.mono j2).put (fW hd) (k4.flat (hfl r k1))⟩
 ·have:=hfl.ok hR.DH h2;rw[Ac] at this;refine .c hop hdst (cK hF hw) hdy hd h1 rfl (hq _ _ _ (λid ob hi=>⟨(hR.row id ob hi).1,(hR.row id ob hi).2.1⟩) this) ?_;rintro v h' ⟨r,ρ',k1,k2,k3,k4⟩;obtain⟨j1,j2,j3⟩:=hR.call k2 k3;exact hk r k1 ρ0 h0 _ ⟨rfl,rfl,θ,_,j1,(hF.mono j2).put (fW hd) ((k4.mono j3).vs)⟩
end
def kj:Nat->List SV->Fm
 | _,[]=>[]
 | i,v::vs=>(i,v)::kj (i+1) vs
def s8:∀(vs:List SV) (i j:Nat),aX (kj i vs) j=if i<=j then (match vs[j-i]? with | some v=>v | none=>.any) else .any
 | [],i,j=>by simp[kj,aX]
 | v::vs,i,j=>by
  show(if i=j then v else aX (kj (i+1) vs) j)=_;rw[s8 vs (i+1) j];by_cases h:i=j
  ·subst h;simp
  ·rw[un h];by_cases h2:i<=j
   ·rw[ul (by omega),ul h2];obtain⟨k,hk⟩:∃k,j-i=k+1:=⟨j-i-1,by omega⟩;rw[hk,ad,show j-(i+1)=k by omega]
   ·rw[un (by omega),un h2]
def mT(P:Program)(f:Fm)(S:List SO):List ResultVar->Option (List SV)
 | []=>some []
 | .tmp i::l=>(eF f (.tmp i)).bind λv=>(mT P f S l).map λb=>v::b
 | .cell a t::l=>(eF f (.tmp a)).bind λx=>(tI P S t x).bind λv=>(mT P f S l).map λb=>v::b
def dh:List SV->SV
 | [v]=>v
 | vs=>.bE vs
def sf(P:Program)(fn:Func)(Q:SV->Prop):Ex->eB->Prop:=λe st=>kJ e=true/\st.ds=[]/\∃vs r,mT P st.f st.S fn.results.toList=some vs/\Wk st.S (dh vs) r/\Q r
section
variable {P:Program}
def tX{θ:Nat->Loc}{ρ ρ0:kg}{h0:En}{h:H}{S:List SO}(hR:RS θ ρ0 ρ h0 h S){f:Fm}{af:Nat->AV}{n:Nat}{wv:Nat->AV}(hF:FR θ ρ (aX f) af n wv):∀{l:List ResultVar} {vs:List SV},mT P f S l=some vs->∃aS,(l.mapM λ
 | ResultVar.tmp i=>ev (dj af n) (.tmp i)
 | ResultVar.cell a tt=>match ev (dj af n) (.tmp a) with
  | some (.ptr (some (id,off)))=>h.load P tt id off
  | _=>none)=some aS/\c7 θ ρ vs aS
 | [],vs,hv=>by
  simp only[mT,Option.some.injEq] at hv;subst hv;exact⟨[],rfl,by rw[aQ]⟩
 | .tmp i::l,vs,hv=>by
  rw[mT] at hv;obtain⟨v0,hv0,hv⟩:=bind_eq_some_iff.1 hv;obtain⟨b,hb,rfl⟩:=aq hv;obtain⟨aS,h1,h2⟩:=tX hR hF hb;obtain⟨a,ha,ka⟩:=bG hF (x:=.tmp i) hv0;refine⟨a::aS,?_,by rw[aK];exact⟨a,aS,rfl,ka,h2⟩⟩;rw[ax];simp only[ha,h1];rfl
 | .cell a t::l,vs,hv=>by
  rw[mT] at hv;obtain⟨v0,hv0,hv⟩:=bind_eq_some_iff.1 hv;obtain⟨v,hv1,hv⟩:=bind_eq_some_iff.1 hv;obtain⟨b,hb,rfl⟩:=aq hv;obtain⟨aS,h1,h2⟩:=tX hR hF hb;obtain⟨p,hp,kp⟩:=bG hF (x:=.tmp a) hv0;obtain⟨y,hy,ky⟩:=F5 hR kp hv1;refine⟨y::aS,?_,by rw[aK];exact⟨y,aS,rfl,ky,h2⟩⟩;rw[ax];simp only[hp,h1];unfold Dy at hy;split at hy
  ·rename_i he;cases he;simp only[hy];rfl
  ·cases hy
def Pn:List AV->AV
 | [v]=>v
 | vs=>.bE vs
def KT{θ:Nat->Loc}{ρ:kg}{vs:List SV}{aS:List AV}(h:c7 θ ρ vs aS):VS θ ρ (dh vs) (Pn aS):=by
 match vs,h with
 | [],h=>rw[aQ] at h;subst h;simp only[dh];rw[VS];exact⟨[],rfl,by rw[aQ]⟩
 | [v],h=>
  rw[aK] at h;obtain⟨a,r,rfl,h1,h2⟩:=h;rw[aQ] at h2;subst h2;exact h1
 | v::w::vs,h=>
  have h':=h;rw[aK] at h;obtain⟨a,r,rfl,h1,h2⟩:=h;rw[aK] at h2;obtain⟨b,r2,rfl,h3,h4⟩:=h2;simp only[dh];rw[VS];exact⟨_,rfl,h'⟩
end
section
variable {θ:Nat->Loc} {ρ ρ0:kg} {P:Program} {h0:En} {h:H} {S S':List SO}
def rL(f:Fm):Fm->Prop
 | []=>True
 | (i,v)::l=>aX f i=v/\rL f l
def yb(S:List SO):List SO->Nat->Prop
 | [],_=>True
 | s::l,k=>(s=.gone\/S[k]?=some s)/\yb S l (k+1)
def yb.get:∀{l:List SO} {k:Nat},yb S l k->∀{o:Nat} {so:SO},l[o]?=some so->so≠.gone->S[k+o]?=some so
 | [],_,_,o,so,h,_=>by simp at h
 | s::l,k,hs,o,so,h,hg=>by
  obtain⟨h1,h2⟩:=hs
  cases o with
  | zero=>
   simp only[aj,Option.some.injEq] at h;subst h;exact h1.resolve_left hg
  | succ o=>
   simp only[ad] at h;have:=yb.get h2 h hg;rw[show k+(o+1)=k+1+o by omega];exact this
def RS.sub(hR:RS θ ρ0 ρ h0 h S)(hs:∀(o:Nat) (so:SO),S'[o]?=some so->so≠.gone->S[o]?=some so):RS θ ρ0 ρ h0 h S':=
 ⟨hR.ok,hR.nx,hR.ob,hR.fm,hR.lw,hR.ln,λo so h1 h2=>hR.obj o so (hs o so h1 h2) h2,λo o' so so' h h1 h2 h3 h4=>hR.sep o o' so so' h (hs o so h1 h2) h2 (hs o' so' h3 h4) h4,
  λid ob hi=>⟨(hR.row id ob hi).1,(hR.row id ob hi).2.1,λo so h1 h2=>(hR.row id ob hi).2.2 o so (hs o so h1 h2) h2⟩,hR.mB⟩
def rL.get{f:Fm}:∀{f':Fm},rL f f'->∀i,aX f' i=aX f i\/aX f' i=.any
 | [],_,i=>.inr rfl
 | (d,v)::l,h,i=>by
  obtain⟨h1,h2⟩:=h;show(if d=i then v else aX l i)=_\/(if d=i then v else aX l i)=_;by_cases e:d=i
  ·subst e;rw[ul rfl];exact .inl h1.symm
  ·rw[un e];exact rL.get h2 i
def Fg.less{f f':Fm}{n:Nat}{ds:List iV}(hf:rL f f')(hs:yb S S' 0):Fg ⟨f,n,S,ds⟩ ⟨f',n,S',ds⟩:=by
 refine⟨rfl,?_⟩;rintro ρ0 h0 ⟨af,n',h,ds'⟩ ⟨rfl,rfl,θ,ρ,hR,hF⟩;refine⟨rfl,rfl,θ,ρ,hR.sub λo so h1 h2=>by have:=hs.get h1 h2;rw[Nat.zero_add] at this;exact this,λi=>?_,hF.u⟩
 rcases hf.get i with e | e
 ·rw[e];exact hF.v i
 ·rw[e,VS];trivial
def na(o:Nat)(so:SO):List SO:=ay o .gone++[so]
def rD{o p:Nat}{so s:SO}(h:(na o so)[p]?=some s)(hg:s≠.gone):p=o/\s=so:=by
 unfold na at h;rw[List.getElem?_append] at h;split at h
 ·rename_i hl;rw[ap] at hl;rw[List.getElem?_replicate,ul hl] at h;cases h;exact t8 rfl hg
 ·rename_i hl;rw[ap] at hl h
  have:p-o=0:=by
   apply Decidable.byContradiction;intro hn;rw[List.getElem?_eq_none (by simp;omega)] at h;cases h
  rw[this] at h;simp only[aj,Option.some.injEq] at h;exact⟨by omega,h.symm⟩
def C4(S:List SO)(f:Fm):Fm->Prop
 | []=>True
 | (i,v)::l=>(aX f i=v\/Wk S (aX f i) v)/\C4 S f l
def C4.get{f:Fm}:∀{f':Fm},C4 S f f'->∀i,aX f' i=aX f i\/Wk S (aX f i) (aX f' i)
 | [],_,i=>.inr (.any _)
 | (d,v)::l,h,i=>by
  obtain⟨h1,h2⟩:=h;show(if d=i then v else aX l i)=_\/Wk S _ (if d=i then v else aX l i);by_cases e:d=i
  ·subst e;rw[ul rfl]
   rcases h1 with h1 | h1
   ·exact .inl h1.symm
   ·exact .inr h1
  ·rw[un e];exact C4.get h2 i
def Fg.freeze{f f':Fm}{n:Nat}{ds:List iV}(o:Nat){so:SO}(hS:S[o]?=some so)(hg:so≠.gone)(hf:C4 (na o so) f f'):Fg ⟨f,n,S,ds⟩ ⟨f',n,S.set o .gone,ds⟩:=by
 refine⟨rfl,?_⟩;rintro ρ0 h0 ⟨af,n',h,ds'⟩ ⟨rfl,rfl,θ,ρ,hR,hF⟩
 have hsub:∀(p:Nat) (s:SO),(na o so)[p]?=some s->s≠.gone->S[p]?=some s:=by
  intro p s h1 h2;obtain⟨rfl,rfl⟩:=rD h1 h2;exact hS
 have hR1:=hR.sub hsub
 have hset:∀(p:Nat) (s:SO),(S.set o .gone)[p]?=some s->s≠.gone->S[p]?=some s/\p≠o:=by
  intro p s h1 h2;by_cases hp:p=o
  ·subst hp;rw[List.getElem?_set_self (bD hS)] at h1;cases h1;exact t8 rfl h2
  ·rw[List.getElem?_set_ne (λe=>hp e.symm)] at h1;exact⟨h1,hp⟩
 have hR2:=hR.sub (S':=S.set o .gone) λp s h1 h2=>(hset p s h1 h2).1;have hm:∀id ob,ρ id=some ob->oV θ ρ h (na o so) id=some ob:=λid ob hi=>qL hi
 have key:∀id ob,oV θ ρ h (na o so) id=some ob->ρ id=some ob\/id=(θ o).id:=by
  intro id ob hi;unfold oV at hi
  cases hr:ρ id with
  | some ob'=>rw[hr] at hi;exact .inl hi
  | none=>
   rw[hr] at hi;simp only at hi;split at hi
   ·rename_i hex;obtain⟨p,s,q1,q2,rfl⟩:=hex;obtain⟨rfl,_⟩:=rD q1 q2;exact .inr rfl
   ·cases hi
 refine⟨rfl,rfl,θ,oV θ ρ h (na o so),⟨hR2.ok,hR2.nx,hR2.ob,hR2.fm,hR2.lw,hR2.ln,?_,hR2.sep,?_,?_⟩,λi=>?_,hF.u⟩
 ·intro p s h1 h2;obtain⟨k,k2⟩:=hR2.obj p s h1 h2;exact⟨k,k2.mono hm rfl rfl⟩
 ·intro id ob hi;obtain⟨r1,r2⟩:=pH hR1 id ob hi;refine⟨r1,r2,λp s h1 h2=>?_⟩
  rcases key id ob hi with e | e
  ·exact(hR2.row id ob e).2.2 p s h1 h2
  ·subst e;obtain⟨g1,g2⟩:=hset p s h1 h2;have sp:=hR.sep p o s so g2 g1 h2 hS hg;obtain⟨k,_⟩:=hR.obj o so hS hg
   rcases k.e with e | e<;>rw[e]
   ·exact⟨sp.xx.symm,sp.yx.symm⟩
   ·exact⟨sp.xy.symm,sp.yy.symm⟩
 ·intro id ob hi
  rcases key id ob hi with e | e
  ·exact hR.mB id ob e
  ·subst e;obtain⟨k,_⟩:=hR.obj o so hS hg;exact .inr (by rcases k.e with e | e<;>rw[e];exact k.x.1;exact k.y.1)
 ·rcases hf.get i with e | e
  ·rw[e];exact(hF.v i).mono hm
  ·exact(e.ok hR1 (hF.v i)).vs
mutual
def lB:SV->Bool
 | .a _=>true
 | .sl _ _ _=>true
 | .im _ _=>true
 | .ip _=>true
 | .any=>true
 | .e0 _=>true
 | .ag cs=>cr cs
 | .bE cs=>cr cs
 | .fn _ a b=>cr a&&cr b
 | .iface _ v=>lB v
 | _=>false
def cr:List SV->Bool
 | []=>true
 | d::ds=>lB d&&cr ds
end
mutual
def Wk.refl:∀{v:SV},lB v=true->Wk S v v
 | .a v,_=>.a v
 | .sl n e cs,_=>.sl n e cs
 | .im ks vs,_=>.im ks vs
 | .ip cs,_=>.ip cs
 | .any,_=>.any _
 | .e0 e,_=>.e0 e
 | .sub _ _ _ _ _,h=>by simp[lB] at h
 | .ag cs,h=>.ag (bp.refl (by rw[lB] at h;exact h))
 | .bE cs,h=>.bE (bp.refl (by rw[lB] at h;exact h))
 | .fn g a b,h=>by rw[lB,al] at h;exact .fn (bp.refl h.1) (bp.refl h.2)
 | .iface t v,h=>.iface (Wk.refl (by rw[lB] at h;exact h))
 | .ptr _ _,h=>by simp[lB] at h
 | .map _,h=>by simp[lB] at h
 | .buf _ _ _ _,h=>by simp[lB] at h
def bp.refl:∀{vs:List SV},cr vs=true->bp S vs vs
 | [],_=>.nil
 | d::ds,h=>by rw[cr,al] at h;exact .cons (Wk.refl h.1) (bp.refl h.2)
end
def bp.app:∀{a b c d:List SV},bp S a c->bp S b d->bp S (a++b) (c++d)
 | _,_,_,_,.nil,h=>h
 | _,_,_,_,.cons h1 h2,h=>.cons h1 (bp.app h2 h)
end
end
end Go.Ev
namespace Go.Proofs
open Go.Ev
section
variable (P:Program) (t:Nat)
abbrev fS(n:Nat)(z:List AV):Prop:=bT P t=some (n,true)/\du P t=some (.agg z)/\PN P t=some none/\QZ P t=none/\pe P t=true
abbrev fL(e n:Nat):Prop:=bT P t=some (1,false)/\du P t=some (.slice none 0 0 (some 0))/\Il P t=some (e,n)/\QZ P t=none/\iM P t=.sl/\pe P t=true
abbrev fA(n k e s:Nat)(z:AV):Prop:=bT P t=some (n,true)/\du P t=some (.agg (ay k z))/\QZ P t=some (k,e,s)/\PN P t=some (some s)/\iM P t=.other
abbrev fM(k e:Nat):Prop:=bT P t=some (1,false)/\du P t=some (.map none)/\cW P t=some (k,e)/\iM P t=.map
abbrev fT:Prop:=bT P t=some (1,false)/\du P t=some (.str [])/\iM P t=.str/\pe P t=true
abbrev fI(k:IntKind):Prop:=bT P t=some (1,false)/\du P t=some (.int k 0)/\pe P t=true/\iM P t=.other/\isInt P t=true
abbrev fB(z:AV):Prop:=bT P t=some (1,false)/\du P t=some z/\pe P t=true
end
abbrev UG(P:Program):Prop:=bT P 1=some (1,false)/\fI P 2 .i64/\fI P 3 .i64/\fB P 4 (.bool false)/\fI P 5 .u8/\fT P 9/\fI P 21 .i32/\fL P 22 52 3/\fS P 23 1 [.slice none 0 0 (some 0)]/\aT P 23 0=some (0,22,1)/\fS P 24 1 [.slice none 0 0 (some 0)]/\aT P 24 0=some (0,22,1)/\fL P 25 27 3/\fS P 26 3 [.int .i64 0,.int .i64 0,.slice none 0 0 (some 0)]/\aT P 26 0=some (0,3,1)/\aT P 26 1=some (1,3,1)/\aT P 26 2=some (2,25,1)/\fS P 27 3 [.int .i64 0,.int .i64 0,.slice none 0 0 (some 0)]/\aT P 27 0=some (0,3,1)/\aT P 27 1=some (1,3,1)/\aT P 27 2=some (2,25,1)/\fS P 28 4 [.slice none 0 0 (some 0),.int .i64 0,.int .i64 0,.slice none 0 0 (some 0)]/\aT P 28 0=some (0,24,1)/\aT P 28 1=some (1,27,3)/\fS P 29 4 [.slice none 0 0 (some 0),.int .i64 0,.int .i64 0,.slice none 0 0 (some 0)]/\aT P 29 0=some (0,24,1)/\aT P 29 1=some (1,27,3)
def HA:UG Tryz.prog:=by
 (repeat' apply aa)<;>kernel_rfl
abbrev UH(P:Program):Prop:=fL P 30 43 5/\fL P 31 61 2/\fL P 32 47 4/\bT P 33=some (1,false)/\bT P 34=some (1,false)/\fL P 35 45 3/\fI P 36 .i64/\bT P 38=some (1,false)/\bT P 39=some (1,false)/\bT P 40=some (1,false)/\bT P 41=some (1,false)/\fS P 42 5 [.str [],.str [],.int .i64 0,.int .i64 0,.int .i64 0]/\aT P 42 0=some (0,9,1)/\aT P 42 1=some (1,9,1)/\aT P 42 2=some (2,3,1)/\aT P 42 3=some (3,3,1)/\aT P 42 4=some (4,3,1)/\fS P 43 5 [.str [],.str [],.int .i64 0,.int .i64 0,.int .i64 0]/\aT P 43 0=some (0,9,1)/\aT P 43 1=some (1,9,1)/\aT P 43 2=some (2,3,1)/\aT P 43 3=some (3,3,1)/\aT P 43 4=some (4,3,1)/\fS P 44 3 [.str [],.str [],.int .i64 0]/\aT P 44 0=some (0,9,1)/\aT P 44 1=some (1,9,1)/\aT P 44 2=some (2,3,1)
def HB:UH Tryz.prog:=by
 (repeat' apply aa)<;>kernel_rfl
abbrev UI(P:Program):Prop:=fS P 45 3 [.str [],.str [],.int .i64 0]/\aT P 45 0=some (0,9,1)/\aT P 45 1=some (1,9,1)/\aT P 45 2=some (2,3,1)/\fS P 46 4 [.str [],.str [],.int .i64 0,.int .i64 0]/\aT P 46 0=some (0,9,1)/\aT P 46 1=some (1,9,1)/\aT P 46 2=some (2,3,1)/\aT P 46 3=some (3,3,1)/\fS P 47 4 [.str [],.str [],.int .i64 0,.int .i64 0]/\aT P 47 0=some (0,9,1)/\aT P 47 1=some (1,9,1)/\aT P 47 2=some (2,3,1)/\aT P 47 3=some (3,3,1)/\bT P 48=some (1,false)/\bT P 49=some (1,false)/\fL P 50 137 3/\fS P 51 3 [.str [],.bool false,.slice none 0 0 (some 0)]/\aT P 51 0=some (0,9,1)/\aT P 51 1=some (1,4,1)/\aT P 51 2=some (2,50,1)/\fS P 52 3 [.str [],.bool false,.slice none 0 0 (some 0)]/\aT P 52 0=some (0,9,1)/\aT P 52 1=some (1,4,1)/\aT P 52 2=some (2,50,1)
def HC:UI Tryz.prog:=by
 (repeat' apply aa)<;>kernel_rfl
abbrev UJ(P:Program):Prop:=fS P 53 2 [.int .i64 0,.int .i64 0]/\aT P 53 0=some (0,3,1)/\aT P 53 1=some (1,3,1)/\fS P 54 2 [.int .i64 0,.int .i64 0]/\aT P 54 0=some (0,3,1)/\aT P 54 1=some (1,3,1)/\fS P 55 6 [.int .i64 0,.int .i64 0,.int .i64 0,.int .i64 0,.int .i64 0,.int .i64 0]/\aT P 55 0=some (0,54,2)/\aT P 55 1=some (2,54,2)/\aT P 55 2=some (4,54,2)/\fS P 56 6 [.int .i64 0,.int .i64 0,.int .i64 0,.int .i64 0,.int .i64 0,.int .i64 0]/\aT P 56 0=some (0,54,2)/\aT P 56 1=some (2,54,2)/\aT P 56 2=some (4,54,2)/\fS P 57 14 [.int .i64 0,.int .i64 0,.str [],.str [],.str [],.str [],.str [],.str [],.int .i64 0,.int .i64 0,.int .i64 0,.int .i64 0,.int .i64 0,.int .i64 0]/\aT P 57 0=some (0,3,1)/\aT P 57 1=some (1,3,1)/\aT P 57 2=some (2,9,1)/\aT P 57 3=some (3,9,1)/\aT P 57 4=some (4,9,1)/\aT P 57 5=some (5,9,1)/\aT P 57 6=some (6,9,1)/\aT P 57 7=some (7,9,1)/\aT P 57 8=some (8,56,6)/\fS P 58 14 [.int .i64 0,.int .i64 0,.str [],.str [],.str [],.str [],.str [],.str [],.int .i64 0,.int .i64 0,.int .i64 0,.int .i64 0,.int .i64 0,.int .i64 0]/\aT P 58 0=some (0,3,1)/\aT P 58 1=some (1,3,1)/\aT P 58 2=some (2,9,1)/\aT P 58 3=some (3,9,1)/\aT P 58 4=some (4,9,1)/\aT P 58 5=some (5,9,1)/\aT P 58 6=some (6,9,1)/\aT P 58 7=some (7,9,1)/\aT P 58 8=some (8,56,6)
def HD:UJ Tryz.prog:=by
 (repeat' apply aa)<;>kernel_rfl
abbrev UK(P:Program):Prop:=fL P 59 58 14/\fS P 60 2 [.slice none 0 0 (some 0),.bool false]/\aT P 60 0=some (0,59,1)/\aT P 60 1=some (1,4,1)/\fS P 61 2 [.slice none 0 0 (some 0),.bool false]/\aT P 61 0=some (0,59,1)/\aT P 61 1=some (1,4,1)/\bT P 62=some (1,false)/\bT P 63=some (1,false)/\bT P 64=some (1,false)/\bT P 65=some (1,false)/\fL P 66 86 2/\bT P 68=some (1,false)/\fL P 69 174 2/\fS P 70 6 [.int .i64 0,.int .i64 0,.int .i64 0,.int .i64 0,.int .i64 0,.int .i64 0]/\aT P 70 0=some (0,54,2)/\aT P 70 1=some (2,54,2)/\aT P 70 2=some (4,54,2)/\fS P 71 6 [.int .i64 0,.int .i64 0,.int .i64 0,.int .i64 0,.int .i64 0,.int .i64 0]/\aT P 71 0=some (0,54,2)/\aT P 71 1=some (2,54,2)/\aT P 71 2=some (4,54,2)/\fS P 72 14 [.str [],.str [],.str [],.str [],.int .i64 0,.int .i64 0,.bool false,.slice none 0 0 (some 0),.int .i64 0,.int .i64 0,.int .i64 0,.int .i64 0,.int .i64 0,.int .i64 0]/\aT P 72 0=some (0,9,1)/\aT P 72 1=some (1,9,1)/\aT P 72 2=some (2,9,1)/\aT P 72 3=some (3,9,1)/\aT P 72 4=some (4,3,1)/\aT P 72 5=some (5,3,1)/\aT P 72 6=some (6,4,1)/\aT P 72 7=some (7,69,1)/\aT P 72 8=some (8,71,6)
def HE:UK Tryz.prog:=by
 (repeat' apply aa)<;>kernel_rfl
abbrev UL(P:Program):Prop:=fS P 73 14 [.str [],.str [],.str [],.str [],.int .i64 0,.int .i64 0,.bool false,.slice none 0 0 (some 0),.int .i64 0,.int .i64 0,.int .i64 0,.int .i64 0,.int .i64 0,.int .i64 0]/\aT P 73 0=some (0,9,1)/\aT P 73 1=some (1,9,1)/\aT P 73 2=some (2,9,1)/\aT P 73 3=some (3,9,1)/\aT P 73 4=some (4,3,1)/\aT P 73 5=some (5,3,1)/\aT P 73 6=some (6,4,1)/\aT P 73 7=some (7,69,1)/\aT P 73 8=some (8,71,6)/\fL P 74 73 14/\fS P 75 1 [.slice none 0 0 (some 0)]/\aT P 75 0=some (0,74,1)/\fS P 76 1 [.slice none 0 0 (some 0)]/\aT P 76 0=some (0,74,1)/\bT P 78=some (1,false)/\bT P 79=some (1,false)/\bT P 80=some (1,false)/\fM P 81 95 3/\fM P 82 95 3/\bT P 84=some (1,false)/\fS P 85 2 [.str [],.int .i64 0]/\aT P 85 0=some (0,9,1)/\aT P 85 1=some (1,3,1)/\fS P 86 2 [.str [],.int .i64 0]/\aT P 86 0=some (0,9,1)/\aT P 86 1=some (1,3,1)
def HF:UL Tryz.prog:=by
 (repeat' apply aa)<;>kernel_rfl
abbrev UM(P:Program):Prop:=bT P 87=some (1,false)/\bT P 88=some (1,false)/\bT P 89=some (1,false)/\bT P 90=some (1,false)/\bT P 91=some (1,false)/\bT P 92=some (1,false)/\bT P 93=some (1,false)/\fS P 94 2 [.str [],.str []]/\aT P 94 0=some (0,9,1)/\aT P 94 1=some (1,9,1)/\fS P 95 2 [.str [],.str []]/\aT P 95 0=some (0,9,1)/\aT P 95 1=some (1,9,1)/\bT P 96=some (1,false)/\bT P 97=some (1,false)/\bT P 98=some (1,false)/\bT P 99=some (1,false)/\fM P 100 9 3/\fM P 101 9 3/\bT P 103=some (1,false)/\bT P 104=some (1,false)/\bT P 105=some (1,false)/\bT P 106=some (1,false)/\bT P 107=some (1,false)/\bT P 109=some (1,false)
def HG:UM Tryz.prog:=by
 (repeat' apply aa)<;>kernel_rfl
abbrev UN(P:Program):Prop:=fL P 110 9 1/\bT P 111=some (1,false)/\bT P 112=some (1,false)/\bT P 113=some (1,false)/\bT P 114=some (1,false)/\bT P 115=some (1,false)/\fB P 116 (.ptr none)/\bT P 117=some (1,false)/\fM P 118 58 4/\fL P 119 3 1/\bT P 120=some (1,false)/\fL P 121 119 1/\bT P 123=some (1,false)/\fL P 124 101 1/\bT P 126=some (1,false)/\bT P 127=some (1,false)/\fL P 128 35 1/\bT P 129=some (1,false)/\bT P 130=some (1,false)/\bT P 131=some (1,false)/\bT P 132=some (1,false)/\fA P 133 256 256 5 1 (.int .u8 0)/\bT P 134=some (1,false)/\bT P 135=some (1,false)/\fS P 136 3 [.str [],.slice none 0 0 (some 0),.int .i64 0]/\aT P 136 0=some (0,9,1)/\aT P 136 1=some (1,110,1)/\aT P 136 2=some (2,3,1)
def HH:UN Tryz.prog:=by
 (repeat' apply aa)<;>kernel_rfl
abbrev UO(P:Program):Prop:=fS P 137 3 [.str [],.slice none 0 0 (some 0),.int .i64 0]/\aT P 137 0=some (0,9,1)/\aT P 137 1=some (1,110,1)/\aT P 137 2=some (2,3,1)/\bT P 138=some (1,false)/\bT P 140=some (1,false)/\bT P 142=some (1,false)/\bT P 143=some (1,false)/\bT P 144=some (1,false)/\bT P 146=some (1,false)/\bT P 147=some (1,false)/\bT P 148=some (1,false)/\bT P 149=some (1,false)/\bT P 150=some (1,false)/\fM P 151 9 4/\bT P 153=some (1,false)/\bT P 154=some (1,false)/\bT P 155=some (1,false)/\bT P 156=some (1,false)/\bT P 157=some (1,false)/\fS P 158 2 [.slice none 0 0 (some 0),.map none]/\aT P 158 0=some (0,74,1)/\aT P 158 1=some (1,100,1)/\fS P 159 2 [.slice none 0 0 (some 0),.map none]/\aT P 159 0=some (0,74,1)/\aT P 159 1=some (1,100,1)
def HI:UO Tryz.prog:=by
 (repeat' apply aa)<;>kernel_rfl
abbrev UP(P:Program):Prop:=bT P 160=some (1,false)/\bT P 161=some (1,false)/\bT P 162=some (1,false)/\bT P 163=some (1,false)/\bT P 164=some (1,false)/\bT P 165=some (1,false)/\bT P 167=some (1,false)/\bT P 168=some (1,false)/\bT P 169=some (1,false)/\bT P 170=some (1,false)/\bT P 171=some (1,false)/\bT P 172=some (1,false)/\fS P 173 2 [.str [],.str []]/\aT P 173 0=some (0,9,1)/\aT P 173 1=some (1,9,1)/\fS P 174 2 [.str [],.str []]/\aT P 174 0=some (0,9,1)/\aT P 174 1=some (1,9,1)/\bT P 175=some (1,false)/\fM P 177 9 9/\bT P 178=some (1,false)/\fL P 179 54 2/\bT P 180=some (1,false)/\fS P 181 6 [.int .i64 0,.int .i64 0,.int .i64 0,.int .i64 0,.int .i64 0,.int .i64 0]/\aT P 181 0=some (0,56,6)
def HJ:UP Tryz.prog:=by
 (repeat' apply aa)<;>kernel_rfl
abbrev T5(P:Program):Prop:=fS P 182 6 [.int .i64 0,.int .i64 0,.int .i64 0,.int .i64 0,.int .i64 0,.int .i64 0]/\aT P 182 0=some (0,56,6)/\bT P 183=some (1,false)/\bT P 184=some (1,false)/\bT P 185=some (1,false)/\fB P 186 (.ptr none)/\fA P 187 3 3 186 1 (.ptr none)/\bT P 188=some (1,false)/\fB P 189 (.ptr none)/\bT P 190=some (1,false)/\fL P 191 3 1/\bT P 193=some (1,false)/\bT P 194=some (1,false)/\bT P 195=some (1,false)/\bT P 196=some (1,false)/\bT P 197=some (1,false)/\bT P 198=some (1,false)/\bT P 199=some (1,false)/\fI P 201 .u64/\bT P 204=some (1,false)/\bT P 205=some (1,false)/\bT P 206=some (1,false)/\bT P 207=some (1,false)/\bT P 208=some (1,false)/\fI P 209 .u64
def CP:T5 Tryz.prog:=by
 (repeat' apply aa)<;>kernel_rfl
abbrev T6(P:Program):Prop:=bT P 210=some (1,false)/\fS P 211 2 [.fp,.fp]/\aT P 211 0=some (0,130,1)/\aT P 211 1=some (1,205,1)/\fS P 212 2 [.fp,.fp]/\aT P 212 0=some (0,130,1)/\aT P 212 1=some (1,205,1)/\bT P 213=some (1,false)/\bT P 214=some (1,false)/\fM P 216 9 214/\bT P 217=some (1,false)/\bT P 218=some (1,false)/\bT P 219=some (1,false)/\bT P 220=some (1,false)/\fM P 221 224 4/\bT P 222=some (1,false)/\fS P 223 2 [.str [],.str []]/\aT P 223 0=some (0,9,1)/\aT P 223 1=some (1,9,1)/\fS P 224 2 [.str [],.str []]/\aT P 224 0=some (0,9,1)/\aT P 224 1=some (1,9,1)/\bT P 225=some (1,false)/\bT P 226=some (1,false)/\bT P 227=some (1,false)
def CQ:T6 Tryz.prog:=by
 (repeat' apply aa)<;>kernel_rfl
abbrev T7(P:Program):Prop:=bT P 228=some (1,false)/\bT P 229=some (1,false)/\bT P 230=some (1,false)/\bT P 231=some (1,false)/\bT P 233=some (1,false)/\bT P 234=some (1,false)/\bT P 235=some (1,false)/\bT P 236=some (1,false)/\bT P 237=some (1,false)/\bT P 238=some (1,false)/\bT P 239=some (1,false)/\bT P 240=some (1,false)/\bT P 241=some (1,false)/\bT P 242=some (1,false)/\bT P 243=some (1,false)/\bT P 244=some (1,false)/\bT P 245=some (1,false)/\bT P 246=some (1,false)/\fI P 247 .i64/\fA P 248 8 8 9 1 (.str [])/\bT P 249=some (1,false)/\bT P 250=some (1,false)/\bT P 251=some (1,false)/\bT P 252=some (1,false)/\bT P 253=some (1,false)
def CR:T7 Tryz.prog:=by
 (repeat' apply aa)<;>kernel_rfl
abbrev T8(P:Program):Prop:=bT P 254=some (1,false)/\fS P 255 1 [.ptr none]/\aT P 255 0=some (0,17,1)/\fS P 256 1 [.ptr none]/\aT P 256 0=some (0,17,1)/\fB P 257 (.ptr none)/\bT P 258=some (1,false)/\fI P 259 .u32/\bT P 260=some (1,false)/\fI P 261 .u64/\bT P 262=some (1,false)/\fI P 263 .i64/\bT P 265=some (1,false)/\bT P 266=some (1,false)/\bT P 267=some (1,false)/\bT P 268=some (1,false)/\bT P 269=some (1,false)/\bT P 270=some (1,false)/\bT P 271=some (1,false)/\bT P 272=some (1,false)/\bT P 273=some (1,false)/\bT P 274=some (1,false)/\bT P 275=some (1,false)/\bT P 276=some (1,false)/\bT P 277=some (1,false)
def CS:T8 Tryz.prog:=by
 (repeat' apply aa)<;>kernel_rfl
abbrev T9(P:Program):Prop:=bT P 278=some (1,false)/\bT P 279=some (1,false)/\bT P 280=some (1,false)/\bT P 281=some (1,false)/\bT P 282=some (1,false)/\bT P 283=some (1,false)/\bT P 284=some (1,false)/\fI P 285 .i64/\bT P 287=some (1,false)/\bT P 288=some (1,false)/\bT P 289=some (1,false)/\bT P 290=some (1,false)/\bT P 291=some (1,false)/\bT P 292=some (1,false)/\bT P 293=some (1,false)/\fL P 294 110 1/\bT P 295=some (1,false)/\bT P 296=some (1,false)/\bT P 297=some (1,false)/\bT P 298=some (1,false)/\bT P 299=some (1,false)/\bT P 300=some (1,false)/\bT P 301=some (1,false)/\bT P 302=some (1,false)/\fI P 303 .u64
def CT:T9 Tryz.prog:=by
 (repeat' apply aa)<;>kernel_rfl
abbrev Ua(P:Program):Prop:=bT P 304=some (1,false)/\bT P 305=some (1,false)/\bT P 306=some (1,false)/\fB P 307 (.ptr none)/\bT P 308=some (1,false)/\bT P 309=some (1,false)/\bT P 310=some (1,false)/\bT P 311=some (1,false)/\bT P 312=some (1,false)/\fI P 313 .u64/\bT P 314=some (1,false)/\bT P 315=some (1,false)/\fL P 316 247 1/\bT P 317=some (1,false)/\bT P 318=some (1,false)/\fL P 319 321 15/\fS P 320 15 [.int .i64 0,.int .i64 0,.str [],.str [],.str [],.str [],.str [],.str [],.int .i64 0,.int .i64 0,.int .i64 0,.int .i64 0,.int .i64 0,.int .i64 0,.int .i64 0]/\aT P 320 0=some (0,58,14)/\aT P 320 1=some (14,3,1)/\fS P 321 15 [.int .i64 0,.int .i64 0,.str [],.str [],.str [],.str [],.str [],.str [],.int .i64 0,.int .i64 0,.int .i64 0,.int .i64 0,.int .i64 0,.int .i64 0,.int .i64 0]/\aT P 321 0=some (0,58,14)/\aT P 321 1=some (14,3,1)/\bT P 322=some (1,false)/\bT P 323=some (1,false)/\bT P 324=some (1,false)
def CU:Ua Tryz.prog:=by
 (repeat' apply aa)<;>kernel_rfl
abbrev Ub(P:Program):Prop:=fB P 325 (.ptr none)/\bT P 327=some (1,false)/\bT P 328=some (1,false)/\bT P 329=some (1,false)/\fB P 330 (.ptr none)/\bT P 331=some (1,false)/\bT P 332=some (1,false)/\bT P 333=some (1,false)/\bT P 334=some (1,false)/\bT P 335=some (1,false)/\bT P 336=some (1,false)/\fS P 337 4 [.ptr none,.ptr none,.ptr none,.str []]/\aT P 337 0=some (0,17,1)/\aT P 337 1=some (1,17,1)/\aT P 337 2=some (2,17,1)/\aT P 337 3=some (3,9,1)/\fS P 338 4 [.ptr none,.ptr none,.ptr none,.str []]/\aT P 338 0=some (0,17,1)/\aT P 338 1=some (1,17,1)/\aT P 338 2=some (2,17,1)/\aT P 338 3=some (3,9,1)/\fA P 339 0 0 16 1 (.ptr none)/\fS P 340 0 []/\aT P 340 0=some (0,339,0)/\fS P 341 0 []/\aT P 341 0=some (0,339,0)
def CW:Ub Tryz.prog:=by
 (repeat' apply aa)<;>kernel_rfl
abbrev Uc(P:Program):Prop:=fI P 342 .u8/\fI P 343 .u8/\bT P 344=some (1,false)/\fB P 345 (.ptr none)/\fI P 346 .i32/\fI P 347 .i32/\fS P 348 11 [.int .u64 0,.int .u64 0,.int .u32 0,.int .u8 0,.int .u8 0,.int .u8 0,.int .u8 0,.fp,.ptr none,.int .i32 0,.int .i32 0]/\aT P 348 0=some (0,12,1)/\aT P 348 1=some (1,12,1)/\aT P 348 2=some (2,259,1)/\aT P 348 3=some (3,342,1)/\aT P 348 4=some (4,5,1)/\aT P 348 5=some (5,5,1)/\aT P 348 6=some (6,343,1)/\aT P 348 7=some (7,344,1)/\aT P 348 8=some (8,345,1)/\aT P 348 9=some (9,346,1)/\aT P 348 10=some (10,347,1)/\fS P 349 11 [.int .u64 0,.int .u64 0,.int .u32 0,.int .u8 0,.int .u8 0,.int .u8 0,.int .u8 0,.fp,.ptr none,.int .i32 0,.int .i32 0]/\aT P 349 0=some (0,12,1)/\aT P 349 1=some (1,12,1)/\aT P 349 2=some (2,259,1)/\aT P 349 3=some (3,342,1)/\aT P 349 4=some (4,5,1)/\aT P 349 5=some (5,5,1)/\aT P 349 6=some (6,343,1)/\aT P 349 7=some (7,344,1)/\aT P 349 8=some (8,345,1)/\aT P 349 9=some (9,346,1)/\aT P 349 10=some (10,347,1)
def CX:Uc Tryz.prog:=by
 (repeat' apply aa)<;>kernel_rfl
abbrev Ud(P:Program):Prop:=fI P 350 .i64/\bT P 351=some (1,false)/\bT P 353=some (1,false)/\fS P 354 2 [.str [],.int .u8 0]/\aT P 354 0=some (0,9,1)/\aT P 354 1=some (1,343,1)/\fS P 355 2 [.str [],.int .u8 0]/\aT P 355 0=some (0,9,1)/\aT P 355 1=some (1,343,1)
def CY:Ud Tryz.prog:=by
 (repeat' apply aa)<;>kernel_rfl
def aw:type_of% HA/\type_of% HB/\type_of% HC/\type_of% HD/\type_of% HE/\type_of% HF/\type_of% HG/\type_of% HH/\type_of% HI/\type_of% HJ/\type_of% CP/\type_of% CQ/\type_of% CR/\type_of% CS/\type_of% CT/\type_of% CU/\type_of% CW/\type_of% CX/\type_of% CY:=⟨HA,HB,HC,HD,HE,HF,HG,HH,HI,HJ,CP,CQ,CR,CS,CT,CU,CW,CX,CY⟩
end Go.Proofs
