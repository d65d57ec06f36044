/- Lemmas of this claim, each with its conditions. -/
import Derived.Test.YtchdmmkclcnmnaaGreatA10
set_option linter.all false
open Option (bind_eq_some_iff)
open Nat (beq blt)
open Option renaming bind_some -> aa, map_some -> a9
open Nat renaming beq_refl -> ac, lt_of_lt_of_le -> ad, zero_le -> af, mul_le_mul_right -> ap, le_trans -> ay, lt_irrefl -> a0, lt_succ_self -> a1, le_succ_of_le -> a7, min_eq_left -> ba, zero_add -> bd
open List renaming getElem?_set_self -> aj, getElem?_set_ne -> ax, getElem?_eq_none -> a3, length_map -> a4, drop_drop -> a5, drop_take -> a6, map_nil -> bb, take_take -> bc
open Bool renaming and_self -> a8
namespace Go.Ev
section
variable {θ θ':Nat->Loc} {ρ ρ0:kg} {P:Program}
mutual
def VS.ids(hθ:∀p,(θ' p).id=(θ p).id):∀{v:SV} {x:AV},VS θ ρ v x->VS θ' ρ v x
 | .any,_,_=>by rw[VS];trivial
 | .a v,x,h=>by rw[VS] at h ⊢;exact h
 | .sl n e cs,x,h=>by rw[VS] at h ⊢;exact h
 | .im ks vs,x,h=>by rw[VS] at h ⊢;exact h
 | .ip cs,x,h=>by rw[VS] at h ⊢;exact h
 | .ptr p _,_,h=>by rw[VS] at h ⊢;rw[hθ p];exact h
 | .map p,_,h=>by rw[VS] at h ⊢;rw[hθ p];exact h
 | .buf p _ _ _,_,h=>by rw[VS] at h ⊢;rw[hθ p];exact h
 | .sub p _ _ _ _,_,h=>by rw[VS] at h ⊢;rw[hθ p];exact h
 | .e0 e,x,h=>by rw[VS] at h ⊢;exact h
 | .ag cs,x,h=>by rw[VS] at h ⊢;obtain⟨aS,h1,h2⟩:=h;exact⟨aS,h1,c7.ids hθ h2⟩
 | .bE cs,x,h=>by rw[VS] at h ⊢;obtain⟨aS,h1,h2⟩:=h;exact⟨aS,h1,c7.ids hθ h2⟩
 | .fn g f c,x,h=>by rw[VS] at h ⊢;obtain⟨xs,ys,h1,h2,h3⟩:=h;exact⟨xs,ys,h1,c7.ids hθ h2,c7.ids hθ h3⟩
 | .iface t v,x,h=>by rw[VS] at h ⊢;obtain⟨y,h1,h2⟩:=h;exact⟨y,h1,VS.ids hθ h2⟩
def c7.ids(hθ:∀p,(θ' p).id=(θ p).id):∀{ds:List SV} {aS:List AV},c7 θ ρ ds aS->c7 θ' ρ ds aS
 | [],aS,h=>by rw[aQ] at h ⊢;exact h
 | d::ds,aS,h=>by
  rw[aK] at h ⊢;obtain⟨a,r,h1,h2,h3⟩:=h;exact⟨a,r,h1,VS.ids hθ h2,c7.ids hθ h3⟩
end
def je{o:Nat}(hθ:∀p,p≠o->θ' p=θ p){v:SV}{x:AV}(h:VS θ ρ v x):VS θ' ρ (bf o v) x:=by
 unfold bf;cases hn:names o v
 ·exact h.uu hθ hn
 ·rw[ai,VS];trivial
def c7.map{g:SV->SV}(hg:∀v x,VS θ ρ v x->VS θ' ρ (g v) x):∀{ds:List SV} {aS:List AV},c7 θ ρ ds aS->c7 θ' ρ (ds.map g) aS
 | [],aS,h=>by rw[aQ] at h;rw[bb,aQ];exact h
 | d::ds,aS,h=>by
  rw[aK] at h;rw[List.map_cons,aK];obtain⟨a,r,h1,h2,h3⟩:=h;exact⟨a,r,h1,hg _ _ h2,c7.map hg h3⟩
def my(o:Nat):∀(f:Fm) (i:Nat),aX (dJ o f) i=bf o (aX f i)
 | [],i=>rfl
 | (d,v)::f,i=>by
  show(if d=i then bf o v else aX (dJ o f) i)=bf o (if d=i then v else aX f i);rw[my o f i];by_cases h:d=i
  ·rw[ul h,ul h]
  ·rw[un h,un h]
def sG(g:SV->SV):SO->SO
 | .cells cs=>.cells (cs.map g)
 | .map ks vs b=>.map ks (vs.map g) b
 | .iter m bs c pos=>.iter (g m) bs c pos
 | .oL ks vs bs c pos=>.oL ks vs bs c pos
 | .gone=>.gone
 | .loop c ls p f=>.loop c ls p (f.map λq=>(q.1,g q.2))
 | .ox N=>.ox N
def BT(g:SV->SV):∀(f:Fm) (i:Nat),aX (f.map λq=>(q.1,g q.2)) i=g (aX f i)\/aX (f.map λq=>(q.1,g q.2)) i=.any
 | [],i=>.inr rfl
 | (d,v)::f,i=>by
  show(if d=i then g v else aX (f.map λq=>(q.1,g q.2)) i)=g (if d=i then v else aX f i)\/(if d=i then g v else aX (f.map λq=>(q.1,g q.2)) i)=.any;by_cases h:d=i
  ·rw[ul h,ul h];exact .inl rfl
  ·rw[un h,un h];exact BT g f i
def N3(o:Nat):bQ o=sG (bf o):=by funext so;cases so<;>rfl
def tL(so:SO):sG (λv=>v) so=so:=by cases so<;>simp[sG]
def Ch{g:SV->SV}{so:SO}(h:sG g so≠.gone):so≠.gone:=by intro e;subst e;exact h rfl
def nj.map{g:SV->SV}(hg:∀v x,VS θ ρ v x->VS θ' ρ (g v) x){h h':H}{L:Loc}{so:SO}(hx:nj θ ρ h L so)(ho:h'.aR.get L.id=h.aR.get L.id)(hf:h'.dE.get L.cg=h.dE.get L.cg):nj θ' ρ h' L (sG g so):=by
 cases so with
 | cells cs=>obtain⟨aS,h1,h2,h3⟩:=hx;exact⟨aS,by rw[ho];exact h1,h2.map hg,by rw[hf];exact h3⟩
 | map ks vs b=>obtain⟨l,c,h1,h2,h3⟩:=hx;exact⟨l,c,by rw[ho];exact h1,h2,h3.map hg⟩
 | iter m bs c pos=>obtain⟨kY,h1,h2⟩:=hx;exact⟨kY,hg _ _ h1,by rw[ho];exact h2⟩
 | oL ks vs bs c pos=>obtain⟨kY,l,h1,h2,h3,h4⟩:=hx;exact⟨kY,l,h1,h2,h3,by rw[ho];exact h4⟩
 | gone=>trivial
 | loop c ls p f=>
  obtain⟨h1,h2,h3⟩:=hx;refine⟨h1,by rw[ho];exact h2,λi hi=>?_⟩
  rcases BT g f i with e | e
  ·rw[e];exact hg _ _ (h3 i hi)
  ·rw[e,VS];trivial
 | ox N=>exact⟨hx.1,by rw[ho];exact hx.2⟩
def uP.symm{L M:Loc}(h:uP L M):uP M L:=⟨h.xx.symm,h.yx.symm,h.xy.symm,h.yy.symm,h.f.symm⟩
def EV.mono{b:En}{n m:Nat}{L:Loc}(h:EV b n L)(hn:n<=m):EV b m L:=⟨h.e,⟨h.x.1,by have:=h.x.2;omega⟩,⟨h.y.1,by have:=h.y.2;omega⟩,⟨h.f.1,by have:=h.f.2;omega⟩⟩
def gP(θ:Nat->Loc)(o:Nat)(L:Loc):Nat->Loc:=λp=>if p=o then L else θ p
def cC(θ:Nat->Loc)(o:Nat)(L:Loc):gP θ o L o=L:=ul rfl
def bW(θ:Nat->Loc){o p:Nat}(L:Loc)(h:p≠o):gP θ o L p=θ p:=un h
def RS.AU{h0:En}{h h':H}{S S':List SO}{o:Nat}{so':SO}{L':Loc}{g:SV->SV}(hR:RS θ ρ0 ρ h0 h S)(hnx:h.next<=h'.next)(hob0:∀j,h0.pr j->h'.aR.get j=h.aR.get j)(hfm0:∀j,h0.pf j->h'.dE.get j=h.dE.get j)(hlw:h0.lo<=h'.low)(hln:h'.low<=h'.next)(hL:EV h0 h'.next L')
 (hg:∀v x,VS θ ρ v x->VS (gP θ o L') ρ (g v) x)
 (hob:∀p so,p≠o->S[p]?=some so->so≠.gone->h'.aR.get (θ p).id=h.aR.get (θ p).id/\h'.dE.get (θ p).cg=h.dE.get (θ p).cg/\uP (θ p) L')
 (hrow:∀id ob,ρ id=some ob->h'.aR.get id=h.aR.get id/\id≠L'.x/\id≠L'.y)
 (hnew:nj (gP θ o L') ρ h' L' so') (hS:∀p,p≠o->S'[p]?=(S[p]?).map (sG g)) (hSo:S'[o]?=some so'):RS (gP θ o L') ρ0 ρ h0 h' S':=by
 have other:∀p so,p≠o->S'[p]?=some so->so≠.gone->∃s,S[p]?=some s/\s≠.gone/\so=sG g s:=by
  intro p so hp h1 h2;rw[hS p hp] at h1;obtain⟨s,hs,rfl⟩:=aq h1;exact⟨s,hs,Ch h2,rfl⟩
 refine⟨hR.ok,ay hR.nx hnx,λj hj=>(hob0 j hj).trans (hR.ob j hj),λj hj=>(hfm0 j hj).trans (hR.fm j hj),hlw,hln,?_,?_,?_,hR.mB⟩
 ·intro p so h1 h2;by_cases hp:p=o
  ·subst hp;rw[hSo] at h1;cases h1;rw[cC];exact⟨hL,hnew⟩
  ·obtain⟨s,hs,hsg,rfl⟩:=other p so hp h1 h2;rw[bW _ _ hp];obtain⟨k1,k2⟩:=hR.obj p s hs hsg;obtain⟨q1,q2,_⟩:=hob p s hp hs hsg;exact⟨k1.mono hnx,k2.map hg q1 q2⟩
 ·intro p q so so' hpq h1 h2 h3 h4;by_cases hp:p=o
  ·subst hp;obtain⟨s,hs,hsg,rfl⟩:=other q so' (λe=>hpq e.symm) h3 h4;rw[cC,bW _ _ (λe=>hpq e.symm)];exact(hob q s (λe=>hpq e.symm) hs hsg).2.2.symm
  ·obtain⟨s,hs,hsg,rfl⟩:=other p so hp h1 h2;rw[bW _ _ hp];by_cases hq:q=o
   ·subst hq;rw[cC];exact(hob p s hp hs hsg).2.2
   ·obtain⟨s',hs',hsg',rfl⟩:=other q so' hq h3 h4;rw[bW _ _ hq];exact hR.sep p q s s' hpq hs hsg hs' hsg'
 ·intro id ob hi;obtain⟨k1,k2,k3⟩:=hR.row id ob hi;obtain⟨q1,q2,q3⟩:=hrow id ob hi;refine⟨ad k1 hnx,by rw[q1];exact k2,?_⟩;intro p so h1 h2;by_cases hp:p=o
  ·subst hp;rw[cC];exact⟨q2,q3⟩
  ·obtain⟨s,hs,hsg,rfl⟩:=other p so hp h1 h2;rw[bW _ _ hp];exact k3 p s hs hsg
def bD{α:Type}{l:List α}{i:Nat}{x:α}(h:l[i]?=some x):i<l.length:=(List.getElem?_eq_some_iff.1 h).1
def rj(o:Nat)(S:List SO)(p:Nat):(dB o S)[p]?=(S[p]?).map (sG (bf o)):=by
 unfold dB;rw[N3,List.getElem?_map]
def RS.new{h0:En}{h:H}{S:List SO}{so:SO}{ob:AO}(hR:RS θ ρ0 ρ h0 h S)(hob:(∃cs aS,so=.cells cs/\ob=.cells aS h.next/\c7 θ ρ cs aS)\/(so=.map [] [] none/\ob=.map [] 0)):
 RS (gP θ S.length ⟨h.next,h.next,h.next,h.next⟩) ρ0 ρ h0 { h.lay h.next ob with next:=h.next+1 } (gO S so)/\∀v x,VS θ ρ v x->VS (gP θ S.length ⟨h.next,h.next,h.next,h.next⟩) ρ (bf S.length v) x:=by
 have hg:∀v x,VS θ ρ v x->VS (gP θ S.length ⟨h.next,h.next,h.next,h.next⟩) ρ (bf S.length v) x:=λv x hv=>je (λp hp=>bW _ _ hp) hv;refine⟨?_,hg⟩;have hb:=hR.nx;have hpr:∀j,h0.pr j->j<h.next:=λj hj=>ad (hR.ok.pr j hj) hb;have hpf:∀j,h0.pf j->j<h.next:=λj hj=>ad (hR.ok.pf j hj) hb
 have hobj:∀j,j<h.next->({ h.lay h.next ob with next:=h.next+1 }:H).aR.get j=h.aR.get j:=by
  intro j hj
  rcases hob with⟨cs,aS,_,rfl,_⟩ | ⟨_,rfl⟩<;>exact bm _ _ (by omega)
 have hfam:∀j,j<h.next->({ h.lay h.next ob with next:=h.next+1 }:H).dE.get j=h.dE.get j:=by
  intro j hj
  rcases hob with⟨cs,aS,_,rfl,_⟩ | ⟨_,rfl⟩
  ·exact bm _ _ (by omega)
  ·rfl
 have hlow:({ h.lay h.next ob with next:=h.next+1 }:H).low=h.low:=by
  rcases hob with⟨cs,aS,_,rfl,_⟩ | ⟨_,rfl⟩<;>rfl
 refine hR.AU (g:=bf S.length) (so':=bQ S.length so) (by show h.next<=h.next+1;omega) (λj hj=>hobj j (hpr j hj)) (λj hj=>hfam j (hpf j hj)) (by rw[hlow];exact hR.lw) (by rw[hlow];exact a7 hR.ln) ⟨.inl rfl,⟨λhj=>a0 _ (hpr _ hj),a1 _⟩,⟨λhj=>a0 _ (hpr _ hj),a1 _⟩,⟨λhj=>a0 _ (hpf _ hj),a1 _⟩⟩ hg ?_ ?_ ?_ ?_ ?_
 ·intro p s hp hs hsg;obtain⟨⟨k1,k2,k3,k4⟩,_⟩:=hR.obj p s hs hsg;refine⟨hobj _ (by rcases k1 with e | e<;>omega),hfam _ k4.2,⟨?_,?_,?_,?_,?_⟩⟩<;>(simp only;omega)
 ·intro id ob' hi;have:=(hR.row id ob' hi).1;exact⟨hobj id this,by simp only;omega,by simp only;omega⟩
 ·rcases hob with⟨cs,aS,rfl,rfl,hv⟩ | ⟨rfl,rfl⟩
  ·exact⟨aS,cX _ _ _,hv.map hg,cX _ _ _⟩
  ·exact⟨[],0,cX _ _ _,⟨rfl,⟨List.nodup_nil,λe he=>by simp at he⟩,λp hp=>by cases hp⟩,by rw[bb,bb,aQ]⟩
 ·intro p hp;unfold gO
  have hl:(dB S.length S).length=S.length:=by unfold dB;rw[a4]
  rw[List.getElem?_append];split
  ·exact rj _ _ _
  ·rename_i hlt;rw[hl] at hlt ⊢;have:S[p]?=none:=a3 (by omega);rw[this,a3 (by simp;omega)];rfl
 ·unfold gO
  have hl:(dB S.length S).length=S.length:=by unfold dB;rw[a4]
  rw[List.getElem?_append_right (by omega),hl,Nat.sub_self];rfl
def o7{h:H}{id cg x y:Nat}(hf:h.dE.get cg=some (x,y)){j:Nat}(hj:j≠cg):(h.alone id cg).dE.get j=h.dE.get j:=by
 unfold H.alone;rw[hf];simp only;cases beq x id&&beq y id
 ·exact bm _ _ hj
 ·rfl
def nI{a b c:Nat}(h1:c<=a)(h2:c<=b):c<=gw a b:=by
 unfold gw;cases Nat.ble a b
 ·exact h2
 ·exact h1
def BF{h:H}{id cg x y b:Nat}(hf:h.dE.get cg=some (x,y))(hx:b<=x)(hy:b<=y)(hb:b<=h.low)(hn:h.low<=h.next):b<=(h.alone id cg).low/\(h.alone id cg).low<=h.next:=by
 unfold H.alone;rw[hf];simp only;cases beq x id&&beq y id
 ·exact⟨nI hb (nI hx hy),ay (dR _ _).1 hn⟩
 ·exact⟨hb,hn⟩
def RS.store{h0:En}{h:H}{S:List SO}{o:Nat}{cs vs:List SV}{off:Nat}{xs:List AV}(hR:RS θ ρ0 ρ h0 h S)(hS:S[o]?=some (.cells cs))(hv:c7 θ ρ vs xs)(hone:xs.all jZ=true)(hle:off+vs.length<=cs.length):
 ∃h',h.store (θ o).id off xs=some h'/\RS (gP θ o ⟨(θ o).id,(θ o).cg,(θ o).id,(θ o).id⟩) ρ0 ρ h0 h' (S.set o (.cells (cs.take off++(vs++cs.drop (off+vs.length)))))/\∀v x,VS θ ρ v x->VS (gP θ o ⟨(θ o).id,(θ o).cg,(θ o).id,(θ o).id⟩) ρ v x:=by
 have hg:∀v x,VS θ ρ v x->VS (gP θ o ⟨(θ o).id,(θ o).cg,(θ o).id,(θ o).id⟩) ρ v x:=λv x hv=>hv.ids λp=>by
  by_cases hp:p=o
  ·subst hp;rw[cC]
  ·rw[bW _ _ hp]
 obtain⟨⟨k1,k2,k3,k4⟩,aS,q1,q2,q3⟩:=hR.obj o _ hS (λh=>by cases h);have a2:(h.alone (θ o).id (θ o).cg).next=h.next:=(sg (Z:=0) (id:=(θ o).id) q3 (af _) (af _) (af _)).2;have px:∀j,h0.pr j->j≠(θ o).x:=λj hj e=>k2.1 (e▸hj);have py:∀j,h0.pr j->j≠(θ o).y:=λj hj e=>k3.1 (e▸hj)
 have pi:∀j,h0.pr j->j≠(θ o).id:=λj hj=>by rcases k1 with e | e<;>rw[e];exact px j hj;exact py j hj
 have pfm:∀j,h0.pf j->j≠(θ o).cg:=λj hj e=>k4.1 (e▸hj)
 have lid:h0.lo<=(θ o).id:=by rcases k1 with e | e<;>rw[e];exact hR.ok.lo _ k2.1;exact hR.ok.lo _ k3.1
 have hidn:(θ o).id<h.next:=by rcases k1 with e | e<;>rw[e];exact k2.2;exact k3.2
 have al:=BF (id:=(θ o).id) q3 (hR.ok.lo _ k2.1) (hR.ok.lo _ k3.1) hR.lw hR.ln;have hl:=q2.length;have hlx:=hv.length;refine⟨{ h.alone (θ o).id (θ o).cg with aR:=(h.alone (θ o).id (θ o).cg).aR.put (θ o).id (some (.cells (aS.take off++(xs++aS.drop (off+xs.length))) (θ o).cg)),low:=gw (h.alone (θ o).id (θ o).cg).low (θ o).id },?_,?_,hg⟩
 ·unfold H.store;rw[q1];simp only;rw[eN (show off+xs.length<=aS.length by omega),hone];rfl
 ·refine hR.AU (g:=λv=>v) (so':=.cells (cs.take off++(vs++cs.drop (off+vs.length)))) (by show h.next<=(h.alone _ _).next;omega) (λj hj=>?_) (λj hj=>o7 q3 (pfm j hj)) (nI al.1 lid) ?_ ⟨.inl rfl,⟨λhj=>pi _ hj rfl,?_⟩,⟨λhj=>pi _ hj rfl,?_⟩,⟨k4.1,?_⟩⟩ hg ?_ ?_ ?_ ?_ ?_
  ·show(Tr.put _ _ _).get j=_;rw[bm _ _ (pi j hj)];exact kG q3 (px j hj) (py j hj)
  ·show gw (h.alone _ _).low _<=(h.alone _ _).next;rw[a2];exact ay (dR _ _).1 al.2
  ·show(θ o).id<(h.alone _ _).next;rw[a2];exact hidn
  ·show(θ o).id<(h.alone _ _).next;rw[a2];exact hidn
  ·show(θ o).cg<(h.alone _ _).next;rw[a2];exact k4.2
  ·intro p s hp hs hsg;have sp:=hR.sep p o s _ hp hs hsg hS (λh=>by cases h);obtain⟨⟨j1,j2,j3,j4⟩,_⟩:=hR.obj p s hs hsg
   have e1:(θ p).id≠(θ o).x:=by rcases j1 with e | e<;>rw[e];exact sp.xx;exact sp.yx
   have e2:(θ p).id≠(θ o).y:=by rcases j1 with e | e<;>rw[e];exact sp.xy;exact sp.yy
   refine⟨?_,o7 q3 sp.f,⟨?_,?_,?_,?_,sp.f⟩⟩
   ·show(Tr.put _ _ _).get _=_;rw[bm _ _ (by rcases k1 with e | e<;>rw[e]<;>assumption)];exact kG q3 e1 e2
   ·simp only;rcases k1 with e | e<;>rw[e];exact sp.xx;exact sp.xy
   ·simp only;rcases k1 with e | e<;>rw[e];exact sp.xx;exact sp.xy
   ·simp only;rcases k1 with e | e<;>rw[e];exact sp.yx;exact sp.yy
   ·simp only;rcases k1 with e | e<;>rw[e];exact sp.yx;exact sp.yy
  ·intro id ob hi;obtain⟨_,_,r3⟩:=hR.row id ob hi;obtain⟨e1,e2⟩:=r3 o _ hS (λh=>by cases h)
   have e3:id≠(θ o).id:=by rcases k1 with e | e<;>rw[e]<;>assumption
   refine⟨?_,e3,e3⟩;show(Tr.put _ _ _).get _=_;rw[bm _ _ e3];exact kG q3 e1 e2
  ·refine⟨_,cX _ _ _,?_,BE q3⟩
   have hw:c7 θ ρ (cs.take off++(vs++cs.drop (off+vs.length))) (aS.take off++(xs++aS.drop (off+xs.length))):=by
    rw[hlx];exact(q2.take off).app (hv.app (q2.drop (off+vs.length)))
   have:=hw.map hg;rw[List.map_id'] at this;exact this
  ·intro p hp;rw[ax (λe=>hp e.symm)]
   cases S[p]? with
   | none=>rfl
   | some s=>rw[a9,tL]
  ·rw[aj (bD hS)]
def RS.Mb{h0:En}{h:H}{S:List SO}{o:Nat}{ks ks':List AV}{vs vs':List SV}{l':List (AV×AV×Nat)}{c':Nat}{b b':Option (List Nat×Nat)}(hR:RS θ ρ0 ρ h0 h S)(hS:S[o]?=some (.map ks vs b))(h1:PE l' c' ks' b')(h2:c7 θ ρ vs' (l'.map (·.2.1))):
 RS θ ρ0 ρ h0 (h.set (θ o).id (.map l' c')) (S.set o (.map ks' vs' b')):=by
 obtain⟨⟨k1,k2,k3,k4⟩,l,c,q1,q2,q3⟩:=hR.obj o _ hS (λh=>by cases h)
 have heq:gP θ o (θ o)=θ:=by
  funext p;unfold gP;split
  ·rename_i e;rw[e]
  ·rfl
 have hg:∀v x,VS θ ρ v x->VS (gP θ o (θ o)) ρ v x:=λv x hv=>by rw[heq];exact hv
 have pi:∀j,h0.pr j->j≠(θ o).id:=λj hj e=>by rcases k1 with e' | e'<;>rw[e'] at e;exact k2.1 (e▸hj);exact k3.1 (e▸hj)
 have lid:h0.lo<=(θ o).id:=by rcases k1 with e | e<;>rw[e];exact hR.ok.lo _ k2.1;exact hR.ok.lo _ k3.1
 have:=hR.AU (g:=λv=>v) (h':=h.set (θ o).id (.map l' c')) (S':=S.set o (.map ks' vs' b')) (so':=.map ks' vs' b') (L':=θ o) (Nat.le_refl _) (λj hj=>bm _ _ (pi j hj)) (λj hj=>rfl) (nI hR.lw lid) (ay (dR _ _).1 hR.ln) ⟨k1,k2,k3,k4⟩ hg ?_ ?_ ?_ ?_ ?_
 ·rw[heq] at this;exact this
 ·intro p s hp hs hsg;have sp:=hR.sep p o s _ hp hs hsg hS (λh=>by cases h);obtain⟨⟨j1,j2,j3,j4⟩,_⟩:=hR.obj p s hs hsg;refine⟨bm _ _ ?_,rfl,sp⟩
  rcases j1 with e | e<;>rcases k1 with e' | e'<;>rw[e,e']
  ·exact sp.xx
  ·exact sp.xy
  ·exact sp.yx
  ·exact sp.yy
 ·intro id ob hi;obtain⟨_,_,r3⟩:=hR.row id ob hi;obtain⟨e1,e2⟩:=r3 o _ hS (λh=>by cases h);exact⟨bm _ _ (by rcases k1 with e | e<;>rw[e]<;>assumption),e1,e2⟩
 ·rw[heq];exact⟨l',c',cX _ _ _,h1,h2⟩
 ·intro p hp;rw[ax (λe=>hp e.symm)]
  cases S[p]? with
  | none=>rfl
  | some s=>rw[a9,tL]
 ·rw[aj (bD hS)]
def RS.fork{h0:En}{h:H}{S:List SO}{o n:Nat}{cs vs:List SV}{xs aS:List AV}(hR:RS θ ρ0 ρ h0 h S)(hS:S[o]?=some (.cells cs))(hv:c7 θ ρ vs xs)(has:h.aR.get (θ o).id=some (.cells aS (θ o).cg))(hle:n<=cs.length):
 (h.alone (θ o).id (θ o).cg).next=h.next/\RS (gP θ o ⟨h.next,(θ o).cg,(θ o).id,h.next⟩) ρ0 ρ h0 (h.eC (θ o).id (θ o).cg (aS.take n) ((aS.drop 0).take n++xs)) ((dB o S).set o (bQ o (.cells (cs.take n++vs))))/\∀v x,VS θ ρ v x->VS (gP θ o ⟨h.next,(θ o).cg,(θ o).id,h.next⟩) ρ (bf o v) x:=by
 have hg:∀v x,VS θ ρ v x->VS (gP θ o ⟨h.next,(θ o).cg,(θ o).id,h.next⟩) ρ (bf o v) x:=λv x hv=>je (λp hp=>bW _ _ hp) hv;obtain⟨⟨k1,k2,k3,k4⟩,as',q1,q2,q3⟩:=hR.obj o _ hS (λh=>by cases h);rw[has] at q1;cases q1;have a2:(h.alone (θ o).id (θ o).cg).next=h.next:=(sg (Z:=0) (id:=(θ o).id) q3 (af _) (af _) (af _)).2;have px:∀j,h0.pr j->j≠(θ o).x:=λj hj e=>k2.1 (e▸hj);have py:∀j,h0.pr j->j≠(θ o).y:=λj hj e=>k3.1 (e▸hj)
 have pi:∀j,h0.pr j->j≠(θ o).id:=λj hj=>by rcases k1 with e | e<;>rw[e];exact px j hj;exact py j hj
 have pfm:∀j,h0.pf j->j≠(θ o).cg:=λj hj e=>k4.1 (e▸hj)
 have lid:h0.lo<=(θ o).id:=by rcases k1 with e | e<;>rw[e];exact hR.ok.lo _ k2.1;exact hR.ok.lo _ k3.1
 have hidn:(θ o).id<h.next:=by rcases k1 with e | e<;>rw[e];exact k2.2;exact k3.2
 have al:=BF (id:=(θ o).id) q3 (hR.ok.lo _ k2.1) (hR.ok.lo _ k3.1) hR.lw hR.ln;have hid:(θ o).id<h.next:=hidn;have hb:=hR.nx;have hprn:∀j,h0.pr j->j<h.next:=λj hj=>ad (hR.ok.pr j hj) hb;refine⟨a2,?_,hg⟩;refine hR.AU (g:=bf o) (so':=bQ o (.cells (cs.take n++vs))) (by show h.next<=(h.alone _ _).next+1;omega) (λj hj=>?_) (λj hj=>?_) ?_ ?_ ⟨.inr rfl,⟨λhj=>pi _ hj rfl,?_⟩,⟨λhj=>a0 _ (hprn _ hj),?_⟩,⟨k4.1,?_⟩⟩ hg ?_ ?_ ?_ ?_ ?_
 ·simp only[H.eC];rw[a2,bm _ _ (by have:=hprn j hj;omega),bm _ _ (pi j hj)];exact kG q3 (px j hj) (py j hj)
 ·simp only[H.eC];rw[bm _ _ (pfm j hj)];exact o7 q3 (pfm j hj)
 ·simp only[H.eC];exact nI al.1 lid
 ·simp only[H.eC];rw[a2];exact a7 (ay (dR _ _).1 al.2)
 ·simp only[H.eC,a2];omega
 ·simp only[H.eC,a2];omega
 ·simp only[H.eC,a2];have:=k4.2;omega
 ·intro p s hp hs hsg;have sp:=hR.sep p o s _ hp hs hsg hS (λh=>by cases h);obtain⟨⟨j1,j2,j3,j4⟩,_⟩:=hR.obj p s hs hsg
  have e1:(θ p).id≠(θ o).x:=by rcases j1 with e | e<;>rw[e];exact sp.xx;exact sp.yx
  have e2:(θ p).id≠(θ o).y:=by rcases j1 with e | e<;>rw[e];exact sp.xy;exact sp.yy
  have e3:(θ p).id<h.next:=by rcases j1 with e | e<;>omega
  refine⟨?_,?_,⟨?_,?_,?_,?_,sp.f⟩⟩
  ·simp only[H.eC];rw[a2,bm _ _ (by omega),bm _ _ (by rcases k1 with e | e<;>rw[e]<;>assumption)];exact kG q3 e1 e2
  ·simp only[H.eC];rw[bm _ _ sp.f];exact o7 q3 sp.f
  ·simp only;rcases k1 with e | e<;>rw[e];exact sp.xx;exact sp.xy
  ·simp only;omega
  ·simp only;rcases k1 with e | e<;>rw[e];exact sp.yx;exact sp.yy
  ·simp only;omega
 ·intro id ob hi;obtain⟨r1,_,r3⟩:=hR.row id ob hi;obtain⟨e1,e2⟩:=r3 o _ hS (λh=>by cases h)
  have e3:id≠(θ o).id:=by rcases k1 with e | e<;>rw[e]<;>assumption
  refine⟨?_,e3,by simp only;omega⟩;simp only[H.eC];rw[a2,bm _ _ (by omega),bm _ _ e3];exact kG q3 e1 e2
 ·refine⟨_,?_,((q2.take n).app hv).map hg,?_⟩
  ·simp only[H.eC];rw[a2,cX,List.drop_zero]
  ·simp only[H.eC];rw[cX,a2]
 ·intro p hp;rw[ax (λe=>hp e.symm)];exact rj _ _ _
 ·rw[aj (by unfold dB;rw[a4];exact bD hS)]
end
section
variable {θ θ':Nat->Loc} {ρ ρ0:kg} {P:Program}
def GO{h0:En}{h:H}{S:List SO}(hR:RS θ ρ0 ρ h0 h S){id:Nat}{row:List AV}(hr:pJ ρ id=some row):rT h.aR id=some row:=by
 unfold pJ at hr
 cases ho:ρ id with
 | none=>rw[ho] at hr;cases hr
 | some ob=>
  have:=(hR.row id ob ho).2.1;rw[ho] at hr;unfold rT;rw[this]
  cases ob<;>first | exact hr | (cases hr;done)
def F5{h0:En}{h:H}{S:List SO}(hR:RS θ ρ0 ρ h0 h S){tt:TypeId}{a:SV}{x:AV}(ha:VS θ ρ a x){v:SV}(hl:tI P S tt a=some v):∃y,Dy P h tt (some x)=some y/\VS θ ρ v y:=by
 unfold tI at hl;split at hl
 ·rename_i o off;rw[VS] at ha;subst ha;split at hl
  ·rename_i cs hS;obtain⟨_,aS,q1,q2,_⟩:=hR.obj o _ hS (λh=>by cases h);obtain⟨y,k1,k2⟩:=tV q2 hl;exact⟨y,by rw[Cd,Cc (aS:=aS) (by unfold rT;rw[q1];rfl)];exact k1,k2⟩
  ·cases hl
 ·rename_i cs;rw[VS,GS] at ha;obtain⟨id,off,row,r,rfl,h2,h3,h4⟩:=ha;obtain⟨y,k1,k2⟩:=tV (h4.vs (θ:=θ)) hl;refine⟨y,?_,k2⟩;rw[Cd,Cc (GO hR h2)];have:=Mn h3 k1;rw[Nat.add_zero] at this;exact this
 ·cases hl
def MB{h0:En}{h:H}{S S':List SO}(hR:RS θ ρ0 ρ h0 h S){tt:TypeId}{a v:SV}{x y:AV}(ha:VS θ ρ a x)(hv:VS θ ρ v y)(hs:Am P S tt a v=some S'):
 ∃h' θ',D5 P h tt (some x) (some y)=some h'/\RS θ' ρ0 ρ h0 h' S'/\∀v x,VS θ ρ v x->VS θ' ρ v x:=by
 unfold Am at hs;split at hs
 ·rename_i o off;rw[VS] at ha;subst ha;split at hs
  ·rename_i cs hS;obtain⟨⟨n,_⟩,hq,hs⟩:=bind_eq_some_iff.1 hs;obtain⟨vs,hvs,hs⟩:=bind_eq_some_iff.1 hs;obtain⟨⟨b1,b2,b3⟩,hs⟩:=cy hs;cases hs;have hn:=(uI hq).2;simp only at b1 b2 hn;have kv:=uZ hv hvs;subst b1;obtain⟨h',e1,e2,e3⟩:=hR.store hS kv (mn kv b3) b2;refine⟨h',_,?_,e2,e3⟩;rw[I7];unfold H.storeVar;rw[hn,aa,kv.length,ac,ai];exact e1
  ·cases hs
 ·cases hs
def Qx{P:Program}{t:Tr AV}{h:H}{nm:String}{first cap:Array Operand}:eg P t h (.makeFunc (.method nm) first cap)=((xm t first.toList).bind λa=>(xm t cap.toList).map λb=>AV.fn (.method nm) a b).map λv=>[(some v,h)]:=rfl
def Ql{v w:SV}{x:AV}(hv:VS θ ρ v x)(h:cN P v=some w):oR P x=some x/\w=v:=by
 cases v with
 | ptr o off=>simp only[cN,Option.some.injEq] at h;rw[VS] at hv;subst hv;exact⟨rfl,h.symm⟩
 | ip cs=>simp only[cN,Option.some.injEq] at h;rw[VS,GS] at hv;obtain⟨id,off,row,r,rfl,_⟩:=hv;exact⟨rfl,h.symm⟩
 | fn g a b=>simp only[cN,Option.some.injEq] at h;rw[VS] at hv;obtain⟨xs,ys,rfl,_⟩:=hv;exact⟨rfl,h.symm⟩
 | sl n e cs=>simp only[cN,Option.some.injEq] at h;rw[VS,GS] at hv;rcases hv with⟨_,_,o,e',c,rfl,_,_⟩ | ⟨id,off,cap,row,rfl,_⟩<;>exact⟨rfl,h.symm⟩
 | buf o n e c=>simp only[cN,Option.some.injEq] at h;rw[VS] at hv;subst hv;exact⟨rfl,h.symm⟩
 | sub o off n e c=>simp only[cN,Option.some.injEq] at h;rw[VS] at hv;subst hv;exact⟨rfl,h.symm⟩
 | e0 e=>simp only[cN,Option.some.injEq] at h;rw[VS] at hv;obtain⟨o,e',rfl,_⟩:=hv;exact⟨rfl,h.symm⟩
 | a u=>
  unfold cN at h;split at h
  case h_8 hu=>
   cases hu;obtain⟨g,hg,rfl⟩:=aq h;rw[VS] at hv;subst hv;refine⟨?_,rfl⟩;unfold oR;simp only[hg,a9]
  all_goals first | (cases h;done) | (rename_i hu;cases hu;done)
 | _=>simp[cN] at h
def Lq{a b:Nat}(h:a<b):Nat.blt a b=true:=by rw[Nat.blt_eq];exact h
def Kw{cs:List SV}{x:AV}{k:Nat}(hv:GS ρ (.ip cs) x)(hk:k<=cs.length):∃id off row,x=.ptr (some (id,off))/\pJ ρ id=some row/\GS ρ (.ip (cs.drop k)) (.ptr (some (id,off+k))):=by
 rw[GS] at hv;obtain⟨id,off,row,r,rfl,h2,h3,h4⟩:=hv;refine⟨id,off,row,rfl,h2,?_⟩;have hl:=h4.length;rw[List.length_take,List.length_drop] at hl;rw[GS];refine⟨id,off+k,row,r-k,rfl,h2,by omega,?_⟩;have:=h4.drop k;rw[a6,a5] at this;exact this
def A3{s:TypeId}{v w:SV}{x:AV}{fl:Nat}(hv:VS θ ρ v x)(h:mH P s v fl=some w):∃y,jr P s x fl=some y/\VS θ ρ w y:=by
 unfold mH at h;obtain⟨q,hq,h⟩:=bind_eq_some_iff.1 h;obtain⟨hn0,h⟩:=cy h;obtain⟨fs,fd,hu,_,hfd,hn,e1,_⟩:=vl hq
 have hb:beq q.2.2 0=false:=by
  cases hb:beq q.2.2 0
  ·rfl
  ·exact t8 (cU hb) hn0
 cases v with
 | ptr o off=>
  simp only at h;cases h;rw[VS] at hv;subst hv;unfold jr;rw[hu];simp only;rw[hfd,aa,hn,aa,hb,an,e1];exact⟨_,rfl,by rw[VS]⟩
 | ip cs=>
  simp only at h;obtain⟨hk,h⟩:=cy h;cases h;rw[VS] at hv;obtain⟨id,off,row,rfl,_,h2⟩:=Kw hv hk;unfold jr;rw[hu];simp only;rw[hfd,aa,hn,aa,hb,an,e1];exact⟨_,rfl,by rw[VS];exact h2⟩
 | _=>simp at h
def LL{s:TypeId}{v w:SV}{x:AV}{fl:Nat}(hv:VS θ ρ v x)(h:vk P s v fl=some w):∃y,vi P s x fl=some y/\VS θ ρ w y:=by
 cases v with
 | ag cs=>
  simp only[vk] at h;rw[VS] at hv;obtain⟨aS,rfl,hv⟩:=hv;obtain⟨q,hq,h⟩:=bind_eq_some_iff.1 h;obtain⟨fs,fd,hu,_,hfd,hn,e1,e2⟩:=vl hq;obtain⟨y,k1,k2⟩:=tV hv h;unfold vi;rw[hu];simp only;rw[hfd,aa,e1,e2];exact⟨y,k1,k2⟩
 | _=>simp[vk] at h
def DD{v:SV}{x:AV}{i:Nat}(hv:VS θ ρ v x)(h:IM v=some i):di x=some i:=by
 cases v with
 | a v=>rw[VS] at hv;subst hv;exact h
 | _=>simp[IM] at h
def A6{t:TypeId}{v w iv:SV}{x ix:AV}(hv:VS θ ρ v x)(hi:VS θ ρ iv ix)(h:mL P t v iv=some w):∃y,kL P t x ix=some y/\VS θ ρ w y:=by
 unfold mL at h;obtain⟨i,hin,h2⟩:=bind_eq_some_iff.1 h;clear h;unfold kL;rw[DD hi hin,aa]
 cases har:QZ P t with
 | some q=>
  rw[har] at h2;simp only at h2;obtain⟨hu,hs⟩:=E4 har;obtain⟨hlt,h⟩:=cy h2;rw[hu];have hlb:blt i q.1=true:=Lq hlt
  cases v with
  | ptr o off=>
   simp only at h;cases h;rw[VS] at hv;subst hv;simp only;rw[hs,aa,hlb,ai];exact⟨_,rfl,by rw[VS]⟩
  | ip cs=>
   simp only at h;obtain⟨hk,h⟩:=cy h;cases h;rw[VS] at hv;obtain⟨id,off,row,rfl,_,h2⟩:=Kw hv hk;simp only;rw[hs,aa,hlb,ai];exact⟨_,rfl,by rw[VS];exact h2⟩
  | _=>simp at h
 | none=>
  rw[har] at h2;simp only at h2;obtain⟨q,hq,h⟩:=bind_eq_some_iff.1 h2;obtain⟨hu,hs⟩:=gu hq;obtain⟨e,s⟩:=q;simp only at hu hs h;rw[hu]
  cases v with
  | sl n es cs=>
   simp only at h;obtain⟨⟨hlt,hse⟩,h⟩:=cy h;cases h;subst hse;have hlb:blt i n=true:=Lq hlt;rw[VS,GS] at hv
   rcases hv with⟨h1,_⟩ | ⟨id,off,cap,row,rfl,h2,h3,h4⟩
   ·omega
   ·simp only;rw[hs,aa,hlb,ac,a8,ai];refine⟨_,rfl,?_⟩
    have hms:i*s+s<=n*s:=by
     have:=ap s (show i+1<=n by omega);rw[Nat.succ_mul] at this;exact this
    rw[VS,GS];refine⟨id,off+i*s,row,s,rfl,h2,by omega,?_⟩;have:=(h4.drop (i*s)).take s;rw[a6,a5,bc,ba (by omega)] at this;exact this
  | buf o n es c=>
   simp only at h;obtain⟨⟨hlt,hse⟩,h⟩:=cy h;cases h;subst hse;have hlb:blt i n=true:=Lq hlt;rw[VS] at hv;subst hv;simp only;rw[hs,aa,hlb,ac,a8,ai];exact⟨_,rfl,by rw[VS,bd]⟩
  | sub o off n es c=>
   simp only at h;obtain⟨⟨hlt,hse⟩,h⟩:=cy h;cases h;subst hse;have hlb:blt i n=true:=Lq hlt;rw[VS] at hv;subst hv;simp only;rw[hs,aa,hlb,ac,a8,ai];exact⟨_,rfl,by rw[VS]⟩
  | _=>simp at h
def LR{t:TypeId}{v w iv:SV}{x ix:AV}(hv:VS θ ρ v x)(hi:VS θ ρ iv ix)(h:yQ P t v iv=some w):∃y,vr P t x ix=some y/\VS θ ρ w y:=by
 unfold yQ at h;obtain⟨i,hin,h2⟩:=bind_eq_some_iff.1 h;clear h;unfold vr;rw[DD hi hin,aa]
 cases v with
 | ag cs=>
  simp only at h2;obtain⟨q,hq,h⟩:=bind_eq_some_iff.1 h2;obtain⟨hu,hs⟩:=E4 hq;obtain⟨hlt,h⟩:=cy h;rw[hu];rw[VS] at hv;obtain⟨aS,rfl,hv⟩:=hv;simp only;rw[hs,aa,Lq hlt,ai];exact tV hv h
 | a v=>
  cases v with
  | str s=>
   simp only at h2
   cases hk:iM P t with
   | str=>
    rw[hk] at h2;simp only at h2;rw[yZ hk];rw[VS] at hv;subst hv;simp only;obtain⟨b,hb,rfl⟩:=aq h2;rw[hb];exact⟨_,rfl,by rw[VS]⟩
   | _=>rw[hk] at h2;cases h2
  | _=>simp at h2
 | _=>simp at h2
def MA{h:H}{t:TypeId}{v w:SV}{x:AV}{lo hi mx:Option AV}(hv:VS θ ρ v x)(h1:gl P t v lo hi mx=some w):∃y,vQ P h t x lo hi mx=some y/\VS θ ρ w y:=by
 unfold gl at h1;unfold vQ;split at h1
 ·rename_i s hk;rw[yZ hk];rw[VS] at hv;subst hv
  cases mx with
  | some _=>cases h1
  | none=>
   simp only at h1 ⊢;obtain⟨b,hb,rfl⟩:=aq h1;rw[hb];exact⟨_,rfl,by rw[VS]⟩
 ·rename_i n es cs hk
  cases mx with
  | some m=>
   simp only at h1;obtain⟨⟨e,s⟩,hq,h1⟩:=bind_eq_some_iff.1 h1;obtain⟨hu,hs⟩:=gu hq;simp only at hu hs h1;rw[hu];obtain⟨⟨rfl,h2,h3,h4⟩,h5⟩:=cy h1;cases h5;subst h4;obtain⟨hv0,rfl,h2⟩:=bind_eq_some_iff.1 h2
   have hb:∀cap,cQ n cap none (some hv0) (some m)=some (0,0,some 0):=by
    intro cap;unfold cQ;simp only;have h2':di hv0=some 0:=h2
    have hf:oH n cap 0=true:=by unfold oH;rw[eN (af n)];rfl
    rw[h3,aa,hf,ai,h2'];rfl
   rw[VS,GS] at hv
   rcases hv with⟨rfl,rfl,o,e',c,rfl,ho,hoe⟩ | ⟨id,off,cap,row,rfl,h6,h7,h8⟩
   ·simp only;rw[hs,aa,hb,aa];simp only
    cases o with
    | none=>exact⟨_,rfl,by rw[VS];exact⟨none,0,rfl,λh=>t8 rfl h⟩⟩
    | some q=>
     obtain⟨id,off⟩:=q;rw[hoe (by simp)];simp only;rw[ac,ai];exact⟨_,rfl,by rw[VS];exact⟨_,_,rfl,λ_=>rfl⟩⟩
   ·simp only;rw[hs,aa,hb,aa];simp only;rw[ac,ai];exact⟨_,rfl,by rw[VS];exact⟨_,_,rfl,λ_=>rfl⟩⟩
  | none=>
   simp only at h1;obtain⟨⟨e,s⟩,hq,h1⟩:=bind_eq_some_iff.1 h1;obtain⟨hu,hs⟩:=gu hq;simp only at hu hs;rw[hu];obtain⟨⟨l,hh,m⟩,hb,h1⟩:=bind_eq_some_iff.1 h1;obtain⟨hse,h1⟩:=cy h1;cases h1;simp only at hse;subst hse
   have hbd:∀cap,(cQ n cap lo hi none=some (l,hh,cap))/\l<=hh/\hh<=n:=by
    intro cap;unfold cQ at hb ⊢;simp only at hb ⊢;obtain⟨q,hq,hb⟩:=bind_eq_some_iff.1 hb
    have hq2:nC n cap hi=some q/\q<=n:=by
     cases hi with
     | none=>simp only[nC,Option.some.injEq] at hq ⊢;exact⟨hq,by omega⟩
     | some hv=>
      simp only[nC] at hq ⊢;obtain⟨k,hk,hq⟩:=bind_eq_some_iff.1 hq;obtain⟨hf,hq⟩:=aL hq;cases hq;simp only[oH,Bool.or_false] at hf;rw[hk,aa];unfold oH;rw[hf,Bool.true_or,ai];exact⟨rfl,jq hf⟩
    rw[hq2.1,aa]
    cases lo with
    | none=>simp only[Option.some.injEq,Prod.mk.injEq] at hb ⊢;obtain⟨rfl,rfl,_⟩:=hb;exact⟨by simp,af _,hq2.2⟩
    | some lv=>
     simp only at hb ⊢;obtain⟨k,hk,hb⟩:=bind_eq_some_iff.1 hb;obtain⟨hf,hb⟩:=aL hb;simp only[Option.some.injEq,Prod.mk.injEq] at hb;obtain⟨rfl,rfl,_⟩:=hb;rw[hk,aa,hf,ai];exact⟨by simp,jq hf,hq2.2⟩
   rw[VS,GS] at hv
   rcases hv with⟨rfl,rfl,o,e',c,rfl,ho,hoe⟩ | ⟨id,off,cap,row,rfl,h2,h3,h4⟩
   ·obtain⟨b1,b2,b3⟩:=hbd c
    have hl0:l=0:=by omega
    have hh0:hh=0:=by omega
    subst hl0;subst hh0;simp only;rw[hs,aa,b1,aa];simp only
    cases o with
    | none=>
     exact⟨_,rfl,by rw[VS,GS];exact .inl ⟨rfl,by simp,none,0,some 0,rfl,λ_=>rfl,λh=>t8 rfl h⟩⟩
    | some q=>
     obtain⟨id,off⟩:=q;rw[hoe (by simp)];simp only;rw[ac,ai];exact⟨_,rfl,by rw[VS,GS];exact .inl ⟨rfl,by simp,_,_,_,rfl,λh=>(by cases h),λ_=>rfl⟩⟩
   ·obtain⟨b1,b2,b3⟩:=hbd cap;simp only;rw[hs,aa,b1,aa];simp only;rw[ac,ai];refine⟨_,rfl,?_⟩;rw[VS,GS];have m1:l*s<=hh*s:=ap s b2;have m2:hh*s<=n*s:=ap s b3;refine .inr ⟨id,off+l*s,aU cap l,row,rfl,h2,by rw[Nat.sub_mul];omega,?_⟩;have:=(h4.drop (l*s)).take ((hh-l)*s);rw[a6,a5,bc,ba (by rw[Nat.sub_mul];omega)] at this;exact this
 ·rename_i o n es c hk
  cases mx with
  | some _=>cases h1
  | none=>
   simp only at h1;obtain⟨⟨e,s⟩,hq,h1⟩:=bind_eq_some_iff.1 h1;obtain⟨hu,hs⟩:=gu hq;simp only at hu hs;rw[hu];obtain⟨⟨l,hh,m⟩,hb,h1⟩:=bind_eq_some_iff.1 h1;obtain⟨hse,h1⟩:=cy h1;cases h1;simp only at hse;subst hse;rw[VS] at hv;subst hv;simp only;rw[hs,aa,hb,aa];simp only;rw[ac,ai]
   cases lo with
   | none=>
    have hl0:l=0:=by
     unfold cQ at hb;simp only at hb;obtain⟨q,hq,hb⟩:=bind_eq_some_iff.1 hb;simp only[Option.some.injEq,Prod.mk.injEq] at hb;exact hb.1.symm
    subst hl0;exact⟨_,rfl,by rw[VS,Nat.zero_mul]⟩
   | some _=>exact⟨_,rfl,by rw[VS,bd]⟩
 ·rename_i o off n es c hk
  cases mx with
  | some _=>cases h1
  | none=>
   simp only at h1;obtain⟨⟨e,s⟩,hq,h1⟩:=bind_eq_some_iff.1 h1;obtain⟨hu,hs⟩:=gu hq;simp only at hu hs;rw[hu];obtain⟨⟨l,hh,m⟩,hb,h1⟩:=bind_eq_some_iff.1 h1;obtain⟨hse,h1⟩:=cy h1;cases h1;simp only at hse;subst hse;rw[VS] at hv;subst hv;simp only;rw[hs,aa,hb,aa];simp only;rw[ac,ai];exact⟨_,rfl,by rw[VS]⟩
 ·rename_i hk;obtain⟨⟨e,s⟩,hq,h1⟩:=bind_eq_some_iff.1 h1;obtain⟨hu,hs⟩:=gu hq;simp only at hu hs;rw[hu];obtain⟨⟨l,hh,m⟩,hb,rfl⟩:=aq h1;rw[VS] at hv;subst hv;simp only;rw[hs,aa,hb,aa];exact⟨_,rfl,by rw[VS]⟩
 ·rename_i e0 hk;obtain⟨⟨e,s⟩,hq,h1⟩:=bind_eq_some_iff.1 h1;obtain⟨hu,hs⟩:=gu hq;simp only at hu hs;rw[hu];obtain⟨⟨l,hh,m⟩,hb,h1⟩:=bind_eq_some_iff.1 h1;obtain⟨⟨hl0,hh0,hm0,hse⟩,h5⟩:=cy h1;clear h1;cases h5;simp only at hse;subst hl0;subst hh0;subst hm0;subst hse;rw[VS] at hv;obtain⟨o,e',rfl,hoe⟩:=hv;simp only;rw[hs,aa,hb,aa];simp only
  cases o with
  | none=>exact⟨_,rfl,by rw[VS];exact⟨none,0,rfl,λh=>t8 rfl h⟩⟩
  | some q=>
   obtain⟨id,off⟩:=q;rw[hoe (by simp)];simp only;rw[ac,ai];exact⟨_,rfl,by rw[VS];exact⟨_,_,rfl,λ_=>rfl⟩⟩
 ·cases h1
end
end Go.Ev
