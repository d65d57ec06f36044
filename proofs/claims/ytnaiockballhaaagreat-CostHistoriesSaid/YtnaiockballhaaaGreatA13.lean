/- A part of the texts of this claim: every theorem says what it proves, with its conditions. -/
import Derived.Test.YtnaiockballhaaaGreatA12
set_option linter.unusedSimpArgs false
set_option linter.unusedVariables false
set_option linter.unusedSectionVars false
open Option (bind_some bind_eq_some_iff map_some)
open Nat (beq_refl zero_le beq blt le_trans lt_irrefl)
open List (drop_drop drop_take length_map map_nil)
namespace Go.Ev
section
variable {θ θ':Nat->Loc} {ρ ρ0:jP} {P:Program}
mutual
theorem VS.ids(hθ:∀p,(θ' p).id=(θ p).id):∀{v:SV} {x:AV},VS θ ρ v x->VS θ' ρ v x
 | .any,_,_=>by rw[VS];trivial
 | .a v,x,h=>by rw[VS] at h ⊢;exact h
 | .sl n e cs,x,h=>by rw[VS] at h ⊢;exact h
 | .im ks vs,x,h=>by rw[VS] at h ⊢;exact h
 | .ip cs,x,h=>by rw[VS] at h ⊢;exact h
 | .ptr p _,_,h=>by rw[VS] at h ⊢;rw[hθ p];exact h
 | .map p,_,h=>by rw[VS] at h ⊢;rw[hθ p];exact h
 | .buf p _ _ _,_,h=>by rw[VS] at h ⊢;rw[hθ p];exact h
 | .sub p _ _ _ _,_,h=>by rw[VS] at h ⊢;rw[hθ p];exact h
 | .e0 e,x,h=>by rw[VS] at h ⊢;exact h
 | .ag cs,x,h=>by rw[VS] at h ⊢;obtain⟨aS,h1,h2⟩:=h;exact⟨aS,h1,c8.ids hθ h2⟩
 | .bI cs,x,h=>by rw[VS] at h ⊢;obtain⟨aS,h1,h2⟩:=h;exact⟨aS,h1,c8.ids hθ h2⟩
 | .fn g f c,x,h=>by rw[VS] at h ⊢;obtain⟨xs,ys,h1,h2,h3⟩:=h;exact⟨xs,ys,h1,c8.ids hθ h2,c8.ids hθ h3⟩
 | .iface t v,x,h=>by rw[VS] at h ⊢;obtain⟨y,h1,h2⟩:=h;exact⟨y,h1,VS.ids hθ h2⟩
theorem c8.ids(hθ:∀p,(θ' p).id=(θ p).id):∀{ds:List SV} {aS:List AV},c8 θ ρ ds aS->c8 θ' ρ ds aS
 | [],aS,h=>by rw[bg] at h ⊢;exact h
 | d::ds,aS,h=>by
  rw[aL] at h ⊢;obtain⟨a,r,h1,h2,h3⟩:=h;exact⟨a,r,h1,VS.ids hθ h2,c8.ids hθ h3⟩
end
theorem iD{o:Nat}(hθ:∀p,p≠o->θ' p=θ p){v:SV}{x:AV}(h:VS θ ρ v x):VS θ' ρ (bf o v) x:=by
 unfold bf;cases hn:names o v
 ·exact h.tg hθ hn
 ·rw[ah,VS];trivial
theorem c8.map{g:SV->SV}(hg:∀v x,VS θ ρ v x->VS θ' ρ (g v) x):∀{ds:List SV} {aS:List AV},c8 θ ρ ds aS->c8 θ' ρ (ds.map g) aS
 | [],aS,h=>by rw[bg] at h;rw[map_nil,bg];exact h
 | d::ds,aS,h=>by
  rw[aL] at h;rw[List.map_cons,aL];obtain⟨a,r,h1,h2,h3⟩:=h;exact⟨a,r,h1,hg _ _ h2,c8.map hg h3⟩
theorem lG(o:Nat):∀(f:Fm) (i:Nat),aR (dz o f) i=bf o (aR f i)
 | [],i=>rfl
 | (d,v)::f,i=>by
  show(if d=i then bf o v else aR (dz o f) i)=bf o (if d=i then v else aR f i);rw[lG o f i];by_cases h:d=i
  ·rw[if_pos h,if_pos h]
  ·rw[if_neg h,if_neg h]
def rh(g:SV->SV):SO->SO
 | .cells cs=>.cells (cs.map g)
 | .map ks vs b=>.map ks (vs.map g) b
 | .iter m bs c pos=>.iter (g m) bs c pos
 | .rI ks vs bs c pos=>.rI ks vs bs c pos
 | .gone=>.gone
 | .loop c ls p f=>.loop c ls p (f.map λq=>(q.1,g q.2))
 | .ni N=>.ni N
theorem Ay(g:SV->SV):∀(f:Fm) (i:Nat),aR (f.map λq=>(q.1,g q.2)) i=g (aR f i)\/aR (f.map λq=>(q.1,g q.2)) i=.any
 | [],i=>.inr rfl
 | (d,v)::f,i=>by
  show(if d=i then g v else aR (f.map λq=>(q.1,g q.2)) i)=g (if d=i then v else aR f i)\/(if d=i then g v else aR (f.map λq=>(q.1,g q.2)) i)=.any;by_cases h:d=i
  ·rw[if_pos h,if_pos h];exact .inl rfl
  ·rw[if_neg h,if_neg h];exact Ay g f i
theorem LQ(o:Nat):bP o=rh (bf o):=by funext so;cases so<;>rfl
theorem sz(so:SO):rh (λv=>v) so=so:=by cases so<;>simp[rh]
theorem AY{g:SV->SV}{so:SO}(h:rh g so≠.gone):so≠.gone:=by intro e;subst e;exact h rfl
theorem mu.map{g:SV->SV}(hg:∀v x,VS θ ρ v x->VS θ' ρ (g v) x){h h':H}{L:Loc}{so:SO}(hx:mu θ ρ h L so)(ho:h'.aQ.get L.id=h.aQ.get L.id)(hf:h'.dA.get L.bZ=h.dA.get L.bZ):mu θ' ρ h' L (rh g so):=by
 cases so with
 | cells cs=>obtain⟨aS,h1,h2,h3⟩:=hx;exact⟨aS,by rw[ho];exact h1,h2.map hg,by rw[hf];exact h3⟩
 | map ks vs b=>obtain⟨l,c,h1,h2,h3⟩:=hx;exact⟨l,c,by rw[ho];exact h1,h2,h3.map hg⟩
 | iter m bs c pos=>obtain⟨kn,h1,h2⟩:=hx;exact⟨kn,hg _ _ h1,by rw[ho];exact h2⟩
 | rI ks vs bs c pos=>obtain⟨kn,l,h1,h2,h3,h4⟩:=hx;exact⟨kn,l,h1,h2,h3,by rw[ho];exact h4⟩
 | gone=>trivial
 | loop c ls p f=>
  obtain⟨h1,h2,h3⟩:=hx;refine⟨h1,by rw[ho];exact h2,λi hi=>?_⟩
  rcases Ay g f i with e | e
  ·rw[e];exact hg _ _ (h3 i hi)
  ·rw[e,VS];trivial
 | ni N=>exact⟨hx.1,by rw[ho];exact hx.2⟩
theorem wB.symm{L M:Loc}(h:wB L M):wB M L:=⟨h.xx.symm,h.yx.symm,h.xy.symm,h.yy.symm,h.f.symm⟩
theorem Df.mono{b:En}{n m:Nat}{L:Loc}(h:Df b n L)(hn:n<=m):Df b m L:=⟨h.e,⟨h.x.1,by have:=h.x.2;omega⟩,⟨h.y.1,by have:=h.y.2;omega⟩,⟨h.f.1,by have:=h.f.2;omega⟩⟩
def gj(θ:Nat->Loc)(o:Nat)(L:Loc):Nat->Loc:=λp=>if p=o then L else θ p
theorem cz(θ:Nat->Loc)(o:Nat)(L:Loc):gj θ o L o=L:=if_pos rfl
theorem bY(θ:Nat->Loc){o p:Nat}(L:Loc)(h:p≠o):gj θ o L p=θ p:=if_neg h
theorem RS.yU{h0:En}{h h':H}{S S':List SO}{o:Nat}{so':SO}{L':Loc}{g:SV->SV}(hR:RS θ ρ0 ρ h0 h S)(hnx:h.next<=h'.next)(hob0:∀j,h0.pr j->h'.aQ.get j=h.aQ.get j)(hfm0:∀j,h0.pf j->h'.dA.get j=h.dA.get j)(hlw:h0.lo<=h'.low)(hln:h'.low<=h'.next)(hL:Df h0 h'.next L')
 (hg:∀v x,VS θ ρ v x->VS (gj θ o L') ρ (g v) x)
 (hob:∀p so,p≠o->S[p]?=some so->so≠.gone->h'.aQ.get (θ p).id=h.aQ.get (θ p).id/\h'.dA.get (θ p).bZ=h.dA.get (θ p).bZ/\wB (θ p) L')
 (hrow:∀id ob,ρ id=some ob->h'.aQ.get id=h.aQ.get id/\id≠L'.x/\id≠L'.y)
 (hnew:mu (gj θ o L') ρ h' L' so') (hS:∀p,p≠o->S'[p]?=(S[p]?).map (rh g)) (hSo:S'[o]?=some so'):RS (gj θ o L') ρ0 ρ h0 h' S':=by
 have other:∀p so,p≠o->S'[p]?=some so->so≠.gone->∃s,S[p]?=some s/\s≠.gone/\so=rh g s:=by
  intro p so hp h1 h2;rw[hS p hp] at h1;obtain⟨s,hs,rfl⟩:=au h1;exact⟨s,hs,AY h2,rfl⟩
 refine⟨hR.ok,le_trans hR.nx hnx,λj hj=>(hob0 j hj).trans (hR.ob j hj),λj hj=>(hfm0 j hj).trans (hR.fm j hj),hlw,hln,?_,?_,?_,hR.lJ⟩
 ·intro p so h1 h2;by_cases hp:p=o
  ·subst hp;rw[hSo] at h1;cases h1;rw[cz];exact⟨hL,hnew⟩
  ·obtain⟨s,hs,hsg,rfl⟩:=other p so hp h1 h2;rw[bY _ _ hp];obtain⟨k1,k2⟩:=hR.obj p s hs hsg;obtain⟨q1,q2,_⟩:=hob p s hp hs hsg;exact⟨k1.mono hnx,k2.map hg q1 q2⟩
 ·intro p q so so' hpq h1 h2 h3 h4;by_cases hp:p=o
  ·subst hp;obtain⟨s,hs,hsg,rfl⟩:=other q so' (λe=>hpq e.symm) h3 h4;rw[cz,bY _ _ (λe=>hpq e.symm)];exact(hob q s (λe=>hpq e.symm) hs hsg).2.2.symm
  ·obtain⟨s,hs,hsg,rfl⟩:=other p so hp h1 h2;rw[bY _ _ hp];by_cases hq:q=o
   ·subst hq;rw[cz];exact(hob p s hp hs hsg).2.2
   ·obtain⟨s',hs',hsg',rfl⟩:=other q so' hq h3 h4;rw[bY _ _ hq];exact hR.sep p q s s' hpq hs hsg hs' hsg'
 ·intro id ob hi;obtain⟨k1,k2,k3⟩:=hR.row id ob hi;obtain⟨q1,q2,q3⟩:=hrow id ob hi;refine⟨Nat.lt_of_lt_of_le k1 hnx,by rw[q1];exact k2,?_⟩;intro p so h1 h2;by_cases hp:p=o
  ·subst hp;rw[cz];exact⟨q2,q3⟩
  ·obtain⟨s,hs,hsg,rfl⟩:=other p so hp h1 h2;rw[bY _ _ hp];exact k3 p s hs hsg
theorem bl{α:Type}{l:List α}{i:Nat}{x:α}(h:l[i]?=some x):i<l.length:=(List.getElem?_eq_some_iff.1 h).1
theorem qh(o:Nat)(S:List SO)(p:Nat):(dq o S)[p]?=(S[p]?).map (rh (bf o)):=by
 unfold dq;rw[LQ,List.getElem?_map]
theorem RS.new{h0:En}{h:H}{S:List SO}{so:SO}{ob:AO}(hR:RS θ ρ0 ρ h0 h S)(hob:(∃cs aS,so=.cells cs/\ob=.cells aS h.next/\c8 θ ρ cs aS)\/(so=.map [] [] none/\ob=.map [] 0)):
 RS (gj θ S.length ⟨h.next,h.next,h.next,h.next⟩) ρ0 ρ h0 { h.lay h.next ob with next:=h.next+1 } (gi S so)/\∀v x,VS θ ρ v x->VS (gj θ S.length ⟨h.next,h.next,h.next,h.next⟩) ρ (bf S.length v) x:=by
 have hg:∀v x,VS θ ρ v x->VS (gj θ S.length ⟨h.next,h.next,h.next,h.next⟩) ρ (bf S.length v) x:=λv x hv=>iD (λp hp=>bY _ _ hp) hv;refine⟨?_,hg⟩;have hb:=hR.nx;have hpr:∀j,h0.pr j->j<h.next:=λj hj=>Nat.lt_of_lt_of_le (hR.ok.pr j hj) hb;have hpf:∀j,h0.pf j->j<h.next:=λj hj=>Nat.lt_of_lt_of_le (hR.ok.pf j hj) hb
 have hobj:∀j,j<h.next->({ h.lay h.next ob with next:=h.next+1 }:H).aQ.get j=h.aQ.get j:=by
  intro j hj
  rcases hob with⟨cs,aS,_,rfl,_⟩ | ⟨_,rfl⟩<;>exact bj _ _ (by omega)
 have hfam:∀j,j<h.next->({ h.lay h.next ob with next:=h.next+1 }:H).dA.get j=h.dA.get j:=by
  intro j hj
  rcases hob with⟨cs,aS,_,rfl,_⟩ | ⟨_,rfl⟩
  ·exact bj _ _ (by omega)
  ·rfl
 have hlow:({ h.lay h.next ob with next:=h.next+1 }:H).low=h.low:=by
  rcases hob with⟨cs,aS,_,rfl,_⟩ | ⟨_,rfl⟩<;>rfl
 refine hR.yU (g:=bf S.length) (so':=bP S.length so) (by show h.next<=h.next+1;omega) (λj hj=>hobj j (hpr j hj)) (λj hj=>hfam j (hpf j hj)) (by rw[hlow];exact hR.lw) (by rw[hlow];exact Nat.le_succ_of_le hR.ln) ⟨.inl rfl,⟨λhj=>lt_irrefl _ (hpr _ hj),Nat.lt_succ_self _⟩,⟨λhj=>lt_irrefl _ (hpr _ hj),Nat.lt_succ_self _⟩,⟨λhj=>lt_irrefl _ (hpf _ hj),Nat.lt_succ_self _⟩⟩ hg ?_ ?_ ?_ ?_ ?_
 ·intro p s hp hs hsg;obtain⟨⟨k1,k2,k3,k4⟩,_⟩:=hR.obj p s hs hsg;refine⟨hobj _ (by rcases k1 with e | e<;>omega),hfam _ k4.2,⟨?_,?_,?_,?_,?_⟩⟩<;>(simp only;omega)
 ·intro id ob' hi;have:=(hR.row id ob' hi).1;exact⟨hobj id this,by simp only;omega,by simp only;omega⟩
 ·rcases hob with⟨cs,aS,rfl,rfl,hv⟩ | ⟨rfl,rfl⟩
  ·exact⟨aS,cR _ _ _,hv.map hg,cR _ _ _⟩
  ·exact⟨[],0,cR _ _ _,⟨rfl,⟨List.nodup_nil,λe he=>by simp at he⟩,λp hp=>by cases hp⟩,by rw[map_nil,map_nil,bg]⟩
 ·intro p hp;unfold gi
  have hl:(dq S.length S).length=S.length:=by unfold dq;rw[length_map]
  rw[List.getElem?_append];split
  ·exact qh _ _ _
  ·rename_i hlt;rw[hl] at hlt ⊢;have:S[p]?=none:=List.getElem?_eq_none (by omega);rw[this,List.getElem?_eq_none (by simp;omega)];rfl
 ·unfold gi
  have hl:(dq S.length S).length=S.length:=by unfold dq;rw[length_map]
  rw[List.getElem?_append_right (by omega),hl,Nat.sub_self];rfl
theorem nR{h:H}{id bZ x y:Nat}(hf:h.dA.get bZ=some (x,y)){j:Nat}(hj:j≠bZ):(h.alone id bZ).dA.get j=h.dA.get j:=by
 unfold H.alone;rw[hf];simp only;cases beq x id&&beq y id
 ·exact bj _ _ hj
 ·rfl
theorem mL{a b c:Nat}(h1:c<=a)(h2:c<=b):c<=gh a b:=by
 unfold gh;cases Nat.ble a b
 ·exact h2
 ·exact h1
theorem Aj{h:H}{id bZ x y b:Nat}(hf:h.dA.get bZ=some (x,y))(hx:b<=x)(hy:b<=y)(hb:b<=h.low)(hn:h.low<=h.next):b<=(h.alone id bZ).low/\(h.alone id bZ).low<=h.next:=by
 unfold H.alone;rw[hf];simp only;cases beq x id&&beq y id
 ·exact⟨mL hb (mL hx hy),le_trans (dM _ _).1 hn⟩
 ·exact⟨hb,hn⟩
theorem RS.store{h0:En}{h:H}{S:List SO}{o:Nat}{cs vs:List SV}{off:Nat}{xs:List AV}(hR:RS θ ρ0 ρ h0 h S)(hS:S[o]?=some (.cells cs))(hv:c8 θ ρ vs xs)(hone:xs.all j7=true)(hle:off+vs.length<=cs.length):
 ∃h',h.store (θ o).id off xs=some h'/\RS (gj θ o ⟨(θ o).id,(θ o).bZ,(θ o).id,(θ o).id⟩) ρ0 ρ h0 h' (S.set o (.cells (cs.take off++(vs++cs.drop (off+vs.length)))))/\∀v x,VS θ ρ v x->VS (gj θ o ⟨(θ o).id,(θ o).bZ,(θ o).id,(θ o).id⟩) ρ v x:=by
 have hg:∀v x,VS θ ρ v x->VS (gj θ o ⟨(θ o).id,(θ o).bZ,(θ o).id,(θ o).id⟩) ρ v x:=λv x hv=>hv.ids λp=>by
  by_cases hp:p=o
  ·subst hp;rw[cz]
  ·rw[bY _ _ hp]
 obtain⟨⟨k1,k2,k3,k4⟩,aS,q1,q2,q3⟩:=hR.obj o _ hS (λh=>by cases h);have a2:(h.alone (θ o).id (θ o).bZ).next=h.next:=(qW (Z:=0) (id:=(θ o).id) q3 (zero_le _) (zero_le _) (zero_le _)).2;have px:∀j,h0.pr j->j≠(θ o).x:=λj hj e=>k2.1 (e▸hj);have py:∀j,h0.pr j->j≠(θ o).y:=λj hj e=>k3.1 (e▸hj)
 have pi:∀j,h0.pr j->j≠(θ o).id:=λj hj=>by rcases k1 with e | e<;>rw[e];exact px j hj;exact py j hj
 have pfm:∀j,h0.pf j->j≠(θ o).bZ:=λj hj e=>k4.1 (e▸hj)
 have lid:h0.lo<=(θ o).id:=by rcases k1 with e | e<;>rw[e];exact hR.ok.lo _ k2.1;exact hR.ok.lo _ k3.1
 have hidn:(θ o).id<h.next:=by rcases k1 with e | e<;>rw[e];exact k2.2;exact k3.2
 have al:=Aj (id:=(θ o).id) q3 (hR.ok.lo _ k2.1) (hR.ok.lo _ k3.1) hR.lw hR.ln;have hl:=q2.length;have hlx:=hv.length;refine⟨{ h.alone (θ o).id (θ o).bZ with aQ:=(h.alone (θ o).id (θ o).bZ).aQ.put (θ o).id (some (.cells (aS.take off++(xs++aS.drop (off+xs.length))) (θ o).bZ)),low:=gh (h.alone (θ o).id (θ o).bZ).low (θ o).id },?_,?_,hg⟩
 ·unfold H.store;rw[q1];simp only;rw[ek (show off+xs.length<=aS.length by omega),hone];rfl
 ·refine hR.yU (g:=λv=>v) (so':=.cells (cs.take off++(vs++cs.drop (off+vs.length)))) (by show h.next<=(h.alone _ _).next;omega) (λj hj=>?_) (λj hj=>nR q3 (pfm j hj)) (mL al.1 lid) ?_ ⟨.inl rfl,⟨λhj=>pi _ hj rfl,?_⟩,⟨λhj=>pi _ hj rfl,?_⟩,⟨k4.1,?_⟩⟩ hg ?_ ?_ ?_ ?_ ?_
  ·show(Tr.put _ _ _).get j=_;rw[bj _ _ (pi j hj)];exact jQ q3 (px j hj) (py j hj)
  ·show gh (h.alone _ _).low _<=(h.alone _ _).next;rw[a2];exact le_trans (dM _ _).1 al.2
  ·show(θ o).id<(h.alone _ _).next;rw[a2];exact hidn
  ·show(θ o).id<(h.alone _ _).next;rw[a2];exact hidn
  ·show(θ o).bZ<(h.alone _ _).next;rw[a2];exact k4.2
  ·intro p s hp hs hsg;have sp:=hR.sep p o s _ hp hs hsg hS (λh=>by cases h);obtain⟨⟨j1,j2,j3,j4⟩,_⟩:=hR.obj p s hs hsg
   have e1:(θ p).id≠(θ o).x:=by rcases j1 with e | e<;>rw[e];exact sp.xx;exact sp.yx
   have e2:(θ p).id≠(θ o).y:=by rcases j1 with e | e<;>rw[e];exact sp.xy;exact sp.yy
   refine⟨?_,nR q3 sp.f,⟨?_,?_,?_,?_,sp.f⟩⟩
   ·show(Tr.put _ _ _).get _=_;rw[bj _ _ (by rcases k1 with e | e<;>rw[e]<;>assumption)];exact jQ q3 e1 e2
   ·simp only;rcases k1 with e | e<;>rw[e];exact sp.xx;exact sp.xy
   ·simp only;rcases k1 with e | e<;>rw[e];exact sp.xx;exact sp.xy
   ·simp only;rcases k1 with e | e<;>rw[e];exact sp.yx;exact sp.yy
   ·simp only;rcases k1 with e | e<;>rw[e];exact sp.yx;exact sp.yy
  ·intro id ob hi;obtain⟨_,_,r3⟩:=hR.row id ob hi;obtain⟨e1,e2⟩:=r3 o _ hS (λh=>by cases h)
   have e3:id≠(θ o).id:=by rcases k1 with e | e<;>rw[e]<;>assumption
   refine⟨?_,e3,e3⟩;show(Tr.put _ _ _).get _=_;rw[bj _ _ e3];exact jQ q3 e1 e2
  ·refine⟨_,cR _ _ _,?_,Ai q3⟩
   have hw:c8 θ ρ (cs.take off++(vs++cs.drop (off+vs.length))) (aS.take off++(xs++aS.drop (off+xs.length))):=by
    rw[hlx];exact(q2.take off).app (hv.app (q2.drop (off+vs.length)))
   have:=hw.map hg;rw[List.map_id'] at this;exact this
  ·intro p hp;rw[List.getElem?_set_ne (λe=>hp e.symm)]
   cases S[p]? with
   | none=>rfl
   | some s=>rw[map_some,sz]
  ·rw[List.getElem?_set_self (bl hS)]
theorem RS.Pn{h0:En}{h:H}{S:List SO}{o:Nat}{ks ks':List AV}{vs vs':List SV}{l':List (AV×AV×Nat)}{c':Nat}{b b':Option (List Nat×Nat)}(hR:RS θ ρ0 ρ h0 h S)(hS:S[o]?=some (.map ks vs b))(h1:Ng l' c' ks' b')(h2:c8 θ ρ vs' (l'.map (·.2.1))):
 RS θ ρ0 ρ h0 (h.set (θ o).id (.map l' c')) (S.set o (.map ks' vs' b')):=by
 obtain⟨⟨k1,k2,k3,k4⟩,l,c,q1,q2,q3⟩:=hR.obj o _ hS (λh=>by cases h)
 have heq:gj θ o (θ o)=θ:=by
  funext p;unfold gj;split
  ·rename_i e;rw[e]
  ·rfl
 have hg:∀v x,VS θ ρ v x->VS (gj θ o (θ o)) ρ v x:=λv x hv=>by rw[heq];exact hv
 have pi:∀j,h0.pr j->j≠(θ o).id:=λj hj e=>by rcases k1 with e' | e'<;>rw[e'] at e;exact k2.1 (e▸hj);exact k3.1 (e▸hj)
 have lid:h0.lo<=(θ o).id:=by rcases k1 with e | e<;>rw[e];exact hR.ok.lo _ k2.1;exact hR.ok.lo _ k3.1
 have:=hR.yU (g:=λv=>v) (h':=h.set (θ o).id (.map l' c')) (S':=S.set o (.map ks' vs' b')) (so':=.map ks' vs' b') (L':=θ o) (Nat.le_refl _) (λj hj=>bj _ _ (pi j hj)) (λj hj=>rfl) (mL hR.lw lid) (le_trans (dM _ _).1 hR.ln) ⟨k1,k2,k3,k4⟩ hg ?_ ?_ ?_ ?_ ?_
 ·rw[heq] at this;exact this
 ·intro p s hp hs hsg;have sp:=hR.sep p o s _ hp hs hsg hS (λh=>by cases h);obtain⟨⟨j1,j2,j3,j4⟩,_⟩:=hR.obj p s hs hsg;refine⟨bj _ _ ?_,rfl,sp⟩
  rcases j1 with e | e<;>rcases k1 with e' | e'<;>rw[e,e']
  ·exact sp.xx
  ·exact sp.xy
  ·exact sp.yx
  ·exact sp.yy
 ·intro id ob hi;obtain⟨_,_,r3⟩:=hR.row id ob hi;obtain⟨e1,e2⟩:=r3 o _ hS (λh=>by cases h);exact⟨bj _ _ (by rcases k1 with e | e<;>rw[e]<;>assumption),e1,e2⟩
 ·rw[heq];exact⟨l',c',cR _ _ _,h1,h2⟩
 ·intro p hp;rw[List.getElem?_set_ne (λe=>hp e.symm)]
  cases S[p]? with
  | none=>rfl
  | some s=>rw[map_some,sz]
 ·rw[List.getElem?_set_self (bl hS)]
theorem RS.fork{h0:En}{h:H}{S:List SO}{o n:Nat}{cs vs:List SV}{xs aS:List AV}(hR:RS θ ρ0 ρ h0 h S)(hS:S[o]?=some (.cells cs))(hv:c8 θ ρ vs xs)(has:h.aQ.get (θ o).id=some (.cells aS (θ o).bZ))(hle:n<=cs.length):
 (h.alone (θ o).id (θ o).bZ).next=h.next/\RS (gj θ o ⟨h.next,(θ o).bZ,(θ o).id,h.next⟩) ρ0 ρ h0 (h.eg (θ o).id (θ o).bZ (aS.take n) ((aS.drop 0).take n++xs)) ((dq o S).set o (bP o (.cells (cs.take n++vs))))/\∀v x,VS θ ρ v x->VS (gj θ o ⟨h.next,(θ o).bZ,(θ o).id,h.next⟩) ρ (bf o v) x:=by
 have hg:∀v x,VS θ ρ v x->VS (gj θ o ⟨h.next,(θ o).bZ,(θ o).id,h.next⟩) ρ (bf o v) x:=λv x hv=>iD (λp hp=>bY _ _ hp) hv;obtain⟨⟨k1,k2,k3,k4⟩,as',q1,q2,q3⟩:=hR.obj o _ hS (λh=>by cases h);rw[has] at q1;cases q1;have a2:(h.alone (θ o).id (θ o).bZ).next=h.next:=(qW (Z:=0) (id:=(θ o).id) q3 (zero_le _) (zero_le _) (zero_le _)).2;have px:∀j,h0.pr j->j≠(θ o).x:=λj hj e=>k2.1 (e▸hj);have py:∀j,h0.pr j->j≠(θ o).y:=λj hj e=>k3.1 (e▸hj)
 have pi:∀j,h0.pr j->j≠(θ o).id:=λj hj=>by rcases k1 with e | e<;>rw[e];exact px j hj;exact py j hj
 have pfm:∀j,h0.pf j->j≠(θ o).bZ:=λj hj e=>k4.1 (e▸hj)
 have lid:h0.lo<=(θ o).id:=by rcases k1 with e | e<;>rw[e];exact hR.ok.lo _ k2.1;exact hR.ok.lo _ k3.1
 have hidn:(θ o).id<h.next:=by rcases k1 with e | e<;>rw[e];exact k2.2;exact k3.2
 have al:=Aj (id:=(θ o).id) q3 (hR.ok.lo _ k2.1) (hR.ok.lo _ k3.1) hR.lw hR.ln;have hid:(θ o).id<h.next:=hidn;have hb:=hR.nx;have hprn:∀j,h0.pr j->j<h.next:=λj hj=>Nat.lt_of_lt_of_le (hR.ok.pr j hj) hb;refine⟨a2,?_,hg⟩;refine hR.yU (g:=bf o) (so':=bP o (.cells (cs.take n++vs))) (by show h.next<=(h.alone _ _).next+1;omega) (λj hj=>?_) (λj hj=>?_) ?_ ?_ ⟨.inr rfl,⟨λhj=>pi _ hj rfl,?_⟩,⟨λhj=>lt_irrefl _ (hprn _ hj),?_⟩,⟨k4.1,?_⟩⟩ hg ?_ ?_ ?_ ?_ ?_
 ·simp only[H.eg];rw[a2,bj _ _ (by have:=hprn j hj;omega),bj _ _ (pi j hj)];exact jQ q3 (px j hj) (py j hj)
 ·simp only[H.eg];rw[bj _ _ (pfm j hj)];exact nR q3 (pfm j hj)
 ·simp only[H.eg];exact mL al.1 lid
 ·simp only[H.eg];rw[a2];exact Nat.le_succ_of_le (le_trans (dM _ _).1 al.2)
 ·simp only[H.eg,a2];omega
 ·simp only[H.eg,a2];omega
 ·simp only[H.eg,a2];have:=k4.2;omega
 ·intro p s hp hs hsg;have sp:=hR.sep p o s _ hp hs hsg hS (λh=>by cases h);obtain⟨⟨j1,j2,j3,j4⟩,_⟩:=hR.obj p s hs hsg
  have e1:(θ p).id≠(θ o).x:=by rcases j1 with e | e<;>rw[e];exact sp.xx;exact sp.yx
  have e2:(θ p).id≠(θ o).y:=by rcases j1 with e | e<;>rw[e];exact sp.xy;exact sp.yy
  have e3:(θ p).id<h.next:=by rcases j1 with e | e<;>omega
  refine⟨?_,?_,⟨?_,?_,?_,?_,sp.f⟩⟩
  ·simp only[H.eg];rw[a2,bj _ _ (by omega),bj _ _ (by rcases k1 with e | e<;>rw[e]<;>assumption)];exact jQ q3 e1 e2
  ·simp only[H.eg];rw[bj _ _ sp.f];exact nR q3 sp.f
  ·simp only;rcases k1 with e | e<;>rw[e];exact sp.xx;exact sp.xy
  ·simp only;omega
  ·simp only;rcases k1 with e | e<;>rw[e];exact sp.yx;exact sp.yy
  ·simp only;omega
 ·intro id ob hi;obtain⟨r1,_,r3⟩:=hR.row id ob hi;obtain⟨e1,e2⟩:=r3 o _ hS (λh=>by cases h)
  have e3:id≠(θ o).id:=by rcases k1 with e | e<;>rw[e]<;>assumption
  refine⟨?_,e3,by simp only;omega⟩;simp only[H.eg];rw[a2,bj _ _ (by omega),bj _ _ e3];exact jQ q3 e1 e2
 ·refine⟨_,?_,((q2.take n).app hv).map hg,?_⟩
  ·simp only[H.eg];rw[a2,cR,List.drop_zero]
  ·simp only[H.eg];rw[cR,a2]
 ·intro p hp;rw[List.getElem?_set_ne (λe=>hp e.symm)];exact qh _ _ _
 ·rw[List.getElem?_set_self (by unfold dq;rw[length_map];exact bl hS)]
end
section
variable {θ θ':Nat->Loc} {ρ ρ0:jP} {P:Program}
theorem E5{h0:En}{h:H}{S:List SO}(hR:RS θ ρ0 ρ h0 h S){id:Nat}{row:List AV}(hr:oC ρ id=some row):qK h.aQ id=some row:=by
 unfold oC at hr
 cases ho:ρ id with
 | none=>rw[ho] at hr;cases hr
 | some ob=>
  have:=(hR.row id ob ho).2.1;rw[ho] at hr;unfold qK;rw[this]
  cases ob<;>first | exact hr | (cases hr;done)
theorem Ei{h0:En}{h:H}{S:List SO}(hR:RS θ ρ0 ρ h0 h S){tt:TypeId}{a:SV}{x:AV}(ha:VS θ ρ a x){v:SV}(hl:sw P S tt a=some v):∃y,B6 P h tt (some x)=some y/\VS θ ρ v y:=by
 unfold sw at hl;split at hl
 ·rename_i o off;rw[VS] at ha;subst ha;split at hl
  ·rename_i cs hS;obtain⟨_,aS,q1,q2,_⟩:=hR.obj o _ hS (λh=>by cases h);obtain⟨y,k1,k2⟩:=sM q2 hl;exact⟨y,by rw[AT,AS (aS:=aS) (by unfold qK;rw[q1];rfl)];exact k1,k2⟩
  ·cases hl
 ·rename_i cs;rw[VS,GS] at ha;obtain⟨id,off,row,r,rfl,h2,h3,h4⟩:=ha;obtain⟨y,k1,k2⟩:=sM (h4.vs (θ:=θ)) hl;refine⟨y,?_,k2⟩;rw[AT,AS (E5 hR h2)];have:=Km h3 k1;rw[Nat.add_zero] at this;exact this
 ·cases hl
theorem Ky{h0:En}{h:H}{S S':List SO}(hR:RS θ ρ0 ρ h0 h S){tt:TypeId}{a v:SV}{x y:AV}(ha:VS θ ρ a x)(hv:VS θ ρ v y)(hs:yj P S tt a v=some S'):
 ∃h' θ',Cv P h tt (some x) (some y)=some h'/\RS θ' ρ0 ρ h0 h' S'/\∀v x,VS θ ρ v x->VS θ' ρ v x:=by
 unfold yj at hs;split at hs
 ·rename_i o off;rw[VS] at ha;subst ha;split at hs
  ·rename_i cs hS;obtain⟨⟨n,_⟩,hq,hs⟩:=bind_eq_some_iff.1 hs;obtain⟨vs,hvs,hs⟩:=bind_eq_some_iff.1 hs;obtain⟨⟨b1,b2,b3⟩,hs⟩:=cg hs;cases hs;have hn:=(tv hq).2;simp only at b1 b2 hn;have kv:=tP hv hvs;subst b1;obtain⟨h',e1,e2,e3⟩:=hR.store hS kv (np kv b3) b2;refine⟨h',_,?_,e2,e3⟩;rw[Hm];unfold H.storeVar;rw[hn,bind_some,kv.length,beq_refl,ah];exact e1
  ·cases hs
 ·cases hs
theorem Oc{P:Program}{t:Tr AV}{h:H}{nm:String}{first cap:Array Operand}:ef P t h (.makeFunc (.method nm) first cap)=((tF t first.toList).bind λa=>(tF t cap.toList).map λb=>AV.fn (.method nm) a b).map λv=>[(some v,h)]:=rfl
theorem NY{v w:SV}{x:AV}(hv:VS θ ρ v x)(h:cC P v=some w):nF P x=some x/\w=v:=by
 cases v with
 | ptr o off=>simp only[cC,Option.some.injEq] at h;rw[VS] at hv;subst hv;exact⟨rfl,h.symm⟩
 | ip cs=>simp only[cC,Option.some.injEq] at h;rw[VS,GS] at hv;obtain⟨id,off,row,r,rfl,_⟩:=hv;exact⟨rfl,h.symm⟩
 | fn g a b=>simp only[cC,Option.some.injEq] at h;rw[VS] at hv;obtain⟨xs,ys,rfl,_⟩:=hv;exact⟨rfl,h.symm⟩
 | sl n e cs=>simp only[cC,Option.some.injEq] at h;rw[VS,GS] at hv;rcases hv with⟨_,_,o,e',c,rfl,_,_⟩ | ⟨id,off,cap,row,rfl,_⟩<;>exact⟨rfl,h.symm⟩
 | buf o n e c=>simp only[cC,Option.some.injEq] at h;rw[VS] at hv;subst hv;exact⟨rfl,h.symm⟩
 | sub o off n e c=>simp only[cC,Option.some.injEq] at h;rw[VS] at hv;subst hv;exact⟨rfl,h.symm⟩
 | e0 e=>simp only[cC,Option.some.injEq] at h;rw[VS] at hv;obtain⟨o,e',rfl,_⟩:=hv;exact⟨rfl,h.symm⟩
 | a u=>
  unfold cC at h;split at h
  case h_8 hu=>
   cases hu;obtain⟨g,hg,rfl⟩:=au h;rw[VS] at hv;subst hv;refine⟨?_,rfl⟩;unfold nF;simp only[hg,map_some]
  all_goals first | (cases h;done) | (rename_i hu;cases hu;done)
 | _=>simp[cC] at h
theorem JE{a b:Nat}(h:a<b):Nat.blt a b=true:=by rw[Nat.blt_eq];exact h
theorem IH{cs:List SV}{x:AV}{k:Nat}(hv:GS ρ (.ip cs) x)(hk:k<=cs.length):∃id off row,x=.ptr (some (id,off))/\oC ρ id=some row/\GS ρ (.ip (cs.drop k)) (.ptr (some (id,off+k))):=by
 rw[GS] at hv;obtain⟨id,off,row,r,rfl,h2,h3,h4⟩:=hv;refine⟨id,off,row,rfl,h2,?_⟩;have hl:=h4.length;rw[List.length_take,List.length_drop] at hl;rw[GS];refine⟨id,off+k,row,r-k,rfl,h2,by omega,?_⟩;have:=h4.drop k;rw[drop_take,drop_drop] at this;exact this
theorem y4{s:TypeId}{v w:SV}{x:AV}{fl:Nat}(hv:VS θ ρ v x)(h:lQ P s v fl=some w):∃y,iP P s x fl=some y/\VS θ ρ w y:=by
 unfold lQ at h;obtain⟨q,hq,h⟩:=bind_eq_some_iff.1 h;obtain⟨hn0,h⟩:=cg h;obtain⟨fs,fd,hu,_,hfd,hn,e1,_⟩:=ua hq
 have hb:beq q.2.2 0=false:=by
  cases hb:beq q.2.2 0
  ·rfl
  ·exact absurd (cP hb) hn0
 cases v with
 | ptr o off=>
  simp only at h;cases h;rw[VS] at hv;subst hv;unfold iP;rw[hu];simp only;rw[hfd,bind_some,hn,bind_some,hb,ao,e1];exact⟨_,rfl,by rw[VS]⟩
 | ip cs=>
  simp only at h;obtain⟨hk,h⟩:=cg h;cases h;rw[VS] at hv;obtain⟨id,off,row,rfl,_,h2⟩:=IH hv hk;unfold iP;rw[hu];simp only;rw[hfd,bind_some,hn,bind_some,hb,ao,e1];exact⟨_,rfl,by rw[VS];exact h2⟩
 | _=>simp at h
theorem JW{s:TypeId}{v w:SV}{x:AV}{fl:Nat}(hv:VS θ ρ v x)(h:tZ P s v fl=some w):∃y,tY P s x fl=some y/\VS θ ρ w y:=by
 cases v with
 | ag cs=>
  simp only[tZ] at h;rw[VS] at hv;obtain⟨aS,rfl,hv⟩:=hv;obtain⟨q,hq,h⟩:=bind_eq_some_iff.1 h;obtain⟨fs,fd,hu,_,hfd,hn,e1,e2⟩:=ua hq;obtain⟨y,k1,k2⟩:=sM hv h;unfold tY;rw[hu];simp only;rw[hfd,bind_some,e1,e2];exact⟨y,k1,k2⟩
 | _=>simp[tZ] at h
theorem B9{v:SV}{x:AV}{i:Nat}(hv:VS θ ρ v x)(h:G5 v=some i):c9 x=some i:=by
 cases v with
 | a v=>rw[VS] at hv;subst hv;exact h
 | _=>simp[G5] at h
theorem y7{t:TypeId}{v w iv:SV}{x ix:AV}(hv:VS θ ρ v x)(hi:VS θ ρ iv ix)(h:lS P t v iv=some w):∃y,jW P t x ix=some y/\VS θ ρ w y:=by
 unfold lS at h;obtain⟨i,hin,h2⟩:=bind_eq_some_iff.1 h;clear h;unfold jW;rw[B9 hi hin,bind_some]
 cases har:OE P t with
 | some q=>
  rw[har] at h2;simp only at h2;obtain⟨hu,hs⟩:=Ds har;obtain⟨hlt,h⟩:=cg h2;rw[hu];have hlb:blt i q.1=true:=JE hlt
  cases v with
  | ptr o off=>
   simp only at h;cases h;rw[VS] at hv;subst hv;simp only;rw[hs,bind_some,hlb,ah];exact⟨_,rfl,by rw[VS]⟩
  | ip cs=>
   simp only at h;obtain⟨hk,h⟩:=cg h;cases h;rw[VS] at hv;obtain⟨id,off,row,rfl,_,h2⟩:=IH hv hk;simp only;rw[hs,bind_some,hlb,ah];exact⟨_,rfl,by rw[VS];exact h2⟩
  | _=>simp at h
 | none=>
  rw[har] at h2;simp only at h2;obtain⟨q,hq,h⟩:=bind_eq_some_iff.1 h2;obtain⟨hu,hs⟩:=fR hq;obtain⟨e,s⟩:=q;simp only at hu hs h;rw[hu]
  cases v with
  | sl n es cs=>
   simp only at h;obtain⟨⟨hlt,hse⟩,h⟩:=cg h;cases h;subst hse;have hlb:blt i n=true:=JE hlt;rw[VS,GS] at hv
   rcases hv with⟨h1,_⟩ | ⟨id,off,cap,row,rfl,h2,h3,h4⟩
   ·omega
   ·simp only;rw[hs,bind_some,hlb,beq_refl,Bool.and_self,ah];refine⟨_,rfl,?_⟩
    have hms:i*s+s<=n*s:=by
     have:=Nat.mul_le_mul_right s (show i+1<=n by omega);rw[Nat.succ_mul] at this;exact this
    rw[VS,GS];refine⟨id,off+i*s,row,s,rfl,h2,by omega,?_⟩;have:=(h4.drop (i*s)).take s;rw[drop_take,drop_drop,List.take_take,Nat.min_eq_left (by omega)] at this;exact this
  | buf o n es c=>
   simp only at h;obtain⟨⟨hlt,hse⟩,h⟩:=cg h;cases h;subst hse;have hlb:blt i n=true:=JE hlt;rw[VS] at hv;subst hv;simp only;rw[hs,bind_some,hlb,beq_refl,Bool.and_self,ah];exact⟨_,rfl,by rw[VS,Nat.zero_add]⟩
  | sub o off n es c=>
   simp only at h;obtain⟨⟨hlt,hse⟩,h⟩:=cg h;cases h;subst hse;have hlb:blt i n=true:=JE hlt;rw[VS] at hv;subst hv;simp only;rw[hs,bind_some,hlb,beq_refl,Bool.and_self,ah];exact⟨_,rfl,by rw[VS]⟩
  | _=>simp at h
theorem J0{t:TypeId}{v w iv:SV}{x ix:AV}(hv:VS θ ρ v x)(hi:VS θ ρ iv ix)(h:xB P t v iv=some w):∃y,ue P t x ix=some y/\VS θ ρ w y:=by
 unfold xB at h;obtain⟨i,hin,h2⟩:=bind_eq_some_iff.1 h;clear h;unfold ue;rw[B9 hi hin,bind_some]
 cases v with
 | ag cs=>
  simp only at h2;obtain⟨q,hq,h⟩:=bind_eq_some_iff.1 h2;obtain⟨hu,hs⟩:=Ds hq;obtain⟨hlt,h⟩:=cg h;rw[hu];rw[VS] at hv;obtain⟨aS,rfl,hv⟩:=hv;simp only;rw[hs,bind_some,JE hlt,ah];exact sM hv h
 | a v=>
  cases v with
  | str s=>
   simp only at h2
   cases hk:gV P t with
   | str=>
    rw[hk] at h2;simp only at h2;rw[xI hk];rw[VS] at hv;subst hv;simp only;obtain⟨b,hb,rfl⟩:=au h2;rw[hb];exact⟨_,rfl,by rw[VS]⟩
   | _=>rw[hk] at h2;cases h2
  | _=>simp at h2
 | _=>simp at h2
theorem Kx{h:H}{t:TypeId}{v w:SV}{x:AV}{lo hi mx:Option AV}(hv:VS θ ρ v x)(h1:fK P t v lo hi mx=some w):∃y,uF P h t x lo hi mx=some y/\VS θ ρ w y:=by
 unfold fK at h1;unfold uF;split at h1
 ·rename_i s hk;rw[xI hk];rw[VS] at hv;subst hv
  cases mx with
  | some _=>cases h1
  | none=>
   simp only at h1 ⊢;obtain⟨b,hb,rfl⟩:=au h1;rw[hb];exact⟨_,rfl,by rw[VS]⟩
 ·rename_i n es cs hk
  cases mx with
  | some m=>
   simp only at h1;obtain⟨⟨e,s⟩,hq,h1⟩:=bind_eq_some_iff.1 h1;obtain⟨hu,hs⟩:=fR hq;simp only at hu hs h1;rw[hu];obtain⟨⟨rfl,h2,h3,h4⟩,h5⟩:=cg h1;cases h5;subst h4;obtain⟨hv0,rfl,h2⟩:=bind_eq_some_iff.1 h2
   have hb:∀cap,cF n cap none (some hv0) (some m)=some (0,0,some 0):=by
    intro cap;unfold cF;simp only;have h2':c9 hv0=some 0:=h2
    have hf:ny n cap 0=true:=by unfold ny;rw[ek (zero_le n)];rfl
    rw[h3,bind_some,hf,ah,h2'];rfl
   rw[VS,GS] at hv
   rcases hv with⟨rfl,rfl,o,e',c,rfl,ho,hoe⟩ | ⟨id,off,cap,row,rfl,h6,h7,h8⟩
   ·simp only;rw[hs,bind_some,hb,bind_some];simp only
    cases o with
    | none=>exact⟨_,rfl,by rw[VS];exact⟨none,0,rfl,λh=>absurd rfl h⟩⟩
    | some q=>
     obtain⟨id,off⟩:=q;rw[hoe (by simp)];simp only;rw[beq_refl,ah];exact⟨_,rfl,by rw[VS];exact⟨_,_,rfl,λ_=>rfl⟩⟩
   ·simp only;rw[hs,bind_some,hb,bind_some];simp only;rw[beq_refl,ah];exact⟨_,rfl,by rw[VS];exact⟨_,_,rfl,λ_=>rfl⟩⟩
  | none=>
   simp only at h1;obtain⟨⟨e,s⟩,hq,h1⟩:=bind_eq_some_iff.1 h1;obtain⟨hu,hs⟩:=fR hq;simp only at hu hs;rw[hu];obtain⟨⟨l,hh,m⟩,hb,h1⟩:=bind_eq_some_iff.1 h1;obtain⟨hse,h1⟩:=cg h1;cases h1;simp only at hse;subst hse
   have hbd:∀cap,(cF n cap lo hi none=some (l,hh,cap))/\l<=hh/\hh<=n:=by
    intro cap;unfold cF at hb ⊢;simp only at hb ⊢;obtain⟨q,hq,hb⟩:=bind_eq_some_iff.1 hb
    have hq2:mF n cap hi=some q/\q<=n:=by
     cases hi with
     | none=>simp only[mF,Option.some.injEq] at hq ⊢;exact⟨hq,by omega⟩
     | some hv=>
      simp only[mF] at hq ⊢;obtain⟨k,hk,hq⟩:=bind_eq_some_iff.1 hq;obtain⟨hf,hq⟩:=aK hq;cases hq;simp only[ny,Bool.or_false] at hf;rw[hk,bind_some];unfold ny;rw[hf,Bool.true_or,ah];exact⟨rfl,iO hf⟩
    rw[hq2.1,bind_some]
    cases lo with
    | none=>simp only[Option.some.injEq,Prod.mk.injEq] at hb ⊢;obtain⟨rfl,rfl,_⟩:=hb;exact⟨by simp,zero_le _,hq2.2⟩
    | some lv=>
     simp only at hb ⊢;obtain⟨k,hk,hb⟩:=bind_eq_some_iff.1 hb;obtain⟨hf,hb⟩:=aK hb;simp only[Option.some.injEq,Prod.mk.injEq] at hb;obtain⟨rfl,rfl,_⟩:=hb;rw[hk,bind_some,hf,ah];exact⟨by simp,iO hf,hq2.2⟩
   rw[VS,GS] at hv
   rcases hv with⟨rfl,rfl,o,e',c,rfl,ho,hoe⟩ | ⟨id,off,cap,row,rfl,h2,h3,h4⟩
   ·obtain⟨b1,b2,b3⟩:=hbd c
    have hl0:l=0:=by omega
    have hh0:hh=0:=by omega
    subst hl0;subst hh0;simp only;rw[hs,bind_some,b1,bind_some];simp only
    cases o with
    | none=>
     exact⟨_,rfl,by rw[VS,GS];exact .inl ⟨rfl,by simp,none,0,some 0,rfl,λ_=>rfl,λh=>absurd rfl h⟩⟩
    | some q=>
     obtain⟨id,off⟩:=q;rw[hoe (by simp)];simp only;rw[beq_refl,ah];exact⟨_,rfl,by rw[VS,GS];exact .inl ⟨rfl,by simp,_,_,_,rfl,λh=>(by cases h),λ_=>rfl⟩⟩
   ·obtain⟨b1,b2,b3⟩:=hbd cap;simp only;rw[hs,bind_some,b1,bind_some];simp only;rw[beq_refl,ah];refine⟨_,rfl,?_⟩;rw[VS,GS];have m1:l*s<=hh*s:=Nat.mul_le_mul_right s b2;have m2:hh*s<=n*s:=Nat.mul_le_mul_right s b3;refine .inr ⟨id,off+l*s,aP cap l,row,rfl,h2,by rw[Nat.sub_mul];omega,?_⟩;have:=(h4.drop (l*s)).take ((hh-l)*s);rw[drop_take,drop_drop,List.take_take,Nat.min_eq_left (by rw[Nat.sub_mul];omega)] at this;exact this
 ·rename_i o n es c hk
  cases mx with
  | some _=>cases h1
  | none=>
   simp only at h1;obtain⟨⟨e,s⟩,hq,h1⟩:=bind_eq_some_iff.1 h1;obtain⟨hu,hs⟩:=fR hq;simp only at hu hs;rw[hu];obtain⟨⟨l,hh,m⟩,hb,h1⟩:=bind_eq_some_iff.1 h1;obtain⟨hse,h1⟩:=cg h1;cases h1;simp only at hse;subst hse;rw[VS] at hv;subst hv;simp only;rw[hs,bind_some,hb,bind_some];simp only;rw[beq_refl,ah]
   cases lo with
   | none=>
    have hl0:l=0:=by
     unfold cF at hb;simp only at hb;obtain⟨q,hq,hb⟩:=bind_eq_some_iff.1 hb;simp only[Option.some.injEq,Prod.mk.injEq] at hb;exact hb.1.symm
    subst hl0;exact⟨_,rfl,by rw[VS,Nat.zero_mul]⟩
   | some _=>exact⟨_,rfl,by rw[VS,Nat.zero_add]⟩
 ·rename_i o off n es c hk
  cases mx with
  | some _=>cases h1
  | none=>
   simp only at h1;obtain⟨⟨e,s⟩,hq,h1⟩:=bind_eq_some_iff.1 h1;obtain⟨hu,hs⟩:=fR hq;simp only at hu hs;rw[hu];obtain⟨⟨l,hh,m⟩,hb,h1⟩:=bind_eq_some_iff.1 h1;obtain⟨hse,h1⟩:=cg h1;cases h1;simp only at hse;subst hse;rw[VS] at hv;subst hv;simp only;rw[hs,bind_some,hb,bind_some];simp only;rw[beq_refl,ah];exact⟨_,rfl,by rw[VS]⟩
 ·rename_i hk;obtain⟨⟨e,s⟩,hq,h1⟩:=bind_eq_some_iff.1 h1;obtain⟨hu,hs⟩:=fR hq;simp only at hu hs;rw[hu];obtain⟨⟨l,hh,m⟩,hb,rfl⟩:=au h1;rw[VS] at hv;subst hv;simp only;rw[hs,bind_some,hb,bind_some];exact⟨_,rfl,by rw[VS]⟩
 ·rename_i e0 hk;obtain⟨⟨e,s⟩,hq,h1⟩:=bind_eq_some_iff.1 h1;obtain⟨hu,hs⟩:=fR hq;simp only at hu hs;rw[hu];obtain⟨⟨l,hh,m⟩,hb,h1⟩:=bind_eq_some_iff.1 h1;obtain⟨⟨hl0,hh0,hm0,hse⟩,h5⟩:=cg h1;clear h1;cases h5;simp only at hse;subst hl0;subst hh0;subst hm0;subst hse;rw[VS] at hv;obtain⟨o,e',rfl,hoe⟩:=hv;simp only;rw[hs,bind_some,hb,bind_some];simp only
  cases o with
  | none=>exact⟨_,rfl,by rw[VS];exact⟨none,0,rfl,λh=>absurd rfl h⟩⟩
  | some q=>
   obtain⟨id,off⟩:=q;rw[hoe (by simp)];simp only;rw[beq_refl,ah];exact⟨_,rfl,by rw[VS];exact⟨_,_,rfl,λ_=>rfl⟩⟩
 ·cases h1
end
end Go.Ev
