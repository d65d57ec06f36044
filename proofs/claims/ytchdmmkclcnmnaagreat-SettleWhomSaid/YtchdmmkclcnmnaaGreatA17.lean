/- Lemmas of this claim, each with its conditions. -/
import Derived.Test.YtchdmmkclcnmnaaGreatA16
set_option linter.all false
open Nat (blt beq ble)
open List (mem_append mem_filter mem_map map_nil)
open List renaming getElem?_eq_getElem -> aa, getElem?_map -> ac, mem_cons_self -> al, length_map -> ap, getElem?_cons_succ -> ax, getElem?_cons_zero -> ay, getElem?_set_self -> a0, getElem?_set_ne -> a6, map_cons -> ba, mem_cons_of_mem -> bc, mem_map_of_mem -> bd, filter_cons -> be, getElem_mem -> bh, map_append -> bi, nodup_cons -> bk
open Option renaming bind_some -> ad, map_some -> a5
open Array renaming toList_append -> ag
open Nat renaming add_sub_cancel_left -> aj, le_refl -> a7, le_of_not_lt -> a8, zero_le -> a9, sub_zero -> bb, beq_refl -> bo, le_trans -> bt, zero_add -> bv
namespace Go.Ev
noncomputable section
section
variable {θ θ':Nat->Loc} {ρ ρ0 ρ':kg} {P:Program} {h0:En} {h h1:H} {S S' S0:List SO}
def rh{l:List (AV×AV×Nat)}{bs:List Nat}(hbs:l.map (·.2.2)=bs){j:Nat}{e:AV×AV×Nat}(he:l[j]?=some e):bs.getD j 0=e.2.2:=by
 rw[<-hbs,List.getD_eq_getElem?_getD,ac,he];rfl
def born_inj{l:List (AV×AV×Nat)}{c:Nat}(hb:nV l c){i j:Nat}{e e':AV×AV×Nat}(hi:l[i]?=some e)(hj:l[j]?=some e')(h:e.2.2=e'.2.2):i=j:=by
 have h1:(l.map (·.2.2))[i]?=some e.2.2:=by rw[ac,hi];rfl
 have h2:(l.map (·.2.2))[j]?=some e.2.2:=by rw[ac,hj,h];rfl
 have hl:=bD h1;exact(List.getElem?_inj hl hb.1).1 (h1.trans h2.symm)
def Aj(b:Nat):∀(l:List Nat),seenIn b l=true↔b∈l
 | []=>by simp[seenIn]
 | x::l=>by
  simp only[seenIn,Bool.or_eq_true,Aj b l,List.mem_cons];constructor
  ·rintro(h | h)
   ·exact .inl (cU h).symm
   ·exact .inr h
  ·rintro(h | h)
   ·exact .inl (M1 h.symm)
   ·exact .inr h
def Cm{id kY c:Nat}{l:List (AV×AV×Nat)}{bs pos:List Nat}(hg:h.aR.get id=some (.jg (some kY) c (pos.map λj=>bs.getD j 0) c))(hm:h.mapOf kY=some (l,c))(hb:nV l c)(hbs:l.map (·.2.2)=bs)(hp:∀j∈pos,j<l.length):
 ∃outs,zz h (.ptr (some (id,0))) false=some outs/\∀x∈outs,(x=(.bE [.bool false],h)/\∀j,j<l.length->j∈pos)\/
  ∃j k v,j<l.length/\j∉pos/\x=(.bE [.bool true,k,v],h.set id (.jg (some kY) c ((pos++[j]).map λj=>bs.getD j 0) c)):=by
 have hc:(!(pos.map λj=>bs.getD j 0).isEmpty&&(!l.isEmpty&&l.all (λe=>ble c e.2.2)))=false:=by
  cases hl:l with
  | nil=>simp
  | cons a r=>
   have hall:(a::r).all (λe=>ble c e.2.2)=false:=by
    rw[List.all_eq_false];refine⟨a,al ..,?_⟩;have:=hb.2 a (by rw[hl];exact al ..);intro hh;have:=jq hh;omega
   rw[hall];simp
 have hnx:zz h (.ptr (some (id,0))) false=some (qg h id kY c (pos.map λj=>bs.getD j 0) c ((l.filter λe=>!(seenIn e.2.2 (pos.map λj=>bs.getD j 0))).filter λe=>blt e.2.2 c) ((l.filter λe=>!(seenIn e.2.2 (pos.map λj=>bs.getD j 0))).filter λe=>!(blt e.2.2 c))):=by
  simp only[zz,hg,hm,ad];rw[hc,an]
 refine⟨_,hnx,?_⟩;intro x hx;unfold qg at hx
 have hun:∀j e,l[j]?=some e->seenIn e.2.2 (pos.map λj=>bs.getD j 0)=false->j∉pos:=by
  intro j e he hs hj;have:seenIn e.2.2 (pos.map λj=>bs.getD j 0)=true:=(Aj _ _).2 (mem_map.2 ⟨j,hj,rh hbs he⟩);rw[this] at hs;cases hs
 rcases mem_append.1 hx with hx | hx
 ·left;cases he:((l.filter λe=>!(seenIn e.2.2 (pos.map λj=>bs.getD j 0))).filter λe=>blt e.2.2 c).isEmpty
  ·rw[he,an] at hx;cases hx
  ·rw[he,ai] at hx;refine⟨List.mem_singleton.1 hx,λj hj=>?_⟩;rw[List.isEmpty_iff] at he;have hlj:l[j]?=some l[j]:=aa hj;apply Classical.byContradiction;intro hn
   have hmem:l[j]∈(l.filter λe=>!(seenIn e.2.2 (pos.map λj=>bs.getD j 0))).filter λe=>blt e.2.2 c:=by
    refine mem_filter.2 ⟨mem_filter.2 ⟨bh hj,?_⟩,Nat.ble_eq_true_of_le (hb.2 _ (bh hj))⟩;cases hs:seenIn l[j].2.2 (pos.map λj=>bs.getD j 0)
    ·rfl
    ·exfalso;obtain⟨j',hj',e⟩:=mem_map.1 ((Aj _ _).1 hs);obtain⟨e',hlj'⟩:∃e',l[j']?=some e':=⟨_,aa (hp j' hj')⟩;rw[rh hbs hlj'] at e;exact hn (born_inj hb hlj hlj' e.symm▸hj')
   rw[he] at hmem;cases hmem
 ·right;obtain⟨e,he,rfl⟩:=mem_map.1 hx
  have he':e∈l/\seenIn e.2.2 (pos.map λj=>bs.getD j 0)=false:=by
   rcases mem_append.1 he with he | he <;>
   ·have:=mem_filter.1 (mem_filter.1 he).1;exact⟨this.1,by simpa using this.2⟩
  obtain⟨j,hj⟩:=List.mem_iff_getElem?.1 he'.1;refine⟨j,e.1,e.2.1,bD hj,hun j e hj he'.2,?_⟩;rw[bi,ba,map_nil,rh hbs hj]
def BG:∀{l:List (AV×AV×Nat)} {j k:Nat} {e:AV×AV×Nat},(l.map (·.2.2)).Nodup->l[j]?=some e->iP e.2.2 l k=some (k+j)
 | [],j,k,e,_,he=>by simp at he
 | a::l,0,k,e,hn,he=>by
  simp only[ay,Option.some.injEq] at he;subst he;rw[iP,bo];rfl
 | a::l,j+1,k,e,hn,he=>by
  simp only[ax] at he;rw[ba,bk] at hn;rw[iP]
  have hne:beq a.2.2 e.2.2=false:=by
   cases hb:beq a.2.2 e.2.2
   ·rfl
   ·exact t8 (cU hb▸bd (f:=λx:AV×AV×Nat=>x.2.2) (List.mem_of_getElem? he)) hn.1
  rw[hne,an,BG hn.2 he]
  congr 1;omega
def yA{id kY c j:Nat}{l:List (AV×AV×Nat)}{bs pos:List Nat}{e:AV×AV×Nat}(hg:h.aR.get id=some (.jg (some kY) c ((pos++[j]).map λj=>bs.getD j 0) c))(hm:h.mapOf kY=some (l,c))(hb:nV l c)(hbs:l.map (·.2.2)=bs)(he:l[j]?=some e):
 ve h (.ptr (some (id,0)))=some (.bE [e.1,e.2.1]):=by
 have hlast:((pos++[j]).map λj=>bs.getD j 0).getLast?=some e.2.2:=by
  rw[bi,ba,map_nil,List.getLast?_append,rh hbs he];rfl
 simp only[ve,hg,hlast,hm,ad,bo,ai];rw[BG hb.1 he,ad,bv,he];rfl
def RS.put{o:Nat}{so so':SO}{ob':AO}(hR:RS θ ρ0 ρ h0 h S)(hS:S[o]?=some so)(hgn:so≠.gone)(hnew:nj θ ρ (h.set (θ o).id ob') (θ o) so'):RS θ ρ0 ρ h0 (h.set (θ o).id ob') (S.set o so'):=by
 obtain⟨hL,_⟩:=hR.obj o _ hS hgn
 have hidr:¬h0.pr (θ o).id:=by
  rcases hL.e with e | e<;>rw[e]
  ·exact hL.x.1
  ·exact hL.y.1
 have hg:∀v x,VS θ ρ v x->VS (gP θ o (θ o)) ρ v x:=λv x hv=>hv.ids λp=>by
  by_cases hp:p=o
  ·subst hp;rw[cC]
  ·rw[bW _ _ hp]
 have heq:gP θ o (θ o)=θ:=by
  funext p;by_cases hp:p=o
  ·subst hp;rw[cC]
  ·rw[bW _ _ hp]
 have get:∀j,j≠(θ o).id->(h.set (θ o).id ob').aR.get j=h.aR.get j:=λj hj=>bm _ _ hj
 have:=hR.AU (h':=h.set (θ o).id ob') (S':=S.set o so') (o:=o) (so':=so') (L':=θ o) (g:=λv=>v) (a7 _) (λj hj=>get j (λe=>hidr (e▸hj))) (λ_ _=>rfl)
  (nI hR.lw (hR.ok.lo _ hidr)) (bt (dR _ _).1 hR.ln) hL hg
  (λp so1 hp h3 h4=>by
   have sp:=hR.sep p o so1 _ hp h3 h4 hS hgn;obtain⟨k,_⟩:=hR.obj p so1 h3 h4;refine⟨get _ ?_,rfl,sp⟩
   rcases k.e with e1 | e1<;>rcases hL.e with e2 | e2<;>rw[e1,e2]
   ·exact sp.xx
   ·exact sp.xy
   ·exact sp.yx
   ·exact sp.yy)
  (λid ob hi=>by
   obtain⟨r1,r2,r3⟩:=hR.row id ob hi;have:=r3 o _ hS hgn;refine⟨get _ ?_,this⟩
   rcases hL.e with e | e<;>rw[e]
   ·exact this.1
   ·exact this.2)
  (by rw[heq];exact hnew)
  (λp hp=>by
   rw[a6 (λh=>hp h.symm)]
   cases S[p]? with
   | none=>rfl
   | some s=>rw[a5];exact congrArg some (tL s).symm)
  (by rw[a0 (bD hS)])
 rw[heq] at this;exact this
def RS.T2{o:Nat}{so so':SO}(hR:RS θ ρ0 ρ h0 h S)(hS:S[o]?=some so)(hgn:so≠.gone)(hnew:nj θ ρ h (θ o) so->nj θ ρ h (θ o) so'):RS θ ρ0 ρ h0 h (S.set o so'):=by
 have own:∀p s,(S.set o so')[p]?=some s->(p=o/\s=so')\/(p≠o/\S[p]?=some s):=by
  intro p s hp;by_cases e:p=o
  ·subst e;rw[a0 (bD hS)] at hp;cases hp;exact .inl ⟨rfl,rfl⟩
  ·rw[a6 (λh=>e h.symm)] at hp;exact .inr ⟨e,hp⟩
 refine⟨hR.ok,hR.nx,hR.ob,hR.fm,hR.lw,hR.ln,?_,?_,?_,hR.mB⟩
 ·intro p s hp hg
  rcases own p s hp with⟨rfl,rfl⟩ | ⟨_,hp'⟩
  ·obtain⟨k1,k2⟩:=hR.obj p _ hS hgn;exact⟨k1,hnew k2⟩
  ·exact hR.obj p s hp' hg
 ·intro p q s s' hpq hp hg hq hg'
  have a:∃s0,S[p]?=some s0/\s0≠.gone:=by
   rcases own p s hp with⟨rfl,rfl⟩ | ⟨_,hp'⟩
   ·exact⟨_,hS,hgn⟩
   ·exact⟨_,hp',hg⟩
  have b:∃s0,S[q]?=some s0/\s0≠.gone:=by
   rcases own q s' hq with⟨rfl,rfl⟩ | ⟨_,hp'⟩
   ·exact⟨_,hS,hgn⟩
   ·exact⟨_,hp',hg'⟩
  obtain⟨s0,a1,a2⟩:=a;obtain⟨s1,b1,b2⟩:=b;exact hR.sep p q s0 s1 hpq a1 a2 b1 b2
 ·intro id ob hi;obtain⟨r1,r2,r3⟩:=hR.row id ob hi;refine⟨r1,r2,λp s hp hg=>?_⟩
  rcases own p s hp with⟨rfl,rfl⟩ | ⟨_,hp'⟩
  ·exact r3 p _ hS hgn
  ·exact r3 p s hp' hg
def Du{t:TypeId}(h:iM P t=.map):∃k e,P.underlying t=some (.map k e):=by
 unfold iM at h
 split at h<;>first | (cases h;done) | exact⟨_,_,by assumption⟩
variable {ro:Option Nat} {all:List Oper} {o:Oper} {l:List Oper} {f:Fm} {n d:Nat} {ds:List iV} {K:eB->Prop} {x:Operand} {ks:List AV} {vs:List SV} {bs pos:List Nat} {c i:Nat}
def aI.TC{t:TypeId}(hst:eP all n [o]=true)(hop:o.op=.range t x)(hdst:o.dst=some d)(hw:db all f o.guard=some true)(hx:eF f x=some (.im ks vs))(ht:iM P t=.map)
 (hk:∀bs c,bs.length=ks.length->aI P ro all l ⟨(d,.ptr S.length 0)::dJ S.length f,n,gO S (.oL ks vs bs c []),ds⟩ K):aI P ro all (o::l) ⟨f,n,S,ds⟩ K:=by
 rintro ρ0 h0 ⟨af,n',h,ds'⟩ ⟨rfl,rfl,θ,ρ,hR,hF⟩
 have hd:blt d n'=true:=by
  have:=(ez hst).1;rw[hdst] at this;exact this
 obtain⟨a,ha,ka⟩:=bG hF hx;rw[VS,GS] at ka;obtain⟨kY,lm,c,rfl,h1,h2,h3⟩:=ka;obtain⟨kt,et,hu⟩:=Du ht
 have hm:h.mapOf kY=some (lm,c):=by unfold H.mapOf;rw[(hR.row kY _ h1).2.1]
 have hrun:eg P (dj af n') h (.range t x)=some [(some (.ptr (some (h.next,0))),{ h with aR:=h.aR.put h.next (some (.jg (some kY) c [] c)),next:=h.next+1 })]:=by
  rw[Gu,show ev (dj af n') x=_ from ha,ad];simp only[vN,hu,hm,a5,H.newObj]
 refine .v hop hdst (cK hF (dN hst hw)) rfl hd hrun ?_;have hR1:=hR.Om (so:=.oL ks vs (lm.map (·.2.2)) c []) (ob:=.jg (some kY) c [] c) ⟨kY,lm,h1,⟨h2.1,h2.2.1,λp hp=>by cases hp;exact⟨rfl,rfl⟩⟩,h3,cX _ _ _⟩;refine hk (lm.map (·.2.2)) c (by rw[ap,<-h2.1,ap]) ρ0 h0 _ ⟨rfl,rfl,_,ρ,hR1,?_⟩;exact hF.kill (kill:=some S.length) (λv x hv=>je (λp hp=>bW _ _ hp) hv) (fW hd) (by rw[VS,cC])
def aI.Uq{t:TypeId}{oo:Nat}{b:Option (List Nat×Nat)}(hst:eP all n [o]=true)(hop:o.op=.range t x)(hdst:o.dst=some d)(hw:db all f o.guard=some true)(hx:eF f x=some (.map oo))(hS:S[oo]?=some (.map ks vs b))(ht:iM P t=.map)
 (hk:∀bs c,bs.length=ks.length->aI P ro all l ⟨(d,.ptr S.length 0)::dJ S.length f,n,gO (S.set oo (.map ks vs (some (bs,c)))) (.iter (.map oo) bs c []),ds⟩ K):aI P ro all (o::l) ⟨f,n,S,ds⟩ K:=by
 rintro ρ0 h0 ⟨af,n',h,ds'⟩ ⟨rfl,rfl,θ,ρ,hR,hF⟩
 have hd:blt d n'=true:=by
  have:=(ez hst).1;rw[hdst] at this;exact this
 obtain⟨a,ha,ka⟩:=bG hF hx;rw[VS] at ka;subst ka;obtain⟨_,lm,c,h1,h2,h3⟩:=hR.obj oo _ hS (λh=>by cases h);obtain⟨kt,et,hu⟩:=Du ht
 have hm:h.mapOf (θ oo).id=some (lm,c):=by unfold H.mapOf;rw[h1]
 have hrun:eg P (dj af n') h (.range t x)=some [(some (.ptr (some (h.next,0))),{ h with aR:=h.aR.put h.next (some (.jg (some (θ oo).id) c [] c)),next:=h.next+1 })]:=by
  rw[Gu,show ev (dj af n') x=_ from ha,ad];simp only[vN,hu,hm,a5,H.newObj]
 refine .v hop hdst (cK hF (dN hst hw)) rfl hd hrun ?_;have hR0:RS θ ρ0 ρ h0 h (S.set oo (.map ks vs (some (lm.map (·.2.2),c)))):=hR.T2 hS (λh=>by cases h) λ_=>⟨lm,c,h1,⟨h2.1,h2.2.1,λp hp=>by cases hp;exact⟨rfl,rfl⟩⟩,h3⟩;have hlen:(S.set oo (.map ks vs (some (lm.map (·.2.2),c)))).length=S.length:=List.length_set;have hlt:=bD hS
 have hkm:bf S.length (.map oo)=.map oo:=by
  unfold bf;rw[names,ut (by omega)];rfl
 have hR1:=hR0.Om (so:=.iter (.map oo) (lm.map (·.2.2)) c []) (ob:=.jg (some (θ oo).id) c [] c) (by
  rw[hlen,bQ,hkm]
  exact⟨(θ oo).id,by rw[VS,bW _ _ (by omega)],cX _ _ _⟩)
 rw[hlen] at hR1;refine hk (lm.map (·.2.2)) c (by rw[ap,<-h2.1,ap]) ρ0 h0 _ ⟨rfl,rfl,_,ρ,hR1,?_⟩;exact hF.kill (kill:=some S.length) (λv x hv=>je (λp hp=>bW _ _ hp) hv) (fW hd) (by rw[VS,cC])
def aI.Tx(hst:eP all n [o]=true)(hop:o.op=.next x false)(hdst:o.dst=some d)(hw:db all f o.guard=some true)(hx:eF f x=some (.ptr i 0))(hS:S[i]?=some (.oL ks vs bs c pos))(hp:∀j∈pos,j<ks.length)
 (hk0:(∀j,j<ks.length->j∈pos)->aI P ro all l ⟨(d,.bE [.a (.bool false)])::f,n,S,ds⟩ K)
 (hk1:∀j,j<ks.length->j∉pos->aI P ro all l ⟨(d,.bE [.a (.bool true),.any,.any])::f,n,S.set i (.oL ks vs bs c (pos++[j])),ds⟩ K):aI P ro all (o::l) ⟨f,n,S,ds⟩ K:=by
 rintro ρ0 h0 ⟨af,n',h,ds'⟩ ⟨rfl,rfl,θ,ρ,hR,hF⟩
 have hd:blt d n'=true:=by
  have:=(ez hst).1;rw[hdst] at this;exact this
 obtain⟨a,ha,ka⟩:=bG hF hx;rw[VS] at ka;subst ka;obtain⟨_,kY,lm,h1,h2,h3,h4⟩:=hR.obj i _ hS (λh=>by cases h)
 have hm:h.mapOf kY=some (lm,c):=by unfold H.mapOf;rw[(hR.row kY _ h1).2.1]
 have hlen:lm.length=ks.length:=by rw[<-h2.1,ap]
 obtain⟨outs,ho,hall⟩:=Cm h4 hm h2.2.1 (h2.2.2 _ rfl).1 (λj hj=>by rw[hlen];exact hp j hj);refine .n hop hdst (cK hF (dN hst hw)) rfl hd (by rw[KN (show ev (dj af n') x=_ from ha),ho];rfl) ?_;intro y hy;obtain⟨z,hz,rfl⟩:=mem_map.1 hy
 rcases hall z hz with⟨rfl,hq⟩ | ⟨j,k,v,hj,hn,rfl⟩
 ·exact hk0 (λj hj=>hq j (by rw[hlen];exact hj)) ρ0 h0 _ ⟨rfl,rfl,θ,ρ,hR,hF.put (fW hd) (by rw[VS];exact⟨_,rfl,by rw[aK];exact⟨_,_,rfl,by rw[VS],by rw[aQ]⟩⟩)⟩
 ·refine hk1 j (by rw[<-hlen];exact hj) hn ρ0 h0 _ ⟨rfl,rfl,θ,ρ,hR.put hS (λh=>by cases h) ⟨kY,lm,h1,h2,h3,cX _ _ _⟩,hF.put (fW hd) ?_⟩;rw[VS];refine⟨_,rfl,?_⟩;rw[aK];refine⟨_,_,rfl,by rw[VS],?_⟩;rw[aK];refine⟨_,_,rfl,by rw[VS];trivial,?_⟩;rw[aK];exact⟨_,_,rfl,by rw[VS];trivial,by rw[aQ]⟩
def aI.Um{oo:Nat}(hst:eP all n [o]=true)(hop:o.op=.next x false)(hdst:o.dst=some d)(hw:db all f o.guard=some true)(hx:eF f x=some (.ptr i 0))(hS:S[i]?=some (.iter (.map oo) bs c pos))(hM:S[oo]?=some (.map ks vs (some (bs,c))))(hp:∀j∈pos,j<ks.length)
 (hk0:(∀j,j<ks.length->j∈pos)->aI P ro all l ⟨(d,.bE [.a (.bool false)])::f,n,S,ds⟩ K)
 (hk1:∀j,j<ks.length->j∉pos->aI P ro all l ⟨(d,.bE [.a (.bool true),.any,.any])::f,n,S.set i (.iter (.map oo) bs c (pos++[j])),ds⟩ K):aI P ro all (o::l) ⟨f,n,S,ds⟩ K:=by
 rintro ρ0 h0 ⟨af,n',h,ds'⟩ ⟨rfl,rfl,θ,ρ,hR,hF⟩
 have hd:blt d n'=true:=by
  have:=(ez hst).1;rw[hdst] at this;exact this
 obtain⟨a,ha,ka⟩:=bG hF hx;rw[VS] at ka;subst ka;obtain⟨_,kY,h3,h4⟩:=hR.obj i _ hS (λh=>by cases h);obtain⟨_,lm,c',q1,q2,q3⟩:=hR.obj oo _ hM (λh=>by cases h);rw[VS] at h3;simp only[AV.map.injEq,Option.some.injEq] at h3;subst h3;obtain⟨hb1,rfl⟩:=q2.2.2 _ rfl
 have hm:h.mapOf (θ oo).id=some (lm,c'):=by unfold H.mapOf;rw[q1]
 have hlen:lm.length=ks.length:=by rw[<-q2.1,ap]
 obtain⟨outs,ho,hall⟩:=Cm h4 hm q2.2.1 hb1 (λj hj=>by rw[hlen];exact hp j hj);refine .n hop hdst (cK hF (dN hst hw)) rfl hd (by rw[KN (show ev (dj af n') x=_ from ha),ho];rfl) ?_;intro y hy;obtain⟨z,hz,rfl⟩:=mem_map.1 hy
 rcases hall z hz with⟨rfl,hq⟩ | ⟨j,k,v,hj,hn,rfl⟩
 ·exact hk0 (λj hj=>hq j (by rw[hlen];exact hj)) ρ0 h0 _ ⟨rfl,rfl,θ,ρ,hR,hF.put (fW hd) (by rw[VS];exact⟨_,rfl,by rw[aK];exact⟨_,_,rfl,by rw[VS],by rw[aQ]⟩⟩)⟩
 ·refine hk1 j (by rw[<-hlen];exact hj) hn ρ0 h0 _ ⟨rfl,rfl,θ,ρ,hR.put hS (λh=>by cases h) ⟨(θ oo).id,by rw[VS],cX _ _ _⟩,hF.put (fW hd) ?_⟩;rw[VS];refine⟨_,rfl,?_⟩;rw[aK];refine⟨_,_,rfl,by rw[VS],?_⟩;rw[aK];refine⟨_,_,rfl,by rw[VS];trivial,?_⟩;rw[aK];exact⟨_,_,rfl,by rw[VS];trivial,by rw[aQ]⟩
def aI.Ts{j:Nat}{k:AV}{v:SV}(hst:eP all n [o]=true)(hop:o.op=.entry x)(hdst:o.dst=some d)(hw:db all f o.guard=some true)(hx:eF f x=some (.ptr i 0))(hS:S[i]?=some (.oL ks vs bs c (pos++[j])))(hkj:ks[j]?=some k)(hvj:vs[j]?=some v)
 (hk:aI P ro all l ⟨(d,.bE [Ap k,v])::f,n,S,ds⟩ K):aI P ro all (o::l) ⟨f,n,S,ds⟩ K:=by
 rintro ρ0 h0 ⟨af,n',h,ds'⟩ ⟨rfl,rfl,θ,ρ,hR,hF⟩
 have hd:blt d n'=true:=by
  have:=(ez hst).1;rw[hdst] at this;exact this
 obtain⟨a,ha,ka⟩:=bG hF hx;rw[VS] at ka;subst ka;obtain⟨_,kY,lm,h1,h2,h3,h4⟩:=hR.obj i _ hS (λh=>by cases h)
 have hm:h.mapOf kY=some (lm,c):=by unfold H.mapOf;rw[(hR.row kY _ h1).2.1]
 rw[<-h2.1,ac] at hkj;obtain⟨e,he,rfl⟩:=aq hkj;obtain⟨y,hy,ky⟩:=h3.get hvj;rw[ac,he] at hy;simp only[a5,Option.some.injEq] at hy;subst hy;refine .v hop hdst (cK hF (dN hst hw)) rfl hd (by rw[Gs,show ev (dj af n') x=_ from ha,ad,yA h4 hm h2.2.1 (h2.2.2 _ rfl).1 he];rfl) ?_;refine hk ρ0 h0 _ ⟨rfl,rfl,θ,ρ,hR,hF.put (fW hd) ?_⟩;rw[VS];refine⟨_,rfl,?_⟩;rw[aK];refine⟨_,_,rfl,Aq _,?_⟩;rw[aK];exact⟨_,_,rfl,ky.vs,by rw[aQ]⟩
def aI.Uj{oo j:Nat}{k:AV}{v:SV}(hst:eP all n [o]=true)(hop:o.op=.entry x)(hdst:o.dst=some d)(hw:db all f o.guard=some true)(hx:eF f x=some (.ptr i 0))(hS:S[i]?=some (.iter (.map oo) bs c (pos++[j])))(hM:S[oo]?=some (.map ks vs (some (bs,c))))(hkj:ks[j]?=some k)(hvj:vs[j]?=some v)
 (hk:aI P ro all l ⟨(d,.bE [Ap k,v])::f,n,S,ds⟩ K):aI P ro all (o::l) ⟨f,n,S,ds⟩ K:=by
 rintro ρ0 h0 ⟨af,n',h,ds'⟩ ⟨rfl,rfl,θ,ρ,hR,hF⟩
 have hd:blt d n'=true:=by
  have:=(ez hst).1;rw[hdst] at this;exact this
 obtain⟨a,ha,ka⟩:=bG hF hx;rw[VS] at ka;subst ka;obtain⟨_,kY,h3,h4⟩:=hR.obj i _ hS (λh=>by cases h);obtain⟨_,lm,c',q1,q2,q3⟩:=hR.obj oo _ hM (λh=>by cases h);rw[VS] at h3;simp only[AV.map.injEq,Option.some.injEq] at h3;subst h3;obtain⟨hb1,rfl⟩:=q2.2.2 _ rfl
 have hm:h.mapOf (θ oo).id=some (lm,c'):=by unfold H.mapOf;rw[q1]
 rw[<-q2.1,ac] at hkj;obtain⟨e,he,rfl⟩:=aq hkj;obtain⟨y,hy,ky⟩:=q3.get hvj;rw[ac,he] at hy;simp only[a5,Option.some.injEq] at hy;subst hy;refine .v hop hdst (cK hF (dN hst hw)) rfl hd (by rw[Gs,show ev (dj af n') x=_ from ha,ad,yA h4 hm q2.2.1 hb1 he];rfl) ?_;refine hk ρ0 h0 _ ⟨rfl,rfl,θ,ρ,hR,hF.put (fW hd) ?_⟩;rw[VS];refine⟨_,rfl,?_⟩;rw[aK];refine⟨_,_,rfl,Aq _,?_⟩;rw[aK];exact⟨_,_,rfl,ky,by rw[aQ]⟩
end
section
variable {θ θ':Nat->Loc} {ρ ρ0 ρ':kg} {P:Program} {h0:En} {h h1:H} {S S' S0:List SO}
def qw(S:List SO)(r:Nat->Nat):List SO->List Nat->Prop
 | [],_=>True
 | so::l,o::os=>(so=.gone\/S[o]?=some (nk r so))/\qw S r l os
 | _::_,[]=>False
def Kt{r:Nat->Nat}:∀{S0:List SO} {os:List Nat},qw S r S0 os->∀(i:Nat) so,S0[i]?=some so->so≠.gone->∃o,os[i]?=some o/\S[o]?=some (nk r so)
 | [],_,_,i,so,h,_=>by simp at h
 | s::l,o::os,hh,0,so,h,hg=>by
  simp only[ay,Option.some.injEq] at h;subst h;exact⟨o,rfl,hh.1.resolve_left hg⟩
 | s::l,o::os,hh,i+1,so,h,hg=>by
  simp only[ax] at h ⊢;exact Kt hh.2 i so h hg
 | _::_,[],hh,_,_,_,_=>hh.elim
def Fg.rn(os:List Nat){f f':Fm}{n:Nat}{ds:List iV}(hnd:os.Nodup)(hK:os.length=S'.length)(hos:qw S (jC os S.length) S' os)(hf:rL f (QG (jC os S.length) f')):Fg ⟨f,n,S,ds⟩ ⟨f',n,S',ds⟩:=by
 refine⟨rfl,?_⟩;rintro ρ0 h0 ⟨af,n',h,ds'⟩ ⟨rfl,rfl,θ,ρ,hR,hF⟩;obtain⟨r,hr⟩:∃r,r=jC os S.length:=⟨_,rfl⟩;rw[<-hr] at hos hf
 have hmem:∀(i:Nat) so,S'[i]?=some so->so≠.gone->S[r i]?=some (nk r so):=by
  intro i so hi hg;obtain⟨o,h2,h3⟩:=Kt hos i so hi hg;rw[hr,mU h2,<-hr];exact h3
 have hinj:∀i j,i<S'.length->j<S'.length->r i=r j->i=j:=by
  intro i j hi hj e;rw[hr,mU (aa (show i<os.length by omega)),mU (aa (show j<os.length by omega))] at e;exact(List.getElem_inj hnd).1 e
 refine⟨rfl,rfl,λp=>θ (r p),ρ,⟨hR.ok,hR.nx,hR.ob,hR.fm,hR.lw,hR.ln,?_,?_,?_,hR.mB⟩,λi=>?_,hF.u⟩
 ·intro o so h1 h2;obtain⟨k1,k2⟩:=hR.obj _ _ (hmem o so h1 h2) (fc.2 h2);exact⟨k1,(nj.rn r).1 k2⟩
 ·intro o o' so so' hne h1 h2 h3 h4;exact hR.sep _ _ _ _ (λe=>hne (hinj o o' (bD h1) (bD h3) e)) (hmem o so h1 h2) (fc.2 h2) (hmem o' so' h3 h4) (fc.2 h4)
 ·intro id ob hi;obtain⟨r1,r2,r3⟩:=hR.row id ob hi;exact⟨r1,r2,λo so h1 h2=>r3 _ _ (hmem o so h1 h2) (fc.2 h2)⟩
 ·have hv:=hF.v i
  rcases hf.get i with e | e
  ·rw[xS] at e;rw[<-e] at hv;exact(VS.rn r).1 hv
  ·rw[xS] at e
   have:aX f' i=.any:=by
    cases hq:aX f' i<;>rw[hq] at e<;>first | rfl | (simp[fU] at e;done)
   show VS _ _ (aX f' i) _;rw[this,VS];trivial
def Fg.wk{f f':Fm}{n:Nat}{ds:List iV}(hf:C4 [] f f'):Fg ⟨f,n,S,ds⟩ ⟨f',n,S,ds⟩:=by
 refine⟨rfl,?_⟩;rintro ρ0 h0 ⟨af,n',h,ds'⟩ ⟨rfl,rfl,θ,ρ,hR,hF⟩;refine⟨rfl,rfl,θ,ρ,hR,λi=>?_,hF.u⟩;have hv:=hF.v i
 rcases hf.get i with e | e
 ·show VS θ ρ (aX f' i) _;rw[e];exact hv
 ·have:=Wk.ok hR.DH e hv;rw[Ac] at this;exact this.vs
def Fg.JY(o:Nat){f:Fm}{n:Nat}{ds:List iV}{ks:List AV}{vs:List SV}{b:Option (List Nat×Nat)}(hS:S[o]?=some (.map ks vs b)):Fg ⟨f,n,S,ds⟩ ⟨f,n,S.set o (.map ks vs none),ds⟩:=by
 refine⟨rfl,?_⟩;rintro ρ0 h0 ⟨af,n',h,ds'⟩ ⟨rfl,rfl,θ,ρ,hR,hF⟩;exact⟨rfl,rfl,θ,ρ,hR.T2 hS (λh=>by cases h) λ⟨l,c,h1,h2,h3⟩=>⟨l,c,h1,⟨h2.1,h2.2.1,λp hp=>by cases hp⟩,h3⟩,hF⟩
section
variable {K U:Type} [DecidableEq K] {kv:K->AV} {uv:U->SV} {k:K} {l:List (K×U)} {t kt et:TypeId} {o:Nat} {x:SV}
def lV(k:K):List (K×U)->List (K×U)
 | []=>[]
 | e::l=>if k=e.1 then l else e::lV k l
def Fy:∀{l:List (K×U)},dy k l=false->lV k l=l
 | [],_=>rfl
 | e::l,h=>by
  simp only[dy,List.any_cons,Bool.or_eq_false_iff,wp] at h;rw[lV,un h.1,Fy (by simpa [dy] using h.2)]
def Fz:∀{l:List (K×U)} {j i:Nat},oT k l j=some i->lV k l=l.eraseIdx (i-j)
 | [],_,_,h=>by cases h
 | e::l,j,i,h=>by
  have hle:=(gC h).1;unfold oT at h;split at h
  ·rename_i hk;cases h;rw[lV,ul hk,Nat.sub_self];rfl
  ·rename_i hk;have h2:=(gC h).1;rw[lV,un hk,Fz h,show i-j=(i-(j+1))+1 by omega,List.eraseIdx_cons_succ]
def lf:∀{l:List (K×U)},(l.map (·.1)).Nodup->lV k l=l.filter λe=>!decide (e.1=k)
 | [],_=>rfl
 | e::l,h=>by
  rw[ba,bk] at h;by_cases hk:k=e.1
  ·rw[lV,ul hk,be,un (by simp[hk])];symm;rw[List.filter_eq_self];intro x hx;have:x.1≠k:=λhe=>h.1 (by rw[<-hk,<-he];exact bd hx);simp[this]
  ·rw[lV,un hk,be,ul (by simp;exact λh=>hk h.symm),lf h.2]
def Sy(hm:cW P t=some (kt,et))(hk:Keys P kt kv)(hS:S[o]?=some (bz kv uv l))(hf:cG x=some (kv k)):
 LA P S t (.map o) x=some (S.set o (bz kv uv (lV k l))):=by
 unfold LA;rw[hm,ad];simp only;rw[hf,ad,hk.ck,ai,hS];simp only[bz];rw[mz hk,a5]
 cases hp:oT k l 0 with
 | none=>
  rw[Fy (iH hp)];simp only
  congr 1
  have hlt:=bD hS;apply List.ext_getElem?;intro i;by_cases e:i=o
  ·subst e;rw[a0 hlt,hS];rfl
  ·rw[a6 (λh=>e h.symm)]
 | some i=>
  have:=Fz hp;rw[bb] at this;rw[this];simp only[Option.map_none]
  congr 2
  congr 1
  ·exact(fi _ _ _).symm
  ·exact(fi _ _ _).symm
end
end
def pF:∀(n:Nat) (l:List Nat),l.Nodup->(∀x∈l,x<n)->l.length<=n
 | 0,l,_,h=>by
  cases l with
  | nil=>exact a7 _
  | cons a l=>exact t8 (h a al) (Nat.not_lt_zero _)
 | n+1,l,hn,h=>by
  by_cases hm:n∈l
  ·have h1:=pF n (l.erase n) (hn.erase n) (λx hx=>by
    have h2:=(hn.mem_erase_iff.1 hx);have:=h x h2.2;have:=h2.1
    omega)
   rw[List.length_erase_of_mem hm] at h1;have:0<l.length:=List.length_pos_of_mem hm;omega
  ·exact Nat.le_succ_of_le (pF n l hn λx hx=>by
    have:=h x hx;have:x≠n:=λe=>hm (e▸hx)
    omega)
def oU{n j:Nat}{pos:List Nat}(hn:pos.Nodup)(hp:∀x∈pos,x<n)(hj:j<n)(hne:j∉pos):(pos++[j]).Nodup/\(∀x∈pos++[j],x<n)/\pos.length<n:=by
 have h1:(pos++[j]).Nodup:=by
  rw[List.nodup_append];exact⟨hn,by simp,λa ha b hb=>by rw[List.mem_singleton.1 hb];exact λe=>hne (e▸ha)⟩
 have h2:∀x∈pos++[j],x<n:=λx hx=>by
  rcases mem_append.1 hx with hx | hx
  ·exact hp x hx
  ·rw[List.mem_singleton.1 hx];exact hj
 refine⟨h1,h2,?_⟩;have:=pF n _ h1 h2;rw[List.length_append] at this;exact this
section
variable {P:Program} {ro:Option Nat} {S S':List SO} {n:Nat} {ds:List iV}
def ij{f1 f2:Fm}:∀{l:List Operand},(∀x∈l,eF f1 x=eF f2 x)->mY f1 l=mY f2 l
 | [],_=>rfl
 | x::l,h=>by rw[mY,mY,h x al,ij λy hy=>h y (bc _ hy)]
def uq{f1 f2:Fm}:∀{l:List (Nat×Operand)},(∀x∈l.map (·.2),eF f1 x=eF f2 x)->j9 f1 l=j9 f2 l
 | [],_=>rfl
 | (i,x)::l,h=>by rw[j9,j9,h x al,uq λy hy=>h y (bc _ hy)]
def sM{f1 f2:Fm}{o:Option Operand}(h:∀x,o=some x->eF f1 x=eF f2 x):uk f1 o=uk f2 o:=by
 cases o with
 | none=>rfl
 | some x=>rw[uk,uk,h x rfl]
def lk:Op->Bool
 | .store _ _ _ | .mapUpdate _ _ _ _ | .insert _ _ _ _ | .call { callee:=.builtin .copy,.. }=>true
 | _=>false
def vP{f1 f2:Fm}{op:Op}(hrd:(pW op||lk op)=true)(h:∀x∈op.operands.toList,eF f1 x=eF f2 x):dA P f1 S op=dA P f2 S op:=by
 cases op with
 | move x=>rw[dA,dA,h x (by simp[Op.operands])]
 | assign x=>rw[dA,dA,h x (by simp[Op.operands])]
 | pick c a b=>rw[dA,dA,h c (by simp[Op.operands]),h a (by simp[Op.operands]),h b (by simp[Op.operands])]
 | build tt ps=>rw[dA,dA,uq λx hx=>h x (by simpa [Op.operands] using hx)]
 | nilCheck x=>rw[dA,dA,h x (by simp[Op.operands])]
 | binOp op xt x y yt=>rw[dA,dA,h x (by simp[Op.operands]),h y (by simp[Op.operands])]
 | unOp op xt x=>rw[dA,dA,h x (by simp[Op.operands])]
 | convert s d x=>rw[dA,dA,h x (by simp[Op.operands])]
 | fieldAddr s x fl=>rw[dA,dA,h x (by simp[Op.operands])]
 | field s x fl=>rw[dA,dA,h x (by simp[Op.operands])]
 | indexAddr t x i=>rw[dA,dA,h x (by simp[Op.operands]),h i (by simp[Op.operands])]
 | index t x i=>rw[dA,dA,h x (by simp[Op.operands]),h i (by simp[Op.operands])]
 | extract x i=>rw[dA,dA,h x (by simp[Op.operands])]
 | load t x=>rw[dA,dA,h x (by simp[Op.operands])]
 | lookup t x k ok=>rw[dA,dA,h x (by simp[Op.operands]),h k (by simp[Op.operands])]
 | slice t x lo hi mx=>
  rw[dA,dA,h x (by simp[Op.operands]),sM (o:=lo) λy hy=>h y (by subst hy;simp[Op.operands]),sM (o:=hi) λy hy=>h y (by subst hy;simp[Op.operands]),sM (o:=mx) λy hy=>h y (by subst hy;simp[Op.operands])]
 | makeFunc g first cap=>
  cases g with
  | func g=>rw[dA,dA,ij λx hx=>h x (by simp only[Op.operands,ag,mem_append];exact .inl hx),ij (l:=cap.toList) λx hx=>h x (by simp only[Op.operands,ag,mem_append];exact .inr hx)]
  | method nm=>rw[dA,dA,ij λx hx=>h x (by simp only[Op.operands,ag,mem_append];exact .inl hx),ij (l:=cap.toList) λx hx=>h x (by simp only[Op.operands,ag,mem_append];exact .inr hx)]
  | _=>simp[pW,lk] at hrd
 | call c=>
  obtain⟨callee,aS,ats⟩:=c
  cases callee with
  | builtin b=>rw[dA,dA,ij λx hx=>h x (by simp only[Op.operands,Call.operands,ag,mem_append];exact .inr hx)]
  | _=>simp[pW,lk] at hrd
 | store t a x=>rw[dA,dA,h a (by simp[Op.operands]),h x (by simp[Op.operands])]
 | mapUpdate t m k x=>rw[dA,dA,h m (by simp[Op.operands]),h k (by simp[Op.operands]),h x (by simp[Op.operands])]
 | insert t m k x=>rw[dA,dA,h m (by simp[Op.operands]),h k (by simp[Op.operands]),h x (by simp[Op.operands])]
 | _=>simp[pW,lk] at hrd
def Tq(ol:List Oper):Nat->Nat->List Nat
 | 0,_=>[]
 | k+1,i=>match ol[i]? with
  | some o=>let l:=(o.after.toList.filter dep).map (·.on);l++l.flatMap (Tq ol k)
  | none=>[]
def lS(ol:List Oper)(L:Nat->Prop):Prop:=∀j o,ol[j]?=some o->L j->∀e∈o.after.toList,dep e=true->L e.on
def Ni{ol:List Oper}{L:Nat->Prop}(hc:lS ol L):∀{k i:Nat},(∀o,ol[i]?=some o->∀e∈o.after.toList,dep e=true->L e.on)->∀j∈Tq ol k i,L j
 | 0,i,_,j,h=>by cases h
 | k+1,i,hi,j,h=>by
  rw[Tq] at h
  cases ho:ol[i]? with
  | none=>rw[ho] at h;cases h
  | some o=>
   rw[ho] at h;simp only[mem_append,mem_map,List.mem_flatMap] at h
   rcases h with⟨e,he,rfl⟩ | ⟨x,⟨e,he,rfl⟩,hx⟩
   ·obtain⟨h1,h2⟩:=mem_filter.1 he;exact hi o ho e h1 h2
   ·obtain⟨h1,h2⟩:=mem_filter.1 he;have hl:=hi o ho e h1 h2;exact Ni hc (i:=e.on) (λo' ho'=>hc e.on o' ho' hl) j hx
def vo(L:Nat->Prop)(i:Nat)(v:SV):SV:=@ite _ (L i) (Classical.propDecidable _) v .any
def dq{L:Nat->Prop}{i:Nat}{v:SV}(h:L i):vo L i v=v:=ul h
def qX{L:Nat->Prop}{i:Nat}{v:SV}(h:¬L i):vo L i v=.any:=un h
def aI.num{all l:List Oper}{st:eB}{K:eB->Prop}(h:aI P ro all l st K):aI P ro all l st (λx=>K x/\x.n=st.n):=
 λρ0 h0 ast hs=>(h ρ0 h0 ast hs).mono λ_ ⟨x,k1,k2,k3⟩=>⟨x,⟨k1,k2⟩,k2,k3⟩
def ar.post{c:Code}{st:eB}{Q:Ex->eB->Prop}(h:ar P ro c st λe x=>∃x',Fg x x'/\Q e x'):ar P ro c st Q:=
 λρ0 h0 ast hs=>(h ρ0 h0 ast hs).mono λ_ _ ⟨_,⟨x',hf,hq⟩,hn,hst⟩=>⟨x',hq,hf.1.trans hn,hf.2 _ _ _ hst⟩
end
section
variable {P:Program} {ro:Option Nat} {S S':List SO} {n:Nat} {ds:List iV} {f f':Fm}
def PF(W:List SO)(o:Nat):List SO->List SO->Nat->Prop
 | _,[],_=>True
 | s::S,s'::S',i=>(s'=.gone\/(i≠o/\(s'=s\/∃cs cs',s=.cells cs/\s'=.cells cs'/\bp W cs cs')))/\PF W o S S' (i+1)
 | [],_::_,_=>False
def C5{W:List SO}{o:Nat}:∀{S S':List SO} {i:Nat},PF W o S S' i->∀(p:Nat) s',S'[p]?=some s'->s'≠.gone->i+p≠o/\∃s,S[p]?=some s/\s≠.gone/\(s'=s\/∃cs cs',s=.cells cs/\s'=.cells cs'/\bp W cs cs')
 | _,[],_,_,p,s',h,_=>by simp at h
 | s::S,t::S',i,hh,0,s',h,hg=>by
  simp only[ay,Option.some.injEq] at h;subst h;obtain⟨h1,h2⟩:=hh.1.resolve_left hg;refine⟨h1,s,rfl,?_,h2⟩
  rcases h2 with h2 | ⟨cs,cs',h2,h3,_⟩
  ·rw[<-h2];exact hg
  ·rw[h2];exact λh=>by cases h
 | s::S,t::S',i,hh,p+1,s',h,hg=>by
  simp only[ax] at h ⊢;obtain⟨h1,h2⟩:=C5 hh.2 p s' h hg;exact⟨by omega,h2⟩
 | [],_::_,_,hh,_,_,_,_=>hh.elim
def Fg.xT(o:Nat){so:SO}(hS:S[o]?=some so)(hg:so≠.gone)(hf:C4 (na o so) f f')(hO:PF (na o so) o S S' 0):Fg ⟨f,n,S,ds⟩ ⟨f',n,S',ds⟩:=by
 refine⟨rfl,?_⟩;rintro ρ0 h0 ⟨af,n',h,ds'⟩ ⟨rfl,rfl,θ,ρ,hR,hF⟩
 have hsub:∀(p:Nat) (s:SO),(na o so)[p]?=some s->s≠.gone->S[p]?=some s:=by
  intro p s h1 h2;obtain⟨rfl,rfl⟩:=rD h1 h2;exact hS
 have hR1:=hR.sub hsub
 have hset:∀(p:Nat) (s:SO),S'[p]?=some s->s≠.gone->p≠o/\∃s0,S[p]?=some s0/\s0≠.gone/\(s=s0\/∃cs cs',s0=.cells cs/\s=.cells cs'/\bp (na o so) cs cs'):=by
  intro p s h1 h2;have:=C5 hO p s h1 h2
  rwa [bv] at this
 have hm:∀id ob,ρ id=some ob->oV θ ρ h (na o so) id=some ob:=λid ob hi=>qL hi
 have key:∀id ob,oV θ ρ h (na o so) id=some ob->ρ id=some ob\/id=(θ o).id:=by
  intro id ob hi;unfold oV at hi
  cases hr:ρ id with
  | some ob'=>rw[hr] at hi;exact .inl hi
  | none=>
   rw[hr] at hi;simp only at hi;split at hi
   ·rename_i hex;obtain⟨p,s,q1,q2,rfl⟩:=hex;obtain⟨rfl,_⟩:=rD q1 q2;exact .inr rfl
   ·cases hi
 refine⟨rfl,rfl,θ,oV θ ρ h (na o so),⟨hR.ok,hR.nx,hR.ob,hR.fm,hR.lw,hR.ln,?_,?_,?_,?_⟩,λi=>?_,hF.u⟩
 ·intro p s h1 h2;obtain⟨_,s0,g1,g2,g3⟩:=hset p s h1 h2;obtain⟨k,k2⟩:=hR.obj p s0 g1 g2;refine⟨k,?_⟩
  rcases g3 with rfl | ⟨cs,cs',rfl,rfl,hw⟩
  ·exact k2.mono hm rfl rfl
  ·obtain⟨aS,q1,q2,q3⟩:=k2;exact⟨aS,q1,(hw.ok hR1 q2).vs,q3⟩
 ·intro p q s s' hpq h1 h2 h3 h4;obtain⟨_,s0,g1,g2,_⟩:=hset p s h1 h2;obtain⟨_,s1,g3,g4,_⟩:=hset q s' h3 h4;exact hR.sep p q s0 s1 hpq g1 g2 g3 g4
 ·intro id ob hi;obtain⟨r1,r2⟩:=pH hR1 id ob hi;refine⟨r1,r2,λp s h1 h2=>?_⟩;obtain⟨hp,s0,g1,g2,_⟩:=hset p s h1 h2
  rcases key id ob hi with e | e
  ·exact(hR.row id ob e).2.2 p s0 g1 g2
  ·subst e;have sp:=hR.sep p o s0 so hp g1 g2 hS hg;obtain⟨k,_⟩:=hR.obj o so hS hg
   rcases k.e with e | e<;>rw[e]
   ·exact⟨sp.xx.symm,sp.yx.symm⟩
   ·exact⟨sp.xy.symm,sp.yy.symm⟩
 ·intro id ob hi
  rcases key id ob hi with e | e
  ·exact hR.mB id ob e
  ·subst e;obtain⟨k,_⟩:=hR.obj o so hS hg;exact .inr (by rcases k.e with e | e<;>rw[e];exact k.x.1;exact k.y.1)
 ·rcases hf.get i with e | e
  ·rw[e];exact(hF.v i).mono hm
  ·exact(e.ok hR1 (hF.v i)).vs
def Fg.Ur(hO:PF [] S.length S S' 0):Fg ⟨f,n,S,ds⟩ ⟨f,n,S',ds⟩:=by
 refine⟨rfl,?_⟩;rintro ρ0 h0 ⟨af,n',h,ds'⟩ ⟨rfl,rfl,θ,ρ,hR,hF⟩
 have hset:∀(p:Nat) (s:SO),S'[p]?=some s->s≠.gone->∃s0,S[p]?=some s0/\s0≠.gone/\(s=s0\/∃cs cs',s0=.cells cs/\s=.cells cs'/\bp [] cs cs'):=by
  intro p s h1 h2;exact(C5 hO p s h1 h2).2
 refine⟨rfl,rfl,θ,ρ,⟨hR.ok,hR.nx,hR.ob,hR.fm,hR.lw,hR.ln,?_,?_,?_,hR.mB⟩,hF⟩
 ·intro p s h1 h2;obtain⟨s0,g1,g2,g3⟩:=hset p s h1 h2;obtain⟨k,k2⟩:=hR.obj p s0 g1 g2;refine⟨k,?_⟩
  rcases g3 with rfl | ⟨cs,cs',rfl,rfl,hw⟩
  ·exact k2
  ·obtain⟨aS,q1,q2,q3⟩:=k2;have:=hw.ok hR.DH q2;rw[Ac] at this;exact⟨aS,q1,this.vs,q3⟩
 ·intro p q s s' hpq h1 h2 h3 h4;obtain⟨s0,g1,g2,_⟩:=hset p s h1 h2;obtain⟨s1,g3,g4,_⟩:=hset q s' h3 h4;exact hR.sep p q s0 s1 hpq g1 g2 g3 g4
 ·intro id ob hi;obtain⟨r1,r2,r3⟩:=hR.row id ob hi;refine⟨r1,r2,λp s h1 h2=>?_⟩;obtain⟨s0,g1,g2,_⟩:=hset p s h1 h2;exact r3 p s0 g1 g2
def wo(L:Nat->Prop)(i:Nat)(so:SO):SO:=@ite _ (L i) (Classical.propDecidable _) so .gone
def lO{L:Nat->Prop}{i:Nat}{so:SO}(h:L i):wo L i so=so:=ul h
def gp{L:Nat->Prop}{i:Nat}{so:SO}(h:¬L i):wo L i so=.gone:=un h
def aO(L:Nat->Prop)(i k:Nat)(v:SV):vo (λj=>L j\/j=i) k v=if k=i then v else vo L k v:=by
 by_cases h:k=i
 ·rw[ul h];exact dq (.inr h)
 ·rw[un h];by_cases hl:L k
  ·rw[dq hl];exact dq (.inl hl)
  ·rw[qX hl];exact qX λe=>e.elim hl h
def fe(L:Nat->Prop)(i k:Nat)(so:SO):wo (λj=>L j\/j=i) k so=if k=i then so else wo L k so:=by
 by_cases h:k=i
 ·rw[ul h];exact lO (.inr h)
 ·rw[un h];by_cases hl:L k
  ·rw[lO hl];exact lO (.inl hl)
  ·rw[gp hl];exact gp λe=>e.elim hl h
def jW(o:Nat)(L:Nat->Prop)(i:Nat)(so:SO):bQ o (wo L i so)=wo L i (bQ o so):=by
 by_cases hl:L i
 ·rw[lO hl,lO hl]
 ·rw[gp hl,gp hl];rfl
def r6(r:Nat->Nat)(L:Nat->Prop)(i:Nat)(v:SV):fU r (vo L i v)=vo L i (fU r v):=by
 by_cases hl:L i
 ·rw[dq hl,dq hl]
 ·rw[qX hl,qX hl,fU]
def r7(r:Nat->Nat)(L:Nat->Prop)(i:Nat)(so:SO):nk r (wo L i so)=wo L i (nk r so):=by
 by_cases hl:L i
 ·rw[lO hl,lO hl]
 ·rw[gp hl,gp hl];rfl
def cu(o:Nat)(L:Nat->Prop)(i:Nat)(v:SV)(h:names o v=false):names o (vo L i v)=false:=by
 by_cases hl:L i
 ·rw[dq hl];exact h
 ·rw[qX hl];simp[names]
def mh(i:Nat)(v:SV):vo (λ_=>False) i v=.any:=qX λh=>h
def Lh(i:Nat)(so:SO):wo (λ_=>False) i so=.gone:=gp λh=>h
end
def ET.defer{P:Program}{o:Oper}{f:Nat->AV}{m:Nat}{h:H}{ds:List iV}{K:gq->Prop}{c:Call}{x:Operand}{g:FuncId}{first cap xs:List AV}(hop:o.op=.defer c)(hd:wj o.dst m=true)(hcal:c.callee=.value x)(hx:ev (dj f m) x=some (.fn (.func g) first cap))(hargs:xm (dj f m) c.args.toList=some xs)
 (hk:K ⟨HP f o.dst kn,m,h,{ fn:=some (.func g),qe:=0,args:=first++xs,cap }::ds⟩):ET P none o ⟨f,m,h,ds⟩ K:=by
 intro F n σ a w next Q hs hF hnext
 refine⟨λf _=>hF.fn f,?_⟩;have hρ:=hs.sr.t.ev;have hF':F=Fence.wide:=hF;subst hF';have hxs:=pk hρ _ _ hargs;have hV:=hρ _ _ hx;generalize hgv:a.eval x=v at hV
 cases hV with
 | @fn _ _ _ fs' cs' hfy h1 h2 h3 h4=>
  have hfs:VL σ first fs'.toList:=⟨by simpa using h1,λi a v x y=>h2 i a v x (by simpa using y)⟩
  have hcs:VL σ cap cs'.toList:=⟨by simpa using h3,λi a v x y=>h4 i a v x (by simpa using y)⟩
  have hrun:(o.semAt none a.eval).run P w=.ok (.defer { target:=.fn (.func g) cs',args:=fs'++c.args.map a.eval }) w:=by
   simp only[Oper.semAt_none,execOp,hop,resolve,hcal,hgv,Deferred.ofValue,Sem.run_bind,Sem.run_pure,Result.andThen_ok]
  show o.uponIn Fence.wide n P a next Q ((o.semAt none a.eval).run P w)
  rw[hrun];refine hnext _ _ w σ hk ⟨?_,hs.h,?_⟩ (.refl _ _ _) rfl
  ·exact(TF.put (a:={ a with defers:=_::a.defers }) hs.t (FC hd) V.kn)
  ·rw[put_defers];refine⟨⟨g,cs',rfl,rfl,?_,hcs⟩,hs.ds⟩;simp only[ag,Array.toList_map];exact hfs.append hxs
section
variable {θ θ':Nat->Loc} {ρ ρ0 ρ':kg} {P:Program} {h0:En} {h h1:H} {S S' S0:List SO}
def aI.defer{all:List Oper}{o:Oper}{l:List Oper}{K:eB->Prop}{f:Fm}{n:Nat}{ds:List iV}{cl:Call}{x:Operand}{g:FuncId}{first cap vs:List SV}(hst:eP all n [o]=true)(hop:o.op=.defer cl)(hdst:o.dst=none)(hw:db all f o.guard=some true)(hn:n<=1000000)
 (hcal:cl.callee=.value x) (hx:eF f x=some (.fn g first cap)) (hargs:mY f cl.args.toList=some vs) (hlow:xr (7000000+ds.length) f=true)
 (hk:∀a:iV,a.fn=some (.func g)->aI P none all l ⟨(7000000+ds.length,.fn g (first++vs) cap)::f,n,S,a::ds⟩ K):aI P none all (o::l) ⟨f,n,S,ds⟩ K:=by
 rintro ρ0 h0 ⟨af,n',h,ds'⟩ ⟨rfl,rfl,θ,ρ,hR,hF⟩;obtain⟨a,ha,ka⟩:=bG hF hx;obtain⟨aS,has,kas⟩:=kZ hF hargs;rw[VS] at ka;obtain⟨xs,ys,rfl,kx,ky⟩:=ka;refine iN.cons (cK hF (dN hst hw)) (ET.defer hop (by rw[hdst];rfl) hcal ha has ?_);rw[hdst];refine hk { fn:=some (.func g),qe:=0,args:=xs++aS,cap:=ys } rfl ρ0 h0 ⟨af,n',h,_⟩ ⟨rfl,rfl,θ,ρ,hR,?_⟩;have hF2:=hF.push { fn:=some (.func g),qe:=0,args:=xs++aS,cap:=ys } hlow;refine⟨λi=>?_,hF2.u⟩;show VS θ ρ (if 7000000+ds'.length=i then _ else aX f i) _;by_cases e:7000000+ds'.length=i
 ·subst e;have hn1:n'<=1000000:=hn;rw[ul rfl];show VS θ ρ _ (if 7000000+ds'.length<n' then _ else xI h0.w _ (7000000+ds'.length));rw[un (by omega),xI,ul (by omega),aj,Kn rfl,VS];exact⟨_,_,rfl,kx.app kas,ky⟩
 ·rw[un e];exact hF2.v i
def x9(P:Program)(n:Nat):List iV->Fm->List SO->(Fm->List SO->Prop)->Prop
 | [],f,S,K=>K f S
 | d::ds,f,S,K=>∃f2,rL f f2/\xr (7000000+ds.length) f2=true/\((d.fn=none/\∃o:Nat,S[o]?=some (.ox d.qe)/\x9 P n ds f2 (S.set o .gone) K)\/
  ∃(g:FuncId) (first cap:List SV) (fn:Func) (c:Code) (m:Nat),d.fn=some (.func g)/\aX f (7000000+ds.length)=.fn g first cap/\P.funcs[g]?=some fn/\fn.body=some c/\(first++cap).length+(fn.ntmps-(first++cap).length)=m/\m<=1000000/\
   ar P none c ⟨kj 0 (first++cap)++Ld laid f2,m,S,[]⟩ λe st=>kJ e=true/\st.ds=[]/\(∃vs,mT P st.f st.S fn.results.toList=some vs)/\x9 P n ds (uM laid st.f) st.S K)
def JX{aS:List AV}:∀(o:Option (List AV)),o=some aS->o.map (λvs=>match vs with | [v]=>v | vs=>AV.bE vs)=some (Pn aS):=by
 rintro _ rfl
 match aS with
 | []=>rfl
 | [_]=>rfl
 | _::_::_=>rfl
def FR.pop{f f2:Fm}{af:Nat->AV}{n:Nat}{w:Nat->AV}{d:iV}{ds:List iV}(hF:FR θ ρ (aX f) af n (xI w (d::ds)))(hh:rL f f2)(hl:xr (7000000+ds.length) f2=true):FR θ ρ (aX f2) af n (xI w ds):=by
 refine⟨λi=>?_,λi hi=>by have:=hF.u i hi;rw[pP _ _ (by omega)] at this ⊢;exact this⟩
 rcases hh.get i with e | e
 ·have hv:=hF.v i;rw[e];by_cases hin:i<n
  ·rw[ul hin] at hv ⊢;exact hv
  rw[un hin] at hv ⊢;by_cases h1:i<7000000
  ·rw[pP _ _ h1] at hv ⊢;exact hv
  ·by_cases h2:i-7000000<ds.length
   ·cases ds with
    | nil=>simp at h2
    | cons d' ds=>
     rw[xI,ul (by omega),FB h2] at hv;rw[xI,ul (by omega)];exact hv
   ·have e2:=tK hl (show 7000000+ds.length<=i by omega);rw[<-e,e2,VS];trivial
 ·rw[e,VS];trivial
def qZ{n:Nat}{af:Nat->AV}{K:Fm->List SO->Prop}(hn:n<=1000000):∀(ds:List iV) (f:Fm) (S:List SO) (h:H) (θ:Nat->Loc) (ρ:kg),x9 P n ds f S K->RS θ ρ0 ρ h0 h S->FR θ ρ (aX f) af n (xI h0.w ds)->
 EW P ds h λh''=>∃f' S' θ' ρ',K f' S'/\RS θ' ρ0 ρ' h0 h'' S'/\FR θ' ρ' (aX f') af n h0.w
 | [],f,S,h,θ,ρ,hl,hR,hF=>⟨f,S,θ,ρ,hl,hR,hF⟩
 | d::ds,f,S,h,θ,ρ,hl,hR,hF=>by
  obtain⟨f2,hh,hlow,hl⟩:=hl;have hF2:=hF.pop hh hlow;rw[EW]
  rcases hl with⟨hdf,o,hS,hl⟩ | ⟨g,first,cap,fn,c,m,hdf,hfv,hfn,hb,hm,hm1,hl⟩
  ·rw[hdf];obtain⟨_,hid,hob⟩:=hR.obj o _ hS (λe=>by cases e);rw[hid] at hob;refine⟨hob,qZ hn ds f2 _ _ θ ρ hl ?_ hF2⟩;rw[<-hid];exact hR.put hS (λe=>by cases e) trivial
  ·rw[hdf];have hv:=hF.v (7000000+ds.length);rw[hfv,un (by omega)] at hv;rw[xI,ul (by omega),Nat.add_sub_cancel_left,Kn hdf,VS] at hv;obtain⟨xs,ys,e,kx,ky⟩:=hv;simp only[AV.fn.injEq,true_and] at e;obtain⟨e1,e2⟩:=e
   have kall:c7 θ ρ (first++cap) (d.args++d.cap):=by rw[e1,e2];exact kx.app ky
   have hlen:=kall.length;refine⟨fn,c,m,hfn,hb,by rw[hlen];exact hm,?_⟩
   obtain⟨w',hw'⟩:∃w':Nat->AV,w'=λi=>if laid<=i then (if i-laid<n then af (i-laid) else xI h0.w ds (i-laid)) else kn:=⟨_,rfl⟩
   have hvl:(first++cap).length<=m:=by omega
   have hst1:jG ρ0 { h0 with w:=w' } ⟨kj 0 (first++cap)++Ld laid f2,m,S,[]⟩ ⟨rM (d.args++d.cap),m,h,[]⟩:=by
    refine⟨rfl,rfl,θ,ρ,hR.w _,λi=>?_,λi hi=>?_⟩
    ·by_cases hi:i<(first++cap).length
     ·obtain⟨w,hw⟩:=yf (first++cap) 0 i (Nat.zero_le _) (by omega);show VS θ ρ (aX (kj 0 (first++cap)++Ld laid f2) i) _;rw[vg _ _ _ hw,s8,ul (Nat.zero_le _),Nat.sub_zero,List.getElem?_eq_getElem hi];obtain⟨a,ha,ka⟩:=kall.get (List.getElem?_eq_getElem hi)
      have hil:i<m:=by omega
      rw[ul hil]
      have e:rM (d.args++d.cap) i=a:=by unfold rM;rw[ha]
      show VS θ ρ (first++cap)[i] (rM (d.args++d.cap) i);rw[e];exact ka
     ·show VS θ ρ (aX (kj 0 (first++cap)++Ld laid f2) i) _;rw[tn _ _ _ (λv=>uT (first++cap) 0 i v (by omega)),tq];by_cases hb:laid<=i
      ·rw[ul hb,un (show ¬i<m by unfold laid at hb;omega)];show VS θ ρ _ (w' i);rw[hw'];simp only;rw[ul hb];exact hF2.v (i-laid)
      ·rw[un hb,VS];trivial
    ·show w' i=kn;rw[hw'];simp only;rw[un (by unfold laid;omega)]
   refine(hl ρ0 _ _ hst1).mono ?_;rintro ex ⟨af2,n2,h2,ds2⟩ ⟨st,⟨he,hds,⟨vs,hres⟩,hK⟩,hn2,e3,e4,θ2,ρ2,hR2,hF3⟩;simp only at e3 e4 hR2 hF3 hn2;rw[hds] at e4;subst e4;subst e3;obtain⟨aS,k1,k2⟩:=tX hR2 hF3 hres;refine⟨he,rfl,⟨Pn aS,JX _ k1⟩,?_⟩;refine qZ hn ds _ _ _ θ2 ρ2 hK (hR2.w h0.w) ⟨λi=>?_,hF2.u⟩;rw[tp];have:=hF3.v (laid+i);rw[un (by rw[hn2];unfold laid;omega)] at this
   have e5:xI w' [] (laid+i)=if i<n then af i else xI h0.w ds i:=by
    show w' (laid+i)=_;rw[hw'];simp only;rw[ul (by omega),Nat.add_sub_cancel_left]
   rw[e5] at this;exact this
def EW.mono{K K':H->Prop}:∀(ds:List iV) (h:H),EW P ds h K->(∀h,K h->K' h)->EW P ds h K'
 | [],h,hl,hk=>hk h hl
 | d::ds,h,hl,hk=>by
  rw[EW] at hl ⊢
  cases hdf:d.fn with
  | none=>
   rw[hdf] at hl;exact⟨hl.1,EW.mono ds _ hl.2 hk⟩
  | some f=>
   rw[hdf] at hl
   cases f with
   | func g=>
    obtain⟨fn,c,m,q1,q2,q3,q4⟩:=hl;exact⟨fn,c,m,q1,q2,q3,q4.mono λe st ⟨a1,a2,a3,a4⟩=>⟨a1,a2,a3,EW.mono ds _ a4 hk⟩⟩
   | _=>exact hl.elim
def Lk(P:Program)(fn:Func)(Q:SV->Prop):Ex->eB->Prop:=λe st=>kJ e=true/\x9 P st.n st.ds st.f st.S λf S=>∃vs r,mT P f S fn.results.toList=some vs/\Wk S (dh vs) r/\Q r
def Sv(P:Program)(fn:Func)(K:Nat)(mv:List Nat)(Q:SV->List SO->Prop):Ex->eB->Prop:=λe st=>kJ e=true/\x9 P st.n st.ds st.f st.S λf S=>(∃vs,mT P f S fn.results.toList=some vs/\Q (dh vs) S)/\K<=S.length/\∀i,i<K->i∉mv->aX f (1000000+i)=.ptr i 0
def PC.rV(hng:sY P){g:FuncId}{fn:Func}{c:Code}{args:List SV}{Q:SV->Prop}(hf:P.funcs[g]?=some fn)(hb:fn.body=some c){n:Nat}(hn:args.length+(fn.ntmps-args.length)=n)(hlim:n<=1000000)
 (hw:ar P none c ⟨kj 0 args,n,[],[]⟩ (Lk P fn Q)):PC P g args Q:=by
 intro ρ h avs hρ hA;have hlen:=hA.length;refine dC.rV (n:=n) hng hf hb (by rw[hlen];exact hn) ?_
 have hst:jG ρ ⟨{ h with low:=h.next },λj=>j<h.next,λj=>j<h.next,h.next,λ_=>kn⟩ ⟨kj 0 args,n,[],[]⟩ ⟨rM avs,n,{ h with low:=h.next },[]⟩:=by
  refine⟨rfl,rfl,λ_=>⟨0,0,0,0⟩,ρ,⟨⟨λj hj=>hj,λj hj=>hj,λj hj=>a8 hj,a7 _⟩,a7 _,λ_ _=>rfl,λ_ _=>rfl,a7 _,a7 _,λo so h=>by simp at h,λo o' so so' _ h=>by simp at h,λid ob hi=>⟨(hρ id ob hi).1,(hρ id ob hi).2,λo so h=>by simp at h⟩,λid ob hi=>.inl hi⟩,?_,λ_ _=>rfl⟩;intro i;rw[s8,ul (a9 _),bb];by_cases hi:i<args.length
  ·rw[aa hi];obtain⟨a,ha,ka⟩:=hA.get (aa hi)
   have hil:i<n:=by omega
   rw[ul hil]
   have e:rM avs i=a:=by unfold rM;rw[ha]
   show VS _ _ args[i] (rM avs i);rw[e];exact ka.vs
  ·rw[List.getElem?_eq_none (by omega)];simp only;rw[VS];trivial
 refine(hw ρ _ _ hst).mono ?_;rintro e ⟨af,n',h',ds'⟩ ⟨st,⟨h1,hl⟩,h6,h7,h8,θ,ρ',hR,hF⟩;simp only at h6 h7 h8 hR hF;subst h7;rw[<-h8] at hl;refine⟨h1,?_⟩;have hlv:=qZ (by rw[h6];exact hlim) ds' st.f st.S h' θ ρ' hl hR hF;refine EW.mono ds' h' hlv ?_;rintro h'' ⟨f',S',θ',ρ'',⟨vs,r,h3,h4,h5⟩,hR',hF'⟩;obtain⟨aS,k1,k2⟩:=tX hR' hF' h3;refine⟨Pn aS,JX _ k1,r,oV θ' ρ'' h'' S',h5,⟨hR'.nx,λj hj=>hR'.ob j hj,λj hj=>hR'.fm j hj,λhl=>?_⟩,?_,h4.ok hR' (KT k2)⟩
 ·have:h.next<=h''.low:=hR'.lw;show gw h.low h''.low=h.low;exact ru (bt hl this)
 ·intro id ob hi;have hlt:=pH hR' id ob hi;unfold oV at hi
  cases hr:ρ'' id with
  | some ob'=>
   rw[hr] at hi;cases hi
   rcases hR'.mB id _ hr with e | e
   ·exact .inl e
   ·exact .inr ⟨a8 e,hlt.1,hlt.2⟩
  | none=>
   rw[hr] at hi;simp only at hi;split at hi
   ·rename_i hex;obtain⟨o,so,q1,q2,rfl⟩:=hex;obtain⟨k,_⟩:=hR'.obj o so q1 q2;exact .inr ⟨a8 (by rcases k.e with e | e<;>rw[e];exact k.x.1;exact k.y.1),hlt.1,hlt.2⟩
   ·cases hi
def SC.rV(hng:sY P){g:FuncId}{fn:Func}{c:Code}{args:List SV}{mv:List Nat}{Q:SV->List SO->Prop}(hf:P.funcs[g]?=some fn)(hb:fn.body=some c){n:Nat}(hn:args.length+(fn.ntmps-args.length)=n)(hlim:n<=1000000){W:Fm}(hW:W=ov S0.length)(hK:S0.length<=1000000)
 (hw:ar P none c ⟨kj 0 args++W,n,S0,[]⟩ (Sv P fn S0.length mv Q)):SC P g args S0 mv Q:=by
 intro E θ ρ h avs hE hR hA;subst hW;have hlen:=hA.length;refine dC.rV (n:=n) hng hf hb (by rw[hlen];exact hn) ?_
 have hst:jG ρ { E with w:=λi=>if 1000000<=i/\i<1000000+S0.length then .ptr (some ((θ (i-1000000)).id,0)) else kn } ⟨kj 0 args++ov S0.length,n,S0,[]⟩ ⟨rM avs,n,{ h with low:=h.next },[]⟩:=by
  refine⟨rfl,rfl,θ,ρ,?_,?_,λi hi=>un (λh=>by omega)⟩
  ·rw[<-hE]
   exact⟨⟨hR.ok.pr,hR.ok.pf,hR.ok.lo,hR.ok.ln⟩,hR.nx,hR.ob,hR.fm,hR.lw,hR.ln,λo so h1 h2=>by
    obtain⟨⟨k1,k2,k3,k4⟩,k5⟩:=hR.obj o so h1 h2
    exact⟨⟨k1,k2,k3,k4⟩,k5⟩,hR.sep,hR.row,hR.mB⟩
  ·intro i;by_cases hi:i<args.length
   ·obtain⟨w,hw⟩:=yf args 0 i (a9 _) (by omega);show VS θ ρ (aX (kj 0 args++ov S0.length) i) _;rw[vg _ _ _ hw,s8,ul (a9 _),bb,aa hi];obtain⟨a,ha,ka⟩:=hA.get (aa hi)
    have hil:i<n:=by omega
    rw[ul hil]
    have e:rM avs i=a:=by unfold rM;rw[ha]
    show VS θ ρ args[i] (rM avs i);rw[e];exact ka
   ·show VS θ ρ (aX (kj 0 args++ov S0.length) i) _;rw[tn _ _ _ (λv=>uT args 0 i v (by omega))];unfold ov;rw[FH];by_cases hc:i≥1000000/\(i-1000000)∈List.range S0.length
    ·have h1:=hc.1;have h2:=List.mem_range.1 hc.2;rw[ul hc,un (show ¬i<n by omega),VS];exact ul ⟨h1,by omega⟩
    ·rw[un hc,VS];trivial
 refine(hw ρ _ _ hst).mono ?_;rintro e ⟨af,n',h',ds'⟩ ⟨st,⟨h1,hl⟩,h6,h7,h8,θ',ρ',hR',hF⟩;simp only at h7 h8 hR' hF h6;subst h7;rw[<-h8] at hl;refine⟨h1,?_⟩;have hlv:=qZ (by rw[h6];exact hlim) ds' st.f st.S h' θ' ρ' hl hR' hF;refine EW.mono ds' h' hlv ?_;rintro h'' ⟨f',S',θ'',ρ'',⟨⟨vs,h3,h5⟩,hK2,hwt⟩,hR2,hF2⟩;obtain⟨aS,k1,k2⟩:=tX hR2 hF2 h3;refine⟨Pn aS,JX _ k1,dh vs,S',θ'',ρ'',h'',h5,rfl,?_,KT k2,hK2,?_⟩
 ·exact⟨hR.ok,hR2.nx,hR2.ob,hR2.fm,hR2.lw,hR2.ln,λo so h1 h2=>by
   obtain⟨⟨k1,k2,k3,k4⟩,k5⟩:=hR2.obj o so h1 h2
   exact⟨⟨k1,k2,k3,k4⟩,k5⟩,hR2.sep,hR2.row,hR2.mB⟩
 ·intro i hi hm;have:=hF2.v (1000000+i);rw[hwt i hi hm,un (show ¬1000000+i<st.n by omega),VS] at this;have e2:=this.symm.trans (ul ⟨by omega,by omega⟩);rw[aj] at e2;simp only[AV.ptr.injEq,Option.some.injEq,Prod.mk.injEq,and_true] at e2;exact e2
end
section
variable {P:Program} {S S':List SO}
def Ko{B:Nat}:∀f:Fm,uM B (Ld B f)=f
 | []=>rfl
 | (d,v)::f=>by
  show(if B<=d+B then (d+B-B,v)::uM B (Ld B f) else _)=_;rw[ul (Nat.le_add_left _ _),Nat.add_sub_cancel,Ko f]
def Ui(P:Program)(ro:Option Nat)(c:gr)(oo:Nat)(vs:List SV)(S:List SO)(f0:Fm)(K:Ex->List SO->Fm->Prop):Prop:=∀pend f1,S[oo]?=some (.loop c .ready pend f1)->
 ar P ro c.a ⟨DP c.ps.toList vs (f1++Ld laid f0),c.n,S,[]⟩ λex st=>ex=.normal/\∃pend2 f2,st.S[oo]?=some (.loop c .ready pend2 f2)/\
  ar P ro c.b ⟨st.f,c.n,st.S.set oo (.loop c .busy pend2 f2),st.ds⟩ λex st=>st.ds=[]/\∃ls p3 f3,st.S[oo]?=some (.loop c ls p3 f3)/\K ex (st.S.set oo (.loop c (vd ex) (vb ex) f3)) (uM laid st.f)
def aI.yR{ro:Option Nat}{all:List Oper}{o:Oper}{l:List Oper}{K:eB->Prop}{f f1:Fm}{n d:Nat}{ds:List iV}{cl:Call}{x:Operand}{vs:List SV}{c:gr}{pend:Option Code}(oo:Nat)(hst:eP all n [o]=true)(hop:o.op=.call cl)(hdst:o.dst=some d)(hw:db all f o.guard=some true)(hdy:lj (.call cl)=true)
 (hcal:cl.callee=.value x) (hx:eF f x=some (.a (.fn (.yield c.id) [] []))) (hargs:mY f cl.args.toList=some vs) (hS:S[oo]?=some (.loop c .ready pend f1)) (hps:c.ps.toList.length=vs.length) (hlow:xr c.n f1=true) (hn1:c.n<=1000000) (hpar:c.ps.toList.all (λk=>blt k c.n)=true)
 (hr:∀ro',Ui P ro' c oo vs S f λex S' f'=>aI P ro all l ⟨(d,.a (.bool (vc ex)))::f',n,S',ds⟩ K):aI P ro all (o::l) ⟨f,n,S,ds⟩ K:=by
 refine aI.y hst hop hdst hw hdy hcal hx hargs hS hps hlow hn1 hpar λro'=>?_;refine ar.mono (hr ro' _ _ hS) ?_;rintro ex st ⟨rfl,p2,f2,h1,h2⟩;refine⟨rfl,oo,p2,f2,h1,ar.mono h2 ?_⟩;rintro ex st ⟨hds,ls,p3,f3,h3,h4⟩;exact⟨hds,oo,ls,p3,f3,h3,h4⟩
end
end
end Go.Ev
