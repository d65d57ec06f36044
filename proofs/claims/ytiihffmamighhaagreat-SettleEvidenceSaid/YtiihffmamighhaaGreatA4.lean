/- Lemmas of this claim, each with its conditions. -/
import Derived.Test.YtiihffmamighhaaGreatA3
import Derived.Test.YtiihffmamighhaaGreatA2
import Derived.Test.YtiihffmamighhaaGreatProg
import Derived.KernelRfl
import Derived.MapKept
set_option linter.all false
set_option maxHeartbeats 8000000
open Go.Proofs.Tryz (prog)
open Nat (ble blt beq)
open List (mem_iff_getElem? mem_append all_eq_true mem_filter mem_map mem_range map_nil)
open Int (ofNat)
open Nat renaming reduceEqDiff -> ac, reduceLeDiff -> ad, reduceAdd -> aj, reduceMul -> al, reduceLT -> ap, le_refl -> ay, le_of_lt -> ba, lt_succ_self -> bh, not_lt_zero -> bo, le_of_not_lt -> bt, zero_le -> bx, add_sub_cancel_left -> bX, exists_eq_succ_of_ne_zero -> ca, lt_trichotomy -> cd, zero_add -> cn, reduceSub -> cv, eq_of_beq_eq_true -> cX, mul_one -> dk, sub_zero -> d9, le_total -> en, beq_refl -> fs, le_trans -> fu, lt_trans -> fx
open List renaming getElem?_map -> ax, mem_cons_self -> bc, mem_cons_of_mem -> bd, mem_of_find?_eq_some -> be, getElem?_cons_succ -> bk, length_map -> bv, drop_length -> bw, getElem?_set_self -> cc, drop_eq_getElem_cons -> cf, getElem?_set_ne -> ch, mem_of_getElem? -> ci, set_eq_take_append_cons_drop -> cj, range -> co, getElem?_cons_zero -> cp, replicate -> ct, length_set -> dv, find?_eq_none -> dN, drop_of_length_le -> d4, take_of_length_le -> d5, map_cons -> d8, getElem?_range -> ei, mem_map_of_mem -> ej, getElem?_take -> el, ext_getElem? -> em, filter_cons -> er, getElem_mem -> ey, find?_some -> eF, map_append -> fb, nodup_cons -> fd, all_cons -> fo
open Bool renaming and_eq_true -> a0, or_eq_true -> dc, false_and -> dd, false_or -> dl, not_true -> dt, and_false -> d2, or_true -> d3, and_true -> d6, true_and -> d7, true_or -> eB
open Array renaming toList_append -> bb
open And renaming intro -> bi
namespace Go.Ev
noncomputable section
section
variable {θ θ':Nat->Loc} {ρ ρ0 ρ':lD} {P:Program} {h0:En} {h h1:H} {S S' S0:List SO}
variable{bs:List Nat}{j:Nat}
def ti{l:List (AV×AV×Nat)}(hbs:l.map (·.2.2)=bs){e:AV×AV×Nat}(he:l[j]?=some e):bs.getD j 0=e.2.2:=by
 rw[<-hbs,List.getD_eq_getElem?_getD,ax,he];rfl
def born_inj{l:List (AV×AV×Nat)}{c:Nat}(hb:pw l c){i:Nat}{e e':AV×AV×Nat}(hi:l[i]?=some e)(hj:l[j]?=some e')(h:e.2.2=e'.2.2):i=j:=by
 have h1:(l.map (·.2.2))[i]?=some e.2.2:=by rw[ax,hi];rfl
 have h2:(l.map (·.2.2))[j]?=some e.2.2:=by rw[ax,hj,h];rfl
 have hl:=aR h1;exact(List.getElem?_inj hl hb.1).1 (h1.trans h2.symm)
def Ct(b:Nat):∀(l:List Nat),seenIn b l=true↔b∈l
 | []=>by simp[seenIn]
 | x::l=>by
  simp only[seenIn,dc,Ct b l,List.mem_cons];constructor
  ·rintro(h | h)
   ·exact .inl (cZ h).symm
   ·exact .inr h
  ·rintro(h | h)
   ·exact .inl (QI h.symm)
   ·exact .inr h
variable{id:Nat}{pos:List Nat}
def EF{lE c:Nat}{l:List (AV×AV×Nat)}(hg:h.aV.get id=some (.jQ (some lE) c (pos.map λj=>bs.getD j 0) c))(hm:h.mapOf lE=some (l,c))(hb:pw l c)(hbs:l.map (·.2.2)=bs)(hp:∀j∈pos,j<l.length):
 ∃outs,B9 h (.ptr (some (id,0))) false=some outs/\∀x∈outs,(x=(.bB [.bool false],h)/\∀j,j<l.length->j∈pos)\/
  ∃j k v,j<l.length/\j∉pos/\x=(.bB [.bool true,k,v],h.set id (.jQ (some lE) c ((pos++[j]).map λj=>bs.getD j 0) c)):=by
 have hc:(!(pos.map λj=>bs.getD j 0).isEmpty&&(!l.isEmpty&&l.all (λe=>ble c e.2.2)))=false:=by
  cases hl:l with
  | nil=>simp
  | cons a r=>
   have hall:(a::r).all (λe=>ble c e.2.2)=false:=by
    rw[List.all_eq_false];refine⟨a,bc ..,?_⟩;have:=hb.2 a (by rw[hl];exact bc ..);intro hh;have:=j8 hh;omega
   rw[hall];simp
 have hnx:B9 h (.ptr (some (id,0))) false=some (r8 h id lE c (pos.map λj=>bs.getD j 0) c ((l.filter λe=>!(seenIn e.2.2 (pos.map λj=>bs.getD j 0))).filter λe=>blt e.2.2 c) ((l.filter λe=>!(seenIn e.2.2 (pos.map λj=>bs.getD j 0))).filter λe=>!(blt e.2.2 c))):=by
  simp only[B9,hg,hm,m7];rw[hc,ar]
 refine⟨_,hnx,?_⟩;intro x hx;unfold r8 at hx
 have hun:∀j e,l[j]?=some e->seenIn e.2.2 (pos.map λj=>bs.getD j 0)=false->j∉pos:=by
  intro j e he hs hj;have:seenIn e.2.2 (pos.map λj=>bs.getD j 0)=true:=(Ct _ _).2 (mem_map.2 ⟨j,hj,ti hbs he⟩);rw[this] at hs;cases hs
 rcases mem_append.1 hx with hx | hx
 ·left;cases he:((l.filter λe=>!(seenIn e.2.2 (pos.map λj=>bs.getD j 0))).filter λe=>blt e.2.2 c).isEmpty
  ·rw[he,ar] at hx;cases hx
  ·rw[he,ah] at hx;refine⟨rc hx,λj hj=>?_⟩;rw[List.isEmpty_iff] at he;have hlj:l[j]?=some l[j]:=jp hj;apply Classical.byContradiction;intro hn
   have hmem:l[j]∈(l.filter λe=>!(seenIn e.2.2 (pos.map λj=>bs.getD j 0))).filter λe=>blt e.2.2 c:=by
    refine mem_filter.2 ⟨mem_filter.2 ⟨ey hj,?_⟩,Nat.ble_eq_true_of_le (hb.2 _ (ey hj))⟩;cases hs:seenIn l[j].2.2 (pos.map λj=>bs.getD j 0)
    ·rfl
    ·exfalso;obtain⟨j',hj',e⟩:=mem_map.1 ((Ct _ _).1 hs);obtain⟨e',hlj'⟩:∃e',l[j']?=some e':=⟨_,jp (hp j' hj')⟩;rw[ti hbs hlj'] at e;exact hn (born_inj hb hlj hlj' e.symm▸hj')
   rw[he] at hmem;cases hmem
 ·right;obtain⟨e,he,rfl⟩:=mem_map.1 hx
  have he':e∈l/\seenIn e.2.2 (pos.map λj=>bs.getD j 0)=false:=by
   rcases mem_append.1 he with he | he <;>
   ·have:=mem_filter.1 (mem_filter.1 he).1;exact⟨this.1,by simpa using this.2⟩
  obtain⟨j,hj⟩:=mem_iff_getElem?.1 he'.1;refine⟨j,e.1,e.2.1,aR hj,hun j e hj he'.2,?_⟩;rw[fb,d8,map_nil,ti hbs hj]
def DS:∀{l:List (AV×AV×Nat)} {j k:Nat} {e:AV×AV×Nat},(l.map (·.2.2)).Nodup->l[j]?=some e->jA e.2.2 l k=some (k+j)
 | [],j,k,e,_,he=>by simp at he
 | a::l,0,k,e,hn,he=>by
  simp only[cp,n8] at he;subst he;rw[jA,fs];rfl
 | a::l,j+1,k,e,hn,he=>by
  simp only[bk] at he;rw[d8,fd] at hn;rw[jA]
  have hne:beq a.2.2 e.2.2=false:=by
   cases hb:beq a.2.2 e.2.2
   ·rfl
   ·exact t7 (cZ hb▸ej (f:=λx:AV×AV×Nat=>x.2.2) (ci he)) hn.1
  rw[hne,ar,DS hn.2 he]
  congr 1;omega
def Bo{lE c:Nat}{l:List (AV×AV×Nat)}{e:AV×AV×Nat}(hg:h.aV.get id=some (.jQ (some lE) c ((pos++[j]).map λj=>bs.getD j 0) c))(hm:h.mapOf lE=some (l,c))(hb:pw l c)(hbs:l.map (·.2.2)=bs)(he:l[j]?=some e):
 xG h (.ptr (some (id,0)))=some (.bB [e.1,e.2.1]):=by
 have hlast:((pos++[j]).map λj=>bs.getD j 0).getLast?=some e.2.2:=by
  rw[fb,d8,map_nil,List.getLast?_append,ti hbs he];rfl
 simp only[xG,hg,hlast,hm,m7,fs,ah];rw[DS hb.1 he,m7,cn,he];rfl
variable{so:SO}
def RS.put{o:Nat}{so':SO}{ob':AO}(hR:RS θ ρ0 ρ h0 h S)(hS:S[o]?=some so)(hgn:so≠.gone)(hnew:oG θ ρ (h.set (θ o).id ob') (θ o) so'):RS θ ρ0 ρ h0 (h.set (θ o).id ob') (S.set o so'):=by
 obtain⟨hL,_⟩:=hR.obj o _ hS hgn
 have hidr:¬h0.pr (θ o).id:=by
  rcases hL.e with e | e<;>rw[e]
  ·exact hL.x.1
  ·exact hL.y.1
 have hg:∀v x,VS θ ρ v x->VS (iH θ o (θ o)) ρ v x:=λv x hv=>hv.ids λp=>by
  by_cases hp:p=o
  ·subst hp;rw[cF]
  ·rw[bT _ _ hp]
 have heq:iH θ o (θ o)=θ:=by
  funext p;by_cases hp:p=o
  ·subst hp;rw[cF]
  ·rw[bT _ _ hp]
 have get:∀j,j≠(θ o).id->(h.set (θ o).id ob').aV.get j=h.aV.get j:=λj hj=>bm _ _ hj
 have:=hR.C6 (h':=h.set (θ o).id ob') (S':=S.set o so') (o:=o) (so':=so') (L':=θ o) (g:=λv=>v) (ay _) (λj hj=>get j (λe=>hidr (e▸hj))) (λ_ _=>rfl)
  (oX hR.lw (hR.ok.lo _ hidr)) (fu (ep _ _).1 hR.ln) hL hg
  (λp so1 hp h3 h4=>by
   have sp:=hR.sep p o so1 _ hp h3 h4 hS hgn;obtain⟨k,_⟩:=hR.obj p so1 h3 h4;refine⟨get _ ?_,rfl,sp⟩
   rcases k.e with e1 | e1<;>rcases hL.e with e2 | e2<;>rw[e1,e2]
   ·exact sp.xx
   ·exact sp.xy
   ·exact sp.yx
   ·exact sp.yy)
  (λid ob hi=>by
   obtain⟨r1,r2,r3⟩:=hR.row id ob hi;have:=r3 o _ hS hgn;refine⟨get _ ?_,this⟩
   rcases hL.e with e | e<;>rw[e]
   ·exact this.1
   ·exact this.2)
  (by rw[heq];exact hnew)
  (λp hp=>by
   rw[ch (λh=>hp h.symm)]
   cases S[p]? with
   | none=>rfl
   | some s=>rw[m6];exact n9 some (vO s).symm)
  (by rw[cc (aR hS)])
 rw[heq] at this;exact this
def RS.YP{o:Nat}{so':SO}(hR:RS θ ρ0 ρ h0 h S)(hS:S[o]?=some so)(hgn:so≠.gone)(hnew:oG θ ρ h (θ o) so->oG θ ρ h (θ o) so'):RS θ ρ0 ρ h0 h (S.set o so'):=by
 have own:∀p s,(S.set o so')[p]?=some s->(p=o/\s=so')\/(p≠o/\S[p]?=some s):=by
  intro p s hp;by_cases e:p=o
  ·subst e;rw[cc (aR hS)] at hp;cases hp;exact .inl ⟨rfl,rfl⟩
  ·rw[ch (λh=>e h.symm)] at hp;exact .inr ⟨e,hp⟩
 refine⟨hR.ok,hR.nx,hR.ob,hR.fm,hR.lw,hR.ln,?_,?_,?_,hR.nO⟩
 ·intro p s hp hg
  rcases own p s hp with⟨rfl,rfl⟩ | ⟨_,hp'⟩
  ·obtain⟨k1,k2⟩:=hR.obj p _ hS hgn;exact⟨k1,hnew k2⟩
  ·exact hR.obj p s hp' hg
 ·intro p q s s' hpq hp hg hq hg'
  have a:∃s0,S[p]?=some s0/\s0≠.gone:=by
   rcases own p s hp with⟨rfl,rfl⟩ | ⟨_,hp'⟩
   ·exact⟨_,hS,hgn⟩
   ·exact⟨_,hp',hg⟩
  have b:∃s0,S[q]?=some s0/\s0≠.gone:=by
   rcases own q s' hq with⟨rfl,rfl⟩ | ⟨_,hp'⟩
   ·exact⟨_,hS,hgn⟩
   ·exact⟨_,hp',hg'⟩
  obtain⟨s0,a1,a2⟩:=a;obtain⟨s1,b1,b2⟩:=b;exact hR.sep p q s0 s1 hpq a1 a2 b1 b2
 ·intro id ob hi;obtain⟨r1,r2,r3⟩:=hR.row id ob hi;refine⟨r1,r2,λp s hp hg=>?_⟩
  rcases own p s hp with⟨rfl,rfl⟩ | ⟨_,hp'⟩
  ·exact r3 p _ hS hgn
  ·exact r3 p s hp' hg
def F7{t:TypeId}(h:jw P t=.map):∃k e,P.underlying t=some (.map k e):=by
 unfold jw at h
 split at h<;>first | (cases h;done) | exact⟨_,_,by assumption⟩
variable {ro:Option Nat} {all:List Oper} {o:Oper} {l:List Oper} {f:Fm} {n d:Nat} {ds:List jy} {K:eU->Prop} {x:Operand} {ks:List AV} {vs:List SV} {bs pos:List Nat} {c i:Nat}
def aJ.Yr{t:TypeId}(hst:eD all n [o]=true)(hop:o.op=.range t x)(hdst:o.dst=some d)(hw:cH all f o.guard=some true)(hx:fp f x=some (.im ks vs))(ht:jw P t=.map)
 (hk:∀bs c,bs.length=ks.length->aJ P ro all l ⟨(d,.ptr S.length 0)::eg S.length f,n,iX S (.qj ks vs bs c []),ds⟩ K):aJ P ro all (o::l) ⟨f,n,S,ds⟩ K:=by
 rintro ρ0 h0 ⟨af,n',h,ds'⟩ ⟨rfl,rfl,θ,ρ,hR,hF⟩
 have hd:blt d n'=true:=by
  have:=(eR hst).1;rw[hdst] at this;exact this
 obtain⟨a,ha,ka⟩:=bE hF hx;rw[VS,GS] at ka;obtain⟨lE,lm,c,rfl,h1,h2,h3⟩:=ka;obtain⟨kt,et,hu⟩:=F7 ht
 have hm:h.mapOf lE=some (lm,c):=by unfold H.mapOf;rw[(hR.row lE _ h1).2.1]
 have hrun:eS P (dy af n') h (.range t x)=some [(some (.ptr (some (h.next,0))),{ h with aV:=h.aV.put h.next (some (.jQ (some lE) c [] c)),next:=h.next+1 })]:=by
  rw[Jl,show ev (dy af n') x=_ from ha,m7];simp only[yf,hu,hm,m6,H.newObj]
 refine .v hop hdst (cE hF (dR hst hw)) rfl hd hrun ?_;have hR1:=hR.Sk (so:=.qj ks vs (lm.map (·.2.2)) c []) (ob:=.jQ (some lE) c [] c) ⟨lE,lm,h1,⟨h2.1,h2.2.1,λp hp=>by cases hp;exact⟨rfl,rfl⟩⟩,h3,da _ _ _⟩;refine hk (lm.map (·.2.2)) c (by rw[bv,<-h2.1,bv]) ρ0 h0 _ ⟨rfl,rfl,_,ρ,hR1,?_⟩;exact hF.kill (kill:=some S.length) (λv x hv=>jO (λp hp=>bT _ _ hp) hv) (fY hd) (by rw[VS,cF])
def aJ.Y9{t:TypeId}{oo:Nat}{b:Option (List Nat×Nat)}(hst:eD all n [o]=true)(hop:o.op=.range t x)(hdst:o.dst=some d)(hw:cH all f o.guard=some true)(hx:fp f x=some (.map oo))(hS:S[oo]?=some (.map ks vs b))(ht:jw P t=.map)
 (hk:∀bs c,bs.length=ks.length->aJ P ro all l ⟨(d,.ptr S.length 0)::eg S.length f,n,iX (S.set oo (.map ks vs (some (bs,c)))) (.iter (.map oo) bs c []),ds⟩ K):aJ P ro all (o::l) ⟨f,n,S,ds⟩ K:=by
 rintro ρ0 h0 ⟨af,n',h,ds'⟩ ⟨rfl,rfl,θ,ρ,hR,hF⟩
 have hd:blt d n'=true:=by
  have:=(eR hst).1;rw[hdst] at this;exact this
 obtain⟨a,ha,ka⟩:=bE hF hx;rw[VS] at ka;subst ka;obtain⟨_,lm,c,h1,h2,h3⟩:=hR.obj oo _ hS f7;obtain⟨kt,et,hu⟩:=F7 ht
 have hm:h.mapOf (θ oo).id=some (lm,c):=by unfold H.mapOf;rw[h1]
 have hrun:eS P (dy af n') h (.range t x)=some [(some (.ptr (some (h.next,0))),{ h with aV:=h.aV.put h.next (some (.jQ (some (θ oo).id) c [] c)),next:=h.next+1 })]:=by
  rw[Jl,show ev (dy af n') x=_ from ha,m7];simp only[yf,hu,hm,m6,H.newObj]
 refine .v hop hdst (cE hF (dR hst hw)) rfl hd hrun ?_;have hR0:RS θ ρ0 ρ h0 h (S.set oo (.map ks vs (some (lm.map (·.2.2),c)))):=hR.YP hS f7 λ_=>⟨lm,c,h1,⟨h2.1,h2.2.1,λp hp=>by cases hp;exact⟨rfl,rfl⟩⟩,h3⟩;have hlen:(S.set oo (.map ks vs (some (lm.map (·.2.2),c)))).length=S.length:=dv;have hlt:=aR hS
 have hkm:aW S.length (.map oo)=.map oo:=by
  unfold aW;rw[names,un gt];rfl
 have hR1:=hR0.Sk (so:=.iter (.map oo) (lm.map (·.2.2)) c []) (ob:=.jQ (some (θ oo).id) c [] c) (by
  rw[hlen,cx,hkm]
  exact⟨(θ oo).id,by rw[VS,bT _ _ gt],da _ _ _⟩)
 rw[hlen] at hR1;refine hk (lm.map (·.2.2)) c (by rw[bv,<-h2.1,bv]) ρ0 h0 _ ⟨rfl,rfl,_,ρ,hR1,?_⟩;exact hF.kill (kill:=some S.length) (λv x hv=>jO (λp hp=>bT _ _ hp) hv) (fY hd) (by rw[VS,cF])
def aJ.Yn(hst:eD all n [o]=true)(hop:o.op=.next x false)(hdst:o.dst=some d)(hw:cH all f o.guard=some true)(hx:fp f x=some (.ptr i 0))(hS:S[i]?=some (.qj ks vs bs c pos))(hp:∀j∈pos,j<ks.length)
 (hk0:(∀j,j<ks.length->j∈pos)->aJ P ro all l ⟨(d,.bB [.a (.bool false)])::f,n,S,ds⟩ K)
 (hk1:∀j,j<ks.length->j∉pos->aJ P ro all l ⟨(d,.bB [.a (.bool true),.any,.any])::f,n,S.set i (.qj ks vs bs c (pos++[j])),ds⟩ K):aJ P ro all (o::l) ⟨f,n,S,ds⟩ K:=by
 rintro ρ0 h0 ⟨af,n',h,ds'⟩ ⟨rfl,rfl,θ,ρ,hR,hF⟩
 have hd:blt d n'=true:=by
  have:=(eR hst).1;rw[hdst] at this;exact this
 obtain⟨a,ha,ka⟩:=bE hF hx;rw[VS] at ka;subst ka;obtain⟨_,lE,lm,h1,h2,h3,h4⟩:=hR.obj i _ hS f7
 have hm:h.mapOf lE=some (lm,c):=by unfold H.mapOf;rw[(hR.row lE _ h1).2.1]
 have hlen:lm.length=ks.length:=by rw[<-h2.1,bv]
 obtain⟨outs,ho,hall⟩:=EF h4 hm h2.2.1 (h2.2.2 _ rfl).1 (λj hj=>by rw[hlen];exact hp j hj);refine .n hop hdst (cE hF (dR hst hw)) rfl hd (by rw[NX (show ev (dy af n') x=_ from ha),ho];rfl) ?_;intro y hy;obtain⟨z,hz,rfl⟩:=mem_map.1 hy
 rcases hall z hz with⟨rfl,hq⟩ | ⟨j,k,v,hj,hn,rfl⟩
 ·exact hk0 (λj hj=>hq j (by rw[hlen];exact hj)) ρ0 h0 _ ⟨rfl,rfl,θ,ρ,hR,hF.put (fY hd) (by rw[VS];exact⟨_,rfl,by rw[aG];exact⟨_,_,rfl,by rw[VS],by rw[aU]⟩⟩)⟩
 ·refine hk1 j (by rw[<-hlen];exact hj) hn ρ0 h0 _ ⟨rfl,rfl,θ,ρ,hR.put hS f7 ⟨lE,lm,h1,h2,h3,da _ _ _⟩,hF.put (fY hd) ?_⟩;rw[VS];refine⟨_,rfl,?_⟩;rw[aG];refine⟨_,_,rfl,by rw[VS],?_⟩;rw[aG];refine⟨_,_,rfl,by rw[VS];trivial,?_⟩;rw[aG];exact⟨_,_,rfl,by rw[VS];trivial,by rw[aU]⟩
def aJ.Y7{oo:Nat}(hst:eD all n [o]=true)(hop:o.op=.next x false)(hdst:o.dst=some d)(hw:cH all f o.guard=some true)(hx:fp f x=some (.ptr i 0))(hS:S[i]?=some (.iter (.map oo) bs c pos))(hM:S[oo]?=some (.map ks vs (some (bs,c))))(hp:∀j∈pos,j<ks.length)
 (hk0:(∀j,j<ks.length->j∈pos)->aJ P ro all l ⟨(d,.bB [.a (.bool false)])::f,n,S,ds⟩ K)
 (hk1:∀j,j<ks.length->j∉pos->aJ P ro all l ⟨(d,.bB [.a (.bool true),.any,.any])::f,n,S.set i (.iter (.map oo) bs c (pos++[j])),ds⟩ K):aJ P ro all (o::l) ⟨f,n,S,ds⟩ K:=by
 rintro ρ0 h0 ⟨af,n',h,ds'⟩ ⟨rfl,rfl,θ,ρ,hR,hF⟩
 have hd:blt d n'=true:=by
  have:=(eR hst).1;rw[hdst] at this;exact this
 obtain⟨a,ha,ka⟩:=bE hF hx;rw[VS] at ka;subst ka;obtain⟨_,lE,h3,h4⟩:=hR.obj i _ hS f7;obtain⟨_,lm,c',q1,q2,q3⟩:=hR.obj oo _ hM f7;rw[VS] at h3;simp only[AV.map.injEq,n8] at h3;subst h3;obtain⟨hb1,rfl⟩:=q2.2.2 _ rfl
 have hm:h.mapOf (θ oo).id=some (lm,c'):=by unfold H.mapOf;rw[q1]
 have hlen:lm.length=ks.length:=by rw[<-q2.1,bv]
 obtain⟨outs,ho,hall⟩:=EF h4 hm q2.2.1 hb1 (λj hj=>by rw[hlen];exact hp j hj);refine .n hop hdst (cE hF (dR hst hw)) rfl hd (by rw[NX (show ev (dy af n') x=_ from ha),ho];rfl) ?_;intro y hy;obtain⟨z,hz,rfl⟩:=mem_map.1 hy
 rcases hall z hz with⟨rfl,hq⟩ | ⟨j,k,v,hj,hn,rfl⟩
 ·exact hk0 (λj hj=>hq j (by rw[hlen];exact hj)) ρ0 h0 _ ⟨rfl,rfl,θ,ρ,hR,hF.put (fY hd) (by rw[VS];exact⟨_,rfl,by rw[aG];exact⟨_,_,rfl,by rw[VS],by rw[aU]⟩⟩)⟩
 ·refine hk1 j (by rw[<-hlen];exact hj) hn ρ0 h0 _ ⟨rfl,rfl,θ,ρ,hR.put hS f7 ⟨(θ oo).id,by rw[VS],da _ _ _⟩,hF.put (fY hd) ?_⟩;rw[VS];refine⟨_,rfl,?_⟩;rw[aG];refine⟨_,_,rfl,by rw[VS],?_⟩;rw[aG];refine⟨_,_,rfl,by rw[VS];trivial,?_⟩;rw[aG];exact⟨_,_,rfl,by rw[VS];trivial,by rw[aU]⟩
def aJ.Yk{k:AV}{v:SV}(hst:eD all n [o]=true)(hop:o.op=.entry x)(hdst:o.dst=some d)(hw:cH all f o.guard=some true)(hx:fp f x=some (.ptr i 0))(hS:S[i]?=some (.qj ks vs bs c (pos++[j])))(hkj:ks[j]?=some k)(hvj:vs[j]?=some v)
 (hk:aJ P ro all l ⟨(d,.bB [C5 k,v])::f,n,S,ds⟩ K):aJ P ro all (o::l) ⟨f,n,S,ds⟩ K:=by
 rintro ρ0 h0 ⟨af,n',h,ds'⟩ ⟨rfl,rfl,θ,ρ,hR,hF⟩
 have hd:blt d n'=true:=by
  have:=(eR hst).1;rw[hdst] at this;exact this
 obtain⟨a,ha,ka⟩:=bE hF hx;rw[VS] at ka;subst ka;obtain⟨_,lE,lm,h1,h2,h3,h4⟩:=hR.obj i _ hS f7
 have hm:h.mapOf lE=some (lm,c):=by unfold H.mapOf;rw[(hR.row lE _ h1).2.1]
 rw[<-h2.1,ax] at hkj;obtain⟨e,he,rfl⟩:=aq hkj;obtain⟨y,hy,ky⟩:=h3.get hvj;rw[ax,he] at hy;simp only[m6,n8] at hy;subst hy;refine .v hop hdst (cE hF (dR hst hw)) rfl hd (by rw[Jk,show ev (dy af n') x=_ from ha,m7,Bo h4 hm h2.2.1 (h2.2.2 _ rfl).1 he];rfl) ?_;refine hk ρ0 h0 _ ⟨rfl,rfl,θ,ρ,hR,hF.put (fY hd) ?_⟩;rw[VS];refine⟨_,rfl,?_⟩;rw[aG];refine⟨_,_,rfl,CD _,?_⟩;rw[aG];exact⟨_,_,rfl,ky.vs,by rw[aU]⟩
def aJ.Y4{oo:Nat}{k:AV}{v:SV}(hst:eD all n [o]=true)(hop:o.op=.entry x)(hdst:o.dst=some d)(hw:cH all f o.guard=some true)(hx:fp f x=some (.ptr i 0))(hS:S[i]?=some (.iter (.map oo) bs c (pos++[j])))(hM:S[oo]?=some (.map ks vs (some (bs,c))))(hkj:ks[j]?=some k)(hvj:vs[j]?=some v)
 (hk:aJ P ro all l ⟨(d,.bB [C5 k,v])::f,n,S,ds⟩ K):aJ P ro all (o::l) ⟨f,n,S,ds⟩ K:=by
 rintro ρ0 h0 ⟨af,n',h,ds'⟩ ⟨rfl,rfl,θ,ρ,hR,hF⟩
 have hd:blt d n'=true:=by
  have:=(eR hst).1;rw[hdst] at this;exact this
 obtain⟨a,ha,ka⟩:=bE hF hx;rw[VS] at ka;subst ka;obtain⟨_,lE,h3,h4⟩:=hR.obj i _ hS f7;obtain⟨_,lm,c',q1,q2,q3⟩:=hR.obj oo _ hM f7;rw[VS] at h3;simp only[AV.map.injEq,n8] at h3;subst h3;obtain⟨hb1,rfl⟩:=q2.2.2 _ rfl
 have hm:h.mapOf (θ oo).id=some (lm,c'):=by unfold H.mapOf;rw[q1]
 rw[<-q2.1,ax] at hkj;obtain⟨e,he,rfl⟩:=aq hkj;obtain⟨y,hy,ky⟩:=q3.get hvj;rw[ax,he] at hy;simp only[m6,n8] at hy;subst hy;refine .v hop hdst (cE hF (dR hst hw)) rfl hd (by rw[Jk,show ev (dy af n') x=_ from ha,m7,Bo h4 hm q2.2.1 hb1 he];rfl) ?_;refine hk ρ0 h0 _ ⟨rfl,rfl,θ,ρ,hR,hF.put (fY hd) ?_⟩;rw[VS];refine⟨_,rfl,?_⟩;rw[aG];refine⟨_,_,rfl,CD _,?_⟩;rw[aG];exact⟨_,_,rfl,ky,by rw[aU]⟩
end
section
variable {θ θ':Nat->Loc} {ρ ρ0 ρ':lD} {P:Program} {h0:En} {h h1:H} {S S' S0:List SO}
def su(S:List SO)(r:Nat->Nat):List SO->List Nat->Prop
 | [],_=>True
 | so::l,o::os=>(so=.gone\/S[o]?=some (oI r so))/\su S r l os
 | _::_,[]=>False
def NI{r:Nat->Nat}:∀{S0:List SO} {os:List Nat},su S r S0 os->∀(i:Nat) so,S0[i]?=some so->so≠.gone->∃o,os[i]?=some o/\S[o]?=some (oI r so)
 | [],_,_,i,so,h,_=>by simp at h
 | s::l,o::os,hh,0,so,h,hg=>by
  simp only[cp,n8] at h;subst h;exact⟨o,rfl,hh.1.resolve_left hg⟩
 | s::l,o::os,hh,i+1,so,h,hg=>by
  simp only[bk] at h ⊢;exact NI hh.2 i so h hg
 | _::_,[],hh,_,_,_,_=>hh.elim
def Fg.rn(os:List Nat){f f':Fm}{n:Nat}{ds:List jy}(hnd:os.Nodup)(hK:os.length=S'.length)(hos:su S (kM os S.length) S' os)(hf:uY f (Ve (kM os S.length) f')):Fg ⟨f,n,S,ds⟩ ⟨f',n,S',ds⟩:=by
 refine⟨rfl,?_⟩;rintro ρ0 h0 ⟨af,n',h,ds'⟩ ⟨rfl,rfl,θ,ρ,hR,hF⟩;obtain⟨r,hr⟩:∃r,r=kM os S.length:=⟨_,rfl⟩;rw[<-hr] at hos hf
 have hmem:∀(i:Nat) so,S'[i]?=some so->so≠.gone->S[r i]?=some (oI r so):=by
  intro i so hi hg;obtain⟨o,h2,h3⟩:=NI hos i so hi hg;rw[hr,om h2,<-hr];exact h3
 have hinj:∀i j,i<S'.length->j<S'.length->r i=r j->i=j:=by
  intro i j hi hj e;rw[hr,om (jp (show i<os.length by omega)),om (jp (show j<os.length by omega))] at e;exact(List.getElem_inj hnd).1 e
 refine⟨rfl,rfl,λp=>θ (r p),ρ,⟨hR.ok,hR.nx,hR.ob,hR.fm,hR.lw,hR.ln,?_,?_,?_,hR.nO⟩,λi=>?_,hF.u⟩
 ·intro o so h1 h2;obtain⟨k1,k2⟩:=hR.obj _ _ (hmem o so h1 h2) (fW.2 h2);exact⟨k1,(oG.rn r).1 k2⟩
 ·intro o o' so so' hne h1 h2 h3 h4;exact hR.sep _ _ _ _ (λe=>hne (hinj o o' (aR h1) (aR h3) e)) (hmem o so h1 h2) (fW.2 h2) (hmem o' so' h3 h4) (fW.2 h4)
 ·intro id ob hi;obtain⟨r1,r2,r3⟩:=hR.row id ob hi;exact⟨r1,r2,λo so h1 h2=>r3 _ _ (hmem o so h1 h2) (fW.2 h2)⟩
 ·have hv:=hF.v i
  rcases hf.get i with e | e
  ·rw[AK] at e;rw[<-e] at hv;exact(VS.rn r).1 hv
  ·rw[AK] at e
   have:aP f' i=.any:=by
    cases hq:aP f' i<;>rw[hq] at e<;>first | rfl | (simp[gF] at e;done)
   show VS _ _ (aP f' i) _;rw[this,VS];trivial
variable{n:Nat}{ds:List jy}
def Fg.wk{f f':Fm}(hf:A4 [] f f'):Fg ⟨f,n,S,ds⟩ ⟨f',n,S,ds⟩:=by
 refine⟨rfl,?_⟩;rintro ρ0 h0 ⟨af,n',h,ds'⟩ ⟨rfl,rfl,θ,ρ,hR,hF⟩;refine⟨rfl,rfl,θ,ρ,hR,λi=>?_,hF.u⟩;have hv:=hF.v i
 rcases hf.get i with e | e
 ·show VS θ ρ (aP f' i) _;rw[e];exact hv
 ·have:=Wk.ok hR.Gq e hv;rw[Cl] at this;exact this.vs
def Fg.M5(o:Nat){f:Fm}{ks:List AV}{vs:List SV}{b:Option (List Nat×Nat)}(hS:S[o]?=some (.map ks vs b)):Fg ⟨f,n,S,ds⟩ ⟨f,n,S.set o (.map ks vs none),ds⟩:=by
 refine⟨rfl,?_⟩;rintro ρ0 h0 ⟨af,n',h,ds'⟩ ⟨rfl,rfl,θ,ρ,hR,hF⟩;exact⟨rfl,rfl,θ,ρ,hR.YP hS f7 λ⟨l,c,h1,h2,h3⟩=>⟨l,c,h1,⟨h2.1,h2.2.1,λp hp=>by cases hp⟩,h3⟩,hF⟩
section
variable {K U:Type} [DecidableEq K] {kv:K->AV} {uv:U->SV} {k:K} {l:List (K×U)} {t kt et:TypeId} {o:Nat} {x:SV}
def kR(k:K):List (K×U)->List (K×U)
 | []=>[]
 | e::l=>if k=e.1 then l else e::kR k l
def Ia:∀{l:List (K×U)},cz k l=false->kR k l=l
 | [],_=>rfl
 | e::l,h=>by
  simp only[cz,List.any_cons,Bool.or_eq_false_iff,wd] at h;rw[kR,ul h.1,Ia (by simpa [cz] using h.2)]
def Ib:∀{l:List (K×U)} {j i:Nat},qz k l j=some i->kR k l=l.eraseIdx (i-j)
 | [],_,_,h=>by cases h
 | e::l,j,i,h=>by
  have hle:=(iw h).1;unfold qz at h;split at h
  ·rename_i hk;cases h;rw[kR,t8 hk,Nat.sub_self];rfl
  ·rename_i hk;have h2:=(iw h).1;rw[kR,ul hk,Ib h,show i-j=(i-(j+1))+1 by omega,List.eraseIdx_cons_succ]
def mw:∀{l:List (K×U)},(l.map (·.1)).Nodup->kR k l=l.filter λe=>!decide (e.1=k)
 | [],_=>rfl
 | e::l,h=>by
  rw[d8,fd] at h;by_cases hk:k=e.1
  ·rw[kR,t8 hk,er,ul (by simp[hk])];symm;rw[List.filter_eq_self];intro x hx;have:x.1≠k:=λhe=>h.1 (by rw[<-hk,<-he];exact ej hx);simp[this]
  ·rw[kR,ul hk,er,t8 (by simp;exact λh=>hk h.symm),mw h.2]
def XA(hm:c9 P t=some (kt,et))(hk:Keys P kt kv)(hS:S[o]?=some (bu kv uv l))(hf:cU x=some (kv k)):
 O8 P S t (.map o) x=some (S.set o (bu kv uv (kR k l))):=by
 unfold O8;rw[hm,m7];simp only;rw[hf,m7,hk.ck,ah,hS];simp only[bu];rw[nK hk,m6]
 cases hp:qz k l 0 with
 | none=>
  rw[Ia (jt hp)];simp only
  congr 1
  have hlt:=aR hS;apply em;intro i;by_cases e:i=o
  ·subst e;rw[cc hlt,hS];rfl
  ·rw[ch (λh=>e h.symm)]
 | some i=>
  have:=Ib hp;rw[d9] at this;rw[this];simp only[Option.map_none]
  congr 2
  congr 1
  ·exact(gf _ _ _).symm
  ·exact(gf _ _ _).symm
end
end
def rq:∀(n:Nat) (l:List Nat),l.Nodup->(∀x∈l,x<n)->l.length<=n
 | 0,l,_,h=>by
  cases l with
  | nil=>exact ay _
  | cons a l=>exact t7 (h a bc) (bo _)
 | n+1,l,hn,h=>by
  by_cases hm:n∈l
  ·have h1:=rq n (l.erase n) (hn.erase n) (λx hx=>by
    have h2:=(hn.mem_erase_iff.1 hx);have:=h x h2.2;have:=h2.1
    omega)
   rw[List.length_erase_of_mem hm] at h1;have:0<l.length:=List.length_pos_of_mem hm;omega
  ·exact Nat.le_succ_of_le (rq n l hn λx hx=>by
    have:=h x hx;have:x≠n:=λe=>hm (e▸hx)
    omega)
variable{n:Nat}{j:Nat}{pos:List Nat}
def qA(hn:pos.Nodup)(hp:∀x∈pos,x<n)(hj:j<n)(hne:j∉pos):(pos++[j]).Nodup/\(∀x∈pos++[j],x<n)/\pos.length<n:=by
 have h1:(pos++[j]).Nodup:=by
  rw[List.nodup_append];exact⟨hn,by simp,λa ha b hb=>by rw[rc hb];exact λe=>hne (e▸ha)⟩
 have h2:∀x∈pos++[j],x<n:=λx hx=>by
  rcases mem_append.1 hx with hx | hx
  ·exact hp x hx
  ·rw[rc hx];exact hj
 refine⟨h1,h2,?_⟩;have:=rq n _ h1 h2;rw[li] at this;exact this
section
variable {P:Program} {ro:Option Nat} {S S':List SO} {n:Nat} {ds:List jy}
def gW{f1 f2:Fm}:∀{l:List Operand},(∀x∈l,fp f1 x=fp f2 x)->pM f1 l=pM f2 l
 | [],_=>rfl
 | x::l,h=>by rw[pM,pM,h x bc,gW λy hy=>h y (bd _ hy)]
def rJ{f1 f2:Fm}:∀{l:List (Nat×Operand)},(∀x∈l.map (·.2),fp f1 x=fp f2 x)->mV f1 l=mV f2 l
 | [],_=>rfl
 | (i,x)::l,h=>by rw[mV,mV,h x bc,rJ λy hy=>h y (bd _ hy)]
variable{f1:Fm}{f2:Fm}
def uK{o:Option Operand}(h:∀x,o=some x->fp f1 x=fp f2 x):Ap f1 o=Ap f2 o:=by
 cases o with
 | none=>rfl
 | some x=>rw[Ap,Ap,h x rfl]
def vG:Op->Bool
 | .store _ _ _ | .mapUpdate _ _ _ _ | .insert _ _ _ _ | .call { callee:=.builtin .copy,.. }=>true
 | _=>false
variable{op:Op}
def P9(hrd:(lS op||vG op)=true)(h:∀x∈op.operands.toList,fp f1 x=fp f2 x):dY P f1 S op=dY P f2 S op:=by
 cases op with
 | move x=>rw[dY,dY,h x (by simp[Op.operands])]
 | assign x=>rw[dY,dY,h x (by simp[Op.operands])]
 | pick c a b=>rw[dY,dY,h c (by simp[Op.operands]),h a (by simp[Op.operands]),h b (by simp[Op.operands])]
 | build tt ps=>rw[dY,dY,rJ λx hx=>h x (by simpa [Op.operands] using hx)]
 | nilCheck x=>rw[dY,dY,h x (by simp[Op.operands])]
 | binOp op xt x y yt=>rw[dY,dY,h x (by simp[Op.operands]),h y (by simp[Op.operands])]
 | unOp op xt x=>rw[dY,dY,h x (by simp[Op.operands])]
 | convert s d x=>rw[dY,dY,h x (by simp[Op.operands])]
 | fieldAddr s x fl=>rw[dY,dY,h x (by simp[Op.operands])]
 | field s x fl=>rw[dY,dY,h x (by simp[Op.operands])]
 | indexAddr t x i=>rw[dY,dY,h x (by simp[Op.operands]),h i (by simp[Op.operands])]
 | index t x i=>rw[dY,dY,h x (by simp[Op.operands]),h i (by simp[Op.operands])]
 | extract x i=>rw[dY,dY,h x (by simp[Op.operands])]
 | load t x=>rw[dY,dY,h x (by simp[Op.operands])]
 | lookup t x k ok=>rw[dY,dY,h x (by simp[Op.operands]),h k (by simp[Op.operands])]
 | slice t x lo hi mx=>
  rw[dY,dY,h x (by simp[Op.operands]),uK (o:=lo) λy hy=>h y (by subst hy;simp[Op.operands]),uK (o:=hi) λy hy=>h y (by subst hy;simp[Op.operands]),uK (o:=mx) λy hy=>h y (by subst hy;simp[Op.operands])]
 | makeFunc g first cap=>
  cases g with
  | func g=>rw[dY,dY,gW λx hx=>h x (by simp only[Op.operands,bb,mem_append];exact .inl hx),gW (l:=cap.toList) λx hx=>h x (by simp only[Op.operands,bb,mem_append];exact .inr hx)]
  | method nm=>rw[dY,dY,gW λx hx=>h x (by simp only[Op.operands,bb,mem_append];exact .inl hx),gW (l:=cap.toList) λx hx=>h x (by simp only[Op.operands,bb,mem_append];exact .inr hx)]
  | _=>simp[lS,vG] at hrd
 | call c=>
  obtain⟨callee,aS,ats⟩:=c
  cases callee with
  | builtin b=>rw[dY,dY,gW λx hx=>h x (by simp only[Op.operands,Call.operands,bb,mem_append];exact .inr hx)]
  | _=>simp[lS,vG] at hrd
 | store t a x=>rw[dY,dY,h a (by simp[Op.operands]),h x (by simp[Op.operands])]
 | mapUpdate t m k x=>rw[dY,dY,h m (by simp[Op.operands]),h k (by simp[Op.operands]),h x (by simp[Op.operands])]
 | insert t m k x=>rw[dY,dY,h m (by simp[Op.operands]),h k (by simp[Op.operands]),h x (by simp[Op.operands])]
 | _=>simp[lS,vG] at hrd
def Yh(ol:List Oper):Nat->Nat->List Nat
 | 0,_=>[]
 | k+1,i=>match ol[i]? with
  | some o=>let l:=(o.after.toList.filter dep).map (·.on);l++l.flatMap (Yh ol k)
  | none=>[]
def nb(ol:List Oper)(L:Nat->Prop):Prop:=∀j o,ol[j]?=some o->L j->∀e∈o.after.toList,dep e=true->L e.on
def QV{ol:List Oper}{L:Nat->Prop}(hc:nb ol L):∀{k i:Nat},(∀o,ol[i]?=some o->∀e∈o.after.toList,dep e=true->L e.on)->∀j∈Yh ol k i,L j
 | 0,i,_,j,h=>by cases h
 | k+1,i,hi,j,h=>by
  rw[Yh] at h
  cases ho:ol[i]? with
  | none=>rw[ho] at h;cases h
  | some o=>
   rw[ho] at h;simp only[mem_append,mem_map,List.mem_flatMap] at h
   rcases h with⟨e,he,rfl⟩ | ⟨x,⟨e,he,rfl⟩,hx⟩
   ·obtain⟨h1,h2⟩:=mem_filter.1 he;exact hi o ho e h1 h2
   ·obtain⟨h1,h2⟩:=mem_filter.1 he;have hl:=hi o ho e h1 h2;exact QV hc (i:=e.on) (λo' ho'=>hc e.on o' ho' hl) j hx
def vo(L:Nat->Prop)(i:Nat)(v:SV):SV:=@ite _ (L i) (Classical.propDecidable _) v .any
variable{L:Nat->Prop}
def dC{i:Nat}{v:SV}(h:L i):vo L i v=v:=t8 h
def uT{i:Nat}{v:SV}(h:¬L i):vo L i v=.any:=ul h
variable{all:List Oper}{st:eU}
def aJ.num{l:List Oper}{K:eU->Prop}(h:aJ P ro all l st K):aJ P ro all l st (λx=>K x/\x.n=st.n):=
 λρ0 h0 ast hs=>(h ρ0 h0 ast hs).mono λ_ ⟨x,k1,k2,k3⟩=>⟨x,⟨k1,k2⟩,k2,k3⟩
variable{Q:Ex->eU->Prop}
def aD.post{c:Code}(h:aD P ro c st λe x=>∃x',Fg x x'/\Q e x'):aD P ro c st Q:=
 λρ0 h0 ast hs=>(h ρ0 h0 ast hs).mono λ_ _ ⟨_,⟨x',hf,hq⟩,hn,hst⟩=>⟨x',hq,hf.1.trans hn,hf.2 _ _ _ hst⟩
end
section
variable {P:Program} {ro:Option Nat} {S S':List SO} {n:Nat} {ds:List jy} {f f':Fm}
def T1(W:List SO)(o:Nat):List SO->List SO->Nat->Prop
 | _,[],_=>True
 | s::S,s'::S',i=>(s'=.gone\/(i≠o/\(s'=s\/∃cs cs',s=.cells cs/\s'=.cells cs'/\cS W cs cs')))/\T1 W o S S' (i+1)
 | [],_::_,_=>False
def Fz{W:List SO}{o:Nat}:∀{S S':List SO} {i:Nat},T1 W o S S' i->∀(p:Nat) s',S'[p]?=some s'->s'≠.gone->i+p≠o/\∃s,S[p]?=some s/\s≠.gone/\(s'=s\/∃cs cs',s=.cells cs/\s'=.cells cs'/\cS W cs cs')
 | _,[],_,_,p,s',h,_=>by simp at h
 | s::S,t::S',i,hh,0,s',h,hg=>by
  simp only[cp,n8] at h;subst h;obtain⟨h1,h2⟩:=hh.1.resolve_left hg;refine⟨h1,s,rfl,?_,h2⟩
  rcases h2 with h2 | ⟨cs,cs',h2,h3,_⟩
  ·rw[<-h2];exact hg
  ·rw[h2];exact λh=>by cases h
 | s::S,t::S',i,hh,p+1,s',h,hg=>by
  simp only[bk] at h ⊢;obtain⟨h1,h2⟩:=Fz hh.2 p s' h hg;exact⟨by omega,h2⟩
 | [],_::_,_,hh,_,_,_,_=>hh.elim
variable{so:SO}
def Fg.AL(o:Nat)(hS:S[o]?=some so)(hg:so≠.gone)(hf:A4 (mK o so) f f')(hO:T1 (mK o so) o S S' 0):Fg ⟨f,n,S,ds⟩ ⟨f',n,S',ds⟩:=by
 refine⟨rfl,?_⟩;rintro ρ0 h0 ⟨af,n',h,ds'⟩ ⟨rfl,rfl,θ,ρ,hR,hF⟩
 have hsub:∀(p:Nat) (s:SO),(mK o so)[p]?=some s->s≠.gone->S[p]?=some s:=by
  intro p s h1 h2;obtain⟨rfl,rfl⟩:=tC h1 h2;exact hS
 have hR1:=hR.sub hsub
 have hset:∀(p:Nat) (s:SO),S'[p]?=some s->s≠.gone->p≠o/\∃s0,S[p]?=some s0/\s0≠.gone/\(s=s0\/∃cs cs',s0=.cells cs/\s=.cells cs'/\cS (mK o so) cs cs'):=by
  intro p s h1 h2;have:=Fz hO p s h1 h2
  rwa [cn] at this
 have hm:∀id ob,ρ id=some ob->qC θ ρ h (mK o so) id=some ob:=λid ob hi=>sI hi
 have key:∀id ob,qC θ ρ h (mK o so) id=some ob->ρ id=some ob\/id=(θ o).id:=by
  intro id ob hi;unfold qC at hi
  cases hr:ρ id with
  | some ob'=>rw[hr] at hi;exact .inl hi
  | none=>
   rw[hr] at hi;simp only at hi;split at hi
   ·rename_i hex;obtain⟨p,s,q1,q2,rfl⟩:=hex;obtain⟨rfl,_⟩:=tC q1 q2;exact .inr rfl
   ·cases hi
 refine⟨rfl,rfl,θ,qC θ ρ h (mK o so),⟨hR.ok,hR.nx,hR.ob,hR.fm,hR.lw,hR.ln,?_,?_,?_,?_⟩,λi=>?_,hF.u⟩
 ·intro p s h1 h2;obtain⟨_,s0,g1,g2,g3⟩:=hset p s h1 h2;obtain⟨k,k2⟩:=hR.obj p s0 g1 g2;refine⟨k,?_⟩
  rcases g3 with rfl | ⟨cs,cs',rfl,rfl,hw⟩
  ·exact k2.mono hm rfl rfl
  ·obtain⟨aS,q1,q2,q3⟩:=k2;exact⟨aS,q1,(hw.ok hR1 q2).vs,q3⟩
 ·intro p q s s' hpq h1 h2 h3 h4;obtain⟨_,s0,g1,g2,_⟩:=hset p s h1 h2;obtain⟨_,s1,g3,g4,_⟩:=hset q s' h3 h4;exact hR.sep p q s0 s1 hpq g1 g2 g3 g4
 ·intro id ob hi;obtain⟨r1,r2⟩:=rD hR1 id ob hi;refine⟨r1,r2,λp s h1 h2=>?_⟩;obtain⟨hp,s0,g1,g2,_⟩:=hset p s h1 h2
  rcases key id ob hi with e | e
  ·exact(hR.row id ob e).2.2 p s0 g1 g2
  ·subst e;have sp:=hR.sep p o s0 so hp g1 g2 hS hg;obtain⟨k,_⟩:=hR.obj o so hS hg
   rcases k.e with e | e<;>rw[e]
   ·exact⟨sp.xx.symm,sp.yx.symm⟩
   ·exact⟨sp.xy.symm,sp.yy.symm⟩
 ·intro id ob hi
  rcases key id ob hi with e | e
  ·exact hR.nO id ob e
  ·subst e;obtain⟨k,_⟩:=hR.obj o so hS hg;exact .inr (by rcases k.e with e | e<;>rw[e];exact k.x.1;exact k.y.1)
 ·rcases hf.get i with e | e
  ·rw[e];exact(hF.v i).mono hm
  ·exact(e.ok hR1 (hF.v i)).vs
def Fg.Zv(hO:T1 [] S.length S S' 0):Fg ⟨f,n,S,ds⟩ ⟨f,n,S',ds⟩:=by
 refine⟨rfl,?_⟩;rintro ρ0 h0 ⟨af,n',h,ds'⟩ ⟨rfl,rfl,θ,ρ,hR,hF⟩
 have hset:∀(p:Nat) (s:SO),S'[p]?=some s->s≠.gone->∃s0,S[p]?=some s0/\s0≠.gone/\(s=s0\/∃cs cs',s0=.cells cs/\s=.cells cs'/\cS [] cs cs'):=by
  intro p s h1 h2;exact(Fz hO p s h1 h2).2
 refine⟨rfl,rfl,θ,ρ,⟨hR.ok,hR.nx,hR.ob,hR.fm,hR.lw,hR.ln,?_,?_,?_,hR.nO⟩,hF⟩
 ·intro p s h1 h2;obtain⟨s0,g1,g2,g3⟩:=hset p s h1 h2;obtain⟨k,k2⟩:=hR.obj p s0 g1 g2;refine⟨k,?_⟩
  rcases g3 with rfl | ⟨cs,cs',rfl,rfl,hw⟩
  ·exact k2
  ·obtain⟨aS,q1,q2,q3⟩:=k2;have:=hw.ok hR.Gq q2;rw[Cl] at this;exact⟨aS,q1,this.vs,q3⟩
 ·intro p q s s' hpq h1 h2 h3 h4;obtain⟨s0,g1,g2,_⟩:=hset p s h1 h2;obtain⟨s1,g3,g4,_⟩:=hset q s' h3 h4;exact hR.sep p q s0 s1 hpq g1 g2 g3 g4
 ·intro id ob hi;obtain⟨r1,r2,r3⟩:=hR.row id ob hi;refine⟨r1,r2,λp s h1 h2=>?_⟩;obtain⟨s0,g1,g2,_⟩:=hset p s h1 h2;exact r3 p s0 g1 g2
def wo(L:Nat->Prop)(i:Nat)(so:SO):SO:=@ite _ (L i) (Classical.propDecidable _) so .gone
variable{L:Nat->Prop}
def mY{i:Nat}(h:L i):wo L i so=so:=t8 h
def iA{i:Nat}(h:¬L i):wo L i so=.gone:=ul h
def aT(L:Nat->Prop)(i k:Nat)(v:SV):vo (λj=>L j\/j=i) k v=if k=i then v else vo L k v:=by
 by_cases h:k=i
 ·rw[t8 h];exact dC (.inr h)
 ·rw[ul h];by_cases hl:L k
  ·rw[dC hl];exact dC (.inl hl)
  ·rw[uT hl];exact uT λe=>e.elim hl h
def fX(L:Nat->Prop)(i k:Nat)(so:SO):wo (λj=>L j\/j=i) k so=if k=i then so else wo L k so:=by
 by_cases h:k=i
 ·rw[t8 h];exact mY (.inr h)
 ·rw[ul h];by_cases hl:L k
  ·rw[mY hl];exact mY (.inl hl)
  ·rw[iA hl];exact iA λe=>e.elim hl h
def lj(o:Nat)(L:Nat->Prop)(i:Nat)(so:SO):cx o (wo L i so)=wo L i (cx o so):=by
 by_cases hl:L i
 ·rw[mY hl,mY hl]
 ·rw[iA hl,iA hl];rfl
def tX(r:Nat->Nat)(L:Nat->Prop)(i:Nat)(v:SV):gF r (vo L i v)=vo L i (gF r v):=by
 by_cases hl:L i
 ·rw[dC hl,dC hl]
 ·rw[uT hl,uT hl,gF]
def tY(r:Nat->Nat)(L:Nat->Prop)(i:Nat)(so:SO):oI r (wo L i so)=wo L i (oI r so):=by
 by_cases hl:L i
 ·rw[mY hl,mY hl]
 ·rw[iA hl,iA hl];rfl
def cq(o:Nat)(L:Nat->Prop)(i:Nat)(v:SV)(h:names o v=false):names o (vo L i v)=false:=by
 by_cases hl:L i
 ·rw[dC hl];exact h
 ·rw[uT hl];simp[names]
def nC(i:Nat)(v:SV):vo (λ_=>False) i v=.any:=uT λh=>h
def OB(i:Nat)(so:SO):wo (λ_=>False) i so=.gone:=iA λh=>h
end
def HI.defer{P:Program}{o:Oper}{f:Nat->AV}{m:Nat}{h:H}{ds:List jy}{K:gZ->Prop}{c:Call}{x:Operand}{g:FuncId}{first cap xs:List AV}(hop:o.op=.defer c)(hd:yB o.dst m=true)(hcal:c.callee=.value x)(hx:ev (dy f m) x=some (.fn (.func g) first cap))(hargs:Aj (dy f m) c.args.toList=some xs)
 (hk:K ⟨KD f o.dst kJ,m,h,{ fn:=some (.func g),sZ:=0,args:=first++xs,cap }::ds⟩):HI P none o ⟨f,m,h,ds⟩ K:=by
 intro F n σ a w next Q hs hF hnext
 refine⟨λf _=>hF.fn f,?_⟩;have hρ:=hs.sr.t.ev;have hF':F=Fence.wide:=hF;subst hF';have hxs:=q6 hρ _ _ hargs;have hV:=hρ _ _ hx;generalize hgv:a.eval x=v at hV
 cases hV with
 | @fn _ _ _ fs' cs' hfy h1 h2 h3 h4=>
  have hfs:VL σ first fs'.toList:=⟨by simpa using h1,λi a v x y=>h2 i a v x (by simpa using y)⟩
  have hcs:VL σ cap cs'.toList:=⟨by simpa using h3,λi a v x y=>h4 i a v x (by simpa using y)⟩
  have hrun:(o.semAt none a.eval).run P w=.ok (.defer { target:=.fn (.func g) cs',args:=fs'++c.args.map a.eval }) w:=by
   simp only[Oper.semAt_none,execOp,hop,resolve,hcal,hgv,Deferred.ofValue,n5,m9,n7]
  show o.uponIn Fence.wide n P a next Q ((o.semAt none a.eval).run P w)
  rw[hrun];refine hnext _ _ w σ hk ⟨?_,hs.h,?_⟩ (.refl _ _ _) rfl
  ·exact(TF.put (a:={ a with defers:=_::a.defers }) hs.t (Ig hd) V.kJ)
  ·rw[put_defers];refine⟨⟨g,cs',rfl,rfl,?_,hcs⟩,hs.ds⟩;simp only[bb,Array.toList_map];exact hfs.append hxs
section
variable {θ θ':Nat->Loc} {ρ ρ0 ρ':lD} {P:Program} {h0:En} {h h1:H} {S S' S0:List SO}
def aJ.defer{all:List Oper}{o:Oper}{l:List Oper}{K:eU->Prop}{f:Fm}{n:Nat}{ds:List jy}{cl:Call}{x:Operand}{g:FuncId}{first cap vs:List SV}(hst:eD all n [o]=true)(hop:o.op=.defer cl)(hdst:o.dst=none)(hw:cH all f o.guard=some true)(hn:n<=1000000)
 (hcal:cl.callee=.value x) (hx:fp f x=some (.fn g first cap)) (hargs:pM f cl.args.toList=some vs) (hlow:Al (7000000+ds.length) f=true)
 (hk:∀a:jy,a.fn=some (.func g)->aJ P none all l ⟨(7000000+ds.length,.fn g (first++vs) cap)::f,n,S,a::ds⟩ K):aJ P none all (o::l) ⟨f,n,S,ds⟩ K:=by
 rintro ρ0 h0 ⟨af,n',h,ds'⟩ ⟨rfl,rfl,θ,ρ,hR,hF⟩;obtain⟨a,ha,ka⟩:=bE hF hx;obtain⟨aS,has,kas⟩:=mg hF hargs;rw[VS] at ka;obtain⟨xs,ys,rfl,kx,ky⟩:=ka;refine jz.cons (cE hF (dR hst hw)) (HI.defer hop (by rw[hdst];rfl) hcal ha has ?_);rw[hdst];refine hk { fn:=some (.func g),sZ:=0,args:=xs++aS,cap:=ys } rfl ρ0 h0 ⟨af,n',h,_⟩ ⟨rfl,rfl,θ,ρ,hR,?_⟩;have hF2:=hF.push { fn:=some (.func g),sZ:=0,args:=xs++aS,cap:=ys } hlow;refine⟨λi=>?_,hF2.u⟩;show VS θ ρ (if 7000000+ds'.length=i then _ else aP f i) _;by_cases e:7000000+ds'.length=i
 ·subst e;have hn1:n'<=1000000:=hn;rw[t8 rfl];show VS θ ρ _ (if 7000000+ds'.length<n' then _ else Az h0.w _ (7000000+ds'.length));rw[ul gt,Az,t8 gt,bX,Ny rfl,VS];exact⟨_,_,rfl,kx.app kas,ky⟩
 ·rw[ul e];exact hF2.v i
def A5(P:Program)(n:Nat):List jy->Fm->List SO->(Fm->List SO->Prop)->Prop
 | [],f,S,K=>K f S
 | d::ds,f,S,K=>∃f2,uY f f2/\Al (7000000+ds.length) f2=true/\((d.fn=none/\∃o:Nat,S[o]?=some (.pT d.sZ)/\A5 P n ds f2 (S.set o .gone) K)\/
  ∃(g:FuncId) (first cap:List SV) (fn:Func) (c:Code) (m:Nat),d.fn=some (.func g)/\aP f (7000000+ds.length)=.fn g first cap/\P.funcs[g]?=some fn/\fn.body=some c/\(first++cap).length+(fn.ntmps-(first++cap).length)=m/\m<=1000000/\
   aD P none c ⟨mr 0 (first++cap)++Ox laid f2,m,S,[]⟩ λe st=>lP e=true/\st.ds=[]/\(∃vs,qB P st.f st.S fn.results.toList=some vs)/\A5 P n ds (w9 laid st.f) st.S K)
def M4{aS:List AV}:∀(o:Option (List AV)),o=some aS->o.map (λvs=>match vs with | [v]=>v | vs=>AV.bB vs)=some (TM aS):=by
 rintro _ rfl
 match aS with
 | []=>rfl
 | [_]=>rfl
 | _::_::_=>rfl
variable{f2:Fm}{ds:List jy}
def FR.pop{f:Fm}{af:Nat->AV}{w:Nat->AV}{d:jy}(hF:FR θ ρ (aP f) af n (Az w (d::ds)))(hh:uY f f2)(hl:Al (7000000+ds.length) f2=true):FR θ ρ (aP f2) af n (Az w ds):=by
 refine⟨λi=>?_,λi hi=>by have:=hF.u i hi;rw[rO _ _ gt] at this ⊢;exact this⟩
 rcases hh.get i with e | e
 ·have hv:=hF.v i;rw[e];by_cases hin:i<n
  ·rw[t8 hin] at hv ⊢;exact hv
  rw[ul hin] at hv ⊢;by_cases h1:i<7000000
  ·rw[rO _ _ h1] at hv ⊢;exact hv
  ·by_cases h2:i-7000000<ds.length
   ·cases ds with
    | nil=>simp at h2
    | cons d' ds=>
     rw[Az,t8 gt,Ie h2] at hv;rw[Az,t8 gt];exact hv
   ·have e2:=vM hl (show 7000000+ds.length<=i by omega);rw[<-e,e2,VS];trivial
 ·rw[e,VS];trivial
def sX{n:Nat}{af:Nat->AV}{K:Fm->List SO->Prop}(hn:n<=1000000):∀(ds:List jy) (f:Fm) (S:List SO) (h:H) (θ:Nat->Loc) (ρ:lD),A5 P n ds f S K->RS θ ρ0 ρ h0 h S->FR θ ρ (aP f) af n (Az h0.w ds)->
 HM P ds h λh''=>∃f' S' θ' ρ',K f' S'/\RS θ' ρ0 ρ' h0 h'' S'/\FR θ' ρ' (aP f') af n h0.w
 | [],f,S,h,θ,ρ,hl,hR,hF=>⟨f,S,θ,ρ,hl,hR,hF⟩
 | d::ds,f,S,h,θ,ρ,hl,hR,hF=>by
  obtain⟨f2,hh,hlow,hl⟩:=hl;have hF2:=hF.pop hh hlow;rw[HM]
  rcases hl with⟨hdf,o,hS,hl⟩ | ⟨g,first,cap,fn,c,m,hdf,hfv,hfn,hb,hm,hm1,hl⟩
  ·rw[hdf];obtain⟨_,hid,hob⟩:=hR.obj o _ hS (λe=>by cases e);rw[hid] at hob;refine⟨hob,sX hn ds f2 _ _ θ ρ hl ?_ hF2⟩;rw[<-hid];exact hR.put hS (λe=>by cases e) trivial
  ·rw[hdf];have hv:=hF.v (7000000+ds.length);rw[hfv,ul gt] at hv;rw[Az,t8 gt,Nat.add_sub_cancel_left,Ny hdf,VS] at hv;obtain⟨xs,ys,e,kx,ky⟩:=hv;simp only[AV.fn.injEq,true_and] at e;obtain⟨e1,e2⟩:=e
   have kall:df θ ρ (first++cap) (d.args++d.cap):=by rw[e1,e2];exact kx.app ky
   have hlen:=kall.length;refine⟨fn,c,m,hfn,hb,by rw[hlen];exact hm,?_⟩
   obtain⟨w',hw'⟩:∃w':Nat->AV,w'=λi=>if laid<=i then (if i-laid<n then af (i-laid) else Az h0.w ds (i-laid)) else kJ:=⟨_,rfl⟩
   have hvl:(first++cap).length<=m:=by omega
   have hst1:kP ρ0 { h0 with w:=w' } ⟨mr 0 (first++cap)++Ox laid f2,m,S,[]⟩ ⟨tM (d.args++d.cap),m,h,[]⟩:=by
    refine⟨rfl,rfl,θ,ρ,hR.w _,λi=>?_,λi hi=>?_⟩
    ·by_cases hi:i<(first++cap).length
     ·obtain⟨w,hw⟩:=Bb (first++cap) 0 i (Nat.zero_le _) gt;show VS θ ρ (aP (mr 0 (first++cap)++Ox laid f2) i) _;rw[xH _ _ _ hw,vb,t8 (Nat.zero_le _),Nat.sub_zero,jp hi];obtain⟨a,ha,ka⟩:=kall.get (jp hi)
      have hil:i<m:=by omega
      rw[t8 hil]
      have e:tM (d.args++d.cap) i=a:=by unfold tM;rw[ha]
      show VS θ ρ (first++cap)[i] (tM (d.args++d.cap) i);rw[e];exact ka
     ·show VS θ ρ (aP (mr 0 (first++cap)++Ox laid f2) i) _;rw[vn _ _ _ (λv=>xm (first++cap) 0 i v gt),vq];by_cases hb:laid<=i
      ·rw[t8 hb,ul (show ¬i<m by unfold laid at hb;omega)];show VS θ ρ _ (w' i);rw[hw'];simp only;rw[t8 hb];exact hF2.v (i-laid)
      ·rw[ul hb,VS];trivial
    ·show w' i=kJ;rw[hw'];simp only;rw[ul (by unfold laid;omega)]
   refine(hl ρ0 _ _ hst1).mono ?_;rintro ex ⟨af2,n2,h2,ds2⟩ ⟨st,⟨he,hds,⟨vs,hres⟩,hK⟩,hn2,e3,e4,θ2,ρ2,hR2,hF3⟩;simp only at e3 e4 hR2 hF3 hn2;rw[hds] at e4;subst e4;subst e3;obtain⟨aS,k1,k2⟩:=wg hR2 hF3 hres;refine⟨he,rfl,⟨TM aS,M4 _ k1⟩,?_⟩;refine sX hn ds _ _ _ θ2 ρ2 hK (hR2.w h0.w) ⟨λi=>?_,hF2.u⟩;rw[vp];have:=hF3.v (laid+i);rw[ul (by rw[hn2];unfold laid;omega)] at this
   have e5:Az w' [] (laid+i)=if i<n then af i else Az h0.w ds i:=by
    show w' (laid+i)=_;rw[hw'];simp only;rw[t8 gt,Nat.add_sub_cancel_left]
   rw[e5] at this;exact this
def HM.mono{K K':H->Prop}:∀(ds:List jy) (h:H),HM P ds h K->(∀h,K h->K' h)->HM P ds h K'
 | [],h,hl,hk=>hk h hl
 | d::ds,h,hl,hk=>by
  rw[HM] at hl ⊢
  cases hdf:d.fn with
  | none=>
   rw[hdf] at hl;exact⟨hl.1,HM.mono ds _ hl.2 hk⟩
  | some f=>
   rw[hdf] at hl
   cases f with
   | func g=>
    obtain⟨fn,c,m,q1,q2,q3,q4⟩:=hl;exact⟨fn,c,m,q1,q2,q3,q4.mono λe st ⟨a1,a2,a3,a4⟩=>⟨a1,a2,a3,HM.mono ds _ a4 hk⟩⟩
   | _=>exact hl.elim
def OF(P:Program)(fn:Func)(Q:SV->Prop):Ex->eU->Prop:=λe st=>lP e=true/\A5 P st.n st.ds st.f st.S λf S=>∃vs r,qB P f S fn.results.toList=some vs/\Wk S (dA vs) r/\Q r
def Xx(P:Program)(fn:Func)(K:Nat)(mv:List Nat)(Q:SV->List SO->Prop):Ex->eU->Prop:=λe st=>lP e=true/\A5 P st.n st.ds st.f st.S λf S=>(∃vs,qB P f S fn.results.toList=some vs/\Q (dA vs) S)/\K<=S.length/\∀i,i<K->i∉mv->aP f (1000000+i)=.ptr i 0
def PC.tU(hng:uZ P){g:FuncId}{fn:Func}{c:Code}{args:List SV}{Q:SV->Prop}(hf:P.funcs[g]?=some fn)(hb:fn.body=some c){n:Nat}(hn:args.length+(fn.ntmps-args.length)=n)(hlim:n<=1000000)
 (hw:aD P none c ⟨mr 0 args,n,[],[]⟩ (OF P fn Q)):PC P g args Q:=by
 intro ρ h avs hρ hA;have hlen:=hA.length;refine dK.tU (n:=n) hng hf hb (by rw[hlen];exact hn) ?_
 have hst:kP ρ ⟨{ h with low:=h.next },λj=>j<h.next,λj=>j<h.next,h.next,λ_=>kJ⟩ ⟨mr 0 args,n,[],[]⟩ ⟨tM avs,n,{ h with low:=h.next },[]⟩:=by
  refine⟨rfl,rfl,λ_=>⟨0,0,0,0⟩,ρ,⟨⟨λj hj=>hj,λj hj=>hj,λj hj=>bt hj,ay _⟩,ay _,λ_ _=>rfl,λ_ _=>rfl,ay _,ay _,λo so h=>by simp at h,λo o' so so' _ h=>by simp at h,λid ob hi=>⟨(hρ id ob hi).1,(hρ id ob hi).2,λo so h=>by simp at h⟩,λid ob hi=>.inl hi⟩,?_,λ_ _=>rfl⟩;intro i;rw[vb,t8 (bx _),d9];by_cases hi:i<args.length
  ·rw[jp hi];obtain⟨a,ha,ka⟩:=hA.get (jp hi)
   have hil:i<n:=by omega
   rw[t8 hil]
   have e:tM avs i=a:=by unfold tM;rw[ha]
   show VS _ _ args[i] (tM avs i);rw[e];exact ka.vs
  ·rw[List.getElem?_eq_none gt];simp only;rw[VS];trivial
 refine(hw ρ _ _ hst).mono ?_;rintro e ⟨af,n',h',ds'⟩ ⟨st,⟨h1,hl⟩,h6,h7,h8,θ,ρ',hR,hF⟩;simp only at h6 h7 h8 hR hF;subst h7;rw[<-h8] at hl;refine⟨h1,?_⟩;have hlv:=sX (by rw[h6];exact hlim) ds' st.f st.S h' θ ρ' hl hR hF;refine HM.mono ds' h' hlv ?_;rintro h'' ⟨f',S',θ',ρ'',⟨vs,r,h3,h4,h5⟩,hR',hF'⟩;obtain⟨aS,k1,k2⟩:=wg hR' hF' h3;refine⟨TM aS,M4 _ k1,r,qC θ' ρ'' h'' S',h5,⟨hR'.nx,λj hj=>hR'.ob j hj,λj hj=>hR'.fm j hj,λhl=>?_⟩,?_,h4.ok hR' (N8 k2)⟩
 ·have:h.next<=h''.low:=hR'.lw;show ic h.low h''.low=h.low;exact tu (fu hl this)
 ·intro id ob hi;have hlt:=rD hR' id ob hi;unfold qC at hi
  cases hr:ρ'' id with
  | some ob'=>
   rw[hr] at hi;cases hi
   rcases hR'.nO id _ hr with e | e
   ·exact .inl e
   ·exact .inr ⟨bt e,hlt.1,hlt.2⟩
  | none=>
   rw[hr] at hi;simp only at hi;split at hi
   ·rename_i hex;obtain⟨o,so,q1,q2,rfl⟩:=hex;obtain⟨k,_⟩:=hR'.obj o so q1 q2;exact .inr ⟨bt (by rcases k.e with e | e<;>rw[e];exact k.x.1;exact k.y.1),hlt.1,hlt.2⟩
   ·cases hi
def SC.tU(hng:uZ P){g:FuncId}{fn:Func}{c:Code}{args:List SV}{mv:List Nat}{Q:SV->List SO->Prop}(hf:P.funcs[g]?=some fn)(hb:fn.body=some c){n:Nat}(hn:args.length+(fn.ntmps-args.length)=n)(hlim:n<=1000000){W:Fm}(hW:W=pS S0.length)(hK:S0.length<=1000000)
 (hw:aD P none c ⟨mr 0 args++W,n,S0,[]⟩ (Xx P fn S0.length mv Q)):SC P g args S0 mv Q:=by
 intro E θ ρ h avs hE hR hA;subst hW;have hlen:=hA.length;refine dK.tU (n:=n) hng hf hb (by rw[hlen];exact hn) ?_
 have hst:kP ρ { E with w:=λi=>if 1000000<=i/\i<1000000+S0.length then .ptr (some ((θ (i-1000000)).id,0)) else kJ } ⟨mr 0 args++pS S0.length,n,S0,[]⟩ ⟨tM avs,n,{ h with low:=h.next },[]⟩:=by
  refine⟨rfl,rfl,θ,ρ,?_,?_,λi hi=>ul (λh=>by omega)⟩
  ·rw[<-hE]
   exact⟨⟨hR.ok.pr,hR.ok.pf,hR.ok.lo,hR.ok.ln⟩,hR.nx,hR.ob,hR.fm,hR.lw,hR.ln,λo so h1 h2=>by
    obtain⟨⟨k1,k2,k3,k4⟩,k5⟩:=hR.obj o so h1 h2
    exact⟨⟨k1,k2,k3,k4⟩,k5⟩,hR.sep,hR.row,hR.nO⟩
  ·intro i;by_cases hi:i<args.length
   ·obtain⟨w,hw⟩:=Bb args 0 i (bx _) gt;show VS θ ρ (aP (mr 0 args++pS S0.length) i) _;rw[xH _ _ _ hw,vb,t8 (bx _),d9,jp hi];obtain⟨a,ha,ka⟩:=hA.get (jp hi)
    have hil:i<n:=by omega
    rw[t8 hil]
    have e:tM avs i=a:=by unfold tM;rw[ha]
    show VS θ ρ args[i] (tM avs i);rw[e];exact ka
   ·show VS θ ρ (aP (mr 0 args++pS S0.length) i) _;rw[vn _ _ _ (λv=>xm args 0 i v gt)];unfold pS;rw[Io];by_cases hc:i≥1000000/\(i-1000000)∈co S0.length
    ·have h1:=hc.1;have h2:=mem_range.1 hc.2;rw[t8 hc,ul (show ¬i<n by omega),VS];exact t8 ⟨h1,by omega⟩
    ·rw[ul hc,VS];trivial
 refine(hw ρ _ _ hst).mono ?_;rintro e ⟨af,n',h',ds'⟩ ⟨st,⟨h1,hl⟩,h6,h7,h8,θ',ρ',hR',hF⟩;simp only at h7 h8 hR' hF h6;subst h7;rw[<-h8] at hl;refine⟨h1,?_⟩;have hlv:=sX (by rw[h6];exact hlim) ds' st.f st.S h' θ' ρ' hl hR' hF;refine HM.mono ds' h' hlv ?_;rintro h'' ⟨f',S',θ'',ρ'',⟨⟨vs,h3,h5⟩,hK2,hwt⟩,hR2,hF2⟩;obtain⟨aS,k1,k2⟩:=wg hR2 hF2 h3;refine⟨TM aS,M4 _ k1,dA vs,S',θ'',ρ'',h'',h5,rfl,?_,N8 k2,hK2,?_⟩
 ·exact⟨hR.ok,hR2.nx,hR2.ob,hR2.fm,hR2.lw,hR2.ln,λo so h1 h2=>by
   obtain⟨⟨k1,k2,k3,k4⟩,k5⟩:=hR2.obj o so h1 h2
   exact⟨⟨k1,k2,k3,k4⟩,k5⟩,hR2.sep,hR2.row,hR2.nO⟩
 ·intro i hi hm;have:=hF2.v (1000000+i);rw[hwt i hi hm,ul (show ¬1000000+i<st.n by omega),VS] at this;have e2:=this.symm.trans (t8 ⟨by omega,by omega⟩);rw[bX] at e2;simp only[AV.ptr.injEq,n8,m8,and_true] at e2;exact e2
end
section
variable {P:Program} {S S':List SO}
def Nz{B:Nat}:∀f:Fm,w9 B (Ox B f)=f
 | []=>rfl
 | (d,v)::f=>by
  show(if B<=d+B then (d+B-B,v)::w9 B (Ox B f) else _)=_;rw[t8 (Nat.le_add_left _ _),Nat.add_sub_cancel,Nz f]
def Y2(P:Program)(ro:Option Nat)(c:hY)(oo:Nat)(vs:List SV)(S:List SO)(f0:Fm)(K:Ex->List SO->Fm->Prop):Prop:=∀pend f1,S[oo]?=some (.loop c .ready pend f1)->
 aD P ro c.a ⟨GB c.ps.toList vs (f1++Ox laid f0),c.n,S,[]⟩ λex st=>ex=.normal/\∃pend2 f2,st.S[oo]?=some (.loop c .ready pend2 f2)/\
  aD P ro c.b ⟨st.f,c.n,st.S.set oo (.loop c .busy pend2 f2),st.ds⟩ λex st=>st.ds=[]/\∃ls p3 f3,st.S[oo]?=some (.loop c ls p3 f3)/\K ex (st.S.set oo (.loop c (xE ex) (xC ex) f3)) (w9 laid st.f)
variable{all:List Oper}{f1:Fm}{ds:List jy}
def aJ.yR{ro:Option Nat}{o:Oper}{l:List Oper}{K:eU->Prop}{f:Fm}{d:Nat}{cl:Call}{x:Operand}{vs:List SV}{c:hY}{pend:Option Code}(oo:Nat)(hst:eD all n [o]=true)(hop:o.op=.call cl)(hdst:o.dst=some d)(hw:cH all f o.guard=some true)(hdy:gG (.call cl)=true)
 (hcal:cl.callee=.value x) (hx:fp f x=some (.a (.fn (.yield c.id) [] []))) (hargs:pM f cl.args.toList=some vs) (hS:S[oo]?=some (.loop c .ready pend f1)) (hps:c.ps.toList.length=vs.length) (hlow:Al c.n f1=true) (hn1:c.n<=1000000) (hpar:c.ps.toList.all (λk=>blt k c.n)=true)
 (hr:∀ro',Y2 P ro' c oo vs S f λex S' f'=>aJ P ro all l ⟨(d,.a (.bool (xD ex)))::f',n,S',ds⟩ K):aJ P ro all (o::l) ⟨f,n,S,ds⟩ K:=by
 refine aJ.y hst hop hdst hw hdy hcal hx hargs hS hps hlow hn1 hpar λro'=>?_;refine aD.mono (hr ro' _ _ hS) ?_;rintro ex st ⟨rfl,p2,f2,h1,h2⟩;refine⟨rfl,oo,p2,f2,h1,aD.mono h2 ?_⟩;rintro ex st ⟨hds,ls,p3,f3,h3,h4⟩;exact⟨hds,oo,ls,p3,f3,h3,h4⟩
end
section
variable {P:Program} {ro:Option Nat}
def aJ.mono{all l:List Oper}{st:eU}{K K':eU->Prop}(h:aJ P ro all l st K)(hk:∀x,K x->K' x):aJ P ro all l st K':=
 λρ0 h0 ast hs=>(h ρ0 h0 ast hs).mono λ_ ⟨x,k1,k2⟩=>⟨x,hk x k1,k2⟩
def A3(P:Program)(ro:Option Nat)(ol:List Oper):Nat->List Oper->eU->(eU->Prop)->Prop
 | _,[],x,K=>K x
 | i,o::l,x,K=>aJ P ro (ol.take (i+1)) [o] x λx'=>A3 P ro ol (i+1) l x' K
variable{id:Nat}{ops:Array Oper}{st:eU}{Q:Ex->eU->Prop}{ol:List Oper}
def aD.y9(m fuel:Nat)(F1:(Nat->Prop)->eU)(hol:ops.toList=ol)(hok:(mN 0 ol&&P.follows .mixedOrders)=true) (hgd:(ol.zipIdx.all λp=>match p.1.guard with
 | none=>true
 | some (j,_)=>blt j p.2)=true) (hm:m<ol.length)
 (hanc:((co ol.length).all λi=>blt i m||(co i).all λk=>(Yh ol fuel i).contains k)=true) (h0:Fg st (F1 λ_=>False)) (hn:∀L,(F1 L).n=st.n)
 (hpre:∀L i o,i<m->nb ol L->Yg ol L i o->aJ P ro (ol.take (i+1)) [o] (F1 L) λx=>Fg x (F1 λj=>L j\/j=i))
 (htail:A3 P ro ol m (ol.drop m) (F1 λj=>j<m) (Q .normal)):aD P ro (.region id ops true) st Q:=by
 have hgd2:∀(i:Nat) (o:Oper),ol[i]?=some o->∀(j:Nat) (b:Bool),o.guard=some (j,b)->j<i:=by
  intro i o ho j b hg;have:=all_eq_true.1 hgd (o,i) (mem_iff_getElem?.2 ⟨i,by rw[List.getElem?_zipIdx,ho];simp⟩);simp only[hg] at this;exact fY this
 have hA:∀{L:Nat->Prop} {i k:Nat},nb ol L->(∀o,ol[i]?=some o->∀e∈o.after.toList,dep e=true->L e.on)->i<ol.length->m<=i->k<i->L k:=by
  intro L i k hc hd hi hmi hk;have h1:=all_eq_true.1 hanc i (mem_range.2 hi);rw[dc] at h1
  rcases h1 with h1 | h1
  ·have:=fY h1;omega
  ·have:=all_eq_true.1 h1 k (mem_range.2 hk);exact QV hc hd k (List.contains_iff_mem.1 this)
 refine aD.any hol hok (.inr hgd2) (λL x=>x.n=st.n/\(∀k,L k->k<ol.length)/\nb ol L/\((¬L m/\Fg x (F1 L))\/∃t,m<t/\t<=ol.length/\(∀k,L k↔k<t)/\A3 P ro ol t (ol.drop t) x (Q .normal))) ⟨rfl,λ_ h=>h.elim,λ_ _ _ h=>h.elim,.inl ⟨λh=>h,h0⟩⟩ (λL x h=>h.1) ?_ ?_
 ·rintro L x i o ⟨hxn,hlt,hc,hx⟩ hr;have hil:i<ol.length:=aR hr.gw;have hlt2:∀k,(L k\/k=i)->k<ol.length:=λk h=>h.elim (hlt k) (λe=>e▸hil)
  have hc2:nb ol (λj=>L j\/j=i):=by
   intro j o' ho' hj e he hd
   rcases hj with hj | rfl
   ·exact .inl (hc j o' ho' hj e he hd)
   ·have:=hr.gw;rw[ho'] at this;cases this;exact .inl (hr.dep e he hd)
  have hdi:∀o',ol[i]?=some o'->∀e∈o'.after.toList,dep e=true->L e.on:=by
   intro o' ho' e he hd;have:=hr.gw;rw[ho'] at this;cases this;exact hr.dep e he hd
  have hdrop:ol.drop i=o::ol.drop (i+1):=by
   rw[cf hil]
   congr 1
   have:=hr.gw;rw[jp hil] at this;exact Option.some.inj this
  rcases hx with⟨hnm,hfg⟩ | ⟨t,hmt,htl,hL,hch⟩
  ·refine aJ.fg hfg ?_;by_cases him:i<m
   ·refine aJ.mono (aJ.num (hpre L i o him hc hr)) ?_;rintro x' ⟨h1,h2⟩;exact⟨by rw[h2,hn],hlt2,hc2,.inl ⟨λh=>h.elim hnm gt,h1⟩⟩
   ·have hie:i=m:=by
     refine Decidable.byContradiction λhne=>hnm ?_;exact hA hc hdi hil gt gt
    subst hie
    have hLe:L=λj=>j<i:=by
     funext k;refine propext ⟨λhk=>?_,λhk=>hA hc hdi hil (ay _) hk⟩;refine Decidable.byContradiction λhge=>?_;by_cases e:k=i
     ·subst e;exact hr.new hk
     ·exact hr.new (hA hc (λo' ho'=>hc k o' ho' hk) (hlt k hk) gt gt)
    rw[hLe];rw[hdrop,A3] at htail;refine aJ.mono (aJ.num htail) ?_;rintro x' ⟨h1,h2⟩;refine⟨by rw[h2,hn],λk hk=>hk.elim (λh=>by omega) (λh=>by omega),by rw[hLe] at hc2;exact hc2,.inr ⟨i+1,by omega,hil,λk=>⟨λh=>h.elim (λh=>by omega) (λh=>by omega),λh=>?_⟩,h1⟩⟩;by_cases e:k=i
    ·exact .inr e
    ·exact .inl (by show k<i;omega)
  ·have hit:i=t:=by
    have h1:¬i<t:=λh=>hr.new ((hL i).2 h);refine Decidable.byContradiction λhne=>?_;have:=(hL t).1 (hA hc hdi hil gt gt);omega
   subst hit;rw[hdrop,A3] at hch;refine aJ.mono (aJ.num hch) ?_;rintro x' ⟨h1,h2⟩;refine⟨by rw[h2,hxn],hlt2,hc2,.inr ⟨i+1,by omega,hil,λk=>⟨λh=>h.elim (λh=>by have:=(hL k).1 h;omega) (λh=>by omega),λh=>?_⟩,h1⟩⟩;by_cases e:k=i
   ·exact .inr e
   ·exact .inl ((hL k).2 gt)
 ·rintro L x ⟨hxn,hlt,hc,hx⟩ hall
  rcases hx with⟨hnm,_⟩ | ⟨t,hmt,htl,hL,hch⟩
  ·exact t7 (hall m hm) hnm
  ·have:t=ol.length:=by
    refine Decidable.byContradiction λhne=>?_;have:=(hL t).1 (hall t gt);omega
   subst this;rw[bw] at hch;exact hch
end
section
variable {P:Program} {ro:Option Nat}
def PC.body(hng:uZ P){g:FuncId}{fn:Func}{c:Code}{args:List SV}{Q:SV->Prop}(hf:P.funcs[g]?=some fn)(hb:fn.body=some c)(hn:args.length+(fn.ntmps-args.length)=n)
 (hw:aD P none c ⟨mr 0 args,n,[],[]⟩ (ue P fn Q)) (hlim:n<=1000000:=by exact md rfl):PC P g args Q:=
 .tU hng hf hb hn hlim (hw.mono λe st ⟨h1,h2,h3⟩=>⟨h1,by rw[h2];exact h3⟩)
def SC.body(hng:uZ P){g:FuncId}{fn:Func}{c:Code}{args:List SV}{S0:List SO}{mv:List Nat}{Q:SV->List SO->Prop}(hf:P.funcs[g]?=some fn)(hb:fn.body=some c)(hn:args.length+(fn.ntmps-args.length)=n)(hlim:n<=1000000){W:Fm}(hW:W=pS S0.length)
 (hw:aD P none c ⟨mr 0 args++W,n,S0,[]⟩ (QC P fn S0.length mv Q)) (hK:S0.length<=1000000:=by exact md rfl):SC P g args S0 mv Q:=
 .tU hng hf hb hn hlim hW hK (hw.mono λe st ⟨h1,h2,h3⟩=>⟨h1,by rw[h2];exact h3⟩)
variable{ol:List Oper}{L:Nat->Prop}
def LC(hb:mN 0 ol=true)(hc:nb ol L):∀(i:Nat) (o:Oper),ol[i]?=some o->(∀e∈o.after.toList,dep e=true->L e.on)->bW ((qq ol []).getD i 0) j=true->L j:=by
 intro i
 induction i using Nat.strongRecOn with
 | _ i ih=>
  intro o ho hd hj;have hlt:=λe he hde=>qQ hb ho e he hde;simp only[cn] at hlt;obtain⟨e,he,hde,h | h⟩:=LD ho hlt hj
  ·exact h▸hd e he hde
  ·have hl:=hlt e he hde;obtain⟨o',ho'⟩:∃o',ol[e.on]?=some o':=⟨_,jp (fx hl (aR ho))⟩;exact ih e.on hl o' ho' (hc _ _ ho' (hd e he hde)) h
def NQ{α β γ:Type}(a:Option α)(g:α->Option β)(k:β->γ):(a.bind λx=>(g x).map k)=(a.bind g).map k:=by cases a<;>rfl
variable{op:Op}
def Vg{f:Fm}{S S2:List SO}{v:SV}(hr:lS op=true)(hh:Lu op=false)(h:dY P f S op=some (v,S,none)):dY P f S2 op=some (v,S2,none):=by
 have go:∀{α:Type} (q:Option α) (w:α->SV),q.map (λv=>(w v,S,(none:Option Nat)))=some (v,S,none)->q.map (λv=>(w v,S2,(none:Option Nat)))=some (v,S2,none):=by
  rintro _ (_ | q) w h
  ·cases h
  ·cases h;rfl
 cases op<;>first | (simp[lS] at hr;done) | (simp[Lu] at hh;done) | (simp only[dY,NQ] at h ⊢;exact go _ _ h) | skip
 case makeFunc g first _=>
  cases g<;>first | (simp[lS] at hr;done) | skip
  all_goals
   simp only[dY] at h ⊢
   cases ha:pM f first.toList with
   | none=>rw[ha] at h;cases h
   | some a=>
    rw[ha] at h;simp only[m7] at h ⊢
    first
    | exact go _ _ h
    | cases hb:jM a with
     | none=>rw[hb] at h;cases h
     | some b=>
      rw[hb] at h;simp only[m7,NQ] at h ⊢;exact go _ _ h
 case extract x _=>
  simp only[dY] at h ⊢
  cases hx:fp f x with
  | none=>rw[hx] at h;cases h
  | some w=>
   rw[hx] at h
   cases w<;>first | (cases h;done) | exact go _ _ h
def SU(ol:List Oper)(i:Nat)(a:Oper)(mj:Nat)(b:Oper):Bool:=
 (match b.dst with | some d=>!(decide (a.dst=some d))&&(!(jC ol a).contains d||bW mj i) | none=>true)&&(bW mj i||(match a.dst with | some d=>!(jC ol b).contains d | none=>true)&&!(yM a.op&&yM b.op))
def EV(all:List Oper)(ms:List Nat):List (Nat×Oper)->Bool
 | []=>true
 | (i,a)::rest=>(match a.dst with | some d=>!(jC all a).contains d | none=>true)&&(match a.guard with | some (j,_)=>blt j i | none=>true)&&rest.all (λq=>SU all i a (ms.getD q.1 0) q.2)&&EV all ms rest
def SX{all:List Oper}{ms:List Nat}:∀{ol:List Oper} {i0 i:Nat} {o:Oper},EV all ms (dj i0 ol)=true->ol[i]?=some o->(∀d,o.dst=some d->d∉jC all o)/\(∀j b,o.guard=some (j,b)->j<i0+i)/\∀(k:Nat) o',i<k->ol[k]?=some o'->SU all (i0+i) o (ms.getD (i0+k) 0) o'=true
 | [],_,_,_,_,h=>by simp at h
 | a::ol,i0,i,o,h,ho=>by
  rw[dj,EV,a0,a0,a0] at h;obtain⟨⟨⟨h1,h2⟩,h3⟩,h4⟩:=h
  cases i with
  | zero=>
   cases ho;refine⟨λd hd=>?_,λj b hg=>?_,λk o' hk hko=>?_⟩
   ·rw[hd] at h1;simpa using h1
   ·rw[hg] at h2;exact fY h2
   ·obtain⟨k,rfl⟩:=ca (Nat.ne_of_gt hk);have:=all_eq_true.1 h3 (i0+1+k,o') (mem_iff_getElem?.2 ⟨k,by rw[lq,show ol[k]?=some o' by simpa using hko];rfl⟩);rw[show i0+(k+1)=i0+1+k by omega];exact this
  | succ i=>
   obtain⟨g1,g2,g3⟩:=SX h4 (by simpa using ho);refine⟨g1,λj b hg=>by have:=g2 j b hg;omega,λk o' hk hko=>?_⟩;obtain⟨k,rfl⟩:=ca (show k≠0 by omega);have:=g3 k o' gt (by simpa using hko);rw[show i0+(i+1)=i0+1+i by omega,show i0+(k+1)=i0+1+k by omega];exact this
variable{all:List Oper}{f1:Fm}{f2:Fm}
def KG{o:Oper}(h:∀t∈jC all o,aP f1 t=aP f2 t):cH all f1 o.guard=cH all f2 o.guard:=by
 unfold jC at h;unfold cH;split
 ·rfl
 ·rename_i j w hg;rw[hg] at h
  cases ho:all[j]? with
  | none=>rfl
  | some o'=>
   cases hd:o'.dst with
   | none=>simp[hd]
   | some d=>
    simp only[ho,hd,m7] at h ⊢;rw[h d f5]
def Qa{o:Oper}(h:∀t∈jC all o,aP f1 t=aP f2 t):∀x∈o.op.operands.toList,fp f1 x=fp f2 x:=by
 intro x hx
 cases x with
 | tmp t=>simp only[fp];rw[h t (by unfold jC;exact List.mem_append_left _ (LF (by simpa using hx)))]
 | _=>rfl
def H5{c:Call}(h:∀x∈(Op.call c).operands.toList,fp f1 x=fp f2 x):jL P f1 c=jL P f2 c:=by
 obtain⟨callee,aS,ats⟩:=c
 cases callee with
 | builtin b=>rfl
 | value x=>
  rw[jL,jL];simp only;rw[h x (by simp[Op.operands,Call.operands]),gW (l:=aS.toList) λy hy=>h y (by simp only[Op.operands,Call.operands,bb,mem_append];exact .inr hy)]
 | invoke x m=>
  rw[jL,jL];simp only;rw[h x (by simp[Op.operands,Call.operands]),gW (l:=aS.toList) λy hy=>h y (by simp only[Op.operands,Call.operands,bb,mem_append];exact .inr hy)]
def Wt{cl:Call}(h:gG (.call cl)=true):vG (.call cl)=false:=by
 obtain⟨callee,aS,ats⟩:=cl
 cases callee<;>first | rfl | (simp[gG] at h;done)
def OC{b:Bool}(h:b=true->False):b=false:=by cases b<;>simp_all
def XS(h:lS op=true):vG op=false:=by
 cases op<;>first | rfl | (simp[lS] at h;done) | skip
 rename_i c;obtain⟨callee,aS,ats⟩:=c
 cases callee with
 | builtin b=>cases b<;>first | rfl | (simp[lS] at h;done)
 | _=>rfl
def Uy:Op->Bool
 | .alloc _ | .box _ _ | .buildSlice _ _ _ | .makeMap _ _ | .makeSlice _ _ _ | .call { callee:=.builtin .append,.. }=>true
 | _=>false
def eO(op:Op):Bool:=vG op||Uy op
def OY(ms:List Nat):List (Nat×Oper)->Bool
 | []=>true
 | (i,a)::l=>(!(eO a.op||gG a.op)||l.all λq=>!(eO q.2.op||gG q.2.op)||bW (ms.getD q.1 0) i)&&OY ms l
def Nt{ms:List Nat}:∀{ol:List Oper} {i0 i j:Nat} {a b:Oper},OY ms (dj i0 ol)=true->ol[i]?=some a->ol[j]?=some b->i<j->(eO a.op||gG a.op)=true->(eO b.op||gG b.op)=true->bW (ms.getD (i0+j) 0) (i0+i)=true
 | [],_,_,_,_,_,_,h,_,_,_,_=>by simp at h
 | o::ol,i0,i,j,a,b,h,ha,hb,hij,h1,h2=>by
  rw[dj,OY,a0] at h;obtain⟨g1,g2⟩:=h;obtain⟨j,rfl⟩:=ca (show j≠0 by omega)
  cases i with
  | zero=>
   cases ha;rw[h1,dt,dl] at g1;have:=all_eq_true.1 g1 (i0+1+j,b) (mem_iff_getElem?.2 ⟨j,by rw[lq,show ol[j]?=some b by simpa using hb];rfl⟩);rw[h2,dt,dl] at this;rw[show i0+(j+1)=i0+1+j by omega];exact this
  | succ i=>
   have:=Nt g2 (i:=i) (j:=j) (by simpa using ha) (by simpa using hb) gt h1 h2;rw[show i0+(j+1)=i0+1+j by omega,show i0+(i+1)=i0+1+i by omega];exact this
def yV(h:lS op=true):eO op=false:=by
 unfold eO;rw[XS h,dl]
 cases op<;>first | rfl | (simp[lS] at h;done) | skip
 rename_i c;obtain⟨callee,aS,ats⟩:=c
 cases callee with
 | builtin b=>cases b<;>first | rfl | (simp[lS] at h;done)
 | _=>rfl
def Rv{cl:Call}(h:gG (.call cl)=true):eO (.call cl)=false:=by
 unfold eO;rw[Wt h,dl];obtain⟨callee,aS,ats⟩:=cl
 cases callee<;>first | rfl | (simp[gG] at h;done)
def uI{S:List SO}(hrd:(lS op||eO op)=true)(h:∀x∈op.operands.toList,fp f1 x=fp f2 x):dY P f1 S op=dY P f2 S op:=by
 by_cases hw:(lS op||vG op)=true
 ·exact P9 hw h
 cases op with
 | alloc e=>rfl
 | box t x=>rw[dY,dY,h x (by simp[Op.operands])]
 | buildSlice t n ps=>rw[dY,dY,rJ λx hx=>h x (by simpa [Op.operands] using hx)]
 | makeMap t x=>
  cases x with
  | none=>rfl
  | some x=>rfl
 | makeSlice t l c=>rw[dY,dY,h l (by simp[Op.operands]),h c (by simp[Op.operands])]
 | call c=>
  obtain⟨callee,aS,ats⟩:=c
  cases callee with
  | builtin b=>rw[dY,dY,gW λx hx=>h x (by simp only[Op.operands,Call.operands,bb,mem_append];exact .inr hx)]
  | _=>simp[lS,eO,vG,Uy] at hrd
 | makeFunc g first cap=>cases g<;>first | exact t7 rfl hw | (simp[lS,eO,vG,Uy] at hrd;done)
 | _=>first | exact t7 rfl hw | (simp[lS,eO,vG,Uy] at hrd;done)
variable{ms:List Nat}
def NR(hb:mN 0 ol=true)(hms:qq ol []=ms)(w:Nat)(o:Oper)(ho:ol[w]?=some o){i:Nat}(h:bW (ms.getD w 0) i=true):i<w:=by
 have hlt:∀{j:Nat} {o':Oper},ol[j]?=some o'->∀e∈o'.after.toList,dep e=true->e.on<j:=λho' e he hde=>by simpa using qQ hb ho' e he hde
 exact LC (L:=λj=>j<w) hb (λj o' ho' hj e he hde=>fx (hlt ho' e he hde) hj) w o ho (λe he hde=>hlt ho e he hde) (by rw[hms];exact h)
structure QD where
 b:Bool
 hp:List Nat
 kl:List (Nat×Nat)
 f0:Fm
 f:Fm
 S:List SO
def Ak(ms:List Nat)(i:Nat)(v:SV):List (Nat×Nat)->Prop
 | []=>True
 | q::l=>(bW (ms.getD i 0) q.1=true\/aW q.2 v=v)/\Ak ms i v l
def sz{ms:List Nat}{i:Nat}{v:SV}:∀{l:List (Nat×Nat)},Ak ms i v l->∀q∈l,bW (ms.getD i 0) q.1=true\/aW q.2 v=v
 | [],_,q,hq=>by cases hq
 | x::l,h,q,hq=>by
  rcases rt hq with rfl | hq
  ·exact h.1
  ·exact sz h.2 q hq
def JQ(all:List Oper)(ms:List Nat)(i:Nat):List Nat:=((dj 0 all).filter λq=>!Nat.beq q.1 i&&!bW (ms.getD i 0) q.1&&!bW (ms.getD q.1 0) i).flatMap λq=>(match q.2.dst with | some d=>d::jC all q.2 | none=>jC all q.2)
def Yb(f0 f:Fm)(k:Nat):List Nat->Prop
 | []=>True
 | t::l=>(aW k (aP f t)=aP f t/\aW k (aP f0 t)=aP f0 t)/\Yb f0 f k l
def Ov{f0 f:Fm}{k:Nat}:∀{l:List Nat},Yb f0 f k l->∀t∈l,aW k (aP f t)=aP f t/\aW k (aP f0 t)=aP f0 t
 | [],_,t,h=>by cases h
 | x::l,h,t,ht=>by
  rcases rt ht with rfl | ht
  ·exact h.1
  ·exact Ov h.2 t ht
def Q0(all:List Oper)(ms:List Nat)(i:Nat):Bool:=(dj 0 all).all λq=>beq q.1 i||(blt q.1 i&&bW (ms.getD i 0) q.1)||(blt i q.1&&bW (ms.getD q.1 0) i)
inductive uf (P:Program) (ro:Option Nat) (all:List Oper) (ms:List Nat) (n:Nat) (i:Nat) (o:Oper):QD->QD->Prop
 | s {b hp kl f0 f S d}:eD all n [o]=true->o.dst=some d->cH all f o.guard=some false->eO o.op=false->uf P ro all ms n i o ⟨b,hp,kl,f0,f,S⟩ ⟨b,hp,kl,f0,(d,.a kJ)::f,S⟩
 | sk {b hp kl f0 f S d}:eD all n [o]=true->o.dst=some d->cH all f o.guard=some false->eO o.op=true->hp.all (λj=>bW (ms.getD i 0) j)=true->uf P ro all ms n i o ⟨b,hp,kl,f0,f,S⟩ ⟨false,hp,kl,f0,(d,.a kJ)::f,S⟩
 | r {b hp kl f0 f S d v}:eD all n [o]=true->o.dst=some d->cH all f o.guard=some true->lS o.op=true->(∀S2,dY P f S2 o.op=some (v,S2,none))->Ak ms i v kl->uf P ro all ms n i o ⟨b,hp,kl,f0,f,S⟩ ⟨b,hp,kl,f0,(d,v)::f,S⟩
 | h {hp kl f0 f S d v}:eD all n [o]=true->o.dst=some d->cH all f o.guard=some true->lS o.op=true->dY P f S o.op=some (v,S,none)->Ak ms i v kl->uf P ro all ms n i o ⟨true,hp,kl,f0,f,S⟩ ⟨true,i::hp,kl,f0,(d,v)::f,S⟩
 | k {hp kl f0 f S d cl g vs ws r}:eD all n [o]=true->o.op=.call cl->o.dst=some d->cH all f o.guard=some true->gG (.call cl)=true->yM o.op=true->jL P f cl=some (g,vs)->PC P g ws (·=r)->cS S vs ws->(∀o,aW o r=r)->(yG r=true\/cS [] vs ws)->
  uf P ro all ms n i o ⟨true,hp,kl,f0,f,S⟩ ⟨true,hp,kl,f0,(d,r)::f,S⟩
 | e {b hp kl f0 f S v S'}:eD all n [o]=true->cH all f o.guard=some true->eO o.op=true->hp.all (λj=>bW (ms.getD i 0) j)=true->dY P f S o.op=some (v,S',none)->Ak ms i v kl->uf P ro all ms n i o ⟨b,hp,kl,f0,f,S⟩ ⟨false,hp,kl,f0,uw f none o.dst v,S'⟩
 | a {b hp kl f0 f S v S' k}:eD all n [o]=true->cH all f o.guard=some true->eO o.op=true->hp.all (λj=>bW (ms.getD i 0) j)=true->dY P f S o.op=some (v,S',some k)->Ak ms i v kl->(∀t∈JQ all ms i,aW k (aP f t)=aP f t/\aW k (aP f0 t)=aP f0 t)->uf P ro all ms n i o ⟨b,hp,kl,f0,f,S⟩ ⟨false,hp,(i,k)::kl,f0,uw f (some k) o.dst v,S'⟩
 | Y3 {b hp kl f0 f S f' S'}:Q0 all ms i=true->eO o.op=false->(∀ds K,K ⟨f',n,S',ds⟩->aJ P ro (all.take (i+1)) [o] ⟨f,n,S,ds⟩ K)->uf P ro all ms n i o ⟨b,hp,kl,f0,f,S⟩ ⟨true,[],[],f',f',S'⟩
inductive Wo (P:Program) (ro:Option Nat) (all:List Oper) (ms:List Nat) (n:Nat):List (Nat×Oper)->QD->QD->Prop
 | nil {x}:Wo P ro all ms n [] x x
 | cons {i o l x y z}:uf P ro all ms n i o x y->Wo P ro all ms n l y z->Wo P ro all ms n ((i,o)::l) x z
def AA(P:Program)(ro:Option Nat)(all:List Oper)(ms:List Nat)(n:Nat)(f0:Fm)(kl:List (Nat×Nat))(b:Bool)(hp:List Nat)(l:List (Nat×Oper))(f:Fm)(S:List SO)(K:Fm->List SO->Prop):Prop:=∃z,K z.f z.S/\Wo P ro all ms n l ⟨b,hp,kl,f0,f,S⟩ z
mutual
def Iq:∀{v:SV},yG v=true->∀o,names o v=false
 | .any,_,_=>rfl
 | .a _,_,_=>rfl
 | .ag cs,h,o=>by rw[names];exact xK (by rw[yG] at h;exact h) o
 | .bB cs,h,o=>by rw[names];exact xK (by rw[yG] at h;exact h) o
 | .sl ..,h,_ | .im ..,h,_ | .ptr ..,h,_ | .map ..,h,_ | .buf ..,h,_ | .sub ..,h,_ | .fn ..,h,_ | .iface ..,h,_ | .ip ..,h,_ | .e0 ..,h,_=>by simp[yG] at h
def xK:∀{l:List SV},Li l=true->∀o,iW o l=false
 | [],_,_=>rfl
 | d::ds,h,o=>by rw[Li,a0] at h;rw[iW,Iq h.1,xK h.2];rfl
end
def UC{v:SV}(h:yG v=true)(o:Nat):aW o v=v:=by unfold aW;rw[Iq h o];rfl
section
variable {all:List Oper} {ms:List Nat} {n:Nat} {b:Bool} {hp:List Nat} {l:List (Nat×Oper)} {f:Fm} {S:List SO} {K:Fm->List SO->Prop} {i:Nat} {o:Oper} {d:Nat} {f0:Fm} {kl:List (Nat×Nat)}
def AA.nil(h:K f S):AA P ro all ms n f0 kl b hp [] f S K:=⟨_,h,.nil⟩
theorem AA.s(hst:eD all n [o]=true)(hdst:o.dst=some d)(hw:cH all f o.guard=some false)(hwr:eO o.op=false):AA P ro all ms n f0 kl b hp l ((d,.a kJ)::f) S K->AA P ro all ms n f0 kl b hp ((i,o)::l) f S K:=λ⟨z,k,t⟩=>⟨z,k,.cons (.s hst hdst hw hwr) t⟩
theorem AA.r{v:SV}{S':List SO}{kill:Option Nat}(hst:eD all n [o]=true)(hdst:o.dst=some d)(hw:cH all f o.guard=some true)(hrr:(lS o.op&&(b||!Lu o.op))=true)(hop:dY P f S o.op=some (v,S',kill))
 (hk:AA P ro all ms n f0 kl b (_root_.cond (Lu o.op) (i::hp) hp) l ((d,v)::f) S K) (hkl:Ak ms i v kl):AA P ro all ms n f0 kl b hp ((i,o)::l) f S K:=by
 rw[a0] at hrr;obtain⟨h1,h2⟩:=hrr;obtain⟨rfl,rfl⟩:=Tq h1 hop;obtain⟨z,k,t⟩:=hk;cases hh:Lu o.op
 ·rw[hh] at t;exact⟨z,k,.cons (.r hst hdst hw h1 (λS2=>Vg h1 hh hop) hkl) t⟩
 ·rw[hh] at t h2
  obtain rfl:b=true:=by cases b<;>simp_all
  exact⟨z,k,.cons (.h hst hdst hw h1 hop hkl) t⟩
def AA.ri{tt:TypeId}{x:Operand}{cs0:List SV}{v:SV}(hst:eD all n [o]=true)(hdst:o.dst=some d)(hw:cH all f o.guard=some true)(hop:o.op=.load tt x)(hx:fp f x=some (.ip cs0))(hv:vY P tt cs0 0=some v)(hkl:Ak ms i v kl):
 AA P ro all ms n f0 kl b hp l ((d,v)::f) S K->AA P ro all ms n f0 kl b hp ((i,o)::l) f S K:=λ⟨z,k,t⟩=>⟨z,k,.cons (.r hst hdst hw (by rw[hop];rfl) (λS2=>by rw[hop,dY,hx,m7,BY,hv];rfl) hkl) t⟩
theorem AA.k{cl:Call}{g:FuncId}{vs ws:List SV}{r:SV}(hst:eD all n [o]=true)(hop:o.op=.call cl)(hdst:o.dst=some d)(hw:cH all f o.guard=some true)(hdy:gG (.call cl)=true)(he:yM (.call cl)=true)
 (hc:jL P f cl=some (g,vs)) (hq:PC P g ws (·=r)) (hwk:cS S vs ws) (hr:yG r=true):AA P ro all ms n f0 kl true hp l ((d,r)::f) S K->AA P ro all ms n f0 kl true hp ((i,o)::l) f S K:=λ⟨z,k,t⟩=>⟨z,k,.cons (.k hst hop hdst hw hdy (by rw[hop];exact he) hc hq hwk (UC hr) (.inl hr)) t⟩
theorem AA.e{v:SV}{S':List SO}(hst:eD all n [o]=true)(hw:cH all f o.guard=some true)(hwr:eO o.op=true)(hms:hp.all (λj=>bW (ms.getD i 0) j)=true)(hop:dY P f S o.op=some (v,S',none))(hkl:Ak ms i v kl):
 AA P ro all ms n f0 kl false hp l (uw f none o.dst v) S' K->AA P ro all ms n f0 kl b hp ((i,o)::l) f S K:=λ⟨z,k,t⟩=>⟨z,k,.cons (.e hst hw hwr hms hop hkl) t⟩
theorem AA.a{f':Fm}{v:SV}{S':List SO}{k:Nat}(T:List Nat)(hst:eD all n [o]=true)(hdst:o.dst=some d)(hw:cH all f o.guard=some true)(hwr:eO o.op=true)(hms:hp.all (λj=>bW (ms.getD i 0) j)=true)(hT:((JQ all ms i).all λt=>T.contains t)=true)(hop:dY P f S o.op=some (v,S',some k))(hf:eg k f=f')(ht:Yb f0 f k T)(hkl:Ak ms i v kl):
 AA P ro all ms n f0 ((i,k)::kl) false hp l ((d,v)::f') S' K->AA P ro all ms n f0 kl b hp ((i,o)::l) f S K:=λ⟨z,c,t⟩=>⟨z,c,.cons (by have:=uf.a (ro:=ro) (b:=b) hst hw hwr hms hop hkl λt h=>Ov ht t (List.contains_iff_mem.1 (all_eq_true.1 hT t h));rw[hdst] at this;rw[<-hf];exact this) t⟩
end
def Wo.get{all:List Oper}{ms:List Nat}{n:Nat}:∀{ol:List Oper} {i0:Nat} {x z:QD},Wo P ro all ms n (dj i0 ol) x z->∃X:Nat->QD,X i0=x/\X (i0+ol.length)=z/\∀(k:Nat) o,ol[k]?=some o->uf P ro all ms n (i0+k) o (X (i0+k)) (X (i0+k+1))
 | [],i0,x,z,h=>by
  rw[dj] at h;cases h;exact⟨λ_=>x,rfl,rfl,λk o h=>by simp at h⟩
 | o::ol,i0,x,z,h=>by
  rw[dj] at h
  cases h with | cons h t=>?_
  obtain⟨X,h1,h2,h3⟩:=Wo.get t;refine⟨λj=>if j=i0 then x else X j,t8 rfl,?_,?_⟩
  ·show(if _ then _ else _)=z;rw[i7,ul gt,<-h2];congr 1;omega
  ·rintro(_ | k) o' ho
   ·cases ho;show uf P ro all ms n i0 o (if _ then _ else _) (if _ then _ else _);rw[Nat.add_zero,t8 rfl,ul gt,h1];exact h
   ·have:=h3 k o' (by simpa using ho);show uf P ro all ms n (i0+(k+1)) o' (if _ then _ else _) (if _ then _ else _);rw[ul gt,ul gt,show i0+(k+1)=i0+1+k by omega];exact this
structure Wl (P:Program) (all:List Oper) (ms:List Nat) (n:Nat) (i:Nat) (o:Oper) (x y:QD) (κ:Option Nat):Prop where
 st:eD all n [o]=true
 fr:∀t,o.dst≠some t->aP y.f t=kZ κ (aP x.f t)
 wr:eO o.op=false->κ=none
 S:eO o.op=false->y.S=x.S
 b:y.b=true->x.b=true/\eO o.op=false
 hp:∀j∈x.hp,j∈y.hp
 w:eO o.op=true->x.hp.all (λj=>bW (ms.getD i 0) j)=true
 k1:∀q∈x.kl,q∈y.kl
 k2:∀k,κ=some k->(i,k)∈y.kl
 t:∀k,κ=some k->∀t∈JQ all ms i,aW k (aP x.f t)=aP x.f t/\aW k (aP x.f0 t)=aP x.f0 t
 v:∀d,o.dst=some d->∀q∈x.kl,bW (ms.getD i 0) q.1=true\/aW q.2 (aP y.f d)=aP y.f d
 op:eO o.op=true->∃v S',((cH all x.f o.guard=some true/\dY P x.f x.S o.op=some (v,S',κ))\/(cH all x.f o.guard=some false/\(∃d,o.dst=some d)/\v=.a kJ/\S'=x.S/\κ=none))/\(∀d,o.dst=some d->aP y.f d=v)/\y.S=S'
 z:y.f0=x.f0
structure Xr (P:Program) (ro:Option Nat) (all:List Oper) (ms:List Nat) (n:Nat) (i:Nat) (o:Oper) (x y:QD):Prop where
 ok:Q0 all ms i=true
 wr:eO o.op=false
 op:∀ds K,K ⟨y.f,n,y.S,ds⟩->aJ P ro (all.take (i+1)) [o] ⟨x.f,n,x.S,ds⟩ K
 z:y.f0=y.f
def uf.out{i:Nat}{o:Oper}{x y:QD}(h:uf P ro all ms n i o x y):(∃κ,Wl P all ms n i o x y κ)\/Xr P ro all ms n i o x y:=by
 have put:∀{f:Fm} {d:Nat} {v:SV},o.dst=some d->∀t,o.dst≠some t->aP ((d,v)::f) t=aP f t:=λ{f d v} hd t ht=>by
  show(if d=t then v else aP f t)=_;rw[ul λe=>ht (by rw[hd,e])]
 have top:∀{d:Nat} {v:SV} {f:Fm},aP ((d,v)::f) d=v:=λ{d v f}=>t8 rfl
 have no2:∀{q:Prop},eO o.op=false->eO o.op=true->q:=λh h2=>by rw[h] at h2;cases h2
 have val:∀{d d':Nat} {v:SV} {f:Fm},o.dst=some d->o.dst=some d'->aP ((d,v)::f) d'=v:=λh1 h2=>by rw[h1] at h2;cases h2;exact top
 cases h with
 | s h1 h2 h3 h4=>exact .inl ⟨none,h1,put h2,λ_=>rfl,λ_=>rfl,λh=>⟨h,h4⟩,λ_ h=>h,no2 h4,λ_ h=>h,nofun,nofun,λd hd q _=>.inr (by rw[val h2 hd];rfl),no2 h4,rfl⟩
 | r h1 h2 h3 h4 _ h6=>exact .inl ⟨none,h1,put h2,λ_=>rfl,λ_=>rfl,λh=>⟨h,yV h4⟩,λ_ h=>h,no2 (yV h4),λ_ h=>h,nofun,nofun,λd hd q hq=>by rw[val h2 hd];exact sz h6 q hq,no2 (yV h4),rfl⟩
 | h h1 h2 h3 h4 _ h6=>exact .inl ⟨none,h1,put h2,λ_=>rfl,λ_=>rfl,λh=>⟨h,yV h4⟩,λ_ h=>bd _ h,no2 (yV h4),λ_ h=>h,nofun,nofun,λd hd q hq=>by rw[val h2 hd];exact sz h6 q hq,no2 (yV h4),rfl⟩
 | k h1 h0 h2 h3 h4 _ _ _ _ h9 _=>
  have hk:eO o.op=false:=by rw[h0];exact Rv h4
  exact .inl ⟨none,h1,put h2,λ_=>rfl,λ_=>rfl,λh=>⟨h,hk⟩,λ_ h=>h,no2 hk,λ_ h=>h,nofun,nofun,λd hd q _=>.inr (by rw[val h2 hd];exact h9 _),no2 hk,rfl⟩
 | sk h1 h2 h3 h4 h5=>exact .inl ⟨none,h1,put h2,λ_=>rfl,λ_=>rfl,λh=>(by cases h),λ_ h=>h,λ_=>h5,λ_ h=>h,nofun,nofun,λd hd q _=>.inr (by rw[val h2 hd];rfl),λ_=>⟨.a kJ,_,.inr ⟨h3,⟨_,h2⟩,rfl,rfl,rfl⟩,λd hd=>val h2 hd,rfl⟩,rfl⟩
 | e h1 h3 h5 h6 h7 h8=>
  refine .inl ⟨none,h1,λt ht=>?_,λ_=>rfl,λh=>(by rw[h] at h5;cases h5),λh=>(by cases h),λ_ h=>h,λ_=>h6,λ_ h=>h,nofun,nofun,λd hd q hq=>?_,λ_=>⟨_,_,.inl ⟨h3,h7⟩,λd hd=>(by rw[hd];exact top),rfl⟩,rfl⟩
  ·cases hd:o.dst with
   | none=>rfl
   | some d=>exact put hd t ht
  ·refine(sz h8 q hq).imp id λh=>?_;rw[hd];simp only[uw,top];exact h
 | a h1 h3 h5 h6 h7 h8 h9=>
  rename_i k;refine .inl ⟨some k,h1,λt ht=>?_,λh=>(by rw[h] at h5;cases h5),λh=>(by rw[h] at h5;cases h5),λh=>(by cases h),λ_ h=>h,λ_=>h6,λ_ h=>bd _ h,λk' e=>(by cases e;exact bc),λk' e=>(by cases e;exact h9),λd hd q hq=>?_,λ_=>⟨_,_,.inl ⟨h3,h7⟩,λd hd=>(by rw[hd];exact top),rfl⟩,rfl⟩
  ·cases hd:o.dst with
   | none=>exact jl _ _ _
   | some d=>exact(put (f:=eg k _) hd t ht).trans (jl _ _ _)
  ·refine(sz h8 q hq).imp id λh=>?_;rw[hd];simp only[uw,top];exact h
 | Y3 h1 h2 h3=>exact .inr ⟨h1,h2,h3,rfl⟩
def ez(κ:Nat->Option Nat)(b:Nat):Nat->SV->SV
 | 0,v=>v
 | m+1,v=>if m<b then v else kZ (κ m) (ez κ b m v)
def IE(k:Option Nat)(v:SV):kZ k v=v\/kZ k v=.any:=by
 cases k with
 | none=>exact .inl rfl
 | some k=>unfold kZ aW;simp only;cases names k v;exact .inl rfl;exact .inr rfl
def Ek(k:Option Nat):kZ k .any=.any:=by rcases IE k .any with h | h<;>exact h
section
variable {κ:Nat->Option Nat} {b m:Nat} {v:SV}
def IF:ez κ b m v=v\/ez κ b m v=.any:=by
 induction m with
 | zero=>exact .inl rfl
 | succ m ih=>
  rw[ez];split
  ·exact .inl rfl
  ·rcases ih with h | h
   ·rw[h];exact IE _ _
   ·rw[h,Ek];exact .inr rfl
def ld(h:m<=b):ez κ b m v=v:=by
 cases m with
 | zero=>rfl
 | succ m=>rw[ez,t8 gt]
def uC(h:b<=m):ez κ b (m+1) v=kZ (κ m) (ez κ b m v):=by rw[ez,ul gt]
def qk{c:Nat}(hbc:m<=c)(h:∀w,b<=w->m<=w->w<c->kZ (κ w) (ez κ b w v)=ez κ b w v):ez κ b c v=ez κ b m v:=by
 induction hbc with
 | refl=>rfl
 | step hbc ih=>
  rename_i c;have:=ih λw h1 h2 h3=>h w h1 h2 (Nat.lt_succ_of_lt h3);by_cases hb:b<=c
  ·rw[uC hb,h c hb hbc (bh c),this]
  ·rw[ld gt,<-this,ld gt]
end
def qX(g:Nat->SV)(φ:SV->SV)(f:Fm):List Oper->Fm
 | []=>f.map λq=>(q.1,φ q.2)
 | o::l=>match o.dst with
  | some d=>(d,g d)::qX g φ f l
  | none=>qX g φ f l
def H6{g:Nat->SV}{φ:SV->SV}{f:Fm}(hφ:φ .any=.any){t:Nat}:∀{l:List Oper},(aP (qX g φ f l) t=g t/\∃o∈l,o.dst=some t)\/(aP (qX g φ f l) t=φ (aP f t)/\∀o∈l,o.dst≠some t)
 | []=>by
  refine .inr ⟨?_,λo h=>by cases h⟩;rw[qX]
  induction f with
  | nil=>exact hφ.symm
  | cons q f ih=>
   show(if q.1=t then φ q.2 else _)=φ (if q.1=t then q.2 else _);split
   ·rfl
   ·exact ih
 | o::l=>by
  have ih:=H6 (g:=g) (φ:=φ) (f:=f) hφ (t:=t) (l:=l);rw[qX]
  cases hd:o.dst with
  | none=>exact ih.imp (λ⟨a,o',b,c⟩=>⟨a,o',bd _ b,c⟩) λ⟨a,b⟩=>⟨a,λo' ho'=>by rcases rt ho' with rfl | h ;(rw[hd];nofun);exact b o' h⟩
  | some d=>
   by_cases e:d=t
   ·subst e;exact .inl ⟨t8 rfl,o,bc,hd⟩
   ·have h1:aP ((d,g d)::qX g φ f l) t=aP (qX g φ f l) t:=ul e;simp only[h1];exact ih.imp (λ⟨a,o',b,c⟩=>⟨a,o',bd _ b,c⟩) λ⟨a,b⟩=>⟨a,λo' ho'=>by rcases rt ho' with rfl | h ;(rw[hd];exact λh=>e (Option.some.inj h));exact b o' h⟩
variable{id:Nat}{ops:Array Oper}{st:eU}{Q:Ex->eU->Prop}
def aD.Ws(hol:ops.toList=ol)(hms:qq ol []=ms)(hok:((mN 0 ol&&P.follows .mixedOrders)&&(EV ol ms (dj 0 ol)&&OY ms (dj 0 ol)))=true)
 (h:AA P ro ol ms st.n st.f [] true [] (dj 0 ol) st.f st.S λf' S'=>Q .normal ⟨f',st.n,S',st.ds⟩):aD P ro (.region id ops true) st Q:=by
 obtain⟨f,n,S,ds⟩:=st;rw[a0] at hok;obtain⟨hbk,hpr⟩:=hok;rw[a0] at hpr;obtain⟨hpr,hch⟩:=hpr
 have hord:∀{i j:Nat} {a b:Oper},ol[i]?=some a->ol[j]?=some b->i<j->(eO a.op||gG a.op)=true->(eO b.op||gG b.op)=true->bW (ms.getD j 0) i=true:=λh1 h2 h3 h4 h5=>by simpa using Nt hch h1 h2 h3 h4 h5
 have hback:=hbk;rw[a0] at hback;obtain⟨z,hz,ht⟩:=h;obtain⟨X,hX0,hXN,hX⟩:=ht.get;simp only[cn] at hXN hX;have hP:=λ{i:Nat} {o:Oper} (ho:ol[i]?=some o)=>SX hpr ho;simp only[cn] at hP;obtain⟨B,hB0⟩:∃B:Nat->Prop,∀i,B i↔∃o,ol[i]?=some o/\Xr P ro ol ms n i o (X i) (X (i+1)):=⟨_,λ_=>Iff.rfl⟩
 obtain⟨κ,hκ0⟩:∃κ:Nat->Option Nat,∀i,(B i->κ i=none)/\∀o,ol[i]?=some o->¬B i->Wl P ol ms n i o (X i) (X (i+1)) (κ i):=by
  have:∀i,∃κ,(B i->κ=none)/\∀o,ol[i]?=some o->¬B i->Wl P ol ms n i o (X i) (X (i+1)) κ:=by
   intro i;by_cases hb:B i
   ·exact⟨none,λ_=>rfl,λ_ _ h=>t7 hb h⟩
   cases ho:ol[i]? with
   | none=>exact⟨none,λ_=>rfl,nofun⟩
   | some o=>
    rcases(hX i o ho).out with⟨κ,h⟩ | h
    ·exact⟨κ,λh=>t7 h hb,λo' e _=>by cases e;exact h⟩
    ·exact t7 ((hB0 i).2 ⟨o,ho,h⟩) hb
  exact⟨λi=>Classical.choose (this i),λi=>Classical.choose_spec (this i)⟩
 have hκ:=λ{i o} (ho:ol[i]?=some o) (hb:¬B i)=>(hκ0 i).2 o ho hb
 have hBw:∀{i o},B i->ol[i]?=some o->eO o.op=false/\Q0 ol ms i=true:=by
  intro i o hb ho;obtain⟨o',h1,h2⟩:=(hB0 i).1 hb;rw[h1] at ho;cases ho;exact⟨h2.wr,h2.ok⟩
 have hBn:∀{i o},ol[i]?=some o->eO o.op=true->¬B i:=λho hw hb=>by rw[(hBw hb ho).1] at hw;cases hw
 have hat:∀{i},i<ol.length->∃o,ol[i]?=some o:=λh=>⟨_,jp h⟩
 have hBl:∀{i},B i->i<ol.length:=λhb=>by obtain⟨o,h,_⟩:=(hB0 _).1 hb;exact aR h
 have hBo:∀{c j},B c->j<ol.length->(j<c->bW (ms.getD c 0) j=true)/\(c<j->bW (ms.getD j 0) c=true):=by
  intro c j hb hj;obtain⟨oc,hoc⟩:=hat (hBl hb);obtain⟨oj,hoj⟩:=hat hj;have h:=all_eq_true.1 (hBw hb hoc).2 (j,oj) (mem_iff_getElem?.2 ⟨j,by rw[lq,hoj];simp⟩);simp only[dc,a0] at h;refine⟨λhlt=>?_,λhlt=>?_⟩
  ·rcases h with(h | h) | h
   ·have:=cX h;omega
   ·exact h.2
   ·have:=fY h.1;omega
  ·rcases h with(h | h) | h
   ·have:=cX h;omega
   ·have:=fY h.1;omega
   ·exact h.2
 have hF:∀(k m t:Nat),k<=m->m<=ol.length->(∀c,k<=c->c<m->¬B c)->(∀j o,k<=j->j<m->ol[j]?=some o->o.dst≠some t)->aP (X m).f t=ez κ k m (aP (X k).f t):=by
  intro k m t hkm
  induction hkm with
  | refl=>exact λ_ _ _=>(ld (ay _)).symm
  | step hkm ih=>
   rename_i m;intro hm hb hno;obtain⟨o,hoj⟩:=hat hm;rw[(hκ hoj (hb m hkm (bh _))).fr t (hno m _ hkm (bh _) hoj),uC hkm,ih (ba hm) (λc h1 h2=>hb c h1 gt) λj o h1 h2=>hno j o h1 gt]
 have hseg:∀{α:Type} (φ:QD->α) (k m:Nat),(∀j o,k<=j->j<m->ol[j]?=some o->φ (X (j+1))=φ (X j))->k<=m->m<=ol.length->φ (X m)=φ (X k):=by
  intro α φ k m hs hkm
  induction hkm with
  | refl=>exact λ_=>rfl
  | step hkm ih=>
   rename_i m;intro hm;obtain⟨o,hoj⟩:=hat hm;rw[hs m o hkm (bh _) hoj];exact ih (λj o h1 h2=>hs j o h1 gt) (ba hm)
 have hS:∀(k m:Nat),k<=m->m<=ol.length->(∀c,k<=c->c<m->¬B c)->(∀j o,k<=j->j<m->ol[j]?=some o->eO o.op=false)->(X m).S=(X k).S:=λk m h1 h2 hb hw=>hseg QD.S k m (λj o g1 g2 g3=>(hκ g3 (hb j g1 g2)).S (hw j o g1 g2 g3)) h1 h2;have hZ:∀(k m:Nat),k<=m->m<=ol.length->(∀c,k<=c->c<m->¬B c)->(X m).f0=(X k).f0:=λk m h1 h2 hb=>hseg QD.f0 k m (λj o g1 g2 g3=>(hκ g3 (hb j g1 g2)).z) h1 h2
 have hB:∀(k m:Nat),k<=m->m<=ol.length->(∀c,k<=c->c<m->¬B c)->(X m).b=true->∀j o,k<=j->j<m->ol[j]?=some o->eO o.op=false:=by
  intro k m hkm
  induction hkm with
  | refl=>exact λ_ _ _ j o h1 h2=>by omega
  | step hkm ih=>
   rename_i m;intro hm hbr hb j o h1 hj ho;obtain⟨o',ho'⟩:=hat hm;obtain⟨h3,h2⟩:=(hκ ho' (hbr m hkm (bh _))).b hb;by_cases e:j=m
   ·subst e;rw[ho'] at ho;cases ho;exact h2
   ·exact ih (ba hm) (λc h1 h2=>hbr c h1 gt) h3 j o h1 gt ho
 have hH:∀(k m j:Nat),k<=m->m<=ol.length->(∀c,k<=c->c<m->¬B c)->j∈(X k).hp->j∈(X m).hp:=by
  intro k m j hkm
  induction hkm with
  | refl=>exact λ_ _ h=>h
  | step hkm ih=>
   intro hm hb hj;obtain⟨o',ho'⟩:=hat hm;exact(hκ ho' (hb _ hkm (bh _))).hp j (ih (ba hm) (λc h1 h2=>hb c h1 gt) hj)
 have hKL:∀(k m:Nat) q,k<=m->m<=ol.length->(∀c,k<=c->c<m->¬B c)->q∈(X k).kl->q∈(X m).kl:=by
  intro k m q hkm
  induction hkm with
  | refl=>exact λ_ _ h=>h
  | step hkm ih=>
   intro hm hb hj;obtain⟨o',ho'⟩:=hat hm;exact(hκ ho' (hb _ hkm (bh _))).k1 q (ih (ba hm) (λc h1 h2=>hb c h1 gt) hj)
 have hu:∀{j k:Nat} {a b:Oper} {t:Nat},ol[j]?=some a->ol[k]?=some b->a.dst=some t->b.dst=some t->j=k:=by
  have one:∀{j k:Nat} {a b:Oper} {t:Nat},ol[j]?=some a->ol[k]?=some b->a.dst=some t->b.dst=some t->¬j<k:=by
   intro j k a b t hj hk ha hb hlt;have:=(hP hj).2.2 k b hlt hk;unfold SU at this;rw[hb] at this;simp[ha] at this
  intro j k a b t hj hk ha hb;exact Nat.le_antisymm (bt (one hk hj hb ha)) (bt (one hj hk ha hb))
 have hT:∀{i w:Nat} {o:Oper} {t k:Nat},ol[i]?=some o->i≠w->bW (ms.getD w 0) i=false->bW (ms.getD i 0) w=false->w<ol.length->κ w=some k->(o.dst=some t\/t∈jC ol o)->aW k (aP (X w).f t)=aP (X w).f t/\aW k (aP (X w).f0 t)=aP (X w).f0 t:=by
  intro i w o t k ho hne h1 h2 hw hk hd;obtain⟨ow,how⟩:=hat hw
  have hnb:¬B w:=λhb=>by rw[(hκ0 w).1 hb] at hk;cases hk
  refine(hκ how hnb).t k hk t ?_;unfold JQ;refine List.mem_flatMap.2 ⟨(i,o),mem_filter.2 ⟨mem_iff_getElem?.2 ⟨i,by rw[lq,ho];simp⟩,?_⟩,?_⟩
  ·simp only[h1,h2,Bool.not_false,d6,Bool.not_eq_true'];cases hb:beq i w
   ·rfl
   ·exact t7 (cX hb) hne
  ·cases hd':o.dst with
   | none=>rw[hd'] at hd;exact hd.resolve_left nofun
   | some d=>
    rw[hd'] at hd
    rcases hd with hd | hd
    ·cases hd;exact bc
    ·exact bd _ hd
 have hu0:∀q:(Nat->Prop)×Nat,∃base:Nat->Nat,(∀j o t,q.2<=j->ol[j]?=some o->o.dst=some t->q.1 j->base t=j+1)/\∀t,(∀j o,q.2<=j->ol[j]?=some o->o.dst=some t->¬q.1 j)->base t=q.2:=by
  rintro⟨L,β⟩
  have:∀t,∃b,(∀j o,β<=j->ol[j]?=some o->o.dst=some t->L j->b=j+1)/\((∀j o,β<=j->ol[j]?=some o->o.dst=some t->¬L j)->b=β):=by
   intro t;by_cases h:∃j o,β<=j/\ol[j]?=some o/\o.dst=some t/\L j
   ·obtain⟨j,o,h0,h1,h2,h3⟩:=h;exact⟨j+1,λj' o' _ g1 g2 _=>by rw[hu h1 g1 h2 g2],λg=>t7 h3 (g j o h0 h1 h2)⟩
   ·exact⟨β,λj o g0 g1 g2 g3=>t7 ⟨j,o,g0,g1,g2,g3⟩ h,λ_=>rfl⟩
  exact⟨λt=>Classical.choose (this t),λj o t h0 h1 h2 h3=>(Classical.choose_spec (this t)).1 j o h0 h1 h2 h3,λt h=>(Classical.choose_spec (this t)).2 h⟩
 obtain⟨base,hbase0⟩:=Classical.axiomOfChoice hu0;have hbase:=λL β=>hbase0 (L,β);simp only at hbase;obtain⟨g,hg⟩:∃g:(Nat->Prop)->Nat->Nat->Nat->SV,∀L β m t,g L β m t=ez κ (base (L,β) t) m (aP (X (base (L,β) t)).f t):=⟨_,λ_ _ _ _=>rfl⟩
 have hfr:∀L β m t,aP (qX (g L β m) (ez κ β m) (X β).f ol) t=g L β m t:=by
  intro L β m t
  rcases H6 (g:=g L β m) (φ:=ez κ β m) (f:=(X β).f) (by rcases IF (κ:=κ) (b:=β) (m:=m) (v:=.any) with h | h<;>exact h) (t:=t) (l:=ol) with⟨h,_⟩ | ⟨h,hn⟩
  ·exact h
  ·rw[h,hg,(hbase L β).2 t λj o _ hj hd=>t7 hd (hn o (ci hj))]
 have hgd:∀(i:Nat) (o:Oper),ol[i]?=some o->∀(j:Nat) (b:Bool),o.guard=some (j,b)->j<i:=λi o ho=>(hP ho).2.1;refine aD.post (aD.any hol hbk (.inr hgd) (λL x=>x.n=n/\nb ol L/\∃β m,β<=m/\m<=ol.length/\(∀j,j<β->L j)/\(X β).f0=(X β).f/\(∀c,β<=c->B c->¬L c/\m<=c)/\(∀j o,ol[j]?=some o->eO o.op=true->(L j↔j<m))/\Fg x ⟨qX (g L β m) (ez κ β m) (X β).f ol,n,(X m).S,ds⟩) ?_ (λL x h=>h.1) ?_ ?_)
 ·refine⟨rfl,λ_ _ _ h=>h.elim,0,0,ay _,bx _,λj h=>t7 h (bo _),by rw[hX0],λc _ _=>⟨λh=>h,bx _⟩,λj o _ _=>⟨λh=>h.elim,λh=>t7 h (bo _)⟩,?_⟩;rw[show(X 0).S=S by rw[hX0]];refine Fg.tmps λt=>.inl ?_;rw[hfr,hg,(hbase _ 0).2 t λj o _ _ _ h=>h,hX0];rfl
 ·rintro L x i o ⟨hxn,hc,β,m,hβm,hml,hβ,hβ0,hβB,hm,hx⟩ hr;have ho:=hr.gw;have hil:=aR ho;obtain⟨p1,p2,p3⟩:=hP ho;have hβi:β<=i:=bt λh=>hr.new (hβ i h)
  have hc2:nb ol (λj=>L j\/j=i):=by
   intro j o' ho' hj e he hd
   rcases hj with hj | rfl
   ·exact .inl (hc j o' ho' hj e he hd)
   ·rw[ho'] at ho;cases ho;exact .inl (hr.dep e he hd)
  have hA:∀k,bW (ms.getD i 0) k=true->L k:=λk hk=>LC hback.1 hc i o ho hr.dep (by rw[hms];exact hk);have hA2:∀j o' k,ol[j]?=some o'->L j->bW (ms.getD j 0) k=true->L k:=λj o' k hj hl hk=>LC hback.1 hc j o' hj (hc j o' hj hl) (by rw[hms];exact hk);have hbi:∀c,β<=c->c<i->¬B c:=λc h1 h2 hb=>(hβB c h1 hb).1 (hA c ((hBo hb hil).2 h2))
  have hbm:∀c,β<=c->c<m->¬B c:=λc h1 h2 hb=>by have:=(hβB c h1 hb).2;omega
  have hbd:∀j o',β<=j->ol[j]?=some o'->L j->∀c,β<=c->c<j+1->¬B c:=by
   intro j o' h1 hj hl c h2 h3 hb;have hn:=(hβB c h2 hb).1;by_cases e:c=j
   ·subst e;exact hn hl
   ·exact hn (hA2 j o' c hj hl ((hBo hb (aR hj)).2 gt))
  have hKm:∀w,w<ol.length->κ w≠none->(L w↔w<m):=by
   intro w hw hk;obtain⟨ow,how⟩:=hat hw;have hnb:¬B w:=λhb=>hk ((hκ0 w).1 hb);refine hm w ow how ?_;cases hh:eO ow.op
   ·exact t7 ((hκ how hnb).wr hh) hk
   ·rfl
  by_cases hBi:B i
  ·
   obtain⟨o',ho',hbar⟩:=(hB0 i).1 hBi;rw[ho] at ho';cases ho'
   have hLi:∀j,j<ol.length->(L j↔j<i):=by
    intro j hj;refine⟨λhl=>?_,λh=>hA j ((hBo hBi hj).1 h)⟩
    rcases cd j i with h | rfl | h
    ·exact h
    ·exact t7 hl hr.new
    ·obtain⟨oj,hoj⟩:=hat hj;exact t7 (hA2 j oj i hoj hl ((hBo hBi hj).2 h)) hr.new
   have hmi:m<=i:=(hβB i hβi hBi).2
   have hkr:∀b v,ez κ b m v=ez κ b i v:=λb v=>(qk hmi λw _ h2 h3=>by
    cases hk:κ w with
    | none=>rfl
    | some k=>
     have:=(hKm w gt (by rw[hk];nofun)).1 ((hLi w gt).2 h3)
     omega).symm
   have hSi:(X i).S=(X m).S:=hS m i hmi (ba hil) (λc h1 h2=>hbi c gt h2) λj o' h1 h2 hj=>OC λe=>by have:=(hm j o' hj e).1 ((hLi j gt).2 h2);omega
   refine aJ.fg (hx.trans (Fg.tmps (f':=(X i).f) λt=>.inl ?_)) ?_
   ·rw[hfr,hg,hkr];by_cases h:∃j o,β<=j/\ol[j]?=some o/\o.dst=some t/\L j
    ·obtain⟨j,o',h0,h1,h2,h3⟩:=h;have hji:=(hLi j (aR h1)).1 h3;rw[(hbase L β).1 j o' t h0 h1 h2 h3]
     exact hF (j+1) i t hji (ba hil) (λc g1 g2=>hbi c gt g2) λk b g1 _ hk e=>by have:=hu h1 hk h2 e;omega
    ·rw[(hbase L β).2 t λj o' h0 h1 h2 h3=>h ⟨j,o',h0,h1,h2,h3⟩];exact hF β i t hβi (ba hil) hbi λk b g1 g2 hk e=>h ⟨k,b,g1,hk,e,(hLi k (aR hk)).2 g2⟩
   ·rw[<-hSi];refine hbar.op ds _ ⟨rfl,hc2,i+1,i+1,ay _,hil,λj hj=>?_,hbar.z,λc h1 hb=>⟨λh=>?_,h1⟩,λj o' hj _=>⟨λh=>?_,λh=>?_⟩,Fg.tmps λt=>.inl ?_⟩
    ·by_cases e:j=i
     ·exact .inr e
     ·exact .inl ((hLi j gt).2 gt)
    ·rcases h with h | rfl
     ·have:=(hLi c (hBl hb)).1 h;omega
     ·omega
    ·rcases h with h | rfl
     ·have:=(hLi j (aR hj)).1 h;omega
     ·omega
    ·by_cases e:j=i
     ·exact .inr e
     ·exact .inl ((hLi j (aR hj)).2 gt)
    ·rw[hfr,hg,(hbase _ (i+1)).2 t λj o' h0 h1 h2 h3=>?_,ld (ay _)]
     rcases h3 with h3 | rfl
     ·have:=(hLi j (aR h1)).1 h3;omega
     ·omega
  have hκi:=hκ ho hBi
  have hun:∀{t:Nat},(o.dst=some t\/t∈jC ol o)->∀w,β<=w->w<ol.length->w≠i->(i<w/\w<m\/m<=w/\w<i)->∀k,κ w=some k->aW k (aP (X w).f t)=aP (X w).f t/\aW k (aP (X β).f t)=aP (X β).f t:=by
   intro t hd w hbw hw hne hcase k hk;obtain⟨ow,how⟩:=hat hw;have hLw:=hKm w hw (by rw[hk];nofun)
   have b1:bW (ms.getD w 0) i=false:=by
    cases hb:bW (ms.getD w 0) i
    ·rfl
    ·rcases hcase with h | h
     ·exact t7 (hA2 w ow i how (hLw.2 h.2) hb) hr.new
     ·have:=NR hback.1 hms w ow how hb;omega
   have b2:bW (ms.getD i 0) w=false:=by
    cases hb:bW (ms.getD i 0) w
    ·rfl
    ·rcases hcase with h | h
     ·have:=NR hback.1 hms i o ho hb;omega
     ·have:=hLw.1 (hA w hb);omega
   have:=hT ho hne.symm b1 b2 hw hk hd;rw[hZ β w hbw (ba hw) λc h1 h2=>by rcases hcase with h | h;exact hbm c h1 gt;exact hbi c h1 gt,hβ0] at this;exact this
  have hstay:∀{t b:Nat},β<=b->(o.dst=some t\/t∈jC ol o)->b<=i+1->((b=β/\κ i=none)\/∀w,i<w->w<m->w<=ol.length->aP (X w).f t=ez κ b w (aP (X b).f t))->(∀w,w<=i->b<=w->aP (X w).f t=ez κ b w (aP (X b).f t))->(m<=i\/κ i=none)->ez κ b m (aP (X b).f t)=ez κ b i (aP (X b).f t):=by
   intro t b hβb hd hbi hw1 hw2 hκi
   rcases en m i with hmi | hmi
   ·refine(qk hmi λw h1 h2 h3=>?_).symm
    cases hk:κ w with
    | none=>rfl
    | some k=>rw[<-hw2 w gt h1];exact(hun hd w gt gt gt (.inr ⟨h2,h3⟩) k hk).1
   ·refine qk hmi λw h1 h2 h3=>?_;by_cases hwi:w=i
    ·subst hwi
     rcases hκi with h | h
     ·omega
     ·rw[h];rfl
    ·cases hk:κ w with
     | none=>rfl
     | some k=>
      have hu:=hun hd w gt gt hwi (.inl ⟨by omega,h3⟩) k hk
      rcases hw1 with⟨rfl,_⟩ | hw1
      ·rcases IF (κ:=κ) (b:=b) (m:=w) (v:=aP (X b).f t) with h | h
       ·rw[h];exact hu.2
       ·rw[h];exact Ek _
      ·rw[<-hw1 w gt h3 gt];exact hu.1
  have hκw:eO o.op=false->κ i=none:=hκi.wr
  have hlook0:(m<=i\/κ i=none)->∀t∈jC ol o,g L β m t=aP (X i).f t:=by
   intro hκi t hlt
   have hbw:∀w,(w<=i\/i<w/\w<m)->∀b,β<=b->∀c,b<=c->c<w->¬B c:=λw hw b hb c h1 h2=>by rcases hw with hw | hw;exact hbi c gt gt;exact hbm c gt gt
   rw[hg];by_cases hno:∀j o,β<=j->ol[j]?=some o->o.dst≠some t
   ·rw[(hbase L β).2 t λj o' h0 hj hd=>t7 hd (hno j o' h0 hj)];have hh:=λw (h:w<=i\/i<w/\w<m) (hbw':β<=w) (hw:w<=ol.length)=>hF β w t hbw' hw (hbw w h β (ay _)) λj o' h1 _ hj=>hno j o' h1 hj;rw[hh i (.inl (ay _)) hβi (ba hil)];exact hstay (ay _) (.inr hlt) gt (.inr λw h1 h2 h=>hh w (.inr ⟨h1,h2⟩) gt h) (λw h h2=>hh w (.inl h) h2 gt) hκi
   ·simp only[ne_eq,Classical.not_forall,Decidable.not_not] at hno;obtain⟨j,o',hβj,hj,hd⟩:=hno
    rcases cd j i with hji | rfl | hji
    ·have h1:=(hP hj).2.2 i o hji ho;unfold SU at h1;rw[hd,a0] at h1
     have hbit:bW (ms.getD i 0) j=true:=by
      have h2:=h1.2;rw[dc] at h2
      rcases h2 with h2 | h2
      ·exact h2
      ·simp[hlt] at h2
     rw[(hbase L β).1 j o' t hβj hj hd (hA j hbit)]
     have hh:=λw (h:w<=i\/i<w/\w<m) (h1:j+1<=w) (hw:w<=ol.length)=>hF (j+1) w t h1 hw (hbw w h (j+1) gt) λk b hik _ hk e=>by have:=hu hj hk hd e;omega
     rw[hh i (.inl (ay _)) hji (ba hil)];exact hstay gt (.inr hlt) gt (.inr λw h h3 h2=>hh w (.inr ⟨h,h3⟩) gt h2) (λw h h2=>hh w (.inl h) h2 gt) hκi
    ·rw[hj] at ho;cases ho;exact t7 hlt (p1 t hd)
    ·have h1:=p3 j o' hji hj;unfold SU at h1;rw[hd,a0,a0,dc] at h1;have h2:=h1.1.2.resolve_left (by simp[hlt]);rw[(hbase L β).2 t λk b _ hk e hl=>hr.new (by have:=hu hj hk hd e;subst this;exact hA2 j o' i hj hl h2)]
     have hh:=λw (hw:w<=i) (hbw':β<=w)=>hF β w t hbw' gt (hbw w (.inl hw) β (ay _)) λk b _ hki hk e=>by have:=hu hj hk hd e;omega
     rw[hh i (ay _) hβi]
     rcases hκi with hκi | hκi
     ·exact hstay (ay _) (.inr hlt) gt (.inr λw h1 h2 _=>by omega) (λw h h2=>hh w h h2) (.inl hκi)
     ·exact hstay (ay _) (.inr hlt) gt (.inl ⟨rfl,hκi⟩) (λw h h2=>hh w h h2) (.inr hκi)
  have hSS:(∀j o',ol[j]?=some o'->eO o'.op=true->(L j↔j<i))->(X m).S=(X i).S:=by
   intro hh
   rcases en i m with him | him
   ·exact hS i m him hml (λc h1 h2=>hbm c gt h2) λj o' h1 h2 hj=>OC λe=>by have a:=hh j o' hj e;have b:=hm j o' hj e;have:=a.1 (b.2 h2);omega
   ·exact(hS m i him (ba hil) (λc h1 h2=>hbi c gt h2) λj o' h1 h2 hj=>OC λe=>by have a:=hh j o' hj e;have b:=hm j o' hj e;have:=b.1 (a.2 h2);omega).symm
  have hlate:(X i).b=true->(∀j o',i<j->ol[j]?=some o'->eO o'.op=true->(∀c,i<c->c<j->¬B c)->bW (ms.getD j 0) i=true)->(X m).S=(X i).S:=by
   intro hb hh;refine hSS λj o' hj hd=>⟨λhl=>?_,λhlt=>?_⟩
   ·rcases cd j i with h1 | rfl | h1
    ·exact h1
    ·exact t7 hl hr.new
    ·refine t7 (hA2 j o' i hj hl (hh j o' h1 hj hd λc g1 g2=>hbd j o' gt hj hl c gt gt)) hr.new
   ·by_cases hjb:j<β
    ·exact hβ j hjb
    ·exact t7 hd (by rw[hB β i hβi (ba hil) hbi hb j o' gt hlt hj];simp)
  refine aJ.fg hx ?_
  have hbne:∀t,o.dst≠some t->base (λj=>L j\/j=i,β) t=base (L,β) t:=by
   intro t ht;by_cases h:∃j o,β<=j/\ol[j]?=some o/\o.dst=some t/\L j
   ·obtain⟨j,o',h0,h1,h2,h3⟩:=h;rw[(hbase _ β).1 j o' t h0 h1 h2 (.inl h3),(hbase L β).1 j o' t h0 h1 h2 h3]
   ·rw[(hbase L β).2 t λj o' h0 h1 h2 h3=>h ⟨j,o',h0,h1,h2,h3⟩,(hbase _ β).2 t λj o' h0 h1 h2 h3=>?_]
    rcases h3 with h3 | rfl
    ·exact h ⟨j,o',h0,h1,h2,h3⟩
    ·rw[ho] at h1;cases h1;exact ht h2
  have hβB2:∀c,β<=c->B c->¬(L c\/c=i)/\m<=c:=λc h1 hb=>⟨λh=>h.elim (hβB c h1 hb).1 λe=>hBi (e▸hb),(hβB c h1 hb).2⟩
  have lay:∀{d:Nat} {v:SV},o.dst=some d->eO o.op=false->aP (X (i+1)).f d=v->(λx=>(λx=>x.n=n/\nb ol (λj=>L j\/j=i)/\∃β m,β<=m/\m<=ol.length/\(∀j,j<β->(L j\/j=i))/\(X β).f0=(X β).f/\(∀c,β<=c->B c->¬(L c\/c=i)/\m<=c)/\(∀j o,ol[j]?=some o->eO o.op=true->((L j\/j=i)↔j<m))/\Fg x ⟨qX (g (λj=>L j\/j=i) β m) (ez κ β m) (X β).f ol,n,(X m).S,ds⟩) x) ⟨(d,v)::qX (g L β m) (ez κ β m) (X β).f ol,n,(X m).S,ds⟩:=by
   intro d v hd hwr hv;refine⟨rfl,hc2,β,m,hβm,hml,λj h=>.inl (hβ j h),hβ0,hβB2,λj o' hj hdj=>⟨λh=>?_,λh=>.inl ((hm j o' hj hdj).2 h)⟩,Fg.tmps λt=>.inl ?_⟩
   ·rcases h with h | rfl
    ·exact(hm j o' hj hdj).1 h
    ·rw[ho] at hj;cases hj;rw[hwr] at hdj;cases hdj
   ·rw[hfr,hg]
    show _=if d=t then v else aP (qX (g L β m) (ez κ β m) (X β).f ol) t
    by_cases e:d=t
    ·subst e;rw[t8 rfl,(hbase _ β).1 i o d hβi ho hd (.inr rfl),hv]
     rcases en m (i+1) with h | h
     ·exact ld h
     ·refine(qk h λw h1 h2 h3=>?_).trans (ld (ay _))
      cases hk:κ w with
      | none=>rfl
      | some k=>
       rw[<-hv,<-hF (i+1) w d h1 gt (λc g1 g2=>hbm c gt gt) λj o' g1 _ g3 e=>by have:=hu ho g3 hd e;omega];exact(hun (.inl hd) w gt gt gt (.inl ⟨by omega,h3⟩) k hk).1
    ·rw[ul e,hfr,hg,hbne t λh=>e (by rw[hd] at h;exact Option.some.inj h)]
  have hstp:=hX i o ho;have top:∀{d:Nat} {v:SV} {f:Fm},aP ((d,v)::f) d=v:=λ{d v f}=>t8 rfl;have hXi:∃x,X i=x:=⟨_,rfl⟩;have hXj:∃x,X (i+1)=x:=⟨_,rfl⟩;obtain⟨xi,hxi⟩:=hXi;obtain⟨xj,hxj⟩:=hXj
  have hst:eD (ol.take (i+1)) n [o]=true:=by
   have:=hκi.st;unfold eD at this ⊢;simp only[fo,List.all_nil,d6] at this ⊢
   cases hg:o.guard with
   | none=>rw[hg] at this;exact this
   | some q=>obtain⟨j,w⟩:=q;rw[hg] at this;simp only at this ⊢;rw[el,t8 (by have:=p2 j w hg;omega)];exact this
  have hlook:(m<=i\/κ i=none)->(∀gd:Option (Nat×Bool),o.guard=gd->cH (ol.take (i+1)) (qX (g L β m) (ez κ β m) (X β).f ol) gd=cH ol (X i).f gd)/\∀x∈o.op.operands.toList,fp (qX (g L β m) (ez κ β m) (X β).f ol) x=fp (X i).f x:=by
   intro hκi
   have h1:∀t∈jC ol o,aP (qX (g L β m) (ez κ β m) (X β).f ol) t=aP (X i).f t:=λt ht=>by rw[hfr];exact hlook0 hκi t ht
   refine⟨λgd hgd=>?_,Qa h1⟩;rw[<-hgd,<-KG h1,hgd]
   cases gd with
   | none=>rfl
   | some q=>obtain⟨j,w⟩:=q;simp only[cH];rw[el,t8 (by have:=p2 j w hgd;omega)]
  rw[hxi,hxj] at hstp;by_cases hww:eO o.op=true
  ·have hb:∀j o',ol[j]?=some o'->eO o'.op=true->(L j↔j<i):=by
    intro j o' hj hdj
    rcases cd j i with h1 | rfl | h1
    ·exact⟨λ_=>h1,λ_=>hA j (hord hj ho h1 (by rw[hdj];rfl) (by rw[hww];rfl))⟩
    ·exact⟨λh=>t7 h hr.new,λh=>t7 h (Nat.lt_irrefl _)⟩
    ·exact⟨λhl=>t7 (hA2 j o' i hj hl (hord ho hj h1 (by rw[hww];rfl) (by rw[hdj];rfl))) hr.new,λh=>t7 h gt⟩
   have hmi:m<=i:=bt λh=>hr.new ((hm i o ho hww).2 h);have hl:=hlook (.inl hmi);obtain⟨v,S',k1,k3,k4⟩:=hκi.op hww
   refine aJ.run (l':=[]) (f':=uw (qX (g L β m) (ez κ β m) (X β).f ol) (κ i) o.dst v) (S':=S') hst (by
    rcases k1 with⟨k1,k2⟩ | ⟨k1,⟨d,k2⟩,rfl,rfl,k5⟩
    ·rw[qE,hl.1 _ rfl,k1,uI (by rw[hww,d3]) hl.2,hSS hb,k2];simp only[qE]
    ·rw[qE,hl.1 _ rfl,k1,k5,k2,hSS hb];simp only[qE,uw,lT]) (.nil ⟨rfl,hc2,β,i+1,by omega,hil,λj h=>.inl (hβ j h),hβ0,λc h1 hb2=>⟨(hβB2 c h1 hb2).1,?_⟩,λj o' hj hdj=>⟨λh=>?_,λh=>?_⟩,?_⟩)
   ·rcases cd c i with h | rfl | h
    ·exact t7 hb2 (hbi c h1 h)
    ·exact t7 hb2 hBi
    ·exact h
   ·rcases h with h | rfl
    ·have:=(hb j o' hj hdj).1 h;omega
    ·omega
   ·by_cases e:j=i
    ·exact .inr e
    ·exact .inl ((hb j o' hj hdj).2 gt)
   ·rw[k4];refine Fg.tmps λt=>.inl ?_
    have hr2:aP (uw (qX (g L β m) (ez κ β m) (X β).f ol) (κ i) o.dst v) t=if o.dst=some t then v else kZ (κ i) (g L β m t):=by
     have hk:aP (lT (qX (g L β m) (ez κ β m) (X β).f ol) (κ i)) t=kZ (κ i) (g L β m t):=by
      rw[<-hfr L β m t]
      cases κ i with
      | none=>rfl
      | some k=>exact jl _ _ _
     cases o.dst with
     | none=>rw[ul nofun];exact hk
     | some d=>
      show(if d=t then v else _)=_;simp only[n8,hk]
    rw[hr2,hfr,hg];by_cases hd:o.dst=some t
    ·rw[t8 hd,(hbase _ β).1 i o t hβi ho hd (.inr rfl),ld (ay _),k3 t hd]
    ·rw[ul hd,hbne t hd,hg]
     have hmi2:ez κ (base (L,β) t) m (aP (X (base (L,β) t)).f t)=ez κ (base (L,β) t) i (aP (X (base (L,β) t)).f t):=by
      refine(qk hmi λw h1 h2 h3=>?_).symm
      cases hk:κ w with
      | none=>rfl
      | some k=>
       exfalso;have h4:=hKm w gt (by rw[hk];nofun);obtain⟨ow,how⟩:=hat (show w<ol.length by omega)
       have hnb:¬B w:=λhb=>by rw[(hκ0 w).1 hb] at hk;cases hk
       have hwo:eO ow.op=true:=by
        cases hh:eO ow.op
        ·have:=(hκ how hnb).wr hh;rw[hk] at this;cases this
        ·rfl
       have:=h4.1 ((hb w ow how hwo).2 h3);omega
     rw[hmi2];by_cases hbl:base (L,β) t<=i
     ·exact uC hbl
     ·rw[ld gt,ld gt]
      cases hk:κ i with
      | none=>rfl
      | some k=>
       refine Eq.symm ?_;by_cases h:∃j o,β<=j/\ol[j]?=some o/\o.dst=some t/\L j
       ·obtain⟨j,o',h0,h1,h2,h3⟩:=h;rw[(hbase L β).1 j o' t h0 h1 h2 h3] at hbl ⊢
        have hij:j≠i:=λe=>by subst e;rw[ho] at h1;cases h1;exact hd h2
        have hnb:=hbd j o' h0 h1 h3;have:=(hκ h1 (hnb j h0 (bh _))).v t h2 (i,k) (hKL (i+1) j _ gt (ba (aR h1)) (λc g1 g2=>hnb c gt gt) (hκi.k2 k hk))
        rcases this with this | this
        ·exact t7 (hA2 j o' i h1 h3 this) hr.new
        ·exact this
       ·rw[(hbase L β).2 t λj o' h0 h1 h2 h3=>h ⟨j,o',h0,h1,h2,h3⟩] at hbl;omega
  have hκn:=hκw (by simpa using hww);have hl:=hlook (.inr hκn)
  cases hstp with
  | s _ hd hw hwr=>
   refine aJ.run (l':=[]) hst ?_ (.nil (lay (v:=.a kJ) hd hwr (by rw[hxj];exact top)));rw[qE,hl.1 _ rfl,hxi,hw];simp only[hd,qE]
  | r _ hd hw hrd hop=>
   rename_i v _ _;refine aJ.run (l':=[]) hst ?_ (.nil (lay (v:=v) hd (yV hrd) (by rw[hxj];exact top)));rw[qE,hl.1 _ rfl,hxi,hw,uI (by rw[hrd];rfl) hl.2,hxi,hop];simp only[hd,uw,lT,qE]
  | h _ hd hw hrd hop=>
   rename_i v _ _
   have e:=hlate (by rw[hxi]) λj o' hij hj hdj hnb=>by
    have h1:=(hκ hj (hBn hj hdj)).w hdj;exact all_eq_true.1 h1 i (hH (i+1) j i hij (ba (aR hj)) (λc g1 g2=>hnb c gt g2) (by rw[hxj];exact bc))
   rw[hxi] at e;refine aJ.run (l':=[]) hst ?_ (.nil (lay (v:=v) hd (yV hrd) (by rw[hxj];exact top)));rw[qE,hl.1 _ rfl,hxi,hw,uI (by rw[hrd];rfl) hl.2,hxi,e,hop];simp only[hd,uw,lT,qE]
  | k _ hop hd hw hdy he hcs hq hwk _ hfl=>
   have hkw:eO o.op=false:=by rw[hop];exact Rv hdy
   have e:=hlate (by rw[hxi]) λj o' hij hj hdj _=>hord ho hj hij (by rw[hop,hdy,d3]) (by rw[hdj];rfl);rw[hxi] at e;refine aJ.k hst hop hd (by rw[hl.1 _ rfl,hxi];exact hw) hdy (by rw[H5 (by rw[<-hop];exact hl.2),hxi];exact hcs) hq (by rw[e];exact hwk) hfl (.nil (lay hd hkw (by rw[hxj];exact top)))
  | sk _ _ _ hwr=>exact t7 hwr hww
  | e _ _ hwr=>exact t7 hwr hww
  | a _ _ hwr=>exact t7 hwr hww
  | Y3 h1 h2 h3=>exact t7 ((hB0 i).2 ⟨o,ho,by rw[hxi,hxj];exact⟨h1,h2,h3,rfl⟩⟩) hBi
 ·rintro L x ⟨hxn,hc,β,m,hβm,hml,hβ,hβ0,hβB,hm,hx⟩ hall;have hnb:∀c,β<=c->¬B c:=λc h1 hb=>(hβB c h1 hb).1 (hall c (hBl hb))
  have hSe:(X m).S=z.S:=by
   rw[<-hXN];exact(hS m ol.length hml (ay _) (λc h1 _=>hnb c gt) λj o h1 h2 hj=>OC λe=>by have:=(hm j o hj e).1 (hall j h2);omega).symm
  rw[hSe] at hx;refine⟨⟨z.f,n,z.S,ds⟩,hx.trans (Fg.tmps λt=>.inl ?_),hz⟩
  have hκm:∀b v,ez κ b m v=ez κ b ol.length v:=λb v=>(qk hml λw _ h2 h3=>by
   cases hk:κ w with
   | none=>rfl
   | some k=>
    exfalso;obtain⟨ow,how⟩:=hat h3
    have hnw:¬B w:=λhb=>by rw[(hκ0 w).1 hb] at hk;cases hk
    have hww:eO ow.op=true:=by
     cases hh:eO ow.op
     ·have:=(hκ how hnw).wr hh;rw[hk] at this;cases this
     ·rfl
    have:=(hm w ow how hww).1 (hall w h3)
    omega).symm
  rw[hfr,hg,hκm,<-hXN];by_cases hno:∃j o,β<=j/\ol[j]?=some o/\o.dst=some t
  ·obtain⟨k,o',h0,hk,hd'⟩:=hno;rw[(hbase L β).1 k o' t h0 hk hd' (hall k (aR hk))]
   exact hF (k+1) ol.length t (aR hk) (ay _) (λc h1 _=>hnb c gt) λj b h1 _ hj e=>by have:=hu hj hk e hd';omega
  ·rw[(hbase L β).2 t λj o' h0 hj hd=>t7 ⟨j,o',h0,hj,hd⟩ hno];exact hF β ol.length t gt (ay _) (λc h1 _=>hnb c h1) λj o' h0 _ hj hd=>hno ⟨j,o',h0,hj,hd⟩
def SD(P:Program)(ro:Option Nat)(all:List Oper)(ms:List Nat)(n:Nat)(b:Bool)(hp:List Nat)(l:List (Nat×Oper))(f:Fm)(S:List SO)(K:Fm->List SO->Prop):Prop:=∀f0,AA P ro all ms n f0 [] b hp l f S K
def Wg(h:vG op=true):eO op=true:=by unfold eO;rw[h];rfl
section
variable {all:List Oper} {ms:List Nat} {n:Nat} {b:Bool} {hp:List Nat} {l:List (Nat×Oper)} {f:Fm} {S:List SO} {K:Fm->List SO->Prop} {i:Nat} {o:Oper} {d:Nat}
def SD.nil(h:K f S):SD P ro all ms n b hp [] f S K:=λ_=>.nil h
theorem SD.s(hst:eD all n [o]=true)(hdst:o.dst=some d)(hw:cH all f o.guard=some false)(hwr:eO o.op=false)(q:SD P ro all ms n b hp l ((d,.a kJ)::f) S K):SD P ro all ms n b hp ((i,o)::l) f S K:=λf0=>.s hst hdst hw hwr (q f0)
theorem SD.r{v:SV}{S':List SO}{kill:Option Nat}(hst:eD all n [o]=true)(hdst:o.dst=some d)(hw:cH all f o.guard=some true)(hrr:(lS o.op&&(b||!Lu o.op))=true)(hop:dY P f S o.op=some (v,S',kill))
 (hk:SD P ro all ms n b (_root_.cond (Lu o.op) (i::hp) hp) l ((d,v)::f) S K):SD P ro all ms n b hp ((i,o)::l) f S K:=λf0=>.r hst hdst hw hrr hop (hk f0) trivial
def SD.ri{tt:TypeId}{x:Operand}{cs0:List SV}{v:SV}(hst:eD all n [o]=true)(hdst:o.dst=some d)(hw:cH all f o.guard=some true)(hop:o.op=.load tt x)(hx:fp f x=some (.ip cs0))(hv:vY P tt cs0 0=some v)
 (q:SD P ro all ms n b hp l ((d,v)::f) S K):SD P ro all ms n b hp ((i,o)::l) f S K:=λf0=>.ri hst hdst hw hop hx hv trivial (q f0)
theorem SD.k{cl:Call}{g:FuncId}{vs ws:List SV}{r:SV}(hst:eD all n [o]=true)(hop:o.op=.call cl)(hdst:o.dst=some d)(hw:cH all f o.guard=some true)(hdy:gG (.call cl)=true)(he:yM (.call cl)=true)
 (hc:jL P f cl=some (g,vs)) (hq:PC P g ws (·=r)) (hwk:cS S vs ws) (hr:yG r=true) (q:SD P ro all ms n true hp l ((d,r)::f) S K):SD P ro all ms n true hp ((i,o)::l) f S K:=λf0=>.k hst hop hdst hw hdy he hc hq hwk hr (q f0)
theorem SD.e{v:SV}{S':List SO}(hst:eD all n [o]=true)(hdst:o.dst=none)(hw:cH all f o.guard=some true)(he:yM o.op=true)(hwr:vG o.op=true)(hms:hp.all (λj=>bW (ms.getD i 0) j)=true)(hop:dY P f S o.op=some (v,S',none))
 (q:SD P ro all ms n false hp l f S' K):SD P ro all ms n b hp ((i,o)::l) f S K:=λf0=>.e hst hw (Wg hwr) hms hop trivial (by rw[hdst];exact q f0)
def SD.ed{v:SV}{S':List SO}(hst:eD all n [o]=true)(hdst:o.dst=some d)(hw:cH all f o.guard=some true)(he:yM o.op=true)(hwr:vG o.op=true)(hms:hp.all (λj=>bW (ms.getD i 0) j)=true)(hop:dY P f S o.op=some (v,S',none))
 (q:SD P ro all ms n false hp l ((d,v)::f) S' K):SD P ro all ms n b hp ((i,o)::l) f S K:=λf0=>.e hst hw (Wg hwr) hms hop trivial (by rw[hdst];exact q f0)
end
def aD.Ru(hol:ops.toList=ol)(hms:qq ol []=ms)(hok:((mN 0 ol&&P.follows .mixedOrders)&&(EV ol ms (dj 0 ol)&&OY ms (dj 0 ol)))=true)
 (h:SD P ro ol ms st.n true [] (dj 0 ol) st.f st.S λf' S'=>Q .normal ⟨f',st.n,S',st.ds⟩):aD P ro (.region id ops true) st Q:=.Ws hol hms hok (h _)
end
end
end Go.Ev
namespace Go.Proofs
open Go.Ev
set_option maxRecDepth 100000
def dQ:uZ prog:=UP (by kernel_rfl)
def KA:C8 prog 143 .clone:=C8.clone λt r es ck w h=>by
 rw[run_callFunc_extern Tryz.func143 (by kernel_rfl) (by kernel_rfl) (by kernel_rfl) (e:=Extern.MapsClone.clone) (by kernel_rfl)]
 have e:∃s:String,Extern.MapsClone.clone #[.iface t (.map (some r))]=(getObj r>>=λo=>match o with
  | .map entries clock=>(newObj (.map entries clock)>>=λn=>pure (.iface t (.map (some n))))
  | _=>stuck s):=⟨_,rfl⟩
 obtain⟨s,e⟩:=e;rw[e];simp[MapKept.run_getObj_map h,Result.andThen,go_sem]
def KB:C8 prog 214 .indexByte:=C8.indexByte λx c w=>by
 rw[run_callFunc_extern Tryz.func214 (by kernel_rfl) (by kernel_rfl) (by kernel_rfl) (e:=Extern.BytealgIndexByte.indexByte) (by kernel_rfl),Lib.run_indexByteString];rfl
variable{a:Prop}{b:Prop}
def br(x:a)(y:b):a/\b:=⟨x,y⟩
variable{c:Prop}
def cA(x:a)(y:b)(z:c):a/\b/\c:=⟨x,y,z⟩
variable{d:Prop}
def jB(x:a)(y:b)(z:c)(w:d):a/\b/\c/\d:=⟨x,y,z,w⟩
variable{e:Prop}
def ik(x:a)(y:b)(z:c)(w:d)(u:e):a/\b/\c/\d/\e:=⟨x,y,z,w,u⟩
variable{f:Prop}
def sa(x:a)(y:b)(z:c)(w:d)(u:e)(v:f):a/\b/\c/\d/\e/\f:=⟨x,y,z,w,u,v⟩
variable{g:Prop}
def Af(a1:a)(b1:b)(c1:c)(d1:d)(e1:e)(f1:f)(g1:g):a/\b/\c/\d/\e/\f/\g:=⟨a1,b1,c1,d1,e1,f1,g1⟩
def KO{h:Prop}(a1:a)(b1:b)(c1:c)(d1:d)(e1:e)(f1:f)(g1:g)(h1:h):a/\b/\c/\d/\e/\f/\g/\h:=⟨a1,b1,c1,d1,e1,f1,g1,h1⟩
def DX{h i:Prop}(a1:a)(b1:b)(c1:c)(d1:d)(e1:e)(f1:f)(g1:g)(h1:h)(i1:i):a/\b/\c/\d/\e/\f/\g/\h/\i:=⟨a1,b1,c1,d1,e1,f1,g1,h1,i1⟩
def O0{h i j:Prop}(a1:a)(b1:b)(c1:c)(d1:d)(e1:e)(f1:f)(g1:g)(h1:h)(i1:i)(j1:j):a/\b/\c/\d/\e/\f/\g/\h/\i/\j:=⟨a1,b1,c1,d1,e1,f1,g1,h1,i1,j1⟩
def XT:ct 1 SO.gone=[.gone]:=rfl
def XU:ct 2 SO.gone=[.gone,.gone]:=rfl
def XV:ct 3 SO.gone=[.gone,.gone,.gone]:=rfl
def XW:ct 4 SO.gone=[.gone,.gone,.gone,.gone]:=rfl
def sH:type_of% XT/\type_of% XU/\type_of% XV/\type_of% XW:=⟨XT,XU,XV,XW⟩
variable{p:Prop}
def zl(h:p:=by simp only[cG,bG,an,az,m7,m6,↓reduceIte,Nat.reduceEqDiff,Nat.reduceAdd,Nat.reduceMul,Nat.reduceLeDiff,Nat.reduceLT,ah,ar,bD];first | done | rfl):p:=h
variable{r:Prop}
def fF(k:r)(h:r->p:=by intro k;simp only[cG,bG,an,az,m7,m6,↓reduceIte,Nat.reduceEqDiff,Nat.reduceAdd,Nat.reduceMul,Nat.reduceLeDiff,Nat.reduceLT,ah,ar,bD,k];first | done | rfl):p:=h k
def zc(h:p:=by simp only[cG,bG,an,az,m7,m6,↓reduceIte,Nat.reduceEqDiff,Nat.reduceAdd,Nat.reduceMul,Nat.reduceLeDiff,Nat.reduceLT,ah,ar,bD,jL];first | done | rfl):p:=h
def Nb(k:r)(h:r->p:=by intro k;simp only[cG,bG,an,az,m7,m6,↓reduceIte,Nat.reduceEqDiff,Nat.reduceAdd,Nat.reduceMul,Nat.reduceLeDiff,Nat.reduceLT,ah,ar,bD,jL,k];first | done | rfl):p:=h k
variable{q:Prop}
def Yt(f:r)(h:r->p->q:=by intro f h;(repeat (first | refine SD.ri ge rfl ge rfl (fF @f) (fF @f) ?_ | refine SD.r ge rfl ge ge (fF @f) ?_ | refine SD.s ge rfl ge ge ?_ | fail));exact h)(k:p):q:=h f k
def Zx(h:p->q:=by intro h;(repeat (first | refine SD.ri ge rfl ge rfl zl zl ?_ | refine SD.r ge rfl ge ge zl ?_ | refine SD.s ge rfl ge ge ?_ | fail));exact h)(k:p):q:=h k
def zj(h:p:=by (repeat' apply And.intro)<;>first | exact .inl rfl | trivial):p:=h
def zW(h:p:=by kernel_rfl):p:=h
def zV(h:p->q:=by intro h;(repeat refine aD.seq ?_);refine aD.r0 ge zl ?_;(try change aD _ _ _ _ _);exact h)(k:p):q:=h k
def aA(f:r)(h:r->p->q:=by intro f h;(repeat refine aD.seq ?_);refine aD.r0 ge (fF @f) ?_;(try change aD _ _ _ _ _);exact h)(k:p):q:=h f k
def zC(h:p->q:=by intro h;(repeat refine aD.seq ?_);refine aD.Vc ge zl ?_;exact h)(k:p):q:=h k
def jH(f:r)(h:r->p->q:=by intro f h;(repeat refine aD.seq ?_);refine aD.Vc ge (fF @f) ?_;exact h)(k:p):q:=h f k
def zR(h:p->q:=by intro h;refine aJ.r0 ge zl ?_;(try change aD _ _ _ _ _);exact h)(k:p):q:=h k
def cO(f:r)(h:r->p->q:=by intro f h;refine aJ.r0 ge (fF @f) ?_;(try change aD _ _ _ _ _);exact h)(k:p):q:=h f k
def zQ(h:p->q:=by intro h;refine aJ.run ge zl ?_;exact h)(k:p):q:=h k
def Wh(f:r)(h:r->p->q:=by intro f h;refine aJ.run ge (fF @f) ?_;exact h)(k:p):q:=h f k
def zY(h:p->q:=by intro h;(repeat refine aD.seq ?_);refine aD.yes rfl ?_;(try (refine aD.skip ?_;try change aD _ _ _ _ _));exact h)(k:p):q:=h k
def zN(h:p->q:=by intro h;(repeat refine aD.seq ?_);refine aD.no rfl ?_;(try (refine aD.skip ?_;try change aD _ _ _ _ _));exact h)(k:p):q:=h k
def zE(h:p->q:=by intro h;refine aD.ret ?_;(try simp only[gK,eI,cQ,cr]);exact h)(k:p):q:=h k
def zB(h:p->q:=by intro h;(repeat refine aD.seq ?_);refine aD.block ?_;exact h)(k:p):q:=h k
section
variable {P:Program} {ro:Option Nat} {f:Fm} {n:Nat} {S:List SO} {ds:List jy} {Q:Ex->eU->Prop}
variable{all:List Oper}{K:eU->Prop}{vs:List SV}
def zK{o:Oper}{l:List Oper}{d:Nat}{c:Call}{g:FuncId}{ws:List SV}{r:SV}(hq:PC P g ws (·=r))
 (hst:eD all n [o]=true:=by rfl) (hop:o.op=.call c:=by rfl) (hdst:o.dst=some d:=by rfl) (hw:cH all f o.guard=some true:=by rfl) (hdy:gG (.call c)=true:=by rfl)
 (hc:jL P f c=some (g,vs):=by exact zc) (hwk:cS S vs ws:=by first | exact cS.refl rfl | ((repeat' (first | exact cS.nil | apply cS.cons | exact Wk.refl rfl | exact Wk.nil _ | apply Wk.ag | apply Wk.bB | apply Wk.fn | refine Wk.ptr rfl ?_ (by first | decide | (simp only[bG];omega)) | refine Wk.buf rfl ?_ (by first | decide | (simp only[bG];omega)) | refine Wk.map rfl ?_ | exact cS.refl rfl));done)) (hfl:yG r=true\/cS [] vs ws:=by exact .inl rfl) (hk:aJ P ro all l ⟨(d,r)::f,n,S,ds⟩ K):aJ P ro all (o::l) ⟨f,n,S,ds⟩ K:=
 aJ.k hst hop hdst hw hdy hc hq hwk hfl hk
variable{fn:Func}{Qr:SV->Prop}
def zO{e:Ex}{r:SV}(rs:List ResultVar)(he:lP e=true:=by rfl)(hr:fn.results.toList=rs:=by rfl)(h:qB P f S rs=some vs:=by exact zl)(hw:Wk S (dA vs) r:=by exact Wk.refl rfl)(hq:Qr r:=by (try simp only[dA,aY]);first | done | rfl):ue P fn Qr e ⟨f,n,S,[]⟩:=ue.of he hr h hw hq
variable{S':List SO}
def zH{f':Fm}(hf:uY f f':=by (simp only[cG,bG,dU,an,↓reduceIte,Nat.reduceEqDiff])<;>(repeat' apply And.intro)<;>first | rfl | trivial)(hs:FB S S' 0:=by (simp only[cG,bG,an,or_true,true_or])<;>(repeat' apply And.intro)<;>first | exact .inr rfl | exact .inl rfl | trivial):Fg ⟨f,n,S,ds⟩ ⟨f',n,S',ds⟩:=Fg.less hf hs
def bK{f':Fm}(k:r)(hf:r->uY f f':=by intro k;(simp only[cG,bG,dU,an,↓reduceIte,Nat.reduceEqDiff,k])<;>(repeat' apply And.intro)<;>first | rfl | trivial)(hs:r->FB S S' 0:=by intro k;(simp only[cG,bG,an,or_true,true_or,k])<;>(repeat' apply And.intro)<;>first | exact .inr rfl | exact .inl rfl | trivial):Fg ⟨f,n,S,ds⟩ ⟨f',n,S',ds⟩:=Fg.less (hf k) (hs k)
def zG(h:p:=by (simp only[A4,cG,bG,true_or,or_true,↓reduceIte,Nat.reduceEqDiff])<;>(repeat' apply And.intro)<;>first | exact .inl rfl | trivial | exact .inr (Wk.buf rfl (cS.refl rfl) (by first | decide | (simp only[bG];omega))) | exact .inr (Wk.map rfl (cS.refl rfl)) | exact .inr (Wk.ptr rfl (cS.refl rfl) (by first | decide | (simp only[bG];omega)))):p:=h
def tK(k:r)(h:r->p:=by intro k;((simp only[A4,cG,bG,true_or,or_true,↓reduceIte,Nat.reduceEqDiff,k])<;>(repeat' apply And.intro)<;>first | exact .inl rfl | trivial | exact .inr (Wk.buf rfl (cS.refl rfl) (by first | decide | (simp only[bG];omega))) | exact .inr (Wk.map rfl (cS.refl rfl)) | exact .inr (Wk.ptr rfl (cS.refl rfl) (by first | decide | (simp only[bG];omega))))):p:=h k
def zZ{c:Code}(f':Fm)(o:Nat){so:SO}(hS:S[o]?=some so)(hf:A4 (mK o so) f f')(h:aD P ro c ⟨f',n,S.set o .gone,ds⟩ Q)(hg:so≠.gone:=by intro h;cases h):aD P ro c ⟨f,n,S,ds⟩ Q:=aD.fg (Fg.freeze o hS hg hf) h
def zA{c:Code}(f':Fm)(S':List SO)(hf:Fg ⟨f,n,S,ds⟩ ⟨f',n,S',ds⟩)(h:aD P ro c ⟨f',n,S',ds⟩ Q):aD P ro c ⟨f,n,S,ds⟩ Q:=aD.fg hf h
def oZ{l:List Oper}(f':Fm)(o:Nat){so:SO}(hS:S[o]?=some so)(hf:A4 (mK o so) f f')(h:aJ P ro all l ⟨f',n,S.set o .gone,ds⟩ K)(hg:so≠.gone:=by intro h;cases h):aJ P ro all l ⟨f,n,S,ds⟩ K:=aJ.fg (Fg.freeze o hS hg hf) h
def oA{l:List Oper}(f':Fm)(S':List SO)(hf:Fg ⟨f,n,S,ds⟩ ⟨f',n,S',ds⟩)(h:aJ P ro all l ⟨f',n,S',ds⟩ K):aJ P ro all l ⟨f,n,S,ds⟩ K:=aJ.fg hf h
def zr{S0:List SO}{v:List SV}(h:cg v=true:=by rfl):cS S0 v v:=cS.refl h
def zs(h:p->q:=by intro h;(repeat refine aD.seq ?_);exact h)(k:p):q:=h k
variable{α:Type}
def zL(l:List α)(I:Nat->Prop)(fr:Nat->Fm)(T:Nat->List SO){id:Nat}{x:Code}(hf:Fg ⟨f,n,S,[]⟩ ⟨fr 0,n,T 0,[]⟩)(h0:I 0)
 (h:∀k,k<=l.length->I k->aD P ro x ⟨fr k,n,T k,[]⟩ (cQ (λm st=>∃k,k<=l.length/\m=l.length-k/\I k/\st=⟨fr k,n,T k,[]⟩) (l.length-k) (gK id Q))):aD P ro (.block id (.loop x)) ⟨f,n,S,[]⟩ Q:=
 aD.block (aD.loop (λm st=>∃k,k<=l.length/\m=l.length-k/\I k/\st=⟨fr k,n,T k,[]⟩) l.length hf ⟨0,bx _,rfl,h0,rfl⟩ (by rintro m st ⟨k,_,_,_,rfl⟩;rfl) (by rintro m st ⟨k,hk,rfl,hI,rfl⟩;exact h k hk hI))
variable{l:List α}{k:Nat}
def zX{I:Nat->Prop}{fr:Nat->Fm}{T:Nat->List SO}{st:eU}(hlt:k<l.length)(hf:Fg st ⟨fr (k+1),n,T (k+1),[]⟩)(hI:I (k+1)):
 cQ (λm st=>∃k,k<=l.length/\m=l.length-k/\I k/\st=⟨fr k,n,T k,[]⟩) (l.length-k) Q .normal st:=⟨l.length-(k+1),_,by omega,hf,k+1,hlt,rfl,hI,rfl⟩
def zi{L B:Nat}(h1:k<L)(h2:L<=B)(t:TypeId)(hB:B<=9223372036854775807:=by decide):cW Tryz.prog .add t (.int .i64 (k:Int)) (.int .i64 1)=some (.int .i64 ((k:Int)+1)):=qT (rf h1 h2 hB)
def zt{n:Nat}(h:k<n):decide ((k:Int)<(n:Int))=true:=by simp only[wp];omega
def zS{o:Oper}{l:List Oper}{d:Nat}{c:Call}{g:FuncId}{ws:List SV}{mv:List Nat}{S0 S1 S2:List SO}{r0 r2:SV}{f2:Fm}(os:List Nat)(k:r)(hq:SC P g ws S0 mv (λr S'=>r=r0/\S'=S1))
 (hk:aJ P ro all l ⟨(d,r2)::f2,n,S2,ds⟩ K) (hst:eD all n [o]=true:=by rfl) (hop:o.op=.call c:=by rfl) (hdst:o.dst=some d:=by rfl) (hw:cH all f o.guard=some true:=by rfl) (hdy:gG (.call c)=true:=by rfl)
 (hc:jL P f c=some (g,vs):=by exact zc) (hvs:r->me (kM os S.length) ws=vs:=by intro k;simp only[gh,bG,an,↓reduceIte,Nat.reduceEqDiff,Nat.reduceAdd,Nat.reduceSub,Nat.reduceMul,Nat.reduceLeDiff,Nat.reduceLT,k];first | done | rfl) (hK:os.length=S0.length:=by rfl) (hnd:os.Nodup:=by decide)
 (hos:r->BK S (kM os S.length) S0 os:=by intro k;simp only[BK,gh,bG,an,k]<;>(repeat' apply And.intro)<;>first | trivial | rfl | (intro hh;cases hh))
 (hb1:r->dT S1.length r0=true:=by intro k;simp only[GZ,gh,bG,an,Nat.reduceAdd,Nat.reduceLT,decide_true,k];first | done | rfl) (hb2:r->xp S1.length S1=true:=by intro k;simp only[GZ,gh,bG,an,Nat.reduceAdd,Nat.reduceLT,decide_true,k];first | done | rfl)
 (hr:r->gF (kM os S.length) r0=r2:=by intro k;simp only[gh,bG,an,↓reduceIte,Nat.reduceEqDiff,Nat.reduceAdd,Nat.reduceSub,Nat.reduceMul,Nat.reduceLeDiff,Nat.reduceLT,k];first | done | rfl) (hf:r->pG (ek os mv S.length (S1.length-os.length)) f=f2:=by intro k;simp only[gh,bG,an,↓reduceIte,Nat.reduceEqDiff,Nat.reduceAdd,Nat.reduceSub,Nat.reduceMul,Nat.reduceLeDiff,Nat.reduceLT,k,eg,eC,cx,aW,cG];first | done | rfl) (hS:r->gu S os mv S1=S2:=by intro k;simp only[gh,bG,an,↓reduceIte,Nat.reduceEqDiff,Nat.reduceAdd,Nat.reduceSub,Nat.reduceMul,Nat.reduceLeDiff,Nat.reduceLT,k,eg,eC,cx,aW,cG];first | done | rfl):aJ P ro all (o::l) ⟨f,n,S,ds⟩ K:=
 aJ.sk os hst hop hdst hw hdy hc hq (hvs k) hK hnd (hos k) (hb1 k) (hb2 k) (hr k) (hf k) (hS k) hk
def zP{K:Nat}{mv:List Nat}{Qs:SV->List SO->Prop}{e:Ex}(rs:List ResultVar)(he:lP e=true:=by rfl)(hr:fn.results.toList=rs:=by rfl)(h:qB P f S rs=some vs:=by exact zl)
 (hq:Qs (dA vs) S:=by (try simp only[dA,aY]);first | done | exact⟨rfl,rfl⟩ | exact⟨trivial,trivial⟩ | exact⟨rfl,trivial⟩ | exact⟨trivial,rfl⟩ | trivial) (hK:K<=S.length:=by first | decide | (simp only[bG];omega)) (hw:∀i,i<K->i∉mv->aP f (1000000+i)=.ptr i 0:=by intro i hi;have hi2:i<_:=hi;clear hi;simp only[i7,g9,Nat.zero_add,Nat.reduceAdd,Nat.not_lt_zero] at hi2<;>(rcases i with _ | i<;>first | (exfalso;omega) | (intro hm_;first | rfl | (exfalso;apply hm_;simp;done)) | (rcases i with _ | i<;>first | (exfalso;omega) | (intro hm_;first | rfl | (exfalso;apply hm_;simp;done)) | (rcases i with _ | i<;>first | (exfalso;omega) | (intro hm_;first | rfl | (exfalso;apply hm_;simp;done)))))):QC P fn K mv Qs e ⟨f,n,S,[]⟩:=QC.of he hr h hq hK hw
def zD(h:p->q:=by intro h;(repeat (first | refine SD.r ge rfl ge ge zl ?_ | refine SD.s ge rfl ge ge ?_ | fail));exact h)(k:p):q:=h k
def tT(f:r)(h:r->p->q:=by intro f h;(repeat (first | refine SD.r ge rfl ge ge (fF @f) ?_ | refine SD.s ge rfl ge ge ?_ | fail));exact h)(k:p):q:=h f k
def zM(h:p->q:=by intro h;refine SD.nil ?_;(try change aD _ _ _ _ _);exact h)(k:p):q:=h k
def zp(h:p:=by first | exact λi y h=>t7 h (Nat.not_lt_zero _) | trivial | rfl | assumption):p:=h
def uW{id:Nat}{ops:Array Oper}{st:eU}{ol:List Oper}(ms:List Nat)(h:SD P ro ol ms st.n true [] (dj 0 ol) st.f st.S λf' S'=>Q .normal ⟨f',st.n,S',st.ds⟩)(hol:ops.toList=ol:=by rfl)(hms:qq ol []=ms:=by kernel_rfl)(hok:((mN 0 ol&&P.follows .mixedOrders)&&(EV ol ms (dj 0 ol)&&OY ms (dj 0 ol)))=true:=by kernel_rfl):aD P ro (.region id ops true) st Q:=aD.Ru hol hms hok h
def zw(h:p:=by first | exact cS.refl rfl | ((repeat' (first | exact cS.nil | apply cS.cons | exact Wk.refl rfl | exact Wk.nil _ | apply Wk.ag | apply Wk.bB | apply Wk.fn | refine Wk.ptr rfl ?_ (by first | decide | (simp only[bG];omega)) | refine Wk.buf rfl ?_ (by first | decide | (simp only[bG];omega)) | refine Wk.map rfl ?_ | exact cS.refl rfl));done)):p:=h
def Nc(k:c)(h:c->p->q:=by intro f h;refine SD.k ge rfl rfl ge rfl rfl (by exact zc) f zw rfl h)(kk:p):q:=h k kk
def zv(h:p:=by (try simp only[dA,aY]);(repeat' (first | exact Wk.refl rfl | exact cS.nil | apply cS.cons | exact Wk.nil _ | apply Wk.ag | apply Wk.bB | refine Wk.ptr rfl ?_ (by first | decide | (simp only[bG];omega)) | refine Wk.buf rfl ?_ (by first | decide | (simp only[bG];omega)) | refine Wk.map rfl ?_ | exact cS.refl rfl))):p:=h
def Ye(h:p:=by (simp only[cG,bG,dU,an,↓reduceIte,Nat.reduceEqDiff])<;>(repeat' apply And.intro)<;>first | rfl | trivial):p:=h
def Xb(k:r)(h:r->p:=by intro k;(simp only[cG,bG,dU,an,↓reduceIte,Nat.reduceEqDiff,k])<;>(repeat' apply And.intro)<;>first | rfl | trivial):p:=h k
def Zy(h:p:=by (simp only[cG,bG,an,or_true,true_or])<;>(repeat' apply And.intro)<;>first | exact .inr rfl | exact .inl rfl | trivial):p:=h
def Xc(k:r)(h:r->p:=by intro k;(simp only[cG,bG,an,or_true,true_or,k])<;>(repeat' apply And.intro)<;>first | exact .inr rfl | exact .inl rfl | trivial):p:=h k
def zq(h:p:=by (try simp only[dA,aY]);first | done | rfl):p:=h
def ZQ(h:p:=by (try simp only[dA,aY]);first | done | exact⟨rfl,rfl⟩ | exact⟨trivial,rfl⟩ | exact⟨rfl,trivial⟩ | exact⟨trivial,trivial⟩):p:=h
def zg(h:p:=by intro i hi;have hi2:i<_:=hi;clear hi;simp only[i7,g9,Nat.zero_add,Nat.reduceAdd,Nat.not_lt_zero] at hi2<;>(rcases i with _ | i<;>first | (exfalso;omega) | (intro hm_;first | rfl | (exfalso;apply hm_;simp;done)) | (rcases i with _ | i<;>first | (exfalso;omega) | (intro hm_;first | rfl | (exfalso;apply hm_;simp;done)) | (rcases i with _ | i<;>first | (exfalso;omega) | (intro hm_;first | rfl | (exfalso;apply hm_;simp;done)))))):p:=h
def zd(h:p:=by first | decide | (simp only[bG];omega)):p:=h
def sC(k:Nat):(k:Int)+1=((k+1:Nat):Int):=rfl
def bA(a b:Int)(h : -9223372036854775808<=a+b/\a+b<=9223372036854775807)(P:Program)(t:TypeId):cW P .add t (.int .i64 a) (.int .i64 b)=some (.int .i64 (a+b)):=qT h
def bS(a b:Int)(h : -9223372036854775808<=a-b/\a-b<=9223372036854775807)(P:Program)(t:TypeId):cW P .sub t (.int .i64 a) (.int .i64 b)=some (.int .i64 (a-b)):=AF h
def bM(a b:Int)(h : -9223372036854775808<=a*b/\a*b<=9223372036854775807)(P:Program)(t:TypeId):cW P .mul t (.int .i64 a) (.int .i64 b)=some (.int .i64 (a*b)):=AE h
def ZR(h:p:=by (simp only[su,gh,bG,an])<;>(repeat' apply And.intro)<;>first | trivial | exact .inl rfl | exact .inr rfl | exact .inr trivial | exact .inl trivial):p:=h
def KM(k:r)(h:r->p:=by intro k;(simp only[su,gh,bG,an,k])<;>(repeat' apply And.intro)<;>first | trivial | exact .inl rfl | exact .inr rfl | exact .inr trivial | exact .inl trivial):p:=h k
def ZS(h:p:=by (simp only[cG,gh,bG,an])<;>(repeat' apply And.intro)<;>first | rfl | trivial):p:=h
def KN(k:r)(h:r->p:=by intro k;(simp only[cG,gh,bG,an,k])<;>(repeat' apply And.intro)<;>first | rfl | trivial):p:=h k
def pB(n:Nat){g:FuncId}{c:Code}{args:List SV}{Q:SV->Prop}(hf:Tryz.prog.funcs[g]?=some fn)(hw:aD Tryz.prog none c ⟨mr 0 args,n,[],[]⟩ (ue Tryz.prog fn Q))(hb:fn.body=some c:=by rfl)(hn:args.length+(fn.ntmps-args.length)=n:=by rfl)(hlim:n<=1000000:=by exact md rfl):PC Tryz.prog g args Q:=PC.body dQ hf hb hn hw hlim
section
variable (n:Nat) {g:FuncId} {fn:Func} {c:Code} {args:List SV} {S0:List SO} {mv:List Nat} {Q:SV->List SO->Prop}
def On(hf:Tryz.prog.funcs[g]?=some fn)(hw:aD Tryz.prog none c ⟨mr 0 args++[],n,S0,[]⟩ (QC Tryz.prog fn S0.length mv Q))(hb:fn.body=some c:=by rfl)(hn:args.length+(fn.ntmps-args.length)=n:=by rfl)(hlim:n<=1000000:=by exact md rfl)(hW:[]=pS S0.length:=by rfl)(hK:S0.length<=1000000:=by exact md rfl):SC Tryz.prog g args S0 mv Q:=SC.body dQ hf hb hn hlim hW hw hK
def Oo(hf:Tryz.prog.funcs[g]?=some fn)(hw:aD Tryz.prog none c ⟨mr 0 args++[(1000000,.ptr 0 0)],n,S0,[]⟩ (QC Tryz.prog fn S0.length mv Q))(hb:fn.body=some c:=by rfl)(hn:args.length+(fn.ntmps-args.length)=n:=by rfl)(hlim:n<=1000000:=by exact md rfl)(hW:[(1000000,.ptr 0 0)]=pS S0.length:=by rfl)(hK:S0.length<=1000000:=by exact md rfl):SC Tryz.prog g args S0 mv Q:=SC.body dQ hf hb hn hlim hW hw hK
def XX(hf:Tryz.prog.funcs[g]?=some fn)(hw:aD Tryz.prog none c ⟨mr 0 args++[(1000000,.ptr 0 0),(1000001,.ptr 1 0)],n,S0,[]⟩ (QC Tryz.prog fn S0.length mv Q))(hb:fn.body=some c:=by rfl)(hn:args.length+(fn.ntmps-args.length)=n:=by rfl)(hlim:n<=1000000:=by exact md rfl)(hW:[(1000000,.ptr 0 0),(1000001,.ptr 1 0)]=pS S0.length:=by rfl)(hK:S0.length<=1000000:=by exact md rfl):SC Tryz.prog g args S0 mv Q:=SC.body dQ hf hb hn hlim hW hw hK
def Ys(hf:Tryz.prog.funcs[g]?=some fn)(hw:aD Tryz.prog none c ⟨mr 0 args++[(1000000,.ptr 0 0),(1000001,.ptr 1 0),(1000002,.ptr 2 0)],n,S0,[]⟩ (QC Tryz.prog fn S0.length mv Q))(hb:fn.body=some c:=by rfl)(hn:args.length+(fn.ntmps-args.length)=n:=by rfl)(hlim:n<=1000000:=by exact md rfl)(hW:[(1000000,.ptr 0 0),(1000001,.ptr 1 0),(1000002,.ptr 2 0)]=pS S0.length:=by rfl)(hK:S0.length<=1000000:=by exact md rfl):SC Tryz.prog g args S0 mv Q:=SC.body dQ hf hb hn hlim hW hw hK
end
def cN(h:p->q:=by intro h;(repeat refine aD.seq ?_);refine aD.yes rfl ?_;(try (refine aD.skip ?_;try change aD _ _ _ _ _));(repeat refine aD.seq ?_);refine aD.r0 ge zl ?_;(try change aD _ _ _ _ _);exact h)(k:p):q:=h k
def lJ(h:p->q:=by intro h;(repeat refine aD.seq ?_);refine aD.r0 ge zl ?_;(try change aD _ _ _ _ _);(repeat refine aD.seq ?_);refine aD.Vc ge zl ?_;exact h)(k:p):q:=h k
def jG(h:p->q:=by intro h;(repeat refine aD.seq ?_);refine aD.no rfl ?_;(try (refine aD.skip ?_;try change aD _ _ _ _ _));(repeat refine aD.seq ?_);refine aD.r0 ge zl ?_;(try change aD _ _ _ _ _);exact h)(k:p):q:=h k
def nP(h:p->q:=by intro h;(repeat refine aD.seq ?_);refine aD.r0 ge zl ?_;(try change aD _ _ _ _ _);(repeat refine aD.seq ?_);refine aD.r0 ge zl ?_;(try change aD _ _ _ _ _);exact h)(k:p):q:=h k
def Vy(h:p->q:=by intro h;(repeat refine aD.seq ?_);refine aD.no rfl ?_;(try (refine aD.skip ?_;try change aD _ _ _ _ _));(repeat refine aD.seq ?_);refine aD.Vc ge zl ?_;exact h)(k:p):q:=h k
def KS(h:p->q:=by intro h;(repeat refine aD.seq ?_);refine aD.r0 ge zl ?_;(try change aD _ _ _ _ _);(repeat refine aD.seq ?_);refine aD.no rfl ?_;(try (refine aD.skip ?_;try change aD _ _ _ _ _));exact h)(k:p):q:=h k
def Ab(h:p->q:=by intro h;(repeat refine aD.seq ?_);refine aD.r0 ge zl ?_;(try change aD _ _ _ _ _);(repeat refine aD.seq ?_);refine aD.yes rfl ?_;(try (refine aD.skip ?_;try change aD _ _ _ _ _));exact h)(k:p):q:=h k
def xn{a b:Int}(h : -9223372036854775808<=a+b/\a+b<=9223372036854775807)(P:Program)(t:TypeId):cW P .add t (.int .i64 a) (.int .i64 b)=some (.int .i64 (a+b)):=qT h
def TT{a b:Int}(h : -9223372036854775808<=a-b/\a-b<=9223372036854775807)(P:Program)(t:TypeId):cW P .sub t (.int .i64 a) (.int .i64 b)=some (.int .i64 (a-b)):=AF h
def ZD{a b:Int}(h : -9223372036854775808<=a*b/\a*b<=9223372036854775807)(P:Program)(t:TypeId):cW P .mul t (.int .i64 a) (.int .i64 b)=some (.int .i64 (a*b)):=AE h
def ee{L:Nat->Prop}{i:Nat}(h:L i)(v:SV):vo L i v=v:=dC h
def Zw{L:Nat->Prop}{i:Nat}(h:L i)(v:SO):wo L i v=v:=mY h
def VI{n:Nat}(h:k<=n)(c:Option Nat)(q:IntKind):c7 n c none (some (.int q (k:Int))) none=some (0,k,c):=by
 unfold c7 qi rQ;simp only[od,m7,fH h,eB,ah]
def ON{n:Nat}(h:k<=n)(c:Option Nat)(q:IntKind):c7 n c (some (.int q (k:Int))) none none=some (k,n,c):=by
 unfold c7 qi;simp only[od,m7,fH h,ah]
end
def gJ(h:p->q:=by intro h;(repeat refine aD.seq ?_);refine aD.yes rfl ?_;(try (refine aD.skip ?_;try change aD _ _ _ _ _));(repeat refine aD.seq ?_);refine aD.block ?_;exact h)(k:p):q:=h k
def fC(h:p->q:=by intro h;(repeat refine aD.seq ?_);refine aD.no rfl ?_;(try (refine aD.skip ?_;try change aD _ _ _ _ _));refine aD.exit ?_;exact h)(k:p):q:=h k
variable{α:Type}{l:List α}{k:Nat}
def ZP{p0 p1:Prop}(h0:k=l.length->p0)(h1:∀x,l[k]?=some x->k<l.length->p1)(hk:k<=l.length):(decide ((k:Int)<(l.length:Int))=false/\p0)\/(decide ((k:Int)<(l.length:Int))=true/\p1):=by
 by_cases hlt:k<l.length
 ·exact .inr ⟨zt hlt,h1 _ (jp hlt) hlt⟩
 ·exact .inl ⟨un gt,h0 gt⟩
def zT{p0 p1:Prop}(l:List α)(k:Nat)(h0:k=l.length->p0)(h1:∀x,l[k]?=some x->k<l.length->p1)(h:(k=l.length->p0)->(∀x,l[k]?=some x->k<l.length->p1)->q:=by intro h0 h1;(repeat refine aD.seq ?_);refine aD.r0 ge zl ?_;(try change aD _ _ _ _ _);rcases ZP h0 h1 (by assumption) with⟨e,h⟩ | ⟨e,h⟩;(rw[e];exact h);(rw[e];exact h)):q:=h h0 h1
section
variable {P:Program} {ro:Option Nat} {f:Fm} {n:Nat} {S:List SO} {ds:List jy} {Q:Ex->eU->Prop}
variable{fn:Func}{Qr:SV->Prop}
def zo{v r:SV}(rs:List ResultVar)(hg:ue P fn Qr .ret ⟨f,n,S,[]⟩->Q .ret ⟨f,n,S,[]⟩:=by intro h;(try simp only[gK,eI,cQ,cr]);exact h)(hr:fn.results.toList=rs:=by rfl)(h:qB P f S rs=some [v]:=by exact zl)(hw:Wk S v r:=by exact Wk.refl rfl)(hq:Qr r:=by rfl):aD P ro .ret ⟨f,n,S,[]⟩ Q:=aD.ret (hg (ue.of rfl hr h hw hq))
def ji{v w r:SV}(rs:List ResultVar)(hg:ue P fn Qr .ret ⟨f,n,S,[]⟩->Q .ret ⟨f,n,S,[]⟩:=by intro h;(try simp only[gK,eI,cQ,cr]);exact h)(hr:fn.results.toList=rs:=by rfl)(h:qB P f S rs=some [v,w]:=by exact zl)(hw:Wk S (.bB [v,w]) r:=by exact Wk.refl rfl)(hq:Qr r:=by rfl):aD P ro .ret ⟨f,n,S,[]⟩ Q:=aD.ret (hg (ue.of rfl hr h hw hq))
def QB{β:Type}(l:List α)(I:Nat->β->Prop)(fr:Nat->β->Fm)(T:Nat->β->List SO)(b0:β){id:Nat}{x:Code}(hf:Fg ⟨f,n,S,[]⟩ ⟨fr 0 b0,n,T 0 b0,[]⟩)(h0:I 0 b0)
 (h:∀k b,k<=l.length->I k b->aD P ro x ⟨fr k b,n,T k b,[]⟩ (cQ (λm st=>∃k b,k<=l.length/\m=l.length-k/\I k b/\st=⟨fr k b,n,T k b,[]⟩) (l.length-k) (gK id Q))):aD P ro (.block id (.loop x)) ⟨f,n,S,[]⟩ Q:=
 aD.block (aD.loop (λm st=>∃k b,k<=l.length/\m=l.length-k/\I k b/\st=⟨fr k b,n,T k b,[]⟩) l.length hf ⟨0,b0,bx _,rfl,h0,rfl⟩ (by rintro m st ⟨k,b,_,_,_,rfl⟩;rfl) (by rintro m st ⟨k,b,hk,rfl,hI,rfl⟩;exact h k b hk hI))
def Fv{β:Type}{I:Nat->β->Prop}{fr:Nat->β->Fm}{T:Nat->β->List SO}{st:eU}(hlt:k<l.length)(b:β)(hf:Fg st ⟨fr (k+1) b,n,T (k+1) b,[]⟩)(hI:I (k+1) b):
 cQ (λm st=>∃k b,k<=l.length/\m=l.length-k/\I k b/\st=⟨fr k b,n,T k b,[]⟩) (l.length-k) Q .normal st:=⟨l.length-(k+1),_,by omega,hf,k+1,b,hlt,rfl,hI,rfl⟩
end
section
variable {P:Program} {ro:Option Nat} {all:List Oper} {ms:List Nat} {n:Nat} {b:Bool} {hp:List Nat} {l:List (Nat×Oper)} {f:Fm} {S:List SO} {K:Fm->List SO->Prop} {i:Nat} {o:Oper} {d:Nat} {f0:Fm} {kl:List (Nat×Nat)} {Q:Ex->eU->Prop}
variable{S':List SO}
def kA{f':Fm}{v:SV}(T:List Nat)(hst:eD all n [o]=true:=by rfl)(hdst:o.dst=some d:=by rfl)(hw:cH all f o.guard=some true:=by rfl)(hwr:eO o.op=true:=by rfl)(hms:hp.all (λj=>bW (ms.getD i 0) j)=true:=by kernel_rfl)(hT:((JQ all ms i).all λt=>T.contains t)=true:=by kernel_rfl)
 (hop:dY P f S o.op=some (v,S',some k):=by exact zl) (hf:eg k f=f':=by simp only[gh,bG,an,↓reduceIte,Nat.reduceEqDiff,Nat.reduceAdd,Nat.reduceSub,Nat.reduceMul,Nat.reduceLeDiff,Nat.reduceLT,eg,eC,cx,aW,cG];first | done | rfl) (ht:Yb f0 f k T:=by (simp only[Yb])<;>(repeat' apply And.intro)<;>first | exact True.intro | rfl | (simp only[gh,bG,an,↓reduceIte,Nat.reduceEqDiff,Nat.reduceAdd,Nat.reduceSub,Nat.reduceMul,Nat.reduceLeDiff,Nat.reduceLT,eg,eC,cx,aW,cG];first | done | rfl)) (hkl:Ak ms i v kl:=by first | exact trivial | ((simp only[Ak])<;>(repeat' apply And.intro)<;>first | exact True.intro | exact .inr rfl | (refine .inr ?_;simp only[cG,bG,an,az,m7,m6,↓reduceIte,Nat.reduceEqDiff,Nat.reduceAdd,Nat.reduceMul,Nat.reduceLeDiff,Nat.reduceLT,ah,ar,bD,aW];first | done | rfl) | exact .inl (by kernel_rfl))) (h:AA P ro all ms n f0 ((i,k)::kl) false hp l ((d,v)::f') S' K):AA P ro all ms n f0 kl b hp ((i,o)::l) f S K:=.a T hst hdst hw hwr hms hT hop hf ht hkl h
end
def tN(b:Nat):Nat:=
 bif dr b then 3 else bif ble 48 b&&ble b 57 then 4 else bif beq b 35 then 2 else bif beq b 95 then 5 else bif beq b 34 then 7 else
 bif [32,9,10].any (beq b) then 1 else bif [59,44,46,58,40,41,123,125,91,93,61,60,62,47,43,45,42].any (beq b) then 6 else 0
def K8:List AV:=(co 256).map λb=>AV.int .u8 (ofNat (tN b))
def Rm:K8.length=256:=by simp[K8]
def Rl(b:Nat)(h:b<256):K8[b]?=some (.int .u8 (tN b:Int)):=by
 unfold K8;rw[ax,ei h];rfl
def EC(s:List Nat)(h:cB s=true):∀(i b:Nat),s[i]?=some b->iD b=true:=by
 intro i b hi
 cases s with
 | nil=>simp at hi
 | cons a l=>
  simp only[cB,a0] at h
  cases i with
  | zero=>simp at hi;subst hi;unfold iD;rw[h.1];rfl
  | succ i=>
   rw[bk] at hi;exact all_eq_true.1 h.2.1 b (ci hi)
def I4(s:List Nat)(h:∀(i b:Nat),s[i]?=some b->iD b=true)(b:Nat)(h0:s[0]?=some b):cB s=(decide (s.length<=24)&&dr b):=by
 cases s with
 | nil=>simp at h0
 | cons a l=>
  simp at h0;subst h0
  have:l.all iD=true:=by
   rw[all_eq_true];intro x hx;obtain⟨i,hi⟩:=mem_iff_getElem?.1 hx;exact h (i+1) x (by rw[bk];exact hi)
  simp only[cB,this,d7,i7]
  have e:ble l.length 23=decide (l.length+1<=24):=by
   by_cases hl:l.length<=23
   ·rw[fH hl];simp;omega
   ·have:ble l.length 23=false:=by
     cases hb:ble l.length 23
     ·rfl
     ·exact t7 (j8 hb) hl
    rw[this];simp;omega
  rw[e,Bool.and_comm]
def Dg(n:Int):Bool:=decide (0<=n)&&decide (n<=1000000000000)
def Rn:∀b,b<256->(decide (tN b=3)=dr b)/\((decide (tN b=3)||(decide (tN b=4)||decide (tN b=5)))=iD b):=by decide +kernel
def UM(s:List Nat)(b:Nat)(h0:s[0]?=some b)(h:dr b=false):cB s=false:=by
 cases s with
 | nil=>rfl
 | cons a l=>simp at h0;subst h0;simp only[cB,h,dd]
def Fa{x:α}(h:l[k]?=some x):l.take (k+1)=l.take k++[x]:=by
 rw[List.take_add_one,h];rfl
structure Sh where
 pt:List Nat
 am:Int
 deriving DecidableEq
abbrev OQ(b:Nat):SV:=.a (.int .u8 (b:Int))
def wQ(b:Nat):PC prog 216 [OQ b] (·=au (dr b)):=by
 have e1:decide ((97:Int)<=(b:Int))=ble 97 b:=jX 97 b;have e2:decide ((b:Int)<=122)=ble b 122:=jX b 122;have e3:decide ((65:Int)<=(b:Int))=ble 65 b:=jX 65 b;have e4:decide ((b:Int)<=90)=ble b 90:=jX b 90;refine pB 17 Tryz.func216 ?_;unfold dr;refine(zV) ?_;cases h1:ble 97 b<;>cases h2:ble b 122<;>cases h3:ble 65 b<;>cases h4:ble b 90
 all_goals
  rw[h1] at e1;rw[h2] at e2;rw[h3] at e3;rw[h4] at e4
  exact(aA (jB e1 e2 e3 e4))<|zo [.tmp 2]
def J4(b:Nat):PC prog 235 [OQ b] (·=au (ble 48 b&&ble b 57)):=by
 have e1:decide ((48:Int)<=(b:Int))=ble 48 b:=jX 48 b;have e2:decide ((b:Int)<=57)=ble b 57:=jX b 57;refine pB 9 Tryz.func235 ?_;refine(zV) ?_;cases h1:ble 48 b<;>cases h2:ble b 57
 all_goals
  rw[h1] at e1;rw[h2] at e2
  exact(aA (br e1 e2))<|zo [.tmp 2]
def M3(b:Nat):PC prog 215 [OQ b] (·=au (iD b)):=by
 have e1:decide ((b:Int)=95)=beq b 95:=Un b 95;refine pB 13 Tryz.func215 ?_;unfold iD
 refine(lJ)<|(zK (wQ b)) ?_
 cases h1:dr b;rotate_left
 ·exact(zR)<|zo [.tmp 2]
 refine(zQ)<|(zK (J4 b)) ?_
 cases h2:(ble 48 b&&ble b 57);rotate_left
 ·exact(zR)<|zo [.tmp 2]
 exact(cO e1)<|zo [.tmp 2]
def lA(s:List Nat)(hs:s.length<=1000000):PC prog 168 [ab s] (·=au (cB s)):=by
 refine pB 28 Tryz.func168 ?_;refine(nP)<|(zs) ?_;refine zL s (λk=>(∀(i b:Nat),i<k->s[i]?=some b->iD b=true)) (λk=>[(0,ab s),(3,aa k)]) (λk=>[]) zH (by intro i b h;omega) ?_;intro k hk hall
 by_cases hlt:k<s.length;rotate_left
 ·obtain rfl:k=s.length:=by omega
  refine(aA (show decide ((s.length:Int)<(s.length:Int))=false by simp))<|(fC) ?_
  cases hs0:s with
  | nil=>
   exact(aA @g9.{0})<|zo [.tmp 2]
  | cons b l=>
   have h0:s[0]?=some b:=by rw[hs0];rfl
   have hn:=I4 s (λi b' hb'=>hall i b' (pp hb').1 hb') b h0;rw[hs0] at hn
   have c2:decide ((0:Int)<((b::l).length:Int))=true:=by simp
   have h0':(b::l)[0]?=some b:=rfl;cases c3:decide (((b::l).length:Int)<=24)
   ·have e24:decide ((b::l).length<=24)=false:=by have:=wt c3;simp only[wd];omega
    exact(aA (br c2 c3))<|zo [.tmp 2] (hq:=by rw[hn,e24];rfl)
   ·have e24:decide ((b::l).length<=24)=true:=by have:=ww c3;simp only[wp];omega
    exact(jH (cA c2 c3 h0'))<|(zK (wQ b))<|(zR)<|zo [.tmp 2] (hq:=by rw[hn,e24];rfl)
 obtain⟨b,hb⟩:∃b,s[k]?=some b:=⟨s[k],jp hlt⟩
 refine(aA (show decide ((k:Int)<(s.length:Int))=true by simp only[wp];omega))<|(gJ)<|(jH hb)<|(zK (M3 b)) ?_
 cases hm:iD b
 ·have hn:cB s=false:=by
   cases hc:cB s
   ·rfl
   ·rw[EC s hc k b hb] at hm;cases hm
  exact(zR)<|(cN)<|zo [.tmp 2] (hq:=by rw[hn])
 ·refine(zR)<|(zN) ?_
  refine(aA (zi hlt hs)) ?_;refine zX hlt zH (λi b' hi hb'=>by
   by_cases e:i=k
   ·subst e;rw[hb] at hb';cases hb';exact hm
   ·exact hall i b' gt hb')
def Qn(s:List Nat)(b:Nat)(hb:b<256):PC prog 214 [ab s,OQ b] (·=aa (gP b s 0)):=
 PC.of (xs:=[.str s,.int .u8 (b:Int)]) (λh=>dK.XN KB (by
  show cond (blt b 256) (some (AV.int .i64 (gP b s 0),h)) none=_
  rw[show blt b 256=true from OM hb];rfl)) λρ avs ha=>by
  rw[e7] at ha;obtain⟨a,r,rfl,h1,ha⟩:=ha;rw[e7] at ha;obtain⟨a2,r,rfl,h2,ha⟩:=ha;rw[GS] at h1 h2;rw[iB] at ha;rw[h1,h2,ha]
def Qm(s:List Nat)(b:Nat)(hb:b<256):PC prog 167 [ab s,OQ b] (·=aa (gP b s 0)):=by
 refine pB 8 Tryz.func167 ?_;exact(lJ)<|(zK (Qn s b hb))<|(zR)<|zo [.tmp 4]
def Fi(s:List Nat)(b:Nat)(hb:b<256):PC prog 114 [ab s,OQ b] (·=aa (gP b s 0)):=by
 refine pB 8 Tryz.func114 ?_;exact(lJ)<|(zK (Qm s b hb))<|(zR)<|zo [.tmp 4]
def Bk(b:Nat):Nat:=bif dr b then 3 else bif ble 48 b&&ble b 57 then 4 else bif decide (0<=gP b [32,9,10] 0) then 1 else bif decide (0<=gP b [59,44,46,58,40,41,123,125,91,93,61,60,62,47,43,45,42] 0) then 6 else 0
def mI(k:Nat):List SV:=(co 256).map λi=>OQ (if i<k then Bk i else 0)
def Nd:List SV:=(co 256).map λ_=>OQ 0
def wu(k:Nat):(mI k).length=256:=by simp[mI]
def WV(hk:k<256):(mI k).take k++(OQ (Bk k)::(mI k).drop (k+1))=mI (k+1):=by
 have h:(mI k).set k (OQ (Bk k))=mI (k+1):=by
  apply em;intro i;by_cases hik:k=i
  ·subst hik;rw[cc (by rw[wu];exact hk)];unfold mI;rw[ax,ei hk];simp
  ·rw[ch hik];unfold mI;rw[ax,ax]
   cases hr:(co 256)[i]? with
   | none=>rfl
   | some j=>
    have hj:j=i:=by
     obtain⟨h1,h2⟩:=pp hr;simpa using h2.symm
    subst hj;simp only[m6];by_cases h:j<k
    ·rw[t8 h,t8 gt]
    ·rw[ul h,ul gt]
 rw[<-h,cj,t8 (by rw[wu];exact hk)]
def WU(hk:k<256)(h:Bk k=0):mI (k+1)=mI k:=by
 unfold mI;refine List.map_congr_left λi _=>?_;by_cases hik:i<k
 ·rw[t8 hik,t8 gt]
 ·rw[ul hik];by_cases he:i=k
  ·subst he;rw[t8 gt,h]
  ·rw[ul gt]
def Uj(hk:k<256):mu prog 3 5 (.int .i64 (k:Int))=some (.int .u8 (k:Int)):=by
 have h1:mu prog 3 5 (.int .i64 (k:Int))=some (.int .u8 (dJ .u8 (k:Int))):=by kernel_rfl
 rw[h1]
 congr 2
 have h2:(qK 0 (k:Int)&&qK (k:Int) 255)=true:=by rw[ff,ff];simp;omega
 simp only[dJ,KR,KP,h2,ah]
def Dv:PC prog 56 [] (·=.ag (K8.map SV.a)):=by
 refine pB 50 Tryz.func56 ?_;refine(nP)<|(zV) ?_
 have hl:(co 256).length=256:=List.length_range
 have hlen:(co 256).length<=1000000:=by rw[hl];decide
 refine zA [(0,.ptr 0 0),(1,.ptr 1 0),(4,aa 0)] [.cells Nd,.cells (mI 0)] (by exact zH)<|(zs) ?_;refine zL (co 256) (λk=>True) (λk=>[(0,.ptr 0 0),(1,.ptr 1 0),(4,aa k)]) (λk=>[.cells Nd,.cells (mI k)]) zH zp ?_;intro k hk hall
 by_cases hlt:k<(co 256).length
 ·have hk6:k<256:=by rw[<-hl];exact hlt
  have hk7:k+1<=256:=hk6;have e1:decide ((97:Int)<=(k:Int))=ble 97 k:=jX 97 k;have e2:decide ((k:Int)<=122)=ble k 122:=jX k 122;have e3:decide ((65:Int)<=(k:Int))=ble 65 k:=jX 65 k;have e4:decide ((k:Int)<=90)=ble k 90:=jX k 90;have e5:decide ((48:Int)<=(k:Int))=ble 48 k:=jX 48 k;have e6:decide ((k:Int)<=57)=ble k 57:=jX k 57;have hset:=WV hk6;have hrl:=wu k
  refine(aA (show decide ((k:Int)<256)=true by simp only[wp];omega))<|(gJ)<|(zV)<|(aA (Uj hk6))<|(zB) ?_;refine aD.seq ?_;refine aD.mono (Q:=λex st=>ex=.normal/\Fg st ⟨[(0,.ptr 0 0),(1,.ptr 1 0),(2,aa k),(3,OQ k),(4,aa k),(9,au (dr k))],50,[.cells Nd,.cells (mI k)],[]⟩) ?_ ?_
  ·unfold dr;cases h1:ble 97 k<;>cases h2:ble k 122<;>cases h3:ble 65 k<;>cases h4:ble k 90
   all_goals
    rw[h1] at e1;rw[h2] at e2;rw[h3] at e3;rw[h4] at e4;refine(aA (br e1 e2)) ?_
    first
     | (
      refine(zN) ?_
      refine(aA (br e3 e4)) ?_;exact⟨rfl,zH⟩)
     | (
      refine(zY) ?_
      exact⟨rfl,zH⟩)
  rintro ex st ⟨rfl,hf⟩;refine aD.fg hf ?_;clear hf
  (try change aD _ _ _ _ _)
  cases hL:dr k;rotate_left
  ·have hc:Bk k=3:=by unfold Bk;rw[hL];rfl
   rw[hc] at hset;change (mI k).take k++(SV.a (.int .u8 3)::(mI k).drop (k+1))=_ at hset
   refine(zY)<|(aA (ik hk6 hk7 hrl @dk hset))<|(aA (zi hlt hlen)) ?_;refine zX hlt zH trivial
  have c0:Bk k=bif ble 48 k&&ble k 57 then 4 else bif decide (0<=gP k [32,9,10] 0) then 1 else bif decide (0<=gP k [59,44,46,58,40,41,123,125,91,93,61,60,62,47,43,45,42] 0) then 6 else 0:=by unfold Bk;rw[hL];rfl
  clear hL e1 e2 e3 e4;refine(zN) ?_
  (repeat refine aD.seq ?_)
  refine aD.mono (Q:=λex st=>ex=.normal/\Fg st ⟨[(0,.ptr 0 0),(1,.ptr 1 0),(2,aa k),(3,OQ k),(4,aa k),(24,au (ble 48 k&&ble k 57))],50,[.cells Nd,.cells (mI k)],[]⟩) ?_ ?_
  ·cases h5:ble 48 k<;>cases h6:ble k 57
   all_goals
    rw[h5] at e5;rw[h6] at e6;refine(aA (br e5 e6)) ?_;exact⟨rfl,zH⟩
  rintro ex st ⟨rfl,hf⟩;refine aD.fg hf ?_;clear hf e5 e6
  (try change aD _ _ _ _ _)
  cases hD:ble 48 k&&ble k 57;rotate_left
  ·rw[hD] at c0;rw[show Bk k=4 from c0] at hset;change (mI k).take k++(SV.a (.int .u8 4)::(mI k).drop (k+1))=_ at hset
   refine(zY)<|(aA (ik hk6 hk7 hrl @dk hset))<|(aA (zi hlt hlen)) ?_;refine zX hlt zH trivial
  rw[hD] at c0
  refine(Vy)<|(zK (Fi [32,9,10] k hk6))<|(zR) ?_
  cases hB:decide (0<=gP k [32,9,10] 0);rotate_left
  ·rw[hB] at c0;rw[show Bk k=1 from c0] at hset;change (mI k).take k++(SV.a (.int .u8 1)::(mI k).drop (k+1))=_ at hset
   refine(zY)<|(aA (ik hk6 hk7 hrl @dk hset))<|(aA (zi hlt hlen)) ?_;refine zX hlt zH trivial
  rw[hB] at c0
  refine(Vy)<|(zK (Fi [59,44,46,58,40,41,123,125,91,93,61,60,62,47,43,45,42] k hk6))<|(zR) ?_
  cases hS:decide (0<=gP k [59,44,46,58,40,41,123,125,91,93,61,60,62,47,43,45,42] 0);rotate_left
  ·rw[hS] at c0;rw[show Bk k=6 from c0] at hset;change (mI k).take k++(SV.a (.int .u8 6)::(mI k).drop (k+1))=_ at hset
   refine(zY)<|(aA (ik hk6 hk7 hrl @dk hset))<|(aA (zi hlt hlen)) ?_;refine zX hlt zH trivial
  rw[hS] at c0;have hs0:=WU hk6 c0;refine(zN) ?_
  (try (refine aD.skip ?_))
  refine(aA (zi hlt hlen)) ?_;refine zX hlt (bK hs0) trivial
 ·obtain rfl:k=256:=by omega
  refine(aA (show decide (((256:Nat):Int)<256)=false from rfl))<|(fC) ?_
  have set_at:∀{l:List SV} {i:Nat} (v:SV),i<l.length->l.take i++(v::l.drop (i+1))=l.set i v:=λv h=>by rw[cj,t8 h]
  have hfin:(((mI 256).set 35 (.a (.int .u8 2))).set 95 (.a (.int .u8 5))).set 34 (.a (.int .u8 7))=K8.map SV.a:=by kernel_rfl
  have l0:=wu 256
  have hz0:Nd.length=256:=by simp[Nd]
  generalize mI 256=R at hfin l0 ⊢;have s1:=set_at (l:=R) (i:=35) (.a (.int .u8 2)) gt
  have l1:(R.set 35 (.a (.int .u8 2))).length=256:=by rw[dv];exact l0
  generalize R.set 35 (.a (.int .u8 2))=R1 at hfin s1 l1;have s2:=set_at (l:=R1) (i:=95) (.a (.int .u8 5)) gt
  have l2:(R1.set 95 (.a (.int .u8 5))).length=256:=by rw[dv];exact l1
  generalize R1.set 95 (.a (.int .u8 5))=R2 at hfin s2 l2;have s3:=set_at (l:=R2) (i:=34) (.a (.int .u8 7)) gt
  have l3:(R2.set 34 (.a (.int .u8 7))).length=256:=by rw[dv];exact l2
  generalize R2.set 34 (.a (.int .u8 7))=R3 at hfin s3 l3;have t3:R3.take 256=R3:=d5 gt;have d0:Nd.drop 256=[]:=d4 gt;refine(aA (O0 (show dx (.int .i64 35)=some 35 from rfl) (show dx (.int .i64 95)=some 95 from rfl) (show dx (.int .i64 34)=some 34 from rfl) l0 l1 l2 @dk s1 s2 s3)) ?_
  have ho:R3.all fw=true:=by rw[hfin];kernel_rfl
  refine(aA (DX l3 t3 ho hz0 d0 @List.append_nil.{0} @List.take_zero.{0} @List.nil_append.{0} @ay)) ?_;subst hfin;exact zo [.cell 0 134] (h:=fF (br l3 t3))
def drop_cons{x:α}(h:l[k]?=some x):l.drop k=x::l.drop (k+1):=by
 obtain⟨hlt,he⟩:=pp h;rw[cf hlt,he]
def pR(s:List Nat)(hs:s.length<=1000000)(hb:∀b∈s,b<256):PC prog 25 [ab s] (·=au (cB s)):=by
 refine pB 39 Tryz.func25 ?_;have hcl:=Dv;obtain⟨C,hC⟩:∃C,C=K8.map SV.a:=⟨_,rfl⟩
 have ho:C.all fw=true:=by rw[hC];kernel_rfl
 have hl:C.length=256:=by rw[hC,bv,Rm]
 have hg:cg C=true:=by rw[hC];kernel_rfl
 have hfl:yG (.ag C)=true:=by rw[hC];kernel_rfl
 have hCg:∀b,b<256->C[b]?=some (OQ (tN b)):=λb h=>by rw[hC,ax,Rl b h];rfl
 rw[<-hC] at hcl;clear hC;have ht:C.take 256=C:=d5 gt;have hnk:=λo:Nat=>dX (o:=o) hg;have hkk:=λo:Nat=>bL (o:=o) hg
 refine(lJ)<|(zK hcl (hfl:=.inl hfl)) ?_;refine aJ.r0 ge (by simp only[cG,bG,an,az,m7,m6,↓reduceIte,ac,aj,al,ad,ap,ah,ar,bD,hl,ho,ht,hkk,hnk,bv,List.length_replicate,d4,List.append_nil,ay];first | done | rfl) ?_;refine zZ [(0,ab s),(3,.ip C)] 0 rfl ⟨.inl rfl,.inr (.ptr rfl (cS.refl hg) (bx _)),trivial⟩<|zA [(0,ab s),(3,.ip C)] [] zH<|(zV)<|(zs) ?_;refine zL s (λk=>((∀(i b:Nat),i<k->s[i]?=some b->iD b=true)/\(0<k->∀b,s[0]?=some b->dr b=true))) (λk=>[(0,ab s),(3,.ip C),(8,aa s.length),(9,aa k)]) (λk=>[]) zH (by exact⟨λi b h=>t7 h (bo _),λh=>t7 h (bo _)⟩) ?_;intro k hk hall;refine zT s k ?_ ?_;rintro rfl;rotate_left;intro b hx hlt;rotate_left
 ·refine(fC) ?_
  cases hs0:s with
  | nil=>
   exact(aA (show decide (([]:List Nat)=[])=true from rfl))<|zo [.tmp 2]
  | cons b l=>
   have h0:s[0]?=some b:=by rw[hs0];rfl
   have hlt0:0<s.length:=by rw[hs0];exact Nat.zero_lt_succ _
   have hn:=I4 s (λi b' hb'=>hall.1 i b' (pp hb').1 hb') b h0;rw[hall.2 hlt0 b h0,d6,hs0] at hn;have c2:decide ((b::l)=[])=false:=rfl;cases c3:decide (((b::l).length:Int)<=24)
   ·have e24:decide ((b::l).length<=24)=false:=by have:=wt c3;simp only[wd];omega
    exact(aA (br c2 c3))<|zo [.tmp 2] (hq:=by rw[hn,e24])
   ·have e24:decide ((b::l).length<=24)=true:=by have:=ww c3;simp only[wp];omega
    exact(aA (br c2 c3))<|zo [.tmp 2] (hq:=by rw[hn,e24])
 have hb6:=hb b (ci hx);obtain⟨sp1,sp2⟩:=Rn b hb6;have hdr:=drop_cons (hCg b hb6)
 have hbl:b<=C.length:=by omega
 have q3:decide ((tN b:Int)=3)=dr b:=by rw[<-sp1];simp only[decide_eq_decide];omega
 have q4:decide ((tN b:Int)=4)=decide (tN b=4):=by simp only[decide_eq_decide];omega
 have q5:decide ((tN b:Int)=5)=decide (tN b=5):=by simp only[decide_eq_decide];omega
 rw[sp1] at sp2
 refine(gJ)<|(zV)<|(aA (sa hx (show dx (.int .u8 (ofNat b))=some b from rfl) @dk hb6 hbl hdr))<|zA [(0,ab s),(3,.ip C),(4,aa k),(5,.a (.int .u8 (tN b:Int))),(8,aa s.length),(9,aa k)] [] zH ?_
 generalize (tN b:Int)=cb at q3 q4 q5 ⊢;generalize decide (tN b=4)=c4 at sp2 q4;generalize decide (tN b=5)=c5 at sp2 q5
 have m3:cW prog .neq 5 (.int .u8 cb) (.int .u8 3)=some (.bool (!dr b)):=by rw[<-q3];exact vc rfl
 have m4:cW prog .neq 5 (.int .u8 cb) (.int .u8 4)=some (.bool (!c4)):=by rw[<-q4];exact vc rfl
 have m5:cW prog .neq 5 (.int .u8 cb) (.int .u8 5)=some (.bool (!c5)):=by rw[<-q5];exact vc rfl
 clear q3 q4 q5
 have hmore:iD b=true->∀(i b':Nat),i<k+1->s[i]?=some b'->iD b'=true:=λhm i b' hi hb'=>by
  by_cases e:i=k
  ·subst e;rw[hx] at hb';cases hb';exact hm
  ·exact hall.1 i b' gt hb'
 have hfirst:(k=0->dr b=true)->0<k+1->∀b',s[0]?=some b'->dr b'=true:=λh _ b' hb'=>by
  by_cases hk0:k=0
  ·subst hk0;rw[hx] at hb';cases hb';exact h rfl
  ·exact hall.2 gt b' hb'
 cases hL:dr b;rotate_left
 ·rw[hL] at m3 sp2
  refine(aA m3)<|(zN)<|(aA (zi hlt hs)) ?_;refine zX hlt zH (⟨hmore sp2.symm,hfirst λ_=>hL⟩)
 rw[hL] at m3 sp2;by_cases hk0:k=0
 ·have hn:cB s=false:=UM s b (by rw[<-hk0];exact hx) hL
  exact(aA (br m3 (show decide ((k:Int)=0)=true by simp only[wp];omega)))<|(cN)<|zo [.tmp 2] (hq:=by rw[hn])
 have k0:=show decide ((k:Int)=0)=false by simp only[wd];omega
 have hbad:iD b=false->cB s=false:=λhm=>by
  cases hc:cB s
  ·rfl
  ·rw[EC s hc k b hx] at hm;cases hm
 cases c4
 ·cases c5
  ·have hn:=hbad sp2.symm
   exact(aA (jB m3 m4 m5 k0))<|(cN)<|zo [.tmp 2] (hq:=by rw[hn])
  ·refine(aA (jB m3 m4 m5 k0))<|(zN)<|(aA (zi hlt hs)) ?_;refine zX hlt zH (⟨hmore sp2.symm,hfirst λh=>t7 h hk0⟩)
 ·refine(aA (cA m3 m4 k0))<|(zN)<|(aA (zi hlt hs)) ?_;refine zX hlt zH (⟨hmore sp2.symm,hfirst λh=>t7 h hk0⟩)
structure mZ where
 name:List Nat
 kinds:List (List Nat)
 normal:Int
structure aF where
 name:List Nat
 gY:Bool
 bZ:List mZ
def bQ(s:mZ):List SV:=[ab s.name,an 1 s.kinds (aw ab),aa s.normal]
def ao(k:aF):List SV:=[ab k.name,au k.gY,an 3 k.bZ bQ]
def Br (h:p:=by
  refine pB 19 vaa ?_;refine(aA @an.eq_1)<|(zV)<|(zs) ?_;refine zL l (λk=>∀(i:Nat) y,i<k->l[i]?=some y->p y=false) (λk=>[(0,.sl l.length vab (l.flatMap vac)),(1,.fn fid first cap),(7,aa l.length),(8,aa k)]) (λk=>[]) zH zp ?_;intro k hk hall;refine zT l k ?_ ?_;rintro rfl;rotate_left;intro x hx hlt;rotate_left
  ·exact(fC)<|(zV)<|zo [.tmp 4] (hq:=by rw[xR hall])
  ·refine(gJ)<|(zV)<|(jH (cA hlt (aH (e:=vab) (enc:=vac) ce hx) @vad))<|(zK (hp x (List.mem_iff_getElem?.2 ⟨k,hx⟩)) (hwk:=((cS.refl hg.1).app zr).app (cS.refl hg.2))) ?_;refine aJ.nil ?_
   change aD _ _ _ _ _;cases hpx:p x
   ·refine(zN)<|(aA (zi hlt hlen)) ?_;refine zX hlt zH ?_
    intro i y hi hy;by_cases hik:i=k
    ·subst hik;rw[hx] at hy;cases hy;exact hpx
    ·exact hall i y (by ((try simp only[vab] at *)<;>omega)) hy
   ·exact(cN)<|zo [.tmp 4] (hq:=by rw[FY hx hpx hall])):p:=h
variable{fid:FuncId}{first:List SV}{cap:List SV}
open Go.Proofs.Tryz renaming func185 -> vaa in
open Go.Ev renaming Sn -> vab in
open Go.Proofs renaming ao -> vac in
def Hi{l:List (aF)}(p:aF->Bool)(hlen:l.length<=1000000)(hp:∀x∈l,PC prog fid ((first++[.ag (ao x)])++cap) (·=au (p x)))(hg:cg first=true/\cg cap=true):PC prog 185 [an 3 l ao,.fn fid first cap] (·=aa (kg p l)):=by
 have vad:=@ao.eq_1;exact Br
open Go.Proofs.Tryz renaming func221 -> vaa in
open Go.Ev renaming Sn -> vab in
open Go.Proofs renaming bQ -> vac in
def Hk{l:List (mZ)}(p:mZ->Bool)(hlen:l.length<=1000000)(hp:∀x∈l,PC prog fid ((first++[.ag (bQ x)])++cap) (·=au (p x)))(hg:cg first=true/\cg cap=true):PC prog 221 [an 3 l bQ,.fn fid first cap] (·=aa (kg p l)):=by
 have vad:=@bQ.eq_1;exact Br
def Kf{l:List (List Nat)}(p:List Nat->Bool)(hlen:l.length<=1000000)(hp:∀x∈l,PC prog fid ((first++[ab x])++cap) (·=au (p x)))(hg:cg first=true/\cg cap=true):PC prog 140 [an 1 l (aw ab),.fn fid first cap] (·=aa (kg p l)):=by
 refine pB 19 Tryz.func140 ?_;refine(aA @an.eq_1)<|(zV)<|(zs) ?_;refine zL l (λk=>∀(i:Nat) y,i<k->l[i]?=some y->p y=false) (λk=>[(0,.sl l.length 1 (l.flatMap (aw ab))),(1,.fn fid first cap),(7,aa l.length),(8,aa k)]) (λk=>[]) zH zp ?_;intro k hk hall;refine zT l k ?_ ?_;rintro rfl;rotate_left;intro x hx hlt;rotate_left
 ·exact(fC)<|(zV)<|zo [.tmp 4] (hq:=by rw[xR hall])
 ·refine(gJ)<|(zV)<|(jH (cA hlt (aH (e:=1) (enc:=(aw ab)) ce hx) @aw.eq_1))<|(zK (hp x (mem_iff_getElem?.2 ⟨k,hx⟩)) (hwk:=((cS.refl hg.1).app zr).app (cS.refl hg.2))) ?_;refine aJ.nil ?_
  change aD _ _ _ _ _;cases hpx:p x
  ·refine(zN)<|(aA (zi hlt hlen)) ?_;refine zX hlt zH ?_
   intro i y hi hy;by_cases hik:i=k
   ·subst hik;rw[hx] at hy;cases hy;exact hpx
   ·exact hall i y gt hy
  ·exact(cN)<|zo [.tmp 4] (hq:=by rw[FY hx hpx hall])
def DH(s:List Nat):PC prog 130 [.ag [ab s,.any,.any]] (·=ab s):=by
 refine pB 5 Tryz.func130 ?_;exact(nP)<|zo [.tmp 2]
def DJ(s:List Nat):PC prog 188 [.ag [ab s,.any,.any]] (·=ab s):=by
 refine pB 5 Tryz.func188 ?_;exact(nP)<|zo [.tmp 2]
def Ki(k:aF)(s:List Nat):PC prog 186 [.ag (ao k),.ip [.fn 130 [] []],.ip [ab s]] (·=au (decide (k.name=s))):=by
 refine pB 10 Tryz.func186 ?_;refine(aA @ao.eq_1)<|(zs) ?_;refine uW [0,0,3,0,15,31] ?_;refine(zD) ?_;refine SD.k ge rfl rfl ge rfl rfl zc (DH k.name) (.cons (.ag (.cons (.a _) (.cons (.any _) (.cons (.any _) .nil)))) .nil) rfl ?_;exact(zD)<|(zM)<|zo [.tmp 4]
def Ks(k:mZ)(s:List Nat):PC prog 222 [.ag (bQ k),.ip [.fn 188 [] []],.ip [ab s]] (·=au (decide (k.name=s))):=by
 refine pB 10 Tryz.func222 ?_;refine(aA @bQ.eq_1)<|(zs) ?_;refine uW [0,0,3,0,15,31] ?_;refine(zD) ?_;refine SD.k ge rfl rfl ge rfl rfl zc (DJ k.name) (.cons (.ag (.cons (.a _) (.cons (.any _) (.cons (.any _) .nil)))) .nil) rfl ?_;exact(zD)<|(zM)<|zo [.tmp 4]
def Hl(l:List aF)(s:List Nat)(hlen:l.length<=1000000):PC prog 129 [an 3 l ao,.fn 130 [] [],ab s] (·=aa (kg (λk=>decide (k.name=s)) l)):=by
 refine pB 10 Tryz.func129 ?_;exact(lJ)<|(zK (Hi (λk=>decide (k.name=s)) (first:=[]) (cap:=[.ip [.fn 130 [] []],.ip [ab s]]) hlen (λx _=>Ki x s) ⟨rfl,rfl⟩))<|(zR)<|zo [.tmp 6]
def HB(l:List mZ)(s:List Nat)(hlen:l.length<=1000000):PC prog 187 [an 3 l bQ,.fn 188 [] [],ab s] (·=aa (kg (λk=>decide (k.name=s)) l)):=by
 refine pB 10 Tryz.func187 ?_;exact(lJ)<|(zK (Hk (λk=>decide (k.name=s)) (first:=[]) (cap:=[.ip [.fn 188 [] []],.ip [ab s]]) hlen (λx _=>Ks x s) ⟨rfl,rfl⟩))<|(zR)<|zo [.tmp 6]
def vD(p:α->Bool)(l:List α):(kg p l = -1/\l.find? p=none)\/∃(k:Nat) (x:α),kg p l=(k:Int)/\k<l.length/\l[k]?=some x/\l.find? p=some x:=by
 unfold kg
 cases hf:l.findIdx? p with
 | none=>
  rw[List.findIdx?_eq_none_iff] at hf;exact .inl ⟨rfl,by rw[dN];intro x hx;rw[hf x hx];decide⟩
 | some k=>
  obtain⟨hlt,h1,h2⟩:=List.findIdx?_eq_some_iff_getElem.1 hf;refine .inr ⟨k,l[k],rfl,hlt,jp hlt,?_⟩;rw[List.find?_eq_some_iff_getElem];exact⟨h1,k,hlt,rfl,λj hj=>by simpa using h2 j hj⟩
def aF.zero:aF:=⟨[],false,[]⟩
def mZ.zero:mZ:=⟨[],[],0⟩
def fc(l:List aF)(s:List Nat):Option aF:=l.find? λk=>decide (k.name=s)
def ur(l:List mZ)(s:List Nat):Option mZ:=l.find? λk=>decide (k.name=s)
def qy(enc:α->List SV)(z:α):Option α->SV
 | some x=>.bB [.ag (enc x),au true]
 | none=>.bB [.ag (enc z),au false]
def oB(l:List aF)(s:List Nat)(hlen:l.length<=1000000):PC prog 83 [.ag [an 3 l ao],ab s] (·=qy ao aF.zero (fc l s)):=by
 refine pB 19 Tryz.func83 ?_;refine(lJ)<|(zK (Hl l s hlen))<|(zR) ?_
 rcases vD (λk:aF=>decide (k.name=s)) l with⟨h1,h2⟩ | ⟨k,x,h1,hlt,hx,h2⟩
 ·rw[h1]
  refine(Ab)<|(zV)<|(zE) ?_;exact ue.of (rs:=[.cell 4 52,.tmp 5]) (r:=.bB [.ag [ab [],au false,.sl 0 3 []],au false]) rfl rfl zl zv (by (try simp only[dA,aY]);first | done | (unfold fc;rw[h2];rfl))
 ·rw[h1]
  exact(aA (show decide ((k:Int)<0)=false by simp))<|(zN)<|(aA (cA hlt (aH (e:=3) (enc:=ao) ce hx) @ao.eq_1))<|ji [.cell 4 52,.tmp 5] (hq:=by unfold fc;rw[h2];rfl)
def MU(l:List aF)(kind name:List Nat)(hlen:l.length<=1000000)(hs:∀k∈l,k.bZ.length<=1000000):PC prog 132 [.ag [an 3 l ao],ab kind,ab name] (·=qy bQ mZ.zero ((fc l kind).bind λk=>ur k.bZ name)):=by
 refine pB 29 Tryz.func132 ?_
 obtain⟨q,b,h1,h2,h3⟩:∃(q:aF) (b:Bool),qy ao aF.zero (fc l kind)=.bB [.ag (ao q),au b]/\q.bZ.length<=1000000/\((fc l kind).bind λk=>ur k.bZ name)=ur q.bZ name:=by
  cases hf:fc l kind with
  | none=>exact⟨aF.zero,false,rfl,bx _,rfl⟩
  | some q=>exact⟨q,true,rfl,hs q (be hf),rfl⟩
 rw[h3];have hF:=oB l kind hlen;rw[h1] at hF
 refine(lJ)<|(zK hF (hfl:=.inr zr))<|(cO @ao.eq_1)<|(zC)<|(zK (HB q.bZ name h2))<|(zR) ?_
 rcases vD (λk:mZ=>decide (k.name=name)) q.bZ with⟨g1,g2⟩ | ⟨k,x,g1,hlt,hx,g2⟩
 ·rw[g1]
  refine(Ab)<|(zV)<|(zE) ?_;exact ue.of (rs:=[.cell 6 138,.tmp 7]) (r:=.bB [.ag [ab [],.sl 0 1 [],aa 0],au false]) rfl rfl zl zv (by (try simp only[dA,aY]);first | done | (unfold ur;rw[g2];rfl))
 ·rw[g1]
  exact(aA (show decide ((k:Int)<0)=false by simp))<|(zN)<|(aA (cA hlt (aH (e:=3) (enc:=bQ) ce hx) @bQ.eq_1))<|ji [.cell 6 138,.tmp 7] (hq:=by unfold ur;rw[g2];rfl)
def DC(l:List (List Nat))(s:List Nat)(hlen:l.length<=1000000):PC prog 93 [an 1 l (aw ab),ab s] (·=aa (kg (λx=>decide (s=x)) l)):=by
 refine pB 19 Tryz.func93 ?_;refine(nP)<|(zs) ?_;refine zL l (λk=>∀(i:Nat) y,i<k->l[i]?=some y->decide (s=y)=false) (λk=>[(0,.sl l.length 1 (l.flatMap (aw ab))),(1,ab s),(7,aa l.length),(8,aa k)]) (λk=>[]) zH zp ?_;intro k hk hall;refine zT l k ?_ ?_;rintro rfl;rotate_left;intro x hx hlt;rotate_left
 ·exact(fC)<|(zV)<|zo [.tmp 4] (hq:=by rw[xR hall])
 ·refine(gJ)<|(zV)<|(aA (cA hlt (aH (e:=1) (enc:=aw ab) ce hx) @aw.eq_1)) ?_
  cases hpx:decide (s=x)
  ·refine(zN)<|(aA (zi hlt hlen)) ?_;refine zX hlt zH ?_
   intro i y hi hy;by_cases hik:i=k
   ·subst hik;rw[hx] at hy;cases hy;exact hpx
   ·exact hall i y gt hy
  ·exact(cN)<|zo [.tmp 4] (hq:=by rw[FY hx hpx hall])
def FZ{l:List (List Nat)}{s:List Nat}:decide (0<=kg (λx=>decide (s=x)) l)=l.contains s:=by
 rcases vD (λx=>decide (s=x)) l with⟨g1,g2⟩ | ⟨k,x,g1,hlt,hx,g2⟩
 ·rw[g1];rw[dN] at g2
  have:s∉l:=λhm=>by simpa using g2 s hm
  simp[this]
 ·rw[g1];have h:=eF g2;have hm:=be g2;simp only[wp] at h;subst h;simp[hm]
def l7(l:List (List Nat))(s:List Nat)(hlen:l.length<=1000000):PC prog 44 [an 1 l (aw ab),ab s] (·=au (l.contains s)):=by
 refine pB 9 Tryz.func44 ?_;exact(lJ)<|(zK (DC l s hlen))<|(zR)<|zo [.tmp 4] (hq:=by rw[FZ])
def mW(l:List aF)(kind name other:List Nat):Bool:=match (fc l kind).bind λk=>ur k.bZ name with
 | some s=>s.kinds.contains other
 | none=>false
def z8(l:List aF)(kind name other:List Nat)(hlen:l.length<=1000000)(hs:∀k∈l,k.bZ.length<=1000000/\∀s∈k.bZ,s.kinds.length<=1000000):PC prog 86 [.ag [an 3 l ao],ab kind,ab name,ab other] (·=au (mW l kind name other)):=by
 refine pB 25 Tryz.func86 ?_;have hF:=MU l kind name hlen λk hk=>(hs k hk).1;refine(lJ) ?_;unfold Proofs.mW
 cases hf:(fc l kind).bind λk=>ur k.bZ name with
 | none=>
  rw[hf] at hF
  exact(zK hF (hfl:=.inr zr))<|(cO (cA @qy.eq_1 @bQ.eq_1 @mZ.zero.eq_1))<|(zV)<|zo [.tmp 8]
 | some q=>
  have hq:q.kinds.length<=1000000:=by
   obtain⟨k,hk,h2⟩:=t6 hf;exact(hs k (be hk)).2 q (be h2)
  rw[hf] at hF
  exact(zK hF (hfl:=.inr zr))<|(cO (br @qy.eq_1 @bQ.eq_1))<|(zC)<|(zK (l7 q.kinds other hq))<|(zR)<|zo [.tmp 8]
def kr(s:List Nat):Prop:=s.length<=1000000/\∀b∈s,b<256
def gi(s:List Nat)(h:kr s):PC prog 25 [ab s] (·=au (cB s)):=pR s h.1 h.2
def gq:Keys prog 9 AV.str:=RY zW
variable{S:List SO}{o:Nat}
def jf{l:List (List Nat×Bool)}(s:List Nat)(ok:Bool)(hS:S[o]?=some (bu AV.str au l)):eJ prog S 153 (.map o) (.a (.str s)) ok=some (cond ok (.bB [au (getM false s l),au (cz s l)]) (au (getM false s l))):=
 Eu (uv:=au) (u0:=false) (k:=s) (kt:=9) (et:=4) (z:=.bool false) (by simp only[az]) gq (by simp only[az]) rfl hS rfl ok
def yw{l:List (List Nat×Bool)}(s:List Nat)(u:Bool)(hS:S[o]?=some (bu AV.str au l)):gn prog S 153 (.map o) (.a (.str s)) (.a (.bool u))=some (S.set o (bu AV.str au (bU s u l))):=
 Jw (uv:=au) (kt:=9) (et:=4) (by simp only[az]) gq hS rfl u
def mS(parts:List (List Nat×Bool)):List (List Nat×Bool)->List (List Nat)->Bool
 | _,[]=>true
 | taken,x::xs=>!(getM false x taken||!getM false x parts)&&mS parts (bU x true taken) xs
def jE(parts:List (List Nat×Bool)):List (List Nat×Bool)->List mZ->Bool
 | _,[]=>true
 | seen,s::ss=>!(getM false s.name seen||(!cB s.name||(decide (s.normal<1)||decide ((s.kinds.length:Int)<s.normal))))&&(mS parts [] s.kinds&&jE parts (bU s.name true seen) ss)
def jq:List (List Nat×Bool)->List aF->Bool
 | _,[]=>true
 | parts,k::ks=>!(cz k.name parts||(!cB k.name||decide (12<(k.bZ.length:Int))))&&(jE parts [] k.bZ&&jq (bU k.name (!k.gY) parts) ks)
def j9(l:List aF):Bool:=jq [] l&&decide ((l.length:Int)<=60)
structure kq (l:List aF):Prop where
 len:l.length<=1000000
 kind:∀k∈l,kr k.name/\k.bZ.length<=1000000
 slot:∀k∈l,∀s∈k.bZ,kr s.name/\s.kinds.length<=1000000
def gm{x:α}(h:l[k]?=some x):l.drop k=x::l.drop (k+1):=by
 obtain⟨hlt,he⟩:=pp h;rw[cf hlt,he]
def ph(l:List aF)(hl:kq l):PC prog 34 [.ag [an 3 l ao]] (·=au (j9 l)):=by
 have hlen:=hl.len
 refine pB 108 Tryz.func34 ?_;refine(nP)<|(zV)<|(zs) ?_;refine QB l (λk (parts:List (List Nat×Bool))=>jq [] l=jq parts (l.drop k)) (λk parts=>[(1,.ptr 0 0),(3,.map 1),(16,an 3 l ao),(17,aa l.length),(18,aa k)]) (λk parts=>[.cells [an 3 l ao],bu AV.str au parts]) ([]) zH ge ?_;intro k parts hk hall;refine zT l k ?_ ?_;rintro rfl;rotate_left;intro x hx hlt;rotate_left
 ·exact(fC)<|(zV)<|zo [.tmp 2] (hq:=by rw[show j9 l=decide ((l.length:Int)<=60) from by unfold j9;rw[hall,bw];rfl])
 have no:jq parts (l.drop k)=false->j9 l=false:=λh=>by unfold j9;rw[hall,h];rfl
 rw[gm hx] at no hall;have hgx:=hl.kind x (mem_iff_getElem?.2 ⟨k,hx⟩);have hsx:=hl.slot x (mem_iff_getElem?.2 ⟨k,hx⟩)
 refine(gJ)<|(aA (jB hlt (aH (e:=3) (enc:=ao) ce hx) @ao.eq_1 @F5))<|(zs) ?_;refine aD.r0 ge (by simp only[cG,bG,an,az,m7,m6,↓reduceIte,ac,aj,al,ad,ap,ah,ar,bD,jf (l:=parts)];first | done | rfl) ?_
 cases h1:cz x.name parts;rotate_left
 ·exact(Ab)<|(zV)<|zo [.tmp 2] (hq:=by rw[no (by simp[jq,h1])])
 refine(zC)<|(zK (gi x.name hgx.1)) ?_
 cases h2:cB x.name
 ·exact(zR)<|(cN)<|zo [.tmp 2] (hq:=by rw[no (by simp[jq,h2])])
 cases h3:decide (12<(x.bZ.length:Int));rotate_left
 ·exact(cO h3)<|(cN)<|zo [.tmp 2] (hq:=by rw[no (by simp only[jq,h3,d3,dt,dd])])
 refine(cO h3)<|(zN)<|(aA @F5)<|(zV) ?_
 have hq2:jq [] l=(jE parts [] x.bZ&&jq (bU x.name (!x.gY) parts) (l.drop (k+1))):=by rw[hall,jq,h1,h2,h3];rfl
 have hnx:True:=trivial
 have no2:jE parts [] x.bZ=false->j9 l=false:=λh=>by unfold j9;rw[hq2,h];rfl
 have hlen2:=hgx.2;refine(zs) ?_;refine QB x.bZ (λk2 (seen:List (List Nat×Bool))=>jE parts [] x.bZ=jE parts seen (x.bZ.drop k2)) (λk2 seen=>[(1,.ptr 0 0),(3,.map 1),(16,an 3 l ao),(17,aa l.length),(18,aa k),(5,.ptr 2 0),(8,.map 3),(44,an 3 x.bZ bQ),(45,aa x.bZ.length),(46,aa k2)]) (λk2 seen=>[.cells [an 3 l ao],bu AV.str au parts,.cells (ao x),bu AV.str au seen]) ([]) zH ge ?_;intro k2 seen hk2 hall2;refine zT x.bZ k2 ?_ ?_;rintro rfl;rotate_left;intro y hx2 hlt2;rotate_left
 ·refine(fC) ?_
  have hall3:jq [] l=jq (bU x.name (!x.gY) parts) (l.drop (k+1)):=by rw[hq2,hall2,bw];rfl
  refine(zs) ?_;refine aD.r0 ge (by simp only[cG,bG,an,az,m7,m6,↓reduceIte,ac,aj,al,ad,ap,ah,ar,bD,ao,yw (l:=parts)];first | done | rfl) ?_;refine(aA (zi hlt hlen)) ?_;refine Fv hlt (bU x.name (!x.gY) parts) zH hall3
 have no3:jE parts seen (x.bZ.drop k2)=false->j9 l=false:=λh=>no2 (by rw[hall2,h]);rw[gm hx2] at no3 hall2;have hgy:=hsx y (mem_iff_getElem?.2 ⟨k2,hx2⟩)
 refine(gJ)<|(aA (ik hlt2 (aH (e:=3) (enc:=bQ) ce hx2) @bQ.eq_1 @ao.eq_1 @F5)) ?_
 cases g1:getM false y.name seen;rotate_left
 ·refine(zs) ?_;refine aD.r0 ge (by simp only[cG,bG,an,az,m7,m6,↓reduceIte,ac,aj,al,ad,ap,ah,ar,bD,jf (l:=seen),g1];first | done | rfl) ?_;exact(cN)<|zo [.tmp 2] (hq:=by rw[no3 (by simp[jE,g1])])
 refine(zs) ?_;refine aD.Vc ge (by simp only[cG,bG,an,az,m7,m6,↓reduceIte,ac,aj,al,ad,ap,ah,ar,bD,jf (l:=seen),g1];first | done | rfl) ?_;refine(zK (gi y.name hgy.1)) ?_;cases g2:cB y.name
 ·exact(zR)<|(cN)<|zo [.tmp 2] (hq:=by rw[no3 (by simp[jE,g2])])
 cases g3:decide (y.normal<1);rotate_left
 ·exact(cO g3)<|(cN)<|zo [.tmp 2] (hq:=by rw[no3 (by simp only[jE,g3,d3,eB,dt,dd])])
 cases g4:decide ((y.kinds.length:Int)<y.normal);rotate_left
 ·exact(cO (br g3 g4))<|(cN)<|zo [.tmp 2] (hq:=by rw[no3 (by simp only[jE,g4,d3,eB,dt,dd])])
 refine(cO (br g3 g4))<|(zN)<|(zs) ?_;refine aD.r0 ge (by simp only[cG,bG,an,az,m7,m6,↓reduceIte,ac,aj,al,ad,ap,ah,ar,bD,yw (l:=seen)];first | done | rfl) ?_;refine(aA @F5)<|(zV) ?_
 have hq3:jE parts [] x.bZ=(mS parts [] y.kinds&&jE parts (bU y.name true seen) (x.bZ.drop (k2+1))):=by rw[hall2,jE,g1,g2,g3,g4];rfl
 have no4:mS parts [] y.kinds=false->j9 l=false:=λh=>no2 (by rw[hq3,h];rfl);have hlen3:=hgy.2;refine(zs) ?_;refine QB y.kinds (λk3 (taken:List (List Nat×Bool))=>mS parts [] y.kinds=mS parts taken (y.kinds.drop k3)) (λk3 taken=>[(1,.ptr 0 0),(3,.map 1),(16,an 3 l ao),(17,aa l.length),(18,aa k),(5,.ptr 2 0),(8,.map 3),(44,an 3 x.bZ bQ),(45,aa x.bZ.length),(46,aa k2),(11,.map 5),(78,an 1 y.kinds (aw ab)),(79,aa y.kinds.length),(80,aa k3)]) (λk3 taken=>[.cells [an 3 l ao],bu AV.str au parts,.cells (ao x),bu AV.str au (bU y.name true seen),.gone,bu AV.str au taken]) ([]) (bK (br @aw.eq_1 @ao.eq_1)) ge ?_;intro k3 taken hk3 hall3;refine zT y.kinds k3 ?_ ?_;rintro rfl;rotate_left;intro z hx3 hlt3;rotate_left
 ·refine(fC) ?_
  have hall4:jE parts [] x.bZ=jE parts (bU y.name true seen) (x.bZ.drop (k2+1)):=by rw[hq3,hall3,bw];rfl
  refine(aA (zi hlt2 hlen2)) ?_;refine Fv hlt2 (bU y.name true seen) (bK @ao.eq_1) hall4
 have no5:mS parts taken (y.kinds.drop k3)=false->j9 l=false:=λh=>no4 (by rw[hall3,h]);rw[gm hx3] at no5 hall3
 refine(gJ)<|(aA (cA hlt3 (aH (e:=1) (enc:=aw ab) ce hx3) @aw.eq_1)) ?_
 cases f1:getM false z taken;rotate_left
 ·refine(zs) ?_;refine aD.r0 ge (by simp only[cG,bG,an,az,m7,m6,↓reduceIte,ac,aj,al,ad,ap,ah,ar,bD,jf (l:=taken),f1];first | done | rfl) ?_;exact(cN)<|zo [.tmp 2] (hq:=by rw[no5 (by simp[mS,f1])])
 cases f2:getM false z parts
 ·refine(zs) ?_;refine aD.r0 ge (by simp only[cG,bG,an,az,m7,m6,↓reduceIte,ac,aj,al,ad,ap,ah,ar,bD,jf (l:=taken),jf (l:=parts),f1,f2];first | done | rfl) ?_;exact(cN)<|zo [.tmp 2] (hq:=by rw[no5 (by simp[mS,f2])])
 refine(zs) ?_;refine aD.r0 ge (by simp only[cG,bG,an,az,m7,m6,↓reduceIte,ac,aj,al,ad,ap,ah,ar,bD,jf (l:=taken),jf (l:=parts),f1,f2];first | done | rfl) ?_;refine(zN) ?_
 have hall5:mS parts [] y.kinds=mS parts (bU z true taken) (y.kinds.drop (k3+1)):=by rw[hall3,mS,f1,f2];rfl
 refine(zs) ?_;refine aD.r0 ge (by simp only[cG,bG,an,az,m7,m6,↓reduceIte,ac,aj,al,ad,ap,ah,ar,bD,yw (l:=taken)];first | done | rfl) ?_;refine(aA (zi hlt3 hlen3)) ?_;refine Fv hlt3 (bU z true taken) (bK (br @aw.eq_1 @ao.eq_1)) hall5
def AM{p:α->Bool}:decide (0<=kg p l)=l.any p:=by
 rcases vD p l with⟨g1,g2⟩ | ⟨k,x,g1,hlt,hx,g2⟩
 ·rw[g1];rw[dN] at g2
  have:l.any p=false:=by
   rw[List.any_eq_false];exact g2
  rw[this];rfl
 ·rw[g1];have:l.any p=true:=List.any_eq_true.2 ⟨x,be g2,eF g2⟩;rw[this];simp
def J1{l:List (List Nat)}(p:List Nat->Bool)(hlen:l.length<=1000000)(hp:∀x∈l,PC prog fid ((first++[ab x])++cap) (·=au (p x)))(hg:cg first=true/\cg cap=true):PC prog 97 [an 1 l (aw ab),.fn fid first cap] (·=au (l.any p)):=by
 refine pB 9 Tryz.func97 ?_;exact(lJ)<|(zK (Kf p hlen hp hg) (hwk:=.cons (Wk.sl _ _ _) (.cons (.fn (cS.refl hg.1) (cS.refl hg.2)) .nil)))<|(zR)<|zo [.tmp 4] (hq:=by rw[AM])
structure bj where
 op:Int
 day:Int
 part:List Nat
 kind:List Nat
 aO:List Nat
 slot:List Nat
 key:List Nat
 value:List Nat
 u1:Int
 u2:Int
 u3:Int
 u4:Int
 u5:Int
 u6:Int
 deriving DecidableEq
def aE(e:bj):List SV:=[aa e.op,aa e.day,ab e.part,ab e.kind,ab e.aO,ab e.slot,ab e.key,ab e.value,aa e.u1,aa e.u2,aa e.u3,aa e.u4,aa e.u5,aa e.u6]
def bj.av(e:bj):List AV:=[.int .i64 e.op,.int .i64 e.day,.str e.part,.str e.kind,.str e.aO,.str e.slot,.str e.key,.str e.value,.int .i64 e.u1,.int .i64 e.u2,.int .i64 e.u3,.int .i64 e.u4,.int .i64 e.u5,.int .i64 e.u6]
def bj.zero:bj:=⟨0,0,[],[],[],[],[],[],0,0,0,0,0,0⟩
def bj.Y6:List Kd:=[.i .i64,.i .i64,.s,.s,.s,.s,.s,.s,.i .i64,.i .i64,.i .i64,.i .i64,.i .i64,.i .i64]
def bj.eq(a b:bj):iM gN a.av b.av=decide (a=b):=by
 obtain⟨a1,a2,a3,a4,a5,a6,a7,a8,a9,a10,a11,a12,a13,a14⟩:=a;obtain⟨b1,b2,b3,b4,b5,b6,b7,b8,b9,b10,b11,b12,b13,b14⟩:=b;simp only[bj.av,iM,gN,BQ,Bp,nT,d7,d6,bj.mk.injEq,Bool.decide_and]
def Kh:Keys prog 58 λe:bj=>.agg e.av:=
 xW (ks:=bj.Y6) zW (by simp only[az,m6]) (λ_=>rfl) bj.eq λ_=>rfl
def Fh(a b:bj):cW prog .eql 58 (.agg a.av) (.agg b.av)=some (.bool (decide (a=b))):=
 HZ (ks:=bj.Y6) zW zW (by simp only[az,m6]) rfl rfl (bj.eq a b)
def W8:List (List Nat):=[[],[109,97,107,101],[102,105,116],[114,101,109,111,118,101],[114,117,110],[111,118,101,114,104,97,117,108],[110,111,116,101],[115,99,114,97,112]]
def KJ(op:Int):List Nat:=if op<0\/8<=op then [] else (W8[op.toNat]?).getD []
def M1(op:Int):PC prog 95 [aa op] (·=ab (KJ op)):=by
 refine pB 14 Tryz.func95 ?_;refine(nP) ?_;cases h1:decide (op<0);rotate_left
 ·exact(aA h1)<|(cN)<|zo [.tmp 2] (hq:=by rw[KJ,t8 (.inl (ww h1))])
 cases h2:decide (8<=op);rotate_left
 ·exact(aA (br h1 h2))<|(cN)<|zo [.tmp 2] (hq:=by rw[KJ,t8 (.inr (ww h2))])
 refine(aA (br h1 h2))<|(zN) ?_
 have hop:op=0\/op=1\/op=2\/op=3\/op=4\/op=5\/op=6\/op=7:=by simp only[wd] at h1 h2;omega
 rcases hop with rfl | rfl | rfl | rfl | rfl | rfl | rfl | rfl<;>(refine(zV) ?_ ;exact zo [.tmp 2])
def CU(a b c d e f:SV):PC prog 96 [.ip [a,b,c,d,e,f]] (·=.ag [.ip [a,b,c,d,e,f],.ip [c,d,e,f],.ip [e,f]]):=by
 refine pB 13 Tryz.func96 ?_;refine(zV)<|(zs) ?_;refine uW [0,1,3,0,8,24,0,64,192,511,1023] ?_;refine(zD) ?_;refine SD.e ge rfl ge rfl rfl ge zl ?_;exact(zM)<|zo [.cell 2 189]
def Hq(s:List Nat)(h:kr s):PC prog 98 [ab s] (·=au (!cB s)):=by
 refine pB 6 Tryz.func98 ?_;exact(lJ)<|(zK (gi s h))<|(zR)<|zo [.tmp 2]
def kL(a b:Int):Bool:=!(decide (a<0))&&(!(decide (b<a))&&!(decide (1000000<b)))
def bj.use(e:bj):Bool:=kL e.u1 e.u2&&(kL e.u3 e.u4&&kL e.u5 e.u6)
def bj.rest(e:bj):bj:=
 if e.op=1 then ⟨0,0,[],[],e.aO,e.slot,e.key,e.value,e.u1,e.u2,e.u3,e.u4,e.u5,e.u6⟩
 else if e.op=2 then ⟨0,0,[],e.kind,[],[],e.key,e.value,e.u1,e.u2,e.u3,e.u4,e.u5,e.u6⟩
 else if e.op=6 then ⟨0,0,[],e.kind,e.aO,e.slot,[],[],e.u1,e.u2,e.u3,e.u4,e.u5,e.u6⟩
 else if e.op=4 then ⟨0,0,[],e.kind,e.aO,e.slot,e.key,e.value,0,0,0,0,0,0⟩
 else ⟨0,0,[],e.kind,e.aO,e.slot,e.key,e.value,e.u1,e.u2,e.u3,e.u4,e.u5,e.u6⟩
def bj.names(e:bj):List (List Nat):=if e.op=1 then [e.kind] else if e.op=2 then [e.aO,e.slot] else if e.op=6 then [e.key] else []
def bj.lE(e:bj):Bool:=
 if e.op=1 then true else if e.op=2 then !(decide (e.aO=e.part)) else if e.op=6 then !(decide (e.value=[]))&&!(decide (200<(e.value.length:Int))) else if e.op=4 then e.use else true
def dD(e:bj):Bool:=!(decide (KJ e.op=[]))&&(!(decide (e.day<0))&&(!(decide (40000<e.day))&&(cB e.part&&(e.lE&&(decide (e.rest=bj.zero)&&!(e.names.any λs=>!cB s))))))
structure rY (e:bj):Prop where
 part:kr e.part
 kind:kr e.kind
 aO:kr e.aO
 slot:kr e.slot
 key:kr e.key
 value:kr e.value
def CO(a1 a2:Int)(a3 a4 a5 a6 a7 a8:List Nat)(a9 a10 a11 a12 a13 a14:Int):cW prog .eql 58 (.agg [.int .i64 a1,.int .i64 a2,.str a3,.str a4,.str a5,.str a6,.str a7,.str a8,.int .i64 a9,.int .i64 a10,.int .i64 a11,.int .i64 a12,.int .i64 a13,.int .i64 a14]) (.agg [.int .i64 0,.int .i64 0,.str [],.str [],.str [],.str [],.str [],.str [],.int .i64 0,.int .i64 0,.int .i64 0,.int .i64 0,.int .i64 0,.int .i64 0])=some (.bool (decide ((⟨a1,a2,a3,a4,a5,a6,a7,a8,a9,a10,a11,a12,a13,a14⟩:bj)=bj.zero))):=
 Fh ⟨a1,a2,a3,a4,a5,a6,a7,a8,a9,a10,a11,a12,a13,a14⟩ bj.zero
def sQ(e:bj)(he:rY e):PC prog 47 [.ag (aE e)] (·=au (dD e)):=by
 refine pB 111 Tryz.func47 ?_;refine(aA @aE.eq_1)<|(zC)<|(zK (M1 e.op)) ?_
 cases h1:decide (KJ e.op=[]);rotate_left
 ·exact(cO h1)<|(cN)<|zo [.tmp 2] (hq:=by rw[dD,h1];rfl)
 cases h2:decide (e.day<0);rotate_left
 ·exact(cO (br h1 h2))<|(cN)<|zo [.tmp 2] (hq:=by rw[dD,h1,h2];rfl)
 cases h3:decide (40000<e.day);rotate_left
 ·exact(cO (cA h1 h2 h3))<|(cN)<|zo [.tmp 2] (hq:=by rw[dD,h1,h2,h3];rfl)
 refine(Wh (cA h1 h2 h3))<|(zK (gi e.part he.part)) ?_
 cases h4:cB e.part
 ·exact(zR)<|(cN)<|zo [.tmp 2] (hq:=by rw[dD,h1,h2,h3,h4];rfl)
 refine(zR)<|(zN) ?_
 have hv:dD e=(e.lE&&(decide (e.rest=bj.zero)&&!(e.names.any λs=>!cB s))):=by rw[dD,h1,h2,h3,h4];rfl
 clear h1 h2 h3 h4
 have hn:∀s∈e.names,kr s:=by
  intro s hs;unfold bj.names at hs;split at hs
  ·rw[rc hs];exact he.kind
  split at hs
  ·rcases rt hs with rfl | hs
   ·exact he.aO
   ·rw[rc hs];exact he.slot
  split at hs
  ·rw[rc hs];exact he.key
  ·cases hs
 have hnl:e.names.length<=1000000:=by
  unfold bj.names
  repeat' split
  all_goals simp
 refine(nP)<|(nP) ?_
 (repeat refine aD.seq ?_)
 refine aD.mono (Q:=λex st=>(ex=.normal/\e.lE=true/\Fg st ⟨[(3,.sl e.names.length 1 (e.names.flatMap (aw ab))),(4,.ptr 2 0)],111,[.gone,.gone,.cells (aE e.rest)],[]⟩)\/(ex=.ret/\ue prog Tryz.f47 (·=au (dD e)) .ret st)) ?_ ?_;rotate_left
 ·rintro ex st (⟨rfl,hm,hf⟩ | ⟨rfl,hs⟩);rotate_left
  ·exact hs
  change aD _ _ _ _ _;refine aD.fg hf ?_;rw[hv,hm,d7];cases r:decide (e.rest=bj.zero)
  ·exact(aA (cA @aE.eq_1 @CO r))<|zo [.tmp 2]
  ·exact(jH (cA @aE.eq_1 @CO r))<|(zK (J1 (λs=>!cB s) (l:=e.names) (first:=[]) (cap:=[]) hnl (λx hx=>Hq x (hn x hx)) ⟨rfl,rfl⟩))<|(zR)<|zo [.tmp 2]
 have hrest:∀a1 a2 a3 a4 a5 a6 a7 a8 a9 a10 a11 a12 a13 a14,e.rest=(⟨a1,a2,a3,a4,a5,a6,a7,a8,a9,a10,a11,a12,a13,a14⟩:bj)->aE e.rest=[aa a1,aa a2,ab a3,ab a4,ab a5,ab a6,ab a7,ab a8,aa a9,aa a10,aa a11,aa a12,aa a13,aa a14]:=by
  intros;simp only[*,aE]
 refine aD.block ?_;refine(zV) ?_;cases k1:decide (e.op=1);rotate_left
 ·have k1':=ww k1;refine(cN) ?_;have hr:=hrest _ _ _ _ _ _ _ _ _ _ _ _ _ _ (show e.rest=_ by unfold bj.rest;rw[t8 k1'])
  have hnm:e.names=[e.kind]:=by unfold bj.names;rw[t8 k1']
  refine .inl ⟨rfl,by unfold bj.lE;rw[t8 k1'],?_⟩;rw[hr,hnm];exact Fg.trans (Fg.freeze (f':=[(3,.sl 1 1 [ab e.kind]),(4,.ptr 2 0)]) 3 rfl f7 zG) zH
 have n1:=wt k1;refine(jG) ?_;cases k2:decide (e.op=2);rotate_left
 ·have k2':=ww k2
  have hmid:e.lE=!(decide (e.aO=e.part)):=by unfold bj.lE;rw[ul n1,t8 k2']
  refine(cN) ?_;cases j1:decide (e.aO=e.part);rotate_left
  ·refine(cN) ?_;refine aD.ret ?_;refine .inr ⟨rfl,?_⟩;exact zO [.tmp 2] (hq:=by (try simp only[dA,aY]);first | done | (rw[hv,hmid,j1];rfl))
  refine(jG) ?_;have hr:=hrest _ _ _ _ _ _ _ _ _ _ _ _ _ _ (show e.rest=_ by unfold bj.rest;rw[ul n1,t8 k2'])
  have hnm:e.names=[e.aO,e.slot]:=by unfold bj.names;rw[ul n1,t8 k2']
  refine .inl ⟨rfl,by rw[hmid,j1];rfl,?_⟩;rw[hr,hnm];exact Fg.trans (Fg.freeze (f':=[(3,.sl 2 1 [ab e.aO,ab e.slot]),(4,.ptr 2 0)]) 3 rfl f7 zG) zH
 have n2:=wt k2;refine(jG) ?_;cases k6:decide (e.op=6);rotate_left
 ·have k6':=ww k6
  have hmid:e.lE=(!(decide (e.value=[]))&&!(decide (200<(e.value.length:Int)))):=by unfold bj.lE;rw[ul n1,ul n2,t8 k6']
  refine(zY) ?_;cases j1:decide (e.value=[]);rotate_left
  ·refine(aA j1)<|(cN) ?_;refine aD.ret ?_;refine .inr ⟨rfl,?_⟩;exact zO [.tmp 2] (hq:=by (try simp only[dA,aY]);first | done | (rw[hv,hmid,j1];rfl))
  cases j2:decide (200<(e.value.length:Int));rotate_left
  ·refine(zs) ?_;refine aD.r0 ge (by simp only[cG,bG,an,az,m7,m6,↓reduceIte,ac,aj,al,ad,ap,ah,ar,bD,j1,j2];first | done | rfl) ?_;refine(cN) ?_;refine aD.ret ?_;refine .inr ⟨rfl,?_⟩;exact zO [.tmp 2] (hq:=by (try simp only[dA,aY]);first | done | (rw[hv,hmid,j1,j2];rfl))
  refine(zs) ?_;refine aD.r0 ge (by simp only[cG,bG,an,az,m7,m6,↓reduceIte,ac,aj,al,ad,ap,ah,ar,bD,j1,j2];first | done | rfl) ?_;refine(jG) ?_;have hr:=hrest _ _ _ _ _ _ _ _ _ _ _ _ _ _ (show e.rest=_ by unfold bj.rest;rw[ul n1,ul n2,t8 k6'])
  have hnm:e.names=[e.key]:=by unfold bj.names;rw[ul n1,ul n2,t8 k6']
  refine .inl ⟨rfl,by rw[hmid,j1,j2];rfl,?_⟩;rw[hr,hnm];exact Fg.trans (Fg.freeze (f':=[(3,.sl 1 1 [ab e.key]),(4,.ptr 2 0)]) 3 rfl f7 zG) zH
 have n6:=wt k6
 have hnm:e.names=[]:=by unfold bj.names;rw[ul n1,ul n2,ul n6]
 refine(jG) ?_;cases k4:decide (e.op=4)
 ·have n4:=wt k4;refine(zN) ?_;have hr:=hrest _ _ _ _ _ _ _ _ _ _ _ _ _ _ (show e.rest=_ by unfold bj.rest;rw[ul n1,ul n2,ul n6,ul n4]);refine .inl ⟨rfl,by unfold bj.lE;rw[ul n1,ul n2,ul n6,ul n4],?_⟩;rw[hr,hnm];exact Fg.trans (Fg.freeze (f':=[(3,.sl 0 1 []),(4,.ptr 2 0)]) 1 rfl f7 zG) zH
 have k4':=ww k4
 have hmid:e.lE=e.use:=by unfold bj.lE;rw[ul n1,ul n2,ul n6,t8 k4']
 refine(zY) ?_;refine zZ [(1,.ip (aE e)),(3,.buf 1 0 1 (some 0)),(4,.ptr 2 0)] 0 rfl (tK @aE.eq_1)<|(jH @aE.eq_1)<|(zK (CU (aa e.u1) (aa e.u2) (aa e.u3) (aa e.u4) (aa e.u5) (aa e.u6)) (hfl:=.inr zr))<|(zR) ?_
 (repeat refine aD.seq ?_)
 refine aD.block (aD.loop (λm st=>∃k:Nat,k<=3/\m=3-k/\(0<k->kL e.u1 e.u2=true)/\(1<k->kL e.u3 e.u4=true)/\(2<k->kL e.u5 e.u6=true)/\st=⟨[(3,.buf 1 0 1 (some 0)),(4,.ptr 2 0),(73,.ag [.ip [aa e.u1,aa e.u2,aa e.u3,aa e.u4,aa e.u5,aa e.u6],.ip [aa e.u3,aa e.u4,aa e.u5,aa e.u6],.ip [aa e.u5,aa e.u6]]),(74,aa k)],111,[.gone,.cells [],.cells [aa 0,aa 0,ab [],ab e.kind,ab e.aO,ab e.slot,ab e.key,ab e.value,aa e.u1,aa e.u2,aa e.u3,aa e.u4,aa e.u5,aa e.u6]],[]⟩) 3 zH ⟨0,by omega,rfl,λh=>t7 h gt,λh=>t7 h gt,λh=>t7 h gt,rfl⟩ (by rintro m st ⟨k,_,_,_,_,_,rfl⟩;rfl) ?_);rintro m st ⟨k,hk,rfl,u1,u2,u3,rfl⟩;refine(zV) ?_;by_cases hlt:k<3;rotate_left
 ·obtain rfl:k=3:=by omega
  refine(fC)<|(aA (show dE prog 56=some (.agg [.int .i64 0,.int .i64 0,.int .i64 0,.int .i64 0,.int .i64 0,.int .i64 0]) by simp only[az])) ?_
  have hr:=hrest _ _ _ _ _ _ _ _ _ _ _ _ _ _ (show e.rest=_ by unfold bj.rest;rw[ul n1,ul n2,ul n6,t8 k4']);refine .inl ⟨rfl,by rw[hmid,bj.use,u1 gt,u2 gt,u3 gt];rfl,?_⟩;rw[hr,hnm];exact Fg.trans (Fg.freeze (f':=[(3,.sl 0 1 []),(4,.ptr 2 0)]) 1 rfl f7 zG) zH
 rw[show decide ((k:Int)<3)=true by simp only[wp];omega]
 obtain⟨a,b,l,hab,hno,hyes⟩:∃(a b:Int) (l:List SV),([.ip [aa e.u1,aa e.u2,aa e.u3,aa e.u4,aa e.u5,aa e.u6],.ip [aa e.u3,aa e.u4,aa e.u5,aa e.u6],.ip [aa e.u5,aa e.u6]]:List SV)[k*1]?=some (.ip (aa a::aa b::l))/\(kL a b=false->e.use=false)/\(kL a b=true->(0<k+1->kL e.u1 e.u2=true)/\(1<k+1->kL e.u3 e.u4=true)/\(2<k+1->kL e.u5 e.u6=true)):=by
  have:k=0\/k=1\/k=2:=by omega
  rcases this with rfl | rfl | rfl
  ·exact⟨_,_,_,rfl,λh=>by rw[bj.use,h];rfl,λh=>⟨λ_=>h,λh=>by omega,λh=>by omega⟩⟩
  ·exact⟨_,_,_,rfl,λh=>by rw[bj.use,h,dd,d2],λh=>⟨λ_=>u1 gt,λ_=>h,λh=>by omega⟩⟩
  ·exact⟨_,_,_,rfl,λh=>by rw[bj.use,h,d2,d2],λh=>⟨λ_=>u1 gt,λ_=>u2 gt,λ_=>h⟩⟩
 refine(gJ)<|(zs) ?_;refine aD.r0 ge (by simp only[cG,bG,an,az,m7,m6,↓reduceIte,ac,aj,al,ad,ap,ah,ar,bD,hlt,hab];first | done | rfl) ?_
 cases c1:decide (a<0);rotate_left
 ·refine(zs) ?_;refine uW [0,1,3,7,15,31,63,127,255,511,63,1087,3135,7231,16383,32767,65535,131071,262143,524287,1048575,2097151,4194303] ?_;refine(tT c1)<|(zM)<|(cN) ?_;refine aD.ret ?_;refine .inr ⟨rfl,?_⟩;exact zO [.tmp 2] (hq:=by (try simp only[dA,aY]);first | done | (rw[hv,hmid,hno (by simp[kL,ww c1])];rfl))
 cases c2:decide (b<a);rotate_left
 ·refine(zs) ?_;refine uW [0,1,3,7,15,31,63,127,255,511,63,1087,3135,7231,16383,32767,65535,131071,262143,524287,1048575,2097151,4194303] ?_
  (repeat (first | refine SD.r ge rfl ge ge (by simp only[cG,bG,an,az,m7,m6,↓reduceIte,ac,aj,al,ad,ap,ah,ar,bD,c1,c2];first | done | rfl) ?_ | refine SD.s ge rfl ge ge ?_ | fail))
  refine(zM)<|(cN) ?_;refine aD.ret ?_;refine .inr ⟨rfl,?_⟩;exact zO [.tmp 2] (hq:=by (try simp only[dA,aY]);first | done | (rw[hv,hmid,hno (by simp[kL,ww c2])];rfl))
 cases c3:decide (1000000<b);rotate_left
 ·refine(zs) ?_;refine uW [0,1,3,7,15,31,63,127,255,511,63,1087,3135,7231,16383,32767,65535,131071,262143,524287,1048575,2097151,4194303] ?_;refine(tT (cA c1 c2 c3))<|(zM)<|(cN) ?_;refine aD.ret ?_;refine .inr ⟨rfl,?_⟩;exact zO [.tmp 2] (hq:=by (try simp only[dA,aY]);first | done | (rw[hv,hmid,hno (by simp[kL,ww c3])];rfl))
 refine(zs) ?_;refine uW [0,1,3,7,15,31,63,127,255,511,63,1087,3135,7231,16383,32767,65535,131071,262143,524287,1048575,2097151,4194303] ?_;refine(tT (cA c1 c2 c3))<|(zM)<|(zN) ?_
 obtain⟨y1,y2,y3⟩:=hyes (by rw[kL,c1,c2,c3];rfl);refine(aA (xn (show -9223372036854775808<=(k:Int)+1/\(k:Int)+1<=9223372036854775807 from⟨by omega,by omega⟩))) ?_;refine⟨3-(k+1),_,by omega,zH,k+1,by omega,rfl,y1,y2,y3,rfl⟩
def Gi(a b:List Nat):List Nat:=cond (fZ a b||xc a b) a b
def Ge(a b:List Nat):List Nat:=cond (fZ a b) b a
def cu(e:bj):List (List Nat):=if dD e=false then [] else if e.op=2 then [Gi e.part e.aO,Ge e.part e.aO] else [e.part]
def UK(a b:List Nat):uE false (.str a) (.str b)=some (.str (Gi a b)):=rfl
def UG(a b:List Nat):uE true (.str a) (.str b)=some (.str (Ge a b)):=rfl
def wS(e:bj)(he:rY e):PC prog 203 [.ag (aE e)] (·=an 1 (Proofs.cu e) (aw ab)):=by
 refine pB 25 Tryz.func203 ?_;refine(aA @aE.eq_1)<|(zB)<|(zC)<|(zK (sQ e he)) ?_
 cases h1:dD e
 ·exact(zR)<|(cN)<|zo [.tmp 2] (r:=.sl 0 1 []) (hw:=zv) (hq:=by rw[Proofs.cu,t8 h1];rfl)
 refine(zR)<|(jG) ?_
 cases h2:decide (e.op=2)
 ·exact(jG)<|zo [.tmp 2] (r:=.sl 1 1 [ab e.part]) (hw:=zv) (hq:=by rw[Proofs.cu,ul (by rw[h1];decide),ul (wt h2)];rfl)
 ·exact(zY)<|(aA (br @UK @UG))<|zo [.tmp 2] (r:=.sl 2 1 [ab (Gi e.part e.aO),ab (Ge e.part e.aO)]) (hw:=zv) (hq:=by rw[Proofs.cu,ul (by rw[h1];decide),t8 (ww h2)];rfl)
structure aN where
 opts:List bj
 sd:Bool
def ae(r:aN):List SV:=[an 14 r.opts aE,au r.sd]
structure eu (r:aN):Prop where
 len:r.opts.length<=1000000
 ev:∀e∈r.opts,rY e
def Xi(e:bj):AV:=.agg e.av
def CZ{l:List (bj×Bool)}(a1 a2:Int)(a3 a4 a5 a6 a7 a8:List Nat)(a9 a10 a11 a12 a13 a14:Int)(ok:Bool)(hS:S[o]?=some (bu Xi au l)):eJ prog S 121 (.map o) (.ag [aa a1,aa a2,ab a3,ab a4,ab a5,ab a6,ab a7,ab a8,aa a9,aa a10,aa a11,aa a12,aa a13,aa a14]) ok=some (cond ok (.bB [au (getM false (⟨a1,a2,a3,a4,a5,a6,a7,a8,a9,a10,a11,a12,a13,a14⟩:bj) l),au (cz (⟨a1,a2,a3,a4,a5,a6,a7,a8,a9,a10,a11,a12,a13,a14⟩:bj) l)]) (au (getM false (⟨a1,a2,a3,a4,a5,a6,a7,a8,a9,a10,a11,a12,a13,a14⟩:bj) l))):=
 Eu (uv:=au) (u0:=false) (k:=(⟨a1,a2,a3,a4,a5,a6,a7,a8,a9,a10,a11,a12,a13,a14⟩:bj)) (kt:=58) (et:=4) (z:=.bool false) (by simp only[az]) Kh (by simp only[az]) rfl hS rfl ok
def Qx{l:List (bj×Bool)}(a1 a2:Int)(a3 a4 a5 a6 a7 a8:List Nat)(a9 a10 a11 a12 a13 a14:Int)(u:Bool)(hS:S[o]?=some (bu Xi au l)):gn prog S 121 (.map o) (.ag [aa a1,aa a2,ab a3,ab a4,ab a5,ab a6,ab a7,ab a8,aa a9,aa a10,aa a11,aa a12,aa a13,aa a14]) (.a (.bool u))=some (S.set o (bu Xi au (bU (⟨a1,a2,a3,a4,a5,a6,a7,a8,a9,a10,a11,a12,a13,a14⟩:bj) u l))):=
 Jw (uv:=au) (k:=(⟨a1,a2,a3,a4,a5,a6,a7,a8,a9,a10,a11,a12,a13,a14⟩:bj)) (kt:=58) (et:=4) (by simp only[az]) Kh hS rfl u
def WC{n:Nat}{l:List (bj×Bool)}:cx n (bu Xi au l)=bu Xi au l:=lU λ_=>lk _
def oi:List (bj×Bool)->List bj->Bool
 | _,[]=>true
 | seen,e::es=>!(getM false e seen||!dD e)&&oi (bU e true seen) es
def cT(r:aN):Bool:=!(decide ((r.opts.length:Int)=0))&&(!(decide (4<(r.opts.length:Int)))&&oi [] r.opts)
def pj(r:aN)(hr:eu r):PC prog 19 [.ag (ae r)] (·=au (Proofs.cT r)):=by
 have hlen:=hr.len;refine pB 35 Tryz.func19 ?_;refine(aA @ae.eq_1) ?_;cases h1:decide ((r.opts.length:Int)=0);rotate_left
 ·exact(aA h1)<|(cN)<|zo [.tmp 2] (hq:=by rw[Proofs.cT,h1];rfl)
 cases h2:decide (4<(r.opts.length:Int));rotate_left
 ·exact(aA (br h1 h2))<|(cN)<|zo [.tmp 2] (hq:=by rw[Proofs.cT,h1,h2];rfl)
 refine(aA (br h1 h2))<|(zN) ?_
 have hv:Proofs.cT r=oi [] r.opts:=by rw[Proofs.cT,h1,h2];rfl
 refine(nP)<|(zs) ?_;refine QB r.opts (λk (seen:List (bj×Bool))=>oi [] r.opts=oi seen (r.opts.drop k)) (λk seen=>[(3,.map 1),(18,an 14 r.opts aE),(19,aa r.opts.length),(20,aa k)]) (λk seen=>[.gone,bu Xi au seen]) ([]) zH ge ?_;intro k seen hk hall;refine zT r.opts k ?_ ?_;rintro rfl;rotate_left;intro e hx hlt;rotate_left
 ·exact(fC)<|(zV)<|zo [.tmp 2] (hq:=by rw[hv,hall,bw];rfl)
 have no:oi seen (r.opts.drop k)=false->Proofs.cT r=false:=λh=>by rw[hv,hall,h]
 rw[gm hx] at no hall;have he:=hr.ev e (mem_iff_getElem?.2 ⟨k,hx⟩)
 refine(gJ)<|(aA (jB hlt (aH (e:=14) (enc:=aE) ce hx) @aE.eq_1 @WC)) ?_
 cases g1:getM false e seen;rotate_left
 ·have g1':getM false (⟨e.op,e.day,e.part,e.kind,e.aO,e.slot,e.key,e.value,e.u1,e.u2,e.u3,e.u4,e.u5,e.u6⟩:bj) seen=true:=g1;refine(zs) ?_;refine aD.r0 ge (by simp only[cG,bG,an,az,m7,m6,↓reduceIte,ac,aj,al,ad,ap,ah,ar,bD,CZ (l:=seen),g1'];first | done | rfl) ?_;refine(zs) ?_;refine aD.yes rfl ?_;(try (refine aD.skip ?_;try change aD _ _ _ _ _));refine(zs) ?_;refine aD.r0 ge zl ?_;refine(zE) ?_;exact ue.of (rs:=[.tmp 2]) rfl rfl zl (Wk.refl rfl) (by (try simp only[dA,aY]);first | done | (rw[no (by simp[oi,g1])]))
 have g1':getM false (⟨e.op,e.day,e.part,e.kind,e.aO,e.slot,e.key,e.value,e.u1,e.u2,e.u3,e.u4,e.u5,e.u6⟩:bj) seen=false:=g1;refine(zs) ?_;refine aD.Vc ge (by simp only[cG,bG,an,az,m7,m6,↓reduceIte,ac,aj,al,ad,ap,ah,ar,bD,CZ (l:=seen),g1'];first | done | rfl) ?_;refine(zK (sQ e he)) ?_;cases g2:dD e
 ·exact(zR)<|(cN)<|zo [.tmp 2] (hq:=by rw[no (by simp[oi,g2])])
 refine(zR)<|(zN) ?_
 have hn:oi [] r.opts=oi (bU e true seen) (r.opts.drop (k+1)):=by rw[hall,oi,g1,g2];rfl
 refine(zs) ?_;refine aD.r0 ge (by simp only[cG,bG,an,az,m7,m6,↓reduceIte,ac,aj,al,ad,ap,ah,ar,bD,Qx (l:=seen)];first | done | rfl) ?_;refine(aA (zi hlt hlen)) ?_;refine Fv hlt (bU e true seen) zH hn
def bp(r:aN):Int:=if cT r=false then 0 else if r.sd=true then (r.opts.length:Int)+1 else r.opts.length
def jv(r:aN)(hr:eu r):PC prog 101 [.ag (ae r)] (·=aa (bp r)):=by
 refine pB 17 Tryz.func101 ?_;have hlen:=hr.len
 refine(aA @ae.eq_1)<|(zB)<|(zC)<|(zK (pj r hr)) ?_
 cases h1:Proofs.cT r
 ·exact(zR)<|(cN)<|zo [.tmp 2] (hq:=by rw[bp,t8 h1])
 refine(zR)<|(jG) ?_
 cases h2:r.sd
 ·exact(jG)<|zo [.tmp 2] (hq:=by rw[bp,ul (by rw[h1];decide),ul (by rw[h2];decide)])
 ·refine(zY)<|(zs) ?_;refine aD.r0 ge (fF (bA (r.opts.length:Int) 1 gt)) ?_;exact zo [.tmp 2] (hq:=by rw[bp,ul (by rw[h1];decide),t8 h2])
structure bN where
 key:List Nat
 value:List Nat
structure ai where
 name:List Nat
 kind:List Nat
 aO:List Nat
 slot:List Nat
 made:Int
 since:Int
 bI:Bool
 props:List bN
 l1:Int
 l2:Int
 l3:Int
 l4:Int
 l5:Int
 l6:Int
def aZ(p:bN):List SV:=[ab p.key,ab p.value]
def ak(p:ai):List SV:=[ab p.name,ab p.kind,ab p.aO,ab p.slot,aa p.made,aa p.since,au p.bI,an 2 p.props aZ,aa p.l1,aa p.l2,aa p.l3,aa p.l4,aa p.l5,aa p.l6]
def ai.zero:ai:=⟨[],[],[],[],0,0,false,[],0,0,0,0,0,0⟩
def ec:List (List Nat)->Bool
 | a::b::r=>fZ a b&&ec (b::r)
 | _=>true
def Cf:∀{l:List (List Nat)},(∀(i:Nat) a b,l[i]?=some a->l[i+1]?=some b->fZ a b=true)->ec l=true
 | [],_=>rfl
 | [_],_=>rfl
 | a::b::r,h=>by
  rw[ec,h 0 a b rfl rfl,d7];exact Cf λi x y h1 h2=>h (i+1) x y h1 h2
def Gz:∀{l:List (List Nat)} {i:Nat} {a b:List Nat},l[i]?=some a->l[i+1]?=some b->fZ a b=false->ec l=false
 | [],i,_,_,h,_,_=>by simp at h
 | [_],i,_,_,_,h,_=>by simp at h
 | x::y::r,0,a,b,h1,h2,h3=>by cases h1;cases h2;rw[ec,h3];rfl
 | x::y::r,i+1,a,b,h1,h2,h3=>by
  rw[ec,Gz (l:=y::r) (i:=i) h1 h2 h3,d2]
def BG{β:Type}{f:α->β}{i:Nat}{b:β}(h:(l.map f)[i]?=some b):∃a,l[i]?=some a/\f a=b:=by
 rw[ax] at h;obtain⟨a,h1,h2⟩:=aq h;exact⟨a,h1,h2⟩
def wO(s:List Nat):PC prog 181 [.ag (ab s::ct 1 .any)] (·=ab s):=by
 refine pB 5 Tryz.func181 ?_;refine(aA sH)<|(zV)<|(zE) ?_;exact ue.of (rs:=[.tmp 2]) rfl rfl zl (Wk.refl rfl) zq
def Ht(l:List bN)(hlen:l.length<=1000000):PC prog 180 [an 2 l aZ,.fn 181 [] []] (·=au (ec (l.map bN.key))):=by
 refine pB 26 Tryz.func180 ?_;refine(nP) ?_
 (repeat refine aD.seq ?_)
 refine aD.block (aD.loop (λm st=>∃k:Nat,1<=k/\m=l.length-k/\(∀(i:Nat) a b,i+1<k->l[i]?=some a->l[i+1]?=some b->fZ a.key b.key=true)/\st=⟨[(0,an 2 l aZ),(1,.fn 181 [] []),(5,aa k)],26,[],[]⟩) (l.length-1) zH ⟨1,by omega,rfl,λi a b h=>t7 h gt,rfl⟩ (by rintro m st ⟨k,_,_,_,rfl⟩;rfl) ?_);rintro m st ⟨k,hk,rfl,hall,rfl⟩;refine(zV) ?_;by_cases hlt:k<l.length;rotate_left
 ·rw[show decide ((k:Int)<(l.length:Int))=false by simp only[wd];omega]
  refine(fC)<|(zV) ?_
  exact zo [.tmp 4] (hq:=by rw[Cf λi a b h1 h2=>by
   obtain⟨x,hx,rfl⟩:=BG h1;obtain⟨y,hy,rfl⟩:=BG h2
   exact hall i x y (by have:=aR hy;omega) hx hy])
 rw[show decide ((k:Int)<(l.length:Int))=true by simp only[wp];omega];obtain⟨j,rfl⟩:∃j,k=j+1:=⟨k-1,by omega⟩;obtain⟨x,hx⟩:∃x,l[j]?=some x:=⟨l[j],jp gt⟩;obtain⟨y,hy⟩:∃y,l[j+1]?=some y:=⟨l[j+1],jp hlt⟩
 have hj:j<l.length:=by omega
 refine(gJ)<|(zs) ?_;refine uW [0,0,0,4,14,30,63,0,0,0,768,1792,4095,8191] ?_
 (repeat (first | refine SD.r ge rfl ge ge (fF (ik (bS (((j+1:Nat):Int)) 1 gt) (show((j+1:Nat):Int)-1=(j:Int) from by omega) hj (aH (e:=2) (enc:=aZ) ce hx) @aZ.eq_1)) ?_ | refine SD.s ge rfl ge ge ?_ | fail))
 refine SD.k ge rfl rfl ge rfl rfl zc (wO x.key) (.cons (.ag (.cons (.a _) (.cons (.any _) .nil))) .nil) rfl ?_;refine(tT (cA hlt (aH (e:=2) (enc:=aZ) ce hy) @aZ.eq_1)) ?_;refine SD.k ge rfl rfl ge rfl rfl zc (wO y.key) (.cons (.ag (.cons (.a _) (.cons (.any _) .nil))) .nil) rfl ?_;refine(tT @Bg)<|(zM) ?_
 cases g:fZ x.key y.key
 ·exact(cN)<|zo [.tmp 4] (hq:=by rw[Gz (i:=j) (a:=x.key) (b:=y.key) (by rw[ax,hx];rfl) (by rw[ax,hy];rfl) g])
 ·refine(zN)<|(zs) ?_;refine aD.r0 ge (fF (bA (((j+1:Nat):Int)) 1 gt)) ?_;refine⟨l.length-(j+1+1),_,by omega,zH,j+1+1,by omega,rfl,?_,rfl⟩
  intro i a b hi ha hb;by_cases hij:i=j
  ·subst hij;rw[hx] at ha;rw[hy] at hb;cases ha;cases hb;exact g
  ·exact hall i a b gt ha hb
def wN(s:List Nat):PC prog 123 [.ag (ab s::ct 13 .any)] (·=ab s):=by
 refine pB 5 Tryz.func123 ?_;refine(aA sH)<|(zV)<|(zE) ?_;exact ue.of (rs:=[.tmp 2]) rfl rfl zl (Wk.refl rfl) zq
def Hs(l:List ai)(hlen:l.length<=1000000):PC prog 122 [an 14 l ak,.fn 123 [] []] (·=au (ec (l.map ai.name))):=by
 refine pB 26 Tryz.func122 ?_;refine(nP) ?_
 (repeat refine aD.seq ?_)
 refine aD.block (aD.loop (λm st=>∃k:Nat,1<=k/\m=l.length-k/\(∀(i:Nat) a b,i+1<k->l[i]?=some a->l[i+1]?=some b->fZ a.name b.name=true)/\st=⟨[(0,an 14 l ak),(1,.fn 123 [] []),(5,aa k)],26,[],[]⟩) (l.length-1) zH ⟨1,by omega,rfl,λi a b h=>t7 h gt,rfl⟩ (by rintro m st ⟨k,_,_,_,rfl⟩;rfl) ?_);rintro m st ⟨k,hk,rfl,hall,rfl⟩;refine(zV) ?_;by_cases hlt:k<l.length;rotate_left
 ·rw[show decide ((k:Int)<(l.length:Int))=false by simp only[wd];omega]
  refine(fC)<|(zV) ?_
  exact zo [.tmp 4] (hq:=by rw[Cf λi a b h1 h2=>by
   obtain⟨x,hx,rfl⟩:=BG h1;obtain⟨y,hy,rfl⟩:=BG h2
   exact hall i x y (by have:=aR hy;omega) hx hy])
 rw[show decide ((k:Int)<(l.length:Int))=true by simp only[wp];omega];obtain⟨j,rfl⟩:∃j,k=j+1:=⟨k-1,by omega⟩;obtain⟨x,hx⟩:∃x,l[j]?=some x:=⟨l[j],jp gt⟩;obtain⟨y,hy⟩:∃y,l[j+1]?=some y:=⟨l[j+1],jp hlt⟩
 have hj:j<l.length:=by omega
 refine(gJ)<|(zs) ?_;refine uW [0,0,0,4,14,30,63,0,0,0,768,1792,4095,8191] ?_
 (repeat (first | refine SD.r ge rfl ge ge (fF (ik (bS (((j+1:Nat):Int)) 1 gt) (show((j+1:Nat):Int)-1=(j:Int) from by omega) hj (aH (e:=14) (enc:=ak) ce hx) @ak.eq_1)) ?_ | refine SD.s ge rfl ge ge ?_ | fail))
 refine SD.k ge rfl rfl ge rfl rfl zc (wN x.name) (.cons (.ag (.cons (.a _) (.cons (.any _) (.cons (.any _) (.cons (.any _) (.cons (.any _) (.cons (.any _) (.cons (.any _) (.cons (.any _) (.cons (.any _) (.cons (.any _) (.cons (.any _) (.cons (.any _) (.cons (.any _) (.cons (.any _) .nil))))))))))))))) .nil) rfl ?_;refine(tT (cA hlt (aH (e:=14) (enc:=ak) ce hy) @ak.eq_1)) ?_;refine SD.k ge rfl rfl ge rfl rfl zc (wN y.name) (.cons (.ag (.cons (.a _) (.cons (.any _) (.cons (.any _) (.cons (.any _) (.cons (.any _) (.cons (.any _) (.cons (.any _) (.cons (.any _) (.cons (.any _) (.cons (.any _) (.cons (.any _) (.cons (.any _) (.cons (.any _) (.cons (.any _) .nil))))))))))))))) .nil) rfl ?_;refine(tT @Bg)<|(zM) ?_
 cases g:fZ x.name y.name
 ·exact(cN)<|zo [.tmp 4] (hq:=by rw[Gz (i:=j) (a:=x.name) (b:=y.name) (by rw[ax,hx];rfl) (by rw[ax,hy];rfl) g])
 ·refine(zN)<|(zs) ?_;refine aD.r0 ge (fF (bA (((j+1:Nat):Int)) 1 gt)) ?_;refine⟨l.length-(j+1+1),_,by omega,zH,j+1+1,by omega,rfl,?_,rfl⟩
  intro i a b hi ha hb;by_cases hij:i=j
  ·subst hij;rw[hx] at ha;rw[hy] at hb;cases ha;cases hb;exact g
  ·exact hall i a b gt ha hb
def Km{l:List (List Nat×Int)}(s:List Nat)(ok:Bool)(hS:S[o]?=some (bu AV.str aa l)):eJ prog S 103 (.map o) (.a (.str s)) ok=some (cond ok (.bB [aa (getM 0 s l),au (cz s l)]) (aa (getM 0 s l))):=
 Eu (uv:=aa) (u0:=0) (k:=s) (kt:=9) (et:=3) (z:=.int .i64 0) (by simp only[az]) gq (by simp only[az]) rfl hS rfl ok
def MN{l:List (List Nat×Int)}(s:List Nat)(u:Int)(hS:S[o]?=some (bu AV.str aa l)):gn prog S 103 (.map o) (.a (.str s)) (.a (.int .i64 u))=some (S.set o (bu AV.str aa (bU s u l))):=
 Jw (uv:=aa) (kt:=9) (et:=3) (by simp only[az]) gq hS rfl u
def zy{S:List SO}{l:List (List Nat×Int)}(s:List Nat)(ok:Bool):eJ prog S 103 (pD AV.str aa l) (.a (.str s)) ok=some (cond ok (.bB [aa (getM 0 s l),au (cz s l)]) (aa (getM 0 s l))):=
 R8 (uv:=aa) (u0:=0) (k:=s) (kt:=9) (et:=3) (z:=.int .i64 0) (by simp only[az]) gq (by simp only[az]) rfl rfl ok
def oH:Nat->List (List Nat×Int)->List ai->List (List Nat×Int)
 | _,m,[]=>m
 | i,m,p::ps=>oH (i+1) (if cz p.name m=true then m else bU p.name i m) ps
def KK(ps:List ai):SV:=.ag [an 14 ps ak,pD AV.str aa (oH 0 [] ps)]
def yv(ps:List ai)(hlen:ps.length<=1000000):PC prog 77 [.ag [an 14 ps ak]] (·=KK ps):=by
 refine pB 37 Tryz.func77 ?_;refine(nP)<|(zV)<|(zs) ?_;refine QB ps (λk (m0:List (List Nat×Int))=>oH 0 [] ps=oH k m0 (ps.drop k)) (λk m0=>[(2,.ptr 1 0),(3,.ptr 3 0),(13,an 14 ps ak),(14,aa ps.length),(15,aa k)]) (λk m0=>[.gone,.cells [.a (.slice none 0 0 (some 0)),.a (.map none)],bu AV.str aa m0,.cells [an 14 ps ak,.map 2]]) ([]) zH ge ?_;intro k m0 hk hall;refine zT ps k ?_ ?_;rintro rfl;rotate_left;intro x hx hlt;rotate_left
 ·exact(fC)<|(zV)<|zo [.cell 2 161] (r:=.ag [an 14 ps ak,pD AV.str aa m0]) (hw:=Wk.ag (.cons (.sl _ _ _) (.cons (pn (λ_=>rfl) rfl) .nil))) (hq:=by rw[KK,hall,bw];rfl)
 rw[gm hx] at hall
 refine(gJ)<|(aA (jB hlt (aH (e:=14) (enc:=ak) ce hx) @ak.eq_1 @WD))<|(zs) ?_;refine aD.r0 ge (by simp only[cG,bG,an,az,m7,m6,↓reduceIte,ac,aj,al,ad,ap,ah,ar,bD,Km (l:=m0)];first | done | rfl) ?_;refine(zV) ?_
 cases h1:cz x.name m0
 ·refine(zY)<|(zs) ?_;refine aD.r0 ge (by simp only[cG,bG,an,az,m7,m6,↓reduceIte,ac,aj,al,ad,ap,ah,ar,bD,MN (l:=m0)];first | done | rfl) ?_;refine(aA (zi hlt hlen)) ?_;refine Fv hlt (bU x.name (k:Int) m0) zH (show oH 0 [] ps=oH (k+1) (bU x.name (k:Int) m0) (ps.drop (k+1)) by rw[hall,oH,h1];rfl)
 ·refine(zN)<|(aA (zi hlt hlen)) ?_;refine Fv hlt (m0) zH (show oH 0 [] ps=oH (k+1) m0 (ps.drop (k+1)) by rw[hall,oH,t8 h1])
def re(ps:List ai)(m:List (List Nat×Int))(name:List Nat):Option ai:=if cz name m=true then ps[(getM 0 name m).toNat]? else none
def Xe(ps:List ai)(m:List (List Nat×Int)):Prop:=∀name,cz name m=true->∃k:Nat,getM 0 name m=(k:Int)/\k<ps.length
def rL(ps:List ai)(m:List (List Nat×Int))(name:List Nat)(hm:Xe ps m):PC prog 82 [.ag [an 14 ps ak,pD AV.str aa m],ab name] (·=qy ak ai.zero (re ps m name)):=by
 refine pB 23 Tryz.func82 ?_;refine(zV)<|(aA @zy)<|(zV) ?_
 cases h1:cz name m
 ·exact(cN)<|ji [.cell 4 75,.tmp 5] (r:=.bB [.ag [ab [],ab [],ab [],ab [],aa 0,aa 0,au false,.sl 0 2 [],aa 0,aa 0,aa 0,aa 0,aa 0,aa 0],au false]) (hw:=zv) (hq:=by rw[re,h1];rfl)
 obtain⟨k,hk,hlt⟩:=hm name h1;obtain⟨x,hx⟩:∃x,ps[k]?=some x:=⟨ps[k],jp hlt⟩
 exact(zN)<|(aA (jB hk hlt (aH (e:=14) (enc:=ak) ce hx) @ak.eq_1))<|ji [.cell 4 75,.tmp 5] (hq:=by rw[re,t8 h1,hk,Int.toNat_natCast,hx];rfl)
def KZ:∀{ps l:List ai} {i:Nat} {m:List (List Nat×Int)},i+ps.length=l.length->Xe l m->Xe l (oH i m ps)
 | [],_,_,_,_,h=>h
 | p::ps,l,i,m,hl,h=>by
  rw[oH];refine KZ (by rw[i7] at hl;omega) ?_;split
  ·exact h
  ·intro name hn;by_cases e:name=p.name
   ·subst e;exact⟨i,by rw[di,t8 rfl],by rw[i7] at hl;omega⟩
   ·rw[qh,un e,dl] at hn;rw[di,ul e];exact h name hn
def tL(a b:Int):Bool:=decide (0<=a)&&(decide (a<=b)&&decide (b<=1000000000000))
def pa(x:bN):Bool:=cB x.key&&(!(decide (x.value=[]))&&decide ((x.value.length:Int)<=200))
def CI(a b:Int):PC prog 178 [.ag [aa a,aa b]] (·=au (tL a b)):=by
 refine pB 18 Tryz.func178 ?_;refine(zV) ?_;cases h1:decide (0<=a)
 ·exact(aA h1)<|zo [.tmp 2] (hq:=by rw[tL,h1];rfl)
 cases h2:decide (a<=b)
 ·exact(aA (br h1 h2))<|zo [.tmp 2] (hq:=by rw[tL,h1,h2];rfl)
 ·exact(aA (br h1 h2))<|zo [.tmp 2] (hq:=by rw[tL,h1,h2];rfl)
def Qw(x:bN)(hx:kr x.key):PC prog 179 [.ag (aZ x)] (·=au (pa x)):=by
 refine pB 17 Tryz.func179 ?_;refine(aA @aZ.eq_1)<|(zC)<|(zK (gi x.key hx)) ?_
 cases h1:cB x.key
 ·exact(zR)<|zo [.tmp 2] (hq:=by rw[pa,h1];rfl)
 cases h2:decide (x.value=[]);rotate_left
 ·exact(cO h2)<|zo [.tmp 2] (hq:=by rw[pa,h1,h2];rfl)
 ·exact(cO h2)<|zo [.tmp 2] (hq:=by rw[pa,h1,h2];rfl)
structure iJ (p:ai):Prop where
 name:kr p.name
 kind:kr p.kind
 aO:kr p.aO
 slot:kr p.slot
 len:p.props.length<=1000000
 prop:∀x∈p.props,kr x.key/\kr x.value
def dm(c:List aF)(p:ai):Bool:=(fc c p.kind).isSome&&(cB p.name&&(!(decide (p.made<0))&&(!(decide (p.since<p.made))&&(!(decide (40000<p.since))&&(!(decide (60<(p.props.length:Int)))&&(p.props.all pa&&(ec (p.props.map bN.key)&&(tL p.l1 p.l2&&(tL p.l3 p.l4&&tL p.l5 p.l6)))))))))
def QT{p:α->Bool}{x:α}(h:l[k]?=some x):(l.drop k).all p=(p x&&(l.drop (k+1)).all p):=by rw[gm h,List.all_cons]
def MQ(c:List aF)(p:ai)(hc:c.length<=1000000)(hp:iJ p):PC prog 124 [.ag [an 3 c ao],.ag (ak p)] (·=au (dm c p)):=by
 have hlen:=hp.len;refine pB 85 Tryz.func124 ?_
 obtain⟨q,b,h1,hb⟩:∃(q:aF) (b:Bool),qy ao aF.zero (fc c p.kind)=.bB [.ag (ao q),au b]/\(fc c p.kind).isSome=b:=by
  cases hf:fc c p.kind with
  | none=>exact⟨aF.zero,false,rfl,rfl⟩
  | some q=>exact⟨q,true,rfl,rfl⟩
 have hF:=oB c p.kind hc;rw[h1] at hF
 refine(aA @ak.eq_1)<|(nP)<|(zC)<|(zK hF (hfl:=.inr zr))<|(cO @ao.eq_1) ?_
 cases b
 ·exact(Ab)<|(zV)<|zo [.tmp 4] (hq:=by rw[dm,hb];rfl)
 refine(zC)<|(zK (gi p.name hp.name)) ?_
 cases h2:cB p.name
 ·exact(zR)<|(cN)<|zo [.tmp 4] (hq:=by rw[dm,hb,h2];rfl)
 cases h3:decide (p.made<0);rotate_left
 ·exact(cO h3)<|(cN)<|zo [.tmp 4] (hq:=by rw[dm,hb,h2,h3];rfl)
 cases h4:decide (p.since<p.made);rotate_left
 ·exact(cO (br h3 h4))<|(cN)<|zo [.tmp 4] (hq:=by rw[dm,hb,h2,h3,h4];rfl)
 cases h5:decide (40000<p.since);rotate_left
 ·exact(cO (cA h3 h4 h5))<|(cN)<|zo [.tmp 4] (hq:=by rw[dm,hb,h2,h3,h4,h5];rfl)
 cases h6:decide (60<(p.props.length:Int));rotate_left
 ·exact(cO (jB h3 h4 h5 h6))<|(cN)<|zo [.tmp 4] (hq:=by rw[dm,hb,h2,h3,h4,h5,h6];rfl)
 refine(cO (jB h3 h4 h5 h6))<|(zN) ?_
 have hv:dm c p=(p.props.all pa&&(ec (p.props.map bN.key)&&(tL p.l1 p.l2&&(tL p.l3 p.l4&&tL p.l5 p.l6)))):=by rw[dm,hb,h2,h3,h4,h5,h6];rfl
 refine(zV)<|(zs) ?_;refine zL p.props (λk=>p.props.all pa=(p.props.drop k).all pa) (λk=>[(3,.ptr 1 0),(5,.fn 178 [] []),(6,.fn 179 [] []),(50,an 2 p.props aZ),(51,aa p.props.length),(52,aa k)]) (λk=>[.gone,.cells (ak p)]) (bK @ak.eq_1) ge ?_;intro k hk hall;refine zT p.props k ?_ ?_;rintro rfl;rotate_left;intro x hx hlt;rotate_left
 ·refine(fC) ?_;rw[bw] at hall
  refine(jH @ak.eq_1)<|(zK (Ht p.props hlen)) ?_
  cases g1:ec (p.props.map bN.key)
  ·exact(zR)<|zo [.tmp 4] (hq:=by rw[hv,hall,g1];rfl)
  refine(zQ)<|(zK (CI p.l1 p.l2)) ?_
  cases g2:tL p.l1 p.l2
  ·exact(zR)<|zo [.tmp 4] (hq:=by rw[hv,hall,g1,g2];rfl)
  refine(zQ)<|(zK (CI p.l3 p.l4)) ?_
  cases g3:tL p.l3 p.l4
  ·exact(zR)<|zo [.tmp 4] (hq:=by rw[hv,hall,g1,g2,g3];rfl)
  exact(zQ)<|(zK (CI p.l5 p.l6))<|(zR)<|zo [.tmp 4] (hq:=by rw[hv,hall,g1,g2,g3];rfl)
 rw[QT hx] at hall
 refine(gJ)<|(aA (jB hlt (aH (e:=2) (enc:=aZ) ce hx) @aZ.eq_1 @ak.eq_1))<|(zC)<|(zK (Qw x (hp.prop x (mem_iff_getElem?.2 ⟨k,hx⟩)).1)) ?_
 cases g1:pa x
 ·exact(zR)<|(cN)<|zo [.tmp 4] (hq:=by rw[hv,hall,g1];rfl)
 ·refine(zR)<|(zN)<|(aA (zi hlt hlen)) ?_;refine zX hlt (bK @ak.eq_1) (show p.props.all pa=(p.props.drop (k+1)).all pa by rw[hall,g1];rfl)
end Go.Proofs
