/- A part of the texts of this claim: every theorem says what it proves, with its conditions. -/
import Derived.Test.YtnaiockballhaaaGreatA19
set_option linter.unusedSimpArgs false
set_option linter.unusedVariables false
set_option linter.unusedSectionVars false
open List (getElem?_map mem_append mem_cons_self all_eq_true length_map mem_cons_of_mem mem_filter mem_map getElem?_cons_succ getElem?_cons_zero map_cons mem_iff_getElem? mem_singleton getElem?_inj mem_range nodup_cons map_nil range)
open Nat (blt zero_add beq le_refl ble)
open Option (bind_some map_some)
open Bool (and_eq_true)
open Array (toList_append)
namespace Go.Ev
noncomputable section
section
variable {θ θ':Nat->Loc} {ρ ρ0 ρ':jP} {P:Program} {h0:En} {h h1:H} {S S' S0:List SO}
theorem qg{l:List (AV×AV×Nat)}{bs:List Nat}(hbs:l.map (·.2.2)=bs){j:Nat}{e:AV×AV×Nat}(he:l[j]?=some e):bs.getD j 0=e.2.2:=by
 rw[<-hbs,List.getD_eq_getElem?_getD,getElem?_map,he];rfl
theorem born_inj{l:List (AV×AV×Nat)}{c:Nat}(hb:mW l c){i j:Nat}{e e':AV×AV×Nat}(hi:l[i]?=some e)(hj:l[j]?=some e')(h:e.2.2=e'.2.2):i=j:=by
 have h1:(l.map (·.2.2))[i]?=some e.2.2:=by rw[getElem?_map,hi];rfl
 have h2:(l.map (·.2.2))[j]?=some e.2.2:=by rw[getElem?_map,hj,h];rfl
 have hl:=bl h1;exact(getElem?_inj hl hb.1).1 (h1.trans h2.symm)
theorem yg(b:Nat):∀(l:List Nat),seenIn b l=true↔b∈l
 | []=>by simp[seenIn]
 | x::l=>by
  simp only[seenIn,Bool.or_eq_true,yg b l,List.mem_cons];constructor
  ·rintro(h | h)
   ·exact .inl (cP h).symm
   ·exact .inr h
  ·rintro(h | h)
   ·exact .inl (KV h.symm)
   ·exact .inr h
theorem A2{id kn c:Nat}{l:List (AV×AV×Nat)}{bs pos:List Nat}(hg:h.aQ.get id=some (.iE (some kn) c (pos.map λj=>bs.getD j 0) c))(hm:h.mapOf kn=some (l,c))(hb:mW l c)(hbs:l.map (·.2.2)=bs)(hp:∀j∈pos,j<l.length):
 ∃outs,xX h (.ptr (some (id,0))) false=some outs/\∀x∈outs,(x=(.bI [.bool false],h)/\∀j,j<l.length->j∈pos)\/
  ∃j k v,j<l.length/\j∉pos/\x=(.bI [.bool true,k,v],h.set id (.iE (some kn) c ((pos++[j]).map λj=>bs.getD j 0) c)):=by
 have hc:(!(pos.map λj=>bs.getD j 0).isEmpty&&(!l.isEmpty&&l.all (λe=>ble c e.2.2)))=false:=by
  cases hl:l with
  | nil=>simp
  | cons a r=>
   have hall:(a::r).all (λe=>ble c e.2.2)=false:=by
    rw[List.all_eq_false];refine⟨a,mem_cons_self ..,?_⟩;have:=hb.2 a (by rw[hl];exact mem_cons_self ..);intro hh;have:=iO hh;omega
   rw[hall];simp
 have hnx:xX h (.ptr (some (id,0))) false=some (o8 h id kn c (pos.map λj=>bs.getD j 0) c ((l.filter λe=>!(seenIn e.2.2 (pos.map λj=>bs.getD j 0))).filter λe=>blt e.2.2 c) ((l.filter λe=>!(seenIn e.2.2 (pos.map λj=>bs.getD j 0))).filter λe=>!(blt e.2.2 c))):=by
  simp only[xX,hg,hm,bind_some];rw[hc,ao]
 refine⟨_,hnx,?_⟩;intro x hx;unfold o8 at hx
 have hun:∀j e,l[j]?=some e->seenIn e.2.2 (pos.map λj=>bs.getD j 0)=false->j∉pos:=by
  intro j e he hs hj;have:seenIn e.2.2 (pos.map λj=>bs.getD j 0)=true:=(yg _ _).2 (mem_map.2 ⟨j,hj,qg hbs he⟩);rw[this] at hs;cases hs
 rcases mem_append.1 hx with hx | hx
 ·left;cases he:((l.filter λe=>!(seenIn e.2.2 (pos.map λj=>bs.getD j 0))).filter λe=>blt e.2.2 c).isEmpty
  ·rw[he,ao] at hx;cases hx
  ·rw[he,ah] at hx;refine⟨mem_singleton.1 hx,λj hj=>?_⟩;rw[List.isEmpty_iff] at he;have hlj:l[j]?=some l[j]:=List.getElem?_eq_getElem hj;apply Classical.byContradiction;intro hn
   have hmem:l[j]∈(l.filter λe=>!(seenIn e.2.2 (pos.map λj=>bs.getD j 0))).filter λe=>blt e.2.2 c:=by
    refine mem_filter.2 ⟨mem_filter.2 ⟨List.getElem_mem hj,?_⟩,Nat.ble_eq_true_of_le (hb.2 _ (List.getElem_mem hj))⟩;cases hs:seenIn l[j].2.2 (pos.map λj=>bs.getD j 0)
    ·rfl
    ·exfalso;obtain⟨j',hj',e⟩:=mem_map.1 ((yg _ _).1 hs);obtain⟨e',hlj'⟩:∃e',l[j']?=some e':=⟨_,List.getElem?_eq_getElem (hp j' hj')⟩;rw[qg hbs hlj'] at e;exact hn (born_inj hb hlj hlj' e.symm▸hj')
   rw[he] at hmem;cases hmem
 ·right;obtain⟨e,he,rfl⟩:=mem_map.1 hx
  have he':e∈l/\seenIn e.2.2 (pos.map λj=>bs.getD j 0)=false:=by
   rcases mem_append.1 he with he | he <;>
   ·have:=mem_filter.1 (mem_filter.1 he).1;exact⟨this.1,by simpa using this.2⟩
  obtain⟨j,hj⟩:=mem_iff_getElem?.1 he'.1;refine⟨j,e.1,e.2.1,bl hj,hun j e hj he'.2,?_⟩;rw[List.map_append,map_cons,map_nil,qg hbs hj]
theorem Ak:∀{l:List (AV×AV×Nat)} {j k:Nat} {e:AV×AV×Nat},(l.map (·.2.2)).Nodup->l[j]?=some e->jS e.2.2 l k=some (k+j)
 | [],j,k,e,_,he=>by simp at he
 | a::l,0,k,e,hn,he=>by
  simp only[getElem?_cons_zero,Option.some.injEq] at he;subst he;rw[jS,Nat.beq_refl];rfl
 | a::l,j+1,k,e,hn,he=>by
  simp only[getElem?_cons_succ] at he;rw[map_cons,nodup_cons] at hn;rw[jS]
  have hne:beq a.2.2 e.2.2=false:=by
   cases hb:beq a.2.2 e.2.2
   ·rfl
   ·exact absurd (cP hb▸List.mem_map_of_mem (f:=λx:AV×AV×Nat=>x.2.2) (List.mem_of_getElem? he)) hn.1
  rw[hne,ao,Ak hn.2 he]
  congr 1;omega
theorem xd{id kn c j:Nat}{l:List (AV×AV×Nat)}{bs pos:List Nat}{e:AV×AV×Nat}(hg:h.aQ.get id=some (.iE (some kn) c ((pos++[j]).map λj=>bs.getD j 0) c))(hm:h.mapOf kn=some (l,c))(hb:mW l c)(hbs:l.map (·.2.2)=bs)(he:l[j]?=some e):
 tV h (.ptr (some (id,0)))=some (.bI [e.1,e.2.1]):=by
 have hlast:((pos++[j]).map λj=>bs.getD j 0).getLast?=some e.2.2:=by
  rw[List.map_append,map_cons,map_nil,List.getLast?_append,qg hbs he];rfl
 simp only[tV,hg,hlast,hm,bind_some,Nat.beq_refl,ah];rw[Ak hb.1 he,bind_some,zero_add,he];rfl
theorem RS.put{o:Nat}{so so':SO}{ob':AO}(hR:RS θ ρ0 ρ h0 h S)(hS:S[o]?=some so)(hgn:so≠.gone)(hnew:mu θ ρ (h.set (θ o).id ob') (θ o) so'):RS θ ρ0 ρ h0 (h.set (θ o).id ob') (S.set o so'):=by
 obtain⟨hL,_⟩:=hR.obj o _ hS hgn
 have hidr:¬h0.pr (θ o).id:=by
  rcases hL.e with e | e<;>rw[e]
  ·exact hL.x.1
  ·exact hL.y.1
 have hg:∀v x,VS θ ρ v x->VS (gj θ o (θ o)) ρ v x:=λv x hv=>hv.ids λp=>by
  by_cases hp:p=o
  ·subst hp;rw[cz]
  ·rw[bY _ _ hp]
 have heq:gj θ o (θ o)=θ:=by
  funext p;by_cases hp:p=o
  ·subst hp;rw[cz]
  ·rw[bY _ _ hp]
 have get:∀j,j≠(θ o).id->(h.set (θ o).id ob').aQ.get j=h.aQ.get j:=λj hj=>bj _ _ hj
 have:=hR.yU (h':=h.set (θ o).id ob') (S':=S.set o so') (o:=o) (so':=so') (L':=θ o) (g:=λv=>v) (le_refl _) (λj hj=>get j (λe=>hidr (e▸hj))) (λ_ _=>rfl)
  (mL hR.lw (hR.ok.lo _ hidr)) (Nat.le_trans (dM _ _).1 hR.ln) hL hg
  (λp so1 hp h3 h4=>by
   have sp:=hR.sep p o so1 _ hp h3 h4 hS hgn;obtain⟨k,_⟩:=hR.obj p so1 h3 h4;refine⟨get _ ?_,rfl,sp⟩
   rcases k.e with e1 | e1<;>rcases hL.e with e2 | e2<;>rw[e1,e2]
   ·exact sp.xx
   ·exact sp.xy
   ·exact sp.yx
   ·exact sp.yy)
  (λid ob hi=>by
   obtain⟨r1,r2,r3⟩:=hR.row id ob hi;have:=r3 o _ hS hgn;refine⟨get _ ?_,this⟩
   rcases hL.e with e | e<;>rw[e]
   ·exact this.1
   ·exact this.2)
  (by rw[heq];exact hnew)
  (λp hp=>by
   rw[List.getElem?_set_ne (λh=>hp h.symm)]
   cases S[p]? with
   | none=>rfl
   | some s=>rw[map_some];exact congrArg some (sz s).symm)
  (by rw[List.getElem?_set_self (bl hS)])
 rw[heq] at this;exact this
theorem RS.Ri{o:Nat}{so so':SO}(hR:RS θ ρ0 ρ h0 h S)(hS:S[o]?=some so)(hgn:so≠.gone)(hnew:mu θ ρ h (θ o) so->mu θ ρ h (θ o) so'):RS θ ρ0 ρ h0 h (S.set o so'):=by
 have own:∀p s,(S.set o so')[p]?=some s->(p=o/\s=so')\/(p≠o/\S[p]?=some s):=by
  intro p s hp;by_cases e:p=o
  ·subst e;rw[List.getElem?_set_self (bl hS)] at hp;cases hp;exact .inl ⟨rfl,rfl⟩
  ·rw[List.getElem?_set_ne (λh=>e h.symm)] at hp;exact .inr ⟨e,hp⟩
 refine⟨hR.ok,hR.nx,hR.ob,hR.fm,hR.lw,hR.ln,?_,?_,?_,hR.lJ⟩
 ·intro p s hp hg
  rcases own p s hp with⟨rfl,rfl⟩ | ⟨_,hp'⟩
  ·obtain⟨k1,k2⟩:=hR.obj p _ hS hgn;exact⟨k1,hnew k2⟩
  ·exact hR.obj p s hp' hg
 ·intro p q s s' hpq hp hg hq hg'
  have a:∃s0,S[p]?=some s0/\s0≠.gone:=by
   rcases own p s hp with⟨rfl,rfl⟩ | ⟨_,hp'⟩
   ·exact⟨_,hS,hgn⟩
   ·exact⟨_,hp',hg⟩
  have b:∃s0,S[q]?=some s0/\s0≠.gone:=by
   rcases own q s' hq with⟨rfl,rfl⟩ | ⟨_,hp'⟩
   ·exact⟨_,hS,hgn⟩
   ·exact⟨_,hp',hg'⟩
  obtain⟨s0,a1,a2⟩:=a;obtain⟨s1,b1,b2⟩:=b;exact hR.sep p q s0 s1 hpq a1 a2 b1 b2
 ·intro id ob hi;obtain⟨r1,r2,r3⟩:=hR.row id ob hi;refine⟨r1,r2,λp s hp hg=>?_⟩
  rcases own p s hp with⟨rfl,rfl⟩ | ⟨_,hp'⟩
  ·exact r3 p _ hS hgn
  ·exact r3 p s hp' hg
theorem B3{t:TypeId}(h:gV P t=.map):∃k e,P.underlying t=some (.map k e):=by
 unfold gV at h
 split at h<;>first | (cases h;done) | exact⟨_,_,by assumption⟩
variable {ro:Option Nat} {all:List Oper} {o:Oper} {l:List Oper} {f:Fm} {n d:Nat} {ds:List jd} {K:en->Prop} {x:Operand} {ks:List AV} {vs:List SV} {bs pos:List Nat} {c i:Nat}
theorem aM.Rg{t:TypeId}(hst:eH all n [o]=true)(hop:o.op=.range t x)(hdst:o.dst=some d)(hw:da all f o.guard=some true)(hx:eY f x=some (.im ks vs))(ht:gV P t=.map)
 (hk:∀bs c,bs.length=ks.length->aM P ro all l ⟨(d,.ptr S.length 0)::dz S.length f,n,gi S (.rI ks vs bs c []),ds⟩ K):aM P ro all (o::l) ⟨f,n,S,ds⟩ K:=by
 rintro ρ0 h0 ⟨af,n',h,ds'⟩ ⟨rfl,rfl,θ,ρ,hR,hF⟩
 have hd:blt d n'=true:=by
  have:=(eQ hst).1;rw[hdst] at this;exact this
 obtain⟨a,ha,ka⟩:=bL hF hx;rw[VS,GS] at ka;obtain⟨kn,lm,c,rfl,h1,h2,h3⟩:=ka;obtain⟨kt,et,hu⟩:=B3 ht
 have hm:h.mapOf kn=some (lm,c):=by unfold H.mapOf;rw[(hR.row kn _ h1).2.1]
 have hrun:ef P (dL af n') h (.range t x)=some [(some (.ptr (some (h.next,0))),{ h with aQ:=h.aQ.put h.next (some (.iE (some kn) c [] c)),next:=h.next+1 })]:=by
  rw[EI,show ev (dL af n') x=_ from ha,bind_some];simp only[uC,hu,hm,map_some,H.newObj]
 refine .v hop hdst (cX hF (ee hst hw)) rfl hd hrun ?_;have hR1:=hR.L9 (so:=.rI ks vs (lm.map (·.2.2)) c []) (ob:=.iE (some kn) c [] c) ⟨kn,lm,h1,⟨h2.1,h2.2.1,λp hp=>by cases hp;exact⟨rfl,rfl⟩⟩,h3,cR _ _ _⟩;refine hk (lm.map (·.2.2)) c (by rw[length_map,<-h2.1,length_map]) ρ0 h0 _ ⟨rfl,rfl,_,ρ,hR1,?_⟩;exact hF.kill (kill:=some S.length) (λv x hv=>iD (λp hp=>bY _ _ hp) hv) (fQ hd) (by rw[VS,cz])
theorem aM.Rh{t:TypeId}{oo:Nat}{b:Option (List Nat×Nat)}(hst:eH all n [o]=true)(hop:o.op=.range t x)(hdst:o.dst=some d)(hw:da all f o.guard=some true)(hx:eY f x=some (.map oo))(hS:S[oo]?=some (.map ks vs b))(ht:gV P t=.map)
 (hk:∀bs c,bs.length=ks.length->aM P ro all l ⟨(d,.ptr S.length 0)::dz S.length f,n,gi (S.set oo (.map ks vs (some (bs,c)))) (.iter (.map oo) bs c []),ds⟩ K):aM P ro all (o::l) ⟨f,n,S,ds⟩ K:=by
 rintro ρ0 h0 ⟨af,n',h,ds'⟩ ⟨rfl,rfl,θ,ρ,hR,hF⟩
 have hd:blt d n'=true:=by
  have:=(eQ hst).1;rw[hdst] at this;exact this
 obtain⟨a,ha,ka⟩:=bL hF hx;rw[VS] at ka;subst ka;obtain⟨_,lm,c,h1,h2,h3⟩:=hR.obj oo _ hS (λh=>by cases h);obtain⟨kt,et,hu⟩:=B3 ht
 have hm:h.mapOf (θ oo).id=some (lm,c):=by unfold H.mapOf;rw[h1]
 have hrun:ef P (dL af n') h (.range t x)=some [(some (.ptr (some (h.next,0))),{ h with aQ:=h.aQ.put h.next (some (.iE (some (θ oo).id) c [] c)),next:=h.next+1 })]:=by
  rw[EI,show ev (dL af n') x=_ from ha,bind_some];simp only[uC,hu,hm,map_some,H.newObj]
 refine .v hop hdst (cX hF (ee hst hw)) rfl hd hrun ?_;have hR0:RS θ ρ0 ρ h0 h (S.set oo (.map ks vs (some (lm.map (·.2.2),c)))):=hR.Ri hS (λh=>by cases h) λ_=>⟨lm,c,h1,⟨h2.1,h2.2.1,λp hp=>by cases hp;exact⟨rfl,rfl⟩⟩,h3⟩;have hlen:(S.set oo (.map ks vs (some (lm.map (·.2.2),c)))).length=S.length:=List.length_set;have hlt:=bl hS
 have hkm:bf S.length (.map oo)=.map oo:=by
  unfold bf;rw[names,decide_eq_false (by omega)];rfl
 have hR1:=hR0.L9 (so:=.iter (.map oo) (lm.map (·.2.2)) c []) (ob:=.iE (some (θ oo).id) c [] c) (by
  rw[hlen,bP,hkm]
  exact⟨(θ oo).id,by rw[VS,bY _ _ (by omega)],cR _ _ _⟩)
 rw[hlen] at hR1;refine hk (lm.map (·.2.2)) c (by rw[length_map,<-h2.1,length_map]) ρ0 h0 _ ⟨rfl,rfl,_,ρ,hR1,?_⟩;exact hF.kill (kill:=some S.length) (λv x hv=>iD (λp hp=>bY _ _ hp) hv) (fQ hd) (by rw[VS,cz])
theorem aM.Rb(hst:eH all n [o]=true)(hop:o.op=.next x false)(hdst:o.dst=some d)(hw:da all f o.guard=some true)(hx:eY f x=some (.ptr i 0))(hS:S[i]?=some (.rI ks vs bs c pos))(hp:∀j∈pos,j<ks.length)
 (hk0:(∀j,j<ks.length->j∈pos)->aM P ro all l ⟨(d,.bI [.a (.bool false)])::f,n,S,ds⟩ K)
 (hk1:∀j,j<ks.length->j∉pos->aM P ro all l ⟨(d,.bI [.a (.bool true),.any,.any])::f,n,S.set i (.rI ks vs bs c (pos++[j])),ds⟩ K):aM P ro all (o::l) ⟨f,n,S,ds⟩ K:=by
 rintro ρ0 h0 ⟨af,n',h,ds'⟩ ⟨rfl,rfl,θ,ρ,hR,hF⟩
 have hd:blt d n'=true:=by
  have:=(eQ hst).1;rw[hdst] at this;exact this
 obtain⟨a,ha,ka⟩:=bL hF hx;rw[VS] at ka;subst ka;obtain⟨_,kn,lm,h1,h2,h3,h4⟩:=hR.obj i _ hS (λh=>by cases h)
 have hm:h.mapOf kn=some (lm,c):=by unfold H.mapOf;rw[(hR.row kn _ h1).2.1]
 have hlen:lm.length=ks.length:=by rw[<-h2.1,length_map]
 obtain⟨outs,ho,hall⟩:=A2 h4 hm h2.2.1 (h2.2.2 _ rfl).1 (λj hj=>by rw[hlen];exact hp j hj);refine .n hop hdst (cX hF (ee hst hw)) rfl hd (by rw[IY (show ev (dL af n') x=_ from ha),ho];rfl) ?_;intro y hy;obtain⟨z,hz,rfl⟩:=mem_map.1 hy
 rcases hall z hz with⟨rfl,hq⟩ | ⟨j,k,v,hj,hn,rfl⟩
 ·exact hk0 (λj hj=>hq j (by rw[hlen];exact hj)) ρ0 h0 _ ⟨rfl,rfl,θ,ρ,hR,hF.put (fQ hd) (by rw[VS];exact⟨_,rfl,by rw[aL];exact⟨_,_,rfl,by rw[VS],by rw[bg]⟩⟩)⟩
 ·refine hk1 j (by rw[<-hlen];exact hj) hn ρ0 h0 _ ⟨rfl,rfl,θ,ρ,hR.put hS (λh=>by cases h) ⟨kn,lm,h1,h2,h3,cR _ _ _⟩,hF.put (fQ hd) ?_⟩;rw[VS];refine⟨_,rfl,?_⟩;rw[aL];refine⟨_,_,rfl,by rw[VS],?_⟩;rw[aL];refine⟨_,_,rfl,by rw[VS];trivial,?_⟩;rw[aL];exact⟨_,_,rfl,by rw[VS];trivial,by rw[bg]⟩
theorem aM.Rc{oo:Nat}(hst:eH all n [o]=true)(hop:o.op=.next x false)(hdst:o.dst=some d)(hw:da all f o.guard=some true)(hx:eY f x=some (.ptr i 0))(hS:S[i]?=some (.iter (.map oo) bs c pos))(hM:S[oo]?=some (.map ks vs (some (bs,c))))(hp:∀j∈pos,j<ks.length)
 (hk0:(∀j,j<ks.length->j∈pos)->aM P ro all l ⟨(d,.bI [.a (.bool false)])::f,n,S,ds⟩ K)
 (hk1:∀j,j<ks.length->j∉pos->aM P ro all l ⟨(d,.bI [.a (.bool true),.any,.any])::f,n,S.set i (.iter (.map oo) bs c (pos++[j])),ds⟩ K):aM P ro all (o::l) ⟨f,n,S,ds⟩ K:=by
 rintro ρ0 h0 ⟨af,n',h,ds'⟩ ⟨rfl,rfl,θ,ρ,hR,hF⟩
 have hd:blt d n'=true:=by
  have:=(eQ hst).1;rw[hdst] at this;exact this
 obtain⟨a,ha,ka⟩:=bL hF hx;rw[VS] at ka;subst ka;obtain⟨_,kn,h3,h4⟩:=hR.obj i _ hS (λh=>by cases h);obtain⟨_,lm,c',q1,q2,q3⟩:=hR.obj oo _ hM (λh=>by cases h);rw[VS] at h3;simp only[AV.map.injEq,Option.some.injEq] at h3;subst h3;obtain⟨hb1,rfl⟩:=q2.2.2 _ rfl
 have hm:h.mapOf (θ oo).id=some (lm,c'):=by unfold H.mapOf;rw[q1]
 have hlen:lm.length=ks.length:=by rw[<-q2.1,length_map]
 obtain⟨outs,ho,hall⟩:=A2 h4 hm q2.2.1 hb1 (λj hj=>by rw[hlen];exact hp j hj);refine .n hop hdst (cX hF (ee hst hw)) rfl hd (by rw[IY (show ev (dL af n') x=_ from ha),ho];rfl) ?_;intro y hy;obtain⟨z,hz,rfl⟩:=mem_map.1 hy
 rcases hall z hz with⟨rfl,hq⟩ | ⟨j,k,v,hj,hn,rfl⟩
 ·exact hk0 (λj hj=>hq j (by rw[hlen];exact hj)) ρ0 h0 _ ⟨rfl,rfl,θ,ρ,hR,hF.put (fQ hd) (by rw[VS];exact⟨_,rfl,by rw[aL];exact⟨_,_,rfl,by rw[VS],by rw[bg]⟩⟩)⟩
 ·refine hk1 j (by rw[<-hlen];exact hj) hn ρ0 h0 _ ⟨rfl,rfl,θ,ρ,hR.put hS (λh=>by cases h) ⟨(θ oo).id,by rw[VS],cR _ _ _⟩,hF.put (fQ hd) ?_⟩;rw[VS];refine⟨_,rfl,?_⟩;rw[aL];refine⟨_,_,rfl,by rw[VS],?_⟩;rw[aL];refine⟨_,_,rfl,by rw[VS];trivial,?_⟩;rw[aL];exact⟨_,_,rfl,by rw[VS];trivial,by rw[bg]⟩
theorem aM.Q7{j:Nat}{k:AV}{v:SV}(hst:eH all n [o]=true)(hop:o.op=.entry x)(hdst:o.dst=some d)(hw:da all f o.guard=some true)(hx:eY f x=some (.ptr i 0))(hS:S[i]?=some (.rI ks vs bs c (pos++[j])))(hkj:ks[j]?=some k)(hvj:vs[j]?=some v)
 (hk:aM P ro all l ⟨(d,.bI [yT k,v])::f,n,S,ds⟩ K):aM P ro all (o::l) ⟨f,n,S,ds⟩ K:=by
 rintro ρ0 h0 ⟨af,n',h,ds'⟩ ⟨rfl,rfl,θ,ρ,hR,hF⟩
 have hd:blt d n'=true:=by
  have:=(eQ hst).1;rw[hdst] at this;exact this
 obtain⟨a,ha,ka⟩:=bL hF hx;rw[VS] at ka;subst ka;obtain⟨_,kn,lm,h1,h2,h3,h4⟩:=hR.obj i _ hS (λh=>by cases h)
 have hm:h.mapOf kn=some (lm,c):=by unfold H.mapOf;rw[(hR.row kn _ h1).2.1]
 rw[<-h2.1,getElem?_map] at hkj;obtain⟨e,he,rfl⟩:=au hkj;obtain⟨y,hy,ky⟩:=h3.get hvj;rw[getElem?_map,he] at hy;simp only[map_some,Option.some.injEq] at hy;subst hy;refine .v hop hdst (cX hF (ee hst hw)) rfl hd (by rw[EH,show ev (dL af n') x=_ from ha,bind_some,xd h4 hm h2.2.1 (h2.2.2 _ rfl).1 he];rfl) ?_;refine hk ρ0 h0 _ ⟨rfl,rfl,θ,ρ,hR,hF.put (fQ hd) ?_⟩;rw[VS];refine⟨_,rfl,?_⟩;rw[aL];refine⟨_,_,rfl,ym _,?_⟩;rw[aL];exact⟨_,_,rfl,ky.vs,by rw[bg]⟩
theorem aM.Q8{oo j:Nat}{k:AV}{v:SV}(hst:eH all n [o]=true)(hop:o.op=.entry x)(hdst:o.dst=some d)(hw:da all f o.guard=some true)(hx:eY f x=some (.ptr i 0))(hS:S[i]?=some (.iter (.map oo) bs c (pos++[j])))(hM:S[oo]?=some (.map ks vs (some (bs,c))))(hkj:ks[j]?=some k)(hvj:vs[j]?=some v)
 (hk:aM P ro all l ⟨(d,.bI [yT k,v])::f,n,S,ds⟩ K):aM P ro all (o::l) ⟨f,n,S,ds⟩ K:=by
 rintro ρ0 h0 ⟨af,n',h,ds'⟩ ⟨rfl,rfl,θ,ρ,hR,hF⟩
 have hd:blt d n'=true:=by
  have:=(eQ hst).1;rw[hdst] at this;exact this
 obtain⟨a,ha,ka⟩:=bL hF hx;rw[VS] at ka;subst ka;obtain⟨_,kn,h3,h4⟩:=hR.obj i _ hS (λh=>by cases h);obtain⟨_,lm,c',q1,q2,q3⟩:=hR.obj oo _ hM (λh=>by cases h);rw[VS] at h3;simp only[AV.map.injEq,Option.some.injEq] at h3;subst h3;obtain⟨hb1,rfl⟩:=q2.2.2 _ rfl
 have hm:h.mapOf (θ oo).id=some (lm,c'):=by unfold H.mapOf;rw[q1]
 rw[<-q2.1,getElem?_map] at hkj;obtain⟨e,he,rfl⟩:=au hkj;obtain⟨y,hy,ky⟩:=q3.get hvj;rw[getElem?_map,he] at hy;simp only[map_some,Option.some.injEq] at hy;subst hy;refine .v hop hdst (cX hF (ee hst hw)) rfl hd (by rw[EH,show ev (dL af n') x=_ from ha,bind_some,xd h4 hm q2.2.1 hb1 he];rfl) ?_;refine hk ρ0 h0 _ ⟨rfl,rfl,θ,ρ,hR,hF.put (fQ hd) ?_⟩;rw[VS];refine⟨_,rfl,?_⟩;rw[aL];refine⟨_,_,rfl,ym _,?_⟩;rw[aL];exact⟨_,_,rfl,ky,by rw[bg]⟩
end
section
variable {θ θ':Nat->Loc} {ρ ρ0 ρ':jP} {P:Program} {h0:En} {h h1:H} {S S' S0:List SO}
def si(S:List SO)(r:Nat->Nat):List SO->List Nat->Prop
 | [],_=>True
 | so::l,o::os=>(so=.gone\/S[o]?=some (nO r so))/\si S r l os
 | _::_,[]=>False
theorem IE{r:Nat->Nat}:∀{S0:List SO} {os:List Nat},si S r S0 os->∀(i:Nat) so,S0[i]?=some so->so≠.gone->∃o,os[i]?=some o/\S[o]?=some (nO r so)
 | [],_,_,i,so,h,_=>by simp at h
 | s::l,o::os,hh,0,so,h,hg=>by
  simp only[getElem?_cons_zero,Option.some.injEq] at h;subst h;exact⟨o,rfl,hh.1.resolve_left hg⟩
 | s::l,o::os,hh,i+1,so,h,hg=>by
  simp only[getElem?_cons_succ] at h ⊢;exact IE hh.2 i so h hg
 | _::_,[],hh,_,_,_,_=>hh.elim
theorem Fg.rn(os:List Nat){f f':Fm}{n:Nat}{ds:List jd}(hnd:os.Nodup)(hK:os.length=S'.length)(hos:si S (jg os S.length) S' os)(hf:qC f (Oi (jg os S.length) f')):Fg ⟨f,n,S,ds⟩ ⟨f',n,S',ds⟩:=by
 refine⟨rfl,?_⟩;rintro ρ0 h0 ⟨af,n',h,ds'⟩ ⟨rfl,rfl,θ,ρ,hR,hF⟩;obtain⟨r,hr⟩:∃r,r=jg os S.length:=⟨_,rfl⟩;rw[<-hr] at hos hf
 have hmem:∀(i:Nat) so,S'[i]?=some so->so≠.gone->S[r i]?=some (nO r so):=by
  intro i so hi hg;obtain⟨o,h2,h3⟩:=IE hos i so hi hg;rw[hr,lZ h2,<-hr];exact h3
 have hinj:∀i j,i<S'.length->j<S'.length->r i=r j->i=j:=by
  intro i j hi hj e;rw[hr,lZ (List.getElem?_eq_getElem (show i<os.length by omega)),lZ (List.getElem?_eq_getElem (show j<os.length by omega))] at e;exact(List.getElem_inj hnd).1 e
 refine⟨rfl,rfl,λp=>θ (r p),ρ,⟨hR.ok,hR.nx,hR.ob,hR.fm,hR.lw,hR.ln,?_,?_,?_,hR.lJ⟩,λi=>?_,hF.u⟩
 ·intro o so h1 h2;obtain⟨k1,k2⟩:=hR.obj _ _ (hmem o so h1 h2) (eP.2 h2);exact⟨k1,(mu.rn r).1 k2⟩
 ·intro o o' so so' hne h1 h2 h3 h4;exact hR.sep _ _ _ _ (λe=>hne (hinj o o' (bl h1) (bl h3) e)) (hmem o so h1 h2) (eP.2 h2) (hmem o' so' h3 h4) (eP.2 h4)
 ·intro id ob hi;obtain⟨r1,r2,r3⟩:=hR.row id ob hi;exact⟨r1,r2,λo so h1 h2=>r3 _ _ (hmem o so h1 h2) (eP.2 h2)⟩
 ·have hv:=hF.v i
  rcases hf.get i with e | e
  ·rw[wi] at e;rw[<-e] at hv;exact(VS.rn r).1 hv
  ·rw[wi] at e
   have:aR f' i=.any:=by
    cases hq:aR f' i<;>rw[hq] at e<;>first | rfl | (simp[fv] at e;done)
   show VS _ _ (aR f' i) _;rw[this,VS];trivial
theorem Fg.wk{f f':Fm}{n:Nat}{ds:List jd}(hf:yV [] f f'):Fg ⟨f,n,S,ds⟩ ⟨f',n,S,ds⟩:=by
 refine⟨rfl,?_⟩;rintro ρ0 h0 ⟨af,n',h,ds'⟩ ⟨rfl,rfl,θ,ρ,hR,hF⟩;refine⟨rfl,rfl,θ,ρ,hR,λi=>?_,hF.u⟩;have hv:=hF.v i
 rcases hf.get i with e | e
 ·show VS θ ρ (aR f' i) _;rw[e];exact hv
 ·have:=Wk.ok hR.Cc e hv;rw[x9] at this;exact this.vs
theorem Fg.M4(o:Nat){f:Fm}{n:Nat}{ds:List jd}{ks:List AV}{vs:List SV}{b:Option (List Nat×Nat)}(hS:S[o]?=some (.map ks vs b)):Fg ⟨f,n,S,ds⟩ ⟨f,n,S.set o (.map ks vs none),ds⟩:=by
 refine⟨rfl,?_⟩;rintro ρ0 h0 ⟨af,n',h,ds'⟩ ⟨rfl,rfl,θ,ρ,hR,hF⟩;exact⟨rfl,rfl,θ,ρ,hR.Ri hS (λh=>by cases h) λ⟨l,c,h1,h2,h3⟩=>⟨l,c,h1,⟨h2.1,h2.2.1,λp hp=>by cases hp⟩,h3⟩,hF⟩
section
variable {K U:Type} [DecidableEq K] {kv:K->AV} {uv:U->SV} {k:K} {l:List (K×U)} {t kt et:TypeId} {o:Nat} {x:SV}
def lj(k:K):List (K×U)->List (K×U)
 | []=>[]
 | e::l=>if k=e.1 then l else e::lj k l
theorem DO:∀{l:List (K×U)},dh k l=false->lj k l=l
 | [],_=>rfl
 | e::l,h=>by
  simp only[dh,List.any_cons,Bool.or_eq_false_iff,decide_eq_false_iff_not] at h;rw[lj,if_neg h.1,DO (by simpa [dh] using h.2)]
theorem DP:∀{l:List (K×U)} {j i:Nat},rm k l j=some i->lj k l=l.eraseIdx (i-j)
 | [],_,_,h=>by cases h
 | e::l,j,i,h=>by
  have hle:=(j9 h).1;unfold rm at h;split at h
  ·rename_i hk;cases h;rw[lj,if_pos hk,Nat.sub_self];rfl
  ·rename_i hk;have h2:=(j9 h).1;rw[lj,if_neg hk,DP h,show i-j=(i-(j+1))+1 by omega,List.eraseIdx_cons_succ]
theorem kG:∀{l:List (K×U)},(l.map (·.1)).Nodup->lj k l=l.filter λe=>!decide (e.1=k)
 | [],_=>rfl
 | e::l,h=>by
  rw[map_cons,nodup_cons] at h;by_cases hk:k=e.1
  ·rw[lj,if_pos hk,List.filter_cons,if_neg (by simp[hk])];symm;rw[List.filter_eq_self];intro x hx;have:x.1≠k:=λhe=>h.1 (by rw[<-hk,<-he];exact List.mem_map_of_mem hx);simp[this]
  ·rw[lj,if_neg hk,List.filter_cons,if_pos (by simp;exact λh=>hk h.symm),kG h.2]
theorem PZ(hm:di P t=some (kt,et))(hk:wz P kt kv)(hS:S[o]?=some (bO kv uv l))(hf:cH x=some (kv k)):
 JO P S t (.map o) x=some (S.set o (bO kv uv (lj k l))):=by
 unfold JO;rw[hm,bind_some];simp only;rw[hf,bind_some,hk.ck,ah,hS];simp only[bO];rw[nu hk,map_some]
 cases hp:rm k l 0 with
 | none=>
  rw[DO (lK hp)];simp only
  congr 1
  have hlt:=bl hS;apply List.ext_getElem?;intro i;by_cases e:i=o
  ·subst e;rw[List.getElem?_set_self hlt,hS];rfl
  ·rw[List.getElem?_set_ne (λh=>e h.symm)]
 | some i=>
  have:=DP hp;rw[Nat.sub_zero] at this;rw[this];simp only[Option.map_none]
  congr 2
  congr 1
  ·exact(eU _ _ _).symm
  ·exact(eU _ _ _).symm
end
end
theorem ov:∀(n:Nat) (l:List Nat),l.Nodup->(∀x∈l,x<n)->l.length<=n
 | 0,l,_,h=>by
  cases l with
  | nil=>exact le_refl _
  | cons a l=>exact absurd (h a mem_cons_self) (Nat.not_lt_zero _)
 | n+1,l,hn,h=>by
  by_cases hm:n∈l
  ·have h1:=ov n (l.erase n) (hn.erase n) (λx hx=>by
    have h2:=(hn.mem_erase_iff.1 hx);have:=h x h2.2;have:=h2.1
    omega)
   rw[List.length_erase_of_mem hm] at h1;have:0<l.length:=List.length_pos_of_mem hm;omega
  ·exact Nat.le_succ_of_le (ov n l hn λx hx=>by
    have:=h x hx;have:x≠n:=λe=>hm (e▸hx)
    omega)
theorem sN{n j:Nat}{pos:List Nat}(hn:pos.Nodup)(hp:∀x∈pos,x<n)(hj:j<n)(hne:j∉pos):(pos++[j]).Nodup/\(∀x∈pos++[j],x<n)/\pos.length<n:=by
 have h1:(pos++[j]).Nodup:=by
  rw[List.nodup_append];exact⟨hn,by simp,λa ha b hb=>by rw[mem_singleton.1 hb];exact λe=>hne (e▸ha)⟩
 have h2:∀x∈pos++[j],x<n:=λx hx=>by
  rcases mem_append.1 hx with hx | hx
  ·exact hp x hx
  ·rw[mem_singleton.1 hx];exact hj
 refine⟨h1,h2,?_⟩;have:=ov n _ h1 h2;rw[List.length_append] at this;exact this
section
variable {P:Program} {ro:Option Nat} {S S':List SO} {n:Nat} {ds:List jd}
theorem gH{f1 f2:Fm}:∀{l:List Operand},(∀x∈l,eY f1 x=eY f2 x)->ma f1 l=ma f2 l
 | [],_=>rfl
 | x::l,h=>by rw[ma,ma,h x mem_cons_self,gH λy hy=>h y (mem_cons_of_mem _ hy)]
theorem td{f1 f2:Fm}:∀{l:List (Nat×Operand)},(∀x∈l.map (·.2),eY f1 x=eY f2 x)->jE f1 l=jE f2 l
 | [],_=>rfl
 | (i,x)::l,h=>by rw[jE,jE,h x mem_cons_self,td λy hy=>h y (mem_cons_of_mem _ hy)]
theorem ry{f1 f2:Fm}{o:Option Operand}(h:∀x,o=some x->eY f1 x=eY f2 x):s9 f1 o=s9 f2 o:=by
 cases o with
 | none=>rfl
 | some x=>rw[s9,s9,h x rfl]
def kI:Op->Bool
 | .store _ _ _ | .mapUpdate _ _ _ _ | .insert _ _ _ _ | .call { callee:=.builtin .copy,.. }=>true
 | _=>false
theorem qv{f1 f2:Fm}{op:Op}(hrd:(m7 op||kI op)=true)(h:∀x∈op.operands.toList,eY f1 x=eY f2 x):db P f1 S op=db P f2 S op:=by
 cases op with
 | move x=>rw[db,db,h x (by simp[Op.operands])]
 | assign x=>rw[db,db,h x (by simp[Op.operands])]
 | pick c a b=>rw[db,db,h c (by simp[Op.operands]),h a (by simp[Op.operands]),h b (by simp[Op.operands])]
 | build tt ps=>rw[db,db,td λx hx=>h x (by simpa [Op.operands] using hx)]
 | nilCheck x=>rw[db,db,h x (by simp[Op.operands])]
 | binOp op xt x y yt=>rw[db,db,h x (by simp[Op.operands]),h y (by simp[Op.operands])]
 | unOp op xt x=>rw[db,db,h x (by simp[Op.operands])]
 | convert s d x=>rw[db,db,h x (by simp[Op.operands])]
 | fieldAddr s x fl=>rw[db,db,h x (by simp[Op.operands])]
 | field s x fl=>rw[db,db,h x (by simp[Op.operands])]
 | indexAddr t x i=>rw[db,db,h x (by simp[Op.operands]),h i (by simp[Op.operands])]
 | index t x i=>rw[db,db,h x (by simp[Op.operands]),h i (by simp[Op.operands])]
 | extract x i=>rw[db,db,h x (by simp[Op.operands])]
 | load t x=>rw[db,db,h x (by simp[Op.operands])]
 | lookup t x k ok=>rw[db,db,h x (by simp[Op.operands]),h k (by simp[Op.operands])]
 | slice t x lo hi mx=>
  rw[db,db,h x (by simp[Op.operands]),ry (o:=lo) λy hy=>h y (by subst hy;simp[Op.operands]),ry (o:=hi) λy hy=>h y (by subst hy;simp[Op.operands]),ry (o:=mx) λy hy=>h y (by subst hy;simp[Op.operands])]
 | makeFunc g first cap=>
  cases g with
  | func g=>rw[db,db,gH λx hx=>h x (by simp only[Op.operands,toList_append,mem_append];exact .inl hx),gH (l:=cap.toList) λx hx=>h x (by simp only[Op.operands,toList_append,mem_append];exact .inr hx)]
  | method nm=>rw[db,db,gH λx hx=>h x (by simp only[Op.operands,toList_append,mem_append];exact .inl hx),gH (l:=cap.toList) λx hx=>h x (by simp only[Op.operands,toList_append,mem_append];exact .inr hx)]
  | _=>simp[m7,kI] at hrd
 | call c=>
  obtain⟨callee,aS,ats⟩:=c
  cases callee with
  | builtin b=>rw[db,db,gH λx hx=>h x (by simp only[Op.operands,Call.operands,toList_append,mem_append];exact .inr hx)]
  | _=>simp[m7,kI] at hrd
 | store t a x=>rw[db,db,h a (by simp[Op.operands]),h x (by simp[Op.operands])]
 | mapUpdate t m k x=>rw[db,db,h m (by simp[Op.operands]),h k (by simp[Op.operands]),h x (by simp[Op.operands])]
 | insert t m k x=>rw[db,db,h m (by simp[Op.operands]),h k (by simp[Op.operands]),h x (by simp[Op.operands])]
 | _=>simp[m7,kI] at hrd
def PY(ol:List Oper):Nat->Nat->List Nat
 | 0,_=>[]
 | k+1,i=>match ol[i]? with
  | some o=>let l:=(o.after.toList.filter dep).map (·.on);l++l.flatMap (PY ol k)
  | none=>[]
def jh(ol:List Oper)(L:Nat->Prop):Prop:=∀j o,ol[j]?=some o->L j->∀e∈o.after.toList,dep e=true->L e.on
theorem BG{ol:List Oper}{L:Nat->Prop}(hc:jh ol L):∀{k i:Nat},(∀o,ol[i]?=some o->∀e∈o.after.toList,dep e=true->L e.on)->∀j∈PY ol k i,L j
 | 0,i,_,j,h=>by cases h
 | k+1,i,hi,j,h=>by
  rw[PY] at h
  cases ho:ol[i]? with
  | none=>rw[ho] at h;cases h
  | some o=>
   rw[ho] at h;simp only[mem_append,mem_map,List.mem_flatMap] at h
   rcases h with⟨e,he,rfl⟩ | ⟨x,⟨e,he,rfl⟩,hx⟩
   ·obtain⟨h1,h2⟩:=mem_filter.1 he;exact hi o ho e h1 h2
   ·obtain⟨h1,h2⟩:=mem_filter.1 he;have hl:=hi o ho e h1 h2;exact BG hc (i:=e.on) (λo' ho'=>hc e.on o' ho' hl) j hx
def LS(rs:List Oper):Bool:=
 (rs.all λo=>m7 o.op&&o.guard.isNone&&o.dst.isSome)&&decide (rs.map (·.dst)).Nodup &&
 rs.all λo=>(tmpsOf o).all λt=>(range rs.length).all λk=>(match rs[k]? with
  | some o'=>!(decide (o'.dst=some t))||(o.after.toList.any λe=>dep e&&beq e.on k)
  | none=>true)
theorem Bc{all:List Oper}:∀{rs:List Oper} {f f':Fm},(∀o∈rs,m7 o.op=true/\o.guard=none/\∃d,o.dst=some d)->(rs.map (·.dst)).Nodup->kP P all rs f S=([],f',S')->
 (∀t,(∀o∈rs,o.dst≠some t)->aR f' t=aR f t)/\∀(i:Nat) o d,rs[i]?=some o->o.dst=some d->∃fi,db P fi S o.op=some (aR f' d,S,none)/\(∀t,(∀o∈rs,o.dst≠some t)->aR fi t=aR f t)/\∀(k:Nat) o' t,k<i->rs[k]?=some o'->o'.dst=some t->aR fi t=aR f' t
 | [],f,f',_,_,h=>by
  simp only[kP,Prod.mk.injEq] at h;exact⟨λt _=>by rw[h.2.1],λi o d hi=>by simp at hi⟩
 | o::l,f,f',ha,hn,h=>by
  obtain⟨h1,h2,d,hd⟩:=ha o List.mem_cons_self;rw[List.map_cons,List.nodup_cons] at hn
  have hw:da all f o.guard=some true:=by rw[h2];rfl
  rw[kP,hw] at h;simp only at h
  cases hop:db P f S o.op with
  | none=>rw[hop] at h;simp at h
  | some q=>
   obtain⟨v,S1,kill⟩:=q;obtain⟨e1,e2⟩:=E9 h1 hop;rw[e1,e2] at hop;clear e1 e2 S1 kill;rw[hop] at h;simp only[se,hd,ia] at h;obtain⟨g1,g2⟩:=Bc (λo ho=>ha o (List.mem_cons_of_mem _ ho)) hn.2 h;have hdl:∀o'∈l,o'.dst≠some d:=λo' ho' e=>hn.1 (by rw[hd,<-e];exact List.mem_map_of_mem ho')
   have hfd:aR f' d=v:=by
    rw[g1 d hdl];show(if d=d then v else _)=v;rw[if_pos rfl]
   refine⟨λt ht=>?_,λi oo dd hi hdd=>?_⟩
   ·rw[g1 t λo' ho'=>ht o' (List.mem_cons_of_mem _ ho')];show(if d=t then v else aR f t)=_;rw[if_neg λe=>ht o List.mem_cons_self (by rw[hd,e])]
   ·cases i with
    | zero=>
     simp only[List.getElem?_cons_zero,Option.some.injEq] at hi;subst hi;rw[hd] at hdd;cases hdd;exact⟨f,by rw[hop,hfd],λ_ _=>rfl,λk _ _ hk=>absurd hk (Nat.not_lt_zero _)⟩
    | succ i=>
     simp only[List.getElem?_cons_succ] at hi;obtain⟨fi,q1,q2,q3⟩:=g2 i oo dd hi hdd;refine⟨fi,q1,λt ht=>?_,λk o' t hk hko ht=>?_⟩
     ·rw[q2 t λo' ho'=>ht o' (List.mem_cons_of_mem _ ho')];show(if d=t then v else aR f t)=_;rw[if_neg λe=>ht o List.mem_cons_self (by rw[hd,e])]
     ·cases k with
      | zero=>
       simp only[List.getElem?_cons_zero,Option.some.injEq] at hko;subst hko;rw[hd] at ht;cases ht;rw[q2 d hdl,hfd];show(if d=d then v else _)=v;rw[if_pos rfl]
      | succ k=>
       simp only[List.getElem?_cons_succ] at hko;exact q3 k o' t (by omega) hko ht
def vo(L:Nat->Prop)(i:Nat)(v:SV):SV:=@ite _ (L i) (Classical.propDecidable _) v .any
theorem cT{L:Nat->Prop}{i:Nat}{v:SV}(h:L i):vo L i v=v:=if_pos h
theorem iU{L:Nat->Prop}{i:Nat}{v:SV}(h:¬L i):vo L i v=.any:=if_neg h
def kF(L:Nat->Prop)(f f':Fm):Nat->List Oper->Fm
 | _,[]=>f
 | i,o::l=>match o.dst with
  | some d=>(d,vo L i (aR f' d))::kF L f f' (i+1) l
  | none=>kF L f f' (i+1) l
theorem gu{f f':Fm}{L:Nat->Prop}{t:Nat}:∀{l:List Oper} {i:Nat},(∀o∈l,o.dst≠some t)->aR (kF L f f' i l) t=aR f t
 | [],_,_=>rfl
 | o::l,i,h=>by
  rw[kF];have ih:=gu (f:=f) (f':=f') (L:=L) (l:=l) (i:=i+1) λo' ho'=>h o' (mem_cons_of_mem _ ho')
  cases hd:o.dst with
  | none=>exact ih
  | some d=>
   show(if d=t then _ else aR (kF L f f' (i+1) l) t)=_;rw[if_neg λe=>h o mem_cons_self (by rw[hd,e])];exact ih
theorem nY{f f':Fm}{L:Nat->Prop}{t:Nat}:∀{l:List Oper} {i k:Nat} {o:Oper},(∀(j:Nat) o',l[j]?=some o'->o'.dst=some t->j=k)->l[k]?=some o->o.dst=some t->aR (kF L f f' i l) t=vo L (i+k) (aR f' t)
 | [],_,k,o,_,h,_=>by simp at h
 | o0::l,i,0,o,hn,h,ht=>by
  simp only[getElem?_cons_zero,Option.some.injEq] at h;subst h;rw[kF,ht];show(if t=t then _ else _)=_;rw[if_pos rfl];rfl
 | o0::l,i,k+1,o,hn,h,ht=>by
  simp only[getElem?_cons_succ] at h;have ih:=nY (L:=L) (f:=f) (f':=f') (i:=i+1) (λj o' hj hd=>Nat.succ.inj (hn (j+1) o' hj hd)) h ht;rw[show i+(k+1)=i+1+k by omega];rw[kF]
  cases hd:o0.dst with
  | none=>exact ih
  | some d=>
   show(if d=t then _ else aR (kF L f f' (i+1) l) t)=_;rw[if_neg λe=>Nat.noConfusion (hn 0 o0 rfl (by rw[hd,e]))];exact ih
theorem Ew{l:List Oper}{t k:Nat}{o:Oper}(hn:(l.map (·.dst)).Nodup)(hk:l[k]?=some o)(ht:o.dst=some t)(j:Nat)(o':Oper)(hj:l[j]?=some o')(hd:o'.dst=some t):j=k:=by
 have g1:(l.map (·.dst))[k]?=some (some t):=by rw[getElem?_map,hk,<-ht];rfl
 have g2:(l.map (·.dst))[j]?=some (some t):=by rw[getElem?_map,hj,<-hd];rfl
 exact(getElem?_inj (bl g2) hn).1 (g2.trans g1.symm)
theorem aM.num{all l:List Oper}{st:en}{K:en->Prop}(h:aM P ro all l st K):aM P ro all l st (λx=>K x/\x.n=st.n):=
 λρ0 h0 ast hs=>(h ρ0 h0 ast hs).mono λ_ ⟨x,k1,k2,k3⟩=>⟨x,⟨k1,k2⟩,k2,k3⟩
theorem ai.post{c:Code}{st:en}{Q:Ex->en->Prop}(h:ai P ro c st λe x=>∃x',Fg x x'/\Q e x'):ai P ro c st Q:=
 λρ0 h0 ast hs=>(h ρ0 h0 ast hs).mono λ_ _ ⟨_,⟨x',hf,hq⟩,hn,hst⟩=>⟨x',hq,hf.1.trans hn,hf.2 _ _ _ hst⟩
theorem ai.late{f f':Fm}{id:Nat}{ops:Array Oper}{Q:Ex->en->Prop}{rs:List Oper}{lo:Oper}(fuel:Nat)(hol:ops.toList=rs++[lo])(hok:(lL 0 (rs++[lo])&&P.follows .mixedOrders)=true)(hg:lo.guard=none)(hl:LS rs=true)(hst:eH (rs++[lo]) n rs=true)
 (ha:((range rs.length).all λk=>(PY (rs++[lo]) fuel rs.length).contains k)=true) (hrun:kP P (rs++[lo]) rs f S=([],f',S')) (hk:aM P ro (rs++[lo]) [lo] ⟨f',n,S,ds⟩ (Q .normal)):ai P ro (.region id ops true) ⟨f,n,S,ds⟩ Q:=by
 unfold LS at hl;rw[and_eq_true,and_eq_true] at hl;obtain⟨⟨hl1,hl2⟩,hl3⟩:=hl;have hnd:=of_decide_eq_true hl2
 have hrs:∀o∈rs,m7 o.op=true/\o.guard=none/\∃d,o.dst=some d:=by
  intro o ho;have:=all_eq_true.1 hl1 o ho;rw[and_eq_true,and_eq_true] at this;exact⟨this.1.1,Option.isNone_iff_eq_none.1 this.1.2,Option.isSome_iff_exists.1 this.2⟩
 obtain⟨hR1,hR2⟩:=Bc hrs hnd hrun
 have hgd:((rs++[lo]).all λo=>match o.guard with
  | none=>true
  | some _=>false)=true:=by
  rw[all_eq_true];intro o ho
  rcases mem_append.1 ho with ho | ho
  ·rw[(hrs o ho).2.1]
  ·rw[mem_singleton.1 ho,hg]
 refine ai.any hol hok (.inl hgd) (λL x=>x.n=n/\jh (rs++[lo]) L/\((¬L rs.length/\Fg x ⟨kF L f f' 0 rs,n,S,ds⟩)\/(L rs.length/\Q .normal x))) ⟨rfl,λ_ _ _ h=>h.elim,.inl ⟨λh=>h,?_⟩⟩ (λL x h=>h.1) ?_ ?_
 ·refine Fg.tmps λt=>?_;by_cases h:∀o∈rs,o.dst≠some t
  ·exact .inl (gu h)
  ·right;simp only[ne_eq,Classical.not_forall,Decidable.not_not] at h;obtain⟨o,ho,hd⟩:=h;obtain⟨k,hk⟩:=mem_iff_getElem?.1 ho;rw[nY (Ew hnd hk hd) hk hd];exact iU λh=>h
 ·rintro L x i o ⟨hxn,hc,hx⟩ hr
  have hc2:jh (rs++[lo]) (λj=>L j\/j=i):=by
   intro j o' ho' hj e he hd
   rcases hj with hj | rfl
   ·exact .inl (hc j o' ho' hj e he hd)
   ·have:=hr.ik;rw[ho'] at this;cases this;exact .inl (hr.dep e he hd)
  rcases hx with⟨hnl,hfg⟩ | ⟨hl,_⟩
  rotate_left
  ·exfalso
   have hall:∀k,k<rs.length->L k:=by
    intro k hk;have:=all_eq_true.1 ha k (mem_range.2 hk);exact BG hc (λo ho=>hc _ o ho hl) k (List.contains_iff_mem.1 this)
   have hil:i<(rs++[lo]).length:=bl hr.ik;rw[List.length_append] at hil;simp only[List.length_cons,List.length_nil] at hil;by_cases he:i=rs.length
   ·exact hr.new (he▸hl)
   ·exact hr.new (hall i (by omega))
  refine aM.fg hfg ?_;by_cases hi:i<rs.length
  ·have hoi:rs[i]?=some o:=by
    have:=hr.ik
    rwa [List.getElem?_append_left hi] at this
   have hom:=List.mem_of_getElem? hoi;obtain⟨h1,h2,d,hd⟩:=hrs o hom;obtain⟨fi,q1,q2,q3⟩:=hR2 i o d hoi hd
   have hback:∀e∈o.after.toList,dep e=true->e.on<i:=by
    rw[and_eq_true] at hok;have:=nS hok.1 hr.ik;intro e he hde;have:=this e he hde;omega
   have hsame:db P (kF L f f' 0 rs) S o.op=some (aR f' d,S,none):=by
    rw[<-q1];refine qv (by rw[h1];rfl) λx hx=>?_
    cases x with
    | tmp t=>
     simp only[eY];split
     ·congr 1
      by_cases hno:∀o∈rs,o.dst≠some t
      ·rw[gu hno,q2 t hno]
      ·simp only[ne_eq,Classical.not_forall,Decidable.not_not] at hno;obtain⟨o',ho',hd'⟩:=hno;obtain⟨k,hk⟩:=mem_iff_getElem?.1 ho';have hkl:=bl hk;have h4:=all_eq_true.1 (all_eq_true.1 (all_eq_true.1 hl3 o hom) t (xR (by simpa using hx))) k (mem_range.2 hkl);rw[hk] at h4;simp only[hd',decide_true,Bool.not_true,Bool.false_or,List.any_eq_true,and_eq_true] at h4;obtain⟨e,he,hde,hek⟩:=h4;have hek:=cP hek;have hlk:L k:=hek▸hr.dep e he hde;have hki:k<i:=hek▸hback e he hde;rw[nY (Ew hnd hk hd') hk hd',zero_add,cT hlk,q3 k o' t hki hk hd']
     ·rfl
    | _=>rfl
   have hsi:eH ((rs++[lo]).take (i+1)) n [o]=true:=by
    have:=all_eq_true.1 (by unfold eH at hst;exact hst) o hom;unfold eH;rw[List.all_cons,List.all_nil,Bool.and_true];rw[and_eq_true] at this;rw[this.1,h2];rfl
   refine aM.run (l':=[]) (f':=(d,aR f' d)::kF L f f' 0 rs) (S':=S) hsi ?_ (.nil ?_)
   ·have hw:da ((rs++[lo]).take (i+1)) (kF L f f' 0 rs) o.guard=some true:=by rw[h2];rfl
    rw[kP,hw];simp only[hsame,hd,se,ia];rw[kP]
   ·refine⟨rfl,hc2,.inl ⟨λh=>?_,?_⟩⟩
    ·rcases h with h | h
     ·exact hnl h
     ·omega
    ·refine Fg.tmps λt=>?_;left
     show _=if d=t then aR f' d else aR (kF L f f' 0 rs) t
     by_cases hno:∀o∈rs,o.dst≠some t
     ·rw[gu hno,if_neg λe=>hno o hom (by rw[hd,e]),gu hno]
     ·simp only[ne_eq,Classical.not_forall,Decidable.not_not] at hno;obtain⟨o',ho',hd'⟩:=hno;obtain⟨k,hk⟩:=mem_iff_getElem?.1 ho';rw[nY (Ew hnd hk hd') hk hd',nY (Ew hnd hk hd') hk hd',zero_add];by_cases hki:k=i
      ·subst hki;rw[hoi] at hk;cases hk;rw[hd] at hd';cases hd';rw[if_pos rfl,cT (.inr rfl)]
      ·have hdt:d≠t:=by
        intro e
        have g1:(rs.map (·.dst))[i]?=some (some t):=by rw[getElem?_map,hoi,<-e,<-hd];rfl
        have g2:(rs.map (·.dst))[k]?=some (some t):=by rw[getElem?_map,hk,<-hd'];rfl
        exact hki ((getElem?_inj (bl g2) hnd).1 (g2.trans g1.symm))
       rw[if_neg hdt];by_cases hlk:L k
       ·rw[cT hlk,cT (.inl hlk)]
       ·rw[iU hlk,iU λh=>h.elim hlk hki]
  ·have hil:i<(rs++[lo]).length:=bl hr.ik;rw[List.length_append] at hil;simp only[List.length_cons,List.length_nil] at hil
   obtain rfl:i=rs.length:=by omega
   have hlo:o=lo:=by
    have:=hr.ik;rw[List.getElem?_append_right (le_refl _),Nat.sub_self] at this;simpa using this.symm
   subst hlo
   have hall:∀k,k<rs.length->L k:=by
    intro k hk;have:=all_eq_true.1 ha k (mem_range.2 hk);refine BG hc (λo' ho'=>?_) k (List.contains_iff_mem.1 this);rw[hr.ik] at ho';cases ho';exact hr.dep
   rw[List.take_of_length_le (by simp)]
   have hfin:Fg ⟨kF L f f' 0 rs,n,S,ds⟩ ⟨f',n,S,ds⟩:=by
    refine Fg.tmps λt=>?_;left;by_cases hno:∀o∈rs,o.dst≠some t
    ·rw[gu hno,hR1 t hno]
    ·simp only[ne_eq,Classical.not_forall,Decidable.not_not] at hno;obtain⟨o',ho',hd'⟩:=hno;obtain⟨k,hk⟩:=mem_iff_getElem?.1 ho';rw[nY (Ew hnd hk hd') hk hd',zero_add,cT (hall k (bl hk))]
   refine aM.fg hfin ?_;have:=hk.num;intro ρ0 h0 ast hs;exact(this ρ0 h0 ast hs).mono λ_ ⟨x',⟨k1,k2⟩,k3,k4⟩=>⟨x',⟨k2,hc2,.inr ⟨.inr rfl,k1⟩⟩,k3,k4⟩
 ·rintro L x ⟨hxn,hc,hx⟩ hall;have hm:=hall rs.length (by simp);exact(hx.resolve_left λh=>h.1 hm).2
end
end
end Go.Ev
