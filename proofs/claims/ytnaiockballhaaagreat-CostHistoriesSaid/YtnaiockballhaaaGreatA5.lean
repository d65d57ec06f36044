/- A part of the texts of this claim: every theorem says what it proves, with its conditions. -/
import Derived.Test.YtnaiockballhaaaGreatA4
set_option linter.unusedSimpArgs false
set_option linter.unusedVariables false
set_option linter.unusedSectionVars false
open Option (bind_some map_some getD_some)
namespace Go.Ev
def lu:AO->Bool
 | .cells _ _=>true
 | .ro _=>true
 | _=>false
theorem cm{P:Program}{w:World}{r:Nat}{o:Obj}(h:w.heap[r]?=some o)(hn:∀c e f,o≠.cells c e f):(getObj r).run P w=.ok o w:=by
 simp only[getObj,Sem.run,h]
 try (split<;>simp_all)
 try (cases o<;>simp_all [Sem.run])
theorem dY{P:Program}{w:World}{r:Nat}{o o':Obj}(h:w.heap[r]?=some o)(hn:∀c e f,o≠.cells c e f):(setObj r o').run P w=.ok () { w with heap:=w.heap.setIfInBounds r o' }:=by
 simp only[setObj,Sem.run,h]
 try (split<;>simp_all)
 try (cases o<;>simp_all [Sem.run])
theorem HR.jD{σ:Sg}{h:H}{w:World}(hr:HR σ h w){id:Nat}{p:rH}{o o':AO}{ob:Obj}(ho:h.aQ.get id=some o)(hc:lu o=false)(hc':lu o'=false)(hp:σ id=some p)
 (hor:OR σ o' p (some ob)):HR σ (h.set id o') { w with heap:=w.heap.setIfInBounds p.b ob }/\Ext σ σ h (h.set id o') w { w with heap:=w.heap.setIfInBounds p.b ob }:=by
 have hlt:=hr.lt ho hp;refine hr.update (o':=o') ho hp ?_ rfl ?_ ?_ ?_ (by simp) rfl rfl rfl (dM _ _).1 ?_ (λcs f e=>by subst e;simp[lu] at hc') (λcs e=>by subst e;simp[lu] at hc)
 ·intro j x hx;simp only[H.set,dw] at hx;split at hx
  ·rename_i e;cases hx;exact .inl ⟨e,rfl⟩
  ·rename_i hne;refine .inr ⟨hne,hx,?_⟩;intro q hq hb
   rcases hr.sep j id x o q p hne hx ho hq hp hb with⟨cs,cs',f,e1,e2⟩ | ⟨cs,cs',e1,e2⟩<;>(rw[e2] at hc;simp[lu] at hc)
 ·intro i cs f hi;simp only[H.set,dw] at hi;split at hi
  ·cases hi;simp[lu] at hc'
  ·exact hr.bZ i cs f hi
 ·simp only[Array.getElem?_setIfInBounds];simp only[if_true,hlt];exact hor
 ·intro b hb;simp only[Array.getElem?_setIfInBounds];rw[if_neg (λe=>hb e.symm)]
 ·intro j hj hjn;have:=dM h.low id;simp only[H.set] at hj ⊢;rw[bj _ _ (by omega)]
theorem HR.map{σ:Sg}{h:H}{w:World}(hr:HR σ h w){id:Nat}{p:rH}{es:List (AV×AV×Nat)}{c:Nat}(hm:h.mapOf id=some (es,c))(hp:σ id=some p):
 h.aQ.get id=some (.map es c)/\∃es':Array MapEntry,w.heap[p.b]?=some (.map es' c)/\EL σ es es'.toList:=by
 unfold H.mapOf at hm;split at hm
 ·rename_i es0 c0 ho;simp only[Option.some.injEq,Prod.mk.injEq] at hm;obtain⟨rfl,rfl⟩:=hm;obtain⟨q,hq,es',h1,h2,h3⟩:=hr.obj id _ ho;rw[hp] at hq;cases hq;exact⟨ho,es',h1,by simpa using h2,λi e m he hm=>h3 i e m he (by simpa using hm)⟩
 ·simp at hm
theorem EL.get{σ:Sg}{es:List (AV×AV×Nat)}{l:List MapEntry}(h:EL σ es l){i:Nat}{e:AV×AV×Nat}(he:es[i]?=some e):∃m,l[i]?=some m/\ER σ e m:=by
 have hi:i<es.length:=by
  rcases Nat.lt_or_ge i es.length with h | h
  ·exact h
  ·simp[List.getElem?_eq_none h] at he
 have hl:i<l.length:=h.1▸hi;exact⟨l[i],List.getElem?_eq_getElem hl,h.2 i e _ he (List.getElem?_eq_getElem hl)⟩
theorem EL.append{σ:Sg}{es fs:List (AV×AV×Nat)}{l k:List MapEntry}(h:EL σ es l)(g:EL σ fs k):EL σ (es++fs) (l++k):=by
 refine⟨by simp[h.1,g.1],?_⟩;intro i x y hx hy;rw[List.getElem?_append] at hx hy;have e:=h.1;by_cases hi:i<es.length
 ·rw[if_pos hi] at hx;rw[if_pos (by omega)] at hy;exact h.2 i x y hx hy
 ·rw[if_neg hi] at hx;rw[if_neg (by omega),<-e] at hy;exact g.2 _ x y hx hy
theorem EL.one{σ:Sg}{e:AV×AV×Nat}{m:MapEntry}(h:ER σ e m):EL σ [e] [m]:=
 ⟨rfl,λi x y hx hy=>by
  cases i with
  | zero=>simp at hx hy;subst hx;subst hy;exact h
  | succ i=>simp at hx⟩
theorem sY(x:AV×AV×Nat):∀(es:List (AV×AV×Nat)) (i:Nat),(setAt x es i).length=es.length
 | [],i=>by simp[setAt]
 | e::es,0=>by simp[setAt]
 | e::es,i+1=>by simp[setAt,sY x es i]
theorem Bd(x:AV×AV×Nat):∀(es:List (AV×AV×Nat)) (i j:Nat),i<es.length->(setAt x es i)[j]?=if j=i then some x else es[j]?
 | [],i,j,h=>by simp at h
 | e::es,0,j,h=>by cases j<;>simp[setAt]
 | e::es,i+1,j,h=>by
  cases j with
  | zero=>simp[setAt]
  | succ j=>simp only[setAt,List.getElem?_cons_succ,Bd x es i j (by simpa using h)];by_cases hj:j=i<;>simp[hj]
theorem EL.set{σ:Sg}{es:List (AV×AV×Nat)}{l:Array MapEntry}(h:EL σ es l.toList){i:Nat}{x:AV×AV×Nat}{f:MapEntry->MapEntry}(hi:i<es.length)(hf:∀m,l.toList[i]?=some m->ER σ x (f m)):
 EL σ (setAt x es i) (l.modify i f).toList:=by
 refine⟨by rw[sY];have:=h.1;simpa using this,?_⟩;intro j e m he hm;rw[Bd x es i j hi] at he
 have hm':(l.modify i f)[j]?=some m:=by rw[<-Array.getElem?_toList];exact hm
 rw[Array.getElem?_modify] at hm';by_cases hj:j=i
 ·subst hj;rw[if_pos rfl] at he hm';simp only[Option.some.injEq] at he;subst he
  cases hl:l[j]? with
  | none=>simp[hl] at hm'
  | some m0=>
   simp only[hl,map_some,Option.some.injEq] at hm';subst hm';exact hf m0 (by simpa using hl)
 ·rw[if_neg hj] at he;rw[if_neg (λe=>hj e.symm)] at hm';exact h.2 j e m he (by simpa using hm')
theorem kL{P:Program}{t k e:TypeId}(h:di P t=some (k,e)):P.underlying t=some (.map k e):=by
 unfold di at h;split at h
 ·rename_i h1;simp only[Option.some.injEq,Prod.mk.injEq] at h;obtain⟨rfl,rfl⟩:=h;exact h1
 ·simp at h
theorem B1{P:Program}{t:TypeId}{k:AV}(h:vJ P t k=true):∃d,P.underlying t=some d:=by
 simp only[vJ,DL] at h
 cases hu:P.underlying t with
 | none=>simp[hu] at h
 | some d=>exact⟨d,rfl⟩
theorem Ek{P:Program}{σ:Sg}{h:H}{w:World}(hr:HR σ h w){t:TypeId}{x k r:AV}{v u:Value}{ok:Bool}(hl:qk P h t x k ok=some r)(hv:V σ x v)(hk:V σ k u):
 ∃z,(Instr.lookup t v u ok).run P w=.ok z w/\V σ r z:=by
 unfold qk at hl
 cases hm:di P t with
 | none=>simp[hm] at hl
 | some q=>
  obtain⟨kt,et⟩:=q;simp only[hm,bind_some] at hl;obtain⟨hka,hl9⟩:=aK hl;clear hl;have hu:=kL hm;obtain⟨kd,hkd⟩:=B1 hka
  have main:∀(es:List (AV×AV×Nat)) (es':Array MapEntry),EL σ es es'.toList->
   (∀(r0:Option (Nat×Value)) (z:Value) (b:Bool),(Instr.findKey kt u es'.toList).run P w=.ok r0 w->
    (match r0 with | some q=>z=q.2/\b=true | none=>(zeroValue et).run P w=.ok z w/\b=false)->
    (Instr.lookup t v u ok).run P w=.ok (if ok then .tuple #[z,.bool b] else z) w)->
   ((
    gz P kt k es 0).bind λr=>
    ((
     match r with
     | some i=>(es[i]?).map λe=>(e.2.1,true)
     | none=>(dm P et).map λz=>(z,false):Option (AV×Bool))).map λ(v,b)=>cond ok (AV.bI [v,.bool b]) v)=some r->
   ∃z,(Instr.lookup t v u ok).run P w=.ok z w/\V σ r z:=by
   intro es es' hel hget h
   cases hf:gz P kt k es 0 with
   | none=>simp[hf] at h
   | some r0=>
    simp only[hf,bind_some] at h;have hfind:=mD (w:=w) hkd hk hf hel
    have fin:∀(a:AV) (b:Bool) (z:Value),V σ a z->(cond ok (AV.bI [a,.bool b]) a)=r->V σ r (if ok then .tuple #[z,.bool b] else z):=by
     intro a b z hz e;subst e;cases ok
     ·exact hz
     ·exact .fE (.cons hz (.cons (.bool b) .nil))
    cases r0 with
    | some i=>
     cases he:es[i]? with
     | none=>simp[he] at h
     | some e=>
      simp only[he,map_some,Option.some.injEq] at h;obtain⟨m,hm1,hm2⟩:=hel.get he;refine⟨_,hget _ m.val true hfind ?_,fin _ _ _ hm2.2.1 h⟩;simp[found,hm1]
    | none=>
     cases hz:dm P et with
     | none=>simp[hz] at h
     | some z=>
      simp only[hz,map_some,Option.some.injEq] at h;obtain⟨zv,hzr,hzV,_⟩:=gR (w:=w) (σ:=σ) hz;exact⟨_,hget _ zv false hfind ⟨hzr,rfl⟩,fin _ _ _ hzV h⟩
  split at hl9
  ·cases hv;refine main [] #[] ⟨rfl,λi e m he _=>by simp at he⟩ ?_ hl9;intro r0 z b hf hz;simp only[Instr.lookup,Sem.run_bind,aN hu,Result.andThen_ok,Sem.run_pure,jw hka hk,hf]
   cases r0 with
   | some q=>obtain⟨rfl,rfl⟩:=hz;rfl
   | none=>obtain⟨hz,rfl⟩:=hz;simp only[Sem.run_bind,hz,Result.andThen_ok,Sem.run_pure]
  ·rename_i id
   cases hv with
   | map hp=>
    cases hmo:h.mapOf id with
    | none=>simp[hmo] at hl9
    | some q=>
     obtain⟨es,c⟩:=q;simp only[hmo,map_some,bind_some] at hl9;obtain⟨_,es',h1,h2⟩:=hr.map hmo hp;refine main es es' h2 ?_ hl9;intro r0 z b hf hz;simp only[Instr.lookup,Sem.run_bind,aN hu,Result.andThen_ok,cm h1 (by simp),Sem.run_pure,jw hka hk,hf]
     cases r0 with
     | some q=>obtain⟨rfl,rfl⟩:=hz;rfl
     | none=>obtain⟨hz,rfl⟩:=hz;simp only[Sem.run_bind,hz,Result.andThen_ok,Sem.run_pure]
  ·simp at hl9
theorem xp{es:List (AV×AV×Nat)}{l:List MapEntry}{σ:Sg}(hel:EL σ es l){i:Nat}{e:AV×AV×Nat}(he:es[i]?=some e):∃m,l[i]?=some m/\ER σ e m/\found (some i) 0 l=some (i,m.val):=by
 obtain⟨m,h1,h2⟩:=hel.get he;exact⟨m,h1,h2,by simp[found,h1]⟩
theorem jY{α:Type}{l:List α}{i:Nat}{x:α}(h:l[i]?=some x):i<l.length:=by
 rcases Nat.lt_or_ge i l.length with h' | h'
 ·exact h'
 ·simp[List.getElem?_eq_none h'] at h
theorem tG{σ:Sg}{es:List (AV×AV×Nat)}{es':Array MapEntry}{c:Nat}{p:rH}(h:EL σ es es'.toList):OR σ (.map es c) p (some (.map es' c)):=
 ⟨es',rfl,by have:=h.1;simpa using this,λi e m he hm=>h.2 i e m he (by simpa using hm)⟩
theorem pF{P:Program}{σ:Sg}{h h':H}{w:World}(hr:HR σ h w){t:TypeId}{x k a:AV}{v u z:Value}(hl:jZ P h t x k a=some h')(hv:V σ x v)(hk:V σ k u)(ha:V σ a z):
 ∃w',(Instr.mapUpdate t v u z).run P w=.ok () w'/\HR σ h' w'/\Ext σ σ h h' w w':=by
 unfold jZ at hl
 cases hm:di P t with
 | none=>simp[hm] at hl
 | some q=>
  obtain⟨kt,et⟩:=q;simp only[hm,bind_some] at hl;obtain⟨hka,hl9⟩:=aK hl;clear hl;have hu:=kL hm;obtain⟨kd,hkd⟩:=B1 hka;split at hl9
  ·rename_i id
   cases hv with
   | @map _ p hp=>
    cases hmo:h.mapOf id with
    | none=>simp[hmo] at hl9
    | some q=>
     obtain⟨es,c⟩:=q;simp only[hmo,bind_some] at hl9;obtain⟨ho,es',h1,h2⟩:=hr.map hmo hp
     cases hf:gz P kt k es 0 with
     | none=>simp[hf] at hl9
     | some r0=>
      simp only[hf,bind_some] at hl9;have hfind:=mD (w:=w) hkd hk hf h2
      cases r0 with
      | some i=>
       cases he:es[i]? with
       | none=>simp[he] at hl9
       | some e=>
        simp only[he,bind_some] at hl9;obtain⟨hst,hl9⟩:=aK hl9;simp only[Option.some.injEq] at hl9;subst hl9;obtain⟨m,hm1,hm2,hfo⟩:=xp h2 he
        have hm1':es'[i]?=some m:=by simpa using hm1
        have hst':=Bg (P:=P) (w:=w) hst hk hm2.1
        have hel:EL σ (setAt (k,a,e.2.2) es i) (es'.modify i λm=>{ m with key:=u,val:=z }).toList:=
         h2.set (jY he) (λm' hm'=>by rw[hm1] at hm';cases hm';exact⟨hk,ha,hm2.2.2⟩)
        obtain⟨g1,g2⟩:=hr.jD ho rfl rfl hp (tG (c:=c) (p:=p) hel);refine⟨_,?_,g1,g2⟩;simp only[Instr.mapUpdate,Sem.run_bind,aN hu,Result.andThen_ok,cm h1 (by simp),jw hka hk,hfind,hfo,hm1',map_some,getD_some,hst'];exact dY h1 (by simp)
      | none=>
       simp only[Option.some.injEq] at hl9;subst hl9
       have hel:EL σ (es++[(k,a,c)]) (es'.push { key:=u,val:=z,born:=c }).toList:=by
        rw[Array.toList_push];exact h2.append (.one ⟨hk,ha,rfl⟩)
       obtain⟨g1,g2⟩:=hr.jD ho rfl rfl hp (tG (c:=c+1) (p:=p) hel);refine⟨_,?_,g1,g2⟩;simp only[Instr.mapUpdate,Sem.run_bind,aN hu,Result.andThen_ok,cm h1 (by simp),jw hka hk,hfind,found];exact dY h1 (by simp)
  ·simp at hl9
theorem y9{P:Program}{σ:Sg}{h h':H}{w:World}(hr:HR σ h w){t:TypeId}{x k r:AV}{v u:Value}(hl:um P h t x k=some (r,h'))(hv:V σ x v)(hk:V σ k u):
 ∃z w',(Instr.mapEntry t v u).run P w=.ok z w'/\V σ r z/\HR σ h' w'/\Ext σ σ h h' w w':=by
 unfold um at hl
 cases hm:di P t with
 | none=>simp[hm] at hl
 | some q=>
  obtain⟨kt,et⟩:=q;simp only[hm,bind_some] at hl;obtain⟨hka,hl9⟩:=aK hl;clear hl;have hu:=kL hm;obtain⟨kd,hkd⟩:=B1 hka;split at hl9
  ·rename_i id
   cases hv with
   | @map _ p hp=>
    cases hmo:h.mapOf id with
    | none=>simp[hmo] at hl9
    | some q=>
     obtain⟨es,c⟩:=q;simp only[hmo,bind_some] at hl9;obtain⟨ho,es',h1,h2⟩:=hr.map hmo hp
     cases hf:gz P kt k es 0 with
     | none=>simp[hf] at hl9
     | some r0=>
      simp only[hf,bind_some] at hl9;have hfind:=mD (w:=w) hkd hk hf h2
      cases r0 with
      | some i=>
       cases he:es[i]? with
       | none=>simp[he] at hl9
       | some e=>
        simp only[he,bind_some] at hl9;obtain⟨hst,hl9⟩:=aK hl9;simp only[Option.some.injEq,Prod.mk.injEq] at hl9;obtain⟨rfl,rfl⟩:=hl9;obtain⟨m,hm1,hm2,hfo⟩:=xp h2 he
        have hm1':es'[i]?=some m:=by simpa using hm1
        have hst':=Bg (P:=P) (w:=w) hst hk hm2.1
        have hel:EL σ (setAt (k,e.2.1,e.2.2) es i) (es'.modify i λm=>{ m with key:=u }).toList:=
         h2.set (jY he) (λm' hm'=>by rw[hm1] at hm';cases hm';exact⟨hk,hm2.2.1,hm2.2.2⟩)
        obtain⟨g1,g2⟩:=hr.jD ho rfl rfl hp (tG (c:=c) (p:=p) hel);refine⟨.tuple #[m.val,goInt m.born],_,?_,?_,g1,g2⟩
        ·simp only[Instr.mapEntry,Sem.run_bind,aN hu,Result.andThen_ok,cm h1 (by simp),jw hka hk,hfind,hfo,hm1',map_some,getD_some,hst',dY h1 (by simp),Sem.run_pure]
        ·rw[hm2.2.2];exact .fE (.cons hm2.2.1 (.cons (.int _ _) .nil))
      | none=>
       cases hz:dm P et with
       | none=>simp[hz] at hl9
       | some z=>
        simp only[hz,map_some,Option.some.injEq,Prod.mk.injEq] at hl9;obtain⟨rfl,rfl⟩:=hl9;obtain⟨zv,hzr,hzV,_⟩:=gR (w:=w) (σ:=σ) hz
        have hel:EL σ (es++[(k,z,c)]) (es'.push { key:=u,val:=zv,born:=c }).toList:=by
         rw[Array.toList_push];exact h2.append (.one ⟨hk,hzV,rfl⟩)
        obtain⟨g1,g2⟩:=hr.jD ho rfl rfl hp (tG (c:=c+1) (p:=p) hel);refine⟨.tuple #[zv,goInt c],_,?_,.fE (.cons hzV (.cons (.int _ _) .nil)),g1,g2⟩;simp only[Instr.mapEntry,Sem.run_bind,aN hu,Result.andThen_ok,cm h1 (by simp),jw hka hk,hfind,found,hzr,dY h1 (by simp),Sem.run_pure]
  ·simp at hl9
theorem qY{b:Nat}:∀(es:List (AV×AV×Nat)) (k i:Nat),jS b es k=some i->k<=i/\i<k+es.length/\(∃e,es[i-k]?=some e/\e.2.2=b)/\∀j,j<i-k->∀e,es[j]?=some e->e.2.2≠b
 | [],k,i,h=>by simp[jS] at h
 | e::es,k,i,h=>by
  simp only[jS] at h;cases hb:Nat.beq e.2.2 b
  ·rw[hb,ao] at h;obtain⟨h1,h2,⟨x,h3,h4⟩,h5⟩:=qY es (k+1) i h;refine⟨by omega,by simp;omega,⟨x,?_,h4⟩,?_⟩
   ·rw[show i-k=(i-(k+1))+1 by omega,List.getElem?_cons_succ];exact h3
   ·intro j hj y hy
    cases j with
    | zero=>simp at hy;subst hy;exact gM hb
    | succ j=>exact h5 j (by omega) y (by simpa using hy)
  ·rw[hb,ah] at h;simp only[Option.some.injEq] at h;subst h;exact⟨Nat.le_refl _,by simp,⟨e,by simp,cP hb⟩,λj hj=>by omega⟩
theorem GJ{b i:Nat}{σ:Sg}{es:List (AV×AV×Nat)}{l:Array MapEntry}(h:EL σ es l.toList)(hb:jS b es 0=some i):l.findIdx? (λe=>(e.born:Int)==(b:Int))=some i:=by
 obtain⟨h1,h2,⟨x,h3,h4⟩,h5⟩:=qY es 0 i hb;obtain⟨m,hm1,hm2⟩:=h.get (i:=i) (by simpa using h3)
 have hi:i<l.size:=by have:=jY hm1;simpa using this
 have hm1':l[i]=m:=by
  have:l[i]?=some m:=by simpa using hm1
  rw[Array.getElem?_eq_getElem hi] at this;simpa using this
 rw[Array.findIdx?_eq_some_iff_getElem];refine⟨hi,?_,?_⟩
 ·rw[hm1'];have:=hm2.2.2;simp;omega
 ·intro j hj
  have hjl:j<es.length:=by have:=h.1;simp at this;omega
  have:=h5 j (by omega) _ (List.getElem?_eq_getElem hjl);have hr:=(h.2 j _ (l[j]'(by omega)) (List.getElem?_eq_getElem hjl) (by simp)).2.2;simp;omega
theorem vG{P:Program}{σ:Sg}{h h':H}{w:World}(hr:HR σ h w){t:TypeId}{x s a:AV}{v u z:Value}(hl:pd h x s a=some h')(hv:V σ x v)(hs:V σ s u)(ha:V σ a z):
 ∃w',(Instr.entryStore t v u z).run P w=.ok () w'/\HR σ h' w'/\Ext σ σ h h' w w':=by
 unfold pd at hl;split at hl
 ·rename_i id
  cases hv with
  | @map _ p hp=>
   cases hmo:h.mapOf id with
   | none=>simp[hmo] at hl
   | some q=>
    obtain⟨es,c⟩:=q;simp only[hmo,bind_some] at hl;obtain⟨ho,es',h1,h2⟩:=hr.map hmo hp
    cases hn:c9 s with
    | none=>simp[hn] at hl
    | some b=>
     simp only[hn,bind_some] at hl;obtain⟨k,rfl,hk⟩:=j6 (P:=P) (w:=w) hn hs
     cases hb:jS b es 0 with
     | none=>simp[hb] at hl
     | some i=>
      simp only[hb,bind_some] at hl
      cases he:es[i]? with
      | none=>simp[he] at hl
      | some e=>
       simp only[he,map_some,Option.some.injEq] at hl;subst hl;obtain⟨m,hm1,hm2⟩:=h2.get he
       have hel:EL σ (setAt (e.1,a,e.2.2) es i) (es'.modify i λm=>{ m with val:=z }).toList:=
        h2.set (jY he) (λm' hm'=>by rw[hm1] at hm';cases hm';exact⟨hm2.1,ha,hm2.2.2⟩)
       obtain⟨g1,g2⟩:=hr.jD ho rfl rfl hp (tG (c:=c) (p:=p) hel);refine⟨_,?_,g1,g2⟩;simp only[Instr.entryStore,Sem.run_bind,Sem.run_pure,Result.andThen_ok,cm h1 (by simp),asInt,hk,GJ h2 hb];exact dY h1 (by simp)
 ·simp at hl
end Go.Ev
