/- A part of the texts of this claim: every theorem says what it proves, with its conditions. -/
import Derived.Test.YtnaiockballhaaaGreatA2
import Derived.Laws.StructEq
set_option linter.unusedSimpArgs false
set_option linter.unusedVariables false
set_option linter.unusedSectionVars false
open Bool (and_eq_true)
open Nat (beq le_trans le_refl blt)
open List (forIn_cons range')
open Option (bind_some)
namespace Go.Ev
theorem dM(a b:Nat):gh a b<=a/\gh a b<=b:=by
 unfold gh;cases h:Nat.ble a b
 ·have:=wg h;simp only[ao];omega
 ·have:=iO h;simp only[ah];omega
theorem HR.update{σ:Sg}{h h':H}{w w':World}(hr:HR σ h w){id:Nat}{p:rH}{o o':AO}(ho:h.aQ.get id=some o)(hp:σ id=some p)
 (hg:∀j x,h'.aQ.get j=some x->(j=id/\x=o')\/(j≠id/\h.aQ.get j=some x/\∀q,σ j=some q->q.b≠p.b))
 (hnext:h'.next=h.next) (hfam:∀i cs f,h'.aQ.get i=some (.cells cs f)->f<h.next/\∃x y,h'.dA.get f=some (x,y)/\(i=x\/i=y))
 (hor:OR σ o' p w'.heap[p.b]?) (hw:∀b,b≠p.b->w'.heap[b]?=w.heap[b]?) (hs:w'.heap.size=w.heap.size) (e1:w'.os=w.os) (e2:w'.tape=w.tape) (e3:w'.output=w.output)
 (hlow:h'.low<=h.low) (hsame:∀j,j<h'.low->j<h.next->h'.aQ.get j=h.aQ.get j)
 (hof:∀cs f,o'=.cells cs f->∃cs',o=.cells cs' f:=by first | (intro cs f e;cases e;done) | (intro cs f e;cases e;exact⟨_,rfl⟩))
 (hown:Ni o:=by (intro cs e;cases e)):HR σ h' w'/\Ext σ σ h h' w w':=by
 refine⟨⟨?_,?_,?_,?_,?_⟩,⟨λ_ _ h=>h,by omega,by omega,e1,e2,e3,?_,?_,hlow,hsame,λ_ _ h=>h,?_⟩⟩
 ·intro j x hx
  rcases hg j x hx with⟨rfl,rfl⟩ | ⟨_,h2,h3⟩
  ·exact⟨p,hp,hor⟩
  ·obtain⟨q,hq,hq2⟩:=hr.obj j x h2;exact⟨q,hq,by rw[hw _ (h3 q hq)];exact hq2⟩
 ·intro j hj;exact hr.fresh j (by omega)
 ·intro i j x y q1 q2 hij hx hy h1 h2 hb
  rcases hg i x hx with⟨rfl,rfl⟩ | ⟨_,a2,a3⟩
  ·rcases hg j y hy with⟨rfl,rfl⟩ | ⟨_,b2,b3⟩
   ·exact absurd rfl hij
   ·rw[hp] at h1;cases h1;exact absurd hb.symm (b3 _ h2)
  ·rcases hg j y hy with⟨rfl,rfl⟩ | ⟨_,b2,b3⟩
   ·rw[hp] at h2;cases h2;exact absurd hb (a3 _ h1)
   ·exact hr.sep i j x y q1 q2 hij a2 b2 h1 h2 hb
 ·intro i cs f hi;rw[hnext];exact hfam i cs f hi
 ·have:=hr.y8;omega
 ·intro j x q hx hq
  rcases hg j x hx with⟨rfl,rfl⟩ | ⟨_,h2,_⟩
  ·exact .inr ⟨j,o,q,ho,hq,rfl,λ_=>hown⟩
  ·exact .inr ⟨j,x,q,h2,hq,rfl,λh=>h⟩
 ·intro b _ hn;exact hw b λe=>hn id o p ho hown hp e.symm
 ·intro j cs f hj
  rcases hg j _ hj with⟨rfl,e⟩ | ⟨_,h2,_⟩
  ·obtain⟨cs',e'⟩:=hof cs f e.symm;exact .inr ⟨j,cs',e'▸ho⟩
  ·exact .inr ⟨j,cs,h2⟩
theorem JB{h:H}{id bZ x y:Nat}(hf:h.dA.get bZ=some (x,y))(j:Nat):
 (h.alone id bZ).aQ.get j=if (j=x\/j=y)/\j≠id/\(id=x\/id=y) then none else if (j=x\/j=y)/\j≠id then (h.alone id bZ).aQ.get j else h.aQ.get j:=by
 unfold H.alone;rw[hf];simp only;cases hx:beq x id<;>cases hy:beq y id<;>simp only[Bool.and_true,Bool.and_false,ah,ao]
 ·have:=gM hx;have:=gM hy;rw[dw,dw];by_cases h1:j=y<;>by_cases h2:j=x<;>simp[h1,h2]<;>omega
 ·have:=gM hx;have:=cP hy;rw[dw];by_cases h1:j=x
  ·subst h1;simp;omega
  ·rw[if_neg h1];by_cases h2:j=y<;>simp[h1,h2]<;>omega
 ·have:=cP hx;have:=gM hy;rw[dw];by_cases h1:j=y
  ·subst h1;simp;omega
  ·rw[if_neg h1];by_cases h2:j=x<;>simp[h1,h2]<;>omega
 ·have:=cP hx;have:=cP hy;subst x;subst y;by_cases h1:j=id<;>simp[h1]
theorem mz{σ:Sg}{h:H}{w:World}(hr:HR σ h w){id bZ:Nat}{cs:List AV}(ho:h.aQ.get id=some (.cells cs bZ)):
 (h.alone id bZ).aQ.get id=some (.cells cs bZ)/\
 (∀j o,(h.alone id bZ).aQ.get j=some o->h.aQ.get j=some o)/\
 (∀j cs',(h.alone id bZ).aQ.get j=some (.cells cs' bZ)->j=id)/\
 (h.alone id bZ).next=h.next/\
 (∃x y,(h.alone id bZ).dA.get bZ=some (x,y)/\(id=x\/id=y))/\
 (∀f,f≠bZ->(h.alone id bZ).dA.get f=h.dA.get f)/\
 (h.alone id bZ).low<=h.low/\
 (∀j,j<(h.alone id bZ).low->(h.alone id bZ).aQ.get j=h.aQ.get j):=by
 obtain⟨_,x,y,hf,hxy⟩:=hr.bZ id cs bZ ho
 have hget:∀j,(h.alone id bZ).aQ.get j=if (j=x\/j=y)/\j≠id then none else h.aQ.get j:=by
  intro j;rw[JB hf j];by_cases hc:(j=x\/j=y)/\j≠id
  ·rw[if_pos ⟨hc.1,hc.2,hxy⟩,if_pos hc]
  ·rw[if_neg (λh=>hc ⟨h.1,h.2.1⟩),if_neg hc,if_neg hc]
 refine⟨by rw[hget,if_neg (by simp),ho],?_,?_,?_,?_,?_,?_,?_⟩
 ·intro j o hj;rw[hget] at hj;split at hj
  ·cases hj
  ·exact hj
 ·intro j cs' hj;rw[hget] at hj;split at hj
  ·cases hj
  ·rename_i hn;obtain⟨_,x',y',hf',hj'⟩:=hr.bZ j cs' bZ hj;rw[hf] at hf';cases hf';apply Classical.byContradiction;intro hne;exact hn ⟨hj',hne⟩
 ·unfold H.alone;rw[hf];simp only;cases (beq x id&&beq y id)<;>rfl
 ·unfold H.alone;rw[hf];simp only;cases hb:(beq x id&&beq y id)
  ·exact⟨id,id,by rw[ao];exact cR _ _ _,.inl rfl⟩
  ·exact⟨x,y,hf,hxy⟩
 ·intro f hne;unfold H.alone;rw[hf];simp only;cases (beq x id&&beq y id)
  ·rw[ao];exact bj _ _ hne
  ·rfl
 ·unfold H.alone;rw[hf];simp only;cases (beq x id&&beq y id)
  ·rw[ao];exact(dM _ _).1
  ·exact le_refl _
 ·intro j hj;rw[hget];split
  ·rename_i hc
   have hlt:j<gh x y:=by
    unfold H.alone at hj;rw[hf] at hj;simp only at hj;cases hb:(beq x id&&beq y id)
    ·rw[hb,ao] at hj;exact Nat.lt_of_lt_of_le hj (dM _ _).2
    ·simp only[and_eq_true] at hb;have:=cP hb.1;have:=cP hb.2;omega
   have:=dM x y;omega
  ·rfl
theorem World.zj{w:World}{b o:Nat}{c:Array Value}{e:TypeId}{f:Nat×Nat}(h:w.heap[b]?=some (.cells c e f))(v:Value):
 (w.setCell ⟨b,o,none⟩ v).heap[b]?=some (.cells (c.setIfInBounds o v) e f):=by
 simp[World.setCell,Array.getElem?_modify,h]
theorem World.yh{w:World}{b k o:Nat}(v:Value)(hk:k≠b):(w.setCell ⟨b,o,none⟩ v).heap[k]?=w.heap[k]?:=by
 simp only[World.setCell,Array.getElem?_modify];rw[if_neg (λh=>hk h.symm)]
theorem l9{P:Program}{b o:Nat}{e:TypeId}:∀(vs:List Value) (i:Nat) (w:World) (c:Array Value),w.heap[b]?=some (.cells c e (0,0))->o+i+vs.length<=c.size->(∀v∈vs,v.oneCell'=true)->
 ∃w' c',(storeCells ⟨b,o,none⟩ vs i).run P w=.ok () w'/\w'.heap[b]?=some (.cells c' e (0,0))/\c'.size=c.size/\
  (∀j:Nat,c'[j]?=if o+i<=j/\j<o+i+vs.length then vs[j-(o+i)]? else c[j]?)/\(∀k,k≠b->w'.heap[k]?=w.heap[k]?)/\
  w'.heap.size=w.heap.size/\w'.os=w.os/\w'.tape=w.tape/\w'.output=w.output
 | [],i,w,c,h,_,_=>⟨w,c,by simp[storeCells],h,rfl,λj=>by rw[if_neg (by simp only[List.length_nil];omega)],λ_ _=>rfl,rfl,rfl,rfl,rfl⟩
 | v::vs,i,w,c,h,hlen,hone=>by
  simp only[List.length_cons] at hlen
  have hcell:w.cell? ⟨b,o+i,none⟩=some (c[o+i]'(by omega)):=by rw[cell_of h];exact Array.getElem?_eq_getElem _
  have h1:(w.setCell ⟨b,o+i,none⟩ v).heap[b]?=some (.cells (c.setIfInBounds (o+i) v) e (0,0)):=World.zj h v;obtain⟨w',c',hrun,hw',hsz,hget,hoth,s1,s2,s3,s4⟩:=l9 (P:=P) (o:=o) vs (i+1) (w.setCell ⟨b,o+i,none⟩ v) (c.setIfInBounds (o+i) v) h1 (by simp;omega) (λu hu=>hone u (by simp[hu]));refine⟨w',c',?_,hw',by simpa using hsz,?_,?_,?_,?_,?_,?_⟩
  ·simp only[storeCells,Sem.run_bind,gp];rw[run_store P w _ v .plain (hone v (by simp)),hcell];simp only[AI h,Bool.false_eq_true,if_false,Result.andThen_ok];exact hrun
  ·intro j;rw[hget];by_cases hj:o+(i+1)<=j/\j<o+(i+1)+vs.length
   ·rw[if_pos hj,if_pos (by simp;omega)];rw[show j-(o+i)=(j-(o+(i+1)))+1 by omega,List.getElem?_cons_succ]
   ·rw[if_neg hj,Array.getElem?_setIfInBounds];by_cases hj2:o+i=j
    ·subst hj2;rw[if_pos rfl,if_pos (by omega),if_pos (by simp)];simp
    ·rw[if_neg hj2,if_neg (by simp;omega)]
  ·intro k hk;rw[hoth k hk,World.yh _ hk]
  ·rw[s1];simp
  ·rw[s2];rfl
  ·rw[s3];rfl
  ·rw[s4];rfl
theorem kX{α:Type}(cs vs:List α)(off:Nat)(h:off+vs.length<=cs.length)(j:Nat):
 (cs.take off++(vs++cs.drop (off+vs.length)))[j]?=if off<=j/\j<off+vs.length then vs[j-off]? else cs[j]?:=by
 have h1:(cs.take off).length=off:=by simp;omega
 rw[List.getElem?_append,h1];by_cases ha:j<off
 ·rw[if_pos ha,if_neg (by omega),List.getElem?_take,if_pos ha]
 ·rw[if_neg ha,List.getElem?_append];by_cases hb:j-off<vs.length
  ·rw[if_pos hb,if_pos (by omega)]
  ·rw[if_neg hb,if_neg (by omega),List.getElem?_drop]
   congr 1;omega
theorem HR.qx{P:Program}{σ:Sg}{h h':H}{w:World}(hr:HR σ h w){id off:Nat}{aS:List AV}{vs:List Value}{p:rH}(hs:h.store id off aS=some h')(hp:σ id=some p)(hv:VL σ aS vs):
 ∃w',(storeCells ⟨p.b,p.d+off,none⟩ vs).run P w=.ok () w'/\HR σ h' w'/\Ext σ σ h h' w w':=by
 unfold H.store at hs;split at hs
 ·rename_i cs bZ ho;obtain⟨hc,he⟩:=aK hs;simp only[and_eq_true] at hc;obtain⟨hle,hone⟩:=hc;have hle:=iO hle;simp only[Option.some.injEq] at he;obtain⟨q,c,e,hq,h1,h2,h3,h4⟩:=hr.cells ho;rw[hp] at hq;cases hq;have hl:=hv.1;obtain⟨w',c',hrun,hw',hsz,hget,hoth,s1,s2,s3,s4⟩:=l9 (P:=P) (o:=p.d+off) vs 0 w c h1 (by omega) (hv.j7 hone);obtain⟨a1,a2,a3,a4,a5,a6,a7,a8⟩:=mz hr ho;refine⟨w',hrun,?_⟩;subst he;refine hr.update (o':=.cells (cs.take off++(aS++cs.drop (off+aS.length))) bZ) ho hp ?_ a4 ?_ ?_ hoth s1 s2 s3 s4 (le_trans (dM _ _).1 a7) ?_
  ·intro j x hx;simp only[dw] at hx;split at hx
   ·rename_i e;cases hx;exact .inl ⟨e,rfl⟩
   ·rename_i hne;have hx':=a2 j x hx;refine .inr ⟨hne,hx',?_⟩;intro q hq hb;obtain⟨cs1,e1⟩:=(hr.sep j id x _ q p hne hx' ho hq hp hb).left;subst e1;exact hne (a3 j cs1 hx)
  ·intro i cs' f hi;simp only[dw] at hi;split at hi
   ·rename_i e;cases hi;subst e;exact⟨(hr.bZ i _ _ ho).1,a5⟩
   ·rename_i hne;have hi':=a2 _ _ hi;obtain⟨b1,x,y,b2,b3⟩:=hr.bZ i _ _ hi';refine⟨b1,x,y,?_,b3⟩;rw[a6 f (λe=>hne (a3 i cs' (e▸hi)))];exact b2
  ·refine⟨c',e,hw',by rw[hsz];exact h2,by simp;omega,?_⟩;intro i a ha;rw[kX _ _ _ hle] at ha;rw[hget];by_cases hi:off<=i/\i<off+aS.length
   ·rw[if_pos hi] at ha;rw[if_pos (by omega)];obtain⟨v,hv1,hv2⟩:=hv.get ha;exact⟨v,by rw[show p.d+i-(p.d+off+0)=i-off by omega];exact hv1,hv2⟩
   ·rw[if_neg hi] at ha;rw[if_neg (by omega)];exact h4 i a ha
  ·intro j hj hjn;simp only[dw];have hm:=dM (h.alone id bZ).low id;rw[if_neg (by simp only at hj;omega)];exact a8 j (by simp only at hj;omega)
 ·simp at hs
theorem HR.Cw{P:Program}{σ:Sg}{h h':H}{w:World}(hr:HR σ h w){t id off:Nat}{a:AV}{v:Value}{p:rH}(hs:h.storeVar P t id off a=some h')(hp:σ id=some p)(hv:V σ a v):
 ∃w',(storeVar t ⟨p.b,p.d+off,none⟩ v).run P w=.ok () w'/\HR σ h' w'/\Ext σ σ h h' w w':=by
 unfold H.storeVar at hs
 cases hn:cx P t with
 | none=>simp[hn] at hs
 | some n=>
  simp only[hn,bind_some] at hs;obtain⟨hc,he⟩:=aK hs;have hc:=cP hc;obtain⟨w',hrun,h1,h2⟩:=hr.qx (P:=P) he hp hv.cells;refine⟨w',?_,h1,h2⟩
  have hsz:v.cells.size=n:=by have:=hv.cells.1;simp at this;omega
  simp only[storeVar,Sem.run_bind,bT hn,Result.andThen_ok,hsz,ne_eq,not_true_eq_false,if_false];simpa using hrun
def up(σ:Sg)(id:Nat)(p:rH):Sg:=λj=>if j=id then some p else σ j
theorem mn{σ:Sg}{id:Nat}{p:rH}(h:σ id=none):∀j q,σ j=some q->up σ id p j=some q:=by
 intro j q hq;unfold up;split
 ·rename_i e;subst e;rw[h] at hq;cases hq
 ·exact hq
theorem dW(σ:Sg)(id:Nat)(p:rH):up σ id p id=some p:=by simp[up]
theorem qi(h:H)(id:Nat)(o:AO)(j:Nat):(h.lay id o).aQ.get j=if j=id then some o else h.aQ.get j:=by
 unfold H.lay;split<;>exact dw _ _ _ _
theorem pE(h:H)(id:Nat)(o:AO):(h.lay id o).next=h.next:=by unfold H.lay;split<;>rfl
theorem B4(h:H)(id:Nat)(o:AO):(h.lay id o).low=h.low:=by unfold H.lay;split<;>rfl
theorem HR.lay{σ:Sg}{h:H}{w w':World}(hr:HR σ h w){id r:Nat}{o:AO}{ob:Obj}(hid:σ id=none)(hlt:id<h.next)(hlow:h.low<=id)
 (hf:∀j cs,h.aQ.get j≠some (.cells cs id)) (hof:∀cs f,o=.cells cs f->f=id)
 (hor:OR (up σ id ⟨w.heap.size,0,r⟩) o ⟨w.heap.size,0,r⟩ (some ob)) (hw:w'.heap=w.heap.push ob) (e1:w'.os=w.os) (e2:w'.tape=w.tape) (e3:w'.output=w.output):
 HR (up σ id ⟨w.heap.size,0,r⟩) (h.lay id o) w'/\Ext σ (up σ id ⟨w.heap.size,0,r⟩) { h with next:=id } (h.lay id o) w w':=by
 have hle:=mn (p:=⟨w.heap.size,0,r⟩) hid
 have hnone:h.aQ.get id=none:=by
  cases hg:h.aQ.get id with
  | none=>rfl
  | some x=>obtain⟨p,hp,_⟩:=hr.obj id x hg;rw[hid] at hp;cases hp
 have hold:∀b,b<w.heap.size->w'.heap[b]?=w.heap[b]?:=by
  intro b hb;rw[hw,Array.getElem?_push,if_neg (by omega)]
 have hother:∀j x,h.aQ.get j=some x->∀q,up σ id ⟨w.heap.size,0,r⟩ j=some q->σ j=some q/\q.b<w.heap.size:=by
  intro j x hx q hq
  have hj:j≠id:=λe=>by subst e;rw[hnone] at hx;cases hx
  have:σ j=some q:=by simpa [up,hj] using hq
  exact⟨this,hr.lt hx this⟩
 refine⟨⟨?_,?_,?_,?_,?_⟩,⟨hle,by rw[pE];simp only;omega,by rw[hw];simp,e1,e2,e3,?_,?_,by rw[B4];simp,?_,?_,?_⟩⟩
 ·intro j x hx;rw[qi] at hx;split at hx
  ·rename_i e;cases hx;subst e;refine⟨_,dW _ _ _,?_⟩;rw[hw];simpa using hor
  ·obtain⟨p,hp,h2⟩:=hr.obj j x hx;have:=hr.lt hx hp;exact⟨p,hle _ _ hp,by rw[hold _ this];exact h2.mono hle⟩
 ·intro j hj;rw[pE] at hj
  have:j≠id:=by omega
  simp[up,this,hr.fresh j hj]
 ·intro i j x y p q hij hx hy hp hq hb;rw[qi] at hx hy;split at hx
  ·rename_i e1;split at hy
   ·omega
   ·subst e1;cases hx;have h1:=hother j y hy q hq;rw[dW] at hp;cases hp;simp only at hb;omega
  ·split at hy
   ·rename_i e1;subst e1;cases hy;have h1:=hother i x hx p hp;rw[dW] at hq;cases hq;simp only at hb;omega
   ·exact hr.sep i j x y p q hij hx hy (hother i x hx p hp).1 (hother j y hy q hq).1 hb
 ·intro i cs f hi;rw[qi] at hi;split at hi
  ·rename_i e;cases hi;subst e;have:=hof cs f rfl;subst this;refine⟨by rw[pE];omega,f,f,?_,.inl rfl⟩;unfold H.lay;exact cR _ _ _
  ·obtain⟨b1,x,y,b2,b3⟩:=hr.bZ i cs f hi;refine⟨by rw[pE];omega,x,y,?_,b3⟩;have hne:f≠id:=λe=>hf i cs (e▸hi);unfold H.lay;split
   ·simp only;rw[bj _ _ hne];exact b2
   ·exact b2
 ·rw[B4,pE];exact hr.y8
 ·intro j x q hx hq;rw[qi] at hx;split at hx
  ·rename_i e;subst e;rw[dW] at hq;cases hq;exact .inl (le_refl _)
  ·exact .inr ⟨j,x,q,hx,(hother j x hx q hq).1,rfl,λh=>h⟩
 ·intro b hb _;exact hold b hb
 ·intro j hj hjn;rw[B4] at hj;rw[qi,if_neg (by omega)]
 ·intro j hj hn;have hj:j<id:=hj;simp only[up];rw[if_neg (by omega)];exact hn
 ·intro j cs f hj;rw[qi] at hj;split at hj
  ·cases hj;exact .inl (Nat.le_of_eq (hof cs f rfl).symm)
  ·exact .inr ⟨j,cs,hj⟩
theorem HR.more{σ:Sg}{h:H}{w:World}(hr:HR σ h w)(n:Nat)(hn:h.next<=n):HR σ { h with next:=n } w:=
 ⟨hr.obj,λid hid=>hr.fresh id (le_trans hn hid),hr.sep,λi cs f hi=>let ⟨a,b⟩:=hr.bZ i cs f hi;⟨Nat.lt_of_lt_of_le a hn,b⟩,le_trans hr.y8 hn⟩
theorem Ext.more{σ σ':Sg}{h h':H}{w w':World}{n:Nat}(hn:h.next<=n)(he:Ext σ σ' { h with next:=n } h' w w'):Ext σ σ' h h' w w':=
 ⟨he.le,le_trans hn he.next,he.size,he.os,he.tape,he.output,he.PO,he.frame,he.low,λid h1 h2=>he.same id h1 (Nat.lt_of_lt_of_le h2 hn),λid h1 h2=>he.lJ id (Nat.lt_of_lt_of_le h1 hn) h2,
  λid cs f ho=>(he.dA id cs f ho).imp (λh=>le_trans hn h) (λh=>h)⟩
theorem Ec(h:H)(id n:Nat)(o:AO):{ h.lay id o with next:=n }=({ h with next:=n }:H).lay id o:=by unfold H.lay;split<;>rfl
theorem HR.new{σ:Sg}{h:H}{w w':World}(hr:HR σ h w){r:Nat}{o:AO}{ob:Obj}(hof:∀cs f,o=.cells cs f->f=h.next)
 (hor:OR (up σ h.next ⟨w.heap.size,0,r⟩) o ⟨w.heap.size,0,r⟩ (some ob)) (hw:w'.heap=w.heap.push ob) (e1:w'.os=w.os) (e2:w'.tape=w.tape) (e3:w'.output=w.output):
 HR (up σ h.next ⟨w.heap.size,0,r⟩) { h.lay h.next o with next:=h.next+1 } w'/\Ext σ (up σ h.next ⟨w.heap.size,0,r⟩) h { h.lay h.next o with next:=h.next+1 } w w':=by
 rw[Ec]
 have:=HR.lay (hr.more (h.next+1) (by omega)) (id:=h.next) (o:=o) (ob:=ob) (w':=w') (r:=r) (hr.fresh _ (le_refl _)) (by simp) hr.y8
  (λj cs hj=>by have:=(hr.bZ j cs _ hj).1;omega) hof hor hw e1 e2 e3
 exact⟨this.1,this.2⟩
theorem Gn{σ:Sg}{aS:List AV}{vs:List Value}{id b:Nat}{e:TypeId}(hv:VL σ aS vs){c:Array Value}(hc:c.toList.take vs.length=vs):OR σ (.cells aS id) ⟨b,0,c.size⟩ (some (.cells c e (0,0))):=by
 have hlen:vs.length<=c.size:=by
  have:=congrArg List.length hc;simp at this;omega
 refine⟨c,e,rfl,by simp,by have:=hv.1;simp only;omega,?_⟩;intro i a ha;obtain⟨v,h1,h2⟩:=hv.get ha;refine⟨v,?_,h2⟩
 have hi:i<vs.length:=by
  rcases Nat.lt_or_ge i vs.length with h | h
  ·exact h
  ·simp[List.getElem?_eq_none h] at h1
 rw[<-hc,List.getElem?_take,if_pos hi] at h1;simpa using h1
theorem mg:∀(x y:List UInt8),x.map (·.toNat)=y.map (·.toNat)->x=y
 | [],[],_=>rfl
 | [],b::y,h=>by simp at h
 | a::x,[],h=>by simp at h
 | a::x,b::y,h=>by
  simp only[List.map_cons,List.cons.injEq] at h;rw[UInt8.toNat_inj.1 h.1,mg x y h.2]
theorem qe{a b:List Nat}{s t:ByteArray}(h:s.data.toList.map (·.toNat)=a)(k:t.data.toList.map (·.toNat)=b):tE a b=(s.toList==t.toList):=by
 rw[BQ,ByteArray.toList_eq,ByteArray.toList_eq,<-h,<-k];by_cases e:s.data.toList=t.data.toList
 ·simp[e]
 ·have:¬(s.data.toList.map (·.toNat)=t.data.toList.map (·.toNat)):=λh=>e (mg _ _ h);simp only[this,decide_false];symm;exact beq_eq_false_iff_ne.2 e
theorem qm:∀(x y:List UInt8),gk (x.map (·.toNat)) (y.map (·.toNat))=Op.bytesLess x y
 | x,[]=>by cases x<;>simp[gk,Op.bytesLess]
 | [],b::y=>by simp[gk,Op.bytesLess]
 | a::x,b::y=>by
  simp only[List.map_cons,gk,Op.bytesLess,qm x y]
  have e1:blt a.toNat b.toNat=decide (a<b):=by
   cases h:blt a.toNat b.toNat
   ·have:=Il h;symm;simp[UInt8.lt_iff_toNat_lt];omega
   ·have:=fQ h;symm;simp[UInt8.lt_iff_toNat_lt];omega
  have e2:beq a.toNat b.toNat=(a==b):=by
   cases h:beq a.toNat b.toNat
   ·have:=gM h;symm;simp;intro e;subst e;exact this rfl
   ·have:=cP h;symm;simp;exact UInt8.toNat_inj.1 this
  rw[e1,e2]
theorem tc{l:List Nat}{s:ByteArray}(h:s.data.toList.map (·.toNat)=l):s.size=l.length:=by
 rw[<-h,List.length_map,Array.length_toList];rfl
theorem sX{P:Program}{σ:Sg}{w:World}{d D:Nat}(ih:∀(t:TypeId) (x y:AV) (v u:Value) (b:Bool),kR P d t x y=some b->V σ x v->V σ y u->(Op.equalIn D t v u).run P w=.ok b w)
 {xs ys:List AV} {vs us:Array Value} (hx:VL σ xs vs.toList) (hy:VL σ ys us.toList):∀(fs:List Field) (b:Bool),eqFields P (kR P d) fs xs ys=some b->(Op.eqFields D vs us fs).run P w=.ok b w
 | [],b,h=>by simp[eqFields] at h;subst h;rfl
 | f::fs,b,h=>by
  simp only[eqFields] at h;cases hn:f.name== "_"
  ·rw[hn,ao] at h
   have hne:f.name≠ "_":=by simpa using hn
   cases h1:dI P f.type xs f.offset with
   | none=>simp[h1] at h
   | some a=>
    cases h2:dI P f.type ys f.offset with
    | none=>simp[h1,h2] at h
    | some c=>
     simp only[h1,h2] at h;obtain⟨v,hv,hV⟩:=iY (w:=w) hx h1;obtain⟨u,hu,hU⟩:=iY (w:=w) hy h2;simp only[Op.eqFields,hne,ne_eq,not_false_eq_true,if_true,Sem.run_bind,hv,Result.andThen_ok,hu]
     cases h3:kR P d f.type a c with
     | none=>simp[h3] at h
     | some r=>
      rw[ih _ _ _ _ _ _ h3 hV hU];cases r
      ·simp[h3] at h;subst h;simp
      ·simp only[h3] at h;simp only[Result.andThen_ok,Bool.not_true,Bool.false_eq_true,if_false];exact sX ih hx hy fs b h
  ·simp[hn] at h
theorem vd{P:Program}{σ:Sg}{w:World}{d D e s:Nat}(ih:∀(t:TypeId) (x y:AV) (v u:Value) (b:Bool),kR P d t x y=some b->V σ x v->V σ y u->(Op.equalIn D t v u).run P w=.ok b w)
 {xs ys:List AV} {vs us:Array Value} (hx:VL σ xs vs.toList) (hy:VL σ ys us.toList):∀(m i:Nat) (b:Bool),rV P (kR P d e) e s xs ys m i=some b->
 (forIn (m:=Sem) (range' i m) ((none,()):Option Bool×Unit) λi _=>do
  let a <-part e vs (i*s)
  let c <-part e us (i*s)
  let q <-Op.equalIn D e a c
  if (!q)=true then pure (.done (some false,())) else pure (.yield (none,()))).run P w=.ok (if b then (none,()) else (some false,())) w
 | 0,i,b,h=>by simp[rV] at h;subst h;simp
 | m+1,i,b,h=>by
  simp only[rV] at h
  cases h1:dI P e xs (i*s) with
  | none=>simp[h1] at h
  | some a=>
   cases h2:dI P e ys (i*s) with
   | none=>simp[h1,h2] at h
   | some c=>
    simp only[h1,h2] at h;obtain⟨v,hv,hV⟩:=iY (w:=w) hx h1;obtain⟨u,hu,hU⟩:=iY (w:=w) hy h2;rw[List.range'_succ,forIn_cons];simp only[Sem.run_bind,hv,Result.andThen_ok,hu]
    cases h3:kR P d e a c with
    | none=>simp[h3] at h
    | some r=>
     rw[ih _ _ _ _ _ _ h3 hV hU];cases r
     ·simp[h3] at h;subst h;simp
     ·simp only[h3] at h;simp only[Result.andThen_ok,Bool.not_true,Bool.false_eq_true,if_false,Sem.run_pure];exact vd ih hx hy m (i+1) b h
theorem IA{P:Program}{σ:Sg}{w:World}(k:Nat):∀(d:Nat) (t:TypeId) (x y:AV) (v u:Value) (b:Bool),kR P d t x y=some b->V σ x v->V σ y u->(Op.equalIn (d+k) t v u).run P w=.ok b w:=by
 intro d
 induction d with
 | zero=>intro t x y v u b h;simp[kR] at h
 | succ d ih=>
  intro t x y v u b h hv hu;rw[show d+1+k=(d+k)+1 by omega];simp only[kR] at h;split at h
  case h_1 hu'=>simp only[Option.some.injEq] at h;subst h;cases hv;cases hu;simp[Op.equalIn,aN hu']
  case h_2 hu'=>
   obtain⟨hk,h⟩:=aK h;simp only[Option.some.injEq] at h;subst h;have:=(wj _ _).1 hk;subst this;cases hv;cases hu;simp[Op.equalIn,aN hu',rW]
  case h_3 hu'=>
   simp only[Option.some.injEq] at h;subst h
   cases hv with
   | str h1=>cases hu with
    | str h2=>simp[Op.equalIn,aN hu',qe h1 h2,beq_toListBytes]
  case h_4 hu'=>
   simp only[Option.some.injEq] at h;subst h;cases hv;cases hu<;>simp[Op.equalIn,aN hu']
  case h_5 hu'=>simp only[Option.some.injEq] at h;subst h;cases hv;cases hu;simp[Op.equalIn,aN hu']
  case h_6 hu'=>
   simp only[Option.some.injEq] at h;subst h;cases hv;cases hu<;>simp[Op.equalIn,aN hu']
  case h_7 hu'=>simp only[Option.some.injEq] at h;subst h;cases hv;cases hu;simp[Op.equalIn,aN hu']
  case h_8 hu'=>
   simp only[Option.some.injEq] at h;subst h;cases hv;cases hu<;>simp[Op.equalIn,aN hu']
  case h_9 hu'=>simp only[Option.some.injEq] at h;subst h;cases hv;cases hu;simp[Op.equalIn,aN hu']
  case h_10 hu'=>simp only[Option.some.injEq] at h;subst h;cases hv;cases hu;simp[Op.equalIn,aN hu']
  case h_11 hu'=>simp only[Option.some.injEq] at h;subst h;cases hv;cases hu<;>simp[Op.equalIn,aN hu']
  case h_12 hu'=>simp only[Option.some.injEq] at h;subst h;cases hu;cases hv<;>simp[Op.equalIn,aN hu']
  case h_13 fs xs ys hu'=>
   cases hs:P.stoodInHeld t
   ·rw[hs,ao] at h;obtain⟨vs,rfl,hvs⟩:=hv.nb;obtain⟨us,rfl,hus⟩:=hu.nb
    have hf:P.fieldsOf t=fs:=by simp[Program.fieldsOf,hu']
    rw[run_equalIn_struct w (d+k) t vs us (by rw[hf];exact hu') hs,hf];exact sX (λt x y v u b h h1 h2=>ih t x y v u b h h1 h2) hvs hus _ _ h
   ·simp[hs] at h
  case h_14 n e xs ys hu'=>
   cases hs:cx P e with
   | none=>simp[hs] at h
   | some s=>
    simp only[hs,bind_some] at h;obtain⟨vs,rfl,hvs⟩:=hv.nb;obtain⟨us,rfl,hus⟩:=hu.nb;have hr:=vd (λt x y v u b h h1 h2=>ih t x y v u b h h1 h2) hvs hus n 0 b h;simp only[Op.equalIn,Sem.run_bind,aN hu',Result.andThen_ok,bT hs];simp only[Std.Legacy.Range.forIn_eq_forIn_range',Std.Legacy.Range.size,Nat.sub_zero,Nat.add_sub_cancel,Nat.div_one];rw[hr];cases b<;>simp
  case h_15=>simp at h
theorem sW{P:Program}{σ:Sg}{w:World}{em:Bool}{D:Nat}{ck:TypeId->AV->Bool}(ih:∀(t:TypeId) (x:AV) (v:Value),ck t x=true->V σ x v->(Instr.checkKey em D t v).run P w=.ok () w)
 {xs:List AV} {vs:Array Value} (hx:VL σ xs vs.toList):∀(fs:List Field),nq P ck fs xs=true->
 (forIn (m:=Sem) fs PUnit.unit λf _=>if f.name≠ "_" then do
  let a <-part f.type vs f.offset
  Instr.checkKey em D f.type a
  pure (.yield PUnit.unit) else pure (.yield PUnit.unit)).run P w=.ok PUnit.unit w
 | [],_=>by simp
 | f::fs,h=>by
  simp only[nq,Bool.and_eq_true] at h;obtain⟨h1,h2,h3⟩:=h
  have hne:f.name≠ "_":=by simpa using h1
  cases h4:dI P f.type xs f.offset with
  | none=>simp[h4] at h2
  | some a=>
   simp only[h4] at h2;obtain⟨v,hv,hV⟩:=iY (w:=w) hx h4;rw[List.forIn_cons];simp only[hne,ne_eq,not_false_eq_true,if_true,Sem.run_bind,hv,Result.andThen_ok,ih _ _ _ h2 hV,Sem.run_pure];exact sW ih hx fs h3
theorem vc{P:Program}{σ:Sg}{w:World}{em:Bool}{D e s:Nat}{ck:AV->Bool}(ih:∀(x:AV) (v:Value),ck x=true->V σ x v->(Instr.checkKey em D e v).run P w=.ok () w)
 {xs:List AV} {vs:Array Value} (hx:VL σ xs vs.toList) (hs:cx P e=some s):∀(m i:Nat),wh P ck e s xs m i=true->
 (forIn (m:=Sem) (range' i m) PUnit.unit λi _=>do
  let n <-sizeOf e
  let a <-part e vs (i*n)
  Instr.checkKey em D e a
  pure (.yield PUnit.unit)).run P w=.ok PUnit.unit w
 | 0,i,_=>by simp
 | m+1,i,h=>by
  simp only[wh,and_eq_true] at h;obtain⟨h1,h2⟩:=h
  cases h4:dI P e xs (i*s) with
  | none=>simp[h4] at h1
  | some a=>
   simp only[h4] at h1;obtain⟨v,hv,hV⟩:=iY (w:=w) hx h4;rw[List.range'_succ,forIn_cons];simp only[Sem.run_bind,bT hs,hv,Result.andThen_ok,ih _ _ h1 hV,Sem.run_pure];exact vc ih hx hs m (i+1) h2
theorem Nt{P:Program}{σ:Sg}{w:World}(em:Bool)(k:Nat):∀(d:Nat) (t:TypeId) (x:AV) (v:Value),DL P d t x=true->V σ x v->(Instr.checkKey em (d+k) t v).run P w=.ok () w:=by
 intro d
 induction d with
 | zero=>intro t x v h;simp[DL] at h
 | succ d ih=>
  intro t x v h hv;rw[show d+1+k=(d+k)+1 by omega];simp only[DL] at h;split at h
  case h_1 hu=>cases hv;simp[Instr.checkKey,aN hu]
  case h_2 hu=>cases hv;simp[Instr.checkKey,aN hu]
  case h_3 hu=>cases hv;simp[Instr.checkKey,aN hu]
  case h_4 fs xs hu=>
   obtain⟨vs,rfl,hvs⟩:=hv.nb;have:=sW (w:=w) (em:=em) (λt x v h1 h2=>ih t x v h1 h2) hvs fs.toList h;simp only[Instr.checkKey,Sem.run_bind,aN hu,Result.andThen_ok];rw[<-Array.forIn_toList,this];simp
  case h_5 n e xs hu=>
   cases hs:cx P e with
   | none=>simp[hs] at h
   | some s=>
    simp only[hs] at h;obtain⟨vs,rfl,hvs⟩:=hv.nb;have:=vc (w:=w) (em:=em) (λx v h1 h2=>ih e x v h1 h2) hvs hs n 0 h;simp only[Instr.checkKey,Sem.run_bind,aN hu,Result.andThen_ok];simp only[Std.Legacy.Range.forIn_eq_forIn_range',Std.Legacy.Range.size,Nat.sub_zero,Nat.add_sub_cancel,Nat.div_one];rw[this];simp
  case h_6=>simp at h
theorem jw{P:Program}{σ:Sg}{w:World}{t:TypeId}{x:AV}{v:Value}(h:vJ P t x=true)(hv:V σ x v)(em:Bool):(Instr.checkKey em 10000 t v).run P w=.ok () w:=
 Nt em 9996 4 t x v h hv
def EL(σ:Sg)(es:List (AV×AV×Nat))(es':List MapEntry):Prop:=es.length=es'.length/\∀(i:Nat) (e:AV×AV×Nat) (m:MapEntry),es[i]?=some e->es'[i]?=some m->ER σ e m
theorem EL.cons{σ:Sg}{e:AV×AV×Nat}{es:List (AV×AV×Nat)}{l:List MapEntry}(h:EL σ (e::es) l):∃m l',l=m::l'/\ER σ e m/\EL σ es l':=by
 cases l with
 | nil=>have:=h.1;simp at this
 | cons m l'=>exact⟨m,l',rfl,h.2 0 e m (by simp) (by simp),by have:=h.1;simpa using this,λi x y hx hy=>h.2 (i+1) x y (by simpa using hx) (by simpa using hy)⟩
theorem EL.nil{σ:Sg}{l:List MapEntry}(h:EL σ [] l):l=[]:=by
 cases l with
 | nil=>rfl
 | cons m l'=>have:=h.1;simp at this
def found(r:Option Nat)(i:Nat)(l:List MapEntry):Option (Nat×Value):=match r with
 | none=>none
 | some j=>(l[j-i]?).map λm=>(j,m.val)
theorem r9{P:Program}{kt:TypeId}{k:AV}:∀(es:List (AV×AV×Nat)) (i j:Nat),gz P kt k es i=some (some j)->i<=j/\j<i+es.length
 | [],i,j,h=>by simp[gz] at h
 | e::es,i,j,h=>by
  simp only[gz] at h;split at h
  ·simp at h;subst h;simp
  ·have:=r9 es (i+1) j h;simp;omega
  ·simp at h
theorem xq{r:Option Nat}{i:Nat}{m:MapEntry}{l:List MapEntry}(h:∀j,r=some j->i+1<=j):found r i (m::l)=found r (i+1) l:=by
 cases r with
 | none=>rfl
 | some j=>have:=h j rfl;simp only[found];rw[show j-i=(j-(i+1))+1 by omega,List.getElem?_cons_succ]
theorem ph{P:Program}{σ:Sg}{w:World}{kt:TypeId}{k:AV}{v:Value}(hk:V σ k v):∀(es:List (AV×AV×Nat)) (l:List MapEntry) (i:Nat) (r:Option Nat),
 gz P kt k es i=some r->EL σ es l->(Instr.findAsking kt v l i).run P w=.ok (found r i l) w
 | [],l,i,r,h,hl=>by have:=hl.nil;subst this;simp[gz] at h;subst h;simp[Instr.findAsking,found]
 | e::es,l,i,r,h,hl=>by
  obtain⟨m,l',rfl,he,hl'⟩:=hl.cons;simp only[gz] at h
  cases h1:kR P 4 kt k e.1 with
  | none=>simp[h1] at h
  | some b=>
   have hr:(Op.equal kt v m.key).run P w=.ok b w:=IA 9996 4 kt k e.1 v m.key b h1 hk he.1;simp only[Instr.findAsking,Sem.run_bind,hr,Result.andThen_ok];cases b
   ·simp only[h1] at h;rw[if_neg (by simp),ph hk es l' (i+1) r h hl'];rw[xq];intro j hj;subst hj;exact(r9 es (i+1) j h).1
   ·simp only[h1,Option.some.injEq] at h;subst h;simp[found]
theorem Hg{P:Program}{σ:Sg}{d:Nat}{kt:TypeId}{kd:TypeDesc}(hu:P.underlying kt=some kd){x y:AV}{v u:Value}{b c:Bool}(h:kR P (d+1) kt x y=some b)(hx:V σ x v)(hy:V σ y u)(hn:Instr.sameNow kd v u=some c):c=b:=by
 simp only[kR,hu] at h;unfold Instr.sameNow at hn;split at hn
 ·cases hx with
  | any _=>simp at h
  | int=>cases hy with
   | any _=>simp at h
   | int=>
    obtain⟨h1,h2⟩:=aK h;have:=(wj _ _).1 h1;subst this;simp only[if_true,Option.some.injEq] at hn h2;rw[<-hn,<-h2,rW]
 ·cases hx with
  | any _=>simp at h
  | str h1=>cases hy with
   | any _=>simp at h
   | str h2=>
    simp only[Option.some.injEq] at h hn;rw[<-hn,<-h,qe h1 h2,beq_toListBytes]
 ·cases hx with
  | any _=>simp at h
  | bool=>cases hy with
   | any _=>simp at h
   | bool=>
    simp only[Option.some.injEq] at h hn;rw[<-hn,<-h]
 ·simp at hn
theorem xk{P:Program}{σ:Sg}{kt:TypeId}{kd:TypeDesc}(hu:P.underlying kt=some kd){k:AV}{v:Value}(hk:V σ k v):∀(es:List (AV×AV×Nat)) (l:List MapEntry) (i:Nat) (r:Option Nat) (q:Option (Nat×Value)),
 gz P kt k es i=some r->EL σ es l->Instr.findNow kd v l i=some q->q=found r i l
 | [],l,i,r,q,h,hl,hn=>by have:=hl.nil;subst this;simp[gz] at h;subst h;simp[Instr.findNow] at hn;subst hn;rfl
 | e::es,l,i,r,q,h,hl,hn=>by
  obtain⟨m,l',rfl,he,hl'⟩:=hl.cons;simp only[gz] at h
  cases h1:kR P 4 kt k e.1 with
  | none=>simp[h1] at h
  | some b=>
   simp only[Instr.findNow] at hn
   cases hs:Instr.sameNow kd v m.key with
   | none=>simp[hs] at hn
   | some c=>
    have:=Hg hu h1 hk he.1 hs;subst this;cases c
    ·simp only[h1] at h;simp only[hs] at hn;rw[xk hu hk es l' (i+1) r q h hl' hn,xq];intro j hj;subst hj;exact(r9 es (i+1) j h).1
    ·simp only[h1,Option.some.injEq] at h;simp only[hs,Option.some.injEq] at hn;subst h;subst hn;simp[found]
theorem mD{P:Program}{σ:Sg}{w:World}{kt:TypeId}{kd:TypeDesc}(hu:P.underlying kt=some kd){k:AV}{v:Value}(hk:V σ k v){es:List (AV×AV×Nat)}{l:List MapEntry}{r:Option Nat}
 (h:gz P kt k es 0=some r) (hl:EL σ es l):(Instr.findKey kt v l).run P w=.ok (found r 0 l) w:=by
 simp only[Instr.findKey,Sem.run_bind,aN hu,Result.andThen_ok]
 cases hn:Instr.findNow kd v l 0 with
 | some q=>rw[xk hu hk es l 0 r q h hl hn];simp
 | none=>exact ph hk es l 0 r h hl
theorem nP{eq:AV->AV->Bool}(ih:∀a b,eq a b=true->a=b):∀xs ys:List AV,hY eq xs ys=true->xs=ys
 | [],[],_=>rfl
 | [],_::_,h=>by simp[hY] at h
 | _::_,[],h=>by simp[hY] at h
 | x::xs,y::ys,h=>by
  simp only[hY,and_eq_true] at h;rw[ih x y h.1,nP ih xs ys h.2]
theorem Lv:∀(n:Nat) (a b:AV),gy n a b=true->a=b:=by
 intro n
 induction n with
 | zero=>intro a b h;simp[gy] at h
 | succ n ih=>
  intro a b h;simp only[gy] at h;split at h
  case h_1=>simp at h;rw[h]
  case h_2=>simp only[and_eq_true] at h;have h2:=h.2;rw[rW] at h2;rw[(wj _ _).1 h.1,beq_iff_eq.1 h2]
  case h_3=>rw[BQ] at h;rw[of_decide_eq_true h]
  case h_4=>rfl
  case h_5=>simp only[and_eq_true] at h;rw[cP h.1,cP h.2]
  case h_6=>
   simp only[and_eq_true] at h;obtain⟨⟨⟨⟨h1,h2⟩,h3⟩,h4⟩,h5⟩:=h;rw[cP h1,cP h2,cP h3,cP h4];split at h5
   ·rfl
   ·rw[cP h5]
   ·simp at h5
  case h_7=>simp only[and_eq_true] at h;rw[cP h.1.1,cP h.1.2,cP h.2]
  case h_8=>rfl
  case h_9=>rw[cP h]
  case h_10=>rfl
  case h_11=>rfl
  case h_12=>rw[nP ih _ _ h]
  case h_13=>rw[nP ih _ _ h]
  case h_14=>rw[cP h]
  case h_15=>simp only[and_eq_true] at h;rw[cP h.1,nP ih _ _ h.2.1,nP ih _ _ h.2.2]
  case h_16=>simp only[and_eq_true] at h;rw[cP h.1,ih _ _ h.2]
  case h_17=>simp only[and_eq_true] at h;rw[of_decide_eq_true h.1,nP ih _ _ h.2.1,nP ih _ _ h.2.2]
  case h_18=>simp at h
theorem sd{σ:Sg}{x:AV}{v u:Value}(hf:lR x=true)(h:V σ x v)(k:V σ x u):v=u/\∀n,Instr.sameBits n v u=true:=by
 cases x<;>simp[lR] at hf
 ·cases h;cases k;exact⟨rfl,λn=>by cases n<;>simp[Instr.sameBits]⟩
 ·cases h;cases k;exact⟨rfl,λn=>by cases n<;>simp[Instr.sameBits]⟩
 ·cases h with
  | @str _ s h1=>cases k with
   | @str _ t h2=>
    have e:s=t:=by
     have:=mg _ _ (h1.trans h2.symm);obtain⟨⟨a⟩⟩:=s;obtain⟨⟨b⟩⟩:=t;simp only at this;subst this;rfl
    subst e
    have hb:(s==s)=true:=by rw[beq_toListBytes];simp
    exact⟨rfl,λn=>by cases n<;>simpa [Instr.sameBits] using hb⟩
theorem AD{σ:Sg}:∀(xs:List AV) (vs us:List Value),xs.all lR=true->VL σ xs vs->VL σ xs us->vs=us/\∀n,(vs.zip us).all (λ(x,y)=>Instr.sameBits n x y)=true
 | [],vs,us,_,h,k=>by have:=h.og;subst this;have:=k.og;subst this;exact⟨rfl,λn=>by simp⟩
 | x::xs,vs,us,hf,h,k=>by
  obtain⟨v,vs',rfl,h1,h2⟩:=h.dF;obtain⟨u,us',rfl,k1,k2⟩:=k.dF;simp only[List.all_cons,and_eq_true] at hf;obtain⟨a,b⟩:=sd hf.1 h1 k1;obtain⟨c,d⟩:=AD xs vs' us' hf.2 h2 k2;exact⟨by rw[a,c],λn=>by simp only[List.zip_cons_cons,List.all_cons,b n,d n,Bool.and_self]⟩
theorem Bg{P:Program}{σ:Sg}{w:World}{k lJ:AV}{v u:Value}(h:stays k lJ=true)(hv:V σ k v)(hu:V σ lJ u):(Instr.keyThatStays u v).run P w=.ok v w:=by
 simp only[stays,and_eq_true] at h;have:=Lv _ _ _ h.2;subst this
 have hs:Instr.sameBits 10000 u v=true:=by
  have hk:=h.1
  cases k with
  | agg cs=>
   obtain⟨vs,rfl,hvs⟩:=hv.nb;obtain⟨us,rfl,hus⟩:=hu.nb;obtain⟨e,hall⟩:=AD cs us.toList vs.toList hk hus hvs
   have hsz:us.size=vs.size:=by have:=congrArg List.length e;simpa using this
   simp only[Instr.sameBits,hsz,beq_self_eq_true,Bool.true_and];exact hall 9999
  | bool _=>exact(sd rfl hu hv).2 _
  | int _ _=>exact(sd rfl hu hv).2 _
  | str _=>exact(sd rfl hu hv).2 _
  | _=>simp[Ck,lR] at hk
 simp[Instr.keyThatStays,hs]
end Go.Ev
