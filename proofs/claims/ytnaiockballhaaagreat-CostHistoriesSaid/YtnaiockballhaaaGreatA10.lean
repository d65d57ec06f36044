/- A part of the texts of this claim: every theorem says what it proves, with its conditions. -/
import Derived.Test.YtnaiockballhaaaGreatA9
import Derived.Test.YtnaiockballhaaaGreatA1
import Derived.Deep.Slices
import Derived.Deep.Strs
import Derived.SizedLaws
set_option linter.unusedSimpArgs false
set_option linter.unusedVariables false
set_option linter.unusedSectionVars false
open List (getElem?_eq_getElem range mem_range length_map mem_cons_of_mem mem_map flatten_cons getD getElem?_map length_range mem_cons_self map_cons map_nil)
open Nat (beq blt zero_le add_zero ble)
open Option (bind_some)
open Bool (and_eq_true)
namespace Go.Ev
theorem HR.rewrite{σ:Sg}{h:H}{w w1:World}(hr:HR σ h w){id bZ:Nat}{cs cs':List AV}{p:rH}(ho:h.aQ.get id=some (.cells cs bZ))(hp:σ id=some p)(hlen:cs'.length=cs.length)
 {c c':Array Value} {e:TypeId} (hb:w.heap[p.b]?=some (.cells c e (0,0))) (hb':w1.heap[p.b]?=some (.cells c' e (0,0))) (hcz:c'.size=c.size) (hV:∀(i:Nat) (a:AV),cs'[i]?=some a->∃v,c'[p.d+i]?=some v/\V σ a v)
 (hoth:∀b,b≠p.b->w1.heap[b]?=w.heap[b]?) (hs:w1.heap.size=w.heap.size) (e1:w1.os=w.os) (e2:w1.tape=w.tape) (e3:w1.output=w.output):
 HR σ { h.alone id bZ with aQ:=(h.alone id bZ).aQ.put id (some (.cells cs' bZ)),low:=gh (h.alone id bZ).low id } w1/\
 Ext σ σ h { h.alone id bZ with aQ:=(h.alone id bZ).aQ.put id (some (.cells cs' bZ)),low:=gh (h.alone id bZ).low id } w w1:=by
 obtain⟨q,c0,e0,hq,h1,h2,h3,h4⟩:=hr.cells ho;rw[hp] at hq;cases hq;rw[hb] at h1;cases h1;obtain⟨a1,a2,a3,a4,a5,a6,a7,a8⟩:=mz hr ho;refine hr.update (o':=.cells cs' bZ) ho hp ?_ a4 ?_ ?_ hoth hs e1 e2 e3 (Nat.le_trans (dM _ _).1 a7) ?_
 ·intro j x hx;simp only[dw] at hx;split at hx
  ·rename_i e;cases hx;exact .inl ⟨e,rfl⟩
  ·rename_i hne;have hx':=a2 j x hx;refine .inr ⟨hne,hx',?_⟩;intro q hq hbb;obtain⟨cs1,e1⟩:=(hr.sep j id x _ q p hne hx' ho hq hp hbb).left;subst e1;exact hne (a3 j cs1 hx)
 ·intro i cs'' f hi;simp only[dw] at hi;split at hi
  ·rename_i e;cases hi;subst e;exact⟨(hr.bZ i _ _ ho).1,a5⟩
  ·rename_i hne;have hi':=a2 _ _ hi;obtain⟨b1,x,y,b2,b3⟩:=hr.bZ i _ _ hi';refine⟨b1,x,y,?_,b3⟩;rw[a6 f (λe=>hne (a3 i cs'' (e▸hi)))];exact b2
 ·exact⟨c',e,hb',by rw[hcz];exact h2,by omega,hV⟩
 ·intro j hj hjn;simp only[dw];have hm:=dM (h.alone id bZ).low id;rw[if_neg (by simp only at hj;omega)];exact a8 j (by simp only at hj;omega)
theorem Ai{h:H}{id bZ x y:Nat}(hf:h.dA.get bZ=some (x,y)):(h.alone id bZ).dA.get bZ=some (id,id):=by
 unfold H.alone;rw[hf];simp only;cases hb:(beq x id&&beq y id)
 ·rw[ao];exact cR _ _ _
 ·rw[ah,hf];simp only[and_eq_true] at hb;rw[cP hb.1,cP hb.2]
theorem om:∀a:List Nat,gk a a=false
 | []=>rfl
 | x::a=>by
  simp only[gk,om a,Bool.and_false,Bool.or_false];cases hb:blt x x
  ·rfl
  ·exact absurd (fQ hb) (Nat.lt_irrefl _)
theorem Im(a b:Nat):blt a b=decide (a<b):=by
 by_cases h:a<b
 ·have:blt a b=true:=Nat.ble_eq_true_of_le h;simp[h,this]
 ·cases hb:blt a b
  ·simp[h]
  ·exact absurd (fQ hb) h
theorem beq_iff(a b:Nat):beq a b=decide (a=b):=by
 by_cases h:a=b
 ·subst h;simp
 ·cases hb:beq a b
  ·simp[h]
  ·exact absurd (cP hb) h
theorem oq:∀a b:List Nat,gk a b=true\/a=b\/gk b a=true
 | [],[]=>.inr (.inl rfl)
 | [],_::_=>.inl rfl
 | _::_,[]=>.inr (.inr rfl)
 | x::a,y::b=>by
  simp only[gk,Im,beq_iff]
  rcases Nat.lt_trichotomy x y with h | h | h
  ·exact .inl (by simp[h])
  ·subst h
   rcases oq a b with h | h | h
   ·exact .inl (by simp[h])
   ·exact .inr (.inl (by rw[h]))
   ·exact .inr (.inr (by simp[h]))
  ·exact .inr (.inr (by simp[h]))
theorem lI:∀{a b c:List Nat},gk a b=true->gk b c=true->gk a c=true
 | _,[],_,h,_=>by simp[gk] at h
 | _,_::_,[],_,h=>by simp[gk] at h
 | [],_::_,_::_,_,_=>rfl
 | x::a,y::b,z::c,h1,h2=>by
  simp only[gk,Im,beq_iff,Bool.or_eq_true,and_eq_true,decide_eq_true_eq] at h1 h2 ⊢
  rcases h1 with h1 | ⟨h1,g1⟩
  ·rcases h2 with h2 | ⟨h2,_⟩
   ·exact .inl (by omega)
   ·exact .inl (by omega)
  ·rcases h2 with h2 | ⟨h2,g2⟩
   ·exact .inl (by omega)
   ·exact .inr ⟨by omega,lI g1 g2⟩
theorem ql{a b:List Nat}(h:gk a b=true):gk b a=false:=by
 cases hb:gk b a
 ·rfl
 ·have:=lI h hb;rw[om] at this;cases this
noncomputable section
theorem jQ{h:H}{id bZ x y:Nat}(hf:h.dA.get bZ=some (x,y)){i:Nat}(hx:i≠x)(hy:i≠y):(h.alone id bZ).aQ.get i=h.aQ.get i:=by
 unfold H.alone;rw[hf];simp only;cases hb:(beq x id&&beq y id)
 ·rw[ao];simp only;cases beq y id
  ·rw[ao];cases beq x id
   ·rw[ao,bj _ _ hy,bj _ _ hx]
   ·rw[ah,bj _ _ hy]
  ·rw[ah,bj _ _ hx]
 ·rw[ah]
theorem Ep{k:IntKind}{a b:Int}:rj false (.int k a) (.int k b)=some (.int k (if a<=b then a else b)):=by
 simp only[rj,eE,ao];by_cases h:a<=b<;>simp[h]
theorem Eo{k:IntKind}{a b:Int}:rj true (.int k a) (.int k b)=some (.int k (if b<=a then a else b)):=by
 simp only[rj,eE,ah];by_cases h:b<=a<;>simp[h]
open Go.RowKit Go.ChangeShapes Go.WideShapes Go.Deep
abbrev Nb:=List (rH×Option (List AV))
def Ms:Nb->Nat->Tr AO->Tr AO
 | [],_,t=>t
 | (_,oc)::l,i,t=>Ms l (i+1) (match oc with | some cs=>t.put i (some (.ro cs)) | none=>t)
def Q9(l:Nb):H:={ aQ:=Ms l 0 .nil,dA:=.nil,next:=l.length,low:=0 }
theorem ES:∀(l:Nb) (i:Nat) (t:Tr AO) (j:Nat),(Ms l i t).get j=if i<=j/\j<i+l.length then (match (l[j-i]?).bind (·.2) with | some cs=>some (.ro cs) | none=>t.get j) else t.get j
 | [],i,t,j=>by rw[if_neg (by simp)];rfl
 | (p,oc)::l,i,t,j=>by
  unfold Ms;rw[ES l (i+1)];by_cases hj:j=i
  ·subst hj;rw[if_neg (by omega),if_pos (by simp),Nat.sub_self]
   cases oc with
   | none=>rfl
   | some cs=>exact cR _ _ _
  ·have ht:(match oc with | some cs=>t.put i (some (.ro cs)) | none=>t).get j=t.get j:=by
    cases oc with
    | none=>rfl
    | some cs=>exact bj _ _ hj
   rw[ht];by_cases h:i+1<=j/\j<i+1+l.length
   ·rw[if_pos h,if_pos (by simp;omega)]
    have e:j-i=(j-(i+1))+1:=by omega
    rw[e,List.getElem?_cons_succ]
   ·rw[if_neg h,if_neg (by simp;omega)]
theorem NJ(l:Nb)(j:Nat):(Q9 l).aQ.get j=((l[j]?).bind (·.2)).map .ro:=by
 show(Ms l 0 .nil).get j=_;rw[ES,Nat.sub_zero,Nat.zero_add];by_cases h:j<l.length
 ·rw[if_pos ⟨zero_le _,h⟩]
  cases hb:(l[j]?).bind (·.2) with
  | none=>exact get_nil _
  | some cs=>rfl
 ·rw[if_neg (by omega),List.getElem?_eq_none (by omega)];exact get_nil _
theorem Am{w:World}{b o:Nat}{v:Value}(h:w.cell? ⟨b,o,none⟩=some v):∃c e f,w.heap[b]?=some (.cells c e f)/\c[o]?=some v:=by
 unfold World.cell? at h;split at h
 ·rename_i c e f hb;split at h
  ·cases h
  ·exact⟨c,e,f,hb,h⟩
 ·cases h
variable {Hh:Type} {enc:TypeId×Value->Hh} {P:Program} {w:World} {held:Bool}
theorem Lf(s:ByteArray):∀b∈s.data.toList.map (·.toNat),b<256:=by
 intro b hb;obtain⟨u,_,rfl⟩:=mem_map.1 hb;exact u.toNat_lt
open Go.RowKit
mutual
def Wd(w:World):DV->Value->Prop
 | .fl a,v=>lR a=true/\∀σ:Sg,V σ a v
 | .sl nl n e cs,v=>(nl=true/\n=0/\cs=[]/\v=.slice none 0 0)\/
  (nl=false/\∃a c,v=.slice (some a) n c/\n<=c/\((n=0/\cs=[]/\(a.spot=none\/c=0))\/
   (0<n/\a.spot=none/\∃arr ty f us,w.heap[a.block]?=some (.cells arr ty f)/\a.off+c*e<=arr.size/\us.length=n*e/\(∀(i:Nat) u,us[i]?=some u->arr[a.off+i]?=some u)/\my w cs us)))
 | .ag cs,v=>∃vs,v=.agg vs/\my w cs vs.toList
def my(w:World):List DV->List Value->Prop
 | [],us=>us=[]
 | d::ds,us=>∃u r,us=u::r/\Wd w d u/\my w ds r
end
mutual
def Dp(s:Bool)(h:H):DV->AV->Prop
 | .fl a0,a=>a=a0/\lR a0=true
 | .sl nl n e cs,a=>(n=0/\cs=[]/\(∃o e' c,a=.slice o 0 e' c/\(o=none->c=some 0)/\(o≠none->e'=e))/\(s=true->nl=true/\a=.slice none 0 e (some 0)))\/
  ((s=true->nl=false/\0<n)/\∃id off cap row aS,a=.slice (some (id,off)) n e cap/\id<h.next/\qK h.aQ id=some row/\off+n*e<=row.length/\aS=(row.drop off).take (n*e)/\Da s h cs aS)
 | .ag cs,a=>∃aS,a=.agg aS/\Da s h cs aS
def Da(s:Bool)(h:H):List DV->List AV->Prop
 | [],aS=>aS=[]
 | d::ds,aS=>∃a r,aS=a::r/\Dp s h d a/\Da s h ds r
end
section
variable {w:World} {s:Bool} {h:H}
theorem Di{a:AV}{v:Value}:Wd w (.fl a) v↔lR a=true/\∀σ:Sg,V σ a v:=by rw[Wd]
theorem Dj{nl:Bool}{n e:Nat}{cs:List DV}{v:Value}:Wd w (.sl nl n e cs) v↔(nl=true/\n=0/\cs=[]/\v=.slice none 0 0)\/
 (nl=false/\∃a c,v=.slice (some a) n c/\n<=c/\((n=0/\cs=[]/\(a.spot=none\/c=0))\/
  (0<n/\a.spot=none/\∃arr ty f us,w.heap[a.block]?=some (.cells arr ty f)/\a.off+c*e<=arr.size/\us.length=n*e/\(∀(i:Nat) u,us[i]?=some u->arr[a.off+i]?=some u)/\my w cs us))):=by rw[Wd]
theorem K3{cs:List DV}{v:Value}:Wd w (.ag cs) v↔∃vs,v=.agg vs/\my w cs vs.toList:=by rw[Wd]
theorem iH{us:List Value}:my w [] us↔us=[]:=by rw[my]
theorem eo{d:DV}{ds:List DV}{us:List Value}:my w (d::ds) us↔∃u r,us=u::r/\Wd w d u/\my w ds r:=by rw[my]
theorem PS{a0 a:AV}:Dp s h (.fl a0) a↔a=a0/\lR a0=true:=by rw[Dp]
theorem Ih{nl:Bool}{n e:Nat}{cs:List DV}{a:AV}:Dp s h (.sl nl n e cs) a↔(n=0/\cs=[]/\(∃o e' c,a=.slice o 0 e' c/\(o=none->c=some 0)/\(o≠none->e'=e))/\(s=true->nl=true/\a=.slice none 0 e (some 0)))\/
 ((s=true->nl=false/\0<n)/\∃id off cap row aS,a=.slice (some (id,off)) n e cap/\id<h.next/\qK h.aQ id=some row/\off+n*e<=row.length/\aS=(row.drop off).take (n*e)/\Da s h cs aS):=by rw[Dp]
theorem PR{cs:List DV}{a:AV}:Dp s h (.ag cs) a↔∃aS,a=.agg aS/\Da s h cs aS:=by rw[Dp]
theorem Nd{aS:List AV}:Da s h [] aS↔aS=[]:=by rw[Da]
theorem KU{d:DV}{ds:List DV}{aS:List AV}:Da s h (d::ds) aS↔∃a r,aS=a::r/\Dp s h d a/\Da s h ds r:=by rw[Da]
end
def K1(σ:Sg)(w:World)(p:rH)(row:List AV):Prop:=∃c e f,w.heap[p.b]?=some (.cells c e f)/\p.d+p.r<=c.size/\row.length<=p.r/\∀(i:Nat) (a:AV),row[i]?=some a->∃v,c[p.d+i]?=some v/\V σ a v
theorem K8{α:Type}{a b:List α}{i:Nat}{x:α}(h:(a++b)[i]?=some x):(i<a.length/\a[i]?=some x)\/(a.length<=i/\b[i-a.length]?=some x):=by
 rw[List.getElem?_append] at h;split at h
 ·rename_i hi;exact .inl ⟨hi,h⟩
 ·rename_i hi;exact .inr ⟨by omega,h⟩
mutual
theorem Wd.canon{w:World}:∀{d:DV} {v:Value},Wd w d v->∀k,∃ps:List rH,ps.length=(canon d k).2.length/\∀σ:Sg,(∀(i:Nat) p,ps[i]?=some p->σ (k+i)=some p)->
 V σ (Ev.canon d k).1 v/\∀(i:Nat) p row,ps[i]?=some p->(Ev.canon d k).2[i]?=some (some row)->K1 σ w p row
 | .fl a,v,hd,k=>by
  rw[Di] at hd;simp only[Ev.canon];exact⟨[],rfl,λσ _=>⟨hd.2 σ,λi p row h _=>by simp at h⟩⟩
 | .sl nl n e cs,v,hd,k=>by
  rw[Dj] at hd
  rcases hd with⟨rfl,rfl,rfl,rfl⟩ | ⟨rfl,a,c,rfl,hl,⟨rfl,rfl,hsp⟩ | ⟨hn,hsp,arr,ty,f,us,g1,g2,g3,g4,g5⟩⟩
  ·simp only[Ev.canon];exact⟨[],rfl,λσ _=>⟨.ic rfl,λi p row h _=>by simp at h⟩⟩
  ·simp only[Ev.canon,eC];refine⟨[⟨a.block,a.off,c*e⟩],rfl,λσ hσ=>⟨?_,λi p row h1 h2=>?_⟩⟩
   ·have h0:=hσ 0 _ rfl;rw[add_zero] at h0;refine .slice h0 hl (by show 0+c*e<=c*e;omega) (by simp) ?_
    rcases hsp with hsp | hsp
    ·left;cases a;simp only at hsp ⊢;subst hsp;rfl
    ·exact .inr hsp
   ·cases i with
    | zero=>simp at h2
    | succ i=>simp at h1
  ·obtain⟨ps,hps,hσs⟩:=my.canon g5 (k+1);obtain⟨m,rfl⟩:∃m,n=m+1:=⟨n-1,by omega⟩;simp only[Ev.canon];refine⟨⟨a.block,a.off,c*e⟩::ps,by simp[hps],λσ hσ=>?_⟩;have h0:=hσ 0 _ rfl;rw[add_zero] at h0
   obtain⟨k1,k2⟩:=hσs σ λi p hp=>by
    have:=hσ (i+1) p (by simpa using hp);rw[show k+1+i=k+(i+1) by omega];exact this
   refine⟨.slice h0 hl (by show 0+c*e<=c*e;omega) (by simp) (.inl (by cases a;simp only at hsp ⊢;subst hsp;rfl)),λi p row h1 h2=>?_⟩
   cases i with
   | zero=>
    simp only[List.getElem?_cons_zero,Option.some.injEq] at h1 h2;subst h1;subst h2;have hlen:=k1.1;refine⟨arr,ty,f,g1,by simpa using g2,?_,λi x hx=>?_⟩
    ·rw[hlen,g3];exact Nat.mul_le_mul_right e hl
    ·obtain⟨u,hu,hV⟩:=k1.get hx;exact⟨u,g4 i u hu,hV⟩
   | succ i=>
    simp only[List.getElem?_cons_succ] at h1 h2;exact k2 i p row h1 h2
 | .ag cs,v,hd,k=>by
  rw[K3] at hd;obtain⟨vs,rfl,h1⟩:=hd;obtain⟨ps,hps,hσs⟩:=my.canon h1 k;simp only[Ev.canon];refine⟨ps,hps,λσ hσ=>?_⟩;obtain⟨k1,k2⟩:=hσs σ hσ;exact⟨.agg (by simpa using k1.1) (λi x y hx hy=>k1.2 i x y hx (by simpa using hy)),k2⟩
theorem my.canon{w:World}:∀{ds:List DV} {us:List Value},my w ds us->∀k,∃ps:List rH,ps.length=(eC ds k).2.length/\∀σ:Sg,(∀(i:Nat) p,ps[i]?=some p->σ (k+i)=some p)->
 VL σ (eC ds k).1 us/\∀(i:Nat) p row,ps[i]?=some p->(eC ds k).2[i]?=some (some row)->K1 σ w p row
 | [],us,hd,k=>by
  rw[iH] at hd;subst hd;simp only[eC];exact⟨[],rfl,λσ _=>⟨.nil,λi p row h _=>by simp at h⟩⟩
 | d::ds,us,hd,k=>by
  rw[eo] at hd;obtain⟨u,r,rfl,h1,h2⟩:=hd;obtain⟨ps,hps,hσ1⟩:=Wd.canon h1 k;obtain⟨qs,hqs,hσ2⟩:=my.canon h2 (k+(Ev.canon d k).2.length);simp only[eC];refine⟨ps++qs,by simp[hps,hqs],λσ hσ=>?_⟩
  obtain⟨a1,a2⟩:=hσ1 σ λi p hp=>hσ i p (by
   have hi:i<ps.length:=(List.getElem?_eq_some_iff.1 hp).1
   rw[List.getElem?_append_left hi];exact hp)
  obtain⟨b1,b2⟩:=hσ2 σ λi p hp=>by
   have:=hσ (ps.length+i) p (by rw[List.getElem?_append_right (by omega),Nat.add_sub_cancel_left];exact hp);rw[<-hps,Nat.add_assoc];exact this
  refine⟨.cons a1 b1,λi p row g1 g2=>?_⟩
  rcases K8 g1 with⟨i1,e1⟩ | ⟨i1,e1⟩<;>rcases K8 g2 with⟨i2,e2⟩ | ⟨i2,e2⟩
  ·exact a2 i p row e1 e2
  ·omega
  ·omega
  ·rw[hps] at e1;exact b2 _ p row e1 e2
end
def Pb(rows:List (Option (List AV))):H:=Q9 (rows.map λr=>(⟨0,0,0⟩,r))
theorem sj(rows:List (Option (List AV)))(j:Nat):(Pb rows).aQ.get j=((rows[j]?).bind λr=>r).map .ro:=by
 unfold Pb;rw[NJ,getElem?_map];cases rows[j]?<;>rfl
theorem Pc{w:World}{rows:List (Option (List AV))}{ps:List rH}(hl:ps.length=rows.length)(hin:∀(i:Nat) p row,ps[i]?=some p->rows[i]?=some (some row)->K1 (λi=>ps[i]?) w p row):HR (λi=>ps[i]?) (Pb rows) w:=by
 refine⟨?_,?_,?_,?_,zero_le _⟩
 ·intro id o ho;rw[sj] at ho;obtain⟨cs,h1,rfl⟩:=au ho
  cases hx:rows[id]? with
  | none=>rw[hx] at h1;cases h1
  | some r=>
   rw[hx] at h1;have h1:r=some cs:=h1;subst h1;have hid:id<rows.length:=(List.getElem?_eq_some_iff.1 hx).1;have hp:ps[id]?=some ps[id]:=getElem?_eq_getElem (by omega);exact⟨ps[id],hp,hin id _ cs hp hx⟩
 ·intro id hid;have hid:(rows.map λr=>((⟨0,0,0⟩:rH),r)).length<=id:=hid;rw[length_map] at hid;exact List.getElem?_eq_none (by omega)
 ·intro i j o o' p q hij hi hj _ _ _;rw[sj] at hi hj;obtain⟨cs,_,rfl⟩:=au hi;obtain⟨cs',_,rfl⟩:=au hj;exact .inr ⟨cs,cs',rfl,rfl⟩
 ·intro i cs f hi;rw[sj] at hi;obtain⟨cs',_,e⟩:=au hi;cases e
theorem GG{rows:List (Option (List AV))}{σ σ':Sg}{h':H}{w w':World}(hE:Ext σ σ' (Pb rows) h' w w'):Below w.heap.size w w':=
 ⟨hE.os,hE.tape,hE.output,hE.size,λk hk=>hE.frame k hk λid o p ho hw=>by
  rw[sj] at ho;obtain⟨cs,_,rfl⟩:=au ho
  exact absurd rfl (hw cs)⟩
theorem my.lay{w:World}{ds:List DV}{us:List Value}(h:my w ds us):∃σ:Sg,VL σ (eC ds 0).1 us/\HR σ (Pb (eC ds 0).2) w:=by
 obtain⟨ps,hps,hσ⟩:=my.canon h 0;obtain⟨k1,k2⟩:=hσ (λi=>ps[i]?) (λi p hp=>by rw[Nat.zero_add];exact hp);exact⟨_,k1,Pc hps k2⟩
def Sub(rows:List (Option (List AV)))(k:Nat)(l:List (Option (List AV))):Prop:=∀(i:Nat) r,l[i]?=some r->rows[k+i]?=some r
mutual
theorem Wd.dp{w:World}{rows:List (Option (List AV))}:∀{d:DV} {v:Value},Wd w d v->∀k,Sub rows k (Ev.canon d k).2->Dp false (Pb rows) d (Ev.canon d k).1
 | .fl a,v,hd,k,hs=>by
  rw[Di] at hd;simp only[Ev.canon,Dp];exact⟨trivial,hd.1⟩
 | .sl nl n e cs,v,hd,k,hs=>by
  rw[Dj] at hd
  rcases hd with⟨rfl,rfl,rfl,rfl⟩ | ⟨rfl,a,c,rfl,hl,⟨rfl,rfl,hsp⟩ | ⟨hn,hsp,arr,ty,f,us,g1,g2,g3,g4,g5⟩⟩
  ·simp only[Ev.canon];rw[Ih];exact .inl ⟨rfl,rfl,⟨_,_,_,rfl,by simp⟩,λh=>by cases h⟩
  ·simp only[Ev.canon];rw[Ih];exact .inl ⟨rfl,rfl,⟨_,_,_,rfl,by simp⟩,λh=>by cases h⟩
  ·obtain⟨m,rfl⟩:∃m,n=m+1:=⟨n-1,by omega⟩;simp only[Ev.canon] at hs ⊢
   have hlen:(eC cs (k+1)).1.length=(m+1)*e:=by
    obtain⟨ps,hps,hσ⟩:=my.canon g5 (k+1);have:=(hσ (λi=>ps[i-(k+1)]?) (λi p hp=>by rw[Nat.add_sub_cancel_left];exact hp)).1.1;rw[this,g3]
   have h0:=hs 0 _ rfl;rw[add_zero] at h0;have hk:k<rows.length:=(List.getElem?_eq_some_iff.1 h0).1
   have ih:=my.dp (rows:=rows) g5 (k+1) (λi r hr=>by
    have:=hs (i+1) r (by simpa using hr)
    rw[show k+1+i=k+(i+1) by omega];exact this)
   rw[Ih];refine .inr ⟨λh=>(by cases h),k,0,none,(eC cs (k+1)).1,(eC cs (k+1)).1,rfl,?_,?_,?_,?_,ih⟩
   ·show k<(rows.map _).length;rw[length_map];exact hk
   ·unfold qK;rw[sj,h0];rfl
   ·rw[hlen];omega
   ·rw[List.drop_zero,List.take_of_length_le (by omega)]
 | .ag cs,v,hd,k,hs=>by
  rw[K3] at hd;obtain⟨vs,rfl,h1⟩:=hd;simp only[Ev.canon] at hs ⊢;simp only[Dp];exact⟨_,rfl,my.dp h1 k hs⟩
theorem my.dp{w:World}{rows:List (Option (List AV))}:∀{ds:List DV} {us:List Value},my w ds us->∀k,Sub rows k (eC ds k).2->Da false (Pb rows) ds (eC ds k).1
 | [],us,hd,k,hs=>by
  simp only[eC,Da]
 | d::ds,us,hd,k,hs=>by
  rw[eo] at hd;obtain⟨u,r,rfl,h1,h2⟩:=hd;simp only[eC] at hs ⊢;simp only[Da];refine⟨_,_,rfl,Wd.dp h1 k (λi x hx=>hs i x ?_),my.dp h2 _ (λi x hx=>?_)⟩
  ·have hi:i<(Ev.canon d k).2.length:=(List.getElem?_eq_some_iff.1 hx).1;rw[List.getElem?_append_left hi];exact hx
  ·have:=hs ((Ev.canon d k).2.length+i) x (by rw[List.getElem?_append_right (by omega),Nat.add_sub_cancel_left];exact hx);rw[Nat.add_assoc];exact this
end
inductive Ty where
 | bool
 | int (k:IntKind)
 | str
 | sl (t:Ty)
 | st (ts:List Ty)
 | no (s:Nat)
mutual
def Ty.size:Ty->Nat
 | .st ts=>Ty.ve ts
 | .no s=>s
 | _=>1
def Ty.ve:List Ty->Nat
 | []=>0
 | t::ts=>t.size+Ty.ve ts
end
mutual
def nk(B:Nat):Ty->List DV->Prop
 | .bool,ds=>∃b,ds=[.fl (.bool b)]
 | .int k,ds=>∃n,ds=[.fl (.int k n)]/\(Lit.int k n).wf=true
 | .str,ds=>∃s:List Nat,ds=[.fl (.str s)]/\(∀x∈s,x<256)/\s.length<=B
 | .sl t,ds=>∃(nl:Bool) (rows:List (List DV)),ds=[.sl nl rows.length t.size rows.flatten]/\rows.length<=B/\∀r∈rows,nk B t r
 | .st ts,ds=>eF B ts ds
 | .no _,_=>False
def eF(B:Nat):List Ty->List DV->Prop
 | [],ds=>ds=[]
 | t::ts,ds=>∃d1 d2,ds=d1++d2/\nk B t d1/\eF B ts d2
end
def Re(B:Nat):Ty->DV->Prop
 | .st ts,d=>∃ds,d=.ag ds/\eF B ts ds
 | t,d=>nk B t [d]
def jr(P:Program)(rec:TypeId->Option Ty):List Field->Nat->Option (List Ty)
 | [],_=>some []
 | f::fs,off=>cond (beq f.offset off) ((rec f.type).bind λt=>cond (beq (P.cellsOf f.type) t.size) ((jr P rec fs (off+t.size)).map (t::·)) none) none
def mw(P:Program):Nat->TypeId->Option Ty
 | 0,t=>some (.no (P.cellsOf t))
 | k+1,t=>match P.underlying t with
  | some .bool=>some .bool
  | some (.int i)=>some (.int i)
  | some .string=>some .str
  | some (.slice e)=>(mw P k e).bind λte=>cond (beq (P.cellsOf e) te.size&&(ble 1 te.size&&ble 1 (P.bytesOf e))) (some (.sl te)) none
  | some (.struct fs)=>(jr P (mw P k) fs.toList 0).bind λts=>cond (beq (P.cellsOf t) (Ty.ve ts)) (some (.st ts)) none
  | _=>none
theorem my.append{w:World}:∀{a b:List DV} {x y:List Value},my w a x->my w b y->my w (a++b) (x++y)
 | [],b,x,y,h1,h2=>by rw[iH] at h1;subst h1;exact h2
 | d::a,b,x,y,h1,h2=>by
  rw[eo] at h1;obtain⟨u,r,rfl,k1,k2⟩:=h1;rw[List.cons_append,eo];exact⟨u,r++y,rfl,k1,my.append k2 h2⟩
theorem my.rows{w:World}{n:Nat}{G:Nat->List DV}{F:Nat->List Value}(h:∀i,i<n->my w (G i) (F i)):my w ((range n).map G).flatten ((range n).map F).flatten:=by
 have key:∀l:List Nat,(∀i∈l,i<n)->my w (l.map G).flatten (l.map F).flatten:=by
  intro l
  induction l with
  | nil=>intro _;rw[map_nil,map_nil,List.flatten_nil,List.flatten_nil,iH]
  | cons a l ih=>
   intro hl;rw[map_cons,map_cons,flatten_cons,flatten_cons];exact my.append (h a (hl a (mem_cons_self ..))) (ih λi hi=>hl i (mem_cons_of_mem _ hi))
 exact key _ λi hi=>mem_range.1 hi
theorem D1{α:Type}{s:Nat}:∀{rows:List (List α)},(∀r∈rows,r.length=s)->∀{j:Nat} {x:α},rows.flatten[j]?=some x->∃i k r,j=i*s+k/\k<s/\rows[i]?=some r/\r[k]?=some x
 | [],_,j,x,h=>by simp at h
 | a::rows,hw,j,x,h=>by
  have ha:=hw a (mem_cons_self ..);rw[flatten_cons,List.getElem?_append] at h;split at h
  ·rename_i hj;exact⟨0,j,a,by omega,by omega,rfl,h⟩
  ·obtain⟨i,k,r,e1,e2,e3,e4⟩:=D1 (λr hr=>hw r (mem_cons_of_mem _ hr)) h;exact⟨i+1,k,r,by rw[Nat.succ_mul];omega,e2,e3,e4⟩
variable {Hh:Type} {enc:TypeId×Value->Hh} {P:Program} {w:World} {held:Bool}
variable {B:Nat}
theorem N3:∀{t:Ty} {ds:List DV},nk B t ds->(∀ts,t≠.st ts)->ds.length=1:=by
 intro t ds h hn
 cases t with
 | bool=>rw[nk] at h;obtain⟨b,rfl⟩:=h;rfl
 | int k=>rw[nk] at h;obtain⟨n,rfl,_⟩:=h;rfl
 | str=>rw[nk] at h;obtain⟨s,rfl,_⟩:=h;rfl
 | sl t=>rw[nk] at h;obtain⟨nl,rows,rfl,_,_⟩:=h;rfl
 | st ts=>exact absurd rfl (hn ts)
 | no s=>rw[nk] at h;exact h.elim
theorem mq{e:TypeId}{x:DataW Hh}{n:Nat}(hn:n∈x.weights P e):∀{l:List (DataW Hh)},x∈l->n∈DataW.weightsAll P e l
 | [],h=>by cases h
 | d::l,h=>by
  unfold DataW.weightsAll
  rcases List.mem_cons.1 h with rfl | h
  ·exact List.mem_append_left _ hn
  ·exact List.mem_append_right _ (mq hn h)
theorem P8{t e:TypeId}{n:Nat}{cs:List Value}{x:DataW Hh×List MemPlace}(ht:P.underlying t=some (.slice e))(h:DataW.trod enc P w 0 (λ_=>true) held n t cs=some x):
 (cs=[.slice none 0 0]/\x=(.nil,[]))\/∃(a:Addr) (len cap n':Nat) (D:Nat->DataW Hh),n=n'+1/\cs=[.slice (some a) len cap]/\len<=cap/\x.1=.slice ((range len).map D) ((range (cap-len)).map λj=>D (len+j))/\
  ∀i,i<cap->∃cs' y,w.cells? 0 (a.add (i*P.cellsOf e)) (P.cellsOf e)=some cs'/\DataW.trod enc P w 0 (λ_=>true) held n' e cs'=some y/\y.1=D i:=by
 rcases DataW.trod_slice ht h with h0 | ⟨a,len,cap,elems,rest,n',hn,hcs,hx,_,hl,_,hlen,hel,hsp,_⟩
 ·exact .inl h0
 obtain⟨hrl,hre⟩:=hsp rfl;refine .inr ⟨a,len,cap,n',λi=>((elems++rest).getD i (.nil,[])).1,hn,hcs,hl,?_,λi hi=>?_⟩
 ·rw[hx];show DataW.slice _ _=_
  congr 1
  ·refine List.ext_getElem (by simp[hlen]) λi h1 h2=>?_
   have h3:i<elems.length:=by simpa using h1
   simp[getD,List.getElem?_append_left h3,getElem?_eq_getElem h3]
  ·refine List.ext_getElem (by simp[hrl]) λi h1 h2=>?_
   have h3:i<rest.length:=by simpa using h1
   have h4:elems.length<=len+i:=by omega
   have h5:len+i-elems.length=i:=by omega
   simp[getD,List.getElem?_append_right h4,h5,getElem?_eq_getElem h3]
 ·by_cases hil:i<len
  ·have h3:i<elems.length:=by omega
   have k:=hel i hil;rw[getElem?_eq_getElem h3] at k;obtain⟨cs',h1,h2⟩:=Option.bind_eq_some_iff.1 k;exact⟨cs',_,h1,h2,by simp[getD,List.getElem?_append_left h3,getElem?_eq_getElem h3]⟩
  ·have h3:i-len<rest.length:=by omega
   have k:=hre (i-len) (by omega);rw[getElem?_eq_getElem h3,show len+(i-len)=i by omega] at k;obtain⟨cs',h1,h2⟩:=Option.bind_eq_some_iff.1 k
   have h4:elems.length<=i:=by omega
   have h5:i-elems.length=i-len:=by omega
   exact⟨cs',_,h1,h2,by simp[getD,List.getElem?_append_right h4,h5,getElem?_eq_getElem h3]⟩
theorem vg{rec:TypeId->Option Ty}{cs:List Value}{m:Nat}(hrec:∀(t:TypeId) (ty:Ty),rec t=some ty->∀(n:Nat),n<=m->∀(c:List Value) (y:DataW Hh×List MemPlace),DataW.trod enc P w 0 (λ_=>true) held n t c=some y->(∀x∈y.1.weights P t,x<=B)->∃ds,nk B ty ds/\my w ds c):
 ∀(fs:List Field) (off:Nat) (ts:List Ty),jr P rec fs off=some ts->off+Ty.ve ts=cs.length->(∀f∈fs,∃n y,n<=m/\DataW.trod enc P w 0 (λ_=>true) held n f.type ((cs.drop f.offset).take (P.cellsOf f.type))=some y/\∀x∈y.1.weights P f.type,x<=B)->∃ds,eF B ts ds/\my w ds (cs.drop off)
 | [],off,ts,h,hl,_=>by
  simp only[jr,Option.some.injEq] at h;subst h;simp only[Ty.ve] at hl;exact⟨[],by rw[eF],by rw[iH,List.drop_of_length_le (by omega)]⟩
 | f::fs,off,ts,h,hl,hf=>by
  unfold jr at h;obtain⟨ho,h⟩:=aK h;have ho:=cP ho
  cases hr:rec f.type with
  | none=>rw[hr] at h;cases h
  | some t=>
   rw[hr] at h;simp only[bind_some] at h;obtain⟨hc,h⟩:=aK h;have hc:=cP hc;obtain⟨ts',h',rfl⟩:=au h;simp only[Ty.ve] at hl;obtain⟨n,y,hnm,hy,hwt⟩:=hf f (mem_cons_self ..);rw[ho,hc] at hy;obtain⟨d1,k1,k2⟩:=hrec _ _ hr n hnm _ y hy hwt;obtain⟨d2,k3,k4⟩:=vg hrec fs (off+t.size) ts' h' (by omega) (λg hg=>hf g (mem_cons_of_mem _ hg));refine⟨d1++d2,by rw[eF];exact⟨d1,d2,rfl,k1,k3⟩,?_⟩
   have e:cs.drop off=(cs.drop off).take t.size++cs.drop (off+t.size):=by
    rw[<-List.drop_drop,List.take_append_drop]
   rw[e];exact k2.append k4
theorem uL:∀(k:Nat) (t:TypeId) (ty:Ty),mw P k t=some ty->∀(n:Nat),n<=k->∀(c:List Value) (y:DataW Hh×List MemPlace),DataW.trod enc P w 0 (λ_=>true) held n t c=some y->(∀x∈y.1.weights P t,x<=B)->∃ds,nk B ty ds/\my w ds c
 | 0,t,ty,h,n,hnk,_,_,hy,_=>by
  rw[Nat.le_zero.1 hnk] at hy;simp[DataW.trod] at hy
 | k+1,t,ty,h,n,hnk,c,y,hy,hwt=>by
  unfold mw at h
  cases hu:P.underlying t with
  | none=>rw[hu] at h;cases h
  | some u=>
   rw[hu] at h
   cases u with
   | bool=>
    cases h;obtain⟨b,rfl,_⟩:=DataW.trod_bool hu hy;exact⟨[.fl (.bool b)],by rw[nk];exact⟨b,rfl⟩,by rw[eo];exact⟨_,_,rfl,by rw[Di];exact⟨rfl,λσ=>.bool b⟩,by rw[iH]⟩⟩
   | int i=>
    cases h;obtain⟨m,rfl,_,wf⟩:=DataW.trod_int hu hy;exact⟨[.fl (.int i m)],by rw[nk];exact⟨m,rfl,wf⟩,by rw[eo];exact⟨_,_,rfl,by rw[Di];exact⟨rfl,λσ=>.int _ _⟩,by rw[iH]⟩⟩
   | string=>
    cases h;obtain⟨s,rfl,rfl,hs⟩:=DataW.trod_string hu hy
    have hlen:(BL s).length<=B:=by
     unfold BL;rw[length_map];exact hwt _ (by simp[DataW.weights])
    exact⟨[.fl (.str (BL s))],by rw[nk];exact⟨_,rfl,Lf s,hlen⟩,by rw[eo];exact⟨_,_,rfl,by rw[Di];exact⟨rfl,λσ=>.str rfl⟩,by rw[iH]⟩⟩
   | slice e=>
    simp only at h
    cases he:mw P k e with
    | none=>rw[he] at h;cases h
    | some te=>
     rw[he] at h;simp only[bind_some] at h;obtain⟨hb,h⟩:=aK h;cases h;rw[and_eq_true] at hb;have hs:P.cellsOf e=te.size:=cP hb.1;obtain⟨hb1,hb2⟩:=hb;rw[and_eq_true] at hb2;have hs0:0<te.size:=iO hb2.1;have hby:1<=P.bytesOf e:=iO hb2.2
     rcases P8 hu hy with⟨rfl,_⟩ | ⟨a,len,m,n',D,hnn,rfl,hl,hyx,hx⟩
     ·exact⟨[.sl true 0 te.size []],by rw[nk];exact⟨true,[],rfl,zero_le _,λr hr=>(List.not_mem_nil hr).elim⟩,by rw[eo];exact⟨_,_,rfl,by rw[Dj];exact .inl ⟨rfl,rfl,rfl,rfl⟩,by rw[iH]⟩⟩
     ·rw[hs] at hx
      rcases Nat.eq_zero_or_pos m with hm0 | hm0
      ·subst hm0
       have:len=0:=by omega
       subst this
       exact⟨[.sl false 0 te.size []],by rw[nk];exact⟨false,[],rfl,zero_le _,λr hr=>(List.not_mem_nil hr).elim⟩,
        by rw[eo];exact⟨_,_,rfl,by rw[Dj];exact .inr ⟨rfl,a,0,rfl,Nat.le_refl _,.inl ⟨rfl,rfl,.inr rfl⟩⟩,by rw[iH]⟩⟩
      ·have hspot:a.spot=none:=by
        obtain⟨cs',_,h1,_⟩:=hx 0 hm0;obtain⟨_,h2,h3⟩:=World.cells?_some h1;have h4:=h3 0 (by omega)
        have h5:0<cs'.length:=by omega
        rw[getElem?_eq_getElem h5] at h4;have:=World.cell?_spot h4;simpa [Addr.add] using this
       obtain⟨b,o,sp⟩:=a;simp only at hspot;subst hspot
       have hcell:∀i,i<m->∃cs',cs'.length=te.size/\(∀k,k<te.size->w.cell? ⟨b,o+(i*te.size+k),none⟩=cs'[k]?)/\∃y,DataW.trod enc P w 0 (λ_=>true) held n' e cs'=some y/\y.1=D i:=by
        intro i hi;obtain⟨cs',y,h1,h2⟩:=hx i hi;obtain⟨_,h3,h4⟩:=World.cells?_some h1;refine⟨cs',h3,λk hk=>?_,y,h2⟩;have:=h4 k (by omega);rw[gp,gp] at this;rw[<-this];congr 2;omega
       obtain⟨cs0,hc1,hc2,_⟩:=hcell 0 hm0;have h00:=hc2 0 hs0;rw[getElem?_eq_getElem (by omega)] at h00;obtain⟨arr,e',f,hb',_⟩:=Am h00
       have hgc:∀k v,w.cell? ⟨b,k,none⟩=some v->arr[k]?=some v:=by
        intro k v hk;obtain⟨c',e'',f',hb'',hv'⟩:=Am hk;rw[hb'] at hb'';cases hb'';exact hv'
       have hsz:o+m*te.size<=arr.size:=by
        obtain⟨cs1,g1,g2,_⟩:=hcell (m-1) (by omega);have h01:=g2 (te.size-1) (by omega);rw[getElem?_eq_getElem (by omega)] at h01;have:=hgc _ _ h01
        have hlt:o+((m-1)*te.size+(te.size-1))<arr.size:=by
         apply Decidable.byContradiction;intro hn;rw[Array.getElem?_eq_none (by omega)] at this;cases this
        have hmul:m*te.size=(m-1)*te.size+te.size:=by
         have h9:=Nat.add_mul (m-1) 1 te.size;rw[Nat.sub_add_cancel hm0,Nat.one_mul] at h9;exact h9
        omega
       have hD:∀i,i<m->∀x∈(D i).weights P e,x<=B:=by
        intro i hi x hxw;refine hwt x ?_;rw[hyx];show x∈DataW.weights P t _;rw[DataW.weights,hu];simp only;refine mem_cons_of_mem _ ?_;by_cases hil:i<len
        ·exact List.mem_append_left _ (mq hxw (mem_map.2 ⟨i,mem_range.2 hil,rfl⟩))
        ·exact List.mem_append_right _ (mq hxw (mem_map.2 ⟨i-len,mem_range.2 (by omega),by rw[show len+(i-len)=i by omega]⟩))
       have hlenB:len<=B:=by
        have:=hwt ((len+(m-len))*P.bytesOf e) (by
         rw[hyx];show _∈DataW.weights P t _;rw[DataW.weights,hu]
         simp)
        have h2:len+(m-len)<=(len+(m-len))*P.bytesOf e:=Nat.le_mul_of_pos_right _ hby;omega
       obtain⟨F,hF⟩:=choose_lt (α:=List Value×List DV) (n:=len) (p:=λi x=>x.1.length=te.size/\(∀k,k<te.size->w.cell? ⟨b,o+(i*te.size+k),none⟩=x.1[k]?)/\nk B te x.2/\my w x.2 x.1) (λi hi=>by
        obtain⟨cs',g1,g2,y,g3,g4⟩:=hcell i (by omega);obtain⟨ds,k1,k2⟩:=uL k e te he n' (by omega) cs' _ g3 (by rw[g4];exact hD i (by omega))
        exact⟨(cs',ds),g1,g2,k1,k2⟩)
       have hw1:∀r∈(range len).map λi=>(F i).1,r.length=te.size:=by
        intro r hr;obtain⟨i,hi,rfl⟩:=mem_map.1 hr;exact(hF i (mem_range.1 hi)).1
       refine⟨[.sl false len te.size ((range len).map λi=>(F i).2).flatten],?_,?_⟩
       ·rw[nk];refine⟨false,(range len).map λi=>(F i).2,by rw[length_map,length_range],by rw[length_map,length_range];exact hlenB,λr hr=>?_⟩;obtain⟨i,hi,rfl⟩:=mem_map.1 hr;exact(hF i (mem_range.1 hi)).2.2.1
       ·rw[eo];refine⟨_,_,rfl,?_,by rw[iH]⟩;rw[Dj];refine .inr ⟨rfl,_,m,rfl,hl,?_⟩
        rcases Nat.eq_zero_or_pos len with hl0 | hl0
        ·subst hl0;exact .inl ⟨rfl,rfl,.inl rfl⟩
        ·refine .inr ⟨hl0,rfl,arr,e',f,((range len).map λi=>(F i).1).flatten,hb',hsz,?_,?_,my.rows λi hi=>(hF i hi).2.2.2⟩
         ·have:∀l:List Nat,(∀i∈l,i<len)->(l.map λi=>(F i).1).flatten.length=l.length*te.size:=by
           intro l
           induction l with
           | nil=>intro _;simp
           | cons a l ih=>
            intro hl;rw[map_cons,flatten_cons,List.length_append,ih λi hi=>hl i (mem_cons_of_mem _ hi),(hF a (hl a (mem_cons_self ..))).1,List.length_cons,Nat.succ_mul];omega
          rw[this _ λi hi=>mem_range.1 hi,length_range]
         ·intro j u hu;obtain⟨i,q,r,rfl,hq,hr,hru⟩:=D1 hw1 hu;rw[getElem?_map] at hr
          cases hri:(range len)[i]? with
          | none=>rw[hri] at hr;cases hr
          | some i'=>
           rw[hri] at hr;have hil:=(List.getElem?_eq_some_iff.1 hri).1;rw[length_range] at hil;rw[List.getElem?_range hil] at hri;cases hri;cases hr;exact hgc _ _ (((hF i hil).2.1 q hq).trans hru)
   | struct fs=>
    simp only at h
    cases hfs:jr P (mw P k) fs.toList 0 with
    | none=>rw[hfs] at h;cases h
    | some ts=>
     rw[hfs] at h;simp only[bind_some] at h;obtain⟨hb,h⟩:=aK h;cases h;have hb:=cP hb;obtain⟨xs,n',hnn,hyx,hl,hlen,hf⟩:=DataW.trod_struct hu hy
     obtain⟨ds,k1,k2⟩:=vg (cs:=c) (m:=k) (λt ty ht n hn c y hy hw=>uL k t ty ht n hn c y hy hw) fs.toList 0 ts hfs (by omega) (λf hfm=>by
      obtain⟨i,hi⟩:=List.mem_iff_getElem?.1 hfm
      have hi':fs[i]?=some f:=by rw[<-Array.getElem?_toList];exact hi
      have:=hf i f hi'
      have hil:i<fs.size:=by
       have:=(List.getElem?_eq_some_iff.1 hi).1;rw[Array.length_toList] at this;exact this
      rw[getElem?_eq_getElem (by omega)] at this;refine⟨n',_,by omega,this,λx hx=>hwt x ?_⟩;rw[hyx];show x∈DataW.weights P t _;rw[DataW.weights,hu];simp only
      exact DataW.weights_mem_each (j:=i) (by rw[getElem?_map,hi];rfl) (by rw[getElem?_map,getElem?_eq_getElem (show i<xs.length by omega)];rfl) x hx)
     rw[List.drop_zero] at k2;exact⟨ds,by rw[nk];exact k1,k2⟩
   | _=>cases h
theorem Nj{d:DV}{v:Value}:my w [d] [v]↔Wd w d v:=by
 rw[eo];constructor
 ·rintro⟨u,r,e,h,_⟩;simp only[List.cons.injEq] at e;rw[e.1];exact h
 ·intro h;exact⟨v,[],rfl,h,by rw[iH]⟩
theorem N4{t:Ty}{ds:List DV}(h:nk B t ds)(hn:∀ts,t≠.st ts):∃d,ds=[d]:=by
 have:=N3 h hn
 match ds,this with
 | [d],_=>exact⟨d,rfl⟩
theorem rO{t:TypeId}{tys:Nat->Ty}{v:Value}{d:DataW Hh}{ps:List MemPlace}{base:Nat}(ht:∀j,mw P (j+12) t=some (tys j))(hval:Value.okWide P w .any base t v)(hd:DataW.Trod enc P w 0 (λ_=>true) held t v d ps)(hwt:∀x∈d.weights P t,x<=B):∃j dv,Re B (tys j) dv/\Wd w dv v:=by
 obtain⟨fuel,hf⟩:=hd;refine⟨fuel,?_⟩;have ht:=ht fuel;generalize tys fuel=ty at ht ⊢;obtain⟨ds,k1,k2⟩:=uL (fuel+12) t ty ht fuel (by omega) _ _ hf hwt
 have hflat:∀{v:Value},v.cells.toList=[v]->(∀ts,ty≠.st ts)->my w ds v.cells.toList->∃dv,Re B ty dv/\Wd w dv v:=by
  intro v he hn k2;obtain⟨dv,rfl⟩:=N4 k1 hn;rw[he,Nj] at k2;refine⟨dv,?_,k2⟩
  cases ty with
  | st ts=>exact absurd rfl (hn ts)
  | _=>exact k1
 unfold mw at ht
 cases hu:P.underlying t with
 | none=>rw[hu] at ht;cases ht
 | some u=>
  rw[hu] at ht
  cases u with
  | bool=>obtain⟨b,rfl⟩:=okWide_bool hu hval;cases ht;exact hflat rfl (λts h=>by cases h) k2
  | int i=>obtain⟨b,rfl⟩:=okWide_int hu hval;cases ht;exact hflat rfl (λts h=>by cases h) k2
  | string=>obtain⟨b,rfl⟩:=okWide_string hu hval;cases ht;exact hflat rfl (λts h=>by cases h) k2
  | slice e=>
   obtain⟨a,l,c,rfl⟩:=okWide_slice hu hval;simp only at ht
   cases he:mw P (fuel+11) e with
   | none=>rw[he] at ht;cases ht
   | some te=>
    rw[he] at ht;simp only[bind_some] at ht;obtain⟨_,ht⟩:=aK ht;cases ht;exact hflat rfl (λts h=>by cases h) k2
  | struct fs=>
   obtain⟨cs,rfl,_⟩:=okWide_struct hu hval;simp only at ht
   cases hfs:jr P (mw P (fuel+11)) fs.toList 0 with
   | none=>rw[hfs] at ht;cases ht
   | some ts=>
    rw[hfs] at ht;simp only[bind_some] at ht;obtain⟨_,ht⟩:=aK ht;cases ht;rw[nk] at k1;refine⟨.ag ds,⟨ds,rfl,k1⟩,?_⟩;rw[K3];exact⟨cs,rfl,k2⟩
  | _=>cases ht
section
variable {B:Nat} {ts:List Ty} {ds:List DV} {s:Bool} {h:H}
theorem lY(hk:eF B [] ds):ds=[]:=by rw[eF] at hk;exact hk
theorem fU(hk:eF B (.str::ts) ds):∃(x:List Nat) (r:List DV),ds=.fl (.str x)::r/\(∀b∈x,b<256)/\x.length<=B/\eF B ts r:=by
 rw[eF] at hk;obtain⟨d1,d2,rfl,h1,h2⟩:=hk;rw[nk] at h1;obtain⟨x,rfl,h3,h4⟩:=h1;exact⟨x,d2,rfl,h3,h4,h2⟩
theorem eb{k:IntKind}(hk:eF B (.int k::ts) ds):∃(n:Int) (r:List DV),ds=.fl (.int k n)::r/\(Lit.int k n).wf=true/\eF B ts r:=by
 rw[eF] at hk;obtain⟨d1,d2,rfl,h1,h2⟩:=hk;rw[nk] at h1;obtain⟨n,rfl,h3⟩:=h1;exact⟨n,d2,rfl,h3,h2⟩
theorem A5(hk:eF B (.bool::ts) ds):∃(b:Bool) (r:List DV),ds=.fl (.bool b)::r/\eF B ts r:=by
 rw[eF] at hk;obtain⟨d1,d2,rfl,h1,h2⟩:=hk;rw[nk] at h1;obtain⟨b,rfl⟩:=h1;exact⟨b,d2,rfl,h2⟩
theorem sH{t:Ty}(hk:eF B (.sl t::ts) ds):∃(nl:Bool) (rows:List (List DV)) (r:List DV),ds=.sl nl rows.length t.size rows.flatten::r/\rows.length<=B/\(∀x∈rows,nk B t x)/\eF B ts r:=by
 rw[eF] at hk;obtain⟨d1,d2,rfl,h1,h2⟩:=hk;rw[nk] at h1;obtain⟨nl,rows,rfl,h3,h4⟩:=h1;exact⟨nl,rows,d2,rfl,h3,h4,h2⟩
theorem EB:∀{us:List Ty} {d1 d2:List DV},eF B us d1->eF B ts d2->eF B (us++ts) (d1++d2)
 | [],d1,d2,h1,h2=>by rw[eF] at h1;subst h1;exact h2
 | u::us,d1,d2,h1,h2=>by
  rw[eF] at h1;obtain⟨e1,e2,rfl,h3,h4⟩:=h1;show eF B (u::(us++ts)) _;rw[eF];exact⟨e1,e2++d2,List.append_assoc ..,h3,EB h4 h2⟩
theorem sI{us:List Ty}(hk:eF B (.st us::ts) ds):eF B (us++ts) ds:=by
 rw[eF] at hk;obtain⟨d1,d2,rfl,h1,h2⟩:=hk;rw[nk] at h1;exact EB h1 h2
end
end
end Go.Ev
