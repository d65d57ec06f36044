/- Lemmas of this claim, each with its conditions. -/
import Derived.Test.YtchdmmkclcnmnaaGreatA2
import Derived.Laws.StructEq
set_option linter.all false
open Nat (beq blt)
open List (range')
open Bool renaming and_eq_true -> aa, false_eq_true -> af, not_true -> a0
open Option renaming bind_some -> ac, map_some -> ad
open List renaming getElem?_cons_succ -> ag, getElem?_eq_none -> aj, forIn_cons -> al, mapM_cons -> ax, getElem?_map -> a3, map_cons -> a4, length_cons -> a6, range'_succ -> a7, all_cons -> a9
open Nat renaming add_sub_cancel -> ap, add_assoc -> ay, lt_or_ge -> ba, sub_zero -> bb, succ_mul -> bc
open Int renaming toNat_natCast -> aR, natCast_pow -> a5
open Array renaming range -> a8
namespace Go.Ev
def nb:∀(x y:List UInt8),x.map (·.toNat)=y.map (·.toNat)->x=y
 | [],[],_=>rfl
 | [],b::y,h=>by simp at h
 | a::x,[],h=>by simp at h
 | a::x,b::y,h=>by
  simp only[a4,List.cons.injEq] at h;rw[UInt8.toNat_inj.1 h.1,nb x y h.2]
def re{a b:List Nat}{s t:ByteArray}(h:s.data.toList.map (·.toNat)=a)(k:t.data.toList.map (·.toNat)=b):uN a b=(s.toList==t.toList):=by
 rw[Dg,ByteArray.toList_eq,ByteArray.toList_eq,<-h,<-k];by_cases e:s.data.toList=t.data.toList
 ·simp[e]
 ·have:¬(s.data.toList.map (·.toNat)=t.data.toList.map (·.toNat)):=λh=>e (nb _ _ h);simp only[this,decide_false];symm;exact beq_eq_false_iff_ne.2 e
def oO:∀(x y:List UInt8),gJ (x.map (·.toNat)) (y.map (·.toNat))=Op.bytesLess x y
 | x,[]=>by cases x<;>simp[gJ,Op.bytesLess]
 | [],b::y=>by simp[gJ,Op.bytesLess]
 | a::x,b::y=>by
  simp only[a4,gJ,Op.bytesLess,oO x y]
  have e1:blt a.toNat b.toNat=decide (a<b):=by
   cases h:blt a.toNat b.toNat
   ·have:=Ka h;symm;simp[UInt8.lt_iff_toNat_lt];omega
   ·have:=fW h;symm;simp[UInt8.lt_iff_toNat_lt];omega
  have e2:beq a.toNat b.toNat=(a==b):=by
   cases h:beq a.toNat b.toNat
   ·have:=iB h;symm;simp;intro e;subst e;exact this rfl
   ·have:=cU h;symm;simp;exact UInt8.toNat_inj.1 this
  rw[e1,e2]
def um{l:List Nat}{s:ByteArray}(h:s.data.toList.map (·.toNat)=l):s.size=l.length:=by
 rw[<-h,List.length_map,Array.length_toList];rfl
def uf{P:Program}{σ:Sg}{w:World}{d D:Nat}(ih:∀(t:TypeId) (x y:AV) (v u:Value) (b:Bool),lA P d t x y=some b->V σ x v->V σ y u->(Op.equalIn D t v u).run P w=.ok b w)
 {xs ys:List AV} {vs us:Array Value} (hx:VL σ xs vs.toList) (hy:VL σ ys us.toList):∀(fs:List Field) (b:Bool),eqFields P (lA P d) fs xs ys=some b->(Op.eqFields D vs us fs).run P w=.ok b w
 | [],b,h=>by simp[eqFields] at h;subst h;rfl
 | f::fs,b,h=>by
  simp only[eqFields] at h;cases hn:f.name== "_"
  ·rw[hn,an] at h
   have hne:f.name≠ "_":=by simpa using hn
   cases h1:fa P f.type xs f.offset with
   | none=>simp[h1] at h
   | some a=>
    cases h2:fa P f.type ys f.offset with
    | none=>simp[h1,h2] at h
    | some c=>
     simp only[h1,h2] at h;obtain⟨v,hv,hV⟩:=jy (w:=w) hx h1;obtain⟨u,hu,hU⟩:=jy (w:=w) hy h2;simp only[Op.eqFields,hne,ne_eq,not_false_eq_true,if_true,Sem.run_bind,hv,Result.andThen_ok,hu]
     cases h3:lA P d f.type a c with
     | none=>simp[h3] at h
     | some r=>
      rw[ih _ _ _ _ _ _ h3 hV hU];cases r
      ·simp[h3] at h;subst h;simp
      ·simp only[h3] at h;simp only[Result.andThen_ok,Bool.not_true,Bool.false_eq_true,if_false];exact uf ih hx hy fs b h
  ·simp[hn] at h
def wJ{P:Program}{σ:Sg}{w:World}{d D e s:Nat}(ih:∀(t:TypeId) (x y:AV) (v u:Value) (b:Bool),lA P d t x y=some b->V σ x v->V σ y u->(Op.equalIn D t v u).run P w=.ok b w)
 {xs ys:List AV} {vs us:Array Value} (hx:VL σ xs vs.toList) (hy:VL σ ys us.toList):∀(m i:Nat) (b:Bool),ti P (lA P d e) e s xs ys m i=some b->
 (forIn (m:=Sem) (range' i m) ((none,()):Option Bool×Unit) λi _=>do
  let a <-part e vs (i*s)
  let c <-part e us (i*s)
  let q <-Op.equalIn D e a c
  if (!q)=true then pure (.done (some false,())) else pure (.yield (none,()))).run P w=.ok (if b then (none,()) else (some false,())) w
 | 0,i,b,h=>by simp[ti] at h;subst h;simp
 | m+1,i,b,h=>by
  simp only[ti] at h
  cases h1:fa P e xs (i*s) with
  | none=>simp[h1] at h
  | some a=>
   cases h2:fa P e ys (i*s) with
   | none=>simp[h1,h2] at h
   | some c=>
    simp only[h1,h2] at h;obtain⟨v,hv,hV⟩:=jy (w:=w) hx h1;obtain⟨u,hu,hU⟩:=jy (w:=w) hy h2;rw[a7,al];simp only[Sem.run_bind,hv,Result.andThen_ok,hu]
    cases h3:lA P d e a c with
    | none=>simp[h3] at h
    | some r=>
     rw[ih _ _ _ _ _ _ h3 hV hU];cases r
     ·simp[h3] at h;subst h;simp
     ·simp only[h3] at h;simp only[Result.andThen_ok,a0,af,if_false,Sem.run_pure];exact wJ ih hx hy m (i+1) b h
def Kq{P:Program}{σ:Sg}{w:World}(k:Nat):∀(d:Nat) (t:TypeId) (x y:AV) (v u:Value) (b:Bool),lA P d t x y=some b->V σ x v->V σ y u->(Op.equalIn (d+k) t v u).run P w=.ok b w:=by
 intro d
 induction d with
 | zero=>intro t x y v u b h;simp[lA] at h
 | succ d ih=>
  intro t x y v u b h hv hu;rw[show d+1+k=(d+k)+1 by omega];simp only[lA] at h;split at h
  case h_1 hu'=>simp only[Option.some.injEq] at h;subst h;cases hv;cases hu;simp[Op.equalIn,aN hu']
  case h_2 hu'=>
   obtain⟨hk,h⟩:=aL h;simp only[Option.some.injEq] at h;subst h;have:=(xV _ _).1 hk;subst this;cases hv;cases hu;simp[Op.equalIn,aN hu',tj]
  case h_3 hu'=>
   simp only[Option.some.injEq] at h;subst h
   cases hv with
   | str h1=>cases hu with
    | str h2=>simp[Op.equalIn,aN hu',re h1 h2,beq_toListBytes]
  case h_4 hu'=>
   simp only[Option.some.injEq] at h;subst h;cases hv;cases hu<;>simp[Op.equalIn,aN hu']
  case h_5 hu'=>simp only[Option.some.injEq] at h;subst h;cases hv;cases hu;simp[Op.equalIn,aN hu']
  case h_6 hu'=>
   simp only[Option.some.injEq] at h;subst h;cases hv;cases hu<;>simp[Op.equalIn,aN hu']
  case h_7 hu'=>simp only[Option.some.injEq] at h;subst h;cases hv;cases hu;simp[Op.equalIn,aN hu']
  case h_8 hu'=>
   simp only[Option.some.injEq] at h;subst h;cases hv;cases hu<;>simp[Op.equalIn,aN hu']
  case h_9 hu'=>simp only[Option.some.injEq] at h;subst h;cases hv;cases hu;simp[Op.equalIn,aN hu']
  case h_10 hu'=>simp only[Option.some.injEq] at h;subst h;cases hv;cases hu;simp[Op.equalIn,aN hu']
  case h_11 hu'=>simp only[Option.some.injEq] at h;subst h;cases hv;cases hu<;>simp[Op.equalIn,aN hu']
  case h_12 hu'=>simp only[Option.some.injEq] at h;subst h;cases hu;cases hv<;>simp[Op.equalIn,aN hu']
  case h_13 fs xs ys hu'=>
   cases hs:P.stoodInHeld t
   ·rw[hs,an] at h;obtain⟨vs,rfl,hvs⟩:=hv.oi;obtain⟨us,rfl,hus⟩:=hu.oi
    have hf:P.fieldsOf t=fs:=by simp[Program.fieldsOf,hu']
    rw[run_equalIn_struct w (d+k) t vs us (by rw[hf];exact hu') hs,hf];exact uf (λt x y v u b h h1 h2=>ih t x y v u b h h1 h2) hvs hus _ _ h
   ·simp[hs] at h
  case h_14 n e xs ys hu'=>
   cases hs:cI P e with
   | none=>simp[hs] at h
   | some s=>
    simp only[hs,ac] at h;obtain⟨vs,rfl,hvs⟩:=hv.oi;obtain⟨us,rfl,hus⟩:=hu.oi;have hr:=wJ (λt x y v u b h h1 h2=>ih t x y v u b h h1 h2) hvs hus n 0 b h;simp only[Op.equalIn,Sem.run_bind,aN hu',Result.andThen_ok,bZ hs];simp only[Std.Legacy.Range.forIn_eq_forIn_range',Std.Legacy.Range.size,bb,ap,Nat.div_one];rw[hr];cases b<;>simp
  case h_15=>simp at h
def ue{P:Program}{σ:Sg}{w:World}{em:Bool}{D:Nat}{ck:TypeId->AV->Bool}(ih:∀(t:TypeId) (x:AV) (v:Value),ck t x=true->V σ x v->(Instr.checkKey em D t v).run P w=.ok () w)
 {xs:List AV} {vs:Array Value} (hx:VL σ xs vs.toList):∀(fs:List Field),oC P ck fs xs=true->
 (forIn (m:=Sem) fs PUnit.unit λf _=>if f.name≠ "_" then do
  let a <-part f.type vs f.offset
  Instr.checkKey em D f.type a
  pure (.yield PUnit.unit) else pure (.yield PUnit.unit)).run P w=.ok PUnit.unit w
 | [],_=>by simp
 | f::fs,h=>by
  simp only[oC,Bool.and_eq_true] at h;obtain⟨h1,h2,h3⟩:=h
  have hne:f.name≠ "_":=by simpa using h1
  cases h4:fa P f.type xs f.offset with
  | none=>simp[h4] at h2
  | some a=>
   simp only[h4] at h2;obtain⟨v,hv,hV⟩:=jy (w:=w) hx h4;rw[List.forIn_cons];simp only[hne,ne_eq,not_false_eq_true,if_true,Sem.run_bind,hv,Result.andThen_ok,ih _ _ _ h2 hV,Sem.run_pure];exact ue ih hx fs h3
def wI{P:Program}{σ:Sg}{w:World}{em:Bool}{D e s:Nat}{ck:AV->Bool}(ih:∀(x:AV) (v:Value),ck x=true->V σ x v->(Instr.checkKey em D e v).run P w=.ok () w)
 {xs:List AV} {vs:Array Value} (hx:VL σ xs vs.toList) (hs:cI P e=some s):∀(m i:Nat),xR P ck e s xs m i=true->
 (forIn (m:=Sem) (range' i m) PUnit.unit λi _=>do
  let n <-sizeOf e
  let a <-part e vs (i*n)
  Instr.checkKey em D e a
  pure (.yield PUnit.unit)).run P w=.ok PUnit.unit w
 | 0,i,_=>by simp
 | m+1,i,h=>by
  simp only[xR,aa] at h;obtain⟨h1,h2⟩:=h
  cases h4:fa P e xs (i*s) with
  | none=>simp[h4] at h1
  | some a=>
   simp only[h4] at h1;obtain⟨v,hv,hV⟩:=jy (w:=w) hx h4;rw[a7,al];simp only[Sem.run_bind,bZ hs,hv,Result.andThen_ok,ih _ _ h1 hV,Sem.run_pure];exact wI ih hx hs m (i+1) h2
def PS{P:Program}{σ:Sg}{w:World}(em:Bool)(k:Nat):∀(d:Nat) (t:TypeId) (x:AV) (v:Value),Fv P d t x=true->V σ x v->(Instr.checkKey em (d+k) t v).run P w=.ok () w:=by
 intro d
 induction d with
 | zero=>intro t x v h;simp[Fv] at h
 | succ d ih=>
  intro t x v h hv;rw[show d+1+k=(d+k)+1 by omega];simp only[Fv] at h;split at h
  case h_1 hu=>cases hv;simp[Instr.checkKey,aN hu]
  case h_2 hu=>cases hv;simp[Instr.checkKey,aN hu]
  case h_3 hu=>cases hv;simp[Instr.checkKey,aN hu]
  case h_4 fs xs hu=>
   obtain⟨vs,rfl,hvs⟩:=hv.oi;have:=ue (w:=w) (em:=em) (λt x v h1 h2=>ih t x v h1 h2) hvs fs.toList h;simp only[Instr.checkKey,Sem.run_bind,aN hu,Result.andThen_ok];rw[<-Array.forIn_toList,this];simp
  case h_5 n e xs hu=>
   cases hs:cI P e with
   | none=>simp[hs] at h
   | some s=>
    simp only[hs] at h;obtain⟨vs,rfl,hvs⟩:=hv.oi;have:=wI (w:=w) (em:=em) (λx v h1 h2=>ih e x v h1 h2) hvs hs n 0 h;simp only[Instr.checkKey,Sem.run_bind,aN hu,Result.andThen_ok];simp only[Std.Legacy.Range.forIn_eq_forIn_range',Std.Legacy.Range.size,bb,ap,Nat.div_one];rw[this];simp
  case h_6=>simp at h
def jR{P:Program}{σ:Sg}{w:World}{t:TypeId}{x:AV}{v:Value}(h:tG P t x=true)(hv:V σ x v)(em:Bool):(Instr.checkKey em 10000 t v).run P w=.ok () w:=
 PS em 9996 4 t x v h hv
def EL(σ:Sg)(es:List (AV×AV×Nat))(es':List MapEntry):Prop:=es.length=es'.length/\∀(i:Nat) (e:AV×AV×Nat) (m:MapEntry),es[i]?=some e->es'[i]?=some m->ER σ e m
def EL.cons{σ:Sg}{e:AV×AV×Nat}{es:List (AV×AV×Nat)}{l:List MapEntry}(h:EL σ (e::es) l):∃m l',l=m::l'/\ER σ e m/\EL σ es l':=by
 cases l with
 | nil=>have:=h.1;simp at this
 | cons m l'=>exact⟨m,l',rfl,h.2 0 e m (by simp) (by simp),by have:=h.1;simpa using this,λi x y hx hy=>h.2 (i+1) x y (by simpa using hx) (by simpa using hy)⟩
def EL.nil{σ:Sg}{l:List MapEntry}(h:EL σ [] l):l=[]:=by
 cases l with
 | nil=>rfl
 | cons m l'=>have:=h.1;simp at this
def found(r:Option Nat)(i:Nat)(l:List MapEntry):Option (Nat×Value):=match r with
 | none=>none
 | some j=>(l[j-i]?).map λm=>(j,m.val)
def tw{P:Program}{kt:TypeId}{k:AV}:∀(es:List (AV×AV×Nat)) (i j:Nat),gX P kt k es i=some (some j)->i<=j/\j<i+es.length
 | [],i,j,h=>by simp[gX] at h
 | e::es,i,j,h=>by
  simp only[gX] at h;split at h
  ·simp at h;subst h;simp
  ·have:=tw es (i+1) j h;simp;omega
  ·simp at h
def yK{r:Option Nat}{i:Nat}{m:MapEntry}{l:List MapEntry}(h:∀j,r=some j->i+1<=j):found r i (m::l)=found r (i+1) l:=by
 cases r with
 | none=>rfl
 | some j=>have:=h j rfl;simp only[found];rw[show j-i=(j-(i+1))+1 by omega,ag]
def qm{P:Program}{σ:Sg}{w:World}{kt:TypeId}{k:AV}{v:Value}(hk:V σ k v):∀(es:List (AV×AV×Nat)) (l:List MapEntry) (i:Nat) (r:Option Nat),
 gX P kt k es i=some r->EL σ es l->(Instr.findAsking kt v l i).run P w=.ok (found r i l) w
 | [],l,i,r,h,hl=>by have:=hl.nil;subst this;simp[gX] at h;subst h;simp[Instr.findAsking,found]
 | e::es,l,i,r,h,hl=>by
  obtain⟨m,l',rfl,he,hl'⟩:=hl.cons;simp only[gX] at h
  cases h1:lA P 4 kt k e.1 with
  | none=>simp[h1] at h
  | some b=>
   have hr:(Op.equal kt v m.key).run P w=.ok b w:=Kq 9996 4 kt k e.1 v m.key b h1 hk he.1;simp only[Instr.findAsking,Sem.run_bind,hr,Result.andThen_ok];cases b
   ·simp only[h1] at h;rw[un (by simp),qm hk es l' (i+1) r h hl'];rw[yK];intro j hj;subst hj;exact(tw es (i+1) j h).1
   ·simp only[h1,Option.some.injEq] at h;subst h;simp[found]
def I2{P:Program}{σ:Sg}{d:Nat}{kt:TypeId}{kd:TypeDesc}(hu:P.underlying kt=some kd){x y:AV}{v u:Value}{b c:Bool}(h:lA P (d+1) kt x y=some b)(hx:V σ x v)(hy:V σ y u)(hn:Instr.sameNow kd v u=some c):c=b:=by
 simp only[lA,hu] at h;unfold Instr.sameNow at hn;split at hn
 ·cases hx with
  | any _=>simp at h
  | int=>cases hy with
   | any _=>simp at h
   | int=>
    obtain⟨h1,h2⟩:=aL h;have:=(xV _ _).1 h1;subst this;simp only[if_true,Option.some.injEq] at hn h2;rw[<-hn,<-h2,tj]
 ·cases hx with
  | any _=>simp at h
  | str h1=>cases hy with
   | any _=>simp at h
   | str h2=>
    simp only[Option.some.injEq] at h hn;rw[<-hn,<-h,re h1 h2,beq_toListBytes]
 ·cases hx with
  | any _=>simp at h
  | bool=>cases hy with
   | any _=>simp at h
   | bool=>
    simp only[Option.some.injEq] at h hn;rw[<-hn,<-h]
 ·simp at hn
def yF{P:Program}{σ:Sg}{kt:TypeId}{kd:TypeDesc}(hu:P.underlying kt=some kd){k:AV}{v:Value}(hk:V σ k v):∀(es:List (AV×AV×Nat)) (l:List MapEntry) (i:Nat) (r:Option Nat) (q:Option (Nat×Value)),
 gX P kt k es i=some r->EL σ es l->Instr.findNow kd v l i=some q->q=found r i l
 | [],l,i,r,q,h,hl,hn=>by have:=hl.nil;subst this;simp[gX] at h;subst h;simp[Instr.findNow] at hn;subst hn;rfl
 | e::es,l,i,r,q,h,hl,hn=>by
  obtain⟨m,l',rfl,he,hl'⟩:=hl.cons;simp only[gX] at h
  cases h1:lA P 4 kt k e.1 with
  | none=>simp[h1] at h
  | some b=>
   simp only[Instr.findNow] at hn
   cases hs:Instr.sameNow kd v m.key with
   | none=>simp[hs] at hn
   | some c=>
    have:=I2 hu h1 hk he.1 hs;subst this;cases c
    ·simp only[h1] at h;simp only[hs] at hn;rw[yF hu hk es l' (i+1) r q h hl' hn,yK];intro j hj;subst hj;exact(tw es (i+1) j h).1
    ·simp only[h1,Option.some.injEq] at h;simp only[hs,Option.some.injEq] at hn;subst h;subst hn;simp[found]
def nz{P:Program}{σ:Sg}{w:World}{kt:TypeId}{kd:TypeDesc}(hu:P.underlying kt=some kd){k:AV}{v:Value}(hk:V σ k v){es:List (AV×AV×Nat)}{l:List MapEntry}{r:Option Nat}
 (h:gX P kt k es 0=some r) (hl:EL σ es l):(Instr.findKey kt v l).run P w=.ok (found r 0 l) w:=by
 simp only[Instr.findKey,Sem.run_bind,aN hu,Result.andThen_ok]
 cases hn:Instr.findNow kd v l 0 with
 | some q=>rw[yF hu hk es l 0 r q h hl hn];simp
 | none=>exact qm hk es l 0 r h hl
def o5{eq:AV->AV->Bool}(ih:∀a b,eq a b=true->a=b):∀xs ys:List AV,gT eq xs ys=true->xs=ys
 | [],[],_=>rfl
 | [],_::_,h=>by simp[gT] at h
 | _::_,[],h=>by simp[gT] at h
 | x::xs,y::ys,h=>by
  simp only[gT,aa] at h;rw[ih x y h.1,o5 ih xs ys h.2]
def NI:∀(n:Nat) (a b:AV),gW n a b=true->a=b:=by
 intro n
 induction n with
 | zero=>intro a b h;simp[gW] at h
 | succ n ih=>
  intro a b h;simp only[gW] at h;split at h
  case h_1=>simp at h;rw[h]
  case h_2=>simp only[aa] at h;have h2:=h.2;rw[tj] at h2;rw[(xV _ _).1 h.1,beq_iff_eq.1 h2]
  case h_3=>rw[Dg] at h;rw[ww h]
  case h_4=>rfl
  case h_5=>simp only[aa] at h;rw[cU h.1,cU h.2]
  case h_6=>
   simp only[aa] at h;obtain⟨⟨⟨⟨h1,h2⟩,h3⟩,h4⟩,h5⟩:=h;rw[cU h1,cU h2,cU h3,cU h4];split at h5
   ·rfl
   ·rw[cU h5]
   ·simp at h5
  case h_7=>simp only[aa] at h;rw[cU h.1.1,cU h.1.2,cU h.2]
  case h_8=>rfl
  case h_9=>rw[cU h]
  case h_10=>rfl
  case h_11=>rfl
  case h_12=>rw[o5 ih _ _ h]
  case h_13=>rw[o5 ih _ _ h]
  case h_14=>rw[cU h]
  case h_15=>simp only[aa] at h;rw[cU h.1,o5 ih _ _ h.2.1,o5 ih _ _ h.2.2]
  case h_16=>simp only[aa] at h;rw[cU h.1,ih _ _ h.2]
  case h_17=>simp only[aa] at h;rw[ww h.1,o5 ih _ _ h.2.1,o5 ih _ _ h.2.2]
  case h_18=>simp at h
def tz{σ:Sg}{x:AV}{v u:Value}(hf:mJ x=true)(h:V σ x v)(k:V σ x u):v=u/\∀n,Instr.sameBits n v u=true:=by
 cases x<;>simp[mJ] at hf
 ·cases h;cases k;exact⟨rfl,λn=>by cases n<;>simp[Instr.sameBits]⟩
 ·cases h;cases k;exact⟨rfl,λn=>by cases n<;>simp[Instr.sameBits]⟩
 ·cases h with
  | @str _ s h1=>cases k with
   | @str _ t h2=>
    have e:s=t:=by
     have:=nb _ _ (h1.trans h2.symm);obtain⟨⟨a⟩⟩:=s;obtain⟨⟨b⟩⟩:=t;simp only at this;subst this;rfl
    subst e
    have hb:(s==s)=true:=by rw[beq_toListBytes];simp
    exact⟨rfl,λn=>by cases n<;>simpa [Instr.sameBits] using hb⟩
def BX{σ:Sg}:∀(xs:List AV) (vs us:List Value),xs.all mJ=true->VL σ xs vs->VL σ xs us->vs=us/\∀n,(vs.zip us).all (λ(x,y)=>Instr.sameBits n x y)=true
 | [],vs,us,_,h,k=>by have:=h.nD;subst this;have:=k.nD;subst this;exact⟨rfl,λn=>by simp⟩
 | x::xs,vs,us,hf,h,k=>by
  obtain⟨v,vs',rfl,h1,h2⟩:=h.dF;obtain⟨u,us',rfl,k1,k2⟩:=k.dF;simp only[a9,aa] at hf;obtain⟨a,b⟩:=tz hf.1 h1 k1;obtain⟨c,d⟩:=BX xs vs' us' hf.2 h2 k2;exact⟨by rw[a,c],λn=>by simp only[List.zip_cons_cons,a9,b n,d n,Bool.and_self]⟩
def CD{P:Program}{σ:Sg}{w:World}{k mB:AV}{v u:Value}(h:stays k mB=true)(hv:V σ k v)(hu:V σ mB u):(Instr.keyThatStays u v).run P w=.ok v w:=by
 simp only[stays,aa] at h;have:=NI _ _ _ h.2;subst this
 have hs:Instr.sameBits 10000 u v=true:=by
  have hk:=h.1
  cases k with
  | agg cs=>
   obtain⟨vs,rfl,hvs⟩:=hv.oi;obtain⟨us,rfl,hus⟩:=hu.oi;obtain⟨e,hall⟩:=BX cs us.toList vs.toList hk hus hvs
   have hsz:us.size=vs.size:=by have:=congrArg List.length e;simpa using this
   simp only[Instr.sameBits,hsz,beq_self_eq_true,Bool.true_and];exact hall 9999
  | bool _=>exact(tz rfl hu hv).2 _
  | int _ _=>exact(tz rfl hu hv).2 _
  | str _=>exact(tz rfl hu hv).2 _
  | _=>simp[DQ,mJ] at hk
 simp[Instr.keyThatStays,hs]
def Nw{P:Program}{σ:Sg}{w:World}{op:BinOp}{a b:Int}{r:AV}(h:Dd op a b=some r):∃v,(Op.intCmp op a b).run P w=.ok v w/\V σ r v:=by
 unfold Dd at h;split at h
 all_goals first
  | (simp only[Option.some.injEq] at h;subst h;refine⟨_,rfl,?_⟩)
  | (simp at h;done)
 ·rw[tj];exact .bool _
 ·rw[tj];exact .bool _
 ·rw[iE]
  have e:(!decide (b<=a))=decide (a<b):=by by_cases h:b<=a<;>simp[h]<;>omega
  rw[e];exact .bool _
 ·rw[iE];exact .bool _
 ·rw[iE]
  have e:(!decide (a<=b))=decide (a>b):=by by_cases h:a<=b<;>simp[h]<;>omega
  rw[e];exact .bool _
 ·rw[iE];exact .bool _
def Kx{b:Int}(h:NZ b=false):b≠0:=by
 intro e;subst e;simp[NZ] at h
def NG{P:Program}(d:Nat)(t:TypeId)(y:AV):lA P d t .any y=none:=by
 cases d with
 | zero=>rfl
 | succ d=>unfold lA;split<;>simp_all
def NH{P:Program}(d:Nat)(t:TypeId)(x:AV):lA P d t x .any=none:=by
 cases d with
 | zero=>rfl
 | succ d=>unfold lA;split<;>simp_all
def yi{P:Program}{op:BinOp}{t:TypeId}{x y r:AV}(h:cS P op t x y=some r):x≠.any/\y≠.any:=by
 constructor
 ·rintro rfl;unfold cS at h;split at h
  case h_1=>simp_all
  case h_2=>simp_all
  case h_3=>simp_all
  case h_4=>split at h<;>simp[NG] at h<;>(cases hg:P.eqGuardType P.depth t<;>simp[hg] at h)
 ·rintro rfl;unfold cS at h;split at h
  case h_1=>simp_all
  case h_2=>simp_all
  case h_3=>simp_all
  case h_4=>split at h<;>simp[NH] at h<;>(cases hg:P.eqGuardType P.depth t<;>simp[hg] at h)
def Nn{P:Program}{σ:Sg}{w:World}{op:BinOp}{t:TypeId}{x y:AV}{v u:Value}{r:AV}(h:cS P op t x y=some r)(hv:V σ x v)(hu:V σ y u):
 ∃z,(binOp op t v u).run P w=.ok z w/\V σ r z:=by
 have hany:=yi h;unfold cS at h;split at h
 case h_1 k a k' b=>
  cases hv;cases hu;split at h
  case h_1=>
   obtain⟨h0,h⟩:=aL h;simp only[aa,iE,wr] at h0;simp only[Option.some.injEq] at h;subst h;refine⟨_,by simp only[binOp,Op.shift];rw[un (by omega)];rfl,?_⟩;rw[iy];simp only[a5];exact .int _ _
  case h_2=>
   obtain⟨h0,h⟩:=aL h;simp only[aa,iE,wr] at h0;simp only[Option.some.injEq] at h;subst h;refine⟨_,by simp only[binOp,Op.shift];rw[un (by omega)];rfl,?_⟩;simp only[a5];exact .int _ _
  case h_3 hn1 hn2=>
   obtain⟨hk,h2⟩:=aL h;clear h;have:=(xV _ _).1 hk;subst this;have h:=h2;clear h2;split at h
   ·simp only[Option.some.injEq] at h;subst h;exact⟨.int k (k.wrap (a+b)),by simp[binOp,Op.intArith],by rw[iy];exact .int _ _⟩
   ·simp only[Option.some.injEq] at h;subst h;exact⟨.int k (k.wrap (a-b)),by simp[binOp,Op.intArith],by rw[iy];exact .int _ _⟩
   ·simp only[Option.some.injEq] at h;subst h;exact⟨.int k (k.wrap (a*b)),by simp[binOp,Op.intArith],by rw[iy];exact .int _ _⟩
   ·cases hz:NZ b
    ·rw[hz,an] at h;have:=Kx hz;simp only[Option.some.injEq] at h;subst h;exact⟨.int k (k.wrap (a.tdiv b)),by simp[binOp,Op.intDiv,this],by rw[iy];exact .int _ _⟩
    ·simp[hz] at h
   ·cases hz:NZ b
    ·rw[hz,an] at h;have:=Kx hz;simp only[Option.some.injEq] at h;subst h;exact⟨.int k (a.tmod b),by simp[binOp,Op.intDiv,this],.int _ _⟩
    ·simp[hz] at h
   ·simp at h
   ·simp at h
   ·simp at h
   ·simp at h
   ·obtain⟨z,hz,hV⟩:=Nw (P:=P) (σ:=σ) (w:=w) h;refine⟨z,?_,hV⟩;cases op<;>simp_all [binOp]
 case h_2 a b=>
  cases hv with
  | str h1=>cases hu with
   | str h2=>
    rename_i s1 s2;have e1:=re h1 h2
    have e2:gJ a b=Op.bytesLess s1.toList s2.toList:=by rw[<-h1,<-h2,ByteArray.toList_eq,ByteArray.toList_eq];exact oO _ _
    split at h
    ·obtain⟨h0,h9⟩:=aL h;have h0:=jq h0;simp only[Option.some.injEq] at h9;subst h9;refine⟨_,by simp only[binOp,Op.stringOp];rw[un];rfl;rw[um h1,um h2];simp[IntKind.max,IntKind.signed,IntKind.bits];omega,?_⟩;refine .str ?_;rw[<-h1,<-h2];simp[ByteArray.data_append]
    all_goals first
     | (simp only[Option.some.injEq] at h;subst h;refine⟨_,rfl,?_⟩;simp only[e1,e2];exact .bool _)
     | simp at h
 case h_3=>simp at h
 case h_4=>
  have hne:(∀k a k' b,¬(v=.int k a/\u=.int k' b))/\(∀a b,¬(v=.string a/\u=.string b)):=by
   refine⟨?_,?_⟩
   ·rintro k a k' b ⟨rfl,rfl⟩
    cases hv with
    | any _=>exact hany.1 rfl
    | int=>cases hu with
     | any _=>exact hany.2 rfl
     | int=>
      simp_all
      rename_i hx;exact hx _ _ _ _ rfl rfl rfl rfl
   ·rintro a b ⟨rfl,rfl⟩
    cases hv with
    | any _=>exact hany.1 rfl
    | str=>cases hu with
     | any _=>exact hany.2 rfl
     | str=>simp_all
  have heq:∀b,lA P 8 t x y=some b->(Op.equal t v u).run P w=.ok b w:=λb hb=>Kq 9992 8 t x y v u b hb hv hu;split at h
  ·cases hg:P.eqGuardType P.depth t
   ·rw[hg,an] at h
    cases he:lA P 8 t x y with
    | none=>simp[he] at h
    | some b=>
     simp only[he,ad,Option.some.injEq] at h;subst h;refine⟨.bool b,?_,.bool _⟩;have:=heq b he;simp only[lA] at he
     split at he<;>cases hv<;>cases hu<;>first
      | (simp only[binOp,Sem.run_bind,this,Result.andThen_ok,Sem.run_pure];done)
      | (exact t8 ⟨rfl,rfl⟩ (hne.1 _ _ _ _))
      | (exact t8 ⟨rfl,rfl⟩ (hne.2 _ _))
      | (simp at he;done)
   ·simp[hg] at h
  ·cases hg:P.eqGuardType P.depth t
   ·rw[hg,an] at h
    cases he:lA P 8 t x y with
    | none=>simp[he] at h
    | some b=>
     simp only[he,ad,Option.some.injEq] at h;subst h;refine⟨.bool (!b),?_,.bool _⟩;have:=heq b he;simp only[lA] at he
     split at he<;>cases hv<;>cases hu<;>first
      | (simp only[binOp,Sem.run_bind,this,Result.andThen_ok,Sem.run_pure];done)
      | (exact t8 ⟨rfl,rfl⟩ (hne.1 _ _ _ _))
      | (exact t8 ⟨rfl,rfl⟩ (hne.2 _ _))
      | (simp at he;done)
   ·simp[hg] at h
  ·simp at h
def FE{P:Program}{σ:Sg}{w:World}{op:BinOp}{t:TypeId}{X Y:Operand}{x y:AV}{v u:Value}{r:AV}(h:cS P op t x y=some r)(hv:V σ x v)(hu:V σ y u):
 (eqGuard op t X Y v u).run P w=.ok () w:=by
 by_cases hop:op=.eql\/op=.neq
 ·have hx:v≠.nilIface:=by
   intro e;subst e
   cases hv with
   | any _=>exact(yi h).1 rfl
   | xv=>unfold cS at h;split at h<;>simp_all
  have hg:∀a b,v=.agg a->u=.agg b->P.eqGuardType P.depth t=false:=by
   intro a b e1 e2;subst e1;subst e2;have hany:=yi h
   cases hv with
   | any hh=>exact t8 rfl (hh a)
   | agg=>
    cases hu with
    | any hh=>exact t8 rfl (hh b)
    | agg=>
     cases hg:P.eqGuardType P.depth t
     ·rfl
     ·unfold cS at h
      rcases hop with rfl | rfl<;>simp[hg] at h
  unfold eqGuard
  rcases hop with rfl | rfl<;>simp only[a0,af,if_false]
  all_goals
   cases v<;>first
    | exact t8 rfl hx
    | (cases u<;>first
     | rfl
     | (simp[hg _ _ rfl rfl];done)
     | (simp;done))
 ·cases op<;>first
   | exact t8 (.inl rfl) hop
   | exact t8 (.inr rfl) hop
   | rfl
def QQ{P:Program}{σ:Sg}{w:World}{op:UnOp}{x:AV}{v:Value}{r:AV}(h:R0 op x=some r)(hv:V σ x v):∃z,(Op.unary op v).run P w=.ok z w/\V σ r z:=by
 unfold R0 at h;split at h
 ·cases hv;simp only[Option.some.injEq] at h;subst h;exact⟨_,rfl,by rw[iy];exact .int _ _⟩
 ·cases hv;simp only[Option.some.injEq] at h;subst h;exact⟨_,rfl,.bool _⟩
 ·simp at h
def Ly{P:Program}{σ:Sg}{w:World}{s d:TypeId}{x:AV}{v:Value}{r:AV}(h:mE P s d x=some r)(hv:V σ x v):∃z,(convert s d v).run P w=.ok z w/\V σ r z:=by
 unfold mE at h;split at h
 ·rename_i h1 h2;cases hv;simp only[Option.some.injEq] at h;subst h;rename_i k _ n;exact⟨.int k (k.wrap n),by simp[convert,aN h1,aN h2,Conv.intToInt],by rw[iy];exact .int _ _⟩
 ·rename_i h1 h2;simp only[Option.some.injEq] at h;subst h
  cases hv with
  | str hs=>exact⟨_,by simp[convert,aN h1,aN h2],.str hs⟩
 ·simp at h
def BZ(off:Nat):∀(l:List Value) (k:Nat) (cells:Array Value),off+k+l.length<=cells.size->
 ((l.zipIdx k).foldl (λcs (p:Value×Nat)=>cs.setIfInBounds (off+p.2) p.1) cells).toList=cells.toList.take (off+k)++(l++cells.toList.drop (off+k+l.length))
 | [],k,cells,_=>by simp
 | v::l,k,cells,h=>by
  simp only[List.length_cons] at h;rw[List.zipIdx_cons,List.foldl_cons,BZ off l (k+1) _ (by simp;omega)];apply List.ext_getElem?;intro j
  have hlen:(cells.setIfInBounds (off+k) v).toList.length=cells.size:=by simp
  rw[show off+(k+1)=(off+k)+1 by omega];have a1:=lI (cells.setIfInBounds (off+k) v).toList l (off+k+1) (by rw[hlen];omega) j;rw[a1];have a2:=lI cells.toList (v::l) (off+k) (by simp;omega) j;rw[a2];simp only[List.length_cons,Array.toList_setIfInBounds];by_cases h1:j=off+k
  ·subst h1;rw[un (by omega),ul (by omega),List.getElem?_set_self (by simp;omega)];simp
  ·rw[List.getElem?_set_ne (by omega)];by_cases h2:off+k+1<=j/\j<off+k+1+l.length
   ·rw[ul h2,ul (by omega),show j-(off+k)=(j-(off+k+1))+1 by omega,List.getElem?_cons_succ]
   ·rw[un h2,un (by omega)]
def PL(σ:Sg)(ps:List (Nat×AV))(qs:List (Nat×Value)):Prop:=ps.length=qs.length/\∀(i:Nat) (a:Nat×AV) (v:Nat×Value),ps[i]?=some a->qs[i]?=some v->a.1=v.1/\V σ a.2 v.2
def tv{σ:Sg}{place:Nat->Option (Nat×Nat)}:∀(parts:List (Nat×AV)) (parts':List (Nat×Value)) (cells:List AV) (cells':Array Value) (r:List AV),
 ko place cells parts=some r->PL σ parts parts'->VL σ cells cells'.toList->
 ∃r':Array Value,Instr.fill place cells' parts'=some r'/\VL σ r r'.toList
 | [],parts',cells,cells',r,h,hp,hc=>by
  cases parts' with
  | nil=>simp[ko] at h;subst h;exact⟨cells',rfl,hc⟩
  | cons x y=>have:=hp.1;simp at this
 | (i,a)::parts,parts',cells,cells',r,h,hp,hc=>by
  cases parts' with
  | nil=>have:=hp.1;simp at this
  | cons x parts'=>
   obtain⟨i',v⟩:=x;have h0:=hp.2 0 (i,a) (i',v) (by simp) (by simp);simp only at h0;obtain⟨rfl,hV⟩:=h0;simp only[ko] at h
   cases hpl:place i with
   | none=>simp[hpl] at h
   | some q=>
    obtain⟨off,size⟩:=q;simp only[hpl] at h;obtain⟨hc1,h9⟩:=aL h;simp only[Bool.and_eq_true] at hc1;have e1:=cU hc1.1;have e2:=jq hc1.2;have hvc:=hV.cells;have hl1:=hvc.1;have hl2:=hc.1
    have hsz:v.cells.size=size:=by simp at hl1;omega
    have hcs:cells'.size=cells.length:=by simp at hl2;omega
    have hst:(v.cells.zipIdx.foldl (λcs (c,j)=>cs.setIfInBounds (off+j) c) cells').toList=cells'.toList.take off++(v.cells.toList++cells'.toList.drop (off+v.cells.toList.length)):=by
     have:=BZ off v.cells.toList 0 cells' (by simp;omega);rw[<-Array.foldl_toList,Array.toList_zipIdx];simpa using this
    obtain⟨r',hr',hV'⟩:=tv parts parts' _ (v.cells.zipIdx.foldl (λcs (c,j)=>cs.setIfInBounds (off+j) c) cells') r h9
     ⟨by have:=hp.1;simpa using this,λi a v x y=>hp.2 (i+1) a v (by simpa using x) (by simpa using y)⟩
     (by
      rw[hst];refine(hc.take off).append (hvc.append ?_)
      have:off+v.cells.toList.length=off+size:=by simp[hsz]
      rw[this]
      exact hc.drop _)
    refine⟨r',?_,hV'⟩;simp only[Instr.fill,hpl];rw[un (by simp;omega)];exact hr'
def vI{σ:Sg}{t:Tr AV}{ρ:Operand->Value}(hρ:∀x a,ev t x=some a->V σ a (ρ x)):∀(l:List (Nat×Operand)) (ps:List (Nat×AV)),lL t l=some ps->
 PL σ ps (l.map λ(i,x)=>(i,ρ x))
 | [],ps,h=>by simp[lL] at h;subst h;exact⟨rfl,λi a v x _=>by simp at x⟩
 | (k,x)::l,ps,h=>by
  simp only[lL,ax] at h
  cases h1:ev t x with
  | none=>simp[h1] at h
  | some a=>
   cases h2:l.mapM (λp=>(ev t p.2).map λv=>(p.1,v)) with
   | none=>simp[h1,h2] at h
   | some qs=>
    simp[h1,h2] at h;subst h;obtain⟨i1,i2⟩:=vI hρ l qs h2;refine⟨by simpa using i1,?_⟩;intro i a' v hx hy
    cases i with
    | zero=>simp at hx hy;subst hx;subst hy;exact⟨rfl,hρ x a h1⟩
    | succ i=>exact i2 i a' v (by simpa using hx) (by simpa using hy)
def pk{σ:Sg}{t:Tr AV}{ρ:Operand->Value}(hρ:∀x a,ev t x=some a->V σ a (ρ x)):∀(l:List Operand) (aS:List AV),xm t l=some aS->VL σ aS (l.map ρ)
 | [],aS,h=>by simp[xm] at h;subst h;exact .nil
 | x::l,aS,h=>by
  simp only[xm,ax] at h
  cases h1:ev t x with
  | none=>simp[h1] at h
  | some a=>
   cases h2:l.mapM (ev t) with
   | none=>simp[h1,h2] at h
   | some bs=>simp[h1,h2] at h;subst h;exact .cons (hρ x a h1) (pk hρ l bs h2)
def r9{P:Program}{w:World}{α β:Type}{f:α->Sem β}{g:α->β}:∀(l:List α),(∀x∈l,(f x).run P w=.ok (g x) w)->(l.mapM f).run P w=.ok (l.map g) w
 | [],_=>by simp
 | x::l,h=>by
  rw[ax];simp only[Sem.run_bind,h x (by simp),Result.andThen_ok,r9 l (λy hy=>h y (by simp[hy])),Sem.run_pure,a4]
def Ae{P:Program}{w:World}{α β:Type}{f:α->Sem β}{g:α->β}(l:Array α)(h:∀x∈l.toList,(f x).run P w=.ok (g x) w):(l.mapM f).run P w=.ok (l.map g) w:=by
 have e:l.mapM f=Functor.map List.toArray (l.toList.mapM f):=by
  obtain⟨l⟩:=l;exact List.mapM_toArray
 rw[e,Sem.run_map,r9 l.toList h];show Result.ok (l.toList.map g).toArray w=_;obtain⟨l⟩:=l;simp
def Ie{P:Program}{σ:Sg}{w:World}{t:TypeId}{parts:List (Nat×AV)}{parts':Array (Nat×Value)}{r:AV}(h:uY P t parts=some r)
 (hp:PL σ parts parts'.toList):
 ∃v,(Instr.build t parts').run P w=.ok v w/\V σ r v:=by
 unfold uY at h
 cases hz:du P t with
 | none=>simp[hz] at h
 | some z=>
  simp only[hz,ac] at h;obtain⟨zv,hzr,hzV,_⟩:=iI (w:=w) (σ:=σ) hz;split at h
  ·rename_i fs hu;obtain⟨hall,h9⟩:=aL h
   cases hf:ko (vK P fs) z.cells parts with
   | none=>simp[hf] at h9
   | some cs=>
    simp only[hf,ad,Option.some.injEq] at h9;subst h9;obtain⟨r',hr',hV⟩:=tv parts parts'.toList z.cells zv.cells cs hf hp hzV.cells
    have hsz:∀f∈fs.toList,(do pure (f.offset,<-sizeOf f.type):Sem (Nat×Nat)).run P w=.ok (f.offset,(cI P f.type).getD 0) w:=by
     intro f hf';have:=List.all_eq_true.1 hall f hf'
     cases hs:cI P f.type with
     | none=>simp[hs] at this
     | some n=>simp[bZ hs]
    have hpl:(λi=>(fs.map λf=>(f.offset,(cI P f.type).getD 0))[i]?)=vK P fs:=by
     funext i;simp only[vK,Array.getElem?_map]
     cases hfi:fs[i]? with
     | none=>rfl
     | some f=>
      simp only[ad,ac]
      have hmem:f∈fs.toList:=by simpa using Array.mem_of_getElem? hfi
      have:=List.all_eq_true.1 hall f hmem
      cases hs:cI P f.type with
      | none=>simp[hs] at this
      | some n=>simp
    refine⟨.agg r',?_,.xZ hV⟩;simp only[Instr.build,Sem.run_bind,hzr,Result.andThen_ok,aN hu,Ae fs hsz];simp only[hpl,hr',Sem.run_pure]
  ·rename_i n e hu
   cases hs:cI P e with
   | none=>simp[hs] at h
   | some s=>
    simp only[hs,ac] at h
    cases hf:ko (λi=>some (i*s,s)) z.cells parts with
    | none=>simp[hf] at h
    | some cs=>
     simp only[hf,ad,Option.some.injEq] at h;subst h;obtain⟨r',hr',hV⟩:=tv parts parts'.toList z.cells zv.cells cs hf hp hzV.cells;refine⟨.agg r',?_,.xZ hV⟩;simp only[Instr.build,Sem.run_bind,hzr,Result.andThen_ok,aN hu,bZ hs,hr',Sem.run_pure]
  ·simp at h
def gj(z:List AV):∀n,(rep z n).length=n*z.length
 | 0=>by simp[rep]
 | n+1=>by simp[rep,gj z n,bc];omega
def KS(z:List AV)(hz:0<z.length):∀(n i:Nat),i<n*z.length->(rep z n)[i]?=z[i%z.length]?
 | 0,i,h=>by simp at h
 | n+1,i,h=>by
  simp only[rep,List.getElem?_append];by_cases hi:i<z.length
  ·rw[ul hi,Nat.mod_eq_of_lt hi]
  ·rw[un hi,KS z hz n _ (by rw[bc] at h;omega)];rw[Nat.mod_eq_sub_mod (a:=i) (by omega)]
def DT{σ:Sg}{z:List AV}{zv:Array Value}(h:VL σ z zv.toList)(hz:0<z.length)(n:Nat):VL σ (rep z n) ((a8 (n*z.length)).map λi=>zv[i%z.length]!).toList:=by
 refine⟨by simp[gj],?_⟩;intro i a v ha hv
 have hi:i<n*z.length:=by
  rcases ba i (n*z.length) with h | h
  ·exact h
  ·rw[aj (by rw[gj];omega)] at ha;simp at ha
 rw[KS z hz n i hi] at ha;simp only[Array.toList_map,Array.toList_range,a3,List.getElem?_range hi,ad,Option.some.injEq] at hv;obtain⟨u,hu,hV⟩:=h.get ha
 have:zv[i%z.length]?=some u:=by simpa using hu
 rw[<-hv];rw[Array.getElem!_eq_getD,Array.getD_eq_getD_getElem?,this];exact hV
def xk{P:Program}{σ:Sg}{w:World}{t:TypeId}{len s:Nat}{cs:List AV}{parts:List (Nat×AV)}{parts':Array (Nat×Value)}(h:gU P t len parts=some (s,cs))
 (hp:PL σ parts parts'.toList):
 ∃(c:Array Value) (e:TypeId),(Instr.buildSlice t len parts').run P w=.ok (.slice (some ⟨w.heap.size,0,none⟩) len len) { w with heap:=w.heap.push (.cells c e (0,0)) }/\VL σ cs c.toList/\cs.length=len*s:=by
 unfold gU at h;split at h
 ·rename_i e hu
  cases hs:cI P e with
  | none=>simp[hs] at h
  | some s'=>
   cases hz:du P e with
   | none=>simp[hs,hz] at h
   | some z=>
    simp only[hs,hz,ac] at h;obtain⟨hc,h9⟩:=aL h;simp only[aa] at hc;obtain⟨hle,hlen,hpos⟩:=hc;have hle:=jq hle;have hlen:=cU hlen
    have hpos:s'≠0:=by intro e0;subst e0;simp at hpos
    cases hf:ko (λi=>some (i*s',s')) (rep z.cells len) parts with
    | none=>simp[hf] at h9
    | some cs'=>
     simp only[hf,ad,Option.some.injEq,Prod.mk.injEq] at h9;obtain⟨rfl,rfl⟩:=h9;obtain⟨zv,hzr,hzV,_⟩:=iI (w:=w) (σ:=σ) hz
     have hzl:zv.cells.size=s':=by have:=hzV.cells.1;simp at this;omega
     have hrep:=DT hzV.cells (by omega) len;rw[hlen] at hrep;obtain⟨r',hr',hV⟩:=tv parts parts'.toList (rep z.cells len) ((a8 (len*s')).map λi=>zv.cells[i%s']!) cs' hf hp hrep;refine⟨r',e,?_,hV,?_⟩
     ·simp only[Instr.buildSlice,Sem.run_bind,aN hu,Result.andThen_ok,bZ hs];rw[un (by simpa using hle)];by_cases h0:len*s'=0
      ·simp only[h0,if_true,Sem.run_bind,Sem.run_pure,Result.andThen_ok]
       have he:((a8 0).map λi=>(#[]:Array Value)[i%(#[]:Array Value).size]!)=((a8 (len*s')).map λi=>zv.cells[i%s']!):=by rw[h0];simp
       rw[he,hr'];simp[newRow]
      ·simp only[h0,if_false,Sem.run_bind,hzr,Result.andThen_ok,Sem.run_pure,hzl,hr'];simp[newRow]
     ·have:∀(ps:List (Nat×AV)) (a b:List AV),ko (λi=>some (i*s',s')) a ps=some b->b.length=a.length:=by
       intro ps
       induction ps with
       | nil=>intro a b hb;simp[ko] at hb;rw[hb]
       | cons p ps ih=>
        intro a b hb;obtain⟨i,v⟩:=p;simp only[ko] at hb;obtain⟨hc,hb⟩:=aL hb;simp only[aa] at hc;have e1:=cU hc.1;have e2:=jq hc.2;rw[ih _ _ hb];simp;omega
      rw[this _ _ _ hf,gj,hlen]
 ·simp at h
def kR{P:Program}{σ:Sg}{w:World}{x:AV}{v:Value}{n:Nat}(h:di x=some n)(hv:V σ x v):∃k,v=.int k (n:Int)/\(asIntOf v).run P w=.ok (k,(n:Int)) w:=by
 unfold di at h;split at h
 ·simp only[Option.some.injEq] at h;subst h;cases hv;exact⟨_,rfl,rfl⟩
 ·simp at h
def yE{P:Program}{σ:Sg}{w:World}{s:TypeId}{x:AV}{v:Value}{f:Nat}{r:AV}(h:jr P s x f=some r)(hv:V σ x v):∃z,(Instr.fieldAt s v f).run P w=.ok z w/\V σ r z:=by
 unfold jr at h;split at h
 ·rename_i fs id off hu
  cases hf:fs[f]? with
  | none=>simp[hf] at h
  | some fd=>
   simp only[hf,ac] at h
   cases hs:cI P fd.type with
   | none=>simp[hs] at h
   | some n=>
    simp only[hs,ac] at h;cases hn:beq n 0
    ·rw[hn,an] at h;simp only[Option.some.injEq] at h;subst h;have hn0:n≠0:=iB hn
     cases hv with
     | ptr hp=>
      refine⟨_,?_,.ptr (off:=off+fd.offset) hp⟩;simp only[Instr.fieldAt,Sem.run_bind,aN hu,Result.andThen_ok,hf,Instr.sureAddr,Sem.run_pure,fieldPlace,bZ hs,hn0,if_false,gS,ay]
    ·simp[hn] at h
 ·simp at h
def Iq{P:Program}{σ:Sg}{w:World}{s:TypeId}{x:AV}{v:Value}{f:Nat}{r:AV}(h:vi P s x f=some r)(hv:V σ x v):∃z,(Instr.field s v f).run P w=.ok z w/\V σ r z:=by
 unfold vi at h;split at h
 ·rename_i fs cs hu
  cases hf:fs[f]? with
  | none=>simp[hf] at h
  | some fd=>
   simp only[hf,ac] at h;obtain⟨vs,rfl,hvs⟩:=hv.oi;obtain⟨z,hz,hV⟩:=jy (w:=w) hvs h;exact⟨z,by simp only[Instr.field,Sem.run_bind,aN hu,Result.andThen_ok,hf,asAgg,Sem.run_pure];exact hz,hV⟩
 ·simp at h
def yP{P:Program}{σ:Sg}{w:World}{t:TypeId}{x i:AV}{v u:Value}{r:AV}(h:kL P t x i=some r)(hv:V σ x v)(hi:V σ i u):∃z,(Instr.indexAt t v u).run P w=.ok z w/\V σ r z:=by
 unfold kL at h
 cases hn:di i with
 | none=>simp[hn] at h
 | some n=>
  simp only[hn,ac] at h;obtain⟨k,rfl,hk⟩:=kR (P:=P) (w:=w) hn hi;split at h
  ·rename_i m e id off hu
   cases hs:cI P e with
   | none=>simp[hs] at h
   | some s=>
    simp only[hs,ac] at h;obtain⟨hlt,h9⟩:=aL h;have hlt:=fW hlt;simp only[Option.some.injEq] at h9;subst h9
    cases hv with
    | ptr hp=>
     refine⟨_,?_,.ptr (off:=off+n*s) hp⟩;simp only[Instr.indexAt,Sem.run_bind,hk,Result.andThen_ok,aN hu,Instr.sureAddr,Sem.run_pure]
     have:(0:Int)<=(n:Int)/\(n:Int)<(m:Int):=by omega
     cases hm:decide (m<=1)<;>simp[this,bZ hs,gS,ay]
  ·rename_i e id off len es c hu
   cases hs:cI P e with
   | none=>simp[hs] at h
   | some s=>
    simp only[hs,ac] at h;obtain⟨hc,h9⟩:=aL h;simp only[aa] at hc;have hlt:=fW hc.1;have:=cU hc.2;subst this;simp only[Option.some.injEq] at h9;subst h9
    cases hv with
    | slice hp hl hr hcap ha=>
     have ha:=ha.resolve_right (by omega);subst ha;refine⟨_,?_,.ptr (off:=off+n*s) hp⟩;simp only[Instr.indexAt,Sem.run_bind,hk,Result.andThen_ok,aN hu,Sem.run_pure]
     have:(0:Int)<=(n:Int)/\(n:Int)<(len:Int):=by omega
     cases hm:decide (len<=1)<;>simp[this,bZ hs,gS,ay]
  ·simp at h
def Ix{P:Program}{σ:Sg}{w:World}{t:TypeId}{x i:AV}{v u:Value}{r:AV}(h:vr P t x i=some r)(hv:V σ x v)(hi:V σ i u):∃z,(Instr.index t v u).run P w=.ok z w/\V σ r z:=by
 unfold vr at h
 cases hn:di i with
 | none=>simp[hn] at h
 | some n=>
  simp only[hn,ac] at h;obtain⟨k,rfl,hk⟩:=kR (P:=P) (w:=w) hn hi;split at h
  ·rename_i m e cs hu
   cases hs:cI P e with
   | none=>simp[hs] at h
   | some s=>
    simp only[hs,ac] at h;obtain⟨hlt,h9⟩:=aL h;have hlt:=fW hlt;obtain⟨vs,rfl,hvs⟩:=hv.oi;obtain⟨z,hz,hV⟩:=jy (w:=w) hvs h9;refine⟨z,?_,hV⟩
    have:(0:Int)<=(n:Int)/\(n:Int)<(m:Int):=by omega
    simp only[Instr.index,Sem.run_bind,hk,Result.andThen_ok,aN hu,this,and_self,if_true,bZ hs,aR,hz]
  ·rename_i s hu
   cases hb:s[n]? with
   | none=>simp[hb] at h
   | some b=>
    simp only[hb,ad,Option.some.injEq] at h;subst h
    cases hv with
    | @str _ bs hs=>
     rw[<-hs,a3] at hb
     cases hb':bs.data.toList[n]? with
     | none=>simp[hb'] at hb
     | some c=>
      simp only[hb',ad,Option.some.injEq] at hb;subst hb;refine⟨.int .u8 c.toNat,?_,.int _ _⟩
      have hlt:n<bs.size:=by
       rcases ba n bs.data.toList.length with h | h
       ·simpa using h
       ·simp[aj h] at hb'
      have hg:bs[n]?=some c:=by
       rw[getElem?_pos bs n hlt]
       have:bs.data.toList[n]?=some bs.data[n]:=by simp
       rw[this] at hb';exact hb'
      simp only[Instr.index,Sem.run_bind,hk,Result.andThen_ok,aN hu];rw[ul (by omega),aR,hg];rfl
  ·simp at h
end Go.Ev
