/- Lemmas of this claim, each with its conditions. -/
import Derived.Test.YtchdmmkclcnmnaaGreatA1
import Derived.Laws.Cells
set_option linter.all false
open Nat (beq ble blt)
open Nat renaming lt_of_lt_of_le -> aa, le_trans -> ad, le_refl -> af, lt_or_ge -> al, le_of_ble_eq_true -> a9
open List renaming getElem?_eq_none -> ac, getElem?_eq_getElem -> aj, getElem?_drop -> ap, getElem?_take -> ax, getElem?_append -> ay, getElem?_range -> be, getElem?_map -> bh
open Array renaming getElem?_eq_getElem -> ag, getElem?_modify -> bc
open Option renaming bind_some -> a0, map_some -> bb
open Bool renaming and_eq_true -> ba
namespace Go.Ev
def get_nil{α:Type}(k:Nat):(Tr.nil:Tr α).get k=none:=rfl
def cU{a b:Nat}(h:beq a b=true):a=b:=Nat.eq_of_beq_eq_true h
def M1{a b:Nat}(h:a=b):Nat.beq a b=true:=by subst h;simp
def jq{a b:Nat}(h:ble a b=true):a<=b:=a9 h
def eN{a b:Nat}(h:a<=b):Nat.ble a b=true:=by simpa using h
def fW{a b:Nat}(h:blt a b=true):a<b:=a9 h
def ai{α:Sort _}(a b:α):cond true a b=a:=rfl
def an{α:Sort _}(a b:α):cond false a b=b:=rfl
def Lr{α:Type}(b:Bool)(x y:α):Bool.rec (motive:=λ_=>α) y x b=cond b x y:=by cases b<;>rfl
def jO{α:Type}(v:Option α)(l r:Tr α)(k:Nat):
 (Tr.node v l r).get k=if k=0 then v else if k%2=1 then l.get ((k-1)/2) else r.get ((k-1)/2):=by
 have e:(Tr.node v l r).get k=cond (beq k 0) v (cond (beq (k%2) 1) (l.get ((k-1)/2)) (r.get ((k-1)/2))):=by
  rw[<-Lr,<-Lr];rfl
 rw[e];by_cases h0:k=0
 ·simp[h0]
 ·have e0:beq k 0=false:=by cases k<;>simp_all [beq]
  rw[e0,an,un h0];by_cases h1:k%2=1
  ·have e1:beq (k%2) 1=true:=M1 h1;rw[e1,ai,ul h1]
  ·have e1:beq (k%2) 1=false:=by
    cases hb:beq (k%2) 1
    ·rfl
    ·exact t8 (cU hb) h1
   rw[e1,an,un h1]
def L4{α:Type}(x:Option α)(f k:Nat):
 Tr.lone x (f+1) k=if k=0 then .node x .nil .nil else if k%2=1 then .node none (Tr.lone x f ((k-1)/2)) .nil else .node none .nil (Tr.lone x f ((k-1)/2)):=by
 have e:Tr.lone x (f+1) k=cond (beq k 0) (.node x .nil .nil) (cond (beq (k%2) 1) (.node none (Tr.lone x f ((k-1)/2)) .nil) (.node none .nil (Tr.lone x f ((k-1)/2)))):=by
  rw[<-Lr,<-Lr];rfl
 rw[e];by_cases h0:k=0
 ·simp[h0]
 ·have e0:beq k 0=false:=by cases k<;>simp_all [beq]
  rw[e0,an,un h0];by_cases h1:k%2=1
  ·have e1:beq (k%2) 1=true:=M1 h1;rw[e1,ai,ul h1]
  ·have e1:beq (k%2) 1=false:=by
    cases hb:beq (k%2) 1
    ·rfl
    ·exact t8 (cU hb) h1
   rw[e1,an,un h1]
def ON{α:Type}(v:Option α)(l r:Tr α)(k:Nat)(x:Option α):
 (Tr.node v l r).put k x=if k=0 then .node x l r else if k%2=1 then .node v (l.put ((k-1)/2) x) r else .node v l (r.put ((k-1)/2) x):=by
 have e:(Tr.node v l r).put k x=cond (beq k 0) (.node x l r) (cond (beq (k%2) 1) (.node v (l.put ((k-1)/2) x) r) (.node v l (r.put ((k-1)/2) x))):=by
  rw[<-Lr,<-Lr];rfl
 rw[e];by_cases h0:k=0
 ·simp[h0]
 ·have e0:beq k 0=false:=by cases k<;>simp_all [beq]
  rw[e0,an,un h0];by_cases h1:k%2=1
  ·have e1:beq (k%2) 1=true:=M1 h1;rw[e1,ai,ul h1]
  ·have e1:beq (k%2) 1=false:=by
    cases hb:beq (k%2) 1
    ·rfl
    ·exact t8 (cU hb) h1
   rw[e1,an,un h1]
def y6{α:Type}(x:Option α):∀(f k j:Nat),k<f->(Tr.lone x f k).get j=if j=k then x else none
 | 0,k,j,h=>by omega
 | f+1,k,j,h=>by
  rw[L4];by_cases h0:k=0
  ·subst h0;rw[ul rfl,jO];simp only[get_nil];by_cases hj:j=0<;>simp[hj]
  ·rw[un h0];by_cases h1:k%2=1
   ·rw[ul h1,jO,y6 x f _ _ (by omega)];simp only[get_nil];by_cases hj:j=0
    ·rw[ul hj,un (by omega)]
    ·rw[un hj];by_cases hj1:j%2=1
     ·rw[ul hj1];by_cases e:j=k
      ·subst e;simp
      ·rw[un (by omega),un e]
     ·rw[un hj1,un (by omega)]
   ·rw[un h1,jO,y6 x f _ _ (by omega)];simp only[get_nil];by_cases hj:j=0
    ·rw[ul hj,un (by omega)]
    ·rw[un hj];by_cases hj1:j%2=1
     ·rw[ul hj1,un (by omega)]
     ·rw[un hj1];by_cases e:j=k
      ·subst e;simp
      ·rw[un (by omega),un e]
def dH{α:Type}(t:Tr α)(k j:Nat)(x:Option α):(t.put k x).get j=if j=k then x else t.get j:=by
 induction t generalizing k j with
 | nil=>
  have e:(Tr.nil:Tr α).put k x=Tr.lone x (k+1) k:=rfl;rw[e,y6 x _ _ _ (by omega),get_nil]
 | node v l r il ir=>
  rw[ON];by_cases h0:k=0
  ·subst h0;rw[ul rfl,jO,jO];by_cases hj:j=0<;>simp[hj]
  ·rw[un h0];by_cases h1:k%2=1
   ·rw[ul h1,jO,jO,il];by_cases hj:j=0
    ·simp only[hj,if_true];rw[un (by omega)]
    ·simp only[hj,if_false];by_cases hj1:j%2=1
     ·simp only[hj1,if_true];by_cases e:j=k
      ·simp[e]
      ·rw[un (by omega),un e]
     ·simp only[hj1,if_false];rw[un (by omega)]
   ·rw[un h1,jO,jO,ir];by_cases hj:j=0
    ·simp only[hj,if_true];rw[un (by omega)]
    ·simp only[hj,if_false];by_cases hj1:j%2=1
     ·simp only[hj1,if_true];rw[un (by omega)]
     ·simp only[hj1,if_false];by_cases e:j=k
      ·simp[e]
      ·rw[un (by omega),un e]
def cX{α:Type}(t:Tr α)(k:Nat)(x:Option α):(t.put k x).get k=x:=by rw[dH,ul rfl]
def bm{α:Type}(t:Tr α){k j:Nat}(x:Option α)(h:j≠k):(t.put k x).get j=t.get j:=by rw[dH,un h]
def aL{α:Type}{c:Bool}{x:Option α}{y:α}(h:cond c x none=some y):c=true/\x=some y:=by
 cases c
 ·simp at h
 ·exact⟨rfl,h⟩
def iB{a b:Nat}(h:beq a b=false):a≠b:=λe=>by subst e;simp at h
def xQ{a b:Nat}(h:ble a b=false):b<a:=by
 apply Nat.lt_of_not_le;intro e;rw[eN e] at h;simp at h
def Ka{a b:Nat}(h:blt a b=false):b<=a:=by
 have:=xQ h;omega
def iE(a b:Int):rZ a b=decide (a<=b):=by
 unfold rZ
 cases h:b-a with
 | ofNat n=>
  have:a<=b:=by have:=Int.natCast_nonneg n;simp only[Int.ofNat_eq_natCast] at h;omega
  simp[this]
 | negSucc n=>
  have:¬a<=b:=by have:=Int.negSucc_lt_zero n;omega
  simp[this]
def tj(a b:Int):P0 a b=(a==b):=by
 unfold P0;rw[iE,iE];by_cases h:a=b
 ·subst h;simp
 ·have:(a==b)=false:=by simpa using h
  rw[this];by_cases h1:a<=b
  ·have:¬b<=a:=by omega
   simp[h1,this]
  ·simp[h1]
def xV(a b:IntKind):yV a b=true↔a=b:=by cases a<;>cases b<;>simp[yV]
def iy(k:IntKind)(n:Int):dO k n=k.wrap n:=by
 unfold dO;cases hc:rZ (N9 k) n&&rZ n (NW k)
 ·rfl
 ·rw[ai];simp only[ba,iE,wr] at hc;obtain⟨h1,h2⟩:=hc;unfold IntKind.wrap;cases k<;>simp only[N9,NW,IntKind.bits,IntKind.signed] at h1 h2 ⊢<;>simp<;>omega
def Dg:∀a b:List Nat,uN a b=decide (a=b)
 | [],[]=>by simp[uN]
 | [],b::y=>by simp[uN]
 | a::x,[]=>by simp[uN]
 | a::x,b::y=>by
  simp only[uN,Dg x y,List.cons.injEq];cases h:beq a b
  ·simp[iB h]
  ·simp[cU h]
structure sW where
 b:Nat
 d:Nat
 r:Nat
abbrev Sg:=Nat->Option sW
inductive V (σ:Sg):AV->Value->Prop
 | bool (b):V σ (.bool b) (.bool b)
 | int (k n):V σ (.int k n) (.int k n)
 | str {l:List Nat} {s:ByteArray} (h:s.data.toList.map (·.toNat)=l):V σ (.str l) (.string s)
 | RL:V σ (.ptr none) (.pointer none)
 | ptr {id off:Nat} {p:sW} (h:σ id=some p):V σ (.ptr (some (id,off))) (.pointer (some ⟨p.b,p.d+off,none⟩))
 | ik {l e:Nat} (hl:l=0):V σ (.slice none l e (some 0)) (.slice none 0 0)
 | slice {id off len es:Nat} {cap:Option Nat} {a:Addr} {p:sW} {c:Nat} (h:σ id=some p) (hl:len<=c) (hr:off+c*es<=p.r) (hc:∀x,cap=some x->x=c)
  (ha:a=⟨p.b,p.d+off,none⟩\/c=0):V σ (.slice (some (id,off)) len es cap) (.slice (some a) len c)
 | RG:V σ (.map none) (.map none)
 | map {id:Nat} {p:sW} (h:σ id=some p):V σ (.map (some id)) (.map (some p.b))
 | fn {f:Fn} {fs cs:List AV} {fs' cs':Array Value} (hf:∀l,f≠.yield l) (h1:fs.length=fs'.size) (h2:∀(i:Nat) (a:AV) (v:Value),fs[i]?=some a->fs'[i]?=some v->V σ a v)
  (h3:cs.length=cs'.size) (h4:∀(i:Nat) (a:AV) (v:Value),cs[i]?=some a->cs'[i]?=some v->V σ a v):V σ (.fn f fs cs) (.func f fs' cs')
 | yield {id:Nat} {p:sW} (h:σ id=some p):V σ (.fn (.yield id) [] []) (.func (.yield p.b) #[] #[])
 | fp:V σ .fp .nilFunc
 | iface {t:TypeId} {a:AV} {v:Value} (h:V σ a v):V σ (.iface t a) (.iface t v)
 | xv:V σ .xv .nilIface
 | any {v:Value} (h:∀vs,v≠.agg vs):V σ .any v
 | agg {cs:List AV} {vs:Array Value} (h1:cs.length=vs.size) (h2:∀(i:Nat) (a:AV) (v:Value),cs[i]?=some a->vs[i]?=some v->V σ a v):V σ (.agg cs) (.agg vs)
 | bE {cs:List AV} {vs:Array Value} (h1:cs.length=vs.size) (h2:∀(i:Nat) (a:AV) (v:Value),cs[i]?=some a->vs[i]?=some v->V σ a v):V σ (.bE cs) (.tuple vs)
def VL(σ:Sg)(cs:List AV)(vs:List Value):Prop:=cs.length=vs.length/\∀(i:Nat) (a:AV) (v:Value),cs[i]?=some a->vs[i]?=some v->V σ a v
def V.mono{σ σ':Sg}(hle:∀id p,σ id=some p->σ' id=some p){a:AV}{v:Value}(h:V σ a v):V σ' a v:=by
 induction h with
 | bool b=>exact .bool b
 | int k n=>exact .int k n
 | str h=>exact .str h
 | RL=>exact .RL
 | ptr h=>exact .ptr (hle _ _ h)
 | ik h=>exact .ik h
 | slice h hl hr hc ha=>exact .slice (hle _ _ h) hl hr hc ha
 | RG=>exact .RG
 | map h=>exact .map (hle _ _ h)
 | fn hf h1 h2 h3 h4 ih2 ih4=>exact .fn hf h1 (λi a v x y=>ih2 i a v x y) h3 (λi a v x y=>ih4 i a v x y)
 | yield h=>exact .yield (hle _ _ h)
 | fp=>exact .fp
 | iface h ih=>exact .iface ih
 | xv=>exact .xv
 | any h=>exact .any h
 | agg h1 h2 ih=>exact .agg h1 (λi a v x y=>ih i a v x y)
 | bE h1 h2 ih=>exact .bE h1 (λi a v x y=>ih i a v x y)
def VL.mono{σ σ':Sg}(hle:∀id p,σ id=some p->σ' id=some p){a:List AV}{v:List Value}(h:VL σ a v):VL σ' a v:=
 ⟨h.1,λi a v x y=>(h.2 i a v x y).mono hle⟩
def VL.nil{σ:Sg}:VL σ [] []:=⟨rfl,λi a v h _=>by simp at h⟩
def VL.cons{σ:Sg}{a:AV}{v:Value}{aS:List AV}{vs:List Value}(h:V σ a v)(hs:VL σ aS vs):VL σ (a::aS) (v::vs):=by
 refine⟨by simp[hs.1],?_⟩;intro i x y hx hy
 cases i with
 | zero=>simp at hx hy;subst hx;subst hy;exact h
 | succ i=>simp at hx hy;exact hs.2 i x y hx hy
def VL.of_cons{σ:Sg}{a:AV}{v:Value}{aS:List AV}{vs:List Value}(h:VL σ (a::aS) (v::vs)):V σ a v/\VL σ aS vs:=
 ⟨h.2 0 a v (by simp) (by simp),⟨by have:=h.1;simpa using this,λi x y hx hy=>h.2 (i+1) x y (by simpa using hx) (by simpa using hy)⟩⟩
def VL.dF{σ:Sg}{a:AV}{aS:List AV}{l:List Value}(h:VL σ (a::aS) l):∃v vs,l=v::vs/\V σ a v/\VL σ aS vs:=by
 cases l with
 | nil=>have:=h.1;simp at this
 | cons v vs=>exact⟨v,vs,rfl,h.of_cons.1,h.of_cons.2⟩
def VL.nD{σ:Sg}{l:List Value}(h:VL σ [] l):l=[]:=by
 have:=h.1;cases l with
 | nil=>rfl
 | cons v vs=>simp at this
def VL.get{σ:Sg}{aS:List AV}{vs:List Value}(h:VL σ aS vs){i:Nat}{a:AV}(ha:aS[i]?=some a):∃v,vs[i]?=some v/\V σ a v:=by
 have hi:i<aS.length:=by
  rcases al i aS.length with h | h
  ·exact h
  ·simp[ac h] at ha
 have hv:i<vs.length:=h.1▸hi;exact⟨vs[i],aj hv,h.2 i a _ ha (aj hv)⟩
def VL.append{σ:Sg}{aS bs:List AV}{vs ws:List Value}(h:VL σ aS vs)(k:VL σ bs ws):VL σ (aS++bs) (vs++ws):=by
 refine⟨by simp[h.1,k.1],?_⟩;intro i x y hx hy;rw[ay] at hx hy;have e:=h.1;by_cases hi:i<aS.length
 ·rw[ul hi] at hx;rw[ul (by omega)] at hy;exact h.2 i x y hx hy
 ·rw[un hi] at hx;rw[un (by omega),<-e] at hy;exact k.2 _ x y hx hy
def VL.drop{σ:Sg}{aS:List AV}{vs:List Value}(h:VL σ aS vs)(n:Nat):VL σ (aS.drop n) (vs.drop n):=
 ⟨by simp[h.1],λi x y hx hy=>h.2 (n+i) x y (by simpa [ap] using hx) (by simpa [ap] using hy)⟩
def VL.take{σ:Sg}{aS:List AV}{vs:List Value}(h:VL σ aS vs)(n:Nat):VL σ (aS.take n) (vs.take n):=by
 refine⟨by simp[h.1],?_⟩;intro i x y hx hy;rw[ax] at hx hy;by_cases hi:i<n
 ·rw[ul hi] at hx hy;exact h.2 i x y hx hy
 ·rw[un hi] at hx;simp at hx
def V.oi{σ:Sg}{cs:List AV}{v:Value}(h:V σ (.agg cs) v):∃vs,v=.agg vs/\VL σ cs vs.toList:=by
 cases h with
 | agg h1 h2=>exact⟨_,rfl,by simpa using h1,λi a v x y=>h2 i a v x (by simpa using y)⟩
def V.IS{σ:Sg}{cs:List AV}{v:Value}(h:V σ (.bE cs) v):∃vs,v=.tuple vs/\VL σ cs vs.toList:=by
 cases h with
 | bE h1 h2=>exact⟨_,rfl,by simpa using h1,λi a v x y=>h2 i a v x (by simpa using y)⟩
def V.RI{σ:Sg}{cs:List AV}{vs:List Value}(h:VL σ cs vs):V σ (.agg cs) (.agg vs.toArray):=.agg (by simpa using h.1) (λi a v x y=>h.2 i a v x (by simpa using y))
def V.xZ{σ:Sg}{cs:List AV}{vs:Array Value}(h:VL σ cs vs.toList):V σ (.agg cs) (.agg vs):=.agg (by simpa using h.1) (λi a v x y=>h.2 i a v x (by simpa using y))
def V.Oi{σ:Sg}{cs:List AV}{vs:List Value}(h:VL σ cs vs):V σ (.bE cs) (.tuple vs.toArray):=.bE (by simpa using h.1) (λi a v x y=>h.2 i a v x (by simpa using y))
def V.gg{σ:Sg}{cs:List AV}{vs:Array Value}(h:VL σ cs vs.toList):V σ (.bE cs) (.tuple vs):=.bE (by simpa using h.1) (λi a v x y=>h.2 i a v x (by simpa using y))
def V.kn{σ:Sg}:V σ kn undef:=.bE (by simp) (λi a v h _=>by simp at h)
def V.cells{σ:Sg}{a:AV}{v:Value}(h:V σ a v):VL σ a.cells v.cells.toList:=by
 cases h with
 | agg h1 h2=>exact⟨by simpa [AV.cells,Value.cells] using h1,λi a v x y=>h2 i a v x (by simpa [Value.cells] using y)⟩
 | any h=>
  cases v with
  | agg vs=>exact t8 rfl (h vs)
  | _=>exact .cons (.any h) .nil
 | _=>exact .cons (by constructor<;>assumption) .nil
def V.jZ{σ:Sg}{a:AV}{v:Value}(h:V σ a v)(ho:jZ a=true):v.oneCell'=true:=by
 cases h<;>simp_all [Ev.jZ,Value.oneCell']
def VL.jZ{σ:Sg}{aS:List AV}{vs:List Value}(h:VL σ aS vs)(ho:aS.all Ev.jZ=true):∀v∈vs,v.oneCell'=true:=by
 intro v hv;obtain⟨i,hi⟩:=List.mem_iff_getElem?.1 hv
 have hlt:i<vs.length:=by
  rcases al i vs.length with h | h
  ·exact h
  ·simp[ac h] at hi
 have ha:aS[i]?=some (aS[i]'(by have:=h.1;omega)):=aj _;exact(h.2 i _ v ha hi).jZ (List.all_eq_true.1 ho _ (List.getElem_mem _))
def uR{n:Nat}{σ:Sg}(ih:∀v a,lE n v=some a->V σ a v):∀(l:List Value) (aS:List AV),l.mapM (lE n)=some aS->VL σ aS l
 | [],aS,h=>by simp at h;subst h;exact .nil
 | v::l,aS,h=>by
  rw[List.mapM_cons] at h
  cases h1:lE n v with
  | none=>simp[h1] at h
  | some a=>
   cases h2:l.mapM (lE n) with
   | none=>simp[h1,h2] at h
   | some bs=>simp[h1,h2] at h;subst h;exact .cons (ih v a h1) (uR ih l bs h2)
def Nc{σ:Sg}:∀(n:Nat) (v:Value) (a:AV),lE n v=some a->V σ a v:=by
 intro n
 induction n with
 | zero=>intro v a h;simp[lE] at h
 | succ n ih=>
  intro v a h;unfold lE at h;split at h
  all_goals first
   | (simp only[Option.some.injEq] at h;subst h;first | exact .bool _ | exact .int _ _ | exact .str rfl | exact .RL | exact .ik rfl | exact .RG | exact .fp | exact .xv)
   | skip
  ·rename_i cs
   cases h1:cs.toList.mapM (lE n) with
   | none=>simp[h1] at h
   | some aS=>simp[h1] at h;subst h;exact .xZ (uR ih _ _ h1)
  ·rename_i cs
   cases h1:cs.toList.mapM (lE n) with
   | none=>simp[h1] at h
   | some aS=>simp[h1] at h;subst h;exact .gg (uR ih _ _ h1)
  ·rename_i t v
   cases h1:lE n v with
   | none=>simp[h1] at h
   | some aS=>simp[h1] at h;subst h;exact .iface (ih _ _ h1)
  ·simp at h
def ER(σ:Sg)(e:AV×AV×Nat)(m:MapEntry):Prop:=V σ e.1 m.key/\V σ e.2.1 m.val/\e.2.2=m.born
def TR(σ:Sg)(t:Tr AV)(n:Nat)(tmps:Array Value):Prop:=tmps.size=n/\∀i,V σ ((t.get i).getD kn) (tmps.getD i undef)
def qf(s:ByteArray):List Nat:=s.data.toList.map (·.toNat)
def OR(σ:Sg)(o:AO)(p:sW)(b:Option Obj):Prop:=match o with
 | .cells cs _=>∃c e,b=some (.cells c e (0,0))/\p.d+p.r<=c.size/\cs.length<=p.r/\∀(i:Nat) (a:AV),cs[i]?=some a->∃v,c[p.d+i]?=some v/\V σ a v
 | .ro cs=>∃c e f,b=some (.cells c e f)/\p.d+p.r<=c.size/\cs.length<=p.r/\∀(i:Nat) (a:AV),cs[i]?=some a->∃v,c[p.d+i]?=some v/\V σ a v
 | .map es ck=>∃es':Array MapEntry,b=some (.map es' ck)/\es.length=es'.size/\∀(i:Nat) (e:AV×AV×Nat) (m:MapEntry),es[i]?=some e->es'[i]?=some m->ER σ e m
 | .K8 s pos=>∃s',b=some (.stringIter s' pos)/\qf s'=s/\p.d=0
 | .jg m since seen st=>∃m',b=some (.mapIter m' since seen.toArray st)/\p.d=0/\(match m with
  | none=>m'=none
  | some id=>∃q,σ id=some q/\m'=some q.b)
 | .loop st pend t n ps a bd d=>∃f tmps q,b=some (.loop { state:=st,pending:=pend,fn:=f,tmps,params:=ps,assign:=a,body:=bd,defers:=q.b })/\σ d=some q/\TR σ t n tmps
 | .ox tk=>b=some (.deferred (if tk then none else some []))
def TR.mono{σ σ':Sg}(hle:∀id p,σ id=some p->σ' id=some p){t:Tr AV}{n:Nat}{tmps:Array Value}(h:TR σ t n tmps):TR σ' t n tmps:=
 ⟨h.1,λi=>(h.2 i).mono hle⟩
def OR.mono{σ σ':Sg}(hle:∀id p,σ id=some p->σ' id=some p){o:AO}{p:sW}{b:Option Obj}(h:OR σ o p b):OR σ' o p b:=by
 cases o with
 | cells cs f=>obtain⟨c,e,h1,h2,h3,h4⟩:=h;exact⟨c,e,h1,h2,h3,λi a ha=>let ⟨v,hv,hV⟩:=h4 i a ha;⟨v,hv,hV.mono hle⟩⟩
 | ro cs=>obtain⟨c,e,f,h1,h2,h3,h4⟩:=h;exact⟨c,e,f,h1,h2,h3,λi a ha=>let ⟨v,hv,hV⟩:=h4 i a ha;⟨v,hv,hV.mono hle⟩⟩
 | map es ck=>obtain⟨es',h1,h2,h3⟩:=h;exact⟨es',h1,h2,λi e m he hm=>let ⟨a,b,c⟩:=h3 i e m he hm;⟨a.mono hle,b.mono hle,c⟩⟩
 | K8 s pos=>exact h
 | jg m since seen st=>
  obtain⟨m',h1,h0,h2⟩:=h;refine⟨m',h1,h0,?_⟩
  cases m with
  | none=>exact h2
  | some id=>obtain⟨q,hq,hm⟩:=h2;exact⟨q,hle _ _ hq,hm⟩
 | loop st pend t n ps a bd d=>obtain⟨f,tmps,q,h1,h2,h3⟩:=h;exact⟨f,tmps,q,h1,hle _ _ h2,h3.mono hle⟩
 | ox tk=>exact h
def OR.some{σ:Sg}{o:AO}{p:sW}{b:Option Obj}(h:OR σ o p b):b≠none:=by
 intro e;subst e;cases o<;>simp[OR] at h
def M9(o o':AO):Prop:=(∃cs cs' f,o=.cells cs f/\o'=.cells cs' f)\/(∃cs cs',o=.ro cs/\o'=.ro cs')
def M9.left{o:AO}{cs:List AV}{f:Nat}(h:M9 o (.cells cs f)):∃cs',o=.cells cs' f:=by
 rcases h with⟨a,b,c,e1,e2⟩ | ⟨a,b,e1,e2⟩
 ·cases e2;exact⟨_,e1⟩
 ·cases e2
structure HR (σ:Sg) (h:H) (w:World):Prop where
 obj:∀id o,h.aR.get id=some o->∃p,σ id=some p/\OR σ o p w.heap[p.b]?
 fresh:∀id,h.next<=id->σ id=none
 sep:∀i j o o' p q,i≠j->h.aR.get i=some o->h.aR.get j=some o'->σ i=some p->σ j=some q->p.b=q.b->M9 o o'
 cg:∀i cs f,h.aR.get i=some (.cells cs f)->f<h.next/\∃x y,h.dE.get f=some (x,y)/\(i=x\/i=y)
 y7:h.low<=h.next
def Cf{w:World}{b:Nat}(h:w.heap[b]?≠none):b<w.heap.size:=by
 rcases al b w.heap.size with h' | h'
 ·exact h'
 ·simp[h'] at h
def HR.lt{σ:Sg}{h:H}{w:World}(hr:HR σ h w){id:Nat}{o:AO}{p:sW}(ho:h.aR.get id=some o)(hp:σ id=some p):p.b<w.heap.size:=by
 obtain⟨q,hq,hor⟩:=hr.obj id o ho;rw[hp] at hq;cases hq;exact Cf hor.some
def HR.Uz{σ:Sg}{h:H}{w:World}(hr:HR σ h w){id:Nat}{o:AO}(ho:h.aR.get id=some o):id<h.next:=by
 obtain⟨q,hq,_⟩:=hr.obj id o ho
 rcases al id h.next with h' | h'
 ·exact h'
 ·rw[hr.fresh id h'] at hq;cases hq
def PG(o:AO):Prop:=∀cs,o≠.ro cs
structure Ext (σ σ':Sg) (h h':H) (w w':World):Prop where
 le:∀id p,σ id=some p->σ' id=some p
 next:h.next<=h'.next
 size:w.heap.size<=w'.heap.size
 os:w'.os=w.os
 tape:w'.tape=w.tape
 output:w'.output=w.output
 Sl:∀id o p,h'.aR.get id=some o->σ' id=some p->w.heap.size<=p.b\/∃i o' q,h.aR.get i=some o'/\σ i=some q/\q.b=p.b/\(PG o->PG o')
 frame:∀b,b<w.heap.size->(∀id o p,h.aR.get id=some o->PG o->σ id=some p->p.b≠b)->w'.heap[b]?=w.heap[b]?
 low:h'.low<=h.low
 same:∀id,id<h'.low->id<h.next->h'.aR.get id=h.aR.get id
 mB:∀id,id<h.next->σ id=none->σ' id=none
 dE:∀id cs f,h'.aR.get id=some (.cells cs f)->h.next<=f\/∃i cs',h.aR.get i=some (.cells cs' f)
def Ext.refl(σ:Sg)(h:H)(w:World):Ext σ σ h h w w:=
 ⟨λ_ _ h=>h,af _,af _,rfl,rfl,rfl,λid o p ho hp=>.inr ⟨id,o,p,ho,hp,rfl,λh=>h⟩,λ_ _ _=>rfl,af _,λ_ _ _=>rfl,λ_ _ h=>h,λid cs _ ho=>.inr ⟨id,cs,ho⟩⟩
def Ext.trans{σ σ' σ'':Sg}{h h' h'':H}{w w' w'':World}(a:Ext σ σ' h h' w w')(b:Ext σ' σ'' h' h'' w' w''):Ext σ σ'' h h'' w w'' where
 le:=λid p hp=>b.le _ _ (a.le _ _ hp)
 next:=ad a.next b.next
 size:=ad a.size b.size
 os:=b.os.trans a.os
 tape:=b.tape.trans a.tape
 output:=b.output.trans a.output
 Sl:=by
  intro id o p ho hp
  rcases b.Sl id o p ho hp with h1 | ⟨i,o',q,h1,h2,h3,g3⟩
  ·exact .inl (ad a.size h1)
  ·rcases a.Sl i o' q h1 h2 with h4 | ⟨j,o'',r,h4,h5,h6,g6⟩
   ·exact .inl (by omega)
   ·exact .inr ⟨j,o'',r,h4,h5,by omega,λh=>g6 (g3 h)⟩
 frame:=by
  intro bk hb hn;rw[b.frame bk (aa hb a.size),a.frame bk hb hn];intro id o p ho hw hp e
  rcases a.Sl id o p ho hp with h1 | ⟨i,o',q,h1,h2,h3,g3⟩
  ·omega
  ·exact hn i o' q h1 (g3 hw) h2 (by omega)
 low:=ad b.low a.low
 same:=by
  intro id h1 h2;rw[b.same id h1 (aa h2 a.next),a.same id (aa h1 b.low) h2]
 mB:=λid h1 h2=>b.mB id (aa h1 a.next) (a.mB id h1 h2)
 dE:=by
  intro id cs f ho
  rcases b.dE id cs f ho with h1 | ⟨i,cs',h1⟩
  ·exact .inl (ad a.next h1)
  ·exact a.dE i cs' f h1
def HR.congr{σ:Sg}{h:H}{w w':World}(hr:HR σ h w)(e:w'.heap=w.heap):HR σ h w':=
 ⟨λid o ho=>by rw[e];exact hr.obj id o ho,hr.fresh,hr.sep,hr.cg,hr.y7⟩
def Ext.of_eq{σ:Sg}{h:H}{w w':World}(e:w'.heap=w.heap)(e1:w'.os=w.os)(e2:w'.tape=w.tape)(e3:w'.output=w.output):Ext σ σ h h w w':=
 ⟨λ_ _ h=>h,af _,by rw[e];exact af _,e1,e2,e3,λid o p ho hp=>.inr ⟨id,o,p,ho,hp,rfl,λh=>h⟩,λ_ _ _=>by rw[e],af _,λ_ _ _=>rfl,λ_ _ h=>h,λid cs _ ho=>.inr ⟨id,cs,ho⟩⟩
def gS(b o n:Nat):(⟨b,o,none⟩:Addr).add n=⟨b,o+n,none⟩:=by
 unfold Addr.add;split
 ·rename_i h;simp[h]
 ·rfl
def cell_of{w:World}{b o:Nat}{c:Array Value}{e:TypeId}{f:Nat×Nat}(h:w.heap[b]?=some (.cells c e f)):w.cell? ⟨b,o,none⟩=c[o]?:=by
 simp[World.cell?,h]
def vp{w:World}{b o:Nat}{c:Array Value}{e:TypeId}(h:w.heap[b]?=some (.cells c e (0,0))):w.frozen? ⟨b,o,none⟩=false:=by
 simp[World.frozen?,h]
def HR.cells{σ:Sg}{h:H}{w:World}(hr:HR σ h w){id:Nat}{cs:List AV}{f:Nat}(ho:h.aR.get id=some (.cells cs f)):
 ∃p c e,σ id=some p/\w.heap[p.b]?=some (.cells c e (0,0))/\p.d+p.r<=c.size/\cs.length<=p.r/\∀(i:Nat) (a:AV),cs[i]?=some a->∃v,c[p.d+i]?=some v/\V σ a v:=by
 obtain⟨p,hp,c,e,h1,h2,h3,h4⟩:=hr.obj id _ ho;exact⟨p,c,e,hp,h1,h2,h3,h4⟩
def QX(o:AO)(cs:List AV):Prop:=(∃f,o=.cells cs f)\/o=.ro cs
def HR.row{σ:Sg}{h:H}{w:World}(hr:HR σ h w){id:Nat}{o:AO}{cs:List AV}(ho:h.aR.get id=some o)(hi:QX o cs):
 ∃p c e f,σ id=some p/\w.heap[p.b]?=some (.cells c e f)/\p.d+p.r<=c.size/\cs.length<=p.r/\∀(i:Nat) (a:AV),cs[i]?=some a->∃v,c[p.d+i]?=some v/\V σ a v:=by
 obtain⟨p,hp,hor⟩:=hr.obj id _ ho
 rcases hi with⟨f,rfl⟩ | rfl
 ·obtain⟨c,e,h1,h2,h3,h4⟩:=hor;exact⟨p,c,e,_,hp,h1,h2,h3,h4⟩
 ·obtain⟨c,e,f,h1,h2,h3,h4⟩:=hor;exact⟨p,c,e,f,hp,h1,h2,h3,h4⟩
def H.Ns{h:H}{id off n:Nat}{cs:List AV}(hc:h.chunk id off n=some cs):
 ∃o bs,h.aR.get id=some o/\QX o bs/\off+n<=bs.length/\cs=(bs.drop off).take n:=by
 unfold H.chunk at hc;split at hc
 ·rename_i bs f ho;obtain⟨h1,h2⟩:=aL hc;simp only[Option.some.injEq] at h2;exact⟨_,bs,ho,.inl ⟨f,rfl⟩,jq h1,h2.symm⟩
 ·rename_i bs ho;obtain⟨h1,h2⟩:=aL hc;simp only[Option.some.injEq] at h2;exact⟨_,bs,ho,.inr rfl,jq h1,h2.symm⟩
 ·simp at hc
def HR.chunk{σ:Sg}{h:H}{w:World}(hr:HR σ h w){id off n:Nat}{cs:List AV}{p:sW}(hc:h.chunk id off n=some cs)(hp:σ id=some p):
 ∃vs,VL σ cs vs/\cs.length=n/\∀(j:Nat) (v:Value),vs[j]?=some v->w.cell? ⟨p.b,p.d+off+j,none⟩=some v:=by
 obtain⟨o,bs,ho,hi,hle,rfl⟩:=H.Ns hc;obtain⟨q,c,e,f,hq,h1,h2,h3,h4⟩:=hr.row ho hi;rw[hp] at hq;cases hq
 have hlen:((bs.drop off).take n).length=n:=by simp;omega
 have hsz:∀j,j<n->p.d+(off+j)<c.size:=λj hj=>by omega
 refine⟨(List.range n).map λj=>(c[p.d+(off+j)]?).getD undef,⟨by simp;omega,?_⟩,hlen,?_⟩
 ·intro i a v ha hv
  have hi:i<n:=by
   rcases al i n with h | h
   ·exact h
   ·rw[ac (by omega)] at ha;simp at ha
  rw[ax,ul hi,ap] at ha;obtain⟨u,hu,hV⟩:=h4 _ _ ha;rw[bh,be hi] at hv;simp only[bb,Option.some.injEq] at hv;rw[<-hv,hu];exact hV
 ·intro j v hv
  have hj:j<n:=by
   rcases al j n with h | h
   ·exact h
   ·rw[ac (by simp;omega)] at hv;simp at hv
  rw[bh,be hj] at hv;simp only[bb,Option.some.injEq] at hv;rw[cell_of h1,show p.d+off+j=p.d+(off+j) by omega,ag (hsz j hj)];rw[ag (hsz j hj)] at hv;simpa using hv
def oq{P:Program}{w:World}{b o:Nat}{vs:List Value}(h:∀(j:Nat) (v:Value),vs[j]?=some v->w.cell? ⟨b,o+j,none⟩=some v):
 (loadCells ⟨b,o,none⟩ vs.length).run P w=.ok vs.toArray w:=
 run_loadCells_list w _ vs λj v hv=>by rw[gS];exact h j v hv
def de{P:Program}{w:World}{t:TypeId}{i:TypeInfo}(h:P.info? t=some i):(typeInfo t).run P w=.ok i w:=by
 simp[typeInfo,h]
def aN{P:Program}{w:World}{t:TypeId}{d:TypeDesc}(h:P.underlying t=some d):(Go.underlying t).run P w=.ok d w:=by
 simp[Go.underlying,h]
def bZ{P:Program}{w:World}{t n:Nat}(h:cI P t=some n):(sizeOf t).run P w=.ok n w:=by
 unfold cI at h
 cases hi:P.info? t with
 | none=>simp[hi] at h
 | some i=>simp[hi] at h;subst h;simp[sizeOf,de hi]
def mW{P:Program}{w:World}{t:Nat}{b:Bool}(h:qy P t=some b):(isAgg t).run P w=.ok b w:=by
 unfold qy at h
 cases hi:P.underlying t with
 | none=>simp[hi] at h
 | some d=>
  simp only[hi,bb,Option.some.injEq] at h;subst h;simp only[isAgg,Sem.run_bind,aN hi,Result.andThen_ok];cases d<;>simp
def iI{P:Program}{w:World}{σ:Sg}{t:Nat}{z:AV}(h:du P t=some z):∃v,(zeroValue t).run P w=.ok v w/\V σ z v/\∃i,P.info? t=some i/\i.zero=some v:=by
 unfold du at h
 cases hi:P.info? t with
 | none=>simp[hi] at h
 | some i=>
  simp only[hi,a0] at h
  cases hz:i.zero with
  | none=>simp[hz] at h
  | some v=>
   simp only[hz,a0] at h;exact⟨v,by simp[zeroValue,de hi,hz],Nc _ _ _ h,i,rfl,hz⟩
def HR.F6{P:Program}{σ:Sg}{h:H}{w:World}(hr:HR σ h w){t id off:Nat}{a:AV}{p:sW}(hl:h.load P t id off=some a)(hp:σ id=some p):
 ∃v,(loadVar t ⟨p.b,p.d+off,none⟩).run P w=.ok v w/\V σ a v:=by
 unfold H.load at hl;split at hl
 ·rename_i hag
  cases hn:cI P t with
  | none=>simp[hn] at hl
  | some n=>
   simp only[hn,a0] at hl
   cases hc:h.chunk id off n with
   | none=>simp[hc] at hl
   | some cs=>
    simp only[hc,bb,Option.some.injEq] at hl;subst hl;obtain⟨vs,hvl,hlen,hcell⟩:=hr.chunk hc hp;refine⟨.agg vs.toArray,?_,.RI hvl⟩
    have hl:vs.length=n:=by rw[<-hvl.1];exact hlen
    simp only[loadVar,Sem.run_bind,mW hag,Result.andThen_ok,if_true,bZ hn];rw[<-hl,oq hcell];simp
 ·rename_i hag;split at hl
  ·rename_i cs f ho;obtain⟨q,c,e,hq,h1,h2,h3,h4⟩:=hr.cells ho;rw[hp] at hq;cases hq;obtain⟨v,hv,hV⟩:=h4 _ _ hl;refine⟨v,?_,hV⟩
   have hcell:w.cell? ⟨p.b,p.d+off,none⟩=some v:=by rw[cell_of h1];exact hv
   simp[loadVar,mW hag,hcell]
  ·rename_i cs ho;obtain⟨q,c,e,f,hq,h1,h2,h3,h4⟩:=hr.row ho (.inr rfl);rw[hp] at hq;cases hq;obtain⟨v,hv,hV⟩:=h4 _ _ hl;refine⟨v,?_,hV⟩
   have hcell:w.cell? ⟨p.b,p.d+off,none⟩=some v:=by rw[cell_of h1];exact hv
   simp[loadVar,mW hag,hcell]
  ·simp at hl
 ·simp at hl
def jy{P:Program}{σ:Sg}{w:World}{t off:Nat}{cs:List AV}{vs:Array Value}{a:AV}(hvs:VL σ cs vs.toList)(hl:fa P t cs off=some a):
 ∃v,(part t vs off).run P w=.ok v w/\V σ a v:=by
 unfold fa at hl;split at hl
 ·rename_i hag
  cases hn:cI P t with
  | none=>simp[hn] at hl
  | some n=>
   simp only[hn,a0] at hl;obtain⟨hle,he⟩:=aL hl;simp only[Option.some.injEq] at he;subst he;refine⟨.agg (vs.extract off (off+n)),?_,.xZ ?_⟩
   ·simp[part,mW hag,bZ hn]
   ·have:(vs.extract off (off+n)).toList=(vs.toList.drop off).take n:=by simp
    rw[this];exact(hvs.drop off).take n
 ·rename_i hag;obtain⟨v,hv,hV⟩:=hvs.get hl;refine⟨v,?_,hV⟩
  have hv':vs[off]?=some v:=by simpa using hv
  simp[part,mW hag,hv']
 ·simp at hl
def dR(a b:Nat):gw a b<=a/\gw a b<=b:=by
 unfold gw;cases h:ble a b
 ·have:=xQ h;simp only[an];omega
 ·have:=jq h;simp only[ai];omega
def HR.update{σ:Sg}{h h':H}{w w':World}(hr:HR σ h w){id:Nat}{p:sW}{o o':AO}(ho:h.aR.get id=some o)(hp:σ id=some p)
 (hg:∀j x,h'.aR.get j=some x->(j=id/\x=o')\/(j≠id/\h.aR.get j=some x/\∀q,σ j=some q->q.b≠p.b))
 (hnext:h'.next=h.next) (hfam:∀i cs f,h'.aR.get i=some (.cells cs f)->f<h.next/\∃x y,h'.dE.get f=some (x,y)/\(i=x\/i=y))
 (hor:OR σ o' p w'.heap[p.b]?) (hw:∀b,b≠p.b->w'.heap[b]?=w.heap[b]?) (hs:w'.heap.size=w.heap.size) (e1:w'.os=w.os) (e2:w'.tape=w.tape) (e3:w'.output=w.output)
 (hlow:h'.low<=h.low) (hsame:∀j,j<h'.low->j<h.next->h'.aR.get j=h.aR.get j)
 (hof:∀cs f,o'=.cells cs f->∃cs',o=.cells cs' f:=by first | (intro cs f e;cases e;done) | (intro cs f e;cases e;exact⟨_,rfl⟩))
 (hown:PG o:=by (intro cs e;cases e)):HR σ h' w'/\Ext σ σ h h' w w':=by
 refine⟨⟨?_,?_,?_,?_,?_⟩,⟨λ_ _ h=>h,by omega,by omega,e1,e2,e3,?_,?_,hlow,hsame,λ_ _ h=>h,?_⟩⟩
 ·intro j x hx
  rcases hg j x hx with⟨rfl,rfl⟩ | ⟨_,h2,h3⟩
  ·exact⟨p,hp,hor⟩
  ·obtain⟨q,hq,hq2⟩:=hr.obj j x h2;exact⟨q,hq,by rw[hw _ (h3 q hq)];exact hq2⟩
 ·intro j hj;exact hr.fresh j (by omega)
 ·intro i j x y q1 q2 hij hx hy h1 h2 hb
  rcases hg i x hx with⟨rfl,rfl⟩ | ⟨_,a2,a3⟩
  ·rcases hg j y hy with⟨rfl,rfl⟩ | ⟨_,b2,b3⟩
   ·exact t8 rfl hij
   ·rw[hp] at h1;cases h1;exact t8 hb.symm (b3 _ h2)
  ·rcases hg j y hy with⟨rfl,rfl⟩ | ⟨_,b2,b3⟩
   ·rw[hp] at h2;cases h2;exact t8 hb (a3 _ h1)
   ·exact hr.sep i j x y q1 q2 hij a2 b2 h1 h2 hb
 ·intro i cs f hi;rw[hnext];exact hfam i cs f hi
 ·have:=hr.y7;omega
 ·intro j x q hx hq
  rcases hg j x hx with⟨rfl,rfl⟩ | ⟨_,h2,_⟩
  ·exact .inr ⟨j,o,q,ho,hq,rfl,λ_=>hown⟩
  ·exact .inr ⟨j,x,q,h2,hq,rfl,λh=>h⟩
 ·intro b _ hn;exact hw b λe=>hn id o p ho hown hp e.symm
 ·intro j cs f hj
  rcases hg j _ hj with⟨rfl,e⟩ | ⟨_,h2,_⟩
  ·obtain⟨cs',e'⟩:=hof cs f e.symm;exact .inr ⟨j,cs',e'▸ho⟩
  ·exact .inr ⟨j,cs,h2⟩
def Ln{h:H}{id cg x y:Nat}(hf:h.dE.get cg=some (x,y))(j:Nat):
 (h.alone id cg).aR.get j=if (j=x\/j=y)/\j≠id/\(id=x\/id=y) then none else if (j=x\/j=y)/\j≠id then (h.alone id cg).aR.get j else h.aR.get j:=by
 unfold H.alone;rw[hf];simp only;cases hx:beq x id<;>cases hy:beq y id<;>simp only[Bool.and_true,Bool.and_false,ai,an]
 ·have:=iB hx;have:=iB hy;rw[dH,dH];by_cases h1:j=y<;>by_cases h2:j=x<;>simp[h1,h2]<;>omega
 ·have:=iB hx;have:=cU hy;rw[dH];by_cases h1:j=x
  ·subst h1;simp;omega
  ·rw[un h1];by_cases h2:j=y<;>simp[h1,h2]<;>omega
 ·have:=cU hx;have:=iB hy;rw[dH];by_cases h1:j=y
  ·subst h1;simp;omega
  ·rw[un h1];by_cases h2:j=x<;>simp[h1,h2]<;>omega
 ·have:=cU hx;have:=cU hy;subst x;subst y;by_cases h1:j=id<;>simp[h1]
def nu{σ:Sg}{h:H}{w:World}(hr:HR σ h w){id cg:Nat}{cs:List AV}(ho:h.aR.get id=some (.cells cs cg)):
 (h.alone id cg).aR.get id=some (.cells cs cg)/\
 (∀j o,(h.alone id cg).aR.get j=some o->h.aR.get j=some o)/\
 (∀j cs',(h.alone id cg).aR.get j=some (.cells cs' cg)->j=id)/\
 (h.alone id cg).next=h.next/\
 (∃x y,(h.alone id cg).dE.get cg=some (x,y)/\(id=x\/id=y))/\
 (∀f,f≠cg->(h.alone id cg).dE.get f=h.dE.get f)/\
 (h.alone id cg).low<=h.low/\
 (∀j,j<(h.alone id cg).low->(h.alone id cg).aR.get j=h.aR.get j):=by
 obtain⟨_,x,y,hf,hxy⟩:=hr.cg id cs cg ho
 have hget:∀j,(h.alone id cg).aR.get j=if (j=x\/j=y)/\j≠id then none else h.aR.get j:=by
  intro j;rw[Ln hf j];by_cases hc:(j=x\/j=y)/\j≠id
  ·rw[ul ⟨hc.1,hc.2,hxy⟩,ul hc]
  ·rw[un (λh=>hc ⟨h.1,h.2.1⟩),un hc,un hc]
 refine⟨by rw[hget,un (by simp),ho],?_,?_,?_,?_,?_,?_,?_⟩
 ·intro j o hj;rw[hget] at hj;split at hj
  ·cases hj
  ·exact hj
 ·intro j cs' hj;rw[hget] at hj;split at hj
  ·cases hj
  ·rename_i hn;obtain⟨_,x',y',hf',hj'⟩:=hr.cg j cs' cg hj;rw[hf] at hf';cases hf';apply Classical.byContradiction;intro hne;exact hn ⟨hj',hne⟩
 ·unfold H.alone;rw[hf];simp only;cases (beq x id&&beq y id)<;>rfl
 ·unfold H.alone;rw[hf];simp only;cases hb:(beq x id&&beq y id)
  ·exact⟨id,id,by rw[an];exact cX _ _ _,.inl rfl⟩
  ·exact⟨x,y,hf,hxy⟩
 ·intro f hne;unfold H.alone;rw[hf];simp only;cases (beq x id&&beq y id)
  ·rw[an];exact bm _ _ hne
  ·rfl
 ·unfold H.alone;rw[hf];simp only;cases (beq x id&&beq y id)
  ·rw[an];exact(dR _ _).1
  ·exact af _
 ·intro j hj;rw[hget];split
  ·rename_i hc
   have hlt:j<gw x y:=by
    unfold H.alone at hj;rw[hf] at hj;simp only at hj;cases hb:(beq x id&&beq y id)
    ·rw[hb,an] at hj;exact aa hj (dR _ _).2
    ·simp only[ba] at hb;have:=cU hb.1;have:=cU hb.2;omega
   have:=dR x y;omega
  ·rfl
def World.Bg{w:World}{b o:Nat}{c:Array Value}{e:TypeId}{f:Nat×Nat}(h:w.heap[b]?=some (.cells c e f))(v:Value):
 (w.setCell ⟨b,o,none⟩ v).heap[b]?=some (.cells (c.setIfInBounds o v) e f):=by
 simp[World.setCell,bc,h]
def World.Ak{w:World}{b k o:Nat}(v:Value)(hk:k≠b):(w.setCell ⟨b,o,none⟩ v).heap[k]?=w.heap[k]?:=by
 simp only[World.setCell,bc];rw[un (λh=>hk h.symm)]
def mX{P:Program}{b o:Nat}{e:TypeId}:∀(vs:List Value) (i:Nat) (w:World) (c:Array Value),w.heap[b]?=some (.cells c e (0,0))->o+i+vs.length<=c.size->(∀v∈vs,v.oneCell'=true)->
 ∃w' c',(storeCells ⟨b,o,none⟩ vs i).run P w=.ok () w'/\w'.heap[b]?=some (.cells c' e (0,0))/\c'.size=c.size/\
  (∀j:Nat,c'[j]?=if o+i<=j/\j<o+i+vs.length then vs[j-(o+i)]? else c[j]?)/\(∀k,k≠b->w'.heap[k]?=w.heap[k]?)/\
  w'.heap.size=w.heap.size/\w'.os=w.os/\w'.tape=w.tape/\w'.output=w.output
 | [],i,w,c,h,_,_=>⟨w,c,by simp[storeCells],h,rfl,λj=>by rw[un (by simp only[List.length_nil];omega)],λ_ _=>rfl,rfl,rfl,rfl,rfl⟩
 | v::vs,i,w,c,h,hlen,hone=>by
  simp only[List.length_cons] at hlen
  have hcell:w.cell? ⟨b,o+i,none⟩=some (c[o+i]'(by omega)):=by rw[cell_of h];exact Array.getElem?_eq_getElem _
  have h1:(w.setCell ⟨b,o+i,none⟩ v).heap[b]?=some (.cells (c.setIfInBounds (o+i) v) e (0,0)):=World.Bg h v;obtain⟨w',c',hrun,hw',hsz,hget,hoth,s1,s2,s3,s4⟩:=mX (P:=P) (o:=o) vs (i+1) (w.setCell ⟨b,o+i,none⟩ v) (c.setIfInBounds (o+i) v) h1 (by simp;omega) (λu hu=>hone u (by simp[hu]));refine⟨w',c',?_,hw',by simpa using hsz,?_,?_,?_,?_,?_,?_⟩
  ·simp only[storeCells,Sem.run_bind,gS];rw[run_store P w _ v .plain (hone v (by simp)),hcell];simp only[vp h,Bool.false_eq_true,if_false,Result.andThen_ok];exact hrun
  ·intro j;rw[hget];by_cases hj:o+(i+1)<=j/\j<o+(i+1)+vs.length
   ·rw[ul hj,ul (by simp;omega)];rw[show j-(o+i)=(j-(o+(i+1)))+1 by omega,List.getElem?_cons_succ]
   ·rw[un hj,Array.getElem?_setIfInBounds];by_cases hj2:o+i=j
    ·subst hj2;rw[ul rfl,ul (by omega),ul (by simp)];simp
    ·rw[un hj2,un (by simp;omega)]
  ·intro k hk;rw[hoth k hk,World.Ak _ hk]
  ·rw[s1];simp
  ·rw[s2];rfl
  ·rw[s3];rfl
  ·rw[s4];rfl
def lI{α:Type}(cs vs:List α)(off:Nat)(h:off+vs.length<=cs.length)(j:Nat):
 (cs.take off++(vs++cs.drop (off+vs.length)))[j]?=if off<=j/\j<off+vs.length then vs[j-off]? else cs[j]?:=by
 have h1:(cs.take off).length=off:=by simp;omega
 rw[ay,h1];by_cases ha:j<off
 ·rw[ul ha,un (by omega),ax,ul ha]
 ·rw[un ha,ay];by_cases hb:j-off<vs.length
  ·rw[ul hb,ul (by omega)]
  ·rw[un hb,un (by omega),ap]
   congr 1;omega
def HR.rE{P:Program}{σ:Sg}{h h':H}{w:World}(hr:HR σ h w){id off:Nat}{aS:List AV}{vs:List Value}{p:sW}(hs:h.store id off aS=some h')(hp:σ id=some p)(hv:VL σ aS vs):
 ∃w',(storeCells ⟨p.b,p.d+off,none⟩ vs).run P w=.ok () w'/\HR σ h' w'/\Ext σ σ h h' w w':=by
 unfold H.store at hs;split at hs
 ·rename_i cs cg ho;obtain⟨hc,he⟩:=aL hs;simp only[ba] at hc;obtain⟨hle,hone⟩:=hc;have hle:=jq hle;simp only[Option.some.injEq] at he;obtain⟨q,c,e,hq,h1,h2,h3,h4⟩:=hr.cells ho;rw[hp] at hq;cases hq;have hl:=hv.1;obtain⟨w',c',hrun,hw',hsz,hget,hoth,s1,s2,s3,s4⟩:=mX (P:=P) (o:=p.d+off) vs 0 w c h1 (by omega) (hv.jZ hone);obtain⟨a1,a2,a3,a4,a5,a6,a7,a8⟩:=nu hr ho;refine⟨w',hrun,?_⟩;subst he;refine hr.update (o':=.cells (cs.take off++(aS++cs.drop (off+aS.length))) cg) ho hp ?_ a4 ?_ ?_ hoth s1 s2 s3 s4 (ad (dR _ _).1 a7) ?_
  ·intro j x hx;simp only[dH] at hx;split at hx
   ·rename_i e;cases hx;exact .inl ⟨e,rfl⟩
   ·rename_i hne;have hx':=a2 j x hx;refine .inr ⟨hne,hx',?_⟩;intro q hq hb;obtain⟨cs1,e1⟩:=(hr.sep j id x _ q p hne hx' ho hq hp hb).left;subst e1;exact hne (a3 j cs1 hx)
  ·intro i cs' f hi;simp only[dH] at hi;split at hi
   ·rename_i e;cases hi;subst e;exact⟨(hr.cg i _ _ ho).1,a5⟩
   ·rename_i hne;have hi':=a2 _ _ hi;obtain⟨b1,x,y,b2,b3⟩:=hr.cg i _ _ hi';refine⟨b1,x,y,?_,b3⟩;rw[a6 f (λe=>hne (a3 i cs' (e▸hi)))];exact b2
  ·refine⟨c',e,hw',by rw[hsz];exact h2,by simp;omega,?_⟩;intro i a ha;rw[lI _ _ _ hle] at ha;rw[hget];by_cases hi:off<=i/\i<off+aS.length
   ·rw[ul hi] at ha;rw[ul (by omega)];obtain⟨v,hv1,hv2⟩:=hv.get ha;exact⟨v,by rw[show p.d+i-(p.d+off+0)=i-off by omega];exact hv1,hv2⟩
   ·rw[un hi] at ha;rw[un (by omega)];exact h4 i a ha
  ·intro j hj hjn;simp only[dH];have hm:=dR (h.alone id cg).low id;rw[un (by simp only at hj;omega)];exact a8 j (by simp only at hj;omega)
 ·simp at hs
def HR.D6{P:Program}{σ:Sg}{h h':H}{w:World}(hr:HR σ h w){t id off:Nat}{a:AV}{v:Value}{p:sW}(hs:h.storeVar P t id off a=some h')(hp:σ id=some p)(hv:V σ a v):
 ∃w',(storeVar t ⟨p.b,p.d+off,none⟩ v).run P w=.ok () w'/\HR σ h' w'/\Ext σ σ h h' w w':=by
 unfold H.storeVar at hs
 cases hn:cI P t with
 | none=>simp[hn] at hs
 | some n=>
  simp only[hn,a0] at hs;obtain⟨hc,he⟩:=aL hs;have hc:=cU hc;obtain⟨w',hrun,h1,h2⟩:=hr.rE (P:=P) he hp hv.cells;refine⟨w',?_,h1,h2⟩
  have hsz:v.cells.size=n:=by have:=hv.cells.1;simp at this;omega
  simp only[storeVar,Sem.run_bind,bZ hn,Result.andThen_ok,hsz,ne_eq,not_true_eq_false,if_false];simpa using hrun
def up(σ:Sg)(id:Nat)(p:sW):Sg:=λj=>if j=id then some p else σ j
def ng{σ:Sg}{id:Nat}{p:sW}(h:σ id=none):∀j q,σ j=some q->up σ id p j=some q:=by
 intro j q hq;unfold up;split
 ·rename_i e;subst e;rw[h] at hq;cases hq
 ·exact hq
def ej(σ:Sg)(id:Nat)(p:sW):up σ id p id=some p:=by simp[up]
def rk(h:H)(id:Nat)(o:AO)(j:Nat):(h.lay id o).aR.get j=if j=id then some o else h.aR.get j:=by
 unfold H.lay;split<;>exact dH _ _ _ _
def qz(h:H)(id:Nat)(o:AO):(h.lay id o).next=h.next:=by unfold H.lay;split<;>rfl
def Dv(h:H)(id:Nat)(o:AO):(h.lay id o).low=h.low:=by unfold H.lay;split<;>rfl
def HR.lay{σ:Sg}{h:H}{w w':World}(hr:HR σ h w){id r:Nat}{o:AO}{ob:Obj}(hid:σ id=none)(hlt:id<h.next)(hlow:h.low<=id)
 (hf:∀j cs,h.aR.get j≠some (.cells cs id)) (hof:∀cs f,o=.cells cs f->f=id)
 (hor:OR (up σ id ⟨w.heap.size,0,r⟩) o ⟨w.heap.size,0,r⟩ (some ob)) (hw:w'.heap=w.heap.push ob) (e1:w'.os=w.os) (e2:w'.tape=w.tape) (e3:w'.output=w.output):
 HR (up σ id ⟨w.heap.size,0,r⟩) (h.lay id o) w'/\Ext σ (up σ id ⟨w.heap.size,0,r⟩) { h with next:=id } (h.lay id o) w w':=by
 have hle:=ng (p:=⟨w.heap.size,0,r⟩) hid
 have hnone:h.aR.get id=none:=by
  cases hg:h.aR.get id with
  | none=>rfl
  | some x=>obtain⟨p,hp,_⟩:=hr.obj id x hg;rw[hid] at hp;cases hp
 have hold:∀b,b<w.heap.size->w'.heap[b]?=w.heap[b]?:=by
  intro b hb;rw[hw,Array.getElem?_push,un (by omega)]
 have hother:∀j x,h.aR.get j=some x->∀q,up σ id ⟨w.heap.size,0,r⟩ j=some q->σ j=some q/\q.b<w.heap.size:=by
  intro j x hx q hq
  have hj:j≠id:=λe=>by subst e;rw[hnone] at hx;cases hx
  have:σ j=some q:=by simpa [up,hj] using hq
  exact⟨this,hr.lt hx this⟩
 refine⟨⟨?_,?_,?_,?_,?_⟩,⟨hle,by rw[qz];simp only;omega,by rw[hw];simp,e1,e2,e3,?_,?_,by rw[Dv];simp,?_,?_,?_⟩⟩
 ·intro j x hx;rw[rk] at hx;split at hx
  ·rename_i e;cases hx;subst e;refine⟨_,ej _ _ _,?_⟩;rw[hw];simpa using hor
  ·obtain⟨p,hp,h2⟩:=hr.obj j x hx;have:=hr.lt hx hp;exact⟨p,hle _ _ hp,by rw[hold _ this];exact h2.mono hle⟩
 ·intro j hj;rw[qz] at hj
  have:j≠id:=by omega
  simp[up,this,hr.fresh j hj]
 ·intro i j x y p q hij hx hy hp hq hb;rw[rk] at hx hy;split at hx
  ·rename_i e1;split at hy
   ·omega
   ·subst e1;cases hx;have h1:=hother j y hy q hq;rw[ej] at hp;cases hp;simp only at hb;omega
  ·split at hy
   ·rename_i e1;subst e1;cases hy;have h1:=hother i x hx p hp;rw[ej] at hq;cases hq;simp only at hb;omega
   ·exact hr.sep i j x y p q hij hx hy (hother i x hx p hp).1 (hother j y hy q hq).1 hb
 ·intro i cs f hi;rw[rk] at hi;split at hi
  ·rename_i e;cases hi;subst e;have:=hof cs f rfl;subst this;refine⟨by rw[qz];omega,f,f,?_,.inl rfl⟩;unfold H.lay;exact cX _ _ _
  ·obtain⟨b1,x,y,b2,b3⟩:=hr.cg i cs f hi;refine⟨by rw[qz];omega,x,y,?_,b3⟩;have hne:f≠id:=λe=>hf i cs (e▸hi);unfold H.lay;split
   ·simp only;rw[bm _ _ hne];exact b2
   ·exact b2
 ·rw[Dv,qz];exact hr.y7
 ·intro j x q hx hq;rw[rk] at hx;split at hx
  ·rename_i e;subst e;rw[ej] at hq;cases hq;exact .inl (af _)
  ·exact .inr ⟨j,x,q,hx,(hother j x hx q hq).1,rfl,λh=>h⟩
 ·intro b hb _;exact hold b hb
 ·intro j hj hjn;rw[Dv] at hj;rw[rk,un (by omega)]
 ·intro j hj hn;have hj:j<id:=hj;simp only[up];rw[un (by omega)];exact hn
 ·intro j cs f hj;rw[rk] at hj;split at hj
  ·cases hj;exact .inl (Nat.le_of_eq (hof cs f rfl).symm)
  ·exact .inr ⟨j,cs,hj⟩
def HR.more{σ:Sg}{h:H}{w:World}(hr:HR σ h w)(n:Nat)(hn:h.next<=n):HR σ { h with next:=n } w:=
 ⟨hr.obj,λid hid=>hr.fresh id (ad hn hid),hr.sep,λi cs f hi=>let ⟨a,b⟩:=hr.cg i cs f hi;⟨aa a hn,b⟩,ad hr.y7 hn⟩
def Ext.more{σ σ':Sg}{h h':H}{w w':World}{n:Nat}(hn:h.next<=n)(he:Ext σ σ' { h with next:=n } h' w w'):Ext σ σ' h h' w w':=
 ⟨he.le,ad hn he.next,he.size,he.os,he.tape,he.output,he.Sl,he.frame,he.low,λid h1 h2=>he.same id h1 (aa h2 hn),λid h1 h2=>he.mB id (aa h1 hn) h2,
  λid cs f ho=>(he.dE id cs f ho).imp (λh=>ad hn h) (λh=>h)⟩
def FZ(h:H)(id n:Nat)(o:AO):{ h.lay id o with next:=n }=({ h with next:=n }:H).lay id o:=by unfold H.lay;split<;>rfl
def HR.new{σ:Sg}{h:H}{w w':World}(hr:HR σ h w){r:Nat}{o:AO}{ob:Obj}(hof:∀cs f,o=.cells cs f->f=h.next)
 (hor:OR (up σ h.next ⟨w.heap.size,0,r⟩) o ⟨w.heap.size,0,r⟩ (some ob)) (hw:w'.heap=w.heap.push ob) (e1:w'.os=w.os) (e2:w'.tape=w.tape) (e3:w'.output=w.output):
 HR (up σ h.next ⟨w.heap.size,0,r⟩) { h.lay h.next o with next:=h.next+1 } w'/\Ext σ (up σ h.next ⟨w.heap.size,0,r⟩) h { h.lay h.next o with next:=h.next+1 } w w':=by
 rw[FZ]
 have:=HR.lay (hr.more (h.next+1) (by omega)) (id:=h.next) (o:=o) (ob:=ob) (w':=w') (r:=r) (hr.fresh _ (af _)) (by simp) hr.y7
  (λj cs hj=>by have:=(hr.cg j cs _ hj).1;omega) hof hor hw e1 e2 e3
 exact⟨this.1,this.2⟩
def H5{σ:Sg}{aS:List AV}{vs:List Value}{id b:Nat}{e:TypeId}(hv:VL σ aS vs){c:Array Value}(hc:c.toList.take vs.length=vs):OR σ (.cells aS id) ⟨b,0,c.size⟩ (some (.cells c e (0,0))):=by
 have hlen:vs.length<=c.size:=by
  have:=congrArg List.length hc;simp at this;omega
 refine⟨c,e,rfl,by simp,by have:=hv.1;simp only;omega,?_⟩;intro i a ha;obtain⟨v,h1,h2⟩:=hv.get ha;refine⟨v,?_,h2⟩
 have hi:i<vs.length:=by
  rcases al i vs.length with h | h
  ·exact h
  ·simp[ac h] at h1
 rw[<-hc,ax,ul hi] at h1;simpa using h1
end Go.Ev
