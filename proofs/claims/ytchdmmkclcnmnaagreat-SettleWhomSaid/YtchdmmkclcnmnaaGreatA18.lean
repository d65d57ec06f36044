/- Lemmas of this claim, each with its conditions. -/
import Derived.Test.YtchdmmkclcnmnaaGreatA17
import Derived.Test.YtchdmmkclcnmnaaGreatA7
import Derived.Test.YtchdmmkclcnmnaaGreatProg
import Derived.KernelRfl
import Derived.MapKept
set_option linter.all false
open List (mem_iff_getElem? all_eq_true range)
open Nat (blt)
open List renaming getElem?_eq_getElem -> aa, mem_of_getElem? -> ag, mem_cons_of_mem -> a0, getElem?_take -> a3, mem_cons_self -> a4, mem_append -> a8
open Bool renaming and_eq_true -> ac, or_eq_true -> aR
open Nat renaming le_of_lt -> ad, exists_eq_succ_of_ne_zero -> af, lt_trichotomy -> aj, le_refl -> ap, le_of_ble_eq_true -> ax, zero_add -> ay, zero_le -> a1, le_of_not_lt -> a5, lt_succ_self -> a6, not_lt_zero -> a7
open Option renaming bind_some -> al
open Array renaming toList_append -> a2
namespace Go.Ev
noncomputable section
section
variable {P:Program} {ro:Option Nat}
def aI.mono{all l:List Oper}{st:eB}{K K':eB->Prop}(h:aI P ro all l st K)(hk:∀x,K x->K' x):aI P ro all l st K':=
 λρ0 h0 ast hs=>(h ρ0 h0 ast hs).mono λ_ ⟨x,k1,k2⟩=>⟨x,hk x k1,k2⟩
def x7(P:Program)(ro:Option Nat)(ol:List Oper):Nat->List Oper->eB->(eB->Prop)->Prop
 | _,[],x,K=>K x
 | i,o::l,x,K=>aI P ro (ol.take (i+1)) [o] x λx'=>x7 P ro ol (i+1) l x' K
def ar.wL{id:Nat}{ops:Array Oper}{st:eB}{Q:Ex->eB->Prop}{ol:List Oper}(m fuel:Nat)(F1:(Nat->Prop)->eB)(hol:ops.toList=ol)(hok:(nW 0 ol&&P.follows .mixedOrders)=true) (hgd:(ol.zipIdx.all λp=>match p.1.guard with
 | none=>true
 | some (j,_)=>blt j p.2)=true) (hm:m<ol.length)
 (hanc:((range ol.length).all λi=>blt i m||(range i).all λk=>(Tq ol fuel i).contains k)=true) (h0:Fg st (F1 λ_=>False)) (hn:∀L,(F1 L).n=st.n)
 (hpre:∀L i o,i<m->lS ol L->Tp ol L i o->aI P ro (ol.take (i+1)) [o] (F1 L) λx=>Fg x (F1 λj=>L j\/j=i))
 (htail:x7 P ro ol m (ol.drop m) (F1 λj=>j<m) (Q .normal)):ar P ro (.region id ops true) st Q:=by
 have hgd2:∀(i:Nat) (o:Oper),ol[i]?=some o->∀(j:Nat) (b:Bool),o.guard=some (j,b)->j<i:=by
  intro i o ho j b hg;have:=all_eq_true.1 hgd (o,i) (mem_iff_getElem?.2 ⟨i,by rw[List.getElem?_zipIdx,ho];simp⟩);simp only[hg] at this;exact fW this
 have hA:∀{L:Nat->Prop} {i k:Nat},lS ol L->(∀o,ol[i]?=some o->∀e∈o.after.toList,dep e=true->L e.on)->i<ol.length->m<=i->k<i->L k:=by
  intro L i k hc hd hi hmi hk;have h1:=all_eq_true.1 hanc i (List.mem_range.2 hi);rw[aR] at h1
  rcases h1 with h1 | h1
  ·have:=fW h1;omega
  ·have:=all_eq_true.1 h1 k (List.mem_range.2 hk);exact Ni hc hd k (List.contains_iff_mem.1 this)
 refine ar.any hol hok (.inr hgd2) (λL x=>x.n=st.n/\(∀k,L k->k<ol.length)/\lS ol L/\((¬L m/\Fg x (F1 L))\/∃t,m<t/\t<=ol.length/\(∀k,L k↔k<t)/\x7 P ro ol t (ol.drop t) x (Q .normal))) ⟨rfl,λ_ h=>h.elim,λ_ _ _ h=>h.elim,.inl ⟨λh=>h,h0⟩⟩ (λL x h=>h.1) ?_ ?_
 ·rintro L x i o ⟨hxn,hlt,hc,hx⟩ hr;have hil:i<ol.length:=bD hr.fE;have hlt2:∀k,(L k\/k=i)->k<ol.length:=λk h=>h.elim (hlt k) (λe=>e▸hil)
  have hc2:lS ol (λj=>L j\/j=i):=by
   intro j o' ho' hj e he hd
   rcases hj with hj | rfl
   ·exact .inl (hc j o' ho' hj e he hd)
   ·have:=hr.fE;rw[ho'] at this;cases this;exact .inl (hr.dep e he hd)
  have hdi:∀o',ol[i]?=some o'->∀e∈o'.after.toList,dep e=true->L e.on:=by
   intro o' ho' e he hd;have:=hr.fE;rw[ho'] at this;cases this;exact hr.dep e he hd
  have hdrop:ol.drop i=o::ol.drop (i+1):=by
   rw[List.drop_eq_getElem_cons hil]
   congr 1
   have:=hr.fE;rw[aa hil] at this;exact Option.some.inj this
  rcases hx with⟨hnm,hfg⟩ | ⟨t,hmt,htl,hL,hch⟩
  ·refine aI.fg hfg ?_;by_cases him:i<m
   ·refine aI.mono (aI.num (hpre L i o him hc hr)) ?_;rintro x' ⟨h1,h2⟩;exact⟨by rw[h2,hn],hlt2,hc2,.inl ⟨λh=>h.elim hnm (by omega),h1⟩⟩
   ·have hie:i=m:=by
     refine Decidable.byContradiction λhne=>hnm ?_;exact hA hc hdi hil (by omega) (by omega)
    subst hie
    have hLe:L=λj=>j<i:=by
     funext k;refine propext ⟨λhk=>?_,λhk=>hA hc hdi hil (ap _) hk⟩;refine Decidable.byContradiction λhge=>?_;by_cases e:k=i
     ·subst e;exact hr.new hk
     ·exact hr.new (hA hc (λo' ho'=>hc k o' ho' hk) (hlt k hk) (by omega) (by omega))
    rw[hLe];rw[hdrop,x7] at htail;refine aI.mono (aI.num htail) ?_;rintro x' ⟨h1,h2⟩;refine⟨by rw[h2,hn],λk hk=>hk.elim (λh=>by omega) (λh=>by omega),by rw[hLe] at hc2;exact hc2,.inr ⟨i+1,by omega,hil,λk=>⟨λh=>h.elim (λh=>by omega) (λh=>by omega),λh=>?_⟩,h1⟩⟩;by_cases e:k=i
    ·exact .inr e
    ·exact .inl (by show k<i;omega)
  ·have hit:i=t:=by
    have h1:¬i<t:=λh=>hr.new ((hL i).2 h);refine Decidable.byContradiction λhne=>?_;have:=(hL t).1 (hA hc hdi hil (by omega) (by omega));omega
   subst hit;rw[hdrop,x7] at hch;refine aI.mono (aI.num hch) ?_;rintro x' ⟨h1,h2⟩;refine⟨by rw[h2,hxn],hlt2,hc2,.inr ⟨i+1,by omega,hil,λk=>⟨λh=>h.elim (λh=>by have:=(hL k).1 h;omega) (λh=>by omega),λh=>?_⟩,h1⟩⟩;by_cases e:k=i
   ·exact .inr e
   ·exact .inl ((hL k).2 (by omega))
 ·rintro L x ⟨hxn,hlt,hc,hx⟩ hall
  rcases hx with⟨hnm,_⟩ | ⟨t,hmt,htl,hL,hch⟩
  ·exact t8 (hall m hm) hnm
  ·have:t=ol.length:=by
    refine Decidable.byContradiction λhne=>?_;have:=(hL t).1 (hall t (by omega));omega
   subst this;rw[List.drop_length] at hch;exact hch
end
section
variable {P:Program} {ro:Option Nat}
def PC.body(hng:sY P){g:FuncId}{fn:Func}{c:Code}{args:List SV}{Q:SV->Prop}(hf:P.funcs[g]?=some fn)(hb:fn.body=some c){n:Nat}(hn:args.length+(fn.ntmps-args.length)=n)
 (hw:ar P none c ⟨kj 0 args,n,[],[]⟩ (sf P fn Q)) (hlim:n<=1000000:=by exact Nat.le_of_ble_eq_true rfl):PC P g args Q:=
 .rV hng hf hb hn hlim (hw.mono λe st ⟨h1,h2,h3⟩=>⟨h1,by rw[h2];exact h3⟩)
def SC.body(hng:sY P){g:FuncId}{fn:Func}{c:Code}{args:List SV}{S0:List SO}{mv:List Nat}{Q:SV->List SO->Prop}(hf:P.funcs[g]?=some fn)(hb:fn.body=some c){n:Nat}(hn:args.length+(fn.ntmps-args.length)=n)(hlim:n<=1000000){W:Fm}(hW:W=ov S0.length)
 (hw:ar P none c ⟨kj 0 args++W,n,S0,[]⟩ (MV P fn S0.length mv Q)) (hK:S0.length<=1000000:=by exact Nat.le_of_ble_eq_true rfl):SC P g args S0 mv Q:=
 .rV hng hf hb hn hlim hW hK (hw.mono λe st ⟨h1,h2,h3⟩=>⟨h1,by rw[h2];exact h3⟩)
def Od{ol:List Oper}{L:Nat->Prop}(hb:nW 0 ol=true)(hc:lS ol L){j:Nat}:∀(i:Nat) (o:Oper),ol[i]?=some o->(∀e∈o.after.toList,dep e=true->L e.on)->en ((qC ol []).getD i 0) j=true->L j:=by
 intro i
 induction i using Nat.strongRecOn with
 | _ i ih=>
  intro o ho hd hj;have hlt:=λe he hde=>si hb ho e he hde;simp only[ay] at hlt;obtain⟨e,he,hde,h | h⟩:=IF ho hlt hj
  ·exact h▸hd e he hde
  ·have hl:=hlt e he hde;obtain⟨o',ho'⟩:∃o',ol[e.on]?=some o':=⟨_,aa (Nat.lt_trans hl (bD ho))⟩;exact ih e.on hl o' ho' (hc _ _ ho' (hd e he hde)) h
structure TS where
 b:Bool
 hp:List Nat
 f:Fm
 S:List SO
inductive Ll (P:Program) (all:List Oper) (ms:List Nat) (n i:Nat) (o:Oper):TS->TS->Prop
 | s {b hp f S d}:eP all n [o]=true->o.dst=some d->db all f o.guard=some false->lk o.op=false->Ll P all ms n i o ⟨b,hp,f,S⟩ ⟨b,hp,(d,.a kn)::f,S⟩
 | r {b hp f S d v}:eP all n [o]=true->o.dst=some d->db all f o.guard=some true->pW o.op=true->(∀S2,dA P f S2 o.op=some (v,S2,none))->Ll P all ms n i o ⟨b,hp,f,S⟩ ⟨b,hp,(d,v)::f,S⟩
 | h {hp f S d v}:eP all n [o]=true->o.dst=some d->db all f o.guard=some true->pW o.op=true->dA P f S o.op=some (v,S,none)->Ll P all ms n i o ⟨true,hp,f,S⟩ ⟨true,i::hp,(d,v)::f,S⟩
 | k {hp f S d cl g vs ws r}:eP all n [o]=true->o.op=.call cl->o.dst=some d->db all f o.guard=some true->lj (.call cl)=true->rY o.op=true->gV P f cl=some (g,vs)->PC P g ws (·=r)->bp S vs ws->BU r=true->
  Ll P all ms n i o ⟨true,hp,f,S⟩ ⟨true,hp,(d,r)::f,S⟩
 | e {b hp f S v S'}:eP all n [o]=true->db all f o.guard=some true->rY o.op=true->lk o.op=true->hp.all (λj=>en (ms.getD i 0) j)=true->dA P f S o.op=some (v,S',none)->Ll P all ms n i o ⟨b,hp,f,S⟩ ⟨false,hp,xn f none o.dst v,S'⟩
inductive Tc (P:Program) (all:List Oper) (ms:List Nat) (n:Nat):List (Nat×Oper)->TS->TS->Prop
 | nil {x}:Tc P all ms n [] x x
 | cons {i o l x y z}:Ll P all ms n i o x y->Tc P all ms n l y z->Tc P all ms n ((i,o)::l) x z
def SD(P:Program)(_:Option Nat)(all:List Oper)(ms:List Nat)(n:Nat)(b:Bool)(hp:List Nat)(l:List (Nat×Oper))(f:Fm)(S:List SO)(K:Fm->List SO->Prop):Prop:=∃z,K z.f z.S/\Tc P all ms n l ⟨b,hp,f,S⟩ z
section
variable {all:List Oper} {ms:List Nat} {n:Nat} {b:Bool} {hp:List Nat} {l:List (Nat×Oper)} {f:Fm} {S:List SO} {K:Fm->List SO->Prop} {i:Nat} {o:Oper} {d:Nat}
def SD.nil(h:K f S):SD P ro all ms n b hp [] f S K:=⟨_,h,.nil⟩
theorem SD.s(hst:eP all n [o]=true)(hdst:o.dst=some d)(hw:db all f o.guard=some false)(hwr:lk o.op=false):SD P ro all ms n b hp l ((d,.a kn)::f) S K->SD P ro all ms n b hp ((i,o)::l) f S K:=λ⟨z,k,t⟩=>⟨z,k,.cons (.s hst hdst hw hwr) t⟩
def Kz{α β γ:Type}(a:Option α)(g:α->Option β)(k:β->γ):(a.bind λx=>(g x).map k)=(a.bind g).map k:=by cases a<;>rfl
def QH{S S2:List SO}{op:Op}{v:SV}(hr:pW op=true)(hh:NY op=false)(h:dA P f S op=some (v,S,none)):dA P f S2 op=some (v,S2,none):=by
 have go:∀{α:Type} (q:Option α) (w:α->SV),q.map (λv=>(w v,S,(none:Option Nat)))=some (v,S,none)->q.map (λv=>(w v,S2,(none:Option Nat)))=some (v,S2,none):=by
  rintro _ (_ | q) w h
  ·cases h
  ·cases h;rfl
 cases op<;>first | (simp[pW] at hr;done) | (simp[NY] at hh;done) | (simp only[dA,Kz] at h ⊢;exact go _ _ h) | skip
 case makeFunc g first _=>
  cases g<;>first | (simp[pW] at hr;done) | skip
  all_goals
   simp only[dA] at h ⊢
   cases ha:mY f first.toList with
   | none=>rw[ha] at h;cases h
   | some a=>
    rw[ha] at h;simp only[al] at h ⊢
    first
    | exact go _ _ h
    | cases hb:gY a with
     | none=>rw[hb] at h;cases h
     | some b=>
      rw[hb] at h;simp only[al,Kz] at h ⊢;exact go _ _ h
 case extract x _=>
  simp only[dA] at h ⊢
  cases hx:eF f x with
  | none=>rw[hx] at h;cases h
  | some w=>
   rw[hx] at h
   cases w<;>first | (cases h;done) | exact go _ _ h
theorem SD.r{v:SV}{S':List SO}{kill:Option Nat}(hst:eP all n [o]=true)(hdst:o.dst=some d)(hw:db all f o.guard=some true)(hrr:(pW o.op&&(b||!NY o.op))=true)(hop:dA P f S o.op=some (v,S',kill))
 (hk:SD P ro all ms n b (_root_.cond (NY o.op) (i::hp) hp) l ((d,v)::f) S K):SD P ro all ms n b hp ((i,o)::l) f S K:=by
 rw[ac] at hrr;obtain⟨h1,h2⟩:=hrr;obtain⟨rfl,rfl⟩:=Pa h1 hop;obtain⟨z,k,t⟩:=hk;cases hh:NY o.op
 ·rw[hh] at t;exact⟨z,k,.cons (.r hst hdst hw h1 λS2=>QH h1 hh hop) t⟩
 ·rw[hh] at t h2
  obtain rfl:b=true:=by cases b<;>simp_all
  exact⟨z,k,.cons (.h hst hdst hw h1 hop) t⟩
def SD.ri{tt:TypeId}{x:Operand}{cs0:List SV}{v:SV}(hst:eP all n [o]=true)(hdst:o.dst=some d)(hw:db all f o.guard=some true)(hop:o.op=.load tt x)(hx:eF f x=some (.ip cs0))(hv:tU P tt cs0 0=some v):
 SD P ro all ms n b hp l ((d,v)::f) S K->SD P ro all ms n b hp ((i,o)::l) f S K:=λ⟨z,k,t⟩=>⟨z,k,.cons (.r hst hdst hw (by rw[hop];rfl) λS2=>by rw[hop,dA,hx,al,tI,hv];rfl) t⟩
theorem SD.k{cl:Call}{g:FuncId}{vs ws:List SV}{r:SV}(hst:eP all n [o]=true)(hop:o.op=.call cl)(hdst:o.dst=some d)(hw:db all f o.guard=some true)(hdy:lj (.call cl)=true)(he:rY (.call cl)=true)
 (hc:gV P f cl=some (g,vs)) (hq:PC P g ws (·=r)) (hwk:bp S vs ws) (hr:BU r=true):SD P ro all ms n true hp l ((d,r)::f) S K->SD P ro all ms n true hp ((i,o)::l) f S K:=λ⟨z,k,t⟩=>⟨z,k,.cons (.k hst hop hdst hw hdy (by rw[hop];exact he) hc hq hwk hr) t⟩
theorem SD.e{v:SV}{S':List SO}(hst:eP all n [o]=true)(hdst:o.dst=none)(hw:db all f o.guard=some true)(he:rY o.op=true)(hwr:lk o.op=true)(hms:hp.all (λj=>en (ms.getD i 0) j)=true)(hop:dA P f S o.op=some (v,S',none)):
 SD P ro all ms n false hp l f S' K->SD P ro all ms n b hp ((i,o)::l) f S K:=λ⟨z,k,t⟩=>⟨z,k,.cons (by have:=Ll.e (b:=b) hst hw he hwr hms hop;rw[hdst] at this;exact this) t⟩
end
def SD.ed{all:List Oper}{ms:List Nat}{n:Nat}{b:Bool}{hp:List Nat}{l:List (Nat×Oper)}{f:Fm}{S:List SO}{K:Fm->List SO->Prop}{i:Nat}{o:Oper}{d:Nat}{v:SV}{S':List SO}(hst:eP all n [o]=true)(hdst:o.dst=some d)(hw:db all f o.guard=some true)(he:rY o.op=true)(hwr:lk o.op=true)(hms:hp.all (λj=>en (ms.getD i 0) j)=true)(hop:dA P f S o.op=some (v,S',none)):
 SD P ro all ms n false hp l ((d,v)::f) S' K->SD P ro all ms n b hp ((i,o)::l) f S K:=λ⟨z,k,t⟩=>⟨z,k,.cons (by have:=Ll.e (b:=b) hst hw he hwr hms hop;rw[hdst] at this;exact this) t⟩
def Tc.get{all:List Oper}{ms:List Nat}{n:Nat}:∀{ol:List Oper} {i0:Nat} {x z:TS},Tc P all ms n (e7 i0 ol) x z->∃X:Nat->TS,X i0=x/\X (i0+ol.length)=z/\∀(k:Nat) o,ol[k]?=some o->Ll P all ms n (i0+k) o (X (i0+k)) (X (i0+k+1))
 | [],i0,x,z,h=>by
  rw[e7] at h;cases h;exact⟨λ_=>x,rfl,rfl,λk o h=>by simp at h⟩
 | o::ol,i0,x,z,h=>by
  rw[e7] at h
  cases h with | cons h t=>?_
  obtain⟨X,h1,h2,h3⟩:=Tc.get t;refine⟨λj=>if j=i0 then x else X j,ul rfl,?_,?_⟩
  ·show(if _ then _ else _)=z;rw[List.length_cons,un (by omega),<-h2];congr 1;omega
  ·rintro(_ | k) o' ho
   ·cases ho;show Ll P all ms n i0 o (if _ then _ else _) (if _ then _ else _);rw[Nat.add_zero,ul rfl,un (by omega),h1];exact h
   ·have:=h3 k o' (by simpa using ho);show Ll P all ms n (i0+(k+1)) o' (if _ then _ else _) (if _ then _ else _);rw[un (by omega),un (by omega),show i0+(k+1)=i0+1+k by omega];exact this
def Gz(ol:List Oper)(i:Nat)(a:Oper)(mj:Nat)(b:Oper):Bool:=
 (match b.dst with | some d=>!(decide (a.dst=some d))&&(!(oh ol a).contains d||en mj i) | none=>true)&&(en mj i||(match a.dst with | some d=>!(oh ol b).contains d | none=>true)&&!(rY a.op&&rY b.op))
def GA(all:List Oper)(ms:List Nat):List (Nat×Oper)->Bool
 | []=>true
 | (i,a)::rest=>(match a.dst with | some d=>!(oh all a).contains d | none=>true)&&(match a.guard with | some (j,_)=>blt j i | none=>true)&&rest.all (λq=>Gz all i a (ms.getD q.1 0) q.2)&&GA all ms rest
def OL{all:List Oper}{ms:List Nat}:∀{ol:List Oper} {i0 i:Nat} {o:Oper},GA all ms (e7 i0 ol)=true->ol[i]?=some o->(∀d,o.dst=some d->d∉oh all o)/\(∀j b,o.guard=some (j,b)->j<i0+i)/\∀(k:Nat) o',i<k->ol[k]?=some o'->Gz all (i0+i) o (ms.getD (i0+k) 0) o'=true
 | [],_,_,_,_,h=>by simp at h
 | a::ol,i0,i,o,h,ho=>by
  rw[e7,GA,ac,ac,ac] at h;obtain⟨⟨⟨h1,h2⟩,h3⟩,h4⟩:=h
  cases i with
  | zero=>
   cases ho;refine⟨λd hd=>?_,λj b hg=>?_,λk o' hk hko=>?_⟩
   ·rw[hd] at h1;simpa using h1
   ·rw[hg] at h2;exact fW h2
   ·obtain⟨k,rfl⟩:=af (Nat.ne_of_gt hk);have:=all_eq_true.1 h3 (i0+1+k,o') (mem_iff_getElem?.2 ⟨k,by rw[tO,show ol[k]?=some o' by simpa using hko];rfl⟩);rw[show i0+(k+1)=i0+1+k by omega];exact this
  | succ i=>
   obtain⟨g1,g2,g3⟩:=OL h4 (by simpa using ho);refine⟨g1,λj b hg=>by have:=g2 j b hg;omega,λk o' hk hko=>?_⟩;obtain⟨k,rfl⟩:=af (show k≠0 by omega);have:=g3 k o' (by omega) (by simpa using hko);rw[show i0+(i+1)=i0+1+i by omega,show i0+(k+1)=i0+1+k by omega];exact this
def HT{all:List Oper}{f1 f2:Fm}{o:Oper}(h:∀t∈oh all o,aX f1 t=aX f2 t):db all f1 o.guard=db all f2 o.guard:=by
 unfold oh at h;unfold db;split
 ·rfl
 ·rename_i j w hg;rw[hg] at h
  cases ho:all[j]? with
  | none=>rfl
  | some o'=>
   cases hd:o'.dst with
   | none=>simp[hd]
   | some d=>
    simp only[ho,hd,al] at h ⊢;rw[h d (by simp)]
def Mw{all:List Oper}{f1 f2:Fm}{o:Oper}(h:∀t∈oh all o,aX f1 t=aX f2 t):∀x∈o.op.operands.toList,eF f1 x=eF f2 x:=by
 intro x hx
 cases x with
 | tmp t=>simp only[eF];rw[h t (by unfold oh;exact List.mem_append_left _ (IH (by simpa using hx)))]
 | _=>rfl
def Fo{f1 f2:Fm}{c:Call}(h:∀x∈(Op.call c).operands.toList,eF f1 x=eF f2 x):gV P f1 c=gV P f2 c:=by
 obtain⟨callee,aS,ats⟩:=c
 cases callee with
 | builtin b=>rfl
 | value x=>
  rw[gV,gV];simp only;rw[h x (by simp[Op.operands,Call.operands]),ij (l:=aS.toList) λy hy=>h y (by simp only[Op.operands,Call.operands,a2,a8];exact .inr hy)]
 | invoke x m=>
  rw[gV,gV];simp only;rw[h x (by simp[Op.operands,Call.operands]),ij (l:=aS.toList) λy hy=>h y (by simp only[Op.operands,Call.operands,a2,a8];exact .inr hy)]
def NC{cl:Call}(h:lj (.call cl)=true):lk (.call cl)=false:=by
 obtain⟨callee,aS,ats⟩:=cl
 cases callee<;>first | rfl | (simp[lj] at h;done)
def Pu{b:Bool}(h:b=true->False):b=false:=by cases b<;>simp_all
def Cw{op:Op}(h:pW op=true):lk op=false:=by
 cases op<;>first | rfl | (simp[pW] at h;done) | skip
 rename_i c;obtain⟨callee,aS,ats⟩:=c
 cases callee with
 | builtin b=>cases b<;>first | rfl | (simp[pW] at h;done)
 | _=>rfl
def Ll.out{all:List Oper}{ms:List Nat}{n i:Nat}{o:Oper}{x y:TS}(h:Ll P all ms n i o x y):eP all n [o]=true/\(∀t,o.dst≠some t->aX y.f t=aX x.f t)/\(lk o.op=false->y.S=x.S)/\(y.b=true->x.b=true/\lk o.op=false)/\(∀j∈x.hp,j∈y.hp)/\(lk o.op=true->x.hp.all (λj=>en (ms.getD i 0) j)=true/\rY o.op=true):=by
 have put:∀{f:Fm} {d:Nat} {v:SV},o.dst=some d->∀t,o.dst≠some t->aX ((d,v)::f) t=aX f t:=λ{f d v} hd t ht=>by
  show(if d=t then v else aX f t)=_;rw[un λe=>ht (by rw[hd,e])]
 have no:lk o.op=false->lk o.op=true->x.hp.all (λj=>en (ms.getD i 0) j)=true/\rY o.op=true:=λh h2=>by rw[h] at h2;cases h2
 cases h with
 | s h1 h2 h3 h4=>exact⟨h1,put h2,λ_=>rfl,λh=>⟨h,h4⟩,λ_ h=>h,no h4⟩
 | r h1 h2 h3 h4=>exact⟨h1,put h2,λ_=>rfl,λh=>⟨h,Cw h4⟩,λ_ h=>h,no (Cw h4)⟩
 | h h1 h2 h3 h4=>exact⟨h1,put h2,λ_=>rfl,λh=>⟨h,Cw h4⟩,λ_ h=>a0 _ h,no (Cw h4)⟩
 | k h1 h0 h2 h3 h4=>
  have hk:lk o.op=false:=by rw[h0];exact NC h4
  exact⟨h1,put h2,λ_=>rfl,λh=>⟨h,hk⟩,λ_ h=>h,no hk⟩
 | e h1 h3 h4 h5 h6=>
  refine⟨h1,λt ht=>?_,λh=>(by rw[h] at h5;cases h5),λh=>(by cases h),λ_ h=>h,λ_=>⟨h6,h4⟩⟩
  cases hd:o.dst with
  | none=>rfl
  | some d=>exact put hd t ht
def pv(L:Nat->Prop)(i:Nat)(v w:SV):SV:=@ite _ (L i) (Classical.propDecidable _) v w
def z7{L:Nat->Prop}{i:Nat}{v w:SV}(h:L i):pv L i v w=v:=ul h
def DR{L:Nat->Prop}{i:Nat}{v w:SV}(h:¬L i):pv L i v w=w:=un h
def oA(L:Nat->Prop)(f f':Fm):Nat->List Oper->Fm
 | _,[]=>f
 | i,o::l=>match o.dst with
  | some d=>(d,pv L i (aX f' d) (aX f d))::oA L f f' (i+1) l
  | none=>oA L f f' (i+1) l
def oB{f f':Fm}{L:Nat->Prop}{t:Nat}:∀{l:List Oper} {i:Nat},(∀o∈l,o.dst≠some t)->aX (oA L f f' i l) t=aX f t
 | [],_,_=>rfl
 | o::l,i,h=>by
  rw[oA];have ih:=oB (f:=f) (f':=f') (L:=L) (l:=l) (i:=i+1) λo' ho'=>h o' (a0 _ ho')
  cases hd:o.dst with
  | none=>exact ih
  | some d=>
   show(if d=t then _ else aX (oA L f f' (i+1) l) t)=_;rw[un λe=>h o a4 (by rw[hd,e])];exact ih
def Kg{f f':Fm}{L:Nat->Prop}{t:Nat}:∀{l:List Oper} {i k:Nat} {o:Oper},(∀(j:Nat) o',l[j]?=some o'->o'.dst=some t->j=k)->l[k]?=some o->o.dst=some t->aX (oA L f f' i l) t=pv L (i+k) (aX f' t) (aX f t)
 | [],_,k,o,_,h,_=>by simp at h
 | o0::l,i,0,o,hn,h,ht=>by
  simp only[List.getElem?_cons_zero,Option.some.injEq] at h;subst h;rw[oA,ht];show(if t=t then _ else _)=_;rw[ul rfl];rfl
 | o0::l,i,k+1,o,hn,h,ht=>by
  simp only[List.getElem?_cons_succ] at h;have ih:=Kg (L:=L) (f:=f) (f':=f') (i:=i+1) (λj o' hj hd=>Nat.succ.inj (hn (j+1) o' hj hd)) h ht;rw[show i+(k+1)=i+1+k by omega];rw[oA]
  cases hd:o0.dst with
  | none=>exact ih
  | some d=>
   show(if d=t then _ else aX (oA L f f' (i+1) l) t)=_;rw[un λe=>Nat.noConfusion (hn 0 o0 rfl (by rw[hd,e]))];exact ih
def ar.NB{id:Nat}{ops:Array Oper}{st:eB}{Q:Ex->eB->Prop}{ol:List Oper}{ms:List Nat}(hol:ops.toList=ol)(hms:qC ol []=ms)(hok:((nW 0 ol&&P.follows .mixedOrders)&&GA ol ms (e7 0 ol))=true)
 (h:SD P ro ol ms st.n true [] (e7 0 ol) st.f st.S λf' S'=>Q .normal ⟨f',st.n,S',st.ds⟩):ar P ro (.region id ops true) st Q:=by
 obtain⟨f,n,S,ds⟩:=st;rw[ac] at hok;obtain⟨hbk,hpr⟩:=hok;have hback:=hbk;rw[ac] at hback;obtain⟨z,hz,ht⟩:=h;obtain⟨X,hX0,hXN,hX⟩:=ht.get;simp only[ay] at hXN hX;have hP:=λ{i:Nat} {o:Oper} (ho:ol[i]?=some o)=>OL hpr ho;simp only[ay] at hP
 have hF:∀(k m t:Nat),k<=m->m<=ol.length->(∀j o,k<=j->j<m->ol[j]?=some o->o.dst≠some t)->aX (X m).f t=aX (X k).f t:=by
  intro k m t hkm
  induction hkm with
  | refl=>exact λ_ _=>rfl
  | step hkm ih=>
   rename_i m;intro hm hno;have hoj:ol[m]?=some (ol[m]'hm):=aa hm;rw[(hX m _ hoj).out.2.1 t (hno m _ hkm (a6 _) hoj)];exact ih (ad hm) λj o h1 h2=>hno j o h1 (by omega)
 have hS:∀(k m:Nat),k<=m->m<=ol.length->(∀j o,k<=j->j<m->ol[j]?=some o->lk o.op=false)->(X m).S=(X k).S:=by
  intro k m hkm
  induction hkm with
  | refl=>exact λ_ _=>rfl
  | step hkm ih=>
   rename_i m;intro hm hno;have hoj:ol[m]?=some (ol[m]'hm):=aa hm;rw[(hX m _ hoj).out.2.2.1 (hno m _ hkm (a6 _) hoj)];exact ih (ad hm) λj o h1 h2=>hno j o h1 (by omega)
 have hB:∀(m:Nat),m<=ol.length->(X m).b=true->∀j o,j<m->ol[j]?=some o->lk o.op=false:=by
  intro m
  induction m with
  | zero=>exact λ_ _ j o h=>t8 h (a7 _)
  | succ m ih=>
   intro hm hb j o hj ho;obtain⟨h1,h2⟩:=(hX m _ (aa hm)).out.2.2.2.1 hb;by_cases e:j=m
   ·subst e;rw[aa hm] at ho;cases ho;exact h2
   ·exact ih (ad hm) h1 j o (by omega) ho
 have hH:∀(k m j:Nat),k<=m->m<=ol.length->j∈(X k).hp->j∈(X m).hp:=by
  intro k m j hkm
  induction hkm with
  | refl=>exact λ_ h=>h
  | step hkm ih=>
   intro hm hj;exact(hX _ _ (aa hm)).out.2.2.2.2.1 j (ih (ad hm) hj)
 have hu:∀{j k:Nat} {a b:Oper} {t:Nat},ol[j]?=some a->ol[k]?=some b->a.dst=some t->b.dst=some t->j=k:=by
  have one:∀{j k:Nat} {a b:Oper} {t:Nat},ol[j]?=some a->ol[k]?=some b->a.dst=some t->b.dst=some t->¬j<k:=by
   intro j k a b t hj hk ha hb hlt;have:=(hP hj).2.2 k b hlt hk;unfold Gz at this;rw[hb] at this;simp[ha] at this
  intro j k a b t hj hk ha hb;exact Nat.le_antisymm (a5 (one hk hj hb ha)) (a5 (one hj hk ha hb))
 have hin:∀{L:Nat->Prop} {k:Nat} {o:Oper} {t:Nat},ol[k]?=some o->o.dst=some t->aX (oA L f z.f 0 ol) t=pv L k (aX z.f t) (aX f t):=by
  intro L k o t hk ht;rw[Kg (λj o' hj hd=>hu hj hk hd ht) hk ht,ay]
 have hgd:∀(i:Nat) (o:Oper),ol[i]?=some o->∀(j:Nat) (b:Bool),o.guard=some (j,b)->j<i:=λi o ho=>(hP ho).2.1;refine ar.post (ar.any hol hbk (.inr hgd) (λL x=>x.n=n/\lS ol L/\∃m,m<=ol.length/\(∀j o,ol[j]?=some o->lk o.op=true->(L j↔j<m))/\Fg x ⟨oA L f z.f 0 ol,n,(X m).S,ds⟩) ?_ (λL x h=>h.1) ?_ ?_)
 ·refine⟨rfl,λ_ _ _ h=>h.elim,0,a1 _,λj o _ _=>⟨λh=>h.elim,λh=>t8 h (a7 _)⟩,?_⟩;rw[hX0];refine Fg.tmps λt=>?_;by_cases hno:∀o∈ol,o.dst≠some t
  ·exact .inl (oB hno)
  ·simp only[ne_eq,Classical.not_forall,Decidable.not_not] at hno;obtain⟨o,ho,hd⟩:=hno;obtain⟨k,hk⟩:=mem_iff_getElem?.1 ho;left;rw[hin hk hd];exact DR λh=>h
 ·rintro L x i o ⟨hxn,hc,m,hml,hm,hx⟩ hr;have ho:=hr.fE;have hil:=bD ho;obtain⟨p1,p2,p3⟩:=hP ho
  have hc2:lS ol (λj=>L j\/j=i):=by
   intro j o' ho' hj e he hd
   rcases hj with hj | rfl
   ·exact .inl (hc j o' ho' hj e he hd)
   ·rw[ho'] at ho;cases ho;exact .inl (hr.dep e he hd)
  have hA:∀k,en (ms.getD i 0) k=true->L k:=λk hk=>Od hback.1 hc i o ho hr.dep (by rw[hms];exact hk);have hA2:∀j o' k,ol[j]?=some o'->L j->en (ms.getD j 0) k=true->L k:=λj o' k hj hl hk=>Od hback.1 hc j o' hj (hc j o' hj hl) (by rw[hms];exact hk)
  have hlook:∀t∈oh ol o,aX (oA L f z.f 0 ol) t=aX (X i).f t:=by
   intro t hlt;by_cases hno:∀o∈ol,o.dst≠some t
   ·rw[oB hno,hF 0 i t (a1 _) (ad hil) λj o' _ _ hj=>hno o' (ag hj),hX0]
   ·simp only[ne_eq,Classical.not_forall,Decidable.not_not] at hno;obtain⟨o',ho',hd⟩:=hno;obtain⟨j,hj⟩:=mem_iff_getElem?.1 ho'
    rcases aj j i with hji | rfl | hji
    ·have h1:=(hP hj).2.2 i o hji ho;unfold Gz at h1;rw[hd,ac] at h1
     have hbit:en (ms.getD i 0) j=true:=by
      have h2:=h1.2;rw[aR] at h2
      rcases h2 with h2 | h2
      ·exact h2
      ·simp[hlt] at h2
     rw[hin hj hd,z7 (hA j hbit),<-hXN]
     exact hF i ol.length t (ad hil) (ap _) λk b hik _ hk e=>by have:=hu hj hk hd e;omega
    ·rw[hj] at ho;cases ho;exact t8 hlt (p1 t hd)
    ·have h1:=p3 j o' hji hj;unfold Gz at h1;rw[hd,ac,ac,aR] at h1;have h2:=h1.1.2.resolve_left (by simp[hlt]);rw[hin hj hd,DR λhl=>hr.new (hA2 j o' i hj hl h2)]
     have h3:=hF 0 i t (a1 _) (ad hil) λk b _ hki hk e=>by have:=hu hj hk hd e;omega
     rw[hX0] at h3;exact h3.symm
  have hwant:=HT hlook;have hops:=Mw hlook
  have htake:∀g:Option (Nat×Bool),o.guard=g->db (ol.take (i+1)) (oA L f z.f 0 ol) g=db ol (X i).f g:=by
   intro g hg;rw[<-hg,<-hwant,hg]
   cases g with
   | none=>rfl
   | some q=>obtain⟨j,w⟩:=q;simp only[db];rw[a3,ul (by have:=p2 j w hg;omega)]
  have hst:eP (ol.take (i+1)) n [o]=true:=by
   have:=(hX i o ho).out.1;unfold eP at this ⊢;simp only[List.all_cons,List.all_nil,Bool.and_true] at this ⊢
   cases hg:o.guard with
   | none=>rw[hg] at this;exact this
   | some q=>obtain⟨j,w⟩:=q;rw[hg] at this;simp only at this ⊢;rw[a3,ul (by have:=p2 j w hg;omega)];exact this
  have hSS:(∀j o',ol[j]?=some o'->lk o'.op=true->(L j↔j<i))->(X m).S=(X i).S:=by
   intro hh
   rcases Nat.le_total i m with him | him
   ·exact hS i m him hml λj o' h1 h2 hj=>Pu λe=>by have a:=hh j o' hj e;have b:=hm j o' hj e;have:=a.1 (b.2 h2);omega
   ·exact(hS m i him (ad hil) λj o' h1 h2 hj=>Pu λe=>by have a:=hh j o' hj e;have b:=hm j o' hj e;have:=b.1 (a.2 h2);omega).symm
  have hlate:(X i).b=true->(∀j o',i<j->ol[j]?=some o'->lk o'.op=true->en (ms.getD j 0) i=true)->(X m).S=(X i).S:=by
   intro hb hh;refine hSS λj o' hj hd=>⟨λhl=>?_,λhlt=>t8 hd (by rw[hB i (ad hil) hb j o' hlt hj];simp)⟩
   rcases aj j i with h1 | rfl | h1
   ·exact h1
   ·exact t8 hl hr.new
   ·exact t8 (hA2 j o' i hj hl (hh j o' h1 hj hd)) hr.new
  refine aI.fg hx ?_
  have layF:∀{v:SV},(∀d,o.dst=some d->aX (X (i+1)).f d=v)->∀t,aX (oA (λj=>L j\/j=i) f z.f 0 ol) t=aX (xn (oA L f z.f 0 ol) none o.dst v) t:=by
   intro v hv t
   have hr:aX (xn (oA L f z.f 0 ol) none o.dst v) t=if o.dst=some t then v else aX (oA L f z.f 0 ol) t:=by
    cases o.dst with
    | none=>rw[un nofun];rfl
    | some d=>
     show(if d=t then v else _)=_;simp only[Option.some.injEq,jS]
   rw[hr];by_cases hno:∀o∈ol,o.dst≠some t
   ·rw[oB hno,un (hno o (ag ho)),oB hno]
   ·simp only[ne_eq,Classical.not_forall,Decidable.not_not] at hno;obtain⟨o',ho',hd'⟩:=hno;obtain⟨k,hk⟩:=mem_iff_getElem?.1 ho';rw[hin hk hd',hin hk hd'];by_cases hki:k=i
    ·subst hki;rw[ho] at hk;cases hk;rw[ul hd',z7 (.inr rfl),<-hv t hd',<-hXN]
     exact hF (k+1) ol.length _ hil (ap _) λj b h1 _ hj e=>by have:=hu hj ho e hd';omega
    ·rw[un λe=>hki (hu hk ho hd' e)];by_cases hlk:L k
     ·rw[z7 hlk,z7 (.inl hlk)]
     ·rw[DR hlk,DR λh=>h.elim hlk hki]
  have lay:∀{d:Nat} {v:SV},o.dst=some d->lk o.op=false->aX (X (i+1)).f d=v->(λx=>(λx=>x.n=n/\lS ol (λj=>L j\/j=i)/\∃m,m<=ol.length/\(∀j o,ol[j]?=some o->lk o.op=true->((L j\/j=i)↔j<m))/\Fg x ⟨oA (λj=>L j\/j=i) f z.f 0 ol,n,(X m).S,ds⟩) x) ⟨(d,v)::oA L f z.f 0 ol,n,(X m).S,ds⟩:=by
   intro d v hd hwr hv;refine⟨rfl,hc2,m,hml,λj o' hj hdj=>⟨λh=>?_,λh=>.inl ((hm j o' hj hdj).2 h)⟩,Fg.tmps λt=>.inl ?_⟩
   ·rcases h with h | rfl
    ·exact(hm j o' hj hdj).1 h
    ·rw[ho] at hj;cases hj;rw[hwr] at hdj;cases hdj
   ·rw[layF (v:=v) (λd' e=>by rw[hd] at e;cases e;exact hv) t,hd];rfl
  have hstp:=hX i o ho;have top:∀{d:Nat} {v:SV} {f:Fm},aX ((d,v)::f) d=v:=λ{d v f}=>ul rfl;have hXi:∃x,X i=x:=⟨_,rfl⟩;have hXj:∃x,X (i+1)=x:=⟨_,rfl⟩;obtain⟨xi,hxi⟩:=hXi;obtain⟨xj,hxj⟩:=hXj;rw[hxi,hxj] at hstp
  cases hstp with
  | s _ hd hw hwr=>
   refine aI.run (l':=[]) hst ?_ (.nil (lay (v:=.a kn) hd hwr (by rw[hxj];exact top)));rw[oW,htake _ rfl,hxi,hw];simp only[hd,oW]
  | r _ hd hw hrd hop=>
   rename_i v _;refine aI.run (l':=[]) hst ?_ (.nil (lay (v:=v) hd (Cw hrd) (by rw[hxj];exact top)));rw[oW,htake _ rfl,hxi,hw,vP (by rw[hrd];rfl) hops,hxi,hop];simp only[hd,xn,jS,oW]
  | h _ hd hw hrd hop=>
   rename_i v _
   have e:=hlate (by rw[hxi]) λj o' hij hj hdj=>by
    have h1:=(hX j o' hj).out.2.2.2.2.2 hdj;exact all_eq_true.1 h1.1 i (hH (i+1) j i hij (ad (bD hj)) (by rw[hxj];exact a4))
   rw[hxi] at e;refine aI.run (l':=[]) hst ?_ (.nil (lay (v:=v) hd (Cw hrd) (by rw[hxj];exact top)));rw[oW,htake _ rfl,hxi,hw,vP (by rw[hrd];rfl) hops,hxi,e,hop];simp only[hd,xn,jS,oW]
  | k _ hop hd hw hdy he hcs hq hwk hfl=>
   have hkw:lk o.op=false:=by rw[hop];exact NC hdy
   have e:=hlate (by rw[hxi]) λj o' hij hj hdj=>by
    have h1:=p3 j o' hij hj;unfold Gz at h1;rw[ac] at h1;have h2:=h1.2;rw[he,((hX j o' hj).out.2.2.2.2.2 hdj).2] at h2;simpa using h2
   rw[hxi] at e;refine aI.k hst hop hd (by rw[htake _ rfl,hxi];exact hw) hdy (by rw[Fo (by rw[<-hop];exact hops),hxi];exact hcs) hq (by rw[e];exact hwk) (.inl hfl) (.nil (lay hd hkw (by rw[hxj];exact top)))
  | e _ hw he hwr _ hop=>
   have hb:∀j o',ol[j]?=some o'->lk o'.op=true->(L j↔j<i):=by
    intro j o' hj hdj;have heff:=((hX j o' hj).out.2.2.2.2.2 hdj).2
    rcases aj j i with h1 | rfl | h1
    ·refine⟨λ_=>h1,λ_=>hA j ?_⟩;have h2:=(hP hj).2.2 i o h1 ho;unfold Gz at h2;rw[ac] at h2;have h2:=h2.2;rw[he,heff] at h2;simpa using h2
    ·exact⟨λh=>t8 h hr.new,λh=>t8 h (Nat.lt_irrefl _)⟩
    ·refine⟨λhl=>?_,λh=>t8 h (by omega)⟩;have h2:=p3 j o' h1 hj;unfold Gz at h2;rw[ac] at h2;have h2:=h2.2;rw[he,heff] at h2;exact t8 (hA2 j o' i hj hl (by simpa using h2)) hr.new
   have e:=hSS hb;rw[hxi] at e;rename_i v S' _ _;refine aI.run (l':=[]) (f':=xn (oA L f z.f 0 ol) none o.dst v) (S':=(X (i+1)).S) hst ?_ (.nil ⟨rfl,hc2,i+1,hil,λj o' hj hdj=>?_,Fg.tmps λt=>.inl (layF (λd e=>?_) t)⟩)
   ·rw[oW,htake _ rfl,hxi,hw,vP (by rw[hwr,Bool.or_true]) hops,hxi,e,hop,hxj];simp only[oW]
   ·refine⟨λh=>?_,λh=>?_⟩
    ·rcases h with h | rfl
     ·have:=(hb j o' hj hdj).1 h;omega
     ·omega
    ·by_cases e:j=i
     ·exact .inr e
     ·exact .inl ((hb j o' hj hdj).2 (by omega))
   ·rw[hxj,e];exact top
 ·rintro L x ⟨hxn,hc,m,hml,hm,hx⟩ hall
  have hSe:(X m).S=z.S:=by
   rw[<-hXN];exact(hS m ol.length hml (ap _) λj o h1 h2 hj=>Pu λe=>by have:=(hm j o hj e).1 (hall j h2);omega).symm
  rw[hSe] at hx;refine⟨⟨z.f,n,z.S,ds⟩,hx.trans (Fg.tmps λt=>.inl ?_),hz⟩;by_cases hno:∀o∈ol,o.dst≠some t
  ·rw[oB hno,<-hXN,hF 0 ol.length t (a1 _) (ap _) λj o' _ _ hj=>hno o' (ag hj),hX0]
  ·simp only[ne_eq,Classical.not_forall,Decidable.not_not] at hno;obtain⟨o',ho',hd'⟩:=hno;obtain⟨k,hk⟩:=mem_iff_getElem?.1 ho';rw[hin hk hd',z7 (hall k (bD hk))]
end
end
end Go.Ev
namespace Go.Proofs
open Go.Ev
set_option maxRecDepth 100000
def dG:sY Tryz.prog:=Qm (by kernel_rfl)
set_option maxHeartbeats 4000000 in
def HN:AX Tryz.prog 151 .clone:=AX.clone λt r es ck w h=>by
 rw[run_callFunc_extern Tryz.func151 (by kernel_rfl) (by kernel_rfl) (by kernel_rfl) (e:=Extern.MapsClone.clone) (by kernel_rfl)]
 have e:∃s:String,Extern.MapsClone.clone #[.iface t (.map (some r))]=(getObj r>>=λo=>match o with
  | .map entries clock=>(newObj (.map entries clock)>>=λn=>pure (.iface t (.map (some n))))
  | _=>stuck s):=⟨_,rfl⟩
 obtain⟨s,e⟩:=e;rw[e];simp[MapKept.run_getObj_map h,Result.andThen,go_sem]
set_option maxHeartbeats 4000000 in
def HO:AX Tryz.prog 217 .indexByte:=AX.indexByte λx c w=>by
 rw[run_callFunc_extern Tryz.func217 (by kernel_rfl) (by kernel_rfl) (by kernel_rfl) (e:=Extern.BytealgIndexByte.indexByte) (by kernel_rfl),Lib.run_indexByteString];rfl
end Go.Proofs
