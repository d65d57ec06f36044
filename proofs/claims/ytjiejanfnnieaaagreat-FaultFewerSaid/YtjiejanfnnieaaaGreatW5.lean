/- Lemmas of this claim, each with its conditions. -/
import Derived.Test.YtjiejanfnnieaaaGreatW4
import Derived.Test.YtjiejanfnnieaaaGreatW3
import Derived.Test.YtjiejanfnnieaaaGreatW2
import Derived.Test.YtjiejanfnnieaaaGreatProg
import Derived.KernelRfl
import Derived.MapKept
import Derived.Shelf.Bits.Mul64
set_option linter.all false
set_option maxHeartbeats 8000000
open Go.Proofs.Tryz (prog func357)
open Nat (ble beq blt)
open List (mem_iff_getElem? all_eq_true)
open Nat renaming reduceEqDiff -> aa, reduceLeDiff -> ac, reduceAdd -> ad, reduceMul -> af, reduceLT -> aj, le_refl -> am, le_of_lt -> ax, lt_succ_self -> aV, not_lt_zero -> a0, exists_eq_succ_of_ne_zero -> be, lt_trichotomy -> bs, reduceSub -> ce, eq_of_beq_eq_true -> cf, zero_le -> cg, le_of_not_lt -> ch, mul_one -> ck, zero_add -> c6, le_total -> d9, zero_lt_succ -> ef, add_zero -> ey, lt_trans -> eN
open Bool renaming and_eq_true -> al, not_true -> bv, and_false -> ca, false_and -> cc, and_true -> cn, false_or -> co, true_and -> cp, or_true -> dt, or_eq_true -> d2, true_or -> d5, decide_and -> el
open List renaming getElem?_map -> ap, mem_of_find?_eq_some -> aL, mem_cons_of_mem -> aW, drop_length -> bi, mem_cons_self -> bk, set_eq_take_append_cons_drop -> bB, replicate -> cd, mem_of_getElem? -> ci, drop_eq_getElem_cons -> ct, range -> cv, find?_eq_none -> dd, getElem?_cons_succ -> dl, drop_of_length_le -> dv, take_of_length_le -> dE, length_set -> d3, mem_append -> d4, getElem?_range -> d6, getElem?_take -> d7, flatMap_cons -> d8, find?_some -> em, length_map -> er, all_cons -> es
open And renaming intro -> ay
open Array renaming toList_append -> dc
namespace Go.Ev
noncomputable section
section
variable {P:Program} {ro:Option Nat}
def PC.body(hng:sE P){g:FuncId}{fn:Func}{c:Code}{args:List SV}{Q:SV->Prop}(hf:P.funcs[g]?=some fn)(hb:fn.body=some c){n:Nat}(hn:args.length+(fn.ntmps-args.length)=n)
 (hw:aF P none c ⟨kL 0 args,n,[],[]⟩ (A8 P fn Q)) (hlim:n<=1000000:=by exact md rfl):PC P g args Q:=
 .sN hng hf hb hn hlim (hw.mono λe st ⟨h1,h2,h3⟩=>⟨h1,by rw[h2];exact h3⟩)
def SC.body(hng:sE P){g:FuncId}{fn:Func}{c:Code}{args:List SV}{S0:List SO}{mv:List Nat}{Q:SV->List SO->Prop}(hf:P.funcs[g]?=some fn)(hb:fn.body=some c){n:Nat}(hn:args.length+(fn.ntmps-args.length)=n)(hlim:n<=1000000){W:Fm}(hW:W=nZ S0.length)
 (hw:aF P none c ⟨kL 0 args++W,n,S0,[]⟩ (Kw P fn S0.length mv Q)) (hK:S0.length<=1000000:=by exact md rfl):SC P g args S0 mv Q:=
 .sN hng hf hb hn hlim hW hK (hw.mono λe st ⟨h1,h2,h3⟩=>⟨h1,by rw[h2];exact h3⟩)
variable{ol:List Oper}
def HX{L:Nat->Prop}(hb:jx 0 ol=true)(hc:lJ ol L){j:Nat}:∀(i:Nat) (o:Oper),ol[i]?=some o->(∀e∈o.after.toList,dep e=true->L e.on)->bM ((mJ ol []).getD i 0) j=true->L j:=by
 intro i
 induction i using Nat.strongRecOn with
 | _ i ih=>
  intro o ho hd hj;have hlt:=λe he hde=>pa hb ho e he hde;simp only[c6] at hlt;obtain⟨e,he,hde,h | h⟩:=HY ho hlt hj
  ·exact h▸hd e he hde
  ·have hl:=hlt e he hde;obtain⟨o',ho'⟩:∃o',ol[e.on]?=some o':=⟨_,jp (eN hl (br ho))⟩;exact ih e.on hl o' ho' (hc _ _ ho' (hd e he hde)) h
def JO{α β γ:Type}(a:Option α)(g:α->Option β)(k:β->γ):(a.bind λx=>(g x).map k)=(a.bind g).map k:=by cases a<;>rfl
variable{op:Op}
def Qv{f:Fm}{S S2:List SO}{v:SV}(hr:jP op=true)(hh:HQ op=false)(h:dx P f S op=some (v,S,none)):dx P f S2 op=some (v,S2,none):=by
 have go:∀{α:Type} (q:Option α) (w:α->SV),q.map (λv=>(w v,S,(none:Option Nat)))=some (v,S,none)->q.map (λv=>(w v,S2,(none:Option Nat)))=some (v,S2,none):=by
  rintro _ (_ | q) w h
  ·cases h
  ·cases h;rfl
 cases op<;>first | (simp[jP] at hr;done) | (simp[HQ] at hh;done) | (simp only[dx,JO] at h ⊢;exact go _ _ h) | skip
 case makeFunc g first _=>
  cases g<;>first | (simp[jP] at hr;done) | skip
  all_goals
   simp only[dx] at h ⊢
   cases ha:pL f first.toList with
   | none=>rw[ha] at h;cases h
   | some a=>
    rw[ha] at h;simp only[m7] at h ⊢
    first
    | exact go _ _ h
    | cases hb:iO a with
     | none=>rw[hb] at h;cases h
     | some b=>
      rw[hb] at h;simp only[m7,JO] at h ⊢;exact go _ _ h
 case extract x _=>
  simp only[dx] at h ⊢
  cases hx:eO f x with
  | none=>rw[hx] at h;cases h
  | some w=>
   rw[hx] at h
   cases w<;>first | (cases h;done) | exact go _ _ h
def N4(ol:List Oper)(i:Nat)(a:Oper)(mj:Nat)(b:Oper):Bool:=
 (match b.dst with | some d=>!(decide (a.dst=some d))&&(!(iI ol a).contains d||bM mj i) | none=>true)&&(bM mj i||(match a.dst with | some d=>!(iI ol b).contains d | none=>true)&&!(tn a.op&&tn b.op))
def vG(all:List Oper)(ms:List Nat):List (Nat×Oper)->Bool
 | []=>true
 | (i,a)::rest=>(match a.dst with | some d=>!(iI all a).contains d | none=>true)&&(match a.guard with | some (j,_)=>blt j i | none=>true)&&rest.all (λq=>N4 all i a (ms.getD q.1 0) q.2)&&vG all ms rest
def N5{all:List Oper}{ms:List Nat}:∀{ol:List Oper} {i0 i:Nat} {o:Oper},vG all ms (cw i0 ol)=true->ol[i]?=some o->(∀d,o.dst=some d->d∉iI all o)/\(∀j b,o.guard=some (j,b)->j<i0+i)/\∀(k:Nat) o',i<k->ol[k]?=some o'->N4 all (i0+i) o (ms.getD (i0+k) 0) o'=true
 | [],_,_,_,_,h=>by simp at h
 | a::ol,i0,i,o,h,ho=>by
  rw[cw,vG,al,al,al] at h;obtain⟨⟨⟨h1,h2⟩,h3⟩,h4⟩:=h
  cases i with
  | zero=>
   cases ho;refine⟨λd hd=>?_,λj b hg=>?_,λk o' hk hko=>?_⟩
   ·rw[hd] at h1;simpa using h1
   ·rw[hg] at h2;exact fK h2
   ·obtain⟨k,rfl⟩:=be (Nat.ne_of_gt hk);have:=all_eq_true.1 h3 (i0+1+k,o') (mem_iff_getElem?.2 ⟨k,by rw[jJ,show ol[k]?=some o' by simpa using hko];rfl⟩);rw[show i0+(k+1)=i0+1+k by omega];exact this
  | succ i=>
   obtain⟨g1,g2,g3⟩:=N5 h4 (by simpa using ho);refine⟨g1,λj b hg=>by have:=g2 j b hg;omega,λk o' hk hko=>?_⟩;obtain⟨k,rfl⟩:=be (show k≠0 by omega);have:=g3 k o' i4 (by simpa using hko);rw[show i0+(i+1)=i0+1+i by omega,show i0+(k+1)=i0+1+k by omega];exact this
variable{all:List Oper}
def Ha{f1 f2:Fm}{o:Oper}(h:∀t∈iI all o,aJ f1 t=aJ f2 t):bX all f1 o.guard=bX all f2 o.guard:=by
 unfold iI at h;unfold bX;split
 ·rfl
 ·rename_i j w hg;rw[hg] at h
  cases ho:all[j]? with
  | none=>rfl
  | some o'=>
   cases hd:o'.dst with
   | none=>simp[hd]
   | some d=>
    simp only[ho,hd,m7] at h ⊢;rw[h d ge]
def LF{f1 f2:Fm}{o:Oper}(h:∀t∈iI all o,aJ f1 t=aJ f2 t):∀x∈o.op.operands.toList,eO f1 x=eO f2 x:=by
 intro x hx
 cases x with
 | tmp t=>simp only[eO];rw[h t (by unfold iI;exact List.mem_append_left _ (HZ (by simpa using hx)))]
 | _=>rfl
def EE{f1 f2:Fm}{c:Call}(h:∀x∈(Op.call c).operands.toList,eO f1 x=eO f2 x):iD P f1 c=iD P f2 c:=by
 obtain⟨callee,aS,ats⟩:=c
 cases callee with
 | builtin b=>rfl
 | value x=>
  rw[iD,iD];simp only;rw[h x (by simp[Op.operands,Call.operands]),gb (l:=aS.toList) λy hy=>h y (by simp only[Op.operands,Call.operands,dc,d4];exact .inr hy)]
 | invoke x m=>
  rw[iD,iD];simp only;rw[h x (by simp[Op.operands,Call.operands]),gb (l:=aS.toList) λy hy=>h y (by simp only[Op.operands,Call.operands,dc,d4];exact .inr hy)]
def RA{cl:Call}(h:fE (.call cl)=true):tp (.call cl)=false:=by
 obtain⟨callee,aS,ats⟩:=cl
 cases callee<;>first | rfl | (simp[fE] at h;done)
def Kv{b:Bool}(h:b=true->False):b=false:=by cases b<;>simp_all
def S6(h:jP op=true):tp op=false:=by
 cases op<;>first | rfl | (simp[jP] at h;done) | skip
 rename_i c;obtain⟨callee,aS,ats⟩:=c
 cases callee with
 | builtin b=>cases b<;>first | rfl | (simp[jP] at h;done)
 | _=>rfl
def PI:Op->Bool
 | .alloc _ | .box _ _ | .buildSlice _ _ _ | .makeMap _ _ | .makeSlice _ _ _ | .call { callee:=.builtin .append,.. }=>true
 | _=>false
def tm(op:Op):Bool:=tp op||PI op
def cB(G:List Nat)(i:Nat)(op:Op):Bool:=tm op&&!G.contains i
variable{G:List Nat}
def mB{i:Nat}(h:tm op=false):cB G i op=false:=by unfold cB;rw[h];rfl
def Ht{i:Nat}(h:cB G i op=true):tm op=true:=by unfold cB at h;rw[Bool.and_eq_true] at h;exact h.1
def EG(G:List Nat)(ms:List Nat):List (Nat×Oper)->Bool
 | []=>true
 | (i,a)::l=>(!(cB G i a.op||fE a.op)||l.all λq=>!(cB G q.1 q.2.op||fE q.2.op)||bM (ms.getD q.1 0) i)&&EG G ms l
def Jw{G:List Nat}{ms:List Nat}:∀{ol:List Oper} {i0 i j:Nat} {a b:Oper},EG G ms (cw i0 ol)=true->ol[i]?=some a->ol[j]?=some b->i<j->(cB G (i0+i) a.op||fE a.op)=true->(cB G (i0+j) b.op||fE b.op)=true->bM (ms.getD (i0+j) 0) (i0+i)=true
 | [],_,_,_,_,_,_,h,_,_,_,_=>by simp at h
 | o::ol,i0,i,j,a,b,h,ha,hb,hij,h1,h2=>by
  rw[cw,EG,al] at h;obtain⟨g1,g2⟩:=h;obtain⟨j,rfl⟩:=be (show j≠0 by omega)
  cases i with
  | zero=>
   cases ha;rw[ey] at h1;rw[h1,bv,co] at g1;have:=all_eq_true.1 g1 (i0+1+j,b) (mem_iff_getElem?.2 ⟨j,by rw[jJ,show ol[j]?=some b by simpa using hb];rfl⟩);rw[show i0+(j+1)=i0+1+j by omega] at h2 ⊢;rw[h2,bv,co] at this;exact this
  | succ i=>
   rw[show i0+(i+1)=i0+1+i by omega] at h1 ⊢;rw[show i0+(j+1)=i0+1+j by omega] at h2 ⊢;exact Jw g2 (i:=i) (j:=j) (by simpa using ha) (by simpa using hb) i4 h1 h2
def vH(h:jP op=true):tm op=false:=by
 unfold tm;rw[S6 h,co]
 cases op<;>first | rfl | (simp[jP] at h;done) | skip
 rename_i c;obtain⟨callee,aS,ats⟩:=c
 cases callee with
 | builtin b=>cases b<;>first | rfl | (simp[jP] at h;done)
 | _=>rfl
def MY{cl:Call}(h:fE (.call cl)=true):tm (.call cl)=false:=by
 unfold tm;rw[RA h,co];obtain⟨callee,aS,ats⟩:=cl
 cases callee<;>first | rfl | (simp[fE] at h;done)
def kr{S:List SO}{f1 f2:Fm}(hrd:(jP op||tm op)=true)(h:∀x∈op.operands.toList,eO f1 x=eO f2 x):dx P f1 S op=dx P f2 S op:=by
 by_cases hw:(jP op||tp op)=true
 ·exact LC hw h
 cases op with
 | alloc e=>rfl
 | box t x=>rw[dx,dx,h x (by simp[Op.operands])]
 | buildSlice t n ps=>rw[dx,dx,pN λx hx=>h x (by simpa [Op.operands] using hx)]
 | makeMap t x=>
  cases x with
  | none=>rfl
  | some x=>rfl
 | makeSlice t l c=>rw[dx,dx,h l (by simp[Op.operands]),h c (by simp[Op.operands])]
 | call c=>
  obtain⟨callee,aS,ats⟩:=c
  cases callee with
  | builtin b=>rw[dx,dx,gb λx hx=>h x (by simp only[Op.operands,Call.operands,dc,d4];exact .inr hx)]
  | _=>simp[jP,tm,tp,PI] at hrd
 | makeFunc g first cap=>cases g<;>first | exact un rfl hw | (simp[jP,tm,tp,PI] at hrd;done)
 | _=>first | exact un rfl hw | (simp[jP,tm,tp,PI] at hrd;done)
variable{ms:List Nat}
def JP(hb:jx 0 ol=true)(hms:mJ ol []=ms)(w:Nat)(o:Oper)(ho:ol[w]?=some o){i:Nat}(h:bM (ms.getD w 0) i=true):i<w:=by
 have hlt:∀{j:Nat} {o':Oper},ol[j]?=some o'->∀e∈o'.after.toList,dep e=true->e.on<j:=λho' e he hde=>by simpa using pa hb ho' e he hde
 exact HX (L:=λj=>j<w) hb (λj o' ho' hj e he hde=>eN (hlt ho' e he hde) hj) w o ho (λe he hde=>hlt ho e he hde) (by rw[hms];exact h)
structure L8 where
 b:Bool
 hp:List Nat
 kl:List (Nat×Nat)
 f0:Fm
 f:Fm
 S:List SO
def ic(ms:List Nat)(i:Nat)(v:SV):List (Nat×Nat)->Prop
 | []=>True
 | q::l=>(bM (ms.getD i 0) q.1=true\/aO q.2 v=v)/\ic ms i v l
def oF{ms:List Nat}{i:Nat}{v:SV}:∀{l:List (Nat×Nat)},ic ms i v l->∀q∈l,bM (ms.getD i 0) q.1=true\/aO q.2 v=v
 | [],_,q,hq=>by cases hq
 | x::l,h,q,hq=>by
  rcases t7 hq with rfl | hq
  ·exact h.1
  ·exact oF h.2 q hq
def Fl{ms:List Nat}{i:Nat}{v:SV}(hv:∀o,aO o v=v):∀{l:List (Nat×Nat)},ic ms i v l
 | []=>trivial
 | _::_=>⟨.inr (hv _),Fl hv⟩
def uc(all:List Oper)(ms:List Nat)(i:Nat):List Nat:=((cw 0 all).filter λq=>!Nat.beq q.1 i&&!bM (ms.getD i 0) q.1&&!bM (ms.getD q.1 0) i).flatMap λq=>(match q.2.dst with | some d=>d::iI all q.2 | none=>iI all q.2)
def xn(f0 f:Fm)(k:Nat):List Nat->Prop
 | []=>True
 | t::l=>(aO k (aJ f t)=aJ f t/\aO k (aJ f0 t)=aJ f0 t)/\xn f0 f k l
def Dl{f0 f:Fm}{k:Nat}:∀{l:List Nat},xn f0 f k l->∀t∈l,aO k (aJ f t)=aJ f t/\aO k (aJ f0 t)=aJ f0 t
 | [],_,t,h=>by cases h
 | x::l,h,t,ht=>by
  rcases t7 ht with rfl | ht
  ·exact h.1
  ·exact Dl h.2 t ht
def Jm(all:List Oper)(ms:List Nat)(i:Nat):Bool:=(cw 0 all).all λq=>beq q.1 i||(blt q.1 i&&bM (ms.getD i 0) q.1)||(blt i q.1&&bM (ms.getD q.1 0) i)
inductive pX (G:List Nat) (P:Program) (ro:Option Nat) (all:List Oper) (ms:List Nat) (n:Nat) (i:Nat) (o:Oper):L8->L8->Prop
 | s {b hp kl f0 f S d}:dn all n [o]=true->o.dst=some d->bX all f o.guard=some false->cB G i o.op=false->pX G P ro all ms n i o ⟨b,hp,kl,f0,f,S⟩ ⟨b,hp,kl,f0,(d,.a lH)::f,S⟩
 | sk {b hp kl f0 f S d}:dn all n [o]=true->o.dst=some d->bX all f o.guard=some false->cB G i o.op=true->hp.all (λj=>bM (ms.getD i 0) j)=true->pX G P ro all ms n i o ⟨b,hp,kl,f0,f,S⟩ ⟨false,hp,kl,f0,(d,.a lH)::f,S⟩
 | r {b hp kl f0 f S d v}:dn all n [o]=true->o.dst=some d->bX all f o.guard=some true->jP o.op=true->(∀S2,dx P f S2 o.op=some (v,S2,none))->ic ms i v kl->pX G P ro all ms n i o ⟨b,hp,kl,f0,f,S⟩ ⟨b,hp,kl,f0,(d,v)::f,S⟩
 | h {hp kl f0 f S d v}:dn all n [o]=true->o.dst=some d->bX all f o.guard=some true->jP o.op=true->dx P f S o.op=some (v,S,none)->ic ms i v kl->pX G P ro all ms n i o ⟨true,hp,kl,f0,f,S⟩ ⟨true,i::hp,kl,f0,(d,v)::f,S⟩
 | k {hp kl f0 f S d cl g vs ws r}:dn all n [o]=true->o.op=.call cl->o.dst=some d->bX all f o.guard=some true->fE (.call cl)=true->tn o.op=true->iD P f cl=some (g,vs)->PC P g ws (·=r)->cC S vs ws->(∀o,aO o r=r)->(vB r=true\/cC [] vs ws)->
  pX G P ro all ms n i o ⟨true,hp,kl,f0,f,S⟩ ⟨true,hp,kl,f0,(d,r)::f,S⟩
 | e {b hp kl f0 f S v S'}:dn all n [o]=true->bX all f o.guard=some true->cB G i o.op=true->hp.all (λj=>bM (ms.getD i 0) j)=true->dx P f S o.op=some (v,S',none)->ic ms i v kl->pX G P ro all ms n i o ⟨b,hp,kl,f0,f,S⟩ ⟨false,hp,kl,f0,po f none o.dst v,S'⟩
 | a {b hp kl f0 f S v S' k}:dn all n [o]=true->bX all f o.guard=some true->cB G i o.op=true->hp.all (λj=>bM (ms.getD i 0) j)=true->dx P f S o.op=some (v,S',some k)->ic ms i v kl->(∀t∈uc all ms i,aO k (aJ f t)=aJ f t/\aO k (aJ f0 t)=aJ f0 t)->pX G P ro all ms n i o ⟨b,hp,kl,f0,f,S⟩ ⟨false,hp,(i,k)::kl,f0,po f (some k) o.dst v,S'⟩
 | g {b hp kl f0 f S d v}:dn all n [o]=true->o.dst=some d->bX all f o.guard=some true->G.contains i=true->(∀o,aO o v=v)->(∀f2 S2 ds K,dn (all.take (i+1)) n [o]=true->bX (all.take (i+1)) f2 o.guard=some true->(∀x∈o.op.operands.toList,eO f2 x=eO f x)->K ⟨(d,v)::f2,n,S2,ds⟩->aK P ro (all.take (i+1)) [o] ⟨f2,n,S2,ds⟩ K)->pX G P ro all ms n i o ⟨b,hp,kl,f0,f,S⟩ ⟨b,hp,kl,f0,(d,v)::f,S⟩
 | x {b hp kl f0 f S v S' k}:dn all n [o]=true->bX all f o.guard=some true->cB G i o.op=true->hp.all (λj=>bM (ms.getD i 0) j)=true->(∀f2 ds K,dn (all.take (i+1)) n [o]=true->bX (all.take (i+1)) f2 o.guard=some true->(∀x∈o.op.operands.toList,eO f2 x=eO f x)->K ⟨po f2 (some k) o.dst v,n,S',ds⟩->aK P ro (all.take (i+1)) [o] ⟨f2,n,S,ds⟩ K)->ic ms i v kl->(∀t∈uc all ms i,aO k (aJ f t)=aJ f t/\aO k (aJ f0 t)=aJ f0 t)->pX G P ro all ms n i o ⟨b,hp,kl,f0,f,S⟩ ⟨false,hp,(i,k)::kl,f0,po f (some k) o.dst v,S'⟩
 | Pd {b hp kl f0 f S f' S'}:Jm all ms i=true->cB G i o.op=false->(∀ds K,K ⟨f',n,S',ds⟩->aK P ro (all.take (i+1)) [o] ⟨f,n,S,ds⟩ K)->pX G P ro all ms n i o ⟨b,hp,kl,f0,f,S⟩ ⟨true,[],[],f',f',S'⟩
inductive Ro (G:List Nat) (P:Program) (ro:Option Nat) (all:List Oper) (ms:List Nat) (n:Nat):List (Nat×Oper)->L8->L8->Prop
 | nil {x}:Ro G P ro all ms n [] x x
 | cons {i o l x y z}:pX G P ro all ms n i o x y->Ro G P ro all ms n l y z->Ro G P ro all ms n ((i,o)::l) x z
def eP(G:List Nat)(P:Program)(ro:Option Nat)(all:List Oper)(ms:List Nat)(n:Nat)(f0:Fm)(kl:List (Nat×Nat))(b:Bool)(hp:List Nat)(l:List (Nat×Oper))(f:Fm)(S:List SO)(K:Fm->List SO->Prop):Prop:=∃z,K z.f z.S/\Ro G P ro all ms n l ⟨b,hp,kl,f0,f,S⟩ z
mutual
def EY:∀{v:SV},vB v=true->∀o,names o v=false
 | .any,_,_=>rfl
 | .a _,_,_=>rfl
 | .ag cs,h,o=>by rw[names];exact uO (by rw[vB] at h;exact h) o
 | .cA cs,h,o=>by rw[names];exact uO (by rw[vB] at h;exact h) o
 | .sl ..,h,_ | .im ..,h,_ | .ptr ..,h,_ | .map ..,h,_ | .buf ..,h,_ | .sub ..,h,_ | .fn ..,h,_ | .iface ..,h,_ | .ip ..,h,_ | .e0 ..,h,_=>by simp[vB] at h
def uO:∀{l:List SV},HH l=true->∀o,eG o l=false
 | [],_,_=>rfl
 | d::ds,h,o=>by rw[HH,al] at h;rw[eG,EY h.1,uO h.2];rfl
end
def PK{v:SV}(h:vB v=true)(o:Nat):aO o v=v:=by unfold aO;rw[EY h o];rfl
section
variable {G:List Nat} {all:List Oper} {ms:List Nat} {n:Nat} {b:Bool} {hp:List Nat} {l:List (Nat×Oper)} {f:Fm} {S:List SO} {K:Fm->List SO->Prop} {i:Nat} {o:Oper} {d:Nat} {f0:Fm} {kl:List (Nat×Nat)}
def eP.nil(h:K f S):eP G P ro all ms n f0 kl b hp [] f S K:=⟨_,h,.nil⟩
theorem eP.s(hst:dn all n [o]=true)(hdst:o.dst=some d)(hw:bX all f o.guard=some false)(hwr:cB G i o.op=false):eP G P ro all ms n f0 kl b hp l ((d,.a lH)::f) S K->eP G P ro all ms n f0 kl b hp ((i,o)::l) f S K:=λ⟨z,k,t⟩=>⟨z,k,.cons (.s hst hdst hw hwr) t⟩
theorem eP.r{v:SV}{S':List SO}{kill:Option Nat}(hst:dn all n [o]=true)(hdst:o.dst=some d)(hw:bX all f o.guard=some true)(hrr:(jP o.op&&(b||!HQ o.op))=true)(hop:dx P f S o.op=some (v,S',kill))
 (hk:eP G P ro all ms n f0 kl b (_root_.cond (HQ o.op) (i::hp) hp) l ((d,v)::f) S K) (hkl:ic ms i v kl):eP G P ro all ms n f0 kl b hp ((i,o)::l) f S K:=by
 rw[al] at hrr;obtain⟨h1,h2⟩:=hrr;obtain⟨rfl,rfl⟩:=Ov h1 hop;obtain⟨z,k,t⟩:=hk;cases hh:HQ o.op
 ·rw[hh] at t;exact⟨z,k,.cons (.r hst hdst hw h1 (λS2=>Qv h1 hh hop) hkl) t⟩
 ·rw[hh] at t h2
  obtain rfl:b=true:=by cases b<;>simp_all
  exact⟨z,k,.cons (.h hst hdst hw h1 hop hkl) t⟩
def eP.ri{tt:TypeId}{x:Operand}{cs0:List SV}{v:SV}(hst:dn all n [o]=true)(hdst:o.dst=some d)(hw:bX all f o.guard=some true)(hop:o.op=.load tt x)(hx:eO f x=some (.ip cs0))(hv:tE P tt cs0 0=some v)(hkl:ic ms i v kl):
 eP G P ro all ms n f0 kl b hp l ((d,v)::f) S K->eP G P ro all ms n f0 kl b hp ((i,o)::l) f S K:=λ⟨z,k,t⟩=>⟨z,k,.cons (.r hst hdst hw (by rw[hop];rfl) (λS2=>by rw[hop,dx,hx,m7,yC,hv];rfl) hkl) t⟩
def eP.rg{v:SV}(hst:dn all n [o]=true)(hdst:o.dst=some d)(hw:bX all f o.guard=some true)(hrd:jP o.op=true)(hop:∀S2,dx P f S2 o.op=some (v,S2,none))(hkl:ic ms i v kl):
 eP G P ro all ms n f0 kl b hp l ((d,v)::f) S K->eP G P ro all ms n f0 kl b hp ((i,o)::l) f S K:=λ⟨z,k,t⟩=>⟨z,k,.cons (.r hst hdst hw hrd hop hkl) t⟩
theorem eP.k{cl:Call}{g:FuncId}{vs ws:List SV}{r:SV}(hst:dn all n [o]=true)(hop:o.op=.call cl)(hdst:o.dst=some d)(hw:bX all f o.guard=some true)(hdy:fE (.call cl)=true)(he:tn (.call cl)=true)
 (hc:iD P f cl=some (g,vs)) (hq:PC P g ws (·=r)) (hwk:cC S vs ws) (hr:vB r=true):eP G P ro all ms n f0 kl true hp l ((d,r)::f) S K->eP G P ro all ms n f0 kl true hp ((i,o)::l) f S K:=λ⟨z,k,t⟩=>⟨z,k,.cons (.k hst hop hdst hw hdy (by rw[hop];exact he) hc hq hwk (PK hr) (.inl hr)) t⟩
def eP.kg{cl:Call}{g:FuncId}{vs:List SV}{r:SV}(hst:dn all n [o]=true)(hop:o.op=.call cl)(hdst:o.dst=some d)(hw:bX all f o.guard=some true)(hdy:fE (.call cl)=true)(he:tn (.call cl)=true)
 (hc:iD P f cl=some (g,vs)) (hq:PC P g vs (·=r)) (hwk:∀S,cC S vs vs) (hr:mh r=true):eP G P ro all ms n f0 kl true hp l ((d,r)::f) S K->eP G P ro all ms n f0 kl true hp ((i,o)::l) f S K:=λ⟨z,k,t⟩=>⟨z,k,.cons (.k hst hop hdst hw hdy (by rw[hop];exact he) hc hq (hwk _) (λ_=>uW hr) (.inr (hwk _))) t⟩
theorem eP.e{v:SV}{S':List SO}(hst:dn all n [o]=true)(hw:bX all f o.guard=some true)(hwr:cB G i o.op=true)(hms:hp.all (λj=>bM (ms.getD i 0) j)=true)(hop:dx P f S o.op=some (v,S',none))(hkl:ic ms i v kl):
 eP G P ro all ms n f0 kl false hp l (po f none o.dst v) S' K->eP G P ro all ms n f0 kl b hp ((i,o)::l) f S K:=λ⟨z,k,t⟩=>⟨z,k,.cons (.e hst hw hwr hms hop hkl) t⟩
theorem eP.a{f':Fm}{v:SV}{S':List SO}{k:Nat}(T:List Nat)(hst:dn all n [o]=true)(hdst:o.dst=some d)(hw:bX all f o.guard=some true)(hwr:cB G i o.op=true)(hms:hp.all (λj=>bM (ms.getD i 0) j)=true)(hT:((uc all ms i).all λt=>T.contains t)=true)(hop:dx P f S o.op=some (v,S',some k))(hf:bZ k f=f')(ht:xn f0 f k T)(hkl:ic ms i v kl):
 eP G P ro all ms n f0 ((i,k)::kl) false hp l ((d,v)::f') S' K->eP G P ro all ms n f0 kl b hp ((i,o)::l) f S K:=λ⟨z,c,t⟩=>⟨z,c,.cons (by have:=pX.a (ro:=ro) (b:=b) hst hw hwr hms hop hkl λt h=>Dl ht t (List.contains_iff_mem.1 (all_eq_true.1 hT t h));rw[hdst] at this;rw[<-hf];exact this) t⟩
theorem eP.g{v:SV}(hst:dn all n [o]=true)(hdst:o.dst=some d)(hw:bX all f o.guard=some true)(hG:G.contains i=true)(hv:∀o,aO o v=v)(hop:∀f2 S2 ds K,dn (all.take (i+1)) n [o]=true->bX (all.take (i+1)) f2 o.guard=some true->(∀x∈o.op.operands.toList,eO f2 x=eO f x)->K ⟨(d,v)::f2,n,S2,ds⟩->aK P ro (all.take (i+1)) [o] ⟨f2,n,S2,ds⟩ K):
 eP G P ro all ms n f0 kl b hp l ((d,v)::f) S K->eP G P ro all ms n f0 kl b hp ((i,o)::l) f S K:=λ⟨z,c,t⟩=>⟨z,c,.cons (.g hst hdst hw hG hv hop) t⟩
theorem eP.x{f':Fm}{v:SV}{S':List SO}{k:Nat}(T:List Nat)(hst:dn all n [o]=true)(hdst:o.dst=some d)(hw:bX all f o.guard=some true)(hwr:cB G i o.op=true)(hms:hp.all (λj=>bM (ms.getD i 0) j)=true)(hT:((uc all ms i).all λt=>T.contains t)=true)(hop:∀f2 ds K,dn (all.take (i+1)) n [o]=true->bX (all.take (i+1)) f2 o.guard=some true->(∀x∈o.op.operands.toList,eO f2 x=eO f x)->K ⟨(d,v)::bZ k f2,n,S',ds⟩->aK P ro (all.take (i+1)) [o] ⟨f2,n,S,ds⟩ K)(hf:bZ k f=f')(ht:xn f0 f k T)(hkl:ic ms i v kl):
 eP G P ro all ms n f0 ((i,k)::kl) false hp l ((d,v)::f') S' K->eP G P ro all ms n f0 kl b hp ((i,o)::l) f S K:=λ⟨z,c,t⟩=>⟨z,c,.cons (by have:=pX.x (ro:=ro) (b:=b) hst hw hwr hms (by rw[hdst];exact hop) hkl λt h=>Dl ht t (List.contains_iff_mem.1 (all_eq_true.1 hT t h));rw[hdst] at this;rw[<-hf];exact this) t⟩
def eP.Pd{f':Fm}{S':List SO}(hbr:Jm all ms i=true)(hwr:cB G i o.op=false)(hop:∀ds K,K ⟨f',n,S',ds⟩->aK P ro (all.take (i+1)) [o] ⟨f,n,S,ds⟩ K):
 eP G P ro all ms n f' [] true [] l f' S' K->eP G P ro all ms n f0 kl b hp ((i,o)::l) f S K:=λ⟨z,c,t⟩=>⟨z,c,.cons (.Pd hbr hwr hop) t⟩
end
def Ro.get{G:List Nat}{all:List Oper}{ms:List Nat}{n:Nat}:∀{ol:List Oper} {i0:Nat} {x z:L8},Ro G P ro all ms n (cw i0 ol) x z->∃X:Nat->L8,X i0=x/\X (i0+ol.length)=z/\∀(k:Nat) o,ol[k]?=some o->pX G P ro all ms n (i0+k) o (X (i0+k)) (X (i0+k+1))
 | [],i0,x,z,h=>by
  rw[cw] at h;cases h;exact⟨λ_=>x,rfl,rfl,λk o h=>by simp at h⟩
 | o::ol,i0,x,z,h=>by
  rw[cw] at h
  cases h with | cons h t=>?_
  obtain⟨X,h1,h2,h3⟩:=Ro.get t;refine⟨λj=>if j=i0 then x else X j,ut rfl,?_,?_⟩
  ·show(if _ then _ else _)=z;rw[i7,v6 i4,<-h2];congr 1;omega
  ·rintro(_ | k) o' ho
   ·cases ho;show pX G P ro all ms n i0 o (if _ then _ else _) (if _ then _ else _);rw[ey,ut rfl,v6 i4,h1];exact h
   ·have:=h3 k o' (by simpa using ho);show pX G P ro all ms n (i0+(k+1)) o' (if _ then _ else _) (if _ then _ else _);rw[v6 i4,v6 i4,show i0+(k+1)=i0+1+k by omega];exact this
structure Rm (G:List Nat) (P:Program) (ro:Option Nat) (all:List Oper) (ms:List Nat) (n:Nat) (i:Nat) (o:Oper) (x y:L8) (κ:Option Nat):Prop where
 st:dn all n [o]=true
 fr:∀t,o.dst≠some t->aJ y.f t=jF κ (aJ x.f t)
 wr:cB G i o.op=false->κ=none
 S:cB G i o.op=false->y.S=x.S
 b:y.b=true->x.b=true/\cB G i o.op=false
 hp:∀j∈x.hp,j∈y.hp
 w:cB G i o.op=true->x.hp.all (λj=>bM (ms.getD i 0) j)=true
 k1:∀q∈x.kl,q∈y.kl
 k2:∀k,κ=some k->(i,k)∈y.kl
 t:∀k,κ=some k->∀t∈uc all ms i,aO k (aJ x.f t)=aJ x.f t/\aO k (aJ x.f0 t)=aJ x.f0 t
 v:∀d,o.dst=some d->∀q∈x.kl,bM (ms.getD i 0) q.1=true\/aO q.2 (aJ y.f d)=aJ y.f d
 op:cB G i o.op=true->∃v S',((bX all x.f o.guard=some true/\(∀f2 ds K,dn (all.take (i+1)) n [o]=true->bX (all.take (i+1)) f2 o.guard=some true->(∀y∈o.op.operands.toList,eO f2 y=eO x.f y)->K ⟨po f2 κ o.dst v,n,S',ds⟩->aK P ro (all.take (i+1)) [o] ⟨f2,n,x.S,ds⟩ K))\/(bX all x.f o.guard=some false/\(∃d,o.dst=some d)/\v=.a lH/\S'=x.S/\κ=none))/\(∀d,o.dst=some d->aJ y.f d=v)/\y.S=S'
 z:y.f0=x.f0
structure Sw (G:List Nat) (P:Program) (ro:Option Nat) (all:List Oper) (ms:List Nat) (n:Nat) (i:Nat) (o:Oper) (x y:L8):Prop where
 ok:Jm all ms i=true
 wr:cB G i o.op=false
 op:∀ds K,K ⟨y.f,n,y.S,ds⟩->aK P ro (all.take (i+1)) [o] ⟨x.f,n,x.S,ds⟩ K
 z:y.f0=y.f
def pX.out{n i:Nat}{o:Oper}{x y:L8}(h:pX G P ro all ms n i o x y):(∃κ,Rm G P ro all ms n i o x y κ)\/Sw G P ro all ms n i o x y:=by
 have put:∀{f:Fm} {d:Nat} {v:SV},o.dst=some d->∀t,o.dst≠some t->aJ ((d,v)::f) t=aJ f t:=λ{f d v} hd t ht=>by
  show(if d=t then v else aJ f t)=_;rw[v6 λe=>ht (by rw[hd,e])]
 have top:∀{d:Nat} {v:SV} {f:Fm},aJ ((d,v)::f) d=v:=λ{d v f}=>ut rfl
 have no2:∀{q:Prop},cB G i o.op=false->cB G i o.op=true->q:=λh h2=>by rw[h] at h2;cases h2
 have run:∀{f:Fm} {S S':List SO} {v:SV} {κ:Option Nat},cB G i o.op=true->dx P f S o.op=some (v,S',κ)->∀f2 ds K,dn (all.take (i+1)) n [o]=true->bX (all.take (i+1)) f2 o.guard=some true->(∀x∈o.op.operands.toList,eO f2 x=eO f x)->K ⟨po f2 κ o.dst v,n,S',ds⟩->aK P ro (all.take (i+1)) [o] ⟨f2,n,S,ds⟩ K:=
  λh1 h2 f2 ds K h3 h4 h5 hK=>aK.run (l':=[]) h3 (by rw[oP,h4,kr (by rw[Ht h1,dt]) h5,h2];simp only[oP]) (.nil hK)
 have val:∀{d d':Nat} {v:SV} {f:Fm},o.dst=some d->o.dst=some d'->aJ ((d,v)::f) d'=v:=λh1 h2=>by rw[h1] at h2;cases h2;exact top
 cases h with
 | s h1 h2 h3 h4=>exact .inl ⟨none,h1,put h2,λ_=>rfl,λ_=>rfl,λh=>⟨h,h4⟩,λ_ h=>h,no2 h4,λ_ h=>h,nofun,nofun,λd hd q _=>.inr (by rw[val h2 hd];rfl),no2 h4,rfl⟩
 | r h1 h2 h3 h4 _ h6=>exact .inl ⟨none,h1,put h2,λ_=>rfl,λ_=>rfl,λh=>⟨h,mB (vH h4)⟩,λ_ h=>h,no2 (mB (vH h4)),λ_ h=>h,nofun,nofun,λd hd q hq=>by rw[val h2 hd];exact oF h6 q hq,no2 (mB (vH h4)),rfl⟩
 | h h1 h2 h3 h4 _ h6=>exact .inl ⟨none,h1,put h2,λ_=>rfl,λ_=>rfl,λh=>⟨h,mB (vH h4)⟩,λ_ h=>aW _ h,no2 (mB (vH h4)),λ_ h=>h,nofun,nofun,λd hd q hq=>by rw[val h2 hd];exact oF h6 q hq,no2 (mB (vH h4)),rfl⟩
 | k h1 h0 h2 h3 h4 _ _ _ _ h9 _=>
  have hk:cB G i o.op=false:=by rw[h0];exact mB (MY h4)
  exact .inl ⟨none,h1,put h2,λ_=>rfl,λ_=>rfl,λh=>⟨h,hk⟩,λ_ h=>h,no2 hk,λ_ h=>h,nofun,nofun,λd hd q _=>.inr (by rw[val h2 hd];exact h9 _),no2 hk,rfl⟩
 | sk h1 h2 h3 h4 h5=>exact .inl ⟨none,h1,put h2,λ_=>rfl,λ_=>rfl,λh=>(by cases h),λ_ h=>h,λ_=>h5,λ_ h=>h,nofun,nofun,λd hd q _=>.inr (by rw[val h2 hd];rfl),λ_=>⟨.a lH,_,.inr ⟨h3,⟨_,h2⟩,rfl,rfl,rfl⟩,λd hd=>val h2 hd,rfl⟩,rfl⟩
 | e h1 h3 h5 h6 h7 h8=>
  refine .inl ⟨none,h1,λt ht=>?_,λ_=>rfl,λh=>(by rw[h] at h5;cases h5),λh=>(by cases h),λ_ h=>h,λ_=>h6,λ_ h=>h,nofun,nofun,λd hd q hq=>?_,λ_=>⟨_,_,.inl ⟨h3,run h5 h7⟩,λd hd=>(by rw[hd];exact top),rfl⟩,rfl⟩
  ·cases hd:o.dst with
   | none=>rfl
   | some d=>exact put hd t ht
  ·refine(oF h8 q hq).imp id λh=>?_;rw[hd];simp only[po,top];exact h
 | a h1 h3 h5 h6 h7 h8 h9=>
  rename_i k;refine .inl ⟨some k,h1,λt ht=>?_,λh=>(by rw[h] at h5;cases h5),λh=>(by rw[h] at h5;cases h5),λh=>(by cases h),λ_ h=>h,λ_=>h6,λ_ h=>aW _ h,λk' e=>(by cases e;exact bk),λk' e=>(by cases e;exact h9),λd hd q hq=>?_,λ_=>⟨_,_,.inl ⟨h3,run h5 h7⟩,λd hd=>(by rw[hd];exact top),rfl⟩,rfl⟩
  ·cases hd:o.dst with
   | none=>exact ew _ _ _
   | some d=>exact(put (f:=bZ k _) hd t ht).trans (ew _ _ _)
  ·refine(oF h8 q hq).imp id λh=>?_;rw[hd];simp only[po,top];exact h
 | x h1 h3 h5 h6 h7 h8 h9=>
  rename_i k;refine .inl ⟨some k,h1,λt ht=>?_,λh=>(by rw[h] at h5;cases h5),λh=>(by rw[h] at h5;cases h5),λh=>(by cases h),λ_ h=>h,λ_=>h6,λ_ h=>aW _ h,λk' e=>(by cases e;exact bk),λk' e=>(by cases e;exact h9),λd hd q hq=>?_,λ_=>⟨_,_,.inl ⟨h3,h7⟩,λd hd=>(by rw[hd];exact top),rfl⟩,rfl⟩
  ·cases hd:o.dst with
   | none=>exact ew _ _ _
   | some d=>exact(put (f:=bZ k _) hd t ht).trans (ew _ _ _)
  ·refine(oF h8 q hq).imp id λh=>?_;rw[hd];simp only[po,top];exact h
 | g h1 h2 h3 h4 h5 _=>
  have hk:cB G i o.op=false:=by unfold cB;rw[h4,bv,ca]
  exact .inl ⟨none,h1,put h2,λ_=>rfl,λ_=>rfl,λh=>⟨h,hk⟩,λ_ h=>h,no2 hk,λ_ h=>h,nofun,nofun,λd hd q _=>.inr (by rw[val h2 hd];exact h5 _),no2 hk,rfl⟩
 | Pd h1 h2 h3=>exact .inr ⟨h1,h2,h3,rfl⟩
def dI(κ:Nat->Option Nat)(b:Nat):Nat->SV->SV
 | 0,v=>v
 | m+1,v=>if m<b then v else jF (κ m) (dI κ b m v)
def tq(k:Option Nat)(v:SV):jF k v=v\/jF k v=.any:=by
 cases k with
 | none=>exact .inl rfl
 | some k=>unfold jF aO;simp only;cases names k v;exact .inl rfl;exact .inr rfl
def Bx(k:Option Nat):jF k .any=.any:=by rcases tq k .any with h | h<;>exact h
section
variable {κ:Nat->Option Nat} {b m:Nat} {v:SV}
def Fh:dI κ b m v=v\/dI κ b m v=.any:=by
 induction m with
 | zero=>exact .inl rfl
 | succ m ih=>
  rw[dI];split
  ·exact .inl rfl
  ·rcases ih with h | h
   ·rw[h];exact tq _ _
   ·rw[h,Bx];exact .inr rfl
def jG(h:m<=b):dI κ b m v=v:=by
 cases m with
 | zero=>rfl
 | succ m=>rw[dI,ut i4]
def sn(h:b<=m):dI κ b (m+1) v=jF (κ m) (dI κ b m v):=by rw[dI,v6 i4]
def oC{c:Nat}(hbc:m<=c)(h:∀w,b<=w->m<=w->w<c->jF (κ w) (dI κ b w v)=dI κ b w v):dI κ b c v=dI κ b m v:=by
 induction hbc with
 | refl=>rfl
 | step hbc ih=>
  rename_i c;have:=ih λw h1 h2 h3=>h w h1 h2 (Nat.lt_succ_of_lt h3);by_cases hb:b<=c
  ·rw[sn hb,h c hb hbc (aV c),this]
  ·rw[jG i4,<-this,jG i4]
end
def nM(g:Nat->SV)(φ:SV->SV)(f:Fm):List Oper->Fm
 | []=>f.map λq=>(q.1,φ q.2)
 | o::l=>match o.dst with
  | some d=>(d,g d)::nM g φ f l
  | none=>nM g φ f l
def EF{g:Nat->SV}{φ:SV->SV}{f:Fm}(hφ:φ .any=.any){t:Nat}:∀{l:List Oper},(aJ (nM g φ f l) t=g t/\∃o∈l,o.dst=some t)\/(aJ (nM g φ f l) t=φ (aJ f t)/\∀o∈l,o.dst≠some t)
 | []=>by
  refine .inr ⟨?_,λo h=>by cases h⟩;rw[nM]
  induction f with
  | nil=>exact hφ.symm
  | cons q f ih=>
   show(if q.1=t then φ q.2 else _)=φ (if q.1=t then q.2 else _);split
   ·rfl
   ·exact ih
 | o::l=>by
  have ih:=EF (g:=g) (φ:=φ) (f:=f) hφ (t:=t) (l:=l);rw[nM]
  cases hd:o.dst with
  | none=>exact ih.imp (λ⟨a,o',b,c⟩=>⟨a,o',aW _ b,c⟩) λ⟨a,b⟩=>⟨a,λo' ho'=>by rcases t7 ho' with rfl | h ;(rw[hd];nofun);exact b o' h⟩
  | some d=>
   by_cases e:d=t
   ·subst e;exact .inl ⟨ut rfl,o,bk,hd⟩
   ·have h1:aJ ((d,g d)::nM g φ f l) t=aJ (nM g φ f l) t:=v6 e;simp only[h1];exact ih.imp (λ⟨a,o',b,c⟩=>⟨a,o',aW _ b,c⟩) λ⟨a,b⟩=>⟨a,λo' ho'=>by rcases t7 ho' with rfl | h ;(rw[hd];exact λh=>e (Option.some.inj h));exact b o' h⟩
variable{ops:Array Oper}{Q:Ex->ep->Prop}
def aF.Cv(G:List Nat){id:Nat}{st:ep}(hol:ops.toList=ol)(hms:mJ ol []=ms)(hok:((jx 0 ol&&P.follows .mixedOrders)&&(vG ol ms (cw 0 ol)&&EG G ms (cw 0 ol)))=true)
 (h:eP G P ro ol ms st.n st.f [] true [] (cw 0 ol) st.f st.S λf' S'=>Q .normal ⟨f',st.n,S',st.ds⟩):aF P ro (.region id ops true) st Q:=by
 obtain⟨f,n,S,ds⟩:=st;rw[al] at hok;obtain⟨hbk,hpr⟩:=hok;rw[al] at hpr;obtain⟨hpr,hch⟩:=hpr
 have hord:∀{i j:Nat} {a b:Oper},ol[i]?=some a->ol[j]?=some b->i<j->(cB G i a.op||fE a.op)=true->(cB G j b.op||fE b.op)=true->bM (ms.getD j 0) i=true:=λh1 h2 h3 h4 h5=>by simpa using Jw hch h1 h2 h3 (by simpa using h4) (by simpa using h5)
 have hback:=hbk;rw[al] at hback;obtain⟨z,hz,ht⟩:=h;obtain⟨X,hX0,hXN,hX⟩:=ht.get;simp only[c6] at hXN hX;have hP:=λ{i:Nat} {o:Oper} (ho:ol[i]?=some o)=>N5 hpr ho;simp only[c6] at hP;obtain⟨B,hB0⟩:∃B:Nat->Prop,∀i,B i↔∃o,ol[i]?=some o/\Sw G P ro ol ms n i o (X i) (X (i+1)):=⟨_,λ_=>Iff.rfl⟩
 obtain⟨κ,hκ0⟩:∃κ:Nat->Option Nat,∀i,(B i->κ i=none)/\∀o,ol[i]?=some o->¬B i->Rm G P ro ol ms n i o (X i) (X (i+1)) (κ i):=by
  have:∀i,∃κ,(B i->κ=none)/\∀o,ol[i]?=some o->¬B i->Rm G P ro ol ms n i o (X i) (X (i+1)) κ:=by
   intro i;by_cases hb:B i
   ·exact⟨none,λ_=>rfl,λ_ _ h=>un hb h⟩
   cases ho:ol[i]? with
   | none=>exact⟨none,λ_=>rfl,nofun⟩
   | some o=>
    rcases(hX i o ho).out with⟨κ,h⟩ | h
    ·exact⟨κ,λh=>un h hb,λo' e _=>by cases e;exact h⟩
    ·exact un ((hB0 i).2 ⟨o,ho,h⟩) hb
  exact⟨λi=>Classical.choose (this i),λi=>Classical.choose_spec (this i)⟩
 have hκ:=λ{i o} (ho:ol[i]?=some o) (hb:¬B i)=>(hκ0 i).2 o ho hb
 have hBw:∀{i o},B i->ol[i]?=some o->cB G i o.op=false/\Jm ol ms i=true:=by
  intro i o hb ho;obtain⟨o',h1,h2⟩:=(hB0 i).1 hb;rw[h1] at ho;cases ho;exact⟨h2.wr,h2.ok⟩
 have hBn:∀{i o},ol[i]?=some o->cB G i o.op=true->¬B i:=λho hw hb=>by rw[(hBw hb ho).1] at hw;cases hw
 have hat:∀{i},i<ol.length->∃o,ol[i]?=some o:=λh=>⟨_,jp h⟩
 have hBl:∀{i},B i->i<ol.length:=λhb=>by obtain⟨o,h,_⟩:=(hB0 _).1 hb;exact br h
 have hBo:∀{c j},B c->j<ol.length->(j<c->bM (ms.getD c 0) j=true)/\(c<j->bM (ms.getD j 0) c=true):=by
  intro c j hb hj;obtain⟨oc,hoc⟩:=hat (hBl hb);obtain⟨oj,hoj⟩:=hat hj;have h:=all_eq_true.1 (hBw hb hoc).2 (j,oj) (mem_iff_getElem?.2 ⟨j,by rw[jJ,hoj];simp⟩);simp only[d2,al] at h;refine⟨λhlt=>?_,λhlt=>?_⟩
  ·rcases h with(h | h) | h
   ·have:=cf h;omega
   ·exact h.2
   ·have:=fK h.1;omega
  ·rcases h with(h | h) | h
   ·have:=cf h;omega
   ·have:=fK h.1;omega
   ·exact h.2
 have hF:∀(k m t:Nat),k<=m->m<=ol.length->(∀c,k<=c->c<m->¬B c)->(∀j o,k<=j->j<m->ol[j]?=some o->o.dst≠some t)->aJ (X m).f t=dI κ k m (aJ (X k).f t):=by
  intro k m t hkm
  induction hkm with
  | refl=>exact λ_ _ _=>(jG (am _)).symm
  | step hkm ih=>
   rename_i m;intro hm hb hno;obtain⟨o,hoj⟩:=hat hm;rw[(hκ hoj (hb m hkm (aV _))).fr t (hno m _ hkm (aV _) hoj),sn hkm,ih (ax hm) (λc h1 h2=>hb c h1 i4) λj o h1 h2=>hno j o h1 i4]
 have hseg:∀{α:Type} (φ:L8->α) (k m:Nat),(∀j o,k<=j->j<m->ol[j]?=some o->φ (X (j+1))=φ (X j))->k<=m->m<=ol.length->φ (X m)=φ (X k):=by
  intro α φ k m hs hkm
  induction hkm with
  | refl=>exact λ_=>rfl
  | step hkm ih=>
   rename_i m;intro hm;obtain⟨o,hoj⟩:=hat hm;rw[hs m o hkm (aV _) hoj];exact ih (λj o h1 h2=>hs j o h1 i4) (ax hm)
 have hS:∀(k m:Nat),k<=m->m<=ol.length->(∀c,k<=c->c<m->¬B c)->(∀j o,k<=j->j<m->ol[j]?=some o->cB G j o.op=false)->(X m).S=(X k).S:=λk m h1 h2 hb hw=>hseg L8.S k m (λj o g1 g2 g3=>(hκ g3 (hb j g1 g2)).S (hw j o g1 g2 g3)) h1 h2;have hZ:∀(k m:Nat),k<=m->m<=ol.length->(∀c,k<=c->c<m->¬B c)->(X m).f0=(X k).f0:=λk m h1 h2 hb=>hseg L8.f0 k m (λj o g1 g2 g3=>(hκ g3 (hb j g1 g2)).z) h1 h2
 have hB:∀(k m:Nat),k<=m->m<=ol.length->(∀c,k<=c->c<m->¬B c)->(X m).b=true->∀j o,k<=j->j<m->ol[j]?=some o->cB G j o.op=false:=by
  intro k m hkm
  induction hkm with
  | refl=>exact λ_ _ _ j o h1 h2=>by omega
  | step hkm ih=>
   rename_i m;intro hm hbr hb j o h1 hj ho;obtain⟨o',ho'⟩:=hat hm;obtain⟨h3,h2⟩:=(hκ ho' (hbr m hkm (aV _))).b hb;by_cases e:j=m
   ·subst e;rw[ho'] at ho;cases ho;exact h2
   ·exact ih (ax hm) (λc h1 h2=>hbr c h1 i4) h3 j o h1 i4 ho
 have hH:∀(k m j:Nat),k<=m->m<=ol.length->(∀c,k<=c->c<m->¬B c)->j∈(X k).hp->j∈(X m).hp:=by
  intro k m j hkm
  induction hkm with
  | refl=>exact λ_ _ h=>h
  | step hkm ih=>
   intro hm hb hj;obtain⟨o',ho'⟩:=hat hm;exact(hκ ho' (hb _ hkm (aV _))).hp j (ih (ax hm) (λc h1 h2=>hb c h1 i4) hj)
 have hKL:∀(k m:Nat) q,k<=m->m<=ol.length->(∀c,k<=c->c<m->¬B c)->q∈(X k).kl->q∈(X m).kl:=by
  intro k m q hkm
  induction hkm with
  | refl=>exact λ_ _ h=>h
  | step hkm ih=>
   intro hm hb hj;obtain⟨o',ho'⟩:=hat hm;exact(hκ ho' (hb _ hkm (aV _))).k1 q (ih (ax hm) (λc h1 h2=>hb c h1 i4) hj)
 have hu:∀{j k:Nat} {a b:Oper} {t:Nat},ol[j]?=some a->ol[k]?=some b->a.dst=some t->b.dst=some t->j=k:=by
  have one:∀{j k:Nat} {a b:Oper} {t:Nat},ol[j]?=some a->ol[k]?=some b->a.dst=some t->b.dst=some t->¬j<k:=by
   intro j k a b t hj hk ha hb hlt;have:=(hP hj).2.2 k b hlt hk;unfold N4 at this;rw[hb] at this;simp[ha] at this
  intro j k a b t hj hk ha hb;exact Nat.le_antisymm (ch (one hk hj hb ha)) (ch (one hj hk ha hb))
 have hT:∀{i w:Nat} {o:Oper} {t k:Nat},ol[i]?=some o->i≠w->bM (ms.getD w 0) i=false->bM (ms.getD i 0) w=false->w<ol.length->κ w=some k->(o.dst=some t\/t∈iI ol o)->aO k (aJ (X w).f t)=aJ (X w).f t/\aO k (aJ (X w).f0 t)=aJ (X w).f0 t:=by
  intro i w o t k ho hne h1 h2 hw hk hd;obtain⟨ow,how⟩:=hat hw
  have hnb:¬B w:=λhb=>by rw[(hκ0 w).1 hb] at hk;cases hk
  refine(hκ how hnb).t k hk t ?_;unfold uc;refine List.mem_flatMap.2 ⟨(i,o),List.mem_filter.2 ⟨mem_iff_getElem?.2 ⟨i,by rw[jJ,ho];simp⟩,?_⟩,?_⟩
  ·simp only[h1,h2,Bool.not_false,cn,Bool.not_eq_true'];cases hb:beq i w
   ·rfl
   ·exact un (cf hb) hne
  ·cases hd':o.dst with
   | none=>rw[hd'] at hd;exact hd.resolve_left nofun
   | some d=>
    rw[hd'] at hd
    rcases hd with hd | hd
    ·cases hd;exact bk
    ·exact aW _ hd
 have hu0:∀q:(Nat->Prop)×Nat,∃base:Nat->Nat,(∀j o t,q.2<=j->ol[j]?=some o->o.dst=some t->q.1 j->base t=j+1)/\∀t,(∀j o,q.2<=j->ol[j]?=some o->o.dst=some t->¬q.1 j)->base t=q.2:=by
  rintro⟨L,β⟩
  have:∀t,∃b,(∀j o,β<=j->ol[j]?=some o->o.dst=some t->L j->b=j+1)/\((∀j o,β<=j->ol[j]?=some o->o.dst=some t->¬L j)->b=β):=by
   intro t;by_cases h:∃j o,β<=j/\ol[j]?=some o/\o.dst=some t/\L j
   ·obtain⟨j,o,h0,h1,h2,h3⟩:=h;exact⟨j+1,λj' o' _ g1 g2 _=>by rw[hu h1 g1 h2 g2],λg=>un h3 (g j o h0 h1 h2)⟩
   ·exact⟨β,λj o g0 g1 g2 g3=>un ⟨j,o,g0,g1,g2,g3⟩ h,λ_=>rfl⟩
  exact⟨λt=>Classical.choose (this t),λj o t h0 h1 h2 h3=>(Classical.choose_spec (this t)).1 j o h0 h1 h2 h3,λt h=>(Classical.choose_spec (this t)).2 h⟩
 obtain⟨base,hbase0⟩:=Classical.axiomOfChoice hu0;have hbase:=λL β=>hbase0 (L,β);simp only at hbase;obtain⟨g,hg⟩:∃g:(Nat->Prop)->Nat->Nat->Nat->SV,∀L β m t,g L β m t=dI κ (base (L,β) t) m (aJ (X (base (L,β) t)).f t):=⟨_,λ_ _ _ _=>rfl⟩
 have hfr:∀L β m t,aJ (nM (g L β m) (dI κ β m) (X β).f ol) t=g L β m t:=by
  intro L β m t
  rcases EF (g:=g L β m) (φ:=dI κ β m) (f:=(X β).f) (by rcases Fh (κ:=κ) (b:=β) (m:=m) (v:=.any) with h | h<;>exact h) (t:=t) (l:=ol) with⟨h,_⟩ | ⟨h,hn⟩
  ·exact h
  ·rw[h,hg,(hbase L β).2 t λj o _ hj hd=>un hd (hn o (ci hj))]
 have hgd:∀(i:Nat) (o:Oper),ol[i]?=some o->∀(j:Nat) (b:Bool),o.guard=some (j,b)->j<i:=λi o ho=>(hP ho).2.1;refine aF.post (aF.any hol hbk (.inr hgd) (λL x=>x.n=n/\lJ ol L/\∃β m,β<=m/\m<=ol.length/\(∀j,j<β->L j)/\(X β).f0=(X β).f/\(∀c,β<=c->B c->¬L c/\m<=c)/\(∀j o,ol[j]?=some o->cB G j o.op=true->(L j↔j<m))/\Fg x ⟨nM (g L β m) (dI κ β m) (X β).f ol,n,(X m).S,ds⟩) ?_ (λL x h=>h.1) ?_ ?_)
 ·refine⟨rfl,λ_ _ _ h=>h.elim,0,0,am _,cg _,λj h=>un h (a0 _),by rw[hX0],λc _ _=>⟨λh=>h,cg _⟩,λj o _ _=>⟨λh=>h.elim,λh=>un h (a0 _)⟩,?_⟩;rw[show(X 0).S=S by rw[hX0]];refine Fg.tmps λt=>.inl ?_;rw[hfr,hg,(hbase _ 0).2 t λj o _ _ _ h=>h,hX0];rfl
 ·rintro L x i o ⟨hxn,hc,β,m,hβm,hml,hβ,hβ0,hβB,hm,hx⟩ hr;have ho:=hr.jr;have hil:=br ho;obtain⟨p1,p2,p3⟩:=hP ho;have hβi:β<=i:=ch λh=>hr.new (hβ i h)
  have hc2:lJ ol (λj=>L j\/j=i):=by
   intro j o' ho' hj e he hd
   rcases hj with hj | rfl
   ·exact .inl (hc j o' ho' hj e he hd)
   ·rw[ho'] at ho;cases ho;exact .inl (hr.dep e he hd)
  have hA:∀k,bM (ms.getD i 0) k=true->L k:=λk hk=>HX hback.1 hc i o ho hr.dep (by rw[hms];exact hk);have hA2:∀j o' k,ol[j]?=some o'->L j->bM (ms.getD j 0) k=true->L k:=λj o' k hj hl hk=>HX hback.1 hc j o' hj (hc j o' hj hl) (by rw[hms];exact hk);have hbi:∀c,β<=c->c<i->¬B c:=λc h1 h2 hb=>(hβB c h1 hb).1 (hA c ((hBo hb hil).2 h2))
  have hbm:∀c,β<=c->c<m->¬B c:=λc h1 h2 hb=>by have:=(hβB c h1 hb).2;omega
  have hbd:∀j o',β<=j->ol[j]?=some o'->L j->∀c,β<=c->c<j+1->¬B c:=by
   intro j o' h1 hj hl c h2 h3 hb;have hn:=(hβB c h2 hb).1;by_cases e:c=j
   ·subst e;exact hn hl
   ·exact hn (hA2 j o' c hj hl ((hBo hb (br hj)).2 i4))
  have hKm:∀w,w<ol.length->κ w≠none->(L w↔w<m):=by
   intro w hw hk;obtain⟨ow,how⟩:=hat hw;have hnb:¬B w:=λhb=>hk ((hκ0 w).1 hb);refine hm w ow how ?_;cases hh:cB G w ow.op
   ·exact un ((hκ how hnb).wr hh) hk
   ·rfl
  by_cases hBi:B i
  ·
   obtain⟨o',ho',hbar⟩:=(hB0 i).1 hBi;rw[ho] at ho';cases ho'
   have hLi:∀j,j<ol.length->(L j↔j<i):=by
    intro j hj;refine⟨λhl=>?_,λh=>hA j ((hBo hBi hj).1 h)⟩
    rcases bs j i with h | rfl | h
    ·exact h
    ·exact un hl hr.new
    ·obtain⟨oj,hoj⟩:=hat hj;exact un (hA2 j oj i hoj hl ((hBo hBi hj).2 h)) hr.new
   have hmi:m<=i:=(hβB i hβi hBi).2
   have hkr:∀b v,dI κ b m v=dI κ b i v:=λb v=>(oC hmi λw _ h2 h3=>by
    cases hk:κ w with
    | none=>rfl
    | some k=>
     have:=(hKm w i4 (by rw[hk];nofun)).1 ((hLi w i4).2 h3)
     omega).symm
   have hSi:(X i).S=(X m).S:=hS m i hmi (ax hil) (λc h1 h2=>hbi c i4 h2) λj o' h1 h2 hj=>Kv λe=>by have:=(hm j o' hj e).1 ((hLi j i4).2 h2);omega
   refine aK.fg (hx.trans (Fg.tmps (f':=(X i).f) λt=>.inl ?_)) ?_
   ·rw[hfr,hg,hkr];by_cases h:∃j o,β<=j/\ol[j]?=some o/\o.dst=some t/\L j
    ·obtain⟨j,o',h0,h1,h2,h3⟩:=h;have hji:=(hLi j (br h1)).1 h3;rw[(hbase L β).1 j o' t h0 h1 h2 h3]
     exact hF (j+1) i t hji (ax hil) (λc g1 g2=>hbi c i4 g2) λk b g1 _ hk e=>by have:=hu h1 hk h2 e;omega
    ·rw[(hbase L β).2 t λj o' h0 h1 h2 h3=>h ⟨j,o',h0,h1,h2,h3⟩];exact hF β i t hβi (ax hil) hbi λk b g1 g2 hk e=>h ⟨k,b,g1,hk,e,(hLi k (br hk)).2 g2⟩
   ·rw[<-hSi];refine hbar.op ds _ ⟨rfl,hc2,i+1,i+1,am _,hil,λj hj=>?_,hbar.z,λc h1 hb=>⟨λh=>?_,h1⟩,λj o' hj _=>⟨λh=>?_,λh=>?_⟩,Fg.tmps λt=>.inl ?_⟩
    ·by_cases e:j=i
     ·exact .inr e
     ·exact .inl ((hLi j i4).2 i4)
    ·rcases h with h | rfl
     ·have:=(hLi c (hBl hb)).1 h;omega
     ·omega
    ·rcases h with h | rfl
     ·have:=(hLi j (br hj)).1 h;omega
     ·omega
    ·by_cases e:j=i
     ·exact .inr e
     ·exact .inl ((hLi j (br hj)).2 i4)
    ·rw[hfr,hg,(hbase _ (i+1)).2 t λj o' h0 h1 h2 h3=>?_,jG (am _)]
     rcases h3 with h3 | rfl
     ·have:=(hLi j (br h1)).1 h3;omega
     ·omega
  have hκi:=hκ ho hBi
  have hun:∀{t:Nat},(o.dst=some t\/t∈iI ol o)->∀w,β<=w->w<ol.length->w≠i->(i<w/\w<m\/m<=w/\w<i)->∀k,κ w=some k->aO k (aJ (X w).f t)=aJ (X w).f t/\aO k (aJ (X β).f t)=aJ (X β).f t:=by
   intro t hd w hbw hw hne hcase k hk;obtain⟨ow,how⟩:=hat hw;have hLw:=hKm w hw (by rw[hk];nofun)
   have b1:bM (ms.getD w 0) i=false:=by
    cases hb:bM (ms.getD w 0) i
    ·rfl
    ·rcases hcase with h | h
     ·exact un (hA2 w ow i how (hLw.2 h.2) hb) hr.new
     ·have:=JP hback.1 hms w ow how hb;omega
   have b2:bM (ms.getD i 0) w=false:=by
    cases hb:bM (ms.getD i 0) w
    ·rfl
    ·rcases hcase with h | h
     ·have:=JP hback.1 hms i o ho hb;omega
     ·have:=hLw.1 (hA w hb);omega
   have:=hT ho hne.symm b1 b2 hw hk hd;rw[hZ β w hbw (ax hw) λc h1 h2=>by rcases hcase with h | h;exact hbm c h1 i4;exact hbi c h1 i4,hβ0] at this;exact this
  have hstay:∀{t b:Nat},β<=b->(o.dst=some t\/t∈iI ol o)->b<=i+1->((b=β/\κ i=none)\/∀w,i<w->w<m->w<=ol.length->aJ (X w).f t=dI κ b w (aJ (X b).f t))->(∀w,w<=i->b<=w->aJ (X w).f t=dI κ b w (aJ (X b).f t))->(m<=i\/κ i=none)->dI κ b m (aJ (X b).f t)=dI κ b i (aJ (X b).f t):=by
   intro t b hβb hd hbi hw1 hw2 hκi
   rcases d9 m i with hmi | hmi
   ·refine(oC hmi λw h1 h2 h3=>?_).symm
    cases hk:κ w with
    | none=>rfl
    | some k=>rw[<-hw2 w i4 h1];exact(hun hd w i4 i4 i4 (.inr ⟨h2,h3⟩) k hk).1
   ·refine oC hmi λw h1 h2 h3=>?_;by_cases hwi:w=i
    ·subst hwi
     rcases hκi with h | h
     ·omega
     ·rw[h];rfl
    ·cases hk:κ w with
     | none=>rfl
     | some k=>
      have hu:=hun hd w i4 i4 hwi (.inl ⟨by omega,h3⟩) k hk
      rcases hw1 with⟨rfl,_⟩ | hw1
      ·rcases Fh (κ:=κ) (b:=b) (m:=w) (v:=aJ (X b).f t) with h | h
       ·rw[h];exact hu.2
       ·rw[h];exact Bx _
      ·rw[<-hw1 w i4 h3 i4];exact hu.1
  have hκw:cB G i o.op=false->κ i=none:=hκi.wr
  have hlook0:(m<=i\/κ i=none)->∀t∈iI ol o,g L β m t=aJ (X i).f t:=by
   intro hκi t hlt
   have hbw:∀w,(w<=i\/i<w/\w<m)->∀b,β<=b->∀c,b<=c->c<w->¬B c:=λw hw b hb c h1 h2=>by rcases hw with hw | hw;exact hbi c i4 i4;exact hbm c i4 i4
   rw[hg];by_cases hno:∀j o,β<=j->ol[j]?=some o->o.dst≠some t
   ·rw[(hbase L β).2 t λj o' h0 hj hd=>un hd (hno j o' h0 hj)];have hh:=λw (h:w<=i\/i<w/\w<m) (hbw':β<=w) (hw:w<=ol.length)=>hF β w t hbw' hw (hbw w h β (am _)) λj o' h1 _ hj=>hno j o' h1 hj;rw[hh i (.inl (am _)) hβi (ax hil)];exact hstay (am _) (.inr hlt) i4 (.inr λw h1 h2 h=>hh w (.inr ⟨h1,h2⟩) i4 h) (λw h h2=>hh w (.inl h) h2 i4) hκi
   ·simp only[ne_eq,Classical.not_forall,Decidable.not_not] at hno;obtain⟨j,o',hβj,hj,hd⟩:=hno
    rcases bs j i with hji | rfl | hji
    ·have h1:=(hP hj).2.2 i o hji ho;unfold N4 at h1;rw[hd,al] at h1
     have hbit:bM (ms.getD i 0) j=true:=by
      have h2:=h1.2;rw[d2] at h2
      rcases h2 with h2 | h2
      ·exact h2
      ·simp[hlt] at h2
     rw[(hbase L β).1 j o' t hβj hj hd (hA j hbit)]
     have hh:=λw (h:w<=i\/i<w/\w<m) (h1:j+1<=w) (hw:w<=ol.length)=>hF (j+1) w t h1 hw (hbw w h (j+1) i4) λk b hik _ hk e=>by have:=hu hj hk hd e;omega
     rw[hh i (.inl (am _)) hji (ax hil)];exact hstay i4 (.inr hlt) i4 (.inr λw h h3 h2=>hh w (.inr ⟨h,h3⟩) i4 h2) (λw h h2=>hh w (.inl h) h2 i4) hκi
    ·rw[hj] at ho;cases ho;exact un hlt (p1 t hd)
    ·have h1:=p3 j o' hji hj;unfold N4 at h1;rw[hd,al,al,d2] at h1;have h2:=h1.1.2.resolve_left (by simp[hlt]);rw[(hbase L β).2 t λk b _ hk e hl=>hr.new (by have:=hu hj hk hd e;subst this;exact hA2 j o' i hj hl h2)]
     have hh:=λw (hw:w<=i) (hbw':β<=w)=>hF β w t hbw' i4 (hbw w (.inl hw) β (am _)) λk b _ hki hk e=>by have:=hu hj hk hd e;omega
     rw[hh i (am _) hβi]
     rcases hκi with hκi | hκi
     ·exact hstay (am _) (.inr hlt) i4 (.inr λw h1 h2 _=>by omega) (λw h h2=>hh w h h2) (.inl hκi)
     ·exact hstay (am _) (.inr hlt) i4 (.inl ⟨rfl,hκi⟩) (λw h h2=>hh w h h2) (.inr hκi)
  have hSS:(∀j o',ol[j]?=some o'->cB G j o'.op=true->(L j↔j<i))->(X m).S=(X i).S:=by
   intro hh
   rcases d9 i m with him | him
   ·exact hS i m him hml (λc h1 h2=>hbm c i4 h2) λj o' h1 h2 hj=>Kv λe=>by have a:=hh j o' hj e;have b:=hm j o' hj e;have:=a.1 (b.2 h2);omega
   ·exact(hS m i him (ax hil) (λc h1 h2=>hbi c i4 h2) λj o' h1 h2 hj=>Kv λe=>by have a:=hh j o' hj e;have b:=hm j o' hj e;have:=b.1 (a.2 h2);omega).symm
  have hlate:(X i).b=true->(∀j o',i<j->ol[j]?=some o'->cB G j o'.op=true->(∀c,i<c->c<j->¬B c)->bM (ms.getD j 0) i=true)->(X m).S=(X i).S:=by
   intro hb hh;refine hSS λj o' hj hd=>⟨λhl=>?_,λhlt=>?_⟩
   ·rcases bs j i with h1 | rfl | h1
    ·exact h1
    ·exact un hl hr.new
    ·refine un (hA2 j o' i hj hl (hh j o' h1 hj hd λc g1 g2=>hbd j o' i4 hj hl c i4 i4)) hr.new
   ·by_cases hjb:j<β
    ·exact hβ j hjb
    ·exact un hd (by rw[hB β i hβi (ax hil) hbi hb j o' i4 hlt hj];simp)
  refine aK.fg hx ?_
  have hbne:∀t,o.dst≠some t->base (λj=>L j\/j=i,β) t=base (L,β) t:=by
   intro t ht;by_cases h:∃j o,β<=j/\ol[j]?=some o/\o.dst=some t/\L j
   ·obtain⟨j,o',h0,h1,h2,h3⟩:=h;rw[(hbase _ β).1 j o' t h0 h1 h2 (.inl h3),(hbase L β).1 j o' t h0 h1 h2 h3]
   ·rw[(hbase L β).2 t λj o' h0 h1 h2 h3=>h ⟨j,o',h0,h1,h2,h3⟩,(hbase _ β).2 t λj o' h0 h1 h2 h3=>?_]
    rcases h3 with h3 | rfl
    ·exact h ⟨j,o',h0,h1,h2,h3⟩
    ·rw[ho] at h1;cases h1;exact ht h2
  have hβB2:∀c,β<=c->B c->¬(L c\/c=i)/\m<=c:=λc h1 hb=>⟨λh=>h.elim (hβB c h1 hb).1 λe=>hBi (e▸hb),(hβB c h1 hb).2⟩
  have lay:∀{d:Nat} {v:SV},o.dst=some d->cB G i o.op=false->aJ (X (i+1)).f d=v->(λx=>(λx=>x.n=n/\lJ ol (λj=>L j\/j=i)/\∃β m,β<=m/\m<=ol.length/\(∀j,j<β->(L j\/j=i))/\(X β).f0=(X β).f/\(∀c,β<=c->B c->¬(L c\/c=i)/\m<=c)/\(∀j o,ol[j]?=some o->cB G j o.op=true->((L j\/j=i)↔j<m))/\Fg x ⟨nM (g (λj=>L j\/j=i) β m) (dI κ β m) (X β).f ol,n,(X m).S,ds⟩) x) ⟨(d,v)::nM (g L β m) (dI κ β m) (X β).f ol,n,(X m).S,ds⟩:=by
   intro d v hd hwr hv;refine⟨rfl,hc2,β,m,hβm,hml,λj h=>.inl (hβ j h),hβ0,hβB2,λj o' hj hdj=>⟨λh=>?_,λh=>.inl ((hm j o' hj hdj).2 h)⟩,Fg.tmps λt=>.inl ?_⟩
   ·rcases h with h | rfl
    ·exact(hm j o' hj hdj).1 h
    ·rw[ho] at hj;cases hj;rw[hwr] at hdj;cases hdj
   ·rw[hfr,hg]
    show _=if d=t then v else aJ (nM (g L β m) (dI κ β m) (X β).f ol) t
    by_cases e:d=t
    ·subst e;rw[ut rfl,(hbase _ β).1 i o d hβi ho hd (.inr rfl),hv]
     rcases d9 m (i+1) with h | h
     ·exact jG h
     ·refine(oC h λw h1 h2 h3=>?_).trans (jG (am _))
      cases hk:κ w with
      | none=>rfl
      | some k=>
       rw[<-hv,<-hF (i+1) w d h1 i4 (λc g1 g2=>hbm c i4 i4) λj o' g1 _ g3 e=>by have:=hu ho g3 hd e;omega];exact(hun (.inl hd) w i4 i4 i4 (.inl ⟨by omega,h3⟩) k hk).1
    ·rw[v6 e,hfr,hg,hbne t λh=>e (by rw[hd] at h;exact Option.some.inj h)]
  have hstp:=hX i o ho;have top:∀{d:Nat} {v:SV} {f:Fm},aJ ((d,v)::f) d=v:=λ{d v f}=>ut rfl;have hXi:∃x,X i=x:=⟨_,rfl⟩;have hXj:∃x,X (i+1)=x:=⟨_,rfl⟩;obtain⟨xi,hxi⟩:=hXi;obtain⟨xj,hxj⟩:=hXj
  have hst:dn (ol.take (i+1)) n [o]=true:=by
   have:=hκi.st;unfold dn at this ⊢;simp only[es,List.all_nil,cn] at this ⊢
   cases hg:o.guard with
   | none=>rw[hg] at this;exact this
   | some q=>obtain⟨j,w⟩:=q;rw[hg] at this;simp only at this ⊢;rw[d7,ut (by have:=p2 j w hg;omega)];exact this
  have hlook:(m<=i\/κ i=none)->(∀gd:Option (Nat×Bool),o.guard=gd->bX (ol.take (i+1)) (nM (g L β m) (dI κ β m) (X β).f ol) gd=bX ol (X i).f gd)/\∀x∈o.op.operands.toList,eO (nM (g L β m) (dI κ β m) (X β).f ol) x=eO (X i).f x:=by
   intro hκi
   have h1:∀t∈iI ol o,aJ (nM (g L β m) (dI κ β m) (X β).f ol) t=aJ (X i).f t:=λt ht=>by rw[hfr];exact hlook0 hκi t ht
   refine⟨λgd hgd=>?_,LF h1⟩;rw[<-hgd,<-Ha h1,hgd]
   cases gd with
   | none=>rfl
   | some q=>obtain⟨j,w⟩:=q;simp only[bX];rw[d7,ut (by have:=p2 j w hgd;omega)]
  rw[hxi,hxj] at hstp;by_cases hww:cB G i o.op=true
  ·have hb:∀j o',ol[j]?=some o'->cB G j o'.op=true->(L j↔j<i):=by
    intro j o' hj hdj
    rcases bs j i with h1 | rfl | h1
    ·exact⟨λ_=>h1,λ_=>hA j (hord hj ho h1 (by rw[hdj];rfl) (by rw[hww];rfl))⟩
    ·exact⟨λh=>un h hr.new,λh=>un h (Nat.lt_irrefl _)⟩
    ·exact⟨λhl=>un (hA2 j o' i hj hl (hord ho hj h1 (by rw[hww];rfl) (by rw[hdj];rfl))) hr.new,λh=>un h i4⟩
   have hmi:m<=i:=ch λh=>hr.new ((hm i o ho hww).2 h);have hl:=hlook (.inl hmi);obtain⟨v,S',k1,k3,k4⟩:=hκi.op hww
   have hrun:∀K,K ⟨po (nM (g L β m) (dI κ β m) (X β).f ol) (κ i) o.dst v,n,S',ds⟩->aK P ro (ol.take (i+1)) [o] ⟨nM (g L β m) (dI κ β m) (X β).f ol,n,(X m).S,ds⟩ K:=by
    intro K hK
    rcases k1 with⟨k1,k2⟩ | ⟨k1,⟨d,k2⟩,rfl,rfl,k5⟩
    ·rw[hSS hb];exact k2 _ _ _ hst (by rw[hl.1 _ rfl,k1]) hl.2 hK
    ·refine aK.run (l':=[]) (f':=(d,.a lH)::nM (g L β m) (dI κ β m) (X β).f ol) (S':=(X i).S) hst (by rw[oP,hl.1 _ rfl,k1,k2,hSS hb];simp only[oP]) (.nil ?_);rw[k5,k2] at hK;exact hK
   refine hrun _ ⟨rfl,hc2,β,i+1,by omega,hil,λj h=>.inl (hβ j h),hβ0,λc h1 hb2=>⟨(hβB2 c h1 hb2).1,?_⟩,λj o' hj hdj=>⟨λh=>?_,λh=>?_⟩,?_⟩
   ·rcases bs c i with h | rfl | h
    ·exact un hb2 (hbi c h1 h)
    ·exact un hb2 hBi
    ·exact h
   ·rcases h with h | rfl
    ·have:=(hb j o' hj hdj).1 h;omega
    ·omega
   ·by_cases e:j=i
    ·exact .inr e
    ·exact .inl ((hb j o' hj hdj).2 i4)
   ·rw[k4];refine Fg.tmps λt=>.inl ?_
    have hr2:aJ (po (nM (g L β m) (dI κ β m) (X β).f ol) (κ i) o.dst v) t=if o.dst=some t then v else jF (κ i) (g L β m t):=by
     have hk:aJ (ly (nM (g L β m) (dI κ β m) (X β).f ol) (κ i)) t=jF (κ i) (g L β m t):=by
      rw[<-hfr L β m t]
      cases κ i with
      | none=>rfl
      | some k=>exact ew _ _ _
     cases o.dst with
     | none=>rw[v6 nofun];exact hk
     | some d=>
      show(if d=t then v else _)=_;simp only[qr,hk]
    rw[hr2,hfr,hg];by_cases hd:o.dst=some t
    ·rw[ut hd,(hbase _ β).1 i o t hβi ho hd (.inr rfl),jG (am _),k3 t hd]
    ·rw[v6 hd,hbne t hd,hg]
     have hmi2:dI κ (base (L,β) t) m (aJ (X (base (L,β) t)).f t)=dI κ (base (L,β) t) i (aJ (X (base (L,β) t)).f t):=by
      refine(oC hmi λw h1 h2 h3=>?_).symm
      cases hk:κ w with
      | none=>rfl
      | some k=>
       exfalso;have h4:=hKm w i4 (by rw[hk];nofun);obtain⟨ow,how⟩:=hat (show w<ol.length by omega)
       have hnb:¬B w:=λhb=>by rw[(hκ0 w).1 hb] at hk;cases hk
       have hwo:cB G w ow.op=true:=by
        cases hh:cB G w ow.op
        ·have:=(hκ how hnb).wr hh;rw[hk] at this;cases this
        ·rfl
       have:=h4.1 ((hb w ow how hwo).2 h3);omega
     rw[hmi2];by_cases hbl:base (L,β) t<=i
     ·exact sn hbl
     ·rw[jG i4,jG i4]
      cases hk:κ i with
      | none=>rfl
      | some k=>
       refine Eq.symm ?_;by_cases h:∃j o,β<=j/\ol[j]?=some o/\o.dst=some t/\L j
       ·obtain⟨j,o',h0,h1,h2,h3⟩:=h;rw[(hbase L β).1 j o' t h0 h1 h2 h3] at hbl ⊢
        have hij:j≠i:=λe=>by subst e;rw[ho] at h1;cases h1;exact hd h2
        have hnb:=hbd j o' h0 h1 h3;have:=(hκ h1 (hnb j h0 (aV _))).v t h2 (i,k) (hKL (i+1) j _ i4 (ax (br h1)) (λc g1 g2=>hnb c i4 i4) (hκi.k2 k hk))
        rcases this with this | this
        ·exact un (hA2 j o' i h1 h3 this) hr.new
        ·exact this
       ·rw[(hbase L β).2 t λj o' h0 h1 h2 h3=>h ⟨j,o',h0,h1,h2,h3⟩] at hbl;omega
  have hκn:=hκw (by simpa using hww);have hl:=hlook (.inr hκn)
  cases hstp with
  | s _ hd hw hwr=>
   refine aK.run (l':=[]) hst ?_ (.nil (lay (v:=.a lH) hd hwr (by rw[hxj];exact top)));rw[oP,hl.1 _ rfl,hxi,hw];simp only[hd,oP]
  | r _ hd hw hrd hop=>
   rename_i v _ _;refine aK.run (l':=[]) hst ?_ (.nil (lay (v:=v) hd (mB (vH hrd)) (by rw[hxj];exact top)));rw[oP,hl.1 _ rfl,hxi,hw,kr (by rw[hrd];rfl) hl.2,hxi,hop];simp only[hd,po,ly,oP]
  | h _ hd hw hrd hop=>
   rename_i v _ _
   have e:=hlate (by rw[hxi]) λj o' hij hj hdj hnb=>by
    have h1:=(hκ hj (hBn hj hdj)).w hdj;exact all_eq_true.1 h1 i (hH (i+1) j i hij (ax (br hj)) (λc g1 g2=>hnb c i4 g2) (by rw[hxj];exact bk))
   rw[hxi] at e;refine aK.run (l':=[]) hst ?_ (.nil (lay (v:=v) hd (mB (vH hrd)) (by rw[hxj];exact top)));rw[oP,hl.1 _ rfl,hxi,hw,kr (by rw[hrd];rfl) hl.2,hxi,e,hop];simp only[hd,po,ly,oP]
  | k _ hop hd hw hdy he hcs hq hwk _ hfl=>
   have hkw:cB G i o.op=false:=by rw[hop];exact mB (MY hdy)
   have e:=hlate (by rw[hxi]) λj o' hij hj hdj _=>hord ho hj hij (by rw[hop,hdy,dt]) (by rw[hdj];rfl);rw[hxi] at e;refine aK.k hst hop hd (by rw[hl.1 _ rfl,hxi];exact hw) hdy (by rw[EE (by rw[<-hop];exact hl.2),hxi];exact hcs) hq (by rw[e];exact hwk) hfl (.nil (lay hd hkw (by rw[hxj];exact top)))
  | sk _ _ _ hwr=>exact un hwr hww
  | e _ _ hwr=>exact un hwr hww
  | a _ _ hwr=>exact un hwr hww
  | x _ _ hwr=>exact un hwr hww
  | g _ hd hw hG _ hop=>
   refine hop _ _ _ _ hst (by rw[hl.1 _ rfl,hxi];exact hw) (λx hx=>(hl.2 x hx).trans (by rw[hxi])) (lay hd (by unfold cB;rw[hG,bv,ca]) (by rw[hxj];exact top))
  | Pd h1 h2 h3=>exact un ((hB0 i).2 ⟨o,ho,by rw[hxi,hxj];exact⟨h1,h2,h3,rfl⟩⟩) hBi
 ·rintro L x ⟨hxn,hc,β,m,hβm,hml,hβ,hβ0,hβB,hm,hx⟩ hall;have hnb:∀c,β<=c->¬B c:=λc h1 hb=>(hβB c h1 hb).1 (hall c (hBl hb))
  have hSe:(X m).S=z.S:=by
   rw[<-hXN];exact(hS m ol.length hml (am _) (λc h1 _=>hnb c i4) λj o h1 h2 hj=>Kv λe=>by have:=(hm j o hj e).1 (hall j h2);omega).symm
  rw[hSe] at hx;refine⟨⟨z.f,n,z.S,ds⟩,hx.trans (Fg.tmps λt=>.inl ?_),hz⟩
  have hκm:∀b v,dI κ b m v=dI κ b ol.length v:=λb v=>(oC hml λw _ h2 h3=>by
   cases hk:κ w with
   | none=>rfl
   | some k=>
    exfalso;obtain⟨ow,how⟩:=hat h3
    have hnw:¬B w:=λhb=>by rw[(hκ0 w).1 hb] at hk;cases hk
    have hww:cB G w ow.op=true:=by
     cases hh:cB G w ow.op
     ·have:=(hκ how hnw).wr hh;rw[hk] at this;cases this
     ·rfl
    have:=(hm w ow how hww).1 (hall w h3)
    omega).symm
  rw[hfr,hg,hκm,<-hXN];by_cases hno:∃j o,β<=j/\ol[j]?=some o/\o.dst=some t
  ·obtain⟨k,o',h0,hk,hd'⟩:=hno;rw[(hbase L β).1 k o' t h0 hk hd' (hall k (br hk))]
   exact hF (k+1) ol.length t (br hk) (am _) (λc h1 _=>hnb c i4) λj b h1 _ hj e=>by have:=hu hj hk e hd';omega
  ·rw[(hbase L β).2 t λj o' h0 hj hd=>un ⟨j,o',h0,hj,hd⟩ hno];exact hF β ol.length t i4 (am _) (λc h1 _=>hnb c h1) λj o' h0 _ hj hd=>hno ⟨j,o',h0,hj,hd⟩
def aF.MW{id:Nat}{st:ep}(hol:ops.toList=ol)(hms:mJ ol []=ms)(hok:((jx 0 ol&&P.follows .mixedOrders)&&(vG ol ms (cw 0 ol)&&EG [] ms (cw 0 ol)))=true)
 (h:eP [] P ro ol ms st.n st.f [] true [] (cw 0 ol) st.f st.S λf' S'=>Q .normal ⟨f',st.n,S',st.ds⟩):aF P ro (.region id ops true) st Q:=.Cv [] hol hms hok h
def SD(P:Program)(ro:Option Nat)(all:List Oper)(ms:List Nat)(n:Nat)(b:Bool)(hp:List Nat)(l:List (Nat×Oper))(f:Fm)(S:List SO)(K:Fm->List SO->Prop):Prop:=∀f0,eP [] P ro all ms n f0 [] b hp l f S K
def Rk{i:Nat}(h:tp op=true):cB [] i op=true:=by unfold cB tm;rw[h];rfl
section
variable {all:List Oper} {ms:List Nat} {n:Nat} {b:Bool} {hp:List Nat} {l:List (Nat×Oper)} {f:Fm} {S:List SO} {K:Fm->List SO->Prop} {i:Nat} {o:Oper} {d:Nat}
def SD.nil(h:K f S):SD P ro all ms n b hp [] f S K:=λ_=>.nil h
theorem SD.s(hst:dn all n [o]=true)(hdst:o.dst=some d)(hw:bX all f o.guard=some false)(hwr:tm o.op=false)(q:SD P ro all ms n b hp l ((d,.a lH)::f) S K):SD P ro all ms n b hp ((i,o)::l) f S K:=λf0=>.s hst hdst hw (mB hwr) (q f0)
theorem SD.r{v:SV}{S':List SO}{kill:Option Nat}(hst:dn all n [o]=true)(hdst:o.dst=some d)(hw:bX all f o.guard=some true)(hrr:(jP o.op&&(b||!HQ o.op))=true)(hop:dx P f S o.op=some (v,S',kill))
 (hk:SD P ro all ms n b (_root_.cond (HQ o.op) (i::hp) hp) l ((d,v)::f) S K):SD P ro all ms n b hp ((i,o)::l) f S K:=λf0=>.r hst hdst hw hrr hop (hk f0) trivial
def SD.ri{tt:TypeId}{x:Operand}{cs0:List SV}{v:SV}(hst:dn all n [o]=true)(hdst:o.dst=some d)(hw:bX all f o.guard=some true)(hop:o.op=.load tt x)(hx:eO f x=some (.ip cs0))(hv:tE P tt cs0 0=some v)
 (q:SD P ro all ms n b hp l ((d,v)::f) S K):SD P ro all ms n b hp ((i,o)::l) f S K:=λf0=>.ri hst hdst hw hop hx hv trivial (q f0)
theorem SD.k{cl:Call}{g:FuncId}{vs ws:List SV}{r:SV}(hst:dn all n [o]=true)(hop:o.op=.call cl)(hdst:o.dst=some d)(hw:bX all f o.guard=some true)(hdy:fE (.call cl)=true)(he:tn (.call cl)=true)
 (hc:iD P f cl=some (g,vs)) (hq:PC P g ws (·=r)) (hwk:cC S vs ws) (hr:vB r=true) (q:SD P ro all ms n true hp l ((d,r)::f) S K):SD P ro all ms n true hp ((i,o)::l) f S K:=λf0=>.k hst hop hdst hw hdy he hc hq hwk hr (q f0)
theorem SD.e{v:SV}{S':List SO}(hst:dn all n [o]=true)(hdst:o.dst=none)(hw:bX all f o.guard=some true)(he:tn o.op=true)(hwr:tp o.op=true)(hms:hp.all (λj=>bM (ms.getD i 0) j)=true)(hop:dx P f S o.op=some (v,S',none))
 (q:SD P ro all ms n false hp l f S' K):SD P ro all ms n b hp ((i,o)::l) f S K:=λf0=>.e hst hw (Rk hwr) hms hop trivial (by rw[hdst];exact q f0)
def SD.ed{v:SV}{S':List SO}(hst:dn all n [o]=true)(hdst:o.dst=some d)(hw:bX all f o.guard=some true)(he:tn o.op=true)(hwr:tp o.op=true)(hms:hp.all (λj=>bM (ms.getD i 0) j)=true)(hop:dx P f S o.op=some (v,S',none))
 (q:SD P ro all ms n false hp l ((d,v)::f) S' K):SD P ro all ms n b hp ((i,o)::l) f S K:=λf0=>.e hst hw (Rk hwr) hms hop trivial (by rw[hdst];exact q f0)
end
def aF.SK{id:Nat}{st:ep}(hol:ops.toList=ol)(hms:mJ ol []=ms)(hok:((jx 0 ol&&P.follows .mixedOrders)&&(vG ol ms (cw 0 ol)&&EG [] ms (cw 0 ol)))=true)
 (h:SD P ro ol ms st.n true [] (cw 0 ol) st.f st.S λf' S'=>Q .normal ⟨f',st.n,S',st.ds⟩):aF P ro (.region id ops true) st Q:=.MW hol hms hok (h _)
end
end
end Go.Ev
namespace Go.Proofs
open Go.Ev
set_option maxRecDepth 100000
def dC:sE prog:=PX (by kernel_rfl)
def G3:Mm prog 322 .indexByte:=Mm.indexByte λx c w=>by
 rw[run_callFunc_extern Tryz.func322 (by kernel_rfl) (by kernel_rfl) (by kernel_rfl) (e:=Extern.BytealgIndexByte.indexByte) (by kernel_rfl),Lib.run_indexByteString];rfl
variable{a:Prop}{b:Prop}
def bx(x:a)(y:b):a/\b:=⟨x,y⟩
variable{c:Prop}
def cO(x:a)(y:b)(z:c):a/\b/\c:=⟨x,y,z⟩
variable{d:Prop}
def gr(x:a)(y:b)(z:c)(w:d):a/\b/\c/\d:=⟨x,y,z,w⟩
variable{e:Prop}
def na(x:a)(y:b)(z:c)(w:d)(u:e):a/\b/\c/\d/\e:=⟨x,y,z,w,u⟩
variable{f:Prop}
def xO(x:a)(y:b)(z:c)(w:d)(u:e)(v:f):a/\b/\c/\d/\e/\f:=⟨x,y,z,w,u,v⟩
variable{g:Prop}
def He(a1:a)(b1:b)(c1:c)(d1:d)(e1:e)(f1:f)(g1:g):a/\b/\c/\d/\e/\f/\g:=⟨a1,b1,c1,d1,e1,f1,g1⟩
def Tw{h:Prop}(a1:a)(b1:b)(c1:c)(d1:d)(e1:e)(f1:f)(g1:g)(h1:h):a/\b/\c/\d/\e/\f/\g/\h:=⟨a1,b1,c1,d1,e1,f1,g1,h1⟩
def OV{h i:Prop}(a1:a)(b1:b)(c1:c)(d1:d)(e1:e)(f1:f)(g1:g)(h1:h)(i1:i):a/\b/\c/\d/\e/\f/\g/\h/\i:=⟨a1,b1,c1,d1,e1,f1,g1,h1,i1⟩
def MM{h i j:Prop}(a1:a)(b1:b)(c1:c)(d1:d)(e1:e)(f1:f)(g1:g)(h1:h)(i1:i)(j1:j):a/\b/\c/\d/\e/\f/\g/\h/\i/\j:=⟨a1,b1,c1,d1,e1,f1,g1,h1,i1,j1⟩
def S7:cd 1 SO.gone=[.gone]:=rfl
def S8:cd 2 SO.gone=[.gone,.gone]:=rfl
def S9:cd 3 SO.gone=[.gone,.gone,.gone]:=rfl
def Ta:cd 4 SO.gone=[.gone,.gone,.gone,.gone]:=rfl
def Qq:type_of% S7/\type_of% S8/\type_of% S9/\type_of% Ta:=⟨S7,S8,S9,Ta⟩
variable{p:Prop}
def zl(h:p:=by simp only[cN,bL,ak,aB,m7,m6,↓reduceIte,Nat.reduceEqDiff,Nat.reduceAdd,Nat.reduceMul,Nat.reduceLeDiff,Nat.reduceLT,an,au,bn];first | done | rfl):p:=h
variable{r:Prop}
def mr(k:r)(h:r->p:=by intro k;simp only[cN,bL,ak,aB,m7,m6,↓reduceIte,Nat.reduceEqDiff,Nat.reduceAdd,Nat.reduceMul,Nat.reduceLeDiff,Nat.reduceLT,an,au,bn,k];first | done | rfl):p:=h k
def zc(h:p:=by simp only[cN,bL,ak,aB,m7,m6,↓reduceIte,Nat.reduceEqDiff,Nat.reduceAdd,Nat.reduceMul,Nat.reduceLeDiff,Nat.reduceLT,an,au,bn,iD];first | done | rfl):p:=h
def Ef(k:r)(h:r->p:=by intro k;simp only[cN,bL,ak,aB,m7,m6,↓reduceIte,Nat.reduceEqDiff,Nat.reduceAdd,Nat.reduceMul,Nat.reduceLeDiff,Nat.reduceLT,an,au,bn,iD,k];first | done | rfl):p:=h k
variable{q:Prop}
def OZ(f:r)(h:r->p->q:=by intro f h;(repeat (first | refine SD.ri ii rfl ii rfl (mr @f) (mr @f) ?_ | refine SD.r ii rfl ii ii (mr @f) ?_ | refine SD.s ii rfl ii ii ?_ | fail));exact h)(k:p):q:=h f k
def rH(h:p->q:=by intro h;(repeat (first | refine SD.ri ii rfl ii rfl zl zl ?_ | refine SD.r ii rfl ii ii zl ?_ | refine SD.s ii rfl ii ii ?_ | fail));exact h)(k:p):q:=h k
def zj(h:p:=by (repeat' apply And.intro)<;>first | exact .inl rfl | trivial):p:=h
def zW(h:p:=by kernel_rfl):p:=h
def zV(h:p->q:=by intro h;(repeat refine aF.seq ?_);refine aF.r0 ii zl ?_;(try change aF _ _ _ _ _);exact h)(k:p):q:=h k
def aA(f:r)(h:r->p->q:=by intro f h;(repeat refine aF.seq ?_);refine aF.r0 ii (mr @f) ?_;(try change aF _ _ _ _ _);exact h)(k:p):q:=h f k
def zC(h:p->q:=by intro h;(repeat refine aF.seq ?_);refine aF.Q9 ii zl ?_;exact h)(k:p):q:=h k
def e9(f:r)(h:r->p->q:=by intro f h;(repeat refine aF.seq ?_);refine aF.Q9 ii (mr @f) ?_;exact h)(k:p):q:=h f k
def zR(h:p->q:=by intro h;refine aK.r0 ii zl ?_;(try change aF _ _ _ _ _);exact h)(k:p):q:=h k
def cP(f:r)(h:r->p->q:=by intro f h;refine aK.r0 ii (mr @f) ?_;(try change aF _ _ _ _ _);exact h)(k:p):q:=h f k
def zQ(h:p->q:=by intro h;refine aK.run ii zl ?_;exact h)(k:p):q:=h k
def L5(f:r)(h:r->p->q:=by intro f h;refine aK.run ii (mr @f) ?_;exact h)(k:p):q:=h f k
def zY(h:p->q:=by intro h;(repeat refine aF.seq ?_);refine aF.yes rfl ?_;(try (refine aF.skip ?_;try change aF _ _ _ _ _));exact h)(k:p):q:=h k
def zN(h:p->q:=by intro h;(repeat refine aF.seq ?_);refine aF.no rfl ?_;(try (refine aF.skip ?_;try change aF _ _ _ _ _));exact h)(k:p):q:=h k
def zE(h:p->q:=by intro h;refine aF.ret ?_;(try simp only[eV,dh,cq,bP]);exact h)(k:p):q:=h k
def zB(h:p->q:=by intro h;(repeat refine aF.seq ?_);refine aF.block ?_;exact h)(k:p):q:=h k
section
variable {P:Program} {ro:Option Nat} {f:Fm} {n:Nat} {S:List SO} {ds:List js} {Q:Ex->ep->Prop}
variable{all:List Oper}{K:ep->Prop}{vs:List SV}
def zK{o:Oper}{l:List Oper}{d:Nat}{c:Call}{g:FuncId}{ws:List SV}{r:SV}(hq:PC P g ws (·=r))
 (hst:dn all n [o]=true:=by rfl) (hop:o.op=.call c:=by rfl) (hdst:o.dst=some d:=by rfl) (hw:bX all f o.guard=some true:=by rfl) (hdy:fE (.call c)=true:=by rfl)
 (hc:iD P f c=some (g,vs):=by exact zc) (hwk:cC S vs ws:=by first | exact cC.refl rfl | ((repeat' (first | exact cC.nil | apply cC.cons | exact Wk.refl rfl | exact Wk.nil _ | apply Wk.ag | apply Wk.cA | apply Wk.fn | refine Wk.ptr rfl ?_ (by first | decide | (simp only[bL];omega)) | refine Wk.buf rfl ?_ (by first | decide | (simp only[bL];omega)) | refine Wk.map rfl ?_ | exact cC.refl rfl));done)) (hfl:vB r=true\/cC [] vs ws:=by exact .inl rfl) (hk:aK P ro all l ⟨(d,r)::f,n,S,ds⟩ K):aK P ro all (o::l) ⟨f,n,S,ds⟩ K:=
 aK.k hst hop hdst hw hdy hc hq hwk hfl hk
variable{fn:Func}{Qr:SV->Prop}
def zO{e:Ex}{r:SV}(rs:List ResultVar)(he:j9 e=true:=by rfl)(hr:fn.results.toList=rs:=by rfl)(h:oM P f S rs=some vs:=by exact zl)(hw:Wk S (ez vs) r:=by exact Wk.refl rfl)(hq:Qr r:=by (try simp only[ez,bK]);first | done | rfl):A8 P fn Qr e ⟨f,n,S,[]⟩:=A8.of he hr h hw hq
variable{S':List SO}
def zH{f':Fm}(hf:uB f f':=by (simp only[cN,bL,fF,ak,↓reduceIte,Nat.reduceEqDiff])<;>(repeat' apply And.intro)<;>first | rfl | trivial)(hs:Cb S S' 0:=by (simp only[cN,bL,ak,or_true,true_or])<;>(repeat' apply And.intro)<;>first | exact .inr rfl | exact .inl rfl | trivial):Fg ⟨f,n,S,ds⟩ ⟨f',n,S',ds⟩:=Fg.less hf hs
def cm{f':Fm}(k:r)(hf:r->uB f f':=by intro k;(simp only[cN,bL,fF,ak,↓reduceIte,Nat.reduceEqDiff,k])<;>(repeat' apply And.intro)<;>first | rfl | trivial)(hs:r->Cb S S' 0:=by intro k;(simp only[cN,bL,ak,or_true,true_or,k])<;>(repeat' apply And.intro)<;>first | exact .inr rfl | exact .inl rfl | trivial):Fg ⟨f,n,S,ds⟩ ⟨f',n,S',ds⟩:=Fg.less (hf k) (hs k)
def zG(h:p:=by (simp only[xw,cN,bL,true_or,or_true,↓reduceIte,Nat.reduceEqDiff])<;>(repeat' apply And.intro)<;>first | exact .inl rfl | trivial | exact .inr (Wk.buf rfl (cC.refl rfl) (by first | decide | (simp only[bL];omega))) | exact .inr (Wk.map rfl (cC.refl rfl)) | exact .inr (Wk.ptr rfl (cC.refl rfl) (by first | decide | (simp only[bL];omega)))):p:=h
def gm(k:r)(h:r->p:=by intro k;((simp only[xw,cN,bL,true_or,or_true,↓reduceIte,Nat.reduceEqDiff,k])<;>(repeat' apply And.intro)<;>first | exact .inl rfl | trivial | exact .inr (Wk.buf rfl (cC.refl rfl) (by first | decide | (simp only[bL];omega))) | exact .inr (Wk.map rfl (cC.refl rfl)) | exact .inr (Wk.ptr rfl (cC.refl rfl) (by first | decide | (simp only[bL];omega))))):p:=h k
def zZ{c:Code}(f':Fm)(o:Nat){so:SO}(hS:S[o]?=some so)(hf:xw (jm o so) f f')(h:aF P ro c ⟨f',n,S.set o .gone,ds⟩ Q)(hg:so≠.gone:=by intro h;cases h):aF P ro c ⟨f,n,S,ds⟩ Q:=aF.fg (Fg.freeze o hS hg hf) h
def zA{c:Code}(f':Fm)(S':List SO)(hf:Fg ⟨f,n,S,ds⟩ ⟨f',n,S',ds⟩)(h:aF P ro c ⟨f',n,S',ds⟩ Q):aF P ro c ⟨f,n,S,ds⟩ Q:=aF.fg hf h
def oZ{l:List Oper}(f':Fm)(o:Nat){so:SO}(hS:S[o]?=some so)(hf:xw (jm o so) f f')(h:aK P ro all l ⟨f',n,S.set o .gone,ds⟩ K)(hg:so≠.gone:=by intro h;cases h):aK P ro all l ⟨f,n,S,ds⟩ K:=aK.fg (Fg.freeze o hS hg hf) h
def oA{l:List Oper}(f':Fm)(S':List SO)(hf:Fg ⟨f,n,S,ds⟩ ⟨f',n,S',ds⟩)(h:aK P ro all l ⟨f',n,S',ds⟩ K):aK P ro all l ⟨f,n,S,ds⟩ K:=aK.fg hf h
def zr{S0:List SO}{v:List SV}(h:bV v=true:=by rfl):cC S0 v v:=cC.refl h
def zs(h:p->q:=by intro h;(repeat refine aF.seq ?_);exact h)(k:p):q:=h k
variable{α:Type}{id:Nat}
def zL(l:List α)(I:Nat->Prop)(fr:Nat->Fm)(T:Nat->List SO){x:Code}(hf:Fg ⟨f,n,S,[]⟩ ⟨fr 0,n,T 0,[]⟩)(h0:I 0)
 (h:∀k,k<=l.length->I k->aF P ro x ⟨fr k,n,T k,[]⟩ (cq (λm st=>∃k,k<=l.length/\m=l.length-k/\I k/\st=⟨fr k,n,T k,[]⟩) (l.length-k) (eV id Q))):aF P ro (.block id (.loop x)) ⟨f,n,S,[]⟩ Q:=
 aF.block (aF.loop (λm st=>∃k,k<=l.length/\m=l.length-k/\I k/\st=⟨fr k,n,T k,[]⟩) l.length hf ⟨0,cg _,rfl,h0,rfl⟩ (by rintro m st ⟨k,_,_,_,rfl⟩;rfl) (by rintro m st ⟨k,hk,rfl,hI,rfl⟩;exact h k hk hI))
variable{l:List α}{k:Nat}
def zX{I:Nat->Prop}{fr:Nat->Fm}{T:Nat->List SO}{st:ep}(hlt:k<l.length)(hf:Fg st ⟨fr (k+1),n,T (k+1),[]⟩)(hI:I (k+1)):
 cq (λm st=>∃k,k<=l.length/\m=l.length-k/\I k/\st=⟨fr k,n,T k,[]⟩) (l.length-k) Q .normal st:=⟨l.length-(k+1),_,by omega,hf,k+1,hlt,rfl,hI,rfl⟩
def zi{L B:Nat}(h1:k<L)(h2:L<=B)(t:TypeId)(hB:B<=9223372036854775807:=by decide):dk Tryz.prog .add t (.int .i64 (k:Int)) (.int .i64 1)=some (.int .i64 ((k:Int)+1)):=wY (RJ h1 h2 hB)
def zt{n:Nat}(h:k<n):decide ((k:Int)<(n:Int))=true:=by simp only[wp];omega
def zS{o:Oper}{l:List Oper}{d:Nat}{c:Call}{g:FuncId}{ws:List SV}{mv:List Nat}{S0 S1 S2:List SO}{r0 r2:SV}{f2:Fm}(os:List Nat)(k:r)(hq:SC P g ws S0 mv (λr S'=>r=r0/\S'=S1))
 (hk:aK P ro all l ⟨(d,r2)::f2,n,S2,ds⟩ K) (hst:dn all n [o]=true:=by rfl) (hop:o.op=.call c:=by rfl) (hdst:o.dst=some d:=by rfl) (hw:bX all f o.guard=some true:=by rfl) (hdy:fE (.call c)=true:=by rfl)
 (hc:iD P f c=some (g,vs):=by exact zc) (hvs:r->mM (jN os S.length) ws=vs:=by intro k;simp only[gx,bL,ak,↓reduceIte,Nat.reduceEqDiff,Nat.reduceAdd,Nat.reduceSub,Nat.reduceMul,Nat.reduceLeDiff,Nat.reduceLT,k];first | done | rfl) (hK:os.length=S0.length:=by rfl) (hnd:os.Nodup:=by decide)
 (hos:r->CH S (jN os S.length) S0 os:=by intro k;simp only[CH,gx,bL,ak,k]<;>(repeat' apply And.intro)<;>first | trivial | rfl | (intro hh;cases hh))
 (hb1:r->dF S1.length r0=true:=by intro k;simp only[BV,gx,bL,ak,Nat.reduceAdd,Nat.reduceLT,decide_true,k];first | done | rfl) (hb2:r->uG S1.length S1=true:=by intro k;simp only[BV,gx,bL,ak,Nat.reduceAdd,Nat.reduceLT,decide_true,k];first | done | rfl)
 (hr:r->fo (jN os S.length) r0=r2:=by intro k;simp only[gx,bL,ak,↓reduceIte,Nat.reduceEqDiff,Nat.reduceAdd,Nat.reduceSub,Nat.reduceMul,Nat.reduceLeDiff,Nat.reduceLT,k];first | done | rfl) (hf:r->nT (di os mv S.length (S1.length-os.length)) f=f2:=by intro k;simp only[gx,bL,ak,↓reduceIte,Nat.reduceEqDiff,Nat.reduceAdd,Nat.reduceSub,Nat.reduceMul,Nat.reduceLeDiff,Nat.reduceLT,k,bZ,cy,bI,aO,cN];first | done | rfl) (hS:r->dN S os mv S1=S2:=by intro k;simp only[gx,bL,ak,↓reduceIte,Nat.reduceEqDiff,Nat.reduceAdd,Nat.reduceSub,Nat.reduceMul,Nat.reduceLeDiff,Nat.reduceLT,k,bZ,cy,bI,aO,cN];first | done | rfl):aK P ro all (o::l) ⟨f,n,S,ds⟩ K:=
 aK.sk os hst hop hdst hw hdy hc hq (hvs k) hK hnd (hos k) (hb1 k) (hb2 k) (hr k) (hf k) (hS k) hk
def zP{K:Nat}{mv:List Nat}{Qs:SV->List SO->Prop}{e:Ex}(rs:List ResultVar)(he:j9 e=true:=by rfl)(hr:fn.results.toList=rs:=by rfl)(h:oM P f S rs=some vs:=by exact zl)
 (hq:Qs (ez vs) S:=by (try simp only[ez,bK]);first | done | exact⟨rfl,rfl⟩ | exact⟨trivial,trivial⟩ | exact⟨rfl,trivial⟩ | exact⟨trivial,rfl⟩ | trivial) (hK:K<=S.length:=by first | decide | (simp only[bL];omega)) (hw:∀i,i<K->i∉mv->aJ f (1000000+i)=.ptr i 0:=by intro i hi;have hi2:i<_:=hi;clear hi;simp only[i7,i5,Nat.zero_add,Nat.reduceAdd,Nat.not_lt_zero] at hi2<;>(rcases i with _ | i<;>first | (exfalso;omega) | (intro hm_;first | rfl | (exfalso;apply hm_;simp;done)) | (rcases i with _ | i<;>first | (exfalso;omega) | (intro hm_;first | rfl | (exfalso;apply hm_;simp;done)) | (rcases i with _ | i<;>first | (exfalso;omega) | (intro hm_;first | rfl | (exfalso;apply hm_;simp;done)))))):Kw P fn K mv Qs e ⟨f,n,S,[]⟩:=Kw.of he hr h hq hK hw
def zD(h:p->q:=by intro h;(repeat (first | refine SD.r ii rfl ii ii zl ?_ | refine SD.s ii rfl ii ii ?_ | fail));exact h)(k:p):q:=h k
def uA(f:r)(h:r->p->q:=by intro f h;(repeat (first | refine SD.r ii rfl ii ii (mr @f) ?_ | refine SD.s ii rfl ii ii ?_ | fail));exact h)(k:p):q:=h f k
def zM(h:p->q:=by intro h;refine SD.nil ?_;(try change aF _ _ _ _ _);exact h)(k:p):q:=h k
def zp(h:p:=by first | exact λi y h=>un h (Nat.not_lt_zero _) | trivial | rfl | assumption):p:=h
def oe{ops:Array Oper}{st:ep}{ol:List Oper}(ms:List Nat)(h:SD P ro ol ms st.n true [] (cw 0 ol) st.f st.S λf' S'=>Q .normal ⟨f',st.n,S',st.ds⟩)(hol:ops.toList=ol:=by rfl)(hms:mJ ol []=ms:=by kernel_rfl)(hok:((jx 0 ol&&P.follows .mixedOrders)&&(vG ol ms (cw 0 ol)&&EG [] ms (cw 0 ol)))=true:=by kernel_rfl):aF P ro (.region id ops true) st Q:=aF.SK hol hms hok h
def zw(h:p:=by first | exact cC.refl rfl | ((repeat' (first | exact cC.nil | apply cC.cons | exact Wk.refl rfl | exact Wk.nil _ | apply Wk.ag | apply Wk.cA | apply Wk.fn | refine Wk.ptr rfl ?_ (by first | decide | (simp only[bL];omega)) | refine Wk.buf rfl ?_ (by first | decide | (simp only[bL];omega)) | refine Wk.map rfl ?_ | exact cC.refl rfl));done)):p:=h
def xv(k:c)(h:c->p->q:=by intro f h;refine SD.k ii rfl rfl ii rfl rfl (by exact zc) f zw rfl h)(kk:p):q:=h k kk
def zv(h:p:=by (try simp only[ez,bK]);(repeat' (first | exact Wk.refl rfl | exact cC.nil | apply cC.cons | exact Wk.nil _ | apply Wk.ag | apply Wk.cA | refine Wk.ptr rfl ?_ (by first | decide | (simp only[bL];omega)) | refine Wk.buf rfl ?_ (by first | decide | (simp only[bL];omega)) | refine Wk.map rfl ?_ | exact cC.refl rfl))):p:=h
def Uf(h:p:=by (simp only[cN,bL,fF,ak,↓reduceIte,Nat.reduceEqDiff])<;>(repeat' apply And.intro)<;>first | rfl | trivial):p:=h
def Ug(k:r)(h:r->p:=by intro k;(simp only[cN,bL,fF,ak,↓reduceIte,Nat.reduceEqDiff,k])<;>(repeat' apply And.intro)<;>first | rfl | trivial):p:=h k
def Uh(k:r)(h:r->p:=by intro k;(simp only[cN,bL,ak,or_true,true_or,k])<;>(repeat' apply And.intro)<;>first | exact .inr rfl | exact .inl rfl | trivial):p:=h k
def zq(h:p:=by (try simp only[ez,bK]);first | done | rfl):p:=h
def Ve(h:p:=by (try simp only[ez,bK]);first | done | exact⟨rfl,rfl⟩ | exact⟨trivial,rfl⟩ | exact⟨rfl,trivial⟩ | exact⟨trivial,trivial⟩):p:=h
def zg(h:p:=by intro i hi;have hi2:i<_:=hi;clear hi;simp only[i7,i5,Nat.zero_add,Nat.reduceAdd,Nat.not_lt_zero] at hi2<;>(rcases i with _ | i<;>first | (exfalso;omega) | (intro hm_;first | rfl | (exfalso;apply hm_;simp;done)) | (rcases i with _ | i<;>first | (exfalso;omega) | (intro hm_;first | rfl | (exfalso;apply hm_;simp;done)) | (rcases i with _ | i<;>first | (exfalso;omega) | (intro hm_;first | rfl | (exfalso;apply hm_;simp;done)))))):p:=h
def zd(h:p:=by first | decide | (simp only[bL];omega)):p:=h
def CZ(k:Nat):(k:Int)+1=((k+1:Nat):Int):=rfl
def bA(a b:Int)(h : -9223372036854775808<=a+b/\a+b<=9223372036854775807)(P:Program)(t:TypeId):dk P .add t (.int .i64 a) (.int .i64 b)=some (.int .i64 (a+b)):=wY h
def bS(a b:Int)(h : -9223372036854775808<=a-b/\a-b<=9223372036854775807)(P:Program)(t:TypeId):dk P .sub t (.int .i64 a) (.int .i64 b)=some (.int .i64 (a-b)):=Jq h
def L6(k:r)(h:r->p:=by intro k;(simp only[si,gx,bL,ak,k])<;>(repeat' apply And.intro)<;>first | trivial | exact .inl rfl | exact .inr rfl | exact .inr trivial | exact .inl trivial):p:=h k
def L7(k:r)(h:r->p:=by intro k;(simp only[cN,gx,bL,ak,k])<;>(repeat' apply And.intro)<;>first | rfl | trivial):p:=h k
def pB(n:Nat){g:FuncId}{c:Code}{args:List SV}{Q:SV->Prop}(hf:Tryz.prog.funcs[g]?=some fn)(hw:aF Tryz.prog none c ⟨kL 0 args,n,[],[]⟩ (A8 Tryz.prog fn Q))(hb:fn.body=some c:=by rfl)(hn:args.length+(fn.ntmps-args.length)=n:=by rfl)(hlim:n<=1000000:=by exact md rfl):PC Tryz.prog g args Q:=PC.body dC hf hb hn hw hlim
section
variable (n:Nat) {g:FuncId} {fn:Func} {c:Code} {args:List SV} {S0:List SO} {mv:List Nat} {Q:SV->List SO->Prop}
def LB(hf:Tryz.prog.funcs[g]?=some fn)(hw:aF Tryz.prog none c ⟨kL 0 args++[],n,S0,[]⟩ (Kw Tryz.prog fn S0.length mv Q))(hb:fn.body=some c:=by rfl)(hn:args.length+(fn.ntmps-args.length)=n:=by rfl)(hlim:n<=1000000:=by exact md rfl)(hW:[]=nZ S0.length:=by rfl)(hK:S0.length<=1000000:=by exact md rfl):SC Tryz.prog g args S0 mv Q:=SC.body dC hf hb hn hlim hW hw hK
def Ot(hf:Tryz.prog.funcs[g]?=some fn)(hw:aF Tryz.prog none c ⟨kL 0 args++[(1000000,.ptr 0 0)],n,S0,[]⟩ (Kw Tryz.prog fn S0.length mv Q))(hb:fn.body=some c:=by rfl)(hn:args.length+(fn.ntmps-args.length)=n:=by rfl)(hlim:n<=1000000:=by exact md rfl)(hW:[(1000000,.ptr 0 0)]=nZ S0.length:=by rfl)(hK:S0.length<=1000000:=by exact md rfl):SC Tryz.prog g args S0 mv Q:=SC.body dC hf hb hn hlim hW hw hK
def Rj(hf:Tryz.prog.funcs[g]?=some fn)(hw:aF Tryz.prog none c ⟨kL 0 args++[(1000000,.ptr 0 0),(1000001,.ptr 1 0)],n,S0,[]⟩ (Kw Tryz.prog fn S0.length mv Q))(hb:fn.body=some c:=by rfl)(hn:args.length+(fn.ntmps-args.length)=n:=by rfl)(hlim:n<=1000000:=by exact md rfl)(hW:[(1000000,.ptr 0 0),(1000001,.ptr 1 0)]=nZ S0.length:=by rfl)(hK:S0.length<=1000000:=by exact md rfl):SC Tryz.prog g args S0 mv Q:=SC.body dC hf hb hn hlim hW hw hK
def TL(hf:Tryz.prog.funcs[g]?=some fn)(hw:aF Tryz.prog none c ⟨kL 0 args++[(1000000,.ptr 0 0),(1000001,.ptr 1 0),(1000002,.ptr 2 0)],n,S0,[]⟩ (Kw Tryz.prog fn S0.length mv Q))(hb:fn.body=some c:=by rfl)(hn:args.length+(fn.ntmps-args.length)=n:=by rfl)(hlim:n<=1000000:=by exact md rfl)(hW:[(1000000,.ptr 0 0),(1000001,.ptr 1 0),(1000002,.ptr 2 0)]=nZ S0.length:=by rfl)(hK:S0.length<=1000000:=by exact md rfl):SC Tryz.prog g args S0 mv Q:=SC.body dC hf hb hn hlim hW hw hK
end
def cL(h:p->q:=by intro h;(repeat refine aF.seq ?_);refine aF.yes rfl ?_;(try (refine aF.skip ?_;try change aF _ _ _ _ _));(repeat refine aF.seq ?_);refine aF.r0 ii zl ?_;(try change aF _ _ _ _ _);exact h)(k:p):q:=h k
def jn(h:p->q:=by intro h;(repeat refine aF.seq ?_);refine aF.r0 ii zl ?_;(try change aF _ _ _ _ _);(repeat refine aF.seq ?_);refine aF.Q9 ii zl ?_;exact h)(k:p):q:=h k
def lf(h:p->q:=by intro h;(repeat refine aF.seq ?_);refine aF.no rfl ?_;(try (refine aF.skip ?_;try change aF _ _ _ _ _));(repeat refine aF.seq ?_);refine aF.r0 ii zl ?_;(try change aF _ _ _ _ _);exact h)(k:p):q:=h k
def og(h:p->q:=by intro h;(repeat refine aF.seq ?_);refine aF.r0 ii zl ?_;(try change aF _ _ _ _ _);(repeat refine aF.seq ?_);refine aF.r0 ii zl ?_;(try change aF _ _ _ _ _);exact h)(k:p):q:=h k
def Ma(h:p->q:=by intro h;(repeat refine aF.seq ?_);refine aF.no rfl ?_;(try (refine aF.skip ?_;try change aF _ _ _ _ _));(repeat refine aF.seq ?_);refine aF.Q9 ii zl ?_;exact h)(k:p):q:=h k
def Ec(h:p->q:=by intro h;(repeat refine aF.seq ?_);refine aF.r0 ii zl ?_;(try change aF _ _ _ _ _);(repeat refine aF.seq ?_);refine aF.no rfl ?_;(try (refine aF.skip ?_;try change aF _ _ _ _ _));exact h)(k:p):q:=h k
def wO(h:p->q:=by intro h;(repeat refine aF.seq ?_);refine aF.r0 ii zl ?_;(try change aF _ _ _ _ _);(repeat refine aF.seq ?_);refine aF.yes rfl ?_;(try (refine aF.skip ?_;try change aF _ _ _ _ _));exact h)(k:p):q:=h k
def Ee{a b:Int}(h : -9223372036854775808<=a+b/\a+b<=9223372036854775807)(P:Program)(t:TypeId):dk P .add t (.int .i64 a) (.int .i64 b)=some (.int .i64 (a+b)):=wY h
def QQ{a b:Int}(h : -9223372036854775808<=a-b/\a-b<=9223372036854775807)(P:Program)(t:TypeId):dk P .sub t (.int .i64 a) (.int .i64 b)=some (.int .i64 (a-b)):=Jq h
variable{L:Nat->Prop}{i:Nat}
def iK(h:L i)(v:SV):vo L i v=v:=cJ h
def Vc(h:¬L i)(v:SV):vo L i v=.any:=mY h
def UP(h:L i)(v:SO):wo L i v=v:=oa h
def UO(h:¬L i)(v:SO):wo L i v=.gone:=gg h
def TS{n:Nat}(h:k<=n)(c:Option Nat)(q:IntKind):cQ n c none (some (.int q (k:Int))) none=some (0,k,c):=by
 unfold cQ oy pU;simp only[oI,m7,fc h,d5,an]
def Pg{n:Nat}(h:k<=n)(c:Option Nat)(q:IntKind):cQ n c (some (.int q (k:Int))) none none=some (k,n,c):=by
 unfold cQ oy;simp only[oI,m7,fc h,an]
end
def gz(h:p->q:=by intro h;(repeat refine aF.seq ?_);refine aF.yes rfl ?_;(try (refine aF.skip ?_;try change aF _ _ _ _ _));(repeat refine aF.seq ?_);refine aF.block ?_;exact h)(k:p):q:=h k
def gh(h:p->q:=by intro h;(repeat refine aF.seq ?_);refine aF.no rfl ?_;(try (refine aF.skip ?_;try change aF _ _ _ _ _));refine aF.exit ?_;exact h)(k:p):q:=h k
variable{α:Type}{l:List α}{k:Nat}
def Vd{p0 p1:Prop}(h0:k=l.length->p0)(h1:∀x,l[k]?=some x->k<l.length->p1)(hk:k<=l.length):(decide ((k:Int)<(l.length:Int))=false/\p0)\/(decide ((k:Int)<(l.length:Int))=true/\p1):=by
 by_cases hlt:k<l.length
 ·exact .inr ⟨zt hlt,h1 _ (jp hlt) hlt⟩
 ·exact .inl ⟨wd i4,h0 i4⟩
def zT{p0 p1:Prop}(l:List α)(k:Nat)(h0:k=l.length->p0)(h1:∀x,l[k]?=some x->k<l.length->p1)(h:(k=l.length->p0)->(∀x,l[k]?=some x->k<l.length->p1)->q:=by intro h0 h1;(repeat refine aF.seq ?_);refine aF.r0 ii zl ?_;(try change aF _ _ _ _ _);rcases Vd h0 h1 (by assumption) with⟨e,h⟩ | ⟨e,h⟩;(rw[e];exact h);(rw[e];exact h)):q:=h h0 h1
section
variable {P:Program} {ro:Option Nat} {f:Fm} {n:Nat} {S:List SO} {ds:List js} {Q:Ex->ep->Prop}
variable{fn:Func}{Qr:SV->Prop}
def zo{v r:SV}(rs:List ResultVar)(hg:A8 P fn Qr .ret ⟨f,n,S,[]⟩->Q .ret ⟨f,n,S,[]⟩:=by intro h;(try simp only[eV,dh,cq,bP]);exact h)(hr:fn.results.toList=rs:=by rfl)(h:oM P f S rs=some [v]:=by exact zl)(hw:Wk S v r:=by exact Wk.refl rfl)(hq:Qr r:=by rfl):aF P ro .ret ⟨f,n,S,[]⟩ Q:=aF.ret (hg (A8.of rfl hr h hw hq))
def jW{v w r:SV}(rs:List ResultVar)(hg:A8 P fn Qr .ret ⟨f,n,S,[]⟩->Q .ret ⟨f,n,S,[]⟩:=by intro h;(try simp only[eV,dh,cq,bP]);exact h)(hr:fn.results.toList=rs:=by rfl)(h:oM P f S rs=some [v,w]:=by exact zl)(hw:Wk S (.cA [v,w]) r:=by exact Wk.refl rfl)(hq:Qr r:=by rfl):aF P ro .ret ⟨f,n,S,[]⟩ Q:=aF.ret (hg (A8.of rfl hr h hw hq))
variable{id:Nat}
def Jg{β:Type}(l:List α)(I:Nat->β->Prop)(fr:Nat->β->Fm)(T:Nat->β->List SO)(b0:β){x:Code}(hf:Fg ⟨f,n,S,[]⟩ ⟨fr 0 b0,n,T 0 b0,[]⟩)(h0:I 0 b0)
 (h:∀k b,k<=l.length->I k b->aF P ro x ⟨fr k b,n,T k b,[]⟩ (cq (λm st=>∃k b,k<=l.length/\m=l.length-k/\I k b/\st=⟨fr k b,n,T k b,[]⟩) (l.length-k) (eV id Q))):aF P ro (.block id (.loop x)) ⟨f,n,S,[]⟩ Q:=
 aF.block (aF.loop (λm st=>∃k b,k<=l.length/\m=l.length-k/\I k b/\st=⟨fr k b,n,T k b,[]⟩) l.length hf ⟨0,b0,cg _,rfl,h0,rfl⟩ (by rintro m st ⟨k,b,_,_,_,rfl⟩;rfl) (by rintro m st ⟨k,b,hk,rfl,hI,rfl⟩;exact h k b hk hI))
def xu{β:Type}{I:Nat->β->Prop}{fr:Nat->β->Fm}{T:Nat->β->List SO}{st:ep}(hlt:k<l.length)(b:β)(hf:Fg st ⟨fr (k+1) b,n,T (k+1) b,[]⟩)(hI:I (k+1) b):
 cq (λm st=>∃k b,k<=l.length/\m=l.length-k/\I k b/\st=⟨fr k b,n,T k b,[]⟩) (l.length-k) Q .normal st:=⟨l.length-(k+1),_,by omega,hf,k+1,b,hlt,rfl,hI,rfl⟩
end
def kR(h:p->q:=by intro h;(repeat (first | refine eP.ri ii rfl ii rfl zl zl (by first | exact trivial | ((simp only[ic])<;>(repeat' apply And.intro)<;>first | exact True.intro | exact .inr rfl | (refine .inr ?_;simp only[cN,bL,ak,aB,m7,m6,↓reduceIte,Nat.reduceEqDiff,Nat.reduceAdd,Nat.reduceMul,Nat.reduceLeDiff,Nat.reduceLT,an,au,bn,aO];first | done | rfl) | exact .inl (by kernel_rfl))) ?_ | refine eP.r ii rfl ii ii zl ?_ (by first | exact trivial | ((simp only[ic])<;>(repeat' apply And.intro)<;>first | exact True.intro | exact .inr rfl | (refine .inr ?_;simp only[cN,bL,ak,aB,m7,m6,↓reduceIte,Nat.reduceEqDiff,Nat.reduceAdd,Nat.reduceMul,Nat.reduceLeDiff,Nat.reduceLT,an,au,bn,aO];first | done | rfl) | exact .inl (by kernel_rfl))) | refine eP.rg ii rfl ii rfl (by intro S_;simp only[cN,bL,ak,aB,m7,m6,↓reduceIte,Nat.reduceEqDiff,Nat.reduceAdd,Nat.reduceMul,Nat.reduceLeDiff,Nat.reduceLT,an,au,bn];first | done | rfl) (by first | exact trivial | ((simp only[ic])<;>(repeat' apply And.intro)<;>first | exact True.intro | exact .inr rfl | (refine .inr ?_;simp only[cN,bL,ak,aB,m7,m6,↓reduceIte,Nat.reduceEqDiff,Nat.reduceAdd,Nat.reduceMul,Nat.reduceLeDiff,Nat.reduceLT,an,au,bn,aO];first | done | rfl) | exact .inl (by kernel_rfl))) ?_ | refine eP.s ii rfl ii rfl ?_ | fail));exact h)(k:p):q:=h k
def xf(f:r)(h:r->p->q:=by intro f h;(repeat (first | refine eP.ri ii rfl ii rfl (mr @f) (mr @f) (by first | exact trivial | ((simp only[ic])<;>(repeat' apply And.intro)<;>first | exact True.intro | exact .inr rfl | (refine .inr ?_;simp only[cN,bL,ak,aB,m7,m6,↓reduceIte,Nat.reduceEqDiff,Nat.reduceAdd,Nat.reduceMul,Nat.reduceLeDiff,Nat.reduceLT,an,au,bn,aO,f];first | done | rfl) | exact .inl (by kernel_rfl))) ?_ | refine eP.r ii rfl ii ii (mr @f) ?_ (by first | exact trivial | ((simp only[ic])<;>(repeat' apply And.intro)<;>first | exact True.intro | exact .inr rfl | (refine .inr ?_;simp only[cN,bL,ak,aB,m7,m6,↓reduceIte,Nat.reduceEqDiff,Nat.reduceAdd,Nat.reduceMul,Nat.reduceLeDiff,Nat.reduceLT,an,au,bn,aO,f];first | done | rfl) | exact .inl (by kernel_rfl))) | refine eP.rg ii rfl ii rfl (by intro S_;simp only[cN,bL,ak,aB,m7,m6,↓reduceIte,Nat.reduceEqDiff,Nat.reduceAdd,Nat.reduceMul,Nat.reduceLeDiff,Nat.reduceLT,an,au,bn,f];first | done | rfl) (by first | exact trivial | ((simp only[ic])<;>(repeat' apply And.intro)<;>first | exact True.intro | exact .inr rfl | (refine .inr ?_;simp only[cN,bL,ak,aB,m7,m6,↓reduceIte,Nat.reduceEqDiff,Nat.reduceAdd,Nat.reduceMul,Nat.reduceLeDiff,Nat.reduceLT,an,au,bn,aO,f];first | done | rfl) | exact .inl (by kernel_rfl))) ?_ | refine eP.s ii rfl ii rfl ?_ | fail));exact h)(k:p):q:=h f k
def kN(h:p->q:=by intro h;refine eP.nil ?_;(try change aF _ _ _ _ _);exact h)(k:p):q:=h k
section
variable {G:List Nat} {P:Program} {ro:Option Nat} {all:List Oper} {ms:List Nat} {n:Nat} {b:Bool} {hp:List Nat} {l:List (Nat×Oper)} {f:Fm} {S:List SO} {K:Fm->List SO->Prop} {i:Nat} {o:Oper} {d:Nat} {f0:Fm} {kl:List (Nat×Nat)} {Q:Ex->ep->Prop}
variable{id:Nat}
def kZ{ops:Array Oper}{st:ep}{ol:List Oper}(ms:List Nat)(h:eP [] P ro ol ms st.n st.f [] true [] (cw 0 ol) st.f st.S λf' S'=>Q .normal ⟨f',st.n,S',st.ds⟩)(hol:ops.toList=ol:=by rfl)(hms:mJ ol []=ms:=by kernel_rfl)(hok:((jx 0 ol&&P.follows .mixedOrders)&&(vG ol ms (cw 0 ol)&&EG [] ms (cw 0 ol)))=true:=by kernel_rfl):aF P ro (.region id ops true) st Q:=aF.MW hol hms hok h
variable{S':List SO}
def kA{f':Fm}{v:SV}(T:List Nat)(hst:dn all n [o]=true:=by rfl)(hdst:o.dst=some d:=by rfl)(hw:bX all f o.guard=some true:=by rfl)(hwr:cB G i o.op=true:=by rfl)(hms:hp.all (λj=>bM (ms.getD i 0) j)=true:=by kernel_rfl)(hT:((uc all ms i).all λt=>T.contains t)=true:=by kernel_rfl)
 (hop:dx P f S o.op=some (v,S',some k):=by exact zl) (hf:bZ k f=f':=by simp only[gx,bL,ak,↓reduceIte,Nat.reduceEqDiff,Nat.reduceAdd,Nat.reduceSub,Nat.reduceMul,Nat.reduceLeDiff,Nat.reduceLT,bZ,cy,bI,aO,cN];first | done | rfl) (ht:xn f0 f k T:=by (simp only[xn])<;>(repeat' apply And.intro)<;>first | exact True.intro | rfl | (simp only[gx,bL,ak,↓reduceIte,Nat.reduceEqDiff,Nat.reduceAdd,Nat.reduceSub,Nat.reduceMul,Nat.reduceLeDiff,Nat.reduceLT,bZ,cy,bI,aO,cN];first | done | rfl)) (hkl:ic ms i v kl:=by first | exact trivial | ((simp only[ic])<;>(repeat' apply And.intro)<;>first | exact True.intro | exact .inr rfl | (refine .inr ?_;simp only[cN,bL,ak,aB,m7,m6,↓reduceIte,Nat.reduceEqDiff,Nat.reduceAdd,Nat.reduceMul,Nat.reduceLeDiff,Nat.reduceLT,an,au,bn,aO];first | done | rfl) | exact .inl (by kernel_rfl))) (h:eP G P ro all ms n f0 ((i,k)::kl) false hp l ((d,v)::f') S' K):eP G P ro all ms n f0 kl b hp ((i,o)::l) f S K:=.a T hst hdst hw hwr hms hT hop hf ht hkl h
end
def rJ(b:Nat):Nat:=
 bif dL b then 3 else bif ble 48 b&&ble b 57 then 4 else bif beq b 35 then 2 else bif beq b 95 then 5 else bif beq b 34 then 7 else
 bif [32,9,10].any (beq b) then 1 else bif [59,44,46,58,40,41,123,125,91,93,61,60,62,47,43,45,42].any (beq b) then 6 else 0
def Hv:List AV:=(cv 256).map λb=>AV.int .u8 (Int.ofNat (rJ b))
def MO:Hv.length=256:=by simp[Hv]
def MN(b:Nat)(h:b<256):Hv[b]?=some (.int .u8 (rJ b:Int)):=by
 unfold Hv;rw[ap,d6 h];rfl
def Lg(s:List Nat)(h:cZ s=true):∀(i b:Nat),s[i]?=some b->kH b=true:=by
 intro i b hi
 cases s with
 | nil=>simp at hi
 | cons a l=>
  simp only[cZ,al] at h
  cases i with
  | zero=>simp at hi;subst hi;unfold kH;rw[h.1];rfl
  | succ i=>
   rw[dl] at hi;exact all_eq_true.1 h.2.1 b (ci hi)
def NF(s:List Nat)(h:∀(i b:Nat),s[i]?=some b->kH b=true)(b:Nat)(h0:s[0]?=some b):cZ s=(decide (s.length<=24)&&dL b):=by
 cases s with
 | nil=>simp at h0
 | cons a l=>
  simp at h0;subst h0
  have:l.all kH=true:=by
   rw[all_eq_true];intro x hx;obtain⟨i,hi⟩:=mem_iff_getElem?.1 hx;exact h (i+1) x (by rw[dl];exact hi)
  simp only[cZ,this,cp,i7]
  have e:ble l.length 23=decide (l.length+1<=24):=by
   by_cases hl:l.length<=23
   ·rw[fc hl];simp;omega
   ·have:ble l.length 23=false:=by
     cases hb:ble l.length 23
     ·rfl
     ·exact un (jd hb) hl
    rw[this];simp;omega
  rw[e,Bool.and_comm]
def MP:∀b,b<256->(decide (rJ b=3)=dL b)/\((decide (rJ b=3)||(decide (rJ b=4)||decide (rJ b=5)))=kH b):=by decide +kernel
def PU(s:List Nat)(b:Nat)(h0:s[0]?=some b)(h:dL b=false):cZ s=false:=by
 cases s with
 | nil=>rfl
 | cons a l=>simp at h0;subst h0;simp only[cZ,h,cc]
abbrev OU(b:Nat):SV:=.a (.int .u8 (b:Int))
def LP(s:List Nat)(b:Nat)(hb:b<256):PC prog 322 [ah s,OU b] (·=ab (fO b s 0)):=
 PC.of (xs:=[.str s,.int .u8 (b:Int)]) (λh=>dZ.T1 G3 (by
  show cond (blt b 256) (some (AV.int .i64 (fO b s 0),h)) none=_
  rw[show blt b 256=true from KA hb];rfl)) λρ avs ha=>by
  rw[dQ] at ha;obtain⟨a,r,rfl,h1,ha⟩:=ha;rw[dQ] at ha;obtain⟨a2,r,rfl,h2,ha⟩:=ha;rw[GS] at h1 h2;rw[eU] at ha;rw[h1,h2,ha]
def LO(s:List Nat)(b:Nat)(hb:b<256):PC prog 304 [ah s,OU b] (·=ab (fO b s 0)):=by
 refine pB 8 Tryz.func304 ?_;exact(jn)<|(zK (LP s b hb))<|(zR)<|zo [.tmp 4]
def BY(s:List Nat)(b:Nat)(hb:b<256):PC prog 256 [ah s,OU b] (·=ab (fO b s 0)):=by
 refine pB 8 Tryz.func256 ?_;exact(jn)<|(zK (LO s b hb))<|(zR)<|zo [.tmp 4]
def xQ(b:Nat):Nat:=bif dL b then 3 else bif ble 48 b&&ble b 57 then 4 else bif decide (0<=fO b [32,9,10] 0) then 1 else bif decide (0<=fO b [59,44,46,58,40,41,123,125,91,93,61,60,62,47,43,45,42] 0) then 6 else 0
def kX(k:Nat):List SV:=(cv 256).map λi=>OU (if i<k then xQ i else 0)
def Jh:List SV:=(cv 256).map λ_=>OU 0
def tO(k:Nat):(kX k).length=256:=by simp[kX]
def R7(hk:k<256):(kX k).take k++(OU (xQ k)::(kX k).drop (k+1))=kX (k+1):=by
 have h:(kX k).set k (OU (xQ k))=kX (k+1):=by
  apply List.ext_getElem?;intro i;by_cases hik:k=i
  ·subst hik;rw[List.getElem?_set_self (by rw[tO];exact hk)];unfold kX;rw[ap,d6 hk];simp
  ·rw[List.getElem?_set_ne hik];unfold kX;rw[ap,ap]
   cases hr:(cv 256)[i]? with
   | none=>rfl
   | some j=>
    have hj:j=i:=by
     obtain⟨h1,h2⟩:=rt hr;simpa using h2.symm
    subst hj;simp only[m6];by_cases h:j<k
    ·rw[ut h,ut i4]
    ·rw[v6 h,v6 i4]
 rw[<-h,bB,ut (by rw[tO];exact hk)]
def R6(hk:k<256)(h:xQ k=0):kX (k+1)=kX k:=by
 unfold kX;refine List.map_congr_left λi _=>?_;by_cases hik:i<k
 ·rw[ut hik,ut i4]
 ·rw[v6 hik];by_cases he:i=k
  ·subst he;rw[ut i4,h]
  ·rw[v6 i4]
def Pq(hk:k<256):mC prog 3 5 (.int .i64 (k:Int))=some (.int .u8 (k:Int)):=by
 have h1:mC prog 3 5 (.int .i64 (k:Int))=some (.int .u8 (dX .u8 (k:Int))):=by kernel_rfl
 rw[h1]
 congr 2
 have h2:(uz 0 (k:Int)&&uz (k:Int) 255)=true:=by rw[gp,gp];simp;omega
 simp only[dX,PR,PE,h2,an]
def AK:PC prog 184 [] (·=.ag (Hv.map SV.a)):=by
 refine pB 50 Tryz.func184 ?_;refine(og)<|(zV) ?_
 have hl:(cv 256).length=256:=List.length_range
 have hlen:(cv 256).length<=1000000:=by rw[hl];decide
 refine zA [(0,.ptr 0 0),(1,.ptr 1 0),(4,ab 0)] [.cells Jh,.cells (kX 0)] (by exact zH)<|(zs) ?_;refine zL (cv 256) (λk=>True) (λk=>[(0,.ptr 0 0),(1,.ptr 1 0),(4,ab k)]) (λk=>[.cells Jh,.cells (kX k)]) zH zp ?_;intro k hk hall
 by_cases hlt:k<(cv 256).length
 ·have hk6:k<256:=by rw[<-hl];exact hlt
  have hk7:k+1<=256:=hk6;have e1:decide ((97:Int)<=(k:Int))=ble 97 k:=qV 97 k;have e2:decide ((k:Int)<=122)=ble k 122:=qV k 122;have e3:decide ((65:Int)<=(k:Int))=ble 65 k:=qV 65 k;have e4:decide ((k:Int)<=90)=ble k 90:=qV k 90;have e5:decide ((48:Int)<=(k:Int))=ble 48 k:=qV 48 k;have e6:decide ((k:Int)<=57)=ble k 57:=qV k 57;have hset:=R7 hk6;have hrl:=tO k
  refine(aA (show decide ((k:Int)<256)=true by simp only[wp];omega))<|(gz)<|(zV)<|(aA (Pq hk6))<|(zB) ?_;refine aF.seq ?_;refine aF.mono (Q:=λex st=>ex=.normal/\Fg st ⟨[(0,.ptr 0 0),(1,.ptr 1 0),(2,ab k),(3,OU k),(4,ab k),(9,ai (dL k))],50,[.cells Jh,.cells (kX k)],[]⟩) ?_ ?_
  ·unfold dL;cases h1:ble 97 k<;>cases h2:ble k 122<;>cases h3:ble 65 k<;>cases h4:ble k 90
   all_goals
    rw[h1] at e1;rw[h2] at e2;rw[h3] at e3;rw[h4] at e4;refine(aA (bx e1 e2)) ?_
    first
     | (
      refine(zN) ?_
      refine(aA (bx e3 e4)) ?_;exact⟨rfl,zH⟩)
     | (
      refine(zY) ?_
      exact⟨rfl,zH⟩)
  rintro ex st ⟨rfl,hf⟩;refine aF.fg hf ?_;clear hf
  (try change aF _ _ _ _ _)
  cases hL:dL k;rotate_left
  ·have hc:xQ k=3:=by unfold xQ;rw[hL];rfl
   rw[hc] at hset;change (kX k).take k++(SV.a (.int .u8 3)::(kX k).drop (k+1))=_ at hset
   refine(zY)<|(aA (na hk6 hk7 hrl @ck hset))<|(aA (zi hlt hlen)) ?_;refine zX hlt zH trivial
  have c0:xQ k=bif ble 48 k&&ble k 57 then 4 else bif decide (0<=fO k [32,9,10] 0) then 1 else bif decide (0<=fO k [59,44,46,58,40,41,123,125,91,93,61,60,62,47,43,45,42] 0) then 6 else 0:=by unfold xQ;rw[hL];rfl
  clear hL e1 e2 e3 e4;refine(zN) ?_
  (repeat refine aF.seq ?_)
  refine aF.mono (Q:=λex st=>ex=.normal/\Fg st ⟨[(0,.ptr 0 0),(1,.ptr 1 0),(2,ab k),(3,OU k),(4,ab k),(24,ai (ble 48 k&&ble k 57))],50,[.cells Jh,.cells (kX k)],[]⟩) ?_ ?_
  ·cases h5:ble 48 k<;>cases h6:ble k 57
   all_goals
    rw[h5] at e5;rw[h6] at e6;refine(aA (bx e5 e6)) ?_;exact⟨rfl,zH⟩
  rintro ex st ⟨rfl,hf⟩;refine aF.fg hf ?_;clear hf e5 e6
  (try change aF _ _ _ _ _)
  cases hD:ble 48 k&&ble k 57;rotate_left
  ·rw[hD] at c0;rw[show xQ k=4 from c0] at hset;change (kX k).take k++(SV.a (.int .u8 4)::(kX k).drop (k+1))=_ at hset
   refine(zY)<|(aA (na hk6 hk7 hrl @ck hset))<|(aA (zi hlt hlen)) ?_;refine zX hlt zH trivial
  rw[hD] at c0
  refine(Ma)<|(zK (BY [32,9,10] k hk6))<|(zR) ?_
  cases hB:decide (0<=fO k [32,9,10] 0);rotate_left
  ·rw[hB] at c0;rw[show xQ k=1 from c0] at hset;change (kX k).take k++(SV.a (.int .u8 1)::(kX k).drop (k+1))=_ at hset
   refine(zY)<|(aA (na hk6 hk7 hrl @ck hset))<|(aA (zi hlt hlen)) ?_;refine zX hlt zH trivial
  rw[hB] at c0
  refine(Ma)<|(zK (BY [59,44,46,58,40,41,123,125,91,93,61,60,62,47,43,45,42] k hk6))<|(zR) ?_
  cases hS:decide (0<=fO k [59,44,46,58,40,41,123,125,91,93,61,60,62,47,43,45,42] 0);rotate_left
  ·rw[hS] at c0;rw[show xQ k=6 from c0] at hset;change (kX k).take k++(SV.a (.int .u8 6)::(kX k).drop (k+1))=_ at hset
   refine(zY)<|(aA (na hk6 hk7 hrl @ck hset))<|(aA (zi hlt hlen)) ?_;refine zX hlt zH trivial
  rw[hS] at c0;have hs0:=R6 hk6 c0;refine(zN) ?_
  (try (refine aF.skip ?_))
  refine(aA (zi hlt hlen)) ?_;refine zX hlt (cm hs0) trivial
 ·obtain rfl:k=256:=by omega
  refine(aA (show decide (((256:Nat):Int)<256)=false from rfl))<|(gh) ?_
  have set_at:∀{l:List SV} {i:Nat} (v:SV),i<l.length->l.take i++(v::l.drop (i+1))=l.set i v:=λv h=>by rw[bB,ut h]
  have hfin:(((kX 256).set 35 (.a (.int .u8 2))).set 95 (.a (.int .u8 5))).set 34 (.a (.int .u8 7))=Hv.map SV.a:=by kernel_rfl
  have l0:=tO 256
  have hz0:Jh.length=256:=by simp[Jh]
  generalize kX 256=R at hfin l0 ⊢;have s1:=set_at (l:=R) (i:=35) (.a (.int .u8 2)) i4
  have l1:(R.set 35 (.a (.int .u8 2))).length=256:=by rw[d3];exact l0
  generalize R.set 35 (.a (.int .u8 2))=R1 at hfin s1 l1;have s2:=set_at (l:=R1) (i:=95) (.a (.int .u8 5)) i4
  have l2:(R1.set 95 (.a (.int .u8 5))).length=256:=by rw[d3];exact l1
  generalize R1.set 95 (.a (.int .u8 5))=R2 at hfin s2 l2;have s3:=set_at (l:=R2) (i:=34) (.a (.int .u8 7)) i4
  have l3:(R2.set 34 (.a (.int .u8 7))).length=256:=by rw[d3];exact l2
  generalize R2.set 34 (.a (.int .u8 7))=R3 at hfin s3 l3;have t3:R3.take 256=R3:=dE i4;have d0:Jh.drop 256=[]:=dv i4;refine(aA (MM (show dj (.int .i64 35)=some 35 from rfl) (show dj (.int .i64 95)=some 95 from rfl) (show dj (.int .i64 34)=some 34 from rfl) l0 l1 l2 @ck s1 s2 s3)) ?_
  have ho:R3.all eM=true:=by rw[hfin];kernel_rfl
  refine(aA (OV l3 t3 ho hz0 d0 @List.append_nil.{0} @List.take_zero.{0} @List.nil_append.{0} @am)) ?_;subst hfin;exact zo [.cell 0 241] (h:=mr (bx l3 t3))
def drop_cons{x:α}(h:l[k]?=some x):l.drop k=x::l.drop (k+1):=by
 obtain⟨hlt,he⟩:=rt h;rw[ct hlt,he]
def AX(s:List Nat)(hs:s.length<=1000000)(hb:∀b∈s,b<256):PC prog 101 [ah s] (·=ai (cZ s)):=by
 refine pB 39 Tryz.func101 ?_;have hcl:=AK;obtain⟨C,hC⟩:∃C,C=Hv.map SV.a:=⟨_,rfl⟩
 have ho:C.all eM=true:=by rw[hC];kernel_rfl
 have hl:C.length=256:=by rw[hC,er,MO]
 have hg:bV C=true:=by rw[hC];kernel_rfl
 have hfl:vB (.ag C)=true:=by rw[hC];kernel_rfl
 have hCg:∀b,b<256->C[b]?=some (OU (rJ b)):=λb h=>by rw[hC,ap,MN b h];rfl
 rw[<-hC] at hcl;clear hC;have ht:C.take 256=C:=dE i4;have hnk:=λo:Nat=>cr (o:=o) hg;have hkk:=λo:Nat=>bU (o:=o) hg
 refine(jn)<|(zK hcl (hfl:=.inl hfl)) ?_;refine aK.r0 ii (by simp only[cN,bL,ak,aB,m7,m6,↓reduceIte,aa,ad,af,ac,aj,an,au,bn,hl,ho,ht,hkk,hnk,er,List.length_replicate,dv,List.append_nil,am];first | done | rfl) ?_;refine zZ [(0,ah s),(3,.ip C)] 0 rfl ⟨.inl rfl,.inr (.ptr rfl (cC.refl hg) (cg _)),trivial⟩<|zA [(0,ah s),(3,.ip C)] [] zH<|(zV)<|(zs) ?_;refine zL s (λk=>((∀(i b:Nat),i<k->s[i]?=some b->kH b=true)/\(0<k->∀b,s[0]?=some b->dL b=true))) (λk=>[(0,ah s),(3,.ip C),(8,ab s.length),(9,ab k)]) (λk=>[]) zH (by exact⟨λi b h=>un h (a0 _),λh=>un h (a0 _)⟩) ?_;intro k hk hall;refine zT s k ?_ ?_;rintro rfl;rotate_left;intro b hx hlt;rotate_left
 ·refine(gh) ?_
  cases hs0:s with
  | nil=>
   exact(aA (show decide (([]:List Nat)=[])=true from rfl))<|zo [.tmp 2]
  | cons b l=>
   have h0:s[0]?=some b:=by rw[hs0];rfl
   have hlt0:0<s.length:=by rw[hs0];exact ef _
   have hn:=NF s (λi b' hb'=>hall.1 i b' (rt hb').1 hb') b h0;rw[hall.2 hlt0 b h0,cn,hs0] at hn;have c2:decide ((b::l)=[])=false:=rfl;cases c3:decide (((b::l).length:Int)<=24)
   ·have e24:decide ((b::l).length<=24)=false:=by have:=wt c3;simp only[wn];omega
    exact(aA (bx c2 c3))<|zo [.tmp 2] (hq:=by rw[hn,e24])
   ·have e24:decide ((b::l).length<=24)=true:=by have:=ww c3;simp only[wp];omega
    exact(aA (bx c2 c3))<|zo [.tmp 2] (hq:=by rw[hn,e24])
 have hb6:=hb b (ci hx);obtain⟨sp1,sp2⟩:=MP b hb6;have hdr:=drop_cons (hCg b hb6)
 have hbl:b<=C.length:=by omega
 have q3:decide ((rJ b:Int)=3)=dL b:=by rw[<-sp1];simp only[decide_eq_decide];omega
 have q4:decide ((rJ b:Int)=4)=decide (rJ b=4):=by simp only[decide_eq_decide];omega
 have q5:decide ((rJ b:Int)=5)=decide (rJ b=5):=by simp only[decide_eq_decide];omega
 rw[sp1] at sp2
 refine(gz)<|(zV)<|(aA (xO hx (show dj (.int .u8 (Int.ofNat b))=some b from rfl) @ck hb6 hbl hdr))<|zA [(0,ah s),(3,.ip C),(4,ab k),(5,.a (.int .u8 (rJ b:Int))),(8,ab s.length),(9,ab k)] [] zH ?_
 generalize (rJ b:Int)=cb at q3 q4 q5 ⊢;generalize decide (rJ b=4)=c4 at sp2 q4;generalize decide (rJ b=5)=c5 at sp2 q5
 have m3:dk prog .neq 5 (.int .u8 cb) (.int .u8 3)=some (.bool (!dL b)):=by rw[<-q3];exact sL rfl
 have m4:dk prog .neq 5 (.int .u8 cb) (.int .u8 4)=some (.bool (!c4)):=by rw[<-q4];exact sL rfl
 have m5:dk prog .neq 5 (.int .u8 cb) (.int .u8 5)=some (.bool (!c5)):=by rw[<-q5];exact sL rfl
 clear q3 q4 q5
 have hmore:kH b=true->∀(i b':Nat),i<k+1->s[i]?=some b'->kH b'=true:=λhm i b' hi hb'=>by
  by_cases e:i=k
  ·subst e;rw[hx] at hb';cases hb';exact hm
  ·exact hall.1 i b' i4 hb'
 have hfirst:(k=0->dL b=true)->0<k+1->∀b',s[0]?=some b'->dL b'=true:=λh _ b' hb'=>by
  by_cases hk0:k=0
  ·subst hk0;rw[hx] at hb';cases hb';exact h rfl
  ·exact hall.2 i4 b' hb'
 cases hL:dL b;rotate_left
 ·rw[hL] at m3 sp2
  refine(aA m3)<|(zN)<|(aA (zi hlt hs)) ?_;refine zX hlt zH (⟨hmore sp2.symm,hfirst λ_=>hL⟩)
 rw[hL] at m3 sp2;by_cases hk0:k=0
 ·have hn:cZ s=false:=PU s b (by rw[<-hk0];exact hx) hL
  exact(aA (bx m3 (show decide ((k:Int)=0)=true by simp only[wp];omega)))<|(cL)<|zo [.tmp 2] (hq:=by rw[hn])
 have k0:=show decide ((k:Int)=0)=false by simp only[wn];omega
 have hbad:kH b=false->cZ s=false:=λhm=>by
  cases hc:cZ s
  ·rfl
  ·rw[Lg s hc k b hx] at hm;cases hm
 cases c4
 ·cases c5
  ·have hn:=hbad sp2.symm
   exact(aA (gr m3 m4 m5 k0))<|(cL)<|zo [.tmp 2] (hq:=by rw[hn])
  ·refine(aA (gr m3 m4 m5 k0))<|(zN)<|(aA (zi hlt hs)) ?_;refine zX hlt zH (⟨hmore sp2.symm,hfirst λh=>un h hk0⟩)
 ·refine(aA (cO m3 m4 k0))<|(zN)<|(aA (zi hlt hs)) ?_;refine zX hlt zH (⟨hmore sp2.symm,hfirst λh=>un h hk0⟩)
structure jS where
 name:List Nat
 kinds:List (List Nat)
 normal:Int
structure aU where
 name:List Nat
 vehicle:Bool
 bN:List jS
def bJ(s:jS):List SV:=[ah s.name,ak 1 s.kinds (aG ah),ab s.normal]
def aq(k:aU):List SV:=[ah k.name,ai k.vehicle,ak 3 k.bN bJ]
def JD (h:p:=by
  refine pB 19 vaa ?_;refine(aA @ak.eq_1)<|(zV)<|(zs) ?_;refine zL l (λk=>∀(i:Nat) y,i<k->l[i]?=some y->p y=false) (λk=>[(0,.sl l.length vab (l.flatMap vac)),(1,.fn fid first cap),(7,ab l.length),(8,ab k)]) (λk=>[]) zH zp ?_;intro k hk hall;refine zT l k ?_ ?_;rintro rfl;rotate_left;intro x hx hlt;rotate_left
  ·exact(gh)<|(zV)<|zo [.tmp 4] (hq:=by rw[hY hall])
  ·refine(gz)<|(zV)<|(e9 (cO hlt (aT (e:=vab) (enc:=vac) gc hx) @vad))<|(zK (hp x (List.mem_iff_getElem?.2 ⟨k,hx⟩)) (hwk:=((cC.refl hg.1).app zr).app (cC.refl hg.2))) ?_;refine aK.nil ?_
   change aF _ _ _ _ _;cases hpx:p x
   ·refine(zN)<|(aA (zi hlt hlen)) ?_;refine zX hlt zH ?_
    intro i y hi hy;by_cases hik:i=k
    ·subst hik;rw[hx] at hy;cases hy;exact hpx
    ·exact hall i y (by ((try simp only[vab] at *)<;>omega)) hy
   ·exact(cL)<|zo [.tmp 4] (hq:=by rw[lQ hx hpx hall])):p:=h
variable{fid:FuncId}{first:List SV}{cap:List SV}
open Go.Proofs.Tryz renaming func124 -> vaa in
open Go.Ev renaming Q5 -> vab in
open Go.Proofs renaming aq -> vac in
def DG{l:List (aU)}(p:aU->Bool)(hlen:l.length<=1000000)(hp:∀x∈l,PC prog fid ((first++[.ag (aq x)])++cap) (·=ai (p x)))(hg:bV first=true/\bV cap=true):PC prog 124 [ak 3 l aq,.fn fid first cap] (·=ab (fP p l)):=by
 have vad:=@aq.eq_1;exact JD
open Go.Proofs.Tryz renaming func284 -> vaa in
open Go.Ev renaming Q5 -> vab in
open Go.Proofs renaming bJ -> vac in
def DJ{l:List (jS)}(p:jS->Bool)(hlen:l.length<=1000000)(hp:∀x∈l,PC prog fid ((first++[.ag (bJ x)])++cap) (·=ai (p x)))(hg:bV first=true/\bV cap=true):PC prog 284 [ak 3 l bJ,.fn fid first cap] (·=ab (fP p l)):=by
 have vad:=@bJ.eq_1;exact JD
def qK{l:List (List Nat)}(p:List Nat->Bool)(hlen:l.length<=1000000)(hp:∀x∈l,PC prog fid ((first++[ah x])++cap) (·=ai (p x)))(hg:bV first=true/\bV cap=true):PC prog 262 [ak 1 l (aG ah),.fn fid first cap] (·=ab (fP p l)):=by
 refine pB 19 Tryz.func262 ?_;refine(aA @ak.eq_1)<|(zV)<|(zs) ?_;refine zL l (λk=>∀(i:Nat) y,i<k->l[i]?=some y->p y=false) (λk=>[(0,.sl l.length 1 (l.flatMap (aG ah))),(1,.fn fid first cap),(7,ab l.length),(8,ab k)]) (λk=>[]) zH zp ?_;intro k hk hall;refine zT l k ?_ ?_;rintro rfl;rotate_left;intro x hx hlt;rotate_left
 ·exact(gh)<|(zV)<|zo [.tmp 4] (hq:=by rw[hY hall])
 ·refine(gz)<|(zV)<|(e9 (cO hlt (aT (e:=1) (enc:=(aG ah)) gc hx) @aG.eq_1))<|(zK (hp x (mem_iff_getElem?.2 ⟨k,hx⟩)) (hwk:=((cC.refl hg.1).app zr).app (cC.refl hg.2))) ?_;refine aK.nil ?_
  change aF _ _ _ _ _;cases hpx:p x
  ·refine(zN)<|(aA (zi hlt hlen)) ?_;refine zX hlt zH ?_
   intro i y hi hy;by_cases hik:i=k
   ·subst hik;rw[hx] at hy;cases hy;exact hpx
   ·exact hall i y i4 hy
  ·exact(cL)<|zo [.tmp 4] (hq:=by rw[lQ hx hpx hall])
def AW(s:List Nat):PC prog 54 [.ag [ah s,.any,.any]] (·=ah s):=by
 refine pB 5 Tryz.func54 ?_;exact(og)<|zo [.tmp 2]
def AZ(s:List Nat):PC prog 235 [.ag [ah s,.any,.any]] (·=ah s):=by
 refine pB 5 Tryz.func235 ?_;exact(og)<|zo [.tmp 2]
def GC(k:aU)(s:List Nat):PC prog 125 [.ag (aq k),.ip [.fn 54 [] []],.ip [ah s]] (·=ai (decide (k.name=s))):=by
 refine pB 10 Tryz.func125 ?_;refine(aA @aq.eq_1)<|(zs) ?_;refine oe [0,0,3,0,15,31] ?_;refine(zD) ?_;refine SD.k ii rfl rfl ii rfl rfl zc (AW k.name) (.cons (.ag (.cons (.a _) (.cons (.any _) (.cons (.any _) .nil)))) .nil) rfl ?_;exact(zD)<|(zM)<|zo [.tmp 4]
def GM(k:jS)(s:List Nat):PC prog 285 [.ag (bJ k),.ip [.fn 235 [] []],.ip [ah s]] (·=ai (decide (k.name=s))):=by
 refine pB 10 Tryz.func285 ?_;refine(aA @bJ.eq_1)<|(zs) ?_;refine oe [0,0,3,0,15,31] ?_;refine(zD) ?_;refine SD.k ii rfl rfl ii rfl rfl zc (AZ k.name) (.cons (.ag (.cons (.a _) (.cons (.any _) (.cons (.any _) .nil)))) .nil) rfl ?_;exact(zD)<|(zM)<|zo [.tmp 4]
def DK(l:List aU)(s:List Nat)(hlen:l.length<=1000000):PC prog 53 [ak 3 l aq,.fn 54 [] [],ah s] (·=ab (fP (λk=>decide (k.name=s)) l)):=by
 refine pB 10 Tryz.func53 ?_;exact(jn)<|(zK (DG (λk=>decide (k.name=s)) (first:=[]) (cap:=[.ip [.fn 54 [] []],.ip [ah s]]) hlen (λx _=>GC x s) ⟨rfl,rfl⟩))<|(zR)<|zo [.tmp 6]
def D1(l:List jS)(s:List Nat)(hlen:l.length<=1000000):PC prog 234 [ak 3 l bJ,.fn 235 [] [],ah s] (·=ab (fP (λk=>decide (k.name=s)) l)):=by
 refine pB 10 Tryz.func234 ?_;exact(jn)<|(zK (DJ (λk=>decide (k.name=s)) (first:=[]) (cap:=[.ip [.fn 235 [] []],.ip [ah s]]) hlen (λx _=>GM x s) ⟨rfl,rfl⟩))<|(zR)<|zo [.tmp 6]
def tl(p:α->Bool)(l:List α):(fP p l = -1/\l.find? p=none)\/∃(k:Nat) (x:α),fP p l=(k:Int)/\k<l.length/\l[k]?=some x/\l.find? p=some x:=by
 unfold fP
 cases hf:l.findIdx? p with
 | none=>
  rw[List.findIdx?_eq_none_iff] at hf;exact .inl ⟨rfl,by rw[dd];intro x hx;rw[hf x hx];decide⟩
 | some k=>
  obtain⟨hlt,h1,h2⟩:=List.findIdx?_eq_some_iff_getElem.1 hf;refine .inr ⟨k,l[k],rfl,hlt,jp hlt,?_⟩;rw[List.find?_eq_some_iff_getElem];exact⟨h1,k,hlt,rfl,λj hj=>by simpa using h2 j hj⟩
def aU.zero:aU:=⟨[],false,[]⟩
def jS.zero:jS:=⟨[],[],0⟩
def dU(l:List aU)(s:List Nat):Option aU:=l.find? λk=>decide (k.name=s)
def pj(l:List jS)(s:List Nat):Option jS:=l.find? λk=>decide (k.name=s)
def iU(enc:α->List SV)(z:α):Option α->SV
 | some x=>.cA [.ag (enc x),ai true]
 | none=>.cA [.ag (enc z),ai false]
def kC(l:List aU)(s:List Nat)(hlen:l.length<=1000000):PC prog 16 [.ag [ak 3 l aq],ah s] (·=iU aq aU.zero (dU l s)):=by
 refine pB 19 Tryz.func16 ?_;refine(jn)<|(zK (DK l s hlen))<|(zR) ?_
 rcases tl (λk:aU=>decide (k.name=s)) l with⟨h1,h2⟩ | ⟨k,x,h1,hlt,hx,h2⟩
 ·rw[h1]
  refine(wO)<|(zV)<|(zE) ?_;exact A8.of (rs:=[.cell 4 61,.tmp 5]) (r:=.cA [.ag [ah [],ai false,.sl 0 3 []],ai false]) rfl rfl zl zv (by (try simp only[ez,bK]);first | done | (unfold dU;rw[h2];rfl))
 ·rw[h1]
  exact(aA (show decide ((k:Int)<0)=false by simp))<|(zN)<|(aA (cO hlt (aT (e:=3) (enc:=aq) gc hx) @aq.eq_1))<|jW [.cell 4 61,.tmp 5] (hq:=by unfold dU;rw[h2];rfl)
def Ad(l:List aU)(kind name:List Nat)(hlen:l.length<=1000000)(hs:∀k∈l,k.bN.length<=1000000):PC prog 150 [.ag [ak 3 l aq],ah kind,ah name] (·=iU bJ jS.zero ((dU l kind).bind λk=>pj k.bN name)):=by
 refine pB 29 Tryz.func150 ?_
 obtain⟨q,b,h1,h2,h3⟩:∃(q:aU) (b:Bool),iU aq aU.zero (dU l kind)=.cA [.ag (aq q),ai b]/\q.bN.length<=1000000/\((dU l kind).bind λk=>pj k.bN name)=pj q.bN name:=by
  cases hf:dU l kind with
  | none=>exact⟨aU.zero,false,rfl,cg _,rfl⟩
  | some q=>exact⟨q,true,rfl,hs q (aL hf),rfl⟩
 rw[h3];have hF:=kC l kind hlen;rw[h1] at hF
 refine(jn)<|(zK hF (hfl:=.inr zr))<|(cP @aq.eq_1)<|(zC)<|(zK (D1 q.bN name h2))<|(zR) ?_
 rcases tl (λk:jS=>decide (k.name=name)) q.bN with⟨g1,g2⟩ | ⟨k,x,g1,hlt,hx,g2⟩
 ·rw[g1]
  refine(wO)<|(zV)<|(zE) ?_;exact A8.of (rs:=[.cell 6 155,.tmp 7]) (r:=.cA [.ag [ah [],.sl 0 1 [],ab 0],ai false]) rfl rfl zl zv (by (try simp only[ez,bK]);first | done | (unfold pj;rw[g2];rfl))
 ·rw[g1]
  exact(aA (show decide ((k:Int)<0)=false by simp))<|(zN)<|(aA (cO hlt (aT (e:=3) (enc:=bJ) gc hx) @bJ.eq_1))<|jW [.cell 6 155,.tmp 7] (hq:=by unfold pj;rw[g2];rfl)
def nY(l:List (List Nat))(s:List Nat)(hlen:l.length<=1000000):PC prog 122 [ak 1 l (aG ah),ah s] (·=ab (fP (λx=>decide (s=x)) l)):=by
 refine pB 19 Tryz.func122 ?_;refine(og)<|(zs) ?_;refine zL l (λk=>∀(i:Nat) y,i<k->l[i]?=some y->decide (s=y)=false) (λk=>[(0,.sl l.length 1 (l.flatMap (aG ah))),(1,ah s),(7,ab l.length),(8,ab k)]) (λk=>[]) zH zp ?_;intro k hk hall;refine zT l k ?_ ?_;rintro rfl;rotate_left;intro x hx hlt;rotate_left
 ·exact(gh)<|(zV)<|zo [.tmp 4] (hq:=by rw[hY hall])
 ·refine(gz)<|(zV)<|(aA (cO hlt (aT (e:=1) (enc:=aG ah) gc hx) @aG.eq_1)) ?_
  cases hpx:decide (s=x)
  ·refine(zN)<|(aA (zi hlt hlen)) ?_;refine zX hlt zH ?_
   intro i y hi hy;by_cases hik:i=k
   ·subst hik;rw[hx] at hy;cases hy;exact hpx
   ·exact hall i y i4 hy
  ·exact(cL)<|zo [.tmp 4] (hq:=by rw[lQ hx hpx hall])
def CI{l:List (List Nat)}{s:List Nat}:decide (0<=fP (λx=>decide (s=x)) l)=l.contains s:=by
 rcases tl (λx=>decide (s=x)) l with⟨g1,g2⟩ | ⟨k,x,g1,hlt,hx,g2⟩
 ·rw[g1];rw[dd] at g2
  have:s∉l:=λhm=>by simpa using g2 s hm
  simp[this]
 ·rw[g1];have h:=em g2;have hm:=aL g2;simp only[wp] at h;subst h;simp[hm]
def iy(l:List (List Nat))(s:List Nat)(hlen:l.length<=1000000):PC prog 51 [ak 1 l (aG ah),ah s] (·=ai (l.contains s)):=by
 refine pB 9 Tryz.func51 ?_;exact(jn)<|(zK (nY l s hlen))<|(zR)<|zo [.tmp 4] (hq:=by rw[CI])
def vp(l:List aU)(kind name other:List Nat):Bool:=match (dU l kind).bind λk=>pj k.bN name with
 | some s=>s.kinds.contains other
 | none=>false
def we(l:List aU)(kind name other:List Nat)(hlen:l.length<=1000000)(hs:∀k∈l,k.bN.length<=1000000/\∀s∈k.bN,s.kinds.length<=1000000):PC prog 116 [.ag [ak 3 l aq],ah kind,ah name,ah other] (·=ai (vp l kind name other)):=by
 refine pB 25 Tryz.func116 ?_;have hF:=Ad l kind name hlen λk hk=>(hs k hk).1;refine(jn) ?_;unfold Proofs.vp
 cases hf:(dU l kind).bind λk=>pj k.bN name with
 | none=>
  rw[hf] at hF
  exact(zK hF (hfl:=.inr zr))<|(cP (cO @iU.eq_1 @bJ.eq_1 @jS.zero.eq_1))<|(zV)<|zo [.tmp 8]
 | some q=>
  have hq:q.kinds.length<=1000000:=by
   obtain⟨k,hk,h2⟩:=ul hf;exact(hs k (aL hk)).2 q (aL h2)
  rw[hf] at hF
  exact(zK hF (hfl:=.inr zr))<|(cP (bx @iU.eq_1 @bJ.eq_1))<|(zC)<|(zK (iy q.kinds other hq))<|(zR)<|zo [.tmp 8]
def fi(s:List Nat):Prop:=s.length<=1000000/\∀b∈s,b<256
def dW(s:List Nat)(h:fi s):PC prog 101 [ah s] (·=ai (cZ s)):=AX s h.1 h.2
def l8:Keys prog 9 AV.str:=Ns zW
variable{S:List SO}{o:Nat}
def gV{l:List (List Nat×Bool)}(s:List Nat)(ok:Bool)(hS:S[o]?=some (bH AV.str ai l)):iZ prog S 133 (.map o) (.a (.str s)) ok=some (cond ok (.cA [ai (getM false s l),ai (dG s l)]) (ai (getM false s l))):=
 Ny (uv:=ai) (u0:=false) (k:=s) (kt:=9) (et:=4) (z:=.bool false) (by simp only[aB]) l8 (by simp only[aB]) rfl hS rfl ok
def rE{l:List (List Nat×Bool)}(s:List Nat)(u:Bool)(hS:S[o]?=some (bH AV.str ai l)):ij prog S 133 (.map o) (.a (.str s)) (.a (.bool u))=some (S.set o (bH AV.str ai (cD s u l))):=
 Ie (uv:=ai) (kt:=9) (et:=4) (by simp only[aB]) l8 hS rfl u
def lz(parts:List (List Nat×Bool)):List (List Nat×Bool)->List (List Nat)->Bool
 | _,[]=>true
 | taken,x::xs=>!(getM false x taken||!getM false x parts)&&lz parts (cD x true taken) xs
def iJ(parts:List (List Nat×Bool)):List (List Nat×Bool)->List jS->Bool
 | _,[]=>true
 | seen,s::ss=>!(getM false s.name seen||(!cZ s.name||(decide (s.normal<1)||decide ((s.kinds.length:Int)<s.normal))))&&(lz parts [] s.kinds&&iJ parts (cD s.name true seen) ss)
def ib:List (List Nat×Bool)->List aU->Bool
 | _,[]=>true
 | parts,k::ks=>!(dG k.name parts||(!cZ k.name||decide (12<(k.bN.length:Int))))&&(iJ parts [] k.bN&&ib (cD k.name (!k.vehicle) parts) ks)
def qe(l:List aU):Bool:=ib [] l&&decide ((l.length:Int)<=60)
structure mu (l:List aU):Prop where
 len:l.length<=1000000
 kind:∀k∈l,fi k.name/\k.bN.length<=1000000
 slot:∀k∈l,∀s∈k.bN,fi s.name/\s.kinds.length<=1000000
def eW{x:α}(h:l[k]?=some x):l.drop k=x::l.drop (k+1):=by
 obtain⟨hlt,he⟩:=rt h;rw[ct hlt,he]
def nI(l:List aU)(hl:mu l):PC prog 42 [.ag [ak 3 l aq]] (·=ai (qe l)):=by
 have hlen:=hl.len
 refine pB 108 Tryz.func42 ?_;refine(og)<|(zV)<|(zs) ?_;refine Jg l (λk (parts:List (List Nat×Bool))=>ib [] l=ib parts (l.drop k)) (λk parts=>[(1,.ptr 0 0),(3,.map 1),(16,ak 3 l aq),(17,ab l.length),(18,ab k)]) (λk parts=>[.cells [ak 3 l aq],bH AV.str ai parts]) ([]) zH ii ?_;intro k parts hk hall;refine zT l k ?_ ?_;rintro rfl;rotate_left;intro x hx hlt;rotate_left
 ·exact(gh)<|(zV)<|zo [.tmp 2] (hq:=by rw[show qe l=decide ((l.length:Int)<=60) from by unfold qe;rw[hall,bi];rfl])
 have no:ib parts (l.drop k)=false->qe l=false:=λh=>by unfold qe;rw[hall,h];rfl
 rw[eW hx] at no hall;have hgx:=hl.kind x (mem_iff_getElem?.2 ⟨k,hx⟩);have hsx:=hl.slot x (mem_iff_getElem?.2 ⟨k,hx⟩)
 refine(gz)<|(aA (gr hlt (aT (e:=3) (enc:=aq) gc hx) @aq.eq_1 @qt))<|(zs) ?_;refine aF.r0 ii (by simp only[cN,bL,ak,aB,m7,m6,↓reduceIte,aa,ad,af,ac,aj,an,au,bn,gV (l:=parts)];first | done | rfl) ?_
 cases h1:dG x.name parts;rotate_left
 ·exact(wO)<|(zV)<|zo [.tmp 2] (hq:=by rw[no (by simp[ib,h1])])
 refine(zC)<|(zK (dW x.name hgx.1)) ?_
 cases h2:cZ x.name
 ·exact(zR)<|(cL)<|zo [.tmp 2] (hq:=by rw[no (by simp[ib,h2])])
 cases h3:decide (12<(x.bN.length:Int));rotate_left
 ·exact(cP h3)<|(cL)<|zo [.tmp 2] (hq:=by rw[no (by simp only[ib,h3,dt,bv,cc])])
 refine(cP h3)<|(zN)<|(aA @qt)<|(zV) ?_
 have hq2:ib [] l=(iJ parts [] x.bN&&ib (cD x.name (!x.vehicle) parts) (l.drop (k+1))):=by rw[hall,ib,h1,h2,h3];rfl
 have hnx:True:=trivial
 have no2:iJ parts [] x.bN=false->qe l=false:=λh=>by unfold qe;rw[hq2,h];rfl
 have hlen2:=hgx.2;refine(zs) ?_;refine Jg x.bN (λk2 (seen:List (List Nat×Bool))=>iJ parts [] x.bN=iJ parts seen (x.bN.drop k2)) (λk2 seen=>[(1,.ptr 0 0),(3,.map 1),(16,ak 3 l aq),(17,ab l.length),(18,ab k),(5,.ptr 2 0),(8,.map 3),(44,ak 3 x.bN bJ),(45,ab x.bN.length),(46,ab k2)]) (λk2 seen=>[.cells [ak 3 l aq],bH AV.str ai parts,.cells (aq x),bH AV.str ai seen]) ([]) zH ii ?_;intro k2 seen hk2 hall2;refine zT x.bN k2 ?_ ?_;rintro rfl;rotate_left;intro y hx2 hlt2;rotate_left
 ·refine(gh) ?_
  have hall3:ib [] l=ib (cD x.name (!x.vehicle) parts) (l.drop (k+1)):=by rw[hq2,hall2,bi];rfl
  refine(zs) ?_;refine aF.r0 ii (by simp only[cN,bL,ak,aB,m7,m6,↓reduceIte,aa,ad,af,ac,aj,an,au,bn,aq,rE (l:=parts)];first | done | rfl) ?_;refine(aA (zi hlt hlen)) ?_;refine xu hlt (cD x.name (!x.vehicle) parts) zH hall3
 have no3:iJ parts seen (x.bN.drop k2)=false->qe l=false:=λh=>no2 (by rw[hall2,h]);rw[eW hx2] at no3 hall2;have hgy:=hsx y (mem_iff_getElem?.2 ⟨k2,hx2⟩)
 refine(gz)<|(aA (na hlt2 (aT (e:=3) (enc:=bJ) gc hx2) @bJ.eq_1 @aq.eq_1 @qt)) ?_
 cases g1:getM false y.name seen;rotate_left
 ·refine(zs) ?_;refine aF.r0 ii (by simp only[cN,bL,ak,aB,m7,m6,↓reduceIte,aa,ad,af,ac,aj,an,au,bn,gV (l:=seen),g1];first | done | rfl) ?_;exact(cL)<|zo [.tmp 2] (hq:=by rw[no3 (by simp[iJ,g1])])
 refine(zs) ?_;refine aF.Q9 ii (by simp only[cN,bL,ak,aB,m7,m6,↓reduceIte,aa,ad,af,ac,aj,an,au,bn,gV (l:=seen),g1];first | done | rfl) ?_;refine(zK (dW y.name hgy.1)) ?_;cases g2:cZ y.name
 ·exact(zR)<|(cL)<|zo [.tmp 2] (hq:=by rw[no3 (by simp[iJ,g2])])
 cases g3:decide (y.normal<1);rotate_left
 ·exact(cP g3)<|(cL)<|zo [.tmp 2] (hq:=by rw[no3 (by simp only[iJ,g3,dt,d5,bv,cc])])
 cases g4:decide ((y.kinds.length:Int)<y.normal);rotate_left
 ·exact(cP (bx g3 g4))<|(cL)<|zo [.tmp 2] (hq:=by rw[no3 (by simp only[iJ,g4,dt,d5,bv,cc])])
 refine(cP (bx g3 g4))<|(zN)<|(zs) ?_;refine aF.r0 ii (by simp only[cN,bL,ak,aB,m7,m6,↓reduceIte,aa,ad,af,ac,aj,an,au,bn,rE (l:=seen)];first | done | rfl) ?_;refine(aA @qt)<|(zV) ?_
 have hq3:iJ parts [] x.bN=(lz parts [] y.kinds&&iJ parts (cD y.name true seen) (x.bN.drop (k2+1))):=by rw[hall2,iJ,g1,g2,g3,g4];rfl
 have no4:lz parts [] y.kinds=false->qe l=false:=λh=>no2 (by rw[hq3,h];rfl);have hlen3:=hgy.2;refine(zs) ?_;refine Jg y.kinds (λk3 (taken:List (List Nat×Bool))=>lz parts [] y.kinds=lz parts taken (y.kinds.drop k3)) (λk3 taken=>[(1,.ptr 0 0),(3,.map 1),(16,ak 3 l aq),(17,ab l.length),(18,ab k),(5,.ptr 2 0),(8,.map 3),(44,ak 3 x.bN bJ),(45,ab x.bN.length),(46,ab k2),(11,.map 5),(78,ak 1 y.kinds (aG ah)),(79,ab y.kinds.length),(80,ab k3)]) (λk3 taken=>[.cells [ak 3 l aq],bH AV.str ai parts,.cells (aq x),bH AV.str ai (cD y.name true seen),.gone,bH AV.str ai taken]) ([]) (cm (bx @aG.eq_1 @aq.eq_1)) ii ?_;intro k3 taken hk3 hall3;refine zT y.kinds k3 ?_ ?_;rintro rfl;rotate_left;intro z hx3 hlt3;rotate_left
 ·refine(gh) ?_
  have hall4:iJ parts [] x.bN=iJ parts (cD y.name true seen) (x.bN.drop (k2+1)):=by rw[hq3,hall3,bi];rfl
  refine(aA (zi hlt2 hlen2)) ?_;refine xu hlt2 (cD y.name true seen) (cm @aq.eq_1) hall4
 have no5:lz parts taken (y.kinds.drop k3)=false->qe l=false:=λh=>no4 (by rw[hall3,h]);rw[eW hx3] at no5 hall3
 refine(gz)<|(aA (cO hlt3 (aT (e:=1) (enc:=aG ah) gc hx3) @aG.eq_1)) ?_
 cases f1:getM false z taken;rotate_left
 ·refine(zs) ?_;refine aF.r0 ii (by simp only[cN,bL,ak,aB,m7,m6,↓reduceIte,aa,ad,af,ac,aj,an,au,bn,gV (l:=taken),f1];first | done | rfl) ?_;exact(cL)<|zo [.tmp 2] (hq:=by rw[no5 (by simp[lz,f1])])
 cases f2:getM false z parts
 ·refine(zs) ?_;refine aF.r0 ii (by simp only[cN,bL,ak,aB,m7,m6,↓reduceIte,aa,ad,af,ac,aj,an,au,bn,gV (l:=taken),gV (l:=parts),f1,f2];first | done | rfl) ?_;exact(cL)<|zo [.tmp 2] (hq:=by rw[no5 (by simp[lz,f2])])
 refine(zs) ?_;refine aF.r0 ii (by simp only[cN,bL,ak,aB,m7,m6,↓reduceIte,aa,ad,af,ac,aj,an,au,bn,gV (l:=taken),gV (l:=parts),f1,f2];first | done | rfl) ?_;refine(zN) ?_
 have hall5:lz parts [] y.kinds=lz parts (cD z true taken) (y.kinds.drop (k3+1)):=by rw[hall3,lz,f1,f2];rfl
 refine(zs) ?_;refine aF.r0 ii (by simp only[cN,bL,ak,aB,m7,m6,↓reduceIte,aa,ad,af,ac,aj,an,au,bn,rE (l:=taken)];first | done | rfl) ?_;refine(aA (zi hlt3 hlen3)) ?_;refine xu hlt3 (cD z true taken) (cm (bx @aG.eq_1 @aq.eq_1)) hall5
def nw{p:α->Bool}:decide (0<=fP p l)=l.any p:=by
 rcases tl p l with⟨g1,g2⟩ | ⟨k,x,g1,hlt,hx,g2⟩
 ·rw[g1];rw[dd] at g2
  have:l.any p=false:=by
   rw[List.any_eq_false];exact g2
  rw[this];rfl
 ·rw[g1];have:l.any p=true:=List.any_eq_true.2 ⟨x,aL g2,em g2⟩;rw[this];simp
def Gk{l:List (List Nat)}(p:List Nat->Bool)(hlen:l.length<=1000000)(hp:∀x∈l,PC prog fid ((first++[ah x])++cap) (·=ai (p x)))(hg:bV first=true/\bV cap=true):PC prog 191 [ak 1 l (aG ah),.fn fid first cap] (·=ai (l.any p)):=by
 refine pB 9 Tryz.func191 ?_;exact(jn)<|(zK (qK p hlen hp hg) (hwk:=.cons (Wk.sl _ _ _) (.cons (.fn (cC.refl hg.1) (cC.refl hg.2)) .nil)))<|(zR)<|zo [.tmp 4] (hq:=by rw[nw])
structure bC where
 op:Int
 day:Int
 part:List Nat
 kind:List Nat
 bu:List Nat
 slot:List Nat
 key:List Nat
 value:List Nat
 u1:Int
 u2:Int
 u3:Int
 u4:Int
 u5:Int
 u6:Int
 deriving DecidableEq
def ar(e:bC):List SV:=[ab e.op,ab e.day,ah e.part,ah e.kind,ah e.bu,ah e.slot,ah e.key,ah e.value,ab e.u1,ab e.u2,ab e.u3,ab e.u4,ab e.u5,ab e.u6]
def bC.av(e:bC):List AV:=[.int .i64 e.op,.int .i64 e.day,.str e.part,.str e.kind,.str e.bu,.str e.slot,.str e.key,.str e.value,.int .i64 e.u1,.int .i64 e.u2,.int .i64 e.u3,.int .i64 e.u4,.int .i64 e.u5,.int .i64 e.u6]
def bC.zero:bC:=⟨0,0,[],[],[],[],[],[],0,0,0,0,0,0⟩
def bC.U2:List Kd:=[.i .i64,.i .i64,.s,.s,.s,.s,.s,.s,.i .i64,.i .i64,.i .i64,.i .i64,.i .i64,.i .i64]
def bC.eq(a b:bC):fJ eC a.av b.av=decide (a=b):=by
 obtain⟨a1,a2,a3,a4,a5,a6,a7,a8,a9,a10,a11,a12,a13,a14⟩:=a;obtain⟨b1,b2,b3,b4,b5,b6,b7,b8,b9,b10,b11,b12,b13,b14⟩:=b;simp only[bC.av,fJ,eC,Ay,sf,lq,cp,cn,bC.mk.injEq,el]
def LM(a b:bC):dk prog .eql 90 (.agg a.av) (.agg b.av)=some (.bool (decide (a=b))):=
 sK (ks:=bC.U2) zW zW (by simp only[aB,m6]) rfl rfl (bC.eq a b)
def Sn:List (List Nat):=[[],[109,97,107,101],[102,105,116],[114,101,109,111,118,101],[114,117,110],[111,118,101,114,104,97,117,108],[110,111,116,101],[115,99,114,97,112]]
def Hc(op:Int):List Nat:=if op<0\/8<=op then [] else (Sn[op.toNat]?).getD []
def Jb(op:Int):PC prog 189 [ab op] (·=ah (Hc op)):=by
 refine pB 14 Tryz.func189 ?_;refine(og) ?_;cases h1:decide (op<0);rotate_left
 ·exact(aA h1)<|(cL)<|zo [.tmp 2] (hq:=by rw[Hc,ut (.inl (ww h1))])
 cases h2:decide (8<=op);rotate_left
 ·exact(aA (bx h1 h2))<|(cL)<|zo [.tmp 2] (hq:=by rw[Hc,ut (.inr (ww h2))])
 refine(aA (bx h1 h2))<|(zN) ?_
 have hop:op=0\/op=1\/op=2\/op=3\/op=4\/op=5\/op=6\/op=7:=by simp only[wn] at h1 h2;omega
 rcases hop with rfl | rfl | rfl | rfl | rfl | rfl | rfl | rfl<;>(refine(zV) ?_ ;exact zo [.tmp 2])
def z6(a b c d e f:SV):PC prog 190 [.ip [a,b,c,d,e,f]] (·=.ag [.ip [a,b,c,d,e,f],.ip [c,d,e,f],.ip [e,f]]):=by
 refine pB 13 Tryz.func190 ?_;refine(zV)<|(zs) ?_;refine oe [0,1,3,0,8,24,0,64,192,511,1023] ?_;refine(zD) ?_;refine SD.e ii rfl ii rfl rfl ii zl ?_;exact(zM)<|zo [.cell 2 251]
def DQ(s:List Nat)(h:fi s):PC prog 192 [ah s] (·=ai (!cZ s)):=by
 refine pB 6 Tryz.func192 ?_;exact(jn)<|(zK (dW s h))<|(zR)<|zo [.tmp 2]
def jD(a b:Int):Bool:=!(decide (a<0))&&(!(decide (b<a))&&!(decide (1000000<b)))
def bC.use(e:bC):Bool:=jD e.u1 e.u2&&(jD e.u3 e.u4&&jD e.u5 e.u6)
def bC.rest(e:bC):bC:=
 if e.op=1 then ⟨0,0,[],[],e.bu,e.slot,e.key,e.value,e.u1,e.u2,e.u3,e.u4,e.u5,e.u6⟩
 else if e.op=2 then ⟨0,0,[],e.kind,[],[],e.key,e.value,e.u1,e.u2,e.u3,e.u4,e.u5,e.u6⟩
 else if e.op=6 then ⟨0,0,[],e.kind,e.bu,e.slot,[],[],e.u1,e.u2,e.u3,e.u4,e.u5,e.u6⟩
 else if e.op=4 then ⟨0,0,[],e.kind,e.bu,e.slot,e.key,e.value,0,0,0,0,0,0⟩
 else ⟨0,0,[],e.kind,e.bu,e.slot,e.key,e.value,e.u1,e.u2,e.u3,e.u4,e.u5,e.u6⟩
def bC.names(e:bC):List (List Nat):=if e.op=1 then [e.kind] else if e.op=2 then [e.bu,e.slot] else if e.op=6 then [e.key] else []
def bC.kI(e:bC):Bool:=
 if e.op=1 then true else if e.op=2 then !(decide (e.bu=e.part)) else if e.op=6 then !(decide (e.value=[]))&&!(decide (200<(e.value.length:Int))) else if e.op=4 then e.use else true
def gy(e:bC):Bool:=!(decide (Hc e.op=[]))&&(!(decide (e.day<0))&&(!(decide (40000<e.day))&&(cZ e.part&&(e.kI&&(decide (e.rest=bC.zero)&&!(e.names.any λs=>!cZ s))))))
structure lK (e:bC):Prop where
 part:fi e.part
 kind:fi e.kind
 bu:fi e.bu
 slot:fi e.slot
 key:fi e.key
 value:fi e.value
def zI(a1 a2:Int)(a3 a4 a5 a6 a7 a8:List Nat)(a9 a10 a11 a12 a13 a14:Int):dk prog .eql 90 (.agg [.int .i64 a1,.int .i64 a2,.str a3,.str a4,.str a5,.str a6,.str a7,.str a8,.int .i64 a9,.int .i64 a10,.int .i64 a11,.int .i64 a12,.int .i64 a13,.int .i64 a14]) (.agg [.int .i64 0,.int .i64 0,.str [],.str [],.str [],.str [],.str [],.str [],.int .i64 0,.int .i64 0,.int .i64 0,.int .i64 0,.int .i64 0,.int .i64 0])=some (.bool (decide ((⟨a1,a2,a3,a4,a5,a6,a7,a8,a9,a10,a11,a12,a13,a14⟩:bC)=bC.zero))):=
 LM ⟨a1,a2,a3,a4,a5,a6,a7,a8,a9,a10,a11,a12,a13,a14⟩ bC.zero
def GV(e:bC)(he:lK e):PC prog 108 [.ag (ar e)] (·=ai (gy e)):=by
 refine pB 111 Tryz.func108 ?_;refine(aA @ar.eq_1)<|(zC)<|(zK (Jb e.op)) ?_
 cases h1:decide (Hc e.op=[]);rotate_left
 ·exact(cP h1)<|(cL)<|zo [.tmp 2] (hq:=by rw[gy,h1];rfl)
 cases h2:decide (e.day<0);rotate_left
 ·exact(cP (bx h1 h2))<|(cL)<|zo [.tmp 2] (hq:=by rw[gy,h1,h2];rfl)
 cases h3:decide (40000<e.day);rotate_left
 ·exact(cP (cO h1 h2 h3))<|(cL)<|zo [.tmp 2] (hq:=by rw[gy,h1,h2,h3];rfl)
 refine(L5 (cO h1 h2 h3))<|(zK (dW e.part he.part)) ?_
 cases h4:cZ e.part
 ·exact(zR)<|(cL)<|zo [.tmp 2] (hq:=by rw[gy,h1,h2,h3,h4];rfl)
 refine(zR)<|(zN) ?_
 have hv:gy e=(e.kI&&(decide (e.rest=bC.zero)&&!(e.names.any λs=>!cZ s))):=by rw[gy,h1,h2,h3,h4];rfl
 clear h1 h2 h3 h4
 have hn:∀s∈e.names,fi s:=by
  intro s hs;unfold bC.names at hs;split at hs
  ·rw[t6 hs];exact he.kind
  split at hs
  ·rcases t7 hs with rfl | hs
   ·exact he.bu
   ·rw[t6 hs];exact he.slot
  split at hs
  ·rw[t6 hs];exact he.key
  ·cases hs
 have hnl:e.names.length<=1000000:=by
  unfold bC.names
  repeat' split
  all_goals simp
 refine(og)<|(og) ?_
 (repeat refine aF.seq ?_)
 refine aF.mono (Q:=λex st=>(ex=.normal/\e.kI=true/\Fg st ⟨[(3,.sl e.names.length 1 (e.names.flatMap (aG ah))),(4,.ptr 2 0)],111,[.gone,.gone,.cells (ar e.rest)],[]⟩)\/(ex=.ret/\A8 prog Tryz.f108 (·=ai (gy e)) .ret st)) ?_ ?_;rotate_left
 ·rintro ex st (⟨rfl,hm,hf⟩ | ⟨rfl,hs⟩);rotate_left
  ·exact hs
  change aF _ _ _ _ _;refine aF.fg hf ?_;rw[hv,hm,cp];cases r:decide (e.rest=bC.zero)
  ·exact(aA (cO @ar.eq_1 @zI r))<|zo [.tmp 2]
  ·exact(e9 (cO @ar.eq_1 @zI r))<|(zK (Gk (λs=>!cZ s) (l:=e.names) (first:=[]) (cap:=[]) hnl (λx hx=>DQ x (hn x hx)) ⟨rfl,rfl⟩))<|(zR)<|zo [.tmp 2]
 have hrest:∀a1 a2 a3 a4 a5 a6 a7 a8 a9 a10 a11 a12 a13 a14,e.rest=(⟨a1,a2,a3,a4,a5,a6,a7,a8,a9,a10,a11,a12,a13,a14⟩:bC)->ar e.rest=[ab a1,ab a2,ah a3,ah a4,ah a5,ah a6,ah a7,ah a8,ab a9,ab a10,ab a11,ab a12,ab a13,ab a14]:=by
  intros;simp only[*,ar]
 refine aF.block ?_;refine(zV) ?_;cases k1:decide (e.op=1);rotate_left
 ·have k1':=ww k1;refine(cL) ?_;have hr:=hrest _ _ _ _ _ _ _ _ _ _ _ _ _ _ (show e.rest=_ by unfold bC.rest;rw[ut k1'])
  have hnm:e.names=[e.kind]:=by unfold bC.names;rw[ut k1']
  refine .inl ⟨rfl,by unfold bC.kI;rw[ut k1'],?_⟩;rw[hr,hnm];exact Fg.trans (Fg.freeze (f':=[(3,.sl 1 1 [ah e.kind]),(4,.ptr 2 0)]) 3 rfl gt zG) zH
 have n1:=wt k1;refine(lf) ?_;cases k2:decide (e.op=2);rotate_left
 ·have k2':=ww k2
  have hmid:e.kI=!(decide (e.bu=e.part)):=by unfold bC.kI;rw[v6 n1,ut k2']
  refine(cL) ?_;cases j1:decide (e.bu=e.part);rotate_left
  ·refine(cL) ?_;refine aF.ret ?_;refine .inr ⟨rfl,?_⟩;exact zO [.tmp 2] (hq:=by (try simp only[ez,bK]);first | done | (rw[hv,hmid,j1];rfl))
  refine(lf) ?_;have hr:=hrest _ _ _ _ _ _ _ _ _ _ _ _ _ _ (show e.rest=_ by unfold bC.rest;rw[v6 n1,ut k2'])
  have hnm:e.names=[e.bu,e.slot]:=by unfold bC.names;rw[v6 n1,ut k2']
  refine .inl ⟨rfl,by rw[hmid,j1];rfl,?_⟩;rw[hr,hnm];exact Fg.trans (Fg.freeze (f':=[(3,.sl 2 1 [ah e.bu,ah e.slot]),(4,.ptr 2 0)]) 3 rfl gt zG) zH
 have n2:=wt k2;refine(lf) ?_;cases k6:decide (e.op=6);rotate_left
 ·have k6':=ww k6
  have hmid:e.kI=(!(decide (e.value=[]))&&!(decide (200<(e.value.length:Int)))):=by unfold bC.kI;rw[v6 n1,v6 n2,ut k6']
  refine(zY) ?_;cases j1:decide (e.value=[]);rotate_left
  ·refine(aA j1)<|(cL) ?_;refine aF.ret ?_;refine .inr ⟨rfl,?_⟩;exact zO [.tmp 2] (hq:=by (try simp only[ez,bK]);first | done | (rw[hv,hmid,j1];rfl))
  cases j2:decide (200<(e.value.length:Int));rotate_left
  ·(repeat refine aF.seq ?_);refine aF.r0 ii (mr (bx j1 j2)) ?_
   refine(cL) ?_;refine aF.ret ?_;refine .inr ⟨rfl,?_⟩;exact zO [.tmp 2] (hq:=by (try simp only[ez,bK]);first | done | (rw[hv,hmid,j1,j2];rfl))
  refine(zs) ?_;refine aF.r0 ii (by simp only[cN,bL,ak,aB,m7,m6,↓reduceIte,aa,ad,af,ac,aj,an,au,bn,j1,j2];first | done | rfl) ?_;refine(lf) ?_;have hr:=hrest _ _ _ _ _ _ _ _ _ _ _ _ _ _ (show e.rest=_ by unfold bC.rest;rw[v6 n1,v6 n2,ut k6'])
  have hnm:e.names=[e.key]:=by unfold bC.names;rw[v6 n1,v6 n2,ut k6']
  refine .inl ⟨rfl,by rw[hmid,j1,j2];rfl,?_⟩;rw[hr,hnm];exact Fg.trans (Fg.freeze (f':=[(3,.sl 1 1 [ah e.key]),(4,.ptr 2 0)]) 3 rfl gt zG) zH
 have n6:=wt k6
 have hnm:e.names=[]:=by unfold bC.names;rw[v6 n1,v6 n2,v6 n6]
 refine(lf) ?_;cases k4:decide (e.op=4)
 ·have n4:=wt k4;refine(zN) ?_;have hr:=hrest _ _ _ _ _ _ _ _ _ _ _ _ _ _ (show e.rest=_ by unfold bC.rest;rw[v6 n1,v6 n2,v6 n6,v6 n4]);refine .inl ⟨rfl,by unfold bC.kI;rw[v6 n1,v6 n2,v6 n6,v6 n4],?_⟩;rw[hr,hnm];exact Fg.trans (Fg.freeze (f':=[(3,.sl 0 1 []),(4,.ptr 2 0)]) 1 rfl gt zG) zH
 have k4':=ww k4
 have hmid:e.kI=e.use:=by unfold bC.kI;rw[v6 n1,v6 n2,v6 n6,ut k4']
 refine(zY) ?_;refine zZ [(1,.ip (ar e)),(3,.buf 1 0 1 (some 0)),(4,.ptr 2 0)] 0 rfl (gm @ar.eq_1)<|(e9 @ar.eq_1)<|(zK (z6 (ab e.u1) (ab e.u2) (ab e.u3) (ab e.u4) (ab e.u5) (ab e.u6)) (hfl:=.inr zr))<|(zR) ?_
 (repeat refine aF.seq ?_)
 refine aF.block (aF.loop (λm st=>∃k:Nat,k<=3/\m=3-k/\(0<k->jD e.u1 e.u2=true)/\(1<k->jD e.u3 e.u4=true)/\(2<k->jD e.u5 e.u6=true)/\st=⟨[(3,.buf 1 0 1 (some 0)),(4,.ptr 2 0),(73,.ag [.ip [ab e.u1,ab e.u2,ab e.u3,ab e.u4,ab e.u5,ab e.u6],.ip [ab e.u3,ab e.u4,ab e.u5,ab e.u6],.ip [ab e.u5,ab e.u6]]),(74,ab k)],111,[.gone,.cells [],.cells [ab 0,ab 0,ah [],ah e.kind,ah e.bu,ah e.slot,ah e.key,ah e.value,ab e.u1,ab e.u2,ab e.u3,ab e.u4,ab e.u5,ab e.u6]],[]⟩) 3 zH ⟨0,by omega,rfl,λh=>un h i4,λh=>un h i4,λh=>un h i4,rfl⟩ (by rintro m st ⟨k,_,_,_,_,_,rfl⟩;rfl) ?_);rintro m st ⟨k,hk,rfl,u1,u2,u3,rfl⟩;refine(zV) ?_;by_cases hlt:k<3;rotate_left
 ·obtain rfl:k=3:=by omega
  refine(gh)<|(aA (show dq prog 88=some (.agg [.int .i64 0,.int .i64 0,.int .i64 0,.int .i64 0,.int .i64 0,.int .i64 0]) by simp only[aB])) ?_
  have hr:=hrest _ _ _ _ _ _ _ _ _ _ _ _ _ _ (show e.rest=_ by unfold bC.rest;rw[v6 n1,v6 n2,v6 n6,ut k4']);refine .inl ⟨rfl,by rw[hmid,bC.use,u1 i4,u2 i4,u3 i4];rfl,?_⟩;rw[hr,hnm];exact Fg.trans (Fg.freeze (f':=[(3,.sl 0 1 []),(4,.ptr 2 0)]) 1 rfl gt zG) zH
 rw[show decide ((k:Int)<3)=true by simp only[wp];omega]
 obtain⟨a,b,l,hab,hno,hyes⟩:∃(a b:Int) (l:List SV),([.ip [ab e.u1,ab e.u2,ab e.u3,ab e.u4,ab e.u5,ab e.u6],.ip [ab e.u3,ab e.u4,ab e.u5,ab e.u6],.ip [ab e.u5,ab e.u6]]:List SV)[k*1]?=some (.ip (ab a::ab b::l))/\(jD a b=false->e.use=false)/\(jD a b=true->(0<k+1->jD e.u1 e.u2=true)/\(1<k+1->jD e.u3 e.u4=true)/\(2<k+1->jD e.u5 e.u6=true)):=by
  have:k=0\/k=1\/k=2:=by omega
  rcases this with rfl | rfl | rfl
  ·exact⟨_,_,_,rfl,λh=>by rw[bC.use,h];rfl,λh=>⟨λ_=>h,λh=>by omega,λh=>by omega⟩⟩
  ·exact⟨_,_,_,rfl,λh=>by rw[bC.use,h,cc,ca],λh=>⟨λ_=>u1 i4,λ_=>h,λh=>by omega⟩⟩
  ·exact⟨_,_,_,rfl,λh=>by rw[bC.use,h,ca,ca],λh=>⟨λ_=>u1 i4,λ_=>u2 i4,λ_=>h⟩⟩
 refine(gz)<|(zs) ?_;refine aF.r0 ii (by simp only[cN,bL,ak,aB,m7,m6,↓reduceIte,aa,ad,af,ac,aj,an,au,bn,hlt,hab];first | done | rfl) ?_
 cases c1:decide (a<0);rotate_left
 ·refine(zs) ?_;refine oe [0,1,3,7,15,31,63,127,255,511,63,1087,3135,7231,16383,32767,65535,131071,262143,524287,1048575,2097151,4194303] ?_;refine(uA c1)<|(zM)<|(cL) ?_;refine aF.ret ?_;refine .inr ⟨rfl,?_⟩;exact zO [.tmp 2] (hq:=by (try simp only[ez,bK]);first | done | (rw[hv,hmid,hno (by simp[jD,ww c1])];rfl))
 cases c2:decide (b<a);rotate_left
 ·refine(zs) ?_;refine oe [0,1,3,7,15,31,63,127,255,511,63,1087,3135,7231,16383,32767,65535,131071,262143,524287,1048575,2097151,4194303] ?_
  (repeat (first | refine SD.r ii rfl ii ii (by simp only[cN,bL,ak,aB,m7,m6,↓reduceIte,aa,ad,af,ac,aj,an,au,bn,c1,c2];first | done | rfl) ?_ | refine SD.s ii rfl ii ii ?_ | fail))
  refine(zM)<|(cL) ?_;refine aF.ret ?_;refine .inr ⟨rfl,?_⟩;exact zO [.tmp 2] (hq:=by (try simp only[ez,bK]);first | done | (rw[hv,hmid,hno (by simp[jD,ww c2])];rfl))
 cases c3:decide (1000000<b);rotate_left
 ·refine(zs) ?_;refine oe [0,1,3,7,15,31,63,127,255,511,63,1087,3135,7231,16383,32767,65535,131071,262143,524287,1048575,2097151,4194303] ?_;refine(uA (cO c1 c2 c3))<|(zM)<|(cL) ?_;refine aF.ret ?_;refine .inr ⟨rfl,?_⟩;exact zO [.tmp 2] (hq:=by (try simp only[ez,bK]);first | done | (rw[hv,hmid,hno (by simp[jD,ww c3])];rfl))
 refine(zs) ?_;refine oe [0,1,3,7,15,31,63,127,255,511,63,1087,3135,7231,16383,32767,65535,131071,262143,524287,1048575,2097151,4194303] ?_;refine(uA (cO c1 c2 c3))<|(zM)<|(zN) ?_
 obtain⟨y1,y2,y3⟩:=hyes (by rw[jD,c1,c2,c3];rfl);refine(aA (Ee (show -9223372036854775808<=(k:Int)+1/\(k:Int)+1<=9223372036854775807 from⟨by omega,by omega⟩))) ?_;refine⟨3-(k+1),_,by omega,zH,k+1,by omega,rfl,y1,y2,y3,rfl⟩
structure bO where
 key:List Nat
 value:List Nat
structure ao where
 name:List Nat
 kind:List Nat
 bu:List Nat
 slot:List Nat
 made:Int
 since:Int
 cM:Bool
 props:List bO
 l1:Int
 l2:Int
 l3:Int
 l4:Int
 l5:Int
 l6:Int
def aI(p:bO):List SV:=[ah p.key,ah p.value]
def ae(p:ao):List SV:=[ah p.name,ah p.kind,ah p.bu,ah p.slot,ab p.made,ab p.since,ai p.cM,ak 2 p.props aI,ab p.l1,ab p.l2,ab p.l3,ab p.l4,ab p.l5,ab p.l6]
def ao.zero:ao:=⟨[],[],[],[],0,0,false,[],0,0,0,0,0,0⟩
def ko:List (List Nat)->Bool
 | a::b::r=>gB a b&&ko (b::r)
 | _=>true
def yN:∀{l:List (List Nat)},(∀(i:Nat) a b,l[i]?=some a->l[i+1]?=some b->gB a b=true)->ko l=true
 | [],_=>rfl
 | [_],_=>rfl
 | a::b::r,h=>by
  rw[ko,h 0 a b rfl rfl,cp];exact yN λi x y h1 h2=>h (i+1) x y h1 h2
def C8:∀{l:List (List Nat)} {i:Nat} {a b:List Nat},l[i]?=some a->l[i+1]?=some b->gB a b=false->ko l=false
 | [],i,_,_,h,_,_=>by simp at h
 | [_],i,_,_,_,h,_=>by simp at h
 | x::y::r,0,a,b,h1,h2,h3=>by cases h1;cases h2;rw[ko,h3];rfl
 | x::y::r,i+1,a,b,h1,h2,h3=>by
  rw[ko,C8 (l:=y::r) (i:=i) h1 h2 h3,ca]
variable{i:Nat}
def qn{β:Type}{f:α->β}{b:β}(h:(l.map f)[i]?=some b):∃a,l[i]?=some a/\f a=b:=by
 rw[ap] at h;obtain⟨a,h1,h2⟩:=aw h;exact⟨a,h1,h2⟩
def uh(s:List Nat):PC prog 261 [.ag (ah s::cd 1 .any)] (·=ah s):=by
 refine pB 5 Tryz.func261 ?_;refine(aA Qq)<|(zV)<|(zE) ?_;exact A8.of (rs:=[.tmp 2]) rfl rfl zl (Wk.refl rfl) zq
def DT(l:List bO)(hlen:l.length<=1000000):PC prog 260 [ak 2 l aI,.fn 261 [] []] (·=ai (ko (l.map bO.key))):=by
 refine pB 26 Tryz.func260 ?_;refine(og) ?_
 (repeat refine aF.seq ?_)
 refine aF.block (aF.loop (λm st=>∃k:Nat,1<=k/\m=l.length-k/\(∀(i:Nat) a b,i+1<k->l[i]?=some a->l[i+1]?=some b->gB a.key b.key=true)/\st=⟨[(0,ak 2 l aI),(1,.fn 261 [] []),(5,ab k)],26,[],[]⟩) (l.length-1) zH ⟨1,by omega,rfl,λi a b h=>un h i4,rfl⟩ (by rintro m st ⟨k,_,_,_,rfl⟩;rfl) ?_);rintro m st ⟨k,hk,rfl,hall,rfl⟩;refine(zV) ?_;by_cases hlt:k<l.length;rotate_left
 ·rw[show decide ((k:Int)<(l.length:Int))=false by simp only[wn];omega]
  refine(gh)<|(zV) ?_
  exact zo [.tmp 4] (hq:=by rw[yN λi a b h1 h2=>by
   obtain⟨x,hx,rfl⟩:=qn h1;obtain⟨y,hy,rfl⟩:=qn h2
   exact hall i x y (by have:=br hy;omega) hx hy])
 rw[show decide ((k:Int)<(l.length:Int))=true by simp only[wp];omega];obtain⟨j,rfl⟩:∃j,k=j+1:=⟨k-1,by omega⟩;obtain⟨x,hx⟩:∃x,l[j]?=some x:=⟨l[j],jp i4⟩;obtain⟨y,hy⟩:∃y,l[j+1]?=some y:=⟨l[j+1],jp hlt⟩
 have hj:j<l.length:=by omega
 refine(gz)<|(zs) ?_;refine oe [0,0,0,4,14,30,63,0,0,0,768,1792,4095,8191] ?_
 (repeat (first | refine SD.r ii rfl ii ii (mr (na (bS (((j+1:Nat):Int)) 1 i4) (show((j+1:Nat):Int)-1=(j:Int) from by omega) hj (aT (e:=2) (enc:=aI) gc hx) @aI.eq_1)) ?_ | refine SD.s ii rfl ii ii ?_ | fail))
 refine SD.k ii rfl rfl ii rfl rfl zc (uh x.key) (.cons (.ag (.cons (.a _) (.cons (.any _) .nil))) .nil) rfl ?_;refine(uA (cO hlt (aT (e:=2) (enc:=aI) gc hy) @aI.eq_1)) ?_;refine SD.k ii rfl rfl ii rfl rfl zc (uh y.key) (.cons (.ag (.cons (.a _) (.cons (.any _) .nil))) .nil) rfl ?_;refine(uA @xL)<|(zM) ?_
 cases g:gB x.key y.key
 ·exact(cL)<|zo [.tmp 4] (hq:=by rw[C8 (i:=j) (a:=x.key) (b:=y.key) (by rw[ap,hx];rfl) (by rw[ap,hy];rfl) g])
 ·refine(zN)<|(zs) ?_;refine aF.r0 ii (mr (bA (((j+1:Nat):Int)) 1 i4)) ?_;refine⟨l.length-(j+1+1),_,by omega,zH,j+1+1,by omega,rfl,?_,rfl⟩
  intro i a b hi ha hb;by_cases hij:i=j
  ·subst hij;rw[hx] at ha;rw[hy] at hb;cases ha;cases hb;exact g
  ·exact hall i a b i4 ha hb
def ug(s:List Nat):PC prog 187 [.ag (ah s::cd 13 .any)] (·=ah s):=by
 refine pB 5 Tryz.func187 ?_;refine(aA Qq)<|(zV)<|(zE) ?_;exact A8.of (rs:=[.tmp 2]) rfl rfl zl (Wk.refl rfl) zq
def DS(l:List ao)(hlen:l.length<=1000000):PC prog 186 [ak 14 l ae,.fn 187 [] []] (·=ai (ko (l.map ao.name))):=by
 refine pB 26 Tryz.func186 ?_;refine(og) ?_
 (repeat refine aF.seq ?_)
 refine aF.block (aF.loop (λm st=>∃k:Nat,1<=k/\m=l.length-k/\(∀(i:Nat) a b,i+1<k->l[i]?=some a->l[i+1]?=some b->gB a.name b.name=true)/\st=⟨[(0,ak 14 l ae),(1,.fn 187 [] []),(5,ab k)],26,[],[]⟩) (l.length-1) zH ⟨1,by omega,rfl,λi a b h=>un h i4,rfl⟩ (by rintro m st ⟨k,_,_,_,rfl⟩;rfl) ?_);rintro m st ⟨k,hk,rfl,hall,rfl⟩;refine(zV) ?_;by_cases hlt:k<l.length;rotate_left
 ·rw[show decide ((k:Int)<(l.length:Int))=false by simp only[wn];omega]
  refine(gh)<|(zV) ?_
  exact zo [.tmp 4] (hq:=by rw[yN λi a b h1 h2=>by
   obtain⟨x,hx,rfl⟩:=qn h1;obtain⟨y,hy,rfl⟩:=qn h2
   exact hall i x y (by have:=br hy;omega) hx hy])
 rw[show decide ((k:Int)<(l.length:Int))=true by simp only[wp];omega];obtain⟨j,rfl⟩:∃j,k=j+1:=⟨k-1,by omega⟩;obtain⟨x,hx⟩:∃x,l[j]?=some x:=⟨l[j],jp i4⟩;obtain⟨y,hy⟩:∃y,l[j+1]?=some y:=⟨l[j+1],jp hlt⟩
 have hj:j<l.length:=by omega
 refine(gz)<|(zs) ?_;refine oe [0,0,0,4,14,30,63,0,0,0,768,1792,4095,8191] ?_
 (repeat (first | refine SD.r ii rfl ii ii (mr (na (bS (((j+1:Nat):Int)) 1 i4) (show((j+1:Nat):Int)-1=(j:Int) from by omega) hj (aT (e:=14) (enc:=ae) gc hx) @ae.eq_1)) ?_ | refine SD.s ii rfl ii ii ?_ | fail))
 refine SD.k ii rfl rfl ii rfl rfl zc (ug x.name) (.cons (.ag (.cons (.a _) (.cons (.any _) (.cons (.any _) (.cons (.any _) (.cons (.any _) (.cons (.any _) (.cons (.any _) (.cons (.any _) (.cons (.any _) (.cons (.any _) (.cons (.any _) (.cons (.any _) (.cons (.any _) (.cons (.any _) .nil))))))))))))))) .nil) rfl ?_;refine(uA (cO hlt (aT (e:=14) (enc:=ae) gc hy) @ae.eq_1)) ?_;refine SD.k ii rfl rfl ii rfl rfl zc (ug y.name) (.cons (.ag (.cons (.a _) (.cons (.any _) (.cons (.any _) (.cons (.any _) (.cons (.any _) (.cons (.any _) (.cons (.any _) (.cons (.any _) (.cons (.any _) (.cons (.any _) (.cons (.any _) (.cons (.any _) (.cons (.any _) (.cons (.any _) .nil))))))))))))))) .nil) rfl ?_;refine(uA @xL)<|(zM) ?_
 cases g:gB x.name y.name
 ·exact(cL)<|zo [.tmp 4] (hq:=by rw[C8 (i:=j) (a:=x.name) (b:=y.name) (by rw[ap,hx];rfl) (by rw[ap,hy];rfl) g])
 ·refine(zN)<|(zs) ?_;refine aF.r0 ii (mr (bA (((j+1:Nat):Int)) 1 i4)) ?_;refine⟨l.length-(j+1+1),_,by omega,zH,j+1+1,by omega,rfl,?_,rfl⟩
  intro i a b hi ha hb;by_cases hij:i=j
  ·subst hij;rw[hx] at ha;rw[hy] at hb;cases ha;cases hb;exact g
  ·exact hall i a b i4 ha hb
def GD{l:List (List Nat×Int)}(s:List Nat)(ok:Bool)(hS:S[o]?=some (bH AV.str ab l)):iZ prog S 118 (.map o) (.a (.str s)) ok=some (cond ok (.cA [ab (getM 0 s l),ai (dG s l)]) (ab (getM 0 s l))):=
 Ny (uv:=ab) (u0:=0) (k:=s) (kt:=9) (et:=3) (z:=.int .i64 0) (by simp only[aB]) l8 (by simp only[aB]) rfl hS rfl ok
def I0{l:List (List Nat×Int)}(s:List Nat)(u:Int)(hS:S[o]?=some (bH AV.str ab l)):ij prog S 118 (.map o) (.a (.str s)) (.a (.int .i64 u))=some (S.set o (bH AV.str ab (cD s u l))):=
 Ie (uv:=ab) (kt:=9) (et:=3) (by simp only[aB]) l8 hS rfl u
def vU{S:List SO}{l:List (List Nat×Int)}(s:List Nat)(ok:Bool):iZ prog S 118 (lR AV.str ab l) (.a (.str s)) ok=some (cond ok (.cA [ab (getM 0 s l),ai (dG s l)]) (ab (getM 0 s l))):=
 Q3 (uv:=ab) (u0:=0) (k:=s) (kt:=9) (et:=3) (z:=.int .i64 0) (by simp only[aB]) l8 (by simp only[aB]) rfl rfl ok
def nL:Nat->List (List Nat×Int)->List ao->List (List Nat×Int)
 | _,m,[]=>m
 | i,m,p::ps=>nL (i+1) (if dG p.name m=true then m else cD p.name i m) ps
def B5(ps:List ao):SV:=.ag [ak 14 ps ae,lR AV.str ab (nL 0 [] ps)]
def rD(ps:List ao)(hlen:ps.length<=1000000):PC prog 55 [.ag [ak 14 ps ae]] (·=B5 ps):=by
 refine pB 37 Tryz.func55 ?_;refine(og)<|(zV)<|(zs) ?_;refine Jg ps (λk (m0:List (List Nat×Int))=>nL 0 [] ps=nL k m0 (ps.drop k)) (λk m0=>[(2,.ptr 1 0),(3,.ptr 3 0),(13,ak 14 ps ae),(14,ab ps.length),(15,ab k)]) (λk m0=>[.gone,.cells [.a (.slice none 0 0 (some 0)),.a (.map none)],bH AV.str ab m0,.cells [ak 14 ps ae,.map 2]]) ([]) zH ii ?_;intro k m0 hk hall;refine zT ps k ?_ ?_;rintro rfl;rotate_left;intro x hx hlt;rotate_left
 ·exact(gh)<|(zV)<|zo [.cell 2 120] (r:=.ag [ak 14 ps ae,lR AV.str ab m0]) (hw:=Wk.ag (.cons (.sl _ _ _) (.cons (l9 (λ_=>rfl) rfl) .nil))) (hq:=by rw[B5,hall,bi];rfl)
 rw[eW hx] at hall
 refine(gz)<|(aA (gr hlt (aT (e:=14) (enc:=ae) gc hx) @ae.eq_1 @RN))<|(zs) ?_;refine aF.r0 ii (by simp only[cN,bL,ak,aB,m7,m6,↓reduceIte,aa,ad,af,ac,aj,an,au,bn,GD (l:=m0)];first | done | rfl) ?_;refine(zV) ?_
 cases h1:dG x.name m0
 ·refine(zY)<|(zs) ?_;refine aF.r0 ii (by simp only[cN,bL,ak,aB,m7,m6,↓reduceIte,aa,ad,af,ac,aj,an,au,bn,I0 (l:=m0)];first | done | rfl) ?_;refine(aA (zi hlt hlen)) ?_;refine xu hlt (cD x.name (k:Int) m0) zH (show nL 0 [] ps=nL (k+1) (cD x.name (k:Int) m0) (ps.drop (k+1)) by rw[hall,nL,h1];rfl)
 ·refine(zN)<|(aA (zi hlt hlen)) ?_;refine xu hlt (m0) zH (show nL 0 [] ps=nL (k+1) m0 (ps.drop (k+1)) by rw[hall,nL,ut h1])
def pq(ps:List ao)(m:List (List Nat×Int))(name:List Nat):Option ao:=if dG name m=true then ps[(getM 0 name m).toNat]? else none
def Rp(ps:List ao)(m:List (List Nat×Int)):Prop:=∀name,dG name m=true->∃k:Nat,getM 0 name m=(k:Int)/\k<ps.length
def mX(ps:List ao)(m:List (List Nat×Int))(name:List Nat)(hm:Rp ps m):PC prog 113 [.ag [ak 14 ps ae,lR AV.str ab m],ah name] (·=iU ae ao.zero (pq ps m name)):=by
 refine pB 23 Tryz.func113 ?_;refine(zV)<|(aA @vU)<|(zV) ?_
 cases h1:dG name m
 ·exact(cL)<|jW [.cell 4 56,.tmp 5] (r:=.cA [.ag [ah [],ah [],ah [],ah [],ab 0,ab 0,ai false,.sl 0 2 [],ab 0,ab 0,ab 0,ab 0,ab 0,ab 0],ai false]) (hw:=zv) (hq:=by rw[pq,h1];rfl)
 obtain⟨k,hk,hlt⟩:=hm name h1;obtain⟨x,hx⟩:∃x,ps[k]?=some x:=⟨ps[k],jp hlt⟩
 exact(zN)<|(aA (gr hk hlt (aT (e:=14) (enc:=ae) gc hx) @ae.eq_1))<|jW [.cell 4 56,.tmp 5] (hq:=by rw[pq,ut h1,hk,Int.toNat_natCast,hx];rfl)
def Ci:∀{ps l:List ao} {i:Nat} {m:List (List Nat×Int)},i+ps.length=l.length->Rp l m->Rp l (nL i m ps)
 | [],_,_,_,_,h=>h
 | p::ps,l,i,m,hl,h=>by
  rw[nL];refine Ci (by rw[i7] at hl;omega) ?_;split
  ·exact h
  ·intro name hn;by_cases e:name=p.name
   ·subst e;exact⟨i,by rw[qm,ut rfl],by rw[i7] at hl;omega⟩
   ·rw[qo,wd e,co] at hn;rw[qm,v6 e];exact h name hn
def wj(a b:Int):Bool:=decide (0<=a)&&(decide (a<=b)&&decide (b<=1000000000000))
def qA(x:bO):Bool:=cZ x.key&&(!(decide (x.value=[]))&&decide ((x.value.length:Int)<=200))
def zk(a b:Int):PC prog 258 [.ag [ab a,ab b]] (·=ai (wj a b)):=by
 refine pB 18 Tryz.func258 ?_;refine(zV) ?_;cases h1:decide (0<=a)
 ·exact(aA h1)<|zo [.tmp 2] (hq:=by rw[wj,h1];rfl)
 cases h2:decide (a<=b)
 ·exact(aA (bx h1 h2))<|zo [.tmp 2] (hq:=by rw[wj,h1,h2];rfl)
 ·exact(aA (bx h1 h2))<|zo [.tmp 2] (hq:=by rw[wj,h1,h2];rfl)
def LZ(x:bO)(hx:fi x.key):PC prog 259 [.ag (aI x)] (·=ai (qA x)):=by
 refine pB 17 Tryz.func259 ?_;refine(aA @aI.eq_1)<|(zC)<|(zK (dW x.key hx)) ?_
 cases h1:cZ x.key
 ·exact(zR)<|zo [.tmp 2] (hq:=by rw[qA,h1];rfl)
 cases h2:decide (x.value=[]);rotate_left
 ·exact(cP h2)<|zo [.tmp 2] (hq:=by rw[qA,h1,h2];rfl)
 ·exact(cP h2)<|zo [.tmp 2] (hq:=by rw[qA,h1,h2];rfl)
structure fq (p:ao):Prop where
 name:fi p.name
 kind:fi p.kind
 bu:fi p.bu
 slot:fi p.slot
 len:p.props.length<=1000000
 prop:∀x∈p.props,fi x.key/\fi x.value
def kq(c:List aU)(p:ao):Bool:=(dU c p.kind).isSome&&(cZ p.name&&(!(decide (p.made<0))&&(!(decide (p.since<p.made))&&(!(decide (40000<p.since))&&(!(decide (60<(p.props.length:Int)))&&(p.props.all qA&&(ko (p.props.map bO.key)&&(wj p.l1 p.l2&&(wj p.l3 p.l4&&wj p.l5 p.l6)))))))))
def Mo{p:α->Bool}{x:α}(h:l[k]?=some x):(l.drop k).all p=(p x&&(l.drop (k+1)).all p):=by rw[eW h,List.all_cons]
def I2(c:List aU)(p:ao)(hc:c.length<=1000000)(hp:fq p):PC prog 188 [.ag [ak 3 c aq],.ag (ae p)] (·=ai (kq c p)):=by
 have hlen:=hp.len;refine pB 85 Tryz.func188 ?_
 obtain⟨q,b,h1,hb⟩:∃(q:aU) (b:Bool),iU aq aU.zero (dU c p.kind)=.cA [.ag (aq q),ai b]/\(dU c p.kind).isSome=b:=by
  cases hf:dU c p.kind with
  | none=>exact⟨aU.zero,false,rfl,rfl⟩
  | some q=>exact⟨q,true,rfl,rfl⟩
 have hF:=kC c p.kind hc;rw[h1] at hF
 refine(aA @ae.eq_1)<|(og)<|(zC)<|(zK hF (hfl:=.inr zr))<|(cP @aq.eq_1) ?_
 cases b
 ·exact(wO)<|(zV)<|zo [.tmp 4] (hq:=by rw[kq,hb];rfl)
 refine(zC)<|(zK (dW p.name hp.name)) ?_
 cases h2:cZ p.name
 ·exact(zR)<|(cL)<|zo [.tmp 4] (hq:=by rw[kq,hb,h2];rfl)
 cases h3:decide (p.made<0);rotate_left
 ·exact(cP h3)<|(cL)<|zo [.tmp 4] (hq:=by rw[kq,hb,h2,h3];rfl)
 cases h4:decide (p.since<p.made);rotate_left
 ·exact(cP (bx h3 h4))<|(cL)<|zo [.tmp 4] (hq:=by rw[kq,hb,h2,h3,h4];rfl)
 cases h5:decide (40000<p.since);rotate_left
 ·exact(cP (cO h3 h4 h5))<|(cL)<|zo [.tmp 4] (hq:=by rw[kq,hb,h2,h3,h4,h5];rfl)
 cases h6:decide (60<(p.props.length:Int));rotate_left
 ·exact(cP (gr h3 h4 h5 h6))<|(cL)<|zo [.tmp 4] (hq:=by rw[kq,hb,h2,h3,h4,h5,h6];rfl)
 refine(cP (gr h3 h4 h5 h6))<|(zN) ?_
 have hv:kq c p=(p.props.all qA&&(ko (p.props.map bO.key)&&(wj p.l1 p.l2&&(wj p.l3 p.l4&&wj p.l5 p.l6)))):=by rw[kq,hb,h2,h3,h4,h5,h6];rfl
 refine(zV)<|(zs) ?_;refine zL p.props (λk=>p.props.all qA=(p.props.drop k).all qA) (λk=>[(3,.ptr 1 0),(5,.fn 258 [] []),(6,.fn 259 [] []),(50,ak 2 p.props aI),(51,ab p.props.length),(52,ab k)]) (λk=>[.gone,.cells (ae p)]) (cm @ae.eq_1) ii ?_;intro k hk hall;refine zT p.props k ?_ ?_;rintro rfl;rotate_left;intro x hx hlt;rotate_left
 ·refine(gh) ?_;rw[bi] at hall
  refine(e9 @ae.eq_1)<|(zK (DT p.props hlen)) ?_
  cases g1:ko (p.props.map bO.key)
  ·exact(zR)<|zo [.tmp 4] (hq:=by rw[hv,hall,g1];rfl)
  refine(zQ)<|(zK (zk p.l1 p.l2)) ?_
  cases g2:wj p.l1 p.l2
  ·exact(zR)<|zo [.tmp 4] (hq:=by rw[hv,hall,g1,g2];rfl)
  refine(zQ)<|(zK (zk p.l3 p.l4)) ?_
  cases g3:wj p.l3 p.l4
  ·exact(zR)<|zo [.tmp 4] (hq:=by rw[hv,hall,g1,g2,g3];rfl)
  exact(zQ)<|(zK (zk p.l5 p.l6))<|(zR)<|zo [.tmp 4] (hq:=by rw[hv,hall,g1,g2,g3];rfl)
 rw[Mo hx] at hall
 refine(gz)<|(aA (gr hlt (aT (e:=2) (enc:=aI) gc hx) @aI.eq_1 @ae.eq_1))<|(zC)<|(zK (LZ x (hp.prop x (mem_iff_getElem?.2 ⟨k,hx⟩)).1)) ?_
 cases g1:qA x
 ·exact(zR)<|(cL)<|zo [.tmp 4] (hq:=by rw[hv,hall,g1];rfl)
 ·refine(zR)<|(zN)<|(aA (zi hlt hlen)) ?_;refine zX hlt (cm @ae.eq_1) (show p.props.all qA=(p.props.drop (k+1)).all qA by rw[hall,g1];rfl)
structure iC where
 bu:List Nat
 slot:List Nat
 deriving DecidableEq
def iC.av(s:iC):List AV:=[.str s.bu,.str s.slot]
def yU(s:iC):AV:=.agg s.av
def iC.eq(a b:iC):fJ eC a.av b.av=decide (a=b):=by
 obtain⟨a1,a2⟩:=a;obtain⟨b1,b2⟩:=b;simp only[iC.av,fJ,eC,lq,cn,iC.mk.injEq,el]
def z8:Keys prog 248 yU:=
 uV (ks:=[.s,.s]) zW (by simp only[aB,m6]) (λ_=>rfl) iC.eq λ_=>rfl
def r7{l:List (iC×Bool)}(a b:List Nat)(ok:Bool)(hS:S[o]?=some (bH yU ai l)):iZ prog S 245 (.map o) (.ag [ah a,ah b]) ok=some (cond ok (.cA [ai (getM false (⟨a,b⟩:iC) l),ai (dG (⟨a,b⟩:iC) l)]) (ai (getM false (⟨a,b⟩:iC) l))):=
 Ny (uv:=ai) (u0:=false) (k:=(⟨a,b⟩:iC)) (kt:=248) (et:=4) (z:=.bool false) (by simp only[aB]) z8 (by simp only[aB]) rfl hS rfl ok
def DZ{l:List (iC×Bool)}(a b:List Nat)(u:Bool)(hS:S[o]?=some (bH yU ai l)):ij prog S 245 (.map o) (.ag [ah a,ah b]) (.a (.bool u))=some (S.set o (bH yU ai (cD (⟨a,b⟩:iC) u l))):=
 Ie (uv:=ai) (k:=(⟨a,b⟩:iC)) (kt:=248) (et:=4) (by simp only[aB]) z8 hS rfl u
def oE{n:Nat}{l:List (iC×Bool)}:bI n (bH yU ai l)=bH yU ai l:=mi λ_=>lY _
def B1(a b:Bool):dk prog .neq 4 (.bool a) (.bool b)=some (.bool (!(a==b))):=by
 have h1:prog.eqGuardType prog.depth 4=false:=by kernel_rfl
 have h2:prog.underlying 4=some .bool:=by kernel_rfl
 have h3:ll prog 8 4 (.bool a) (.bool b)=some (a==b):=by unfold ll;rw[h2]
 show cond (prog.eqGuardType prog.depth 4) none ((ll prog 8 4 (.bool a) (.bool b)).map λb=>AV.bool (!b))=_;rw[h1,au,h3];rfl
def vC(c:List aU)(taken:List (iC×Bool))(p:ao):Option ao->Bool
 | some h=>!(p.cM||(h.cM||(getM false ⟨p.bu,p.slot⟩ taken||!vp c h.kind p.slot p.kind)))
 | none=>false
def fW(c:List aU)(ps:List ao)(m:List (List Nat×Int)):List (iC×Bool)->List ao->Bool
 | _,[]=>true
 | taken,p::r=>kq c p&&((decide (p.bu=[])==decide (p.slot=[]))&&cond (decide (p.bu=[])) (fW c ps m taken r) (vC c taken p (pq ps m p.bu)&&fW c ps m (cD ⟨p.bu,p.slot⟩ true taken) r))
def kE(c:List aU)(ps:List ao):Bool:=qe c&&(!(decide (20000<(ps.length:Int)))&&(ko (ps.map ao.name)&&fW c ps (nL 0 [] ps) [] ps))
def Eb(ps:List ao):Rp ps []:=λname h=>by cases h
def GW(c:List aU)(ps:List ao)(hc:mu c)(hlen:ps.length<=1000000)(hps:∀p∈ps,fq p):PC prog 107 [.ag [ak 3 c aq],.ag [ak 14 ps ae]] (·=ai (Proofs.kE c ps)):=by
 have hct:∀k∈c,k.bN.length<=1000000/\∀s∈k.bN,s.kinds.length<=1000000:=λk hk=>⟨(hc.kind k hk).2,λs hs=>(hc.slot k hk s hs).2⟩;have hy:Rp ps (nL 0 [] ps):=Ci i4 (Eb ps)
 refine pB 94 Tryz.func107 ?_;refine(jn)<|(zK (nI c hc)) ?_
 cases h1:qe c
 ·exact(zR)<|(cL)<|zo [.tmp 4] (hq:=by rw[Proofs.kE,h1];rfl)
 cases h2:decide (20000<(ps.length:Int));rotate_left
 ·exact(cP h2)<|(cL)<|zo [.tmp 4] (hq:=by rw[Proofs.kE,h1,h2];rfl)
 refine(L5 h2)<|(zK (DS ps hlen)) ?_
 cases h3:ko (ps.map ao.name)
 ·exact(zR)<|(cL)<|zo [.tmp 4] (hq:=by rw[Proofs.kE,h1,h2,h3];rfl)
 refine(zR)<|(zN) ?_
 have hv:Proofs.kE c ps=fW c ps (nL 0 [] ps) [] ps:=by rw[Proofs.kE,h1,h2,h3];rfl
 clear h1 h2 h3
 refine(zC)<|(zK (rD ps hlen) (hfl:=.inr zr)) ?_
 generalize hM:nL 0 [] ps=M at hv hy
 refine(cP (bx @B5.eq_1 hM))<|(og)<|(zs) ?_;refine Jg ps (λk (taken:List (iC×Bool))=>fW c ps M [] ps=fW c ps M taken (ps.drop k)) (λk taken=>[(2,.ptr 0 0),(5,.ptr 2 0),(6,.map 3),(31,ak 14 ps ae),(32,ab ps.length),(33,ab k)]) (λk taken=>[.cells [ak 3 c aq],.gone,.cells [ak 14 ps ae,lR AV.str ab M],bH yU ai taken]) ([]) zH ii ?_;intro k taken hk hall;refine zT ps k ?_ ?_;rintro rfl;rotate_left;intro p hx hlt;rotate_left
 ·exact(gh)<|(zV)<|zo [.tmp 4] (hq:=by rw[hv,hall,bi];rfl)
 have no:fW c ps M taken (ps.drop k)=false->Proofs.kE c ps=false:=λh=>by rw[hv,hall,h]
 rw[eW hx] at no hall;have hp:=hps p (mem_iff_getElem?.2 ⟨k,hx⟩)
 refine(gz)<|(aA (gr hlt (aT (e:=14) (enc:=ae) gc hx) @ae.eq_1 @oE))<|(zC)<|(zK (I2 c p hc.len hp)) ?_
 cases g1:kq c p
 ·exact(zR)<|(cL)<|zo [.tmp 4] (hq:=by rw[no (by simp[fW,g1])])
 cases g2:(decide (p.bu=[])==decide (p.slot=[]))
 ·exact(cP (bx @B1 g2))<|(cL)<|zo [.tmp 4] (hq:=by rw[no (by simp only[fW,g1,g2,cp,cc])])
 refine(cP (bx @B1 g2))<|(lf) ?_
 cases g3:decide (p.bu=[]);rotate_left
 ·refine(zY) ?_;refine aF.exit ?_
  (try change aF _ _ _ _ _)
  refine(aA (zi hlt hlen)) ?_;refine xu hlt (taken) zH (show fW c ps M [] ps=fW c ps M taken (ps.drop (k+1)) by rw[hall,fW,g1,g2,g3];rfl)
 refine(zN) ?_
 have hpv:∀r,fW c ps M taken (p::r)=(vC c taken p (pq ps M p.bu)&&fW c ps M (cD ⟨p.bu,p.slot⟩ true taken) r):=by intro r;rw[fW,g1,g2,g3];rfl
 rw[hpv] at no hall;refine(zC) ?_;have hG:=mX ps M p.bu hy
 cases hg:pq ps M p.bu with
 | none=>
  rw[hg] at hG no
  exact(zK hG (hfl:=.inr zr))<|(cP (gr @iU.eq_1 @ae.eq_1 @ao.zero.eq_1 @oE))<|(aA @oE)<|(wO)<|(zV)<|zo [.tmp 4] (hq:=by rw[no rfl])
 | some h=>
  rw[hg] at hG no hall
  refine(zK hG (hfl:=.inr zr))<|(cP (cO @iU.eq_1 @ae.eq_1 @oE))<|(aA @oE) ?_
  cases f1:p.cM;rotate_left
  ·exact(wO)<|(zV)<|zo [.tmp 4] (hq:=by rw[no (by simp[vC,f1])])
  cases f2:h.cM;rotate_left
  ·exact(wO)<|(zV)<|zo [.tmp 4] (hq:=by rw[no (by simp[vC,f2])])
  cases f3:getM false (⟨p.bu,p.slot⟩:iC) taken;rotate_left
  ·refine(zs) ?_;refine aF.r0 ii (by simp only[cN,bL,ak,aB,m7,m6,↓reduceIte,aa,ad,af,ac,aj,an,au,bn,r7 (l:=taken),f3];first | done | rfl) ?_;exact(cL)<|zo [.tmp 4] (hq:=by rw[no (by simp[vC,f3])])
  refine(zs) ?_;refine aF.Q9 ii (by simp only[cN,bL,ak,aB,m7,m6,↓reduceIte,aa,ad,af,ac,aj,an,au,bn,r7 (l:=taken),f3];first | done | rfl) ?_;refine(zK (we c h.kind p.slot p.kind hc.len hct)) ?_;cases f4:Proofs.vp c h.kind p.slot p.kind
  ·exact(zR)<|(cL)<|zo [.tmp 4] (hq:=by rw[no (by simp[vC,f4])])
  refine(zR)<|(zN)<|(zs) ?_;refine aF.r0 ii (by simp only[cN,bL,ak,aB,m7,m6,↓reduceIte,aa,ad,af,ac,aj,an,au,bn,DZ (l:=taken)];first | done | rfl) ?_;refine(aA (zi hlt hlen)) ?_;refine xu hlt (cD ⟨p.bu,p.slot⟩ true taken) zH (show fW c ps M [] ps=fW c ps M (cD ⟨p.bu,p.slot⟩ true taken) (ps.drop (k+1)) by rw[hall,show vC c taken p (some h)=true by simp[vC,f1,f2,f3,f4]];rfl)
def Cc(a b:Int):Int:=dX .i64 (a+b)
def tZ(a b:Int):Int:=dX .i64 (a-b)
def Lj(a:Int):Int:=dX .i64 (0-a)
def sJ{P:Program}{t:TypeId}(a b:Int):dk P .add t (.int .i64 a) (.int .i64 b)=some (.int .i64 (Cc a b)):=rfl
def oi{P:Program}{t:TypeId}(a b:Int):dk P .sub t (.int .i64 a) (.int .i64 b)=some (.int .i64 (tZ a b)):=rfl
def kT(a b:Int):SV:=.ag [ab a,ab b]
def ny(a b:Int):Bool:=decide (-1000000000000<=a)&&(decide (a<=b)&&decide (b<=1000000000000))
def oS(a b:Int):PC prog 221 [kT a b] (·=ai (ny a b)):=by
 refine pB 18 Tryz.func221 ?_;refine(aA @kT.eq_1) ?_;cases h1:decide (-1000000000000<=a)
 ·exact(aA h1)<|zo [.tmp 2] (hq:=by rw[ny,h1];rfl)
 cases h2:decide (a<=b)
 ·exact(aA (bx h1 h2))<|zo [.tmp 2] (hq:=by rw[ny,h1,h2];rfl)
 exact(aA (bx h1 h2))<|zo [.tmp 2] (hq:=by rw[ny,h1,h2];rfl)
def gl(a b:Int):Int:=if a<=b then a else b
def eF(a b:Int):Int:=if b<=a then a else b
def jc(a b:Int):yJ false (.int .i64 a) (.int .i64 b)=some (.int .i64 (gl a b)):=NB
def fk(a b:Int):yJ true (.int .i64 a) (.int .i64 b)=some (.int .i64 (eF a b)):=NA
def Sa(n:Int):Int:=eF (-1000000000000) (gl n 1000000000000)
def qL(n:Int):PC prog 268 [ab n] (·=ab (Sa n)):=by
 refine pB 6 Tryz.func268 ?_;exact(zV)<|(aA (bx @jc @fk))<|zo [.tmp 2]
def jK(a b:Int):Int:=Sa (Cc a b)
def CY(a b:Int):Int:=Sa (tZ a b)
def LY(a b:Int):PC prog 202 [ab a,ab b] (·=ab (jK a b)):=by
 refine pB 9 Tryz.func202 ?_;exact(zV)<|(e9 @sJ)<|(zK (qL _))<|(zR)<|zo [.tmp 4]
def IS(a b:Int):PC prog 353 [ab a,ab b] (·=ab (CY a b)):=by
 refine pB 9 Tryz.func353 ?_;refine(zV)<|(e9 @oi)<|(zK (qL _))<|(zR)<|(zE) ?_;exact A8.of (rs:=[.tmp 4]) rfl rfl zl (Wk.refl rfl) zq
def Bl{f:Int->Int->Int}{r:List Int}{j:Nat}{x y:Int}(h:r[j]?=some x):(r.take (j+1)).foldl f y=f ((r.take j).foldl f y) x:=by
 rw[List.take_add_one,h,Option.toList_some,List.foldl_append];rfl
def QT (h:p:=by
  refine pB 25 vae ?_;refine(zV)<|(aA (bx @i7.{0} (show decide (((r.length+1:Nat):Int)<1)=false by simp only[wn];omega)))<|(zN)<|(aA (gr @i7.{0} @Nat.zero_lt_succ (aT (l:=a::r) (e:=1) (enc:=aG ab) gc (show(a::r)[0]?=some a from rfl)) @aG.eq_1))<|(zV) ?_
  (repeat refine aF.seq ?_)
  refine aF.block (aF.loop (λm st=>∃j:Nat,j<=r.length/\m=r.length-j/\st=⟨[(0,ak 1 (a::r) (aG ab)),(3,ab ((r.take j).foldl vaf a)),(4,ab ((j+1:Nat):Int))],25,[],[]⟩) r.length (cm (bx @List.take_zero.{0} @List.foldl_nil.{0,0})) ⟨0,Nat.zero_le _,rfl,rfl⟩ (by rintro m st ⟨j,_,_,rfl⟩;rfl) ?_);rintro m st ⟨j,hj,rfl,rfl⟩;refine(aA @i7.{0}) ?_;by_cases hlt:j<r.length;rotate_left
  ·rw[show decide (((j+1:Nat):Int)<((r.length+1:Nat):Int))=false by simp only[wn];omega]
   refine(gh)<|(zV) ?_
   obtain rfl:j=r.length:=by omega
   exact zo [.tmp 2] (hq:=by rw[List.take_length])
  rw[show decide (((j+1:Nat):Int)<((r.length+1:Nat):Int))=true by simp only[wp];omega];obtain⟨x,hx⟩:∃x,r[j]?=some x:=⟨r[j],jp hlt⟩
  refine(gz)<|(aA (na @i7.{0} (show j+1<r.length+1 by omega) (aT (l:=a::r) (i:=j+1) (e:=1) (enc:=aG ab) gc (show(a::r)[j+1]?=some x from hx)) @aG.eq_1 @vag))<|(zs) ?_;refine aF.r0 ii (mr (bA (((j+1:Nat):Int)) 1 i4)) ?_;exact⟨r.length-(j+1),_,by omega,(Fg.less (by (simp only[cN,bL,fF,↓reduceIte,Nat.reduceEqDiff,Bl hx])<;>(repeat' apply And.intro)<;>first | rfl | trivial) (by (simp only[cN,bL,or_true,true_or,Bl hx])<;>(repeat' apply And.intro)<;>first | exact .inr rfl | exact .inl rfl | trivial)),j+1,by omega,rfl,rfl⟩):p:=h
open Go.Proofs.Tryz renaming func309 -> vae in
open Go.Proofs renaming gl -> vaf in
def I7(a:Int)(r:List Int)(hlen:r.length<1000000):PC prog 309 [ak 1 (a::r) (aG ab)] (·=ab (r.foldl gl a)):=by
 have vag:=@jc;exact QT
open Go.Proofs.Tryz renaming func310 -> vae in
open Go.Proofs renaming eF -> vaf in
def I6(a:Int)(r:List Int)(hlen:r.length<1000000):PC prog 310 [ak 1 (a::r) (aG ab)] (·=ab (r.foldl eF a)):=by
 have vag:=@fk;exact QT
def vM(a:Int)(r:List Int)(hlen:r.length<1000000):PC prog 267 [ak 1 (a::r) (aG ab)] (·=kT (r.foldl gl a) (r.foldl eF a)):=by
 refine pB 8 Tryz.func267 ?_;exact(jn)<|(zK (I7 a r hlen))<|(zQ)<|(zK (I6 a r hlen))<|(zR)<|zo [.cell 2 52]
def fj(f:Int->Int->Int)(a b c d:Int):Int×Int:=
 if ny a b&&ny c d then (gl (gl (gl (f a c) (f a d)) (f b c)) (f b d),eF (eF (eF (f a c) (f a d)) (f b c)) (f b d)) else (0,0)
def od(p:Int×Int):SV:=kT p.1 p.2
def vr(g:FuncId)(fn:Int->Int->Int)(hg:∀x y,PC prog g [ab x,ab y] (·=ab (fn x y)))(a b c d:Int):PC prog 201 [kT a b,kT c d,.fn g [] []] (·=od (fj fn a b c d)):=by
 refine pB 46 Tryz.func201 ?_;refine(aA @kT.eq_1)<|(zC)<|(zK (oS a b)) ?_
 cases h1:ny a b
 ·exact(zR)<|(cL)<|zo [.cell 6 52] (hq:=by rw[fj,h1];rfl)
 refine(zQ)<|(zK (oS c d)) ?_
 cases h2:ny c d
 ·exact(zR)<|(cL)<|zo [.cell 6 52] (hq:=by rw[fj,h1,h2];rfl)
 refine(zR)<|(zN)<|(zs) ?_;refine oe [0,1,0,4,0,16,0,64,3,271,831,2047] ?_;exact(zD)<|(zM)<|(zC)<|(zK (hg a c))<|(zQ)<|(zK (hg a d))<|(zQ)<|(zK (hg b c))<|(zQ)<|(zK (hg b d))<|(zQ)<|(zK (vM (fn a c) [fn a d,fn b c,fn b d] (by show 3<1000000;omega)))<|(zR)<|zo [.cell 6 52] (hq:=by rw[fj,h1,h2];rfl)
def pP(a b c d:Int):PC prog 123 [kT a b,kT c d] (·=od (fj jK a b c d)):=by
 refine pB 8 Tryz.func123 ?_;exact(aA @kT.eq_1)<|(zC)<|(zK (vr 202 jK LY a b c d))<|(cP (bx @od.eq_1 @kT.eq_1))<|zo [.cell 4 52]
def IL(a b c d:Int):PC prog 349 [kT a b,kT c d] (·=od (fj CY a b c d)):=by
 refine pB 8 Tryz.func349 ?_;exact(aA @kT.eq_1)<|(zC)<|(zK (vr 353 CY IS a b c d))<|(cP (bx @od.eq_1 @kT.eq_1))<|zo [.cell 4 52]
def lU(a b c d:Int):Int×Int:=if ny a b&&ny c d then (gl (gl (gl a b) c) d,eF (eF (eF a b) c) d) else (0,0)
def nG(a b c d:Int):PC prog 352 [kT a b,kT c d] (·=od (lU a b c d)):=by
 refine pB 24 Tryz.func352 ?_;refine(aA @kT.eq_1)<|(zC)<|(zK (oS a b)) ?_
 cases h1:ny a b
 ·exact(zR)<|(cL)<|zo [.cell 4 52] (hq:=by rw[lU,h1];rfl)
 refine(zQ)<|(zK (oS c d)) ?_
 cases h2:ny c d
 ·exact(zR)<|(cL)<|zo [.cell 4 52] (hq:=by rw[lU,h1,h2];rfl)
 exact(zR)<|(Ma)<|(zK (vM a [b,c,d] (by show 3<1000000;omega)))<|(zR)<|zo [.cell 4 52] (hq:=by rw[lU,h1,h2];rfl)
def oK(a b n:Int):Int:=if (!ny a b)||decide (b<=n) then 0 else if n<a then 2 else 1
def qJ(a b n:Int):PC prog 137 [kT a b,ab n] (·=ab (oK a b n)):=by
 refine pB 20 Tryz.func137 ?_;refine(aA @kT.eq_1)<|(zB)<|(zC)<|(zK (oS a b)) ?_
 cases h1:ny a b
 ·exact(zR)<|(cL)<|zo [.tmp 4] (hq:=by rw[oK,h1];rfl)
 cases h2:decide (b<=n);rotate_left
 ·exact(cP h2)<|(cL)<|zo [.tmp 4] (hq:=by rw[oK,h1,h2];rfl)
 refine(cP h2)<|(zN) ?_
 cases h3:decide (n<a)
 ·exact(aA h3)<|(lf)<|zo [.tmp 4] (hq:=by rw[oK,h1,h2,v6 (wt h3)];rfl)
 ·exact(aA h3)<|(cL)<|zo [.tmp 4] (hq:=by rw[oK,h1,h2,ut (ww h3)];rfl)
open Go.Ev Go.RowKit Go.Lib Go.Shelf
def GF(x y:Nat)(hx:x<18446744073709551616)(hy:y<18446744073709551616)(w:World):
 Calls prog 357 #[.int .u64 x,.int .u64 y] w λe w'=>e=.returned (.tuple #[.int .u64 ((x*y/18446744073709551616:Nat):Int),.int .u64 ((x*y%18446744073709551616:Nat):Int)])/\w'=w:=by
 obtain⟨bd,bt,bw,hhi⟩:=Lib.mul64_hi x y hx hy;have ba:=Lib.half_mul_le (a:=x/4294967296) (b:=y/4294967296) i4 i4;have bb:=Lib.half_mul_le (a:=x/4294967296) (b:=y%4294967296) i4 i4;have bc:=Lib.half_mul_le (a:=x%4294967296) (b:=y/4294967296) i4 i4
 have ba':x/4294967296*(y/4294967296)<18446744073709551616:=by omega
 have bb':x/4294967296*(y%4294967296)<18446744073709551616:=by omega
 have bc':x%4294967296*(y/4294967296)<18446744073709551616:=by omega
 have bh1:x/4294967296*(y/4294967296)+(x/4294967296*(y%4294967296)+x%4294967296*(y%4294967296)/4294967296)/4294967296<18446744073709551616:=by omega
 have bh:x/4294967296*(y/4294967296)+(x/4294967296*(y%4294967296)+x%4294967296*(y%4294967296)/4294967296)/4294967296+((x/4294967296*(y%4294967296)+x%4294967296*(y%4294967296)/4294967296)%4294967296+x%4294967296*(y/4294967296))/4294967296<18446744073709551616:=by omega
 go_enter func357,Tryz.ntmps357
 go_wp2
 simp only[Mul64.maskN x hx,Mul64.maskN y hy,Mul64.divN,Mul64.mulN,Mul64.addN,Mul64.wrapN _ bd,Mul64.wrapN _ bb',Mul64.wrapN _ bt,Mul64.maskN _ bt,Mul64.wrapN _ bc',Mul64.wrapN _ bw,Mul64.wrapN _ ba',Mul64.wrapN _ bh1,Mul64.wrapN _ bh,Mul64.wrapM (x*y)];rw[hhi]
 go_ret2
 exact⟨rfl,rfl⟩
def GG(x y:Nat)(hx:x<18446744073709551616)(hy:y<18446744073709551616):PC prog 357 [.a (.int .u64 x),.a (.int .u64 y)]
 (·=.cA [.a (.int .u64 ((x*y/18446744073709551616:Nat):Int)),.a (.int .u64 ((x*y%18446744073709551616:Nat):Int))]):=by
 intro ρ h avs _ hA;rw[dQ] at hA;obtain⟨a,r,rfl,hA1,hA2⟩:=hA;rw[dQ] at hA2;obtain⟨b,r2,rfl,hB1,hB2⟩:=hA2;rw[eU] at hB2;subst hB2;rw[GS] at hA1 hB1;subst hA1;subst hB1
 have hc:dZ prog (.func 357) [.int .u64 x,.int .u64 y] h (λa h'=>a=.cA [.int .u64 ((x*y/18446744073709551616:Nat):Int),.int .u64 ((x*y%18446744073709551616:Nat):Int)]/\h'=h):=by
  intro σ w args' hv hr;obtain⟨v1,v2,rfl,k1,k2⟩:=Et hv;cases k1;cases k2;refine(As dC func357 ii hr (a:=.cA [.int .u64 ((x*y/18446744073709551616:Nat):Int),.int .u64 ((x*y%18446744073709551616:Nat):Int)]) (V.ND (.cons (.int _ _) (.cons (.int _ _) .nil))) ((GF x y hx hy w).mono ?_)).mono ?_
  ·rintro e w' ⟨rfl,rfl⟩;exact⟨rfl,Below.refl _ _⟩
  ·rintro v w' ⟨a,h',hm,hg⟩;have:=t6 hm;cases this;exact⟨_,_,⟨rfl,rfl⟩,hg⟩
 refine hc.mono ?_;rintro v h' ⟨rfl,rfl⟩;refine⟨_,ρ,rfl,.refl _ _,λid ob hi=>.inl hi,?_⟩;rw[GS];exact⟨_,rfl,by rw[dQ];exact⟨_,_,rfl,by rw[GS],by rw[dQ];exact⟨_,_,rfl,by rw[GS],by rw[eU]⟩⟩⟩
def iM(a:Int):Nat:=(dX .u64 (eF a (Lj a))).toNat
def D9(n:Int):dX .u64 n=((dX .u64 n).toNat:Int)/\(dX .u64 n).toNat<18446744073709551616:=by
 have h:dX .u64 n=n%18446744073709551616:=by rw[gW];simp[IntKind.wrap,IntKind.bits,IntKind.signed]
 rw[h];omega
def sC(a:Int):Sk .neg (.int .i64 a)=some (.int .i64 (Lj a)):=rfl
def zf(a b:Int):Int:=
 cond ((decide (a<0)) != (decide (b<0)))
  (Lj (if iM a*iM b/18446744073709551616=0/\iM a*iM b%18446744073709551616<=1000000000000 then dX .i64 ((iM a*iM b%18446744073709551616:Nat):Int) else 1000000000000))
  (if iM a*iM b/18446744073709551616=0/\iM a*iM b%18446744073709551616<=1000000000000 then dX .i64 ((iM a*iM b%18446744073709551616:Nat):Int) else 1000000000000)
def Dx(n:Int):mC prog 271 283 (.int .i64 n)=some (.int .u64 (dX .u64 n)):=by
 unfold mC;rw[show prog.underlying 271=some (.int .i64) by kernel_rfl,show prog.underlying 283=some (.int .u64) by kernel_rfl]
def Dy(n:Int):mC prog 283 271 (.int .u64 n)=some (.int .i64 (dX .i64 n)):=by
 unfold mC;rw[show prog.underlying 271=some (.int .i64) by kernel_rfl,show prog.underlying 283=some (.int .u64) by kernel_rfl]
def Ue{P:Program}{t:TypeId}(a b:Int):dk P .eql t (.int .u64 a) (.int .u64 b)=some (.bool (decide (a=b))):=Cj rfl
def Sj{P:Program}{t:TypeId}(a b:Int):dk P .leq t (.int .u64 a) (.int .u64 b)=some (.bool (decide (a<=b))):=Ck rfl
def I9(a b:Int):PC prog 354 [ab a,ab b] (·=ab (zf a b)):=by
 refine pB 38 Tryz.func354 ?_;have hm:=GG (iM a) (iM b) (D9 _).2 (D9 _).2;rw[show((iM a:Nat):Int)=dX .u64 (eF a (Lj a)) from(D9 _).1.symm,show((iM b:Nat):Int)=dX .u64 (eF b (Lj b)) from(D9 _).1.symm] at hm;have ht:zf a b=cond ((decide (a<0)) != (decide (b<0))) (Lj (if iM a*iM b/18446744073709551616=0/\iM a*iM b%18446744073709551616<=1000000000000 then dX .i64 ((iM a*iM b%18446744073709551616:Nat):Int) else 1000000000000)) (if iM a*iM b/18446744073709551616=0/\iM a*iM b%18446744073709551616<=1000000000000 then dX .i64 ((iM a*iM b%18446744073709551616:Nat):Int) else 1000000000000):=rfl;generalize iM a*iM b/18446744073709551616=hi at hm ht;generalize iM a*iM b%18446744073709551616=lo at hm ht
 refine(zV)<|(e9 (cO @sC @fk @Dx))<|(zK hm)<|(zR)<|(zV) ?_
 by_cases h1:hi=0/\lo<=1000000000000
 ·rw[ut h1] at ht
  refine(aA (gr @Ue @Sj (show decide ((hi:Int)=0)=true by simp;omega) (show decide ((lo:Int)<=1000000000000)=true by simp;omega)))<|(zY)<|(aA @Dy) ?_
  cases g1:decide (a<0)<;>cases g2:decide (b<0)
  ·rw[g1,g2] at ht
   exact(aA (bx g1 g2))<|(lf)<|zo [.tmp 4] (hq:=by rw[ht];rfl)
  ·rw[g1,g2] at ht
   exact(aA (bx g1 g2))<|(zY)<|(aA @sC)<|zo [.tmp 4] (hq:=by rw[ht];rfl)
  ·rw[g1,g2] at ht
   exact(aA (bx g1 g2))<|(zY)<|(aA @sC)<|zo [.tmp 4] (hq:=by rw[ht];rfl)
  ·rw[g1,g2] at ht
   exact(aA (bx g1 g2))<|(lf)<|zo [.tmp 4] (hq:=by rw[ht];rfl)
 ·rw[v6 h1] at ht;by_cases h2:hi=0
  ·refine(aA (gr @Ue @Sj (show decide ((hi:Int)=0)=true by simp;omega) (show decide ((lo:Int)<=1000000000000)=false by simp;omega)))<|(zN) ?_
   cases g1:decide (a<0)<;>cases g2:decide (b<0)
   ·rw[g1,g2] at ht
    exact(aA (bx g1 g2))<|(lf)<|zo [.tmp 4] (hq:=by rw[ht];rfl)
   ·rw[g1,g2] at ht
    exact(aA (bx g1 g2))<|(zY)<|(aA @sC)<|zo [.tmp 4] (hq:=by rw[ht];rfl)
   ·rw[g1,g2] at ht
    exact(aA (bx g1 g2))<|(zY)<|(aA @sC)<|zo [.tmp 4] (hq:=by rw[ht];rfl)
   ·rw[g1,g2] at ht
    exact(aA (bx g1 g2))<|(lf)<|zo [.tmp 4] (hq:=by rw[ht];rfl)
  ·refine(aA (cO @Ue @Sj (show decide ((hi:Int)=0)=false by simp;omega)))<|(zN) ?_
   cases g1:decide (a<0)<;>cases g2:decide (b<0)
   ·rw[g1,g2] at ht
    exact(aA (bx g1 g2))<|(lf)<|zo [.tmp 4] (hq:=by rw[ht];rfl)
   ·rw[g1,g2] at ht
    exact(aA (bx g1 g2))<|(zY)<|(aA @sC)<|zo [.tmp 4] (hq:=by rw[ht];rfl)
   ·rw[g1,g2] at ht
    exact(aA (bx g1 g2))<|(zY)<|(aA @sC)<|zo [.tmp 4] (hq:=by rw[ht];rfl)
   ·rw[g1,g2] at ht
    exact(aA (bx g1 g2))<|(lf)<|zo [.tmp 4] (hq:=by rw[ht];rfl)
def IK(a b c d:Int):PC prog 350 [kT a b,kT c d] (·=od (fj zf a b c d)):=by
 refine pB 8 Tryz.func350 ?_;exact(aA @kT.eq_1)<|(zC)<|(zK (vr 354 zf I9 a b c d))<|(cP (bx @od.eq_1 @kT.eq_1))<|zo [.cell 4 52]
def PT(a b:Int):Int:=dX .i64 (a*b)
def F2(a b:Int):Int:=dX .i64 (a.tdiv b)
def qa{P:Program}{t:TypeId}(a b:Int):dk P .mul t (.int .i64 a) (.int .i64 b)=some (.int .i64 (PT a b)):=rfl
def My{P:Program}{t:TypeId}{a b:Int}(h:¬b=0):dk P .quo t (.int .i64 a) (.int .i64 b)=some (.int .i64 (F2 a b)):=by
 have:RM b=false:=by
  cases b with
  | ofNat n=>
   cases n with
   | zero=>exact un rfl h
   | succ n=>rfl
  | negSucc n=>rfl
 unfold dk;simp only[this];rfl
def qk(a b:Int):Int:=if b=0 then 0 else if (!(decide (PT (F2 a b) b=a)))&&((decide (a<0)) != (decide (b<0))) then tZ (F2 a b) 1 else F2 a b
def gU(a b:Int):PC prog 356 [ab a,ab b] (·=ab (qk a b)):=by
 refine pB 26 Tryz.func356 ?_;refine(zV) ?_;cases h0:decide (b=0);rotate_left
 ·exact(aA h0)<|(cL)<|zo [.tmp 4] (hq:=by rw[qk,ut (ww h0)])
 have h0':=wt h0
 refine(aA h0)<|(zN)<|(zs) ?_;refine aF.r0 ii (by simp only[cN,bL,ak,aB,m7,m6,↓reduceIte,aa,ad,af,ac,aj,an,au,bn,My h0'];first | done | rfl) ?_
 have hf:qk a b=if (!(decide (PT (F2 a b) b=a)))&&((decide (a<0)) != (decide (b<0))) then tZ (F2 a b) 1 else F2 a b:=by rw[qk,v6 h0']
 cases h1:decide (PT (F2 a b) b=a);rotate_left
 ·rw[h1] at hf;refine(zs) ?_;refine aF.r0 ii (mr (bx @qa h1)) ?_;refine(zs) ?_;refine aF.no rfl ?_;(try (refine aF.skip ?_;try change aF _ _ _ _ _));refine(zs) ?_;refine aF.r0 ii zl ?_;refine(zE) ?_;exact A8.of (rs:=[.tmp 4]) rfl rfl zl (Wk.refl rfl) (by (try simp only[ez,bK]);first | done | (rw[hf];rfl))
 cases g1:decide (a<0)<;>cases g2:decide (b<0)<;>rw[h1,g1,g2] at hf
 ·refine(zs) ?_;refine aF.r0 ii (mr (gr @qa h1 g1 g2)) ?_;exact(lf)<|zo [.tmp 4] (hq:=by rw[hf];rfl)
 ·exact(aA (gr @qa h1 g1 g2))<|(zY)<|(aA @oi)<|(zV)<|zo [.tmp 4] (hq:=by rw[hf];rfl)
 ·exact(aA (gr @qa h1 g1 g2))<|(zY)<|(aA @oi)<|(zV)<|zo [.tmp 4] (hq:=by rw[hf];rfl)
 ·exact(aA (gr @qa h1 g1 g2))<|(lf)<|zo [.tmp 4] (hq:=by rw[hf];rfl)
abbrev aR:SV:=.a (.slice none 0 0 (some 0))
variable{n:Nat}
def Tv{c:Option Nat}{q:IntKind}(h:k<=n):cQ n c none (some (.int q (k:Int))) none=some (0,k,c):=by
 unfold cQ oy pU;simp only[oI,m7,fc h,d5,an]
def KB{c:Option Nat}{q:IntKind}(h:k<=n):cQ n c (some (.int q (k:Int))) none none=some (k,n,c):=by
 unfold cQ oy;simp only[oI,m7,fc h,an]
def NS(l:List (List Nat)):(l.flatMap (aG ah)).all eM=true:=by
 induction l with
 | nil=>rfl
 | cons a l ih=>rw[d8,List.all_append,ih];rfl
def CQ(l:List (List Nat)):(l.flatMap (aG ah)).length=l.length:=by
 induction l with
 | nil=>rfl
 | cons a l ih=>rw[d8,li,ih,i7];show 1+_=_;omega
open Go.Ev Go.RowKit
def pZ(k:List Nat):List AV:=[.str k]
def yT(ks:List (List Nat)):∀r∈ks.map pZ,r.length=1:=by intro r hr;obtain⟨t,_,rfl⟩:=List.mem_map.1 hr;rfl
def gq(day fr:Int):Int:=if day<=fr then 0 else day-(if day-1000000000000<=fr then fr else day-1000000000000)
def qS(ks:List (List Nat)):Prop:=ks.Pairwise λa b=>gB b a=false
end Go.Proofs
