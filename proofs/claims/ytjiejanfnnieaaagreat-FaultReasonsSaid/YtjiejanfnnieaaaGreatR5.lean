/- Lemmas of this claim, each with its conditions. -/
import Derived.Test.YtjiejanfnnieaaaGreatR4
import Derived.Test.YtjiejanfnnieaaaGreatR3
import Derived.Test.YtjiejanfnnieaaaGreatR2
import Derived.Test.YtjiejanfnnieaaaGreatProg
import Derived.KernelRfl
import Derived.MapKept
import Derived.Shelf.Bits.Mul64
set_option linter.all false
set_option maxHeartbeats 8000000
open Go.Proofs.Tryz (prog func357)
open Nat (ble beq blt)
open List (mem_iff_getElem? all_eq_true)
open Nat renaming reduceEqDiff -> aa, reduceLeDiff -> ac, reduceAdd -> ad, reduceMul -> af, reduceLT -> aj, le_refl -> ap, le_of_lt -> ay, lt_succ_self -> a0, not_lt_zero -> bi, exists_eq_succ_of_ne_zero -> bk, reduceSub -> bs, lt_trichotomy -> bX, eq_of_beq_eq_true -> ci, zero_le -> ck, le_of_not_lt -> cn, mul_one -> cp, zero_add -> dl, le_total -> el, zero_lt_succ -> em, add_zero -> fi, lt_trans -> fl
open Bool renaming and_eq_true -> al, not_true -> ca, and_false -> cd, false_and -> ce, and_true -> ct, false_or -> cv, true_and -> c6, or_true -> dE, or_eq_true -> d4, true_or -> d7, decide_and -> er
open And renaming intro -> am
open List renaming getElem?_map -> ax, mem_of_find?_eq_some -> aW, mem_cons_of_mem -> be, drop_length -> bv, mem_cons_self -> bF, set_eq_take_append_cons_drop -> cc, replicate -> ch, mem_of_getElem? -> co, drop_eq_getElem_cons -> dc, range -> dd, find?_eq_none -> dv, getElem?_cons_succ -> dC, drop_of_length_le -> d2, take_of_length_le -> d3, length_set -> d5, mem_append -> d6, getElem?_range -> d8, getElem?_take -> d9, flatMap_cons -> ej, find?_some -> es, length_map -> ey, all_cons -> fd
open Array renaming toList_append -> dt
namespace Go.Ev
noncomputable section
section
variable {P:Program} {ro:Option Nat}
def PC.body(hng:ta P){g:FuncId}{fn:Func}{c:Code}{args:List SV}{Q:SV->Prop}(hf:P.funcs[g]?=some fn)(hb:fn.body=some c){n:Nat}(hn:args.length+(fn.ntmps-args.length)=n)
 (hw:aE P none c ⟨kX 0 args,n,[],[]⟩ (BJ P fn Q)) (hlim:n<=1000000:=by exact md rfl):PC P g args Q:=
 .tn hng hf hb hn hlim (hw.mono λe st ⟨h1,h2,h3⟩=>⟨h1,by rw[h2];exact h3⟩)
def SC.body(hng:ta P){g:FuncId}{fn:Func}{c:Code}{args:List SV}{S0:List SO}{mv:List Nat}{Q:SV->List SO->Prop}(hf:P.funcs[g]?=some fn)(hb:fn.body=some c){n:Nat}(hn:args.length+(fn.ntmps-args.length)=n)(hlim:n<=1000000){W:Fm}(hW:W=oE S0.length)
 (hw:aE P none c ⟨kX 0 args++W,n,S0,[]⟩ (Lh P fn S0.length mv Q)) (hK:S0.length<=1000000:=by exact md rfl):SC P g args S0 mv Q:=
 .tn hng hf hb hn hlim hW hK (hw.mono λe st ⟨h1,h2,h3⟩=>⟨h1,by rw[h2];exact h3⟩)
variable{ol:List Oper}
def IF{L:Nat->Prop}(hb:jK 0 ol=true)(hc:lX ol L){j:Nat}:∀(i:Nat) (o:Oper),ol[i]?=some o->(∀e∈o.after.toList,dep e=true->L e.on)->bL ((mW ol []).getD i 0) j=true->L j:=by
 intro i
 induction i using Nat.strongRecOn with
 | _ i ih=>
  intro o ho hd hj;have hlt:=λe he hde=>pE hb ho e he hde;simp only[dl] at hlt;obtain⟨e,he,hde,h | h⟩:=IG ho hlt hj
  ·exact h▸hd e he hde
  ·have hl:=hlt e he hde;obtain⟨o',ho'⟩:∃o',ol[e.on]?=some o':=⟨_,jp (fl hl (bo ho))⟩;exact ih e.on hl o' ho' (hc _ _ ho' (hd e he hde)) h
def Kz{α β γ:Type}(a:Option α)(g:α->Option β)(k:β->γ):(a.bind λx=>(g x).map k)=(a.bind g).map k:=by cases a<;>rfl
variable{op:Op}
def Rx{f:Fm}{S S2:List SO}{v:SV}(hr:kc op=true)(hh:Iz op=false)(h:dk P f S op=some (v,S,none)):dk P f S2 op=some (v,S2,none):=by
 have go:∀{α:Type} (q:Option α) (w:α->SV),q.map (λv=>(w v,S,(none:Option Nat)))=some (v,S,none)->q.map (λv=>(w v,S2,(none:Option Nat)))=some (v,S2,none):=by
  rintro _ (_ | q) w h
  ·cases h
  ·cases h;rfl
 cases op<;>first | (simp[kc] at hr;done) | (simp[Iz] at hh;done) | (simp only[dk,Kz] at h ⊢;exact go _ _ h) | skip
 case makeFunc g first _=>
  cases g<;>first | (simp[kc] at hr;done) | skip
  all_goals
   simp only[dk] at h ⊢
   cases ha:qe f first.toList with
   | none=>rw[ha] at h;cases h
   | some a=>
    rw[ha] at h;simp only[m7] at h ⊢
    first
    | exact go _ _ h
    | cases hb:iY a with
     | none=>rw[hb] at h;cases h
     | some b=>
      rw[hb] at h;simp only[m7,Kz] at h ⊢;exact go _ _ h
 case extract x _=>
  simp only[dk] at h ⊢
  cases hx:eW f x with
  | none=>rw[hx] at h;cases h
  | some w=>
   rw[hx] at h
   cases w<;>first | (cases h;done) | exact go _ _ h
def O7(ol:List Oper)(i:Nat)(a:Oper)(mj:Nat)(b:Oper):Bool:=
 (match b.dst with | some d=>!(decide (a.dst=some d))&&(!(iR ol a).contains d||bL mj i) | none=>true)&&(bL mj i||(match a.dst with | some d=>!(iR ol b).contains d | none=>true)&&!(tQ a.op&&tQ b.op))
def wi(all:List Oper)(ms:List Nat):List (Nat×Oper)->Bool
 | []=>true
 | (i,a)::rest=>(match a.dst with | some d=>!(iR all a).contains d | none=>true)&&(match a.guard with | some (j,_)=>blt j i | none=>true)&&rest.all (λq=>O7 all i a (ms.getD q.1 0) q.2)&&wi all ms rest
def O8{all:List Oper}{ms:List Nat}:∀{ol:List Oper} {i0 i:Nat} {o:Oper},wi all ms (cu i0 ol)=true->ol[i]?=some o->(∀d,o.dst=some d->d∉iR all o)/\(∀j b,o.guard=some (j,b)->j<i0+i)/\∀(k:Nat) o',i<k->ol[k]?=some o'->O7 all (i0+i) o (ms.getD (i0+k) 0) o'=true
 | [],_,_,_,_,h=>by simp at h
 | a::ol,i0,i,o,h,ho=>by
  rw[cu,wi,al,al,al] at h;obtain⟨⟨⟨h1,h2⟩,h3⟩,h4⟩:=h
  cases i with
  | zero=>
   cases ho;refine⟨λd hd=>?_,λj b hg=>?_,λk o' hk hko=>?_⟩
   ·rw[hd] at h1;simpa using h1
   ·rw[hg] at h2;exact fZ h2
   ·obtain⟨k,rfl⟩:=bk (Nat.ne_of_gt hk);have:=all_eq_true.1 h3 (i0+1+k,o') (mem_iff_getElem?.2 ⟨k,by rw[jX,show ol[k]?=some o' by simpa using hko];rfl⟩);rw[show i0+(k+1)=i0+1+k by omega];exact this
  | succ i=>
   obtain⟨g1,g2,g3⟩:=O8 h4 (by simpa using ho);refine⟨g1,λj b hg=>by have:=g2 j b hg;omega,λk o' hk hko=>?_⟩;obtain⟨k,rfl⟩:=bk (show k≠0 by omega);have:=g3 k o' i4 (by simpa using hko);rw[show i0+(i+1)=i0+1+i by omega,show i0+(k+1)=i0+1+k by omega];exact this
variable{all:List Oper}
def HP{f1 f2:Fm}{o:Oper}(h:∀t∈iR all o,aO f1 t=aO f2 t):bT all f1 o.guard=bT all f2 o.guard:=by
 unfold iR at h;unfold bT;split
 ·rfl
 ·rename_i j w hg;rw[hg] at h
  cases ho:all[j]? with
  | none=>rfl
  | some o'=>
   cases hd:o'.dst with
   | none=>simp[hd]
   | some d=>
    simp only[ho,hd,m7] at h ⊢;rw[h d ge]
def My{f1 f2:Fm}{o:Oper}(h:∀t∈iR all o,aO f1 t=aO f2 t):∀x∈o.op.operands.toList,eW f1 x=eW f2 x:=by
 intro x hx
 cases x with
 | tmp t=>simp only[eW];rw[h t (by unfold iR;exact List.mem_append_left _ (IH (by simpa using hx)))]
 | _=>rfl
def Fo{f1 f2:Fm}{c:Call}(h:∀x∈(Op.call c).operands.toList,eW f1 x=eW f2 x):iN P f1 c=iN P f2 c:=by
 obtain⟨callee,aS,ats⟩:=c
 cases callee with
 | builtin b=>rfl
 | value x=>
  rw[iN,iN];simp only;rw[h x (by simp[Op.operands,Call.operands]),gl (l:=aS.toList) λy hy=>h y (by simp only[Op.operands,Call.operands,dt,d6];exact .inr hy)]
 | invoke x m=>
  rw[iN,iN];simp only;rw[h x (by simp[Op.operands,Call.operands]),gl (l:=aS.toList) λy hy=>h y (by simp only[Op.operands,Call.operands,dt,d6];exact .inr hy)]
def SS{cl:Call}(h:fR (.call cl)=true):tR (.call cl)=false:=by
 obtain⟨callee,aS,ats⟩:=cl
 cases callee<;>first | rfl | (simp[fR] at h;done)
def Lg{b:Bool}(h:b=true->False):b=false:=by cases b<;>simp_all
def Uj(h:kc op=true):tR op=false:=by
 cases op<;>first | rfl | (simp[kc] at h;done) | skip
 rename_i c;obtain⟨callee,aS,ats⟩:=c
 cases callee with
 | builtin b=>cases b<;>first | rfl | (simp[kc] at h;done)
 | _=>rfl
def QO:Op->Bool
 | .alloc _ | .box _ _ | .buildSlice _ _ _ | .makeMap _ _ | .makeSlice _ _ _ | .call { callee:=.builtin .append,.. }=>true
 | _=>false
def sN(op:Op):Bool:=tR op||QO op
def cB(G:List Nat)(i:Nat)(op:Op):Bool:=sN op&&!G.contains i
variable{G:List Nat}
def mN{i:Nat}(h:sN op=false):cB G i op=false:=by unfold cB;rw[h];rfl
def SP{i:Nat}(h:cB G i op=true):sN op=true:=by unfold cB at h;rw[Bool.and_eq_true] at h;exact h.1
def Fq(G:List Nat)(ms:List Nat):List (Nat×Oper)->Bool
 | []=>true
 | (i,a)::l=>(!(cB G i a.op||fR a.op)||l.all λq=>!(cB G q.1 q.2.op||fR q.2.op)||bL (ms.getD q.1 0) i)&&Fq G ms l
def Kb{G:List Nat}{ms:List Nat}:∀{ol:List Oper} {i0 i j:Nat} {a b:Oper},Fq G ms (cu i0 ol)=true->ol[i]?=some a->ol[j]?=some b->i<j->(cB G (i0+i) a.op||fR a.op)=true->(cB G (i0+j) b.op||fR b.op)=true->bL (ms.getD (i0+j) 0) (i0+i)=true
 | [],_,_,_,_,_,_,h,_,_,_,_=>by simp at h
 | o::ol,i0,i,j,a,b,h,ha,hb,hij,h1,h2=>by
  rw[cu,Fq,al] at h;obtain⟨g1,g2⟩:=h;obtain⟨j,rfl⟩:=bk (show j≠0 by omega)
  cases i with
  | zero=>
   cases ha;rw[fi] at h1;rw[h1,ca,cv] at g1;have:=all_eq_true.1 g1 (i0+1+j,b) (mem_iff_getElem?.2 ⟨j,by rw[jX,show ol[j]?=some b by simpa using hb];rfl⟩);rw[show i0+(j+1)=i0+1+j by omega] at h2 ⊢;rw[h2,ca,cv] at this;exact this
  | succ i=>
   rw[show i0+(i+1)=i0+1+i by omega] at h1 ⊢;rw[show i0+(j+1)=i0+1+j by omega] at h2 ⊢;exact Kb g2 (i:=i) (j:=j) (by simpa using ha) (by simpa using hb) i4 h1 h2
def wq(h:kc op=true):sN op=false:=by
 unfold sN;rw[Uj h,cv]
 cases op<;>first | rfl | (simp[kc] at h;done) | skip
 rename_i c;obtain⟨callee,aS,ats⟩:=c
 cases callee with
 | builtin b=>cases b<;>first | rfl | (simp[kc] at h;done)
 | _=>rfl
def NX{cl:Call}(h:fR (.call cl)=true):sN (.call cl)=false:=by
 unfold sN;rw[SS h,cv];obtain⟨callee,aS,ats⟩:=cl
 cases callee<;>first | rfl | (simp[fR] at h;done)
def ng{S:List SO}{f1 f2:Fm}(hrd:(kc op||sN op)=true)(h:∀x∈op.operands.toList,eW f1 x=eW f2 x):dk P f1 S op=dk P f2 S op:=by
 by_cases hw:(kc op||tR op)=true
 ·exact Mw hw h
 cases op with
 | alloc e=>rfl
 | box t x=>rw[dk,dk,h x (by simp[Op.operands])]
 | buildSlice t n ps=>rw[dk,dk,qh λx hx=>h x (by simpa [Op.operands] using hx)]
 | makeMap t x=>
  cases x with
  | none=>rfl
  | some x=>rfl
 | makeSlice t l c=>rw[dk,dk,h l (by simp[Op.operands]),h c (by simp[Op.operands])]
 | call c=>
  obtain⟨callee,aS,ats⟩:=c
  cases callee with
  | builtin b=>rw[dk,dk,gl λx hx=>h x (by simp only[Op.operands,Call.operands,dt,d6];exact .inr hx)]
  | _=>simp[kc,sN,tR,QO] at hrd
 | makeFunc g first cap=>cases g<;>first | exact un rfl hw | (simp[kc,sN,tR,QO] at hrd;done)
 | _=>first | exact un rfl hw | (simp[kc,sN,tR,QO] at hrd;done)
variable{ms:List Nat}
def KA(hb:jK 0 ol=true)(hms:mW ol []=ms)(w:Nat)(o:Oper)(ho:ol[w]?=some o){i:Nat}(h:bL (ms.getD w 0) i=true):i<w:=by
 have hlt:∀{j:Nat} {o':Oper},ol[j]?=some o'->∀e∈o'.after.toList,dep e=true->e.on<j:=λho' e he hde=>by simpa using pE hb ho' e he hde
 exact IF (L:=λj=>j<w) hb (λj o' ho' hj e he hde=>fl (hlt ho' e he hde) hj) w o ho (λe he hde=>hlt ho e he hde) (by rw[hms];exact h)
structure M1 where
 b:Bool
 hp:List Nat
 kl:List (Nat×Nat)
 f0:Fm
 f:Fm
 S:List SO
def lN(ms:List Nat)(i:Nat)(v:SV):List (Nat×Nat)->Prop
 | []=>True
 | q::l=>(bL (ms.getD i 0) q.1=true\/aP q.2 v=v)/\lN ms i v l
def oV{ms:List Nat}{i:Nat}{v:SV}:∀{l:List (Nat×Nat)},lN ms i v l->∀q∈l,bL (ms.getD i 0) q.1=true\/aP q.2 v=v
 | [],_,q,hq=>by cases hq
 | x::l,h,q,hq=>by
  rcases t7 hq with rfl | hq
  ·exact h.1
  ·exact oV h.2 q hq
def Av(all:List Oper)(ms:List Nat)(i:Nat):List Nat:=((cu 0 all).filter λq=>!Nat.beq q.1 i&&!bL (ms.getD i 0) q.1&&!bL (ms.getD q.1 0) i).flatMap λq=>(match q.2.dst with | some d=>d::iR all q.2 | none=>iR all q.2)
def Tz(f0 f:Fm)(k:Nat):List Nat->Prop
 | []=>True
 | t::l=>(aP k (aO f t)=aO f t/\aP k (aO f0 t)=aO f0 t)/\Tz f0 f k l
def La{f0 f:Fm}{k:Nat}:∀{l:List Nat},Tz f0 f k l->∀t∈l,aP k (aO f t)=aO f t/\aP k (aO f0 t)=aO f0 t
 | [],_,t,h=>by cases h
 | x::l,h,t,ht=>by
  rcases t7 ht with rfl | ht
  ·exact h.1
  ·exact La h.2 t ht
def J2(all:List Oper)(ms:List Nat)(i:Nat):Bool:=(cu 0 all).all λq=>beq q.1 i||(blt q.1 i&&bL (ms.getD i 0) q.1)||(blt i q.1&&bL (ms.getD q.1 0) i)
inductive qz (G:List Nat) (P:Program) (ro:Option Nat) (all:List Oper) (ms:List Nat) (n:Nat) (i:Nat) (o:Oper):M1->M1->Prop
 | s {b hp kl f0 f S d}:dg all n [o]=true->o.dst=some d->bT all f o.guard=some false->cB G i o.op=false->qz G P ro all ms n i o ⟨b,hp,kl,f0,f,S⟩ ⟨b,hp,kl,f0,(d,.a lV)::f,S⟩
 | sk {b hp kl f0 f S d}:dg all n [o]=true->o.dst=some d->bT all f o.guard=some false->cB G i o.op=true->hp.all (λj=>bL (ms.getD i 0) j)=true->qz G P ro all ms n i o ⟨b,hp,kl,f0,f,S⟩ ⟨false,hp,kl,f0,(d,.a lV)::f,S⟩
 | r {b hp kl f0 f S d v}:dg all n [o]=true->o.dst=some d->bT all f o.guard=some true->kc o.op=true->(∀S2,dk P f S2 o.op=some (v,S2,none))->lN ms i v kl->qz G P ro all ms n i o ⟨b,hp,kl,f0,f,S⟩ ⟨b,hp,kl,f0,(d,v)::f,S⟩
 | h {hp kl f0 f S d v}:dg all n [o]=true->o.dst=some d->bT all f o.guard=some true->kc o.op=true->dk P f S o.op=some (v,S,none)->lN ms i v kl->qz G P ro all ms n i o ⟨true,hp,kl,f0,f,S⟩ ⟨true,i::hp,kl,f0,(d,v)::f,S⟩
 | k {hp kl f0 f S d cl g vs ws r}:dg all n [o]=true->o.op=.call cl->o.dst=some d->bT all f o.guard=some true->fR (.call cl)=true->tQ o.op=true->iN P f cl=some (g,vs)->PC P g ws (·=r)->cA S vs ws->(∀o,aP o r=r)->(wa r=true\/cA [] vs ws)->
  qz G P ro all ms n i o ⟨true,hp,kl,f0,f,S⟩ ⟨true,hp,kl,f0,(d,r)::f,S⟩
 | e {b hp kl f0 f S v S'}:dg all n [o]=true->bT all f o.guard=some true->cB G i o.op=true->hp.all (λj=>bL (ms.getD i 0) j)=true->dk P f S o.op=some (v,S',none)->lN ms i v kl->qz G P ro all ms n i o ⟨b,hp,kl,f0,f,S⟩ ⟨false,hp,kl,f0,pN f none o.dst v,S'⟩
 | a {b hp kl f0 f S v S' k}:dg all n [o]=true->bT all f o.guard=some true->cB G i o.op=true->hp.all (λj=>bL (ms.getD i 0) j)=true->dk P f S o.op=some (v,S',some k)->lN ms i v kl->(∀t∈Av all ms i,aP k (aO f t)=aO f t/\aP k (aO f0 t)=aO f0 t)->qz G P ro all ms n i o ⟨b,hp,kl,f0,f,S⟩ ⟨false,hp,(i,k)::kl,f0,pN f (some k) o.dst v,S'⟩
 | g {b hp kl f0 f S d v}:dg all n [o]=true->o.dst=some d->bT all f o.guard=some true->G.contains i=true->(∀o,aP o v=v)->(∀f2 S2 ds K,dg (all.take (i+1)) n [o]=true->bT (all.take (i+1)) f2 o.guard=some true->(∀x∈o.op.operands.toList,eW f2 x=eW f x)->K ⟨(d,v)::f2,n,S2,ds⟩->aN P ro (all.take (i+1)) [o] ⟨f2,n,S2,ds⟩ K)->qz G P ro all ms n i o ⟨b,hp,kl,f0,f,S⟩ ⟨b,hp,kl,f0,(d,v)::f,S⟩
 | x {b hp kl f0 f S v S' k}:dg all n [o]=true->bT all f o.guard=some true->cB G i o.op=true->hp.all (λj=>bL (ms.getD i 0) j)=true->(∀f2 ds K,dg (all.take (i+1)) n [o]=true->bT (all.take (i+1)) f2 o.guard=some true->(∀x∈o.op.operands.toList,eW f2 x=eW f x)->K ⟨pN f2 (some k) o.dst v,n,S',ds⟩->aN P ro (all.take (i+1)) [o] ⟨f2,n,S,ds⟩ K)->lN ms i v kl->(∀t∈Av all ms i,aP k (aO f t)=aO f t/\aP k (aO f0 t)=aO f0 t)->qz G P ro all ms n i o ⟨b,hp,kl,f0,f,S⟩ ⟨false,hp,(i,k)::kl,f0,pN f (some k) o.dst v,S'⟩
 | Qh {b hp kl f0 f S f' S'}:J2 all ms i=true->cB G i o.op=false->(∀ds K,K ⟨f',n,S',ds⟩->aN P ro (all.take (i+1)) [o] ⟨f,n,S,ds⟩ K)->qz G P ro all ms n i o ⟨b,hp,kl,f0,f,S⟩ ⟨true,[],[],f',f',S'⟩
inductive Sy (G:List Nat) (P:Program) (ro:Option Nat) (all:List Oper) (ms:List Nat) (n:Nat):List (Nat×Oper)->M1->M1->Prop
 | nil {x}:Sy G P ro all ms n [] x x
 | cons {i o l x y z}:qz G P ro all ms n i o x y->Sy G P ro all ms n l y z->Sy G P ro all ms n ((i,o)::l) x z
def gF(G:List Nat)(P:Program)(ro:Option Nat)(all:List Oper)(ms:List Nat)(n:Nat)(f0:Fm)(kl:List (Nat×Nat))(b:Bool)(hp:List Nat)(l:List (Nat×Oper))(f:Fm)(S:List SO)(K:Fm->List SO->Prop):Prop:=∃z,K z.f z.S/\Sy G P ro all ms n l ⟨b,hp,kl,f0,f,S⟩ z
mutual
def FG:∀{v:SV},wa v=true->∀o,names o v=false
 | .any,_,_=>rfl
 | .a _,_,_=>rfl
 | .ag cs,h,o=>by rw[names];exact vk (by rw[wa] at h;exact h) o
 | .cx cs,h,o=>by rw[names];exact vk (by rw[wa] at h;exact h) o
 | .sl ..,h,_ | .im ..,h,_ | .ptr ..,h,_ | .map ..,h,_ | .buf ..,h,_ | .sub ..,h,_ | .fn ..,h,_ | .iface ..,h,_ | .ip ..,h,_ | .e0 ..,h,_=>by simp[wa] at h
def vk:∀{l:List SV},Iq l=true->∀o,eI o l=false
 | [],_,_=>rfl
 | d::ds,h,o=>by rw[Iq,al] at h;rw[eI,FG h.1,vk h.2];rfl
end
def QR{v:SV}(h:wa v=true)(o:Nat):aP o v=v:=by unfold aP;rw[FG h o];rfl
section
variable {G:List Nat} {all:List Oper} {ms:List Nat} {n:Nat} {b:Bool} {hp:List Nat} {l:List (Nat×Oper)} {f:Fm} {S:List SO} {K:Fm->List SO->Prop} {i:Nat} {o:Oper} {d:Nat} {f0:Fm} {kl:List (Nat×Nat)}
def gF.nil(h:K f S):gF G P ro all ms n f0 kl b hp [] f S K:=⟨_,h,.nil⟩
theorem gF.s(hst:dg all n [o]=true)(hdst:o.dst=some d)(hw:bT all f o.guard=some false)(hwr:cB G i o.op=false):gF G P ro all ms n f0 kl b hp l ((d,.a lV)::f) S K->gF G P ro all ms n f0 kl b hp ((i,o)::l) f S K:=λ⟨z,k,t⟩=>⟨z,k,.cons (.s hst hdst hw hwr) t⟩
theorem gF.r{v:SV}{S':List SO}{kill:Option Nat}(hst:dg all n [o]=true)(hdst:o.dst=some d)(hw:bT all f o.guard=some true)(hrr:(kc o.op&&(b||!Iz o.op))=true)(hop:dk P f S o.op=some (v,S',kill))
 (hk:gF G P ro all ms n f0 kl b (_root_.cond (Iz o.op) (i::hp) hp) l ((d,v)::f) S K) (hkl:lN ms i v kl):gF G P ro all ms n f0 kl b hp ((i,o)::l) f S K:=by
 rw[al] at hrr;obtain⟨h1,h2⟩:=hrr;obtain⟨rfl,rfl⟩:=Pw h1 hop;obtain⟨z,k,t⟩:=hk;cases hh:Iz o.op
 ·rw[hh] at t;exact⟨z,k,.cons (.r hst hdst hw h1 (λS2=>Rx h1 hh hop) hkl) t⟩
 ·rw[hh] at t h2
  obtain rfl:b=true:=by cases b<;>simp_all
  exact⟨z,k,.cons (.h hst hdst hw h1 hop hkl) t⟩
def gF.ri{tt:TypeId}{x:Operand}{cs0:List SV}{v:SV}(hst:dg all n [o]=true)(hdst:o.dst=some d)(hw:bT all f o.guard=some true)(hop:o.op=.load tt x)(hx:eW f x=some (.ip cs0))(hv:tX P tt cs0 0=some v)(hkl:lN ms i v kl):
 gF G P ro all ms n f0 kl b hp l ((d,v)::f) S K->gF G P ro all ms n f0 kl b hp ((i,o)::l) f S K:=λ⟨z,k,t⟩=>⟨z,k,.cons (.r hst hdst hw (by rw[hop];rfl) (λS2=>by rw[hop,dk,hx,m7,zk,hv];rfl) hkl) t⟩
def gF.rg{v:SV}(hst:dg all n [o]=true)(hdst:o.dst=some d)(hw:bT all f o.guard=some true)(hrd:kc o.op=true)(hop:∀S2,dk P f S2 o.op=some (v,S2,none))(hkl:lN ms i v kl):
 gF G P ro all ms n f0 kl b hp l ((d,v)::f) S K->gF G P ro all ms n f0 kl b hp ((i,o)::l) f S K:=λ⟨z,k,t⟩=>⟨z,k,.cons (.r hst hdst hw hrd hop hkl) t⟩
theorem gF.k{cl:Call}{g:FuncId}{vs ws:List SV}{r:SV}(hst:dg all n [o]=true)(hop:o.op=.call cl)(hdst:o.dst=some d)(hw:bT all f o.guard=some true)(hdy:fR (.call cl)=true)(he:tQ (.call cl)=true)
 (hc:iN P f cl=some (g,vs)) (hq:PC P g ws (·=r)) (hwk:cA S vs ws) (hr:wa r=true):gF G P ro all ms n f0 kl true hp l ((d,r)::f) S K->gF G P ro all ms n f0 kl true hp ((i,o)::l) f S K:=λ⟨z,k,t⟩=>⟨z,k,.cons (.k hst hop hdst hw hdy (by rw[hop];exact he) hc hq hwk (QR hr) (.inl hr)) t⟩
def gF.kg{cl:Call}{g:FuncId}{vs:List SV}{r:SV}(hst:dg all n [o]=true)(hop:o.op=.call cl)(hdst:o.dst=some d)(hw:bT all f o.guard=some true)(hdy:fR (.call cl)=true)(he:tQ (.call cl)=true)
 (hc:iN P f cl=some (g,vs)) (hq:PC P g vs (·=r)) (hwk:∀S,cA S vs vs) (hr:mC r=true):gF G P ro all ms n f0 kl true hp l ((d,r)::f) S K->gF G P ro all ms n f0 kl true hp ((i,o)::l) f S K:=λ⟨z,k,t⟩=>⟨z,k,.cons (.k hst hop hdst hw hdy (by rw[hop];exact he) hc hq (hwk _) (λ_=>vx hr) (.inr (hwk _))) t⟩
theorem gF.e{v:SV}{S':List SO}(hst:dg all n [o]=true)(hw:bT all f o.guard=some true)(hwr:cB G i o.op=true)(hms:hp.all (λj=>bL (ms.getD i 0) j)=true)(hop:dk P f S o.op=some (v,S',none))(hkl:lN ms i v kl):
 gF G P ro all ms n f0 kl false hp l (pN f none o.dst v) S' K->gF G P ro all ms n f0 kl b hp ((i,o)::l) f S K:=λ⟨z,k,t⟩=>⟨z,k,.cons (.e hst hw hwr hms hop hkl) t⟩
def gF.ed{v:SV}{S':List SO}(hst:dg all n [o]=true)(hdst:o.dst=some d)(hw:bT all f o.guard=some true)(hwr:cB G i o.op=true)(hms:hp.all (λj=>bL (ms.getD i 0) j)=true)(hop:dk P f S o.op=some (v,S',none))(hkl:lN ms i v kl)
 (q:gF G P ro all ms n f0 kl false hp l ((d,v)::f) S' K):gF G P ro all ms n f0 kl b hp ((i,o)::l) f S K:=.e hst hw hwr hms hop hkl (by rw[hdst];exact q)
theorem gF.a{f':Fm}{v:SV}{S':List SO}{k:Nat}(T:List Nat)(hst:dg all n [o]=true)(hdst:o.dst=some d)(hw:bT all f o.guard=some true)(hwr:cB G i o.op=true)(hms:hp.all (λj=>bL (ms.getD i 0) j)=true)(hT:((Av all ms i).all λt=>T.contains t)=true)(hop:dk P f S o.op=some (v,S',some k))(hf:dB k f=f')(ht:Tz f0 f k T)(hkl:lN ms i v kl):
 gF G P ro all ms n f0 ((i,k)::kl) false hp l ((d,v)::f') S' K->gF G P ro all ms n f0 kl b hp ((i,o)::l) f S K:=λ⟨z,c,t⟩=>⟨z,c,.cons (by have:=qz.a (ro:=ro) (b:=b) hst hw hwr hms hop hkl λt h=>La ht t (List.contains_iff_mem.1 (all_eq_true.1 hT t h));rw[hdst] at this;rw[<-hf];exact this) t⟩
theorem gF.g{v:SV}(hst:dg all n [o]=true)(hdst:o.dst=some d)(hw:bT all f o.guard=some true)(hG:G.contains i=true)(hv:∀o,aP o v=v)(hop:∀f2 S2 ds K,dg (all.take (i+1)) n [o]=true->bT (all.take (i+1)) f2 o.guard=some true->(∀x∈o.op.operands.toList,eW f2 x=eW f x)->K ⟨(d,v)::f2,n,S2,ds⟩->aN P ro (all.take (i+1)) [o] ⟨f2,n,S2,ds⟩ K):
 gF G P ro all ms n f0 kl b hp l ((d,v)::f) S K->gF G P ro all ms n f0 kl b hp ((i,o)::l) f S K:=λ⟨z,c,t⟩=>⟨z,c,.cons (.g hst hdst hw hG hv hop) t⟩
def gF.Qh{f':Fm}{S':List SO}(hbr:J2 all ms i=true)(hwr:cB G i o.op=false)(hop:∀ds K,K ⟨f',n,S',ds⟩->aN P ro (all.take (i+1)) [o] ⟨f,n,S,ds⟩ K):
 gF G P ro all ms n f' [] true [] l f' S' K->gF G P ro all ms n f0 kl b hp ((i,o)::l) f S K:=λ⟨z,c,t⟩=>⟨z,c,.cons (.Qh hbr hwr hop) t⟩
end
def Sy.get{G:List Nat}{all:List Oper}{ms:List Nat}{n:Nat}:∀{ol:List Oper} {i0:Nat} {x z:M1},Sy G P ro all ms n (cu i0 ol) x z->∃X:Nat->M1,X i0=x/\X (i0+ol.length)=z/\∀(k:Nat) o,ol[k]?=some o->qz G P ro all ms n (i0+k) o (X (i0+k)) (X (i0+k+1))
 | [],i0,x,z,h=>by
  rw[cu] at h;cases h;exact⟨λ_=>x,rfl,rfl,λk o h=>by simp at h⟩
 | o::ol,i0,x,z,h=>by
  rw[cu] at h
  cases h with | cons h t=>?_
  obtain⟨X,h1,h2,h3⟩:=Sy.get t;refine⟨λj=>if j=i0 then x else X j,ut rfl,?_,?_⟩
  ·show(if _ then _ else _)=z;rw[i7,v6 i4,<-h2];congr 1;omega
  ·rintro(_ | k) o' ho
   ·cases ho;show qz G P ro all ms n i0 o (if _ then _ else _) (if _ then _ else _);rw[fi,ut rfl,v6 i4,h1];exact h
   ·have:=h3 k o' (by simpa using ho);show qz G P ro all ms n (i0+(k+1)) o' (if _ then _ else _) (if _ then _ else _);rw[v6 i4,v6 i4,show i0+(k+1)=i0+1+k by omega];exact this
structure Sw (G:List Nat) (P:Program) (ro:Option Nat) (all:List Oper) (ms:List Nat) (n:Nat) (i:Nat) (o:Oper) (x y:M1) (κ:Option Nat):Prop where
 st:dg all n [o]=true
 fr:∀t,o.dst≠some t->aO y.f t=jS κ (aO x.f t)
 wr:cB G i o.op=false->κ=none
 S:cB G i o.op=false->y.S=x.S
 b:y.b=true->x.b=true/\cB G i o.op=false
 hp:∀j∈x.hp,j∈y.hp
 w:cB G i o.op=true->x.hp.all (λj=>bL (ms.getD i 0) j)=true
 k1:∀q∈x.kl,q∈y.kl
 k2:∀k,κ=some k->(i,k)∈y.kl
 t:∀k,κ=some k->∀t∈Av all ms i,aP k (aO x.f t)=aO x.f t/\aP k (aO x.f0 t)=aO x.f0 t
 v:∀d,o.dst=some d->∀q∈x.kl,bL (ms.getD i 0) q.1=true\/aP q.2 (aO y.f d)=aO y.f d
 op:cB G i o.op=true->∃v S',((bT all x.f o.guard=some true/\(∀f2 ds K,dg (all.take (i+1)) n [o]=true->bT (all.take (i+1)) f2 o.guard=some true->(∀y∈o.op.operands.toList,eW f2 y=eW x.f y)->K ⟨pN f2 κ o.dst v,n,S',ds⟩->aN P ro (all.take (i+1)) [o] ⟨f2,n,x.S,ds⟩ K))\/(bT all x.f o.guard=some false/\(∃d,o.dst=some d)/\v=.a lV/\S'=x.S/\κ=none))/\(∀d,o.dst=some d->aO y.f d=v)/\y.S=S'
 z:y.f0=x.f0
structure TS (G:List Nat) (P:Program) (ro:Option Nat) (all:List Oper) (ms:List Nat) (n:Nat) (i:Nat) (o:Oper) (x y:M1):Prop where
 ok:J2 all ms i=true
 wr:cB G i o.op=false
 op:∀ds K,K ⟨y.f,n,y.S,ds⟩->aN P ro (all.take (i+1)) [o] ⟨x.f,n,x.S,ds⟩ K
 z:y.f0=y.f
def qz.out{n i:Nat}{o:Oper}{x y:M1}(h:qz G P ro all ms n i o x y):(∃κ,Sw G P ro all ms n i o x y κ)\/TS G P ro all ms n i o x y:=by
 have put:∀{f:Fm} {d:Nat} {v:SV},o.dst=some d->∀t,o.dst≠some t->aO ((d,v)::f) t=aO f t:=λ{f d v} hd t ht=>by
  show(if d=t then v else aO f t)=_;rw[v6 λe=>ht (by rw[hd,e])]
 have top:∀{d:Nat} {v:SV} {f:Fm},aO ((d,v)::f) d=v:=λ{d v f}=>ut rfl
 have no2:∀{q:Prop},cB G i o.op=false->cB G i o.op=true->q:=λh h2=>by rw[h] at h2;cases h2
 have run:∀{f:Fm} {S S':List SO} {v:SV} {κ:Option Nat},cB G i o.op=true->dk P f S o.op=some (v,S',κ)->∀f2 ds K,dg (all.take (i+1)) n [o]=true->bT (all.take (i+1)) f2 o.guard=some true->(∀x∈o.op.operands.toList,eW f2 x=eW f x)->K ⟨pN f2 κ o.dst v,n,S',ds⟩->aN P ro (all.take (i+1)) [o] ⟨f2,n,S,ds⟩ K:=
  λh1 h2 f2 ds K h3 h4 h5 hK=>aN.run (l':=[]) h3 (by rw[pg,h4,ng (by rw[SP h1,dE]) h5,h2];simp only[pg]) (.nil hK)
 have val:∀{d d':Nat} {v:SV} {f:Fm},o.dst=some d->o.dst=some d'->aO ((d,v)::f) d'=v:=λh1 h2=>by rw[h1] at h2;cases h2;exact top
 cases h with
 | s h1 h2 h3 h4=>exact .inl ⟨none,h1,put h2,λ_=>rfl,λ_=>rfl,λh=>⟨h,h4⟩,λ_ h=>h,no2 h4,λ_ h=>h,nofun,nofun,λd hd q _=>.inr (by rw[val h2 hd];rfl),no2 h4,rfl⟩
 | r h1 h2 h3 h4 _ h6=>exact .inl ⟨none,h1,put h2,λ_=>rfl,λ_=>rfl,λh=>⟨h,mN (wq h4)⟩,λ_ h=>h,no2 (mN (wq h4)),λ_ h=>h,nofun,nofun,λd hd q hq=>by rw[val h2 hd];exact oV h6 q hq,no2 (mN (wq h4)),rfl⟩
 | h h1 h2 h3 h4 _ h6=>exact .inl ⟨none,h1,put h2,λ_=>rfl,λ_=>rfl,λh=>⟨h,mN (wq h4)⟩,λ_ h=>be _ h,no2 (mN (wq h4)),λ_ h=>h,nofun,nofun,λd hd q hq=>by rw[val h2 hd];exact oV h6 q hq,no2 (mN (wq h4)),rfl⟩
 | k h1 h0 h2 h3 h4 _ _ _ _ h9 _=>
  have hk:cB G i o.op=false:=by rw[h0];exact mN (NX h4)
  exact .inl ⟨none,h1,put h2,λ_=>rfl,λ_=>rfl,λh=>⟨h,hk⟩,λ_ h=>h,no2 hk,λ_ h=>h,nofun,nofun,λd hd q _=>.inr (by rw[val h2 hd];exact h9 _),no2 hk,rfl⟩
 | sk h1 h2 h3 h4 h5=>exact .inl ⟨none,h1,put h2,λ_=>rfl,λ_=>rfl,λh=>(by cases h),λ_ h=>h,λ_=>h5,λ_ h=>h,nofun,nofun,λd hd q _=>.inr (by rw[val h2 hd];rfl),λ_=>⟨.a lV,_,.inr ⟨h3,⟨_,h2⟩,rfl,rfl,rfl⟩,λd hd=>val h2 hd,rfl⟩,rfl⟩
 | e h1 h3 h5 h6 h7 h8=>
  refine .inl ⟨none,h1,λt ht=>?_,λ_=>rfl,λh=>(by rw[h] at h5;cases h5),λh=>(by cases h),λ_ h=>h,λ_=>h6,λ_ h=>h,nofun,nofun,λd hd q hq=>?_,λ_=>⟨_,_,.inl ⟨h3,run h5 h7⟩,λd hd=>(by rw[hd];exact top),rfl⟩,rfl⟩
  ·cases hd:o.dst with
   | none=>rfl
   | some d=>exact put hd t ht
  ·refine(oV h8 q hq).imp id λh=>?_;rw[hd];simp only[pN,top];exact h
 | a h1 h3 h5 h6 h7 h8 h9=>
  rename_i k;refine .inl ⟨some k,h1,λt ht=>?_,λh=>(by rw[h] at h5;cases h5),λh=>(by rw[h] at h5;cases h5),λh=>(by cases h),λ_ h=>h,λ_=>h6,λ_ h=>be _ h,λk' e=>(by cases e;exact bF),λk' e=>(by cases e;exact h9),λd hd q hq=>?_,λ_=>⟨_,_,.inl ⟨h3,run h5 h7⟩,λd hd=>(by rw[hd];exact top),rfl⟩,rfl⟩
  ·cases hd:o.dst with
   | none=>exact fD _ _ _
   | some d=>exact(put (f:=dB k _) hd t ht).trans (fD _ _ _)
  ·refine(oV h8 q hq).imp id λh=>?_;rw[hd];simp only[pN,top];exact h
 | x h1 h3 h5 h6 h7 h8 h9=>
  rename_i k;refine .inl ⟨some k,h1,λt ht=>?_,λh=>(by rw[h] at h5;cases h5),λh=>(by rw[h] at h5;cases h5),λh=>(by cases h),λ_ h=>h,λ_=>h6,λ_ h=>be _ h,λk' e=>(by cases e;exact bF),λk' e=>(by cases e;exact h9),λd hd q hq=>?_,λ_=>⟨_,_,.inl ⟨h3,h7⟩,λd hd=>(by rw[hd];exact top),rfl⟩,rfl⟩
  ·cases hd:o.dst with
   | none=>exact fD _ _ _
   | some d=>exact(put (f:=dB k _) hd t ht).trans (fD _ _ _)
  ·refine(oV h8 q hq).imp id λh=>?_;rw[hd];simp only[pN,top];exact h
 | g h1 h2 h3 h4 h5 _=>
  have hk:cB G i o.op=false:=by unfold cB;rw[h4,ca,cd]
  exact .inl ⟨none,h1,put h2,λ_=>rfl,λ_=>rfl,λh=>⟨h,hk⟩,λ_ h=>h,no2 hk,λ_ h=>h,nofun,nofun,λd hd q _=>.inr (by rw[val h2 hd];exact h5 _),no2 hk,rfl⟩
 | Qh h1 h2 h3=>exact .inr ⟨h1,h2,h3,rfl⟩
def dH(κ:Nat->Option Nat)(b:Nat):Nat->SV->SV
 | 0,v=>v
 | m+1,v=>if m<b then v else jS (κ m) (dH κ b m v)
def F2(k:Option Nat)(v:SV):jS k v=v\/jS k v=.any:=by
 cases k with
 | none=>exact .inl rfl
 | some k=>unfold jS aP;simp only;cases names k v;exact .inl rfl;exact .inr rfl
def Cb(k:Option Nat):jS k .any=.any:=by rcases F2 k .any with h | h<;>exact h
section
variable {κ:Nat->Option Nat} {b m:Nat} {v:SV}
def F3:dH κ b m v=v\/dH κ b m v=.any:=by
 induction m with
 | zero=>exact .inl rfl
 | succ m ih=>
  rw[dH];split
  ·exact .inl rfl
  ·rcases ih with h | h
   ·rw[h];exact F2 _ _
   ·rw[h,Cb];exact .inr rfl
def jT(h:m<=b):dH κ b m v=v:=by
 cases m with
 | zero=>rfl
 | succ m=>rw[dH,ut i4]
def sP(h:b<=m):dH κ b (m+1) v=jS (κ m) (dH κ b m v):=by rw[dH,v6 i4]
def oS{c:Nat}(hbc:m<=c)(h:∀w,b<=w->m<=w->w<c->jS (κ w) (dH κ b w v)=dH κ b w v):dH κ b c v=dH κ b m v:=by
 induction hbc with
 | refl=>rfl
 | step hbc ih=>
  rename_i c;have:=ih λw h1 h2 h3=>h w h1 h2 (Nat.lt_succ_of_lt h3);by_cases hb:b<=c
  ·rw[sP hb,h c hb hbc (a0 c),this]
  ·rw[jT i4,<-this,jT i4]
end
def om(g:Nat->SV)(φ:SV->SV)(f:Fm):List Oper->Fm
 | []=>f.map λq=>(q.1,φ q.2)
 | o::l=>match o.dst with
  | some d=>(d,g d)::om g φ f l
  | none=>om g φ f l
def Fp{g:Nat->SV}{φ:SV->SV}{f:Fm}(hφ:φ .any=.any){t:Nat}:∀{l:List Oper},(aO (om g φ f l) t=g t/\∃o∈l,o.dst=some t)\/(aO (om g φ f l) t=φ (aO f t)/\∀o∈l,o.dst≠some t)
 | []=>by
  refine .inr ⟨?_,λo h=>by cases h⟩;rw[om]
  induction f with
  | nil=>exact hφ.symm
  | cons q f ih=>
   show(if q.1=t then φ q.2 else _)=φ (if q.1=t then q.2 else _);split
   ·rfl
   ·exact ih
 | o::l=>by
  have ih:=Fp (g:=g) (φ:=φ) (f:=f) hφ (t:=t) (l:=l);rw[om]
  cases hd:o.dst with
  | none=>exact ih.imp (λ⟨a,o',b,c⟩=>⟨a,o',be _ b,c⟩) λ⟨a,b⟩=>⟨a,λo' ho'=>by rcases t7 ho' with rfl | h ;(rw[hd];nofun);exact b o' h⟩
  | some d=>
   by_cases e:d=t
   ·subst e;exact .inl ⟨ut rfl,o,bF,hd⟩
   ·have h1:aO ((d,g d)::om g φ f l) t=aO (om g φ f l) t:=v6 e;simp only[h1];exact ih.imp (λ⟨a,o',b,c⟩=>⟨a,o',be _ b,c⟩) λ⟨a,b⟩=>⟨a,λo' ho'=>by rcases t7 ho' with rfl | h ;(rw[hd];exact λh=>e (Option.some.inj h));exact b o' h⟩
variable{ops:Array Oper}{Q:Ex->ez->Prop}
def aE.yC(G:List Nat){id:Nat}{st:ez}(hol:ops.toList=ol)(hms:mW ol []=ms)(hok:((jK 0 ol&&P.follows .mixedOrders)&&(wi ol ms (cu 0 ol)&&Fq G ms (cu 0 ol)))=true)
 (h:gF G P ro ol ms st.n st.f [] true [] (cu 0 ol) st.f st.S λf' S'=>Q .normal ⟨f',st.n,S',st.ds⟩):aE P ro (.region id ops true) st Q:=by
 obtain⟨f,n,S,ds⟩:=st;rw[al] at hok;obtain⟨hbk,hpr⟩:=hok;rw[al] at hpr;obtain⟨hpr,hch⟩:=hpr
 have hord:∀{i j:Nat} {a b:Oper},ol[i]?=some a->ol[j]?=some b->i<j->(cB G i a.op||fR a.op)=true->(cB G j b.op||fR b.op)=true->bL (ms.getD j 0) i=true:=λh1 h2 h3 h4 h5=>by simpa using Kb hch h1 h2 h3 (by simpa using h4) (by simpa using h5)
 have hback:=hbk;rw[al] at hback;obtain⟨z,hz,ht⟩:=h;obtain⟨X,hX0,hXN,hX⟩:=ht.get;simp only[dl] at hXN hX;have hP:=λ{i:Nat} {o:Oper} (ho:ol[i]?=some o)=>O8 hpr ho;simp only[dl] at hP;obtain⟨B,hB0⟩:∃B:Nat->Prop,∀i,B i↔∃o,ol[i]?=some o/\TS G P ro ol ms n i o (X i) (X (i+1)):=⟨_,λ_=>Iff.rfl⟩
 obtain⟨κ,hκ0⟩:∃κ:Nat->Option Nat,∀i,(B i->κ i=none)/\∀o,ol[i]?=some o->¬B i->Sw G P ro ol ms n i o (X i) (X (i+1)) (κ i):=by
  have:∀i,∃κ,(B i->κ=none)/\∀o,ol[i]?=some o->¬B i->Sw G P ro ol ms n i o (X i) (X (i+1)) κ:=by
   intro i;by_cases hb:B i
   ·exact⟨none,λ_=>rfl,λ_ _ h=>un hb h⟩
   cases ho:ol[i]? with
   | none=>exact⟨none,λ_=>rfl,nofun⟩
   | some o=>
    rcases(hX i o ho).out with⟨κ,h⟩ | h
    ·exact⟨κ,λh=>un h hb,λo' e _=>by cases e;exact h⟩
    ·exact un ((hB0 i).2 ⟨o,ho,h⟩) hb
  exact⟨λi=>Classical.choose (this i),λi=>Classical.choose_spec (this i)⟩
 have hκ:=λ{i o} (ho:ol[i]?=some o) (hb:¬B i)=>(hκ0 i).2 o ho hb
 have hBw:∀{i o},B i->ol[i]?=some o->cB G i o.op=false/\J2 ol ms i=true:=by
  intro i o hb ho;obtain⟨o',h1,h2⟩:=(hB0 i).1 hb;rw[h1] at ho;cases ho;exact⟨h2.wr,h2.ok⟩
 have hBn:∀{i o},ol[i]?=some o->cB G i o.op=true->¬B i:=λho hw hb=>by rw[(hBw hb ho).1] at hw;cases hw
 have hat:∀{i},i<ol.length->∃o,ol[i]?=some o:=λh=>⟨_,jp h⟩
 have hBl:∀{i},B i->i<ol.length:=λhb=>by obtain⟨o,h,_⟩:=(hB0 _).1 hb;exact bo h
 have hBo:∀{c j},B c->j<ol.length->(j<c->bL (ms.getD c 0) j=true)/\(c<j->bL (ms.getD j 0) c=true):=by
  intro c j hb hj;obtain⟨oc,hoc⟩:=hat (hBl hb);obtain⟨oj,hoj⟩:=hat hj;have h:=all_eq_true.1 (hBw hb hoc).2 (j,oj) (mem_iff_getElem?.2 ⟨j,by rw[jX,hoj];simp⟩);simp only[d4,al] at h;refine⟨λhlt=>?_,λhlt=>?_⟩
  ·rcases h with(h | h) | h
   ·have:=ci h;omega
   ·exact h.2
   ·have:=fZ h.1;omega
  ·rcases h with(h | h) | h
   ·have:=ci h;omega
   ·have:=fZ h.1;omega
   ·exact h.2
 have hF:∀(k m t:Nat),k<=m->m<=ol.length->(∀c,k<=c->c<m->¬B c)->(∀j o,k<=j->j<m->ol[j]?=some o->o.dst≠some t)->aO (X m).f t=dH κ k m (aO (X k).f t):=by
  intro k m t hkm
  induction hkm with
  | refl=>exact λ_ _ _=>(jT (ap _)).symm
  | step hkm ih=>
   rename_i m;intro hm hb hno;obtain⟨o,hoj⟩:=hat hm;rw[(hκ hoj (hb m hkm (a0 _))).fr t (hno m _ hkm (a0 _) hoj),sP hkm,ih (ay hm) (λc h1 h2=>hb c h1 i4) λj o h1 h2=>hno j o h1 i4]
 have hseg:∀{α:Type} (φ:M1->α) (k m:Nat),(∀j o,k<=j->j<m->ol[j]?=some o->φ (X (j+1))=φ (X j))->k<=m->m<=ol.length->φ (X m)=φ (X k):=by
  intro α φ k m hs hkm
  induction hkm with
  | refl=>exact λ_=>rfl
  | step hkm ih=>
   rename_i m;intro hm;obtain⟨o,hoj⟩:=hat hm;rw[hs m o hkm (a0 _) hoj];exact ih (λj o h1 h2=>hs j o h1 i4) (ay hm)
 have hS:∀(k m:Nat),k<=m->m<=ol.length->(∀c,k<=c->c<m->¬B c)->(∀j o,k<=j->j<m->ol[j]?=some o->cB G j o.op=false)->(X m).S=(X k).S:=λk m h1 h2 hb hw=>hseg M1.S k m (λj o g1 g2 g3=>(hκ g3 (hb j g1 g2)).S (hw j o g1 g2 g3)) h1 h2;have hZ:∀(k m:Nat),k<=m->m<=ol.length->(∀c,k<=c->c<m->¬B c)->(X m).f0=(X k).f0:=λk m h1 h2 hb=>hseg M1.f0 k m (λj o g1 g2 g3=>(hκ g3 (hb j g1 g2)).z) h1 h2
 have hB:∀(k m:Nat),k<=m->m<=ol.length->(∀c,k<=c->c<m->¬B c)->(X m).b=true->∀j o,k<=j->j<m->ol[j]?=some o->cB G j o.op=false:=by
  intro k m hkm
  induction hkm with
  | refl=>exact λ_ _ _ j o h1 h2=>by omega
  | step hkm ih=>
   rename_i m;intro hm hbr hb j o h1 hj ho;obtain⟨o',ho'⟩:=hat hm;obtain⟨h3,h2⟩:=(hκ ho' (hbr m hkm (a0 _))).b hb;by_cases e:j=m
   ·subst e;rw[ho'] at ho;cases ho;exact h2
   ·exact ih (ay hm) (λc h1 h2=>hbr c h1 i4) h3 j o h1 i4 ho
 have hH:∀(k m j:Nat),k<=m->m<=ol.length->(∀c,k<=c->c<m->¬B c)->j∈(X k).hp->j∈(X m).hp:=by
  intro k m j hkm
  induction hkm with
  | refl=>exact λ_ _ h=>h
  | step hkm ih=>
   intro hm hb hj;obtain⟨o',ho'⟩:=hat hm;exact(hκ ho' (hb _ hkm (a0 _))).hp j (ih (ay hm) (λc h1 h2=>hb c h1 i4) hj)
 have hKL:∀(k m:Nat) q,k<=m->m<=ol.length->(∀c,k<=c->c<m->¬B c)->q∈(X k).kl->q∈(X m).kl:=by
  intro k m q hkm
  induction hkm with
  | refl=>exact λ_ _ h=>h
  | step hkm ih=>
   intro hm hb hj;obtain⟨o',ho'⟩:=hat hm;exact(hκ ho' (hb _ hkm (a0 _))).k1 q (ih (ay hm) (λc h1 h2=>hb c h1 i4) hj)
 have hu:∀{j k:Nat} {a b:Oper} {t:Nat},ol[j]?=some a->ol[k]?=some b->a.dst=some t->b.dst=some t->j=k:=by
  have one:∀{j k:Nat} {a b:Oper} {t:Nat},ol[j]?=some a->ol[k]?=some b->a.dst=some t->b.dst=some t->¬j<k:=by
   intro j k a b t hj hk ha hb hlt;have:=(hP hj).2.2 k b hlt hk;unfold O7 at this;rw[hb] at this;simp[ha] at this
  intro j k a b t hj hk ha hb;exact Nat.le_antisymm (cn (one hk hj hb ha)) (cn (one hj hk ha hb))
 have hT:∀{i w:Nat} {o:Oper} {t k:Nat},ol[i]?=some o->i≠w->bL (ms.getD w 0) i=false->bL (ms.getD i 0) w=false->w<ol.length->κ w=some k->(o.dst=some t\/t∈iR ol o)->aP k (aO (X w).f t)=aO (X w).f t/\aP k (aO (X w).f0 t)=aO (X w).f0 t:=by
  intro i w o t k ho hne h1 h2 hw hk hd;obtain⟨ow,how⟩:=hat hw
  have hnb:¬B w:=λhb=>by rw[(hκ0 w).1 hb] at hk;cases hk
  refine(hκ how hnb).t k hk t ?_;unfold Av;refine List.mem_flatMap.2 ⟨(i,o),List.mem_filter.2 ⟨mem_iff_getElem?.2 ⟨i,by rw[jX,ho];simp⟩,?_⟩,?_⟩
  ·simp only[h1,h2,Bool.not_false,ct,Bool.not_eq_true'];cases hb:beq i w
   ·rfl
   ·exact un (ci hb) hne
  ·cases hd':o.dst with
   | none=>rw[hd'] at hd;exact hd.resolve_left nofun
   | some d=>
    rw[hd'] at hd
    rcases hd with hd | hd
    ·cases hd;exact bF
    ·exact be _ hd
 have hu0:∀q:(Nat->Prop)×Nat,∃base:Nat->Nat,(∀j o t,q.2<=j->ol[j]?=some o->o.dst=some t->q.1 j->base t=j+1)/\∀t,(∀j o,q.2<=j->ol[j]?=some o->o.dst=some t->¬q.1 j)->base t=q.2:=by
  rintro⟨L,β⟩
  have:∀t,∃b,(∀j o,β<=j->ol[j]?=some o->o.dst=some t->L j->b=j+1)/\((∀j o,β<=j->ol[j]?=some o->o.dst=some t->¬L j)->b=β):=by
   intro t;by_cases h:∃j o,β<=j/\ol[j]?=some o/\o.dst=some t/\L j
   ·obtain⟨j,o,h0,h1,h2,h3⟩:=h;exact⟨j+1,λj' o' _ g1 g2 _=>by rw[hu h1 g1 h2 g2],λg=>un h3 (g j o h0 h1 h2)⟩
   ·exact⟨β,λj o g0 g1 g2 g3=>un ⟨j,o,g0,g1,g2,g3⟩ h,λ_=>rfl⟩
  exact⟨λt=>Classical.choose (this t),λj o t h0 h1 h2 h3=>(Classical.choose_spec (this t)).1 j o h0 h1 h2 h3,λt h=>(Classical.choose_spec (this t)).2 h⟩
 obtain⟨base,hbase0⟩:=Classical.axiomOfChoice hu0;have hbase:=λL β=>hbase0 (L,β);simp only at hbase;obtain⟨g,hg⟩:∃g:(Nat->Prop)->Nat->Nat->Nat->SV,∀L β m t,g L β m t=dH κ (base (L,β) t) m (aO (X (base (L,β) t)).f t):=⟨_,λ_ _ _ _=>rfl⟩
 have hfr:∀L β m t,aO (om (g L β m) (dH κ β m) (X β).f ol) t=g L β m t:=by
  intro L β m t
  rcases Fp (g:=g L β m) (φ:=dH κ β m) (f:=(X β).f) (by rcases F3 (κ:=κ) (b:=β) (m:=m) (v:=.any) with h | h<;>exact h) (t:=t) (l:=ol) with⟨h,_⟩ | ⟨h,hn⟩
  ·exact h
  ·rw[h,hg,(hbase L β).2 t λj o _ hj hd=>un hd (hn o (co hj))]
 have hgd:∀(i:Nat) (o:Oper),ol[i]?=some o->∀(j:Nat) (b:Bool),o.guard=some (j,b)->j<i:=λi o ho=>(hP ho).2.1;refine aE.post (aE.any hol hbk (.inr hgd) (λL x=>x.n=n/\lX ol L/\∃β m,β<=m/\m<=ol.length/\(∀j,j<β->L j)/\(X β).f0=(X β).f/\(∀c,β<=c->B c->¬L c/\m<=c)/\(∀j o,ol[j]?=some o->cB G j o.op=true->(L j↔j<m))/\Fg x ⟨om (g L β m) (dH κ β m) (X β).f ol,n,(X m).S,ds⟩) ?_ (λL x h=>h.1) ?_ ?_)
 ·refine⟨rfl,λ_ _ _ h=>h.elim,0,0,ap _,ck _,λj h=>un h (bi _),by rw[hX0],λc _ _=>⟨λh=>h,ck _⟩,λj o _ _=>⟨λh=>h.elim,λh=>un h (bi _)⟩,?_⟩;rw[show(X 0).S=S by rw[hX0]];refine Fg.tmps λt=>.inl ?_;rw[hfr,hg,(hbase _ 0).2 t λj o _ _ _ h=>h,hX0];rfl
 ·rintro L x i o ⟨hxn,hc,β,m,hβm,hml,hβ,hβ0,hβB,hm,hx⟩ hr;have ho:=hr.jF;have hil:=bo ho;obtain⟨p1,p2,p3⟩:=hP ho;have hβi:β<=i:=cn λh=>hr.new (hβ i h)
  have hc2:lX ol (λj=>L j\/j=i):=by
   intro j o' ho' hj e he hd
   rcases hj with hj | rfl
   ·exact .inl (hc j o' ho' hj e he hd)
   ·rw[ho'] at ho;cases ho;exact .inl (hr.dep e he hd)
  have hA:∀k,bL (ms.getD i 0) k=true->L k:=λk hk=>IF hback.1 hc i o ho hr.dep (by rw[hms];exact hk);have hA2:∀j o' k,ol[j]?=some o'->L j->bL (ms.getD j 0) k=true->L k:=λj o' k hj hl hk=>IF hback.1 hc j o' hj (hc j o' hj hl) (by rw[hms];exact hk);have hbi:∀c,β<=c->c<i->¬B c:=λc h1 h2 hb=>(hβB c h1 hb).1 (hA c ((hBo hb hil).2 h2))
  have hbm:∀c,β<=c->c<m->¬B c:=λc h1 h2 hb=>by have:=(hβB c h1 hb).2;omega
  have hbd:∀j o',β<=j->ol[j]?=some o'->L j->∀c,β<=c->c<j+1->¬B c:=by
   intro j o' h1 hj hl c h2 h3 hb;have hn:=(hβB c h2 hb).1;by_cases e:c=j
   ·subst e;exact hn hl
   ·exact hn (hA2 j o' c hj hl ((hBo hb (bo hj)).2 i4))
  have hKm:∀w,w<ol.length->κ w≠none->(L w↔w<m):=by
   intro w hw hk;obtain⟨ow,how⟩:=hat hw;have hnb:¬B w:=λhb=>hk ((hκ0 w).1 hb);refine hm w ow how ?_;cases hh:cB G w ow.op
   ·exact un ((hκ how hnb).wr hh) hk
   ·rfl
  by_cases hBi:B i
  ·
   obtain⟨o',ho',hbar⟩:=(hB0 i).1 hBi;rw[ho] at ho';cases ho'
   have hLi:∀j,j<ol.length->(L j↔j<i):=by
    intro j hj;refine⟨λhl=>?_,λh=>hA j ((hBo hBi hj).1 h)⟩
    rcases bX j i with h | rfl | h
    ·exact h
    ·exact un hl hr.new
    ·obtain⟨oj,hoj⟩:=hat hj;exact un (hA2 j oj i hoj hl ((hBo hBi hj).2 h)) hr.new
   have hmi:m<=i:=(hβB i hβi hBi).2
   have hkr:∀b v,dH κ b m v=dH κ b i v:=λb v=>(oS hmi λw _ h2 h3=>by
    cases hk:κ w with
    | none=>rfl
    | some k=>
     have:=(hKm w i4 (by rw[hk];nofun)).1 ((hLi w i4).2 h3)
     omega).symm
   have hSi:(X i).S=(X m).S:=hS m i hmi (ay hil) (λc h1 h2=>hbi c i4 h2) λj o' h1 h2 hj=>Lg λe=>by have:=(hm j o' hj e).1 ((hLi j i4).2 h2);omega
   refine aN.fg (hx.trans (Fg.tmps (f':=(X i).f) λt=>.inl ?_)) ?_
   ·rw[hfr,hg,hkr];by_cases h:∃j o,β<=j/\ol[j]?=some o/\o.dst=some t/\L j
    ·obtain⟨j,o',h0,h1,h2,h3⟩:=h;have hji:=(hLi j (bo h1)).1 h3;rw[(hbase L β).1 j o' t h0 h1 h2 h3]
     exact hF (j+1) i t hji (ay hil) (λc g1 g2=>hbi c i4 g2) λk b g1 _ hk e=>by have:=hu h1 hk h2 e;omega
    ·rw[(hbase L β).2 t λj o' h0 h1 h2 h3=>h ⟨j,o',h0,h1,h2,h3⟩];exact hF β i t hβi (ay hil) hbi λk b g1 g2 hk e=>h ⟨k,b,g1,hk,e,(hLi k (bo hk)).2 g2⟩
   ·rw[<-hSi];refine hbar.op ds _ ⟨rfl,hc2,i+1,i+1,ap _,hil,λj hj=>?_,hbar.z,λc h1 hb=>⟨λh=>?_,h1⟩,λj o' hj _=>⟨λh=>?_,λh=>?_⟩,Fg.tmps λt=>.inl ?_⟩
    ·by_cases e:j=i
     ·exact .inr e
     ·exact .inl ((hLi j i4).2 i4)
    ·rcases h with h | rfl
     ·have:=(hLi c (hBl hb)).1 h;omega
     ·omega
    ·rcases h with h | rfl
     ·have:=(hLi j (bo hj)).1 h;omega
     ·omega
    ·by_cases e:j=i
     ·exact .inr e
     ·exact .inl ((hLi j (bo hj)).2 i4)
    ·rw[hfr,hg,(hbase _ (i+1)).2 t λj o' h0 h1 h2 h3=>?_,jT (ap _)]
     rcases h3 with h3 | rfl
     ·have:=(hLi j (bo h1)).1 h3;omega
     ·omega
  have hκi:=hκ ho hBi
  have hun:∀{t:Nat},(o.dst=some t\/t∈iR ol o)->∀w,β<=w->w<ol.length->w≠i->(i<w/\w<m\/m<=w/\w<i)->∀k,κ w=some k->aP k (aO (X w).f t)=aO (X w).f t/\aP k (aO (X β).f t)=aO (X β).f t:=by
   intro t hd w hbw hw hne hcase k hk;obtain⟨ow,how⟩:=hat hw;have hLw:=hKm w hw (by rw[hk];nofun)
   have b1:bL (ms.getD w 0) i=false:=by
    cases hb:bL (ms.getD w 0) i
    ·rfl
    ·rcases hcase with h | h
     ·exact un (hA2 w ow i how (hLw.2 h.2) hb) hr.new
     ·have:=KA hback.1 hms w ow how hb;omega
   have b2:bL (ms.getD i 0) w=false:=by
    cases hb:bL (ms.getD i 0) w
    ·rfl
    ·rcases hcase with h | h
     ·have:=KA hback.1 hms i o ho hb;omega
     ·have:=hLw.1 (hA w hb);omega
   have:=hT ho hne.symm b1 b2 hw hk hd;rw[hZ β w hbw (ay hw) λc h1 h2=>by rcases hcase with h | h;exact hbm c h1 i4;exact hbi c h1 i4,hβ0] at this;exact this
  have hstay:∀{t b:Nat},β<=b->(o.dst=some t\/t∈iR ol o)->b<=i+1->((b=β/\κ i=none)\/∀w,i<w->w<m->w<=ol.length->aO (X w).f t=dH κ b w (aO (X b).f t))->(∀w,w<=i->b<=w->aO (X w).f t=dH κ b w (aO (X b).f t))->(m<=i\/κ i=none)->dH κ b m (aO (X b).f t)=dH κ b i (aO (X b).f t):=by
   intro t b hβb hd hbi hw1 hw2 hκi
   rcases el m i with hmi | hmi
   ·refine(oS hmi λw h1 h2 h3=>?_).symm
    cases hk:κ w with
    | none=>rfl
    | some k=>rw[<-hw2 w i4 h1];exact(hun hd w i4 i4 i4 (.inr ⟨h2,h3⟩) k hk).1
   ·refine oS hmi λw h1 h2 h3=>?_;by_cases hwi:w=i
    ·subst hwi
     rcases hκi with h | h
     ·omega
     ·rw[h];rfl
    ·cases hk:κ w with
     | none=>rfl
     | some k=>
      have hu:=hun hd w i4 i4 hwi (.inl ⟨by omega,h3⟩) k hk
      rcases hw1 with⟨rfl,_⟩ | hw1
      ·rcases F3 (κ:=κ) (b:=b) (m:=w) (v:=aO (X b).f t) with h | h
       ·rw[h];exact hu.2
       ·rw[h];exact Cb _
      ·rw[<-hw1 w i4 h3 i4];exact hu.1
  have hκw:cB G i o.op=false->κ i=none:=hκi.wr
  have hlook0:(m<=i\/κ i=none)->∀t∈iR ol o,g L β m t=aO (X i).f t:=by
   intro hκi t hlt
   have hbw:∀w,(w<=i\/i<w/\w<m)->∀b,β<=b->∀c,b<=c->c<w->¬B c:=λw hw b hb c h1 h2=>by rcases hw with hw | hw;exact hbi c i4 i4;exact hbm c i4 i4
   rw[hg];by_cases hno:∀j o,β<=j->ol[j]?=some o->o.dst≠some t
   ·rw[(hbase L β).2 t λj o' h0 hj hd=>un hd (hno j o' h0 hj)];have hh:=λw (h:w<=i\/i<w/\w<m) (hbw':β<=w) (hw:w<=ol.length)=>hF β w t hbw' hw (hbw w h β (ap _)) λj o' h1 _ hj=>hno j o' h1 hj;rw[hh i (.inl (ap _)) hβi (ay hil)];exact hstay (ap _) (.inr hlt) i4 (.inr λw h1 h2 h=>hh w (.inr ⟨h1,h2⟩) i4 h) (λw h h2=>hh w (.inl h) h2 i4) hκi
   ·simp only[ne_eq,Classical.not_forall,Decidable.not_not] at hno;obtain⟨j,o',hβj,hj,hd⟩:=hno
    rcases bX j i with hji | rfl | hji
    ·have h1:=(hP hj).2.2 i o hji ho;unfold O7 at h1;rw[hd,al] at h1
     have hbit:bL (ms.getD i 0) j=true:=by
      have h2:=h1.2;rw[d4] at h2
      rcases h2 with h2 | h2
      ·exact h2
      ·simp[hlt] at h2
     rw[(hbase L β).1 j o' t hβj hj hd (hA j hbit)]
     have hh:=λw (h:w<=i\/i<w/\w<m) (h1:j+1<=w) (hw:w<=ol.length)=>hF (j+1) w t h1 hw (hbw w h (j+1) i4) λk b hik _ hk e=>by have:=hu hj hk hd e;omega
     rw[hh i (.inl (ap _)) hji (ay hil)];exact hstay i4 (.inr hlt) i4 (.inr λw h h3 h2=>hh w (.inr ⟨h,h3⟩) i4 h2) (λw h h2=>hh w (.inl h) h2 i4) hκi
    ·rw[hj] at ho;cases ho;exact un hlt (p1 t hd)
    ·have h1:=p3 j o' hji hj;unfold O7 at h1;rw[hd,al,al,d4] at h1;have h2:=h1.1.2.resolve_left (by simp[hlt]);rw[(hbase L β).2 t λk b _ hk e hl=>hr.new (by have:=hu hj hk hd e;subst this;exact hA2 j o' i hj hl h2)]
     have hh:=λw (hw:w<=i) (hbw':β<=w)=>hF β w t hbw' i4 (hbw w (.inl hw) β (ap _)) λk b _ hki hk e=>by have:=hu hj hk hd e;omega
     rw[hh i (ap _) hβi]
     rcases hκi with hκi | hκi
     ·exact hstay (ap _) (.inr hlt) i4 (.inr λw h1 h2 _=>by omega) (λw h h2=>hh w h h2) (.inl hκi)
     ·exact hstay (ap _) (.inr hlt) i4 (.inl ⟨rfl,hκi⟩) (λw h h2=>hh w h h2) (.inr hκi)
  have hSS:(∀j o',ol[j]?=some o'->cB G j o'.op=true->(L j↔j<i))->(X m).S=(X i).S:=by
   intro hh
   rcases el i m with him | him
   ·exact hS i m him hml (λc h1 h2=>hbm c i4 h2) λj o' h1 h2 hj=>Lg λe=>by have a:=hh j o' hj e;have b:=hm j o' hj e;have:=a.1 (b.2 h2);omega
   ·exact(hS m i him (ay hil) (λc h1 h2=>hbi c i4 h2) λj o' h1 h2 hj=>Lg λe=>by have a:=hh j o' hj e;have b:=hm j o' hj e;have:=b.1 (a.2 h2);omega).symm
  have hlate:(X i).b=true->(∀j o',i<j->ol[j]?=some o'->cB G j o'.op=true->(∀c,i<c->c<j->¬B c)->bL (ms.getD j 0) i=true)->(X m).S=(X i).S:=by
   intro hb hh;refine hSS λj o' hj hd=>⟨λhl=>?_,λhlt=>?_⟩
   ·rcases bX j i with h1 | rfl | h1
    ·exact h1
    ·exact un hl hr.new
    ·refine un (hA2 j o' i hj hl (hh j o' h1 hj hd λc g1 g2=>hbd j o' i4 hj hl c i4 i4)) hr.new
   ·by_cases hjb:j<β
    ·exact hβ j hjb
    ·exact un hd (by rw[hB β i hβi (ay hil) hbi hb j o' i4 hlt hj];simp)
  refine aN.fg hx ?_
  have hbne:∀t,o.dst≠some t->base (λj=>L j\/j=i,β) t=base (L,β) t:=by
   intro t ht;by_cases h:∃j o,β<=j/\ol[j]?=some o/\o.dst=some t/\L j
   ·obtain⟨j,o',h0,h1,h2,h3⟩:=h;rw[(hbase _ β).1 j o' t h0 h1 h2 (.inl h3),(hbase L β).1 j o' t h0 h1 h2 h3]
   ·rw[(hbase L β).2 t λj o' h0 h1 h2 h3=>h ⟨j,o',h0,h1,h2,h3⟩,(hbase _ β).2 t λj o' h0 h1 h2 h3=>?_]
    rcases h3 with h3 | rfl
    ·exact h ⟨j,o',h0,h1,h2,h3⟩
    ·rw[ho] at h1;cases h1;exact ht h2
  have hβB2:∀c,β<=c->B c->¬(L c\/c=i)/\m<=c:=λc h1 hb=>⟨λh=>h.elim (hβB c h1 hb).1 λe=>hBi (e▸hb),(hβB c h1 hb).2⟩
  have lay:∀{d:Nat} {v:SV},o.dst=some d->cB G i o.op=false->aO (X (i+1)).f d=v->(λx=>(λx=>x.n=n/\lX ol (λj=>L j\/j=i)/\∃β m,β<=m/\m<=ol.length/\(∀j,j<β->(L j\/j=i))/\(X β).f0=(X β).f/\(∀c,β<=c->B c->¬(L c\/c=i)/\m<=c)/\(∀j o,ol[j]?=some o->cB G j o.op=true->((L j\/j=i)↔j<m))/\Fg x ⟨om (g (λj=>L j\/j=i) β m) (dH κ β m) (X β).f ol,n,(X m).S,ds⟩) x) ⟨(d,v)::om (g L β m) (dH κ β m) (X β).f ol,n,(X m).S,ds⟩:=by
   intro d v hd hwr hv;refine⟨rfl,hc2,β,m,hβm,hml,λj h=>.inl (hβ j h),hβ0,hβB2,λj o' hj hdj=>⟨λh=>?_,λh=>.inl ((hm j o' hj hdj).2 h)⟩,Fg.tmps λt=>.inl ?_⟩
   ·rcases h with h | rfl
    ·exact(hm j o' hj hdj).1 h
    ·rw[ho] at hj;cases hj;rw[hwr] at hdj;cases hdj
   ·rw[hfr,hg]
    show _=if d=t then v else aO (om (g L β m) (dH κ β m) (X β).f ol) t
    by_cases e:d=t
    ·subst e;rw[ut rfl,(hbase _ β).1 i o d hβi ho hd (.inr rfl),hv]
     rcases el m (i+1) with h | h
     ·exact jT h
     ·refine(oS h λw h1 h2 h3=>?_).trans (jT (ap _))
      cases hk:κ w with
      | none=>rfl
      | some k=>
       rw[<-hv,<-hF (i+1) w d h1 i4 (λc g1 g2=>hbm c i4 i4) λj o' g1 _ g3 e=>by have:=hu ho g3 hd e;omega];exact(hun (.inl hd) w i4 i4 i4 (.inl ⟨by omega,h3⟩) k hk).1
    ·rw[v6 e,hfr,hg,hbne t λh=>e (by rw[hd] at h;exact Option.some.inj h)]
  have hstp:=hX i o ho;have top:∀{d:Nat} {v:SV} {f:Fm},aO ((d,v)::f) d=v:=λ{d v f}=>ut rfl;have hXi:∃x,X i=x:=⟨_,rfl⟩;have hXj:∃x,X (i+1)=x:=⟨_,rfl⟩;obtain⟨xi,hxi⟩:=hXi;obtain⟨xj,hxj⟩:=hXj
  have hst:dg (ol.take (i+1)) n [o]=true:=by
   have:=hκi.st;unfold dg at this ⊢;simp only[fd,List.all_nil,ct] at this ⊢
   cases hg:o.guard with
   | none=>rw[hg] at this;exact this
   | some q=>obtain⟨j,w⟩:=q;rw[hg] at this;simp only at this ⊢;rw[d9,ut (by have:=p2 j w hg;omega)];exact this
  have hlook:(m<=i\/κ i=none)->(∀gd:Option (Nat×Bool),o.guard=gd->bT (ol.take (i+1)) (om (g L β m) (dH κ β m) (X β).f ol) gd=bT ol (X i).f gd)/\∀x∈o.op.operands.toList,eW (om (g L β m) (dH κ β m) (X β).f ol) x=eW (X i).f x:=by
   intro hκi
   have h1:∀t∈iR ol o,aO (om (g L β m) (dH κ β m) (X β).f ol) t=aO (X i).f t:=λt ht=>by rw[hfr];exact hlook0 hκi t ht
   refine⟨λgd hgd=>?_,My h1⟩;rw[<-hgd,<-HP h1,hgd]
   cases gd with
   | none=>rfl
   | some q=>obtain⟨j,w⟩:=q;simp only[bT];rw[d9,ut (by have:=p2 j w hgd;omega)]
  rw[hxi,hxj] at hstp;by_cases hww:cB G i o.op=true
  ·have hb:∀j o',ol[j]?=some o'->cB G j o'.op=true->(L j↔j<i):=by
    intro j o' hj hdj
    rcases bX j i with h1 | rfl | h1
    ·exact⟨λ_=>h1,λ_=>hA j (hord hj ho h1 (by rw[hdj];rfl) (by rw[hww];rfl))⟩
    ·exact⟨λh=>un h hr.new,λh=>un h (Nat.lt_irrefl _)⟩
    ·exact⟨λhl=>un (hA2 j o' i hj hl (hord ho hj h1 (by rw[hww];rfl) (by rw[hdj];rfl))) hr.new,λh=>un h i4⟩
   have hmi:m<=i:=cn λh=>hr.new ((hm i o ho hww).2 h);have hl:=hlook (.inl hmi);obtain⟨v,S',k1,k3,k4⟩:=hκi.op hww
   have hrun:∀K,K ⟨pN (om (g L β m) (dH κ β m) (X β).f ol) (κ i) o.dst v,n,S',ds⟩->aN P ro (ol.take (i+1)) [o] ⟨om (g L β m) (dH κ β m) (X β).f ol,n,(X m).S,ds⟩ K:=by
    intro K hK
    rcases k1 with⟨k1,k2⟩ | ⟨k1,⟨d,k2⟩,rfl,rfl,k5⟩
    ·rw[hSS hb];exact k2 _ _ _ hst (by rw[hl.1 _ rfl,k1]) hl.2 hK
    ·refine aN.run (l':=[]) (f':=(d,.a lV)::om (g L β m) (dH κ β m) (X β).f ol) (S':=(X i).S) hst (by rw[pg,hl.1 _ rfl,k1,k2,hSS hb];simp only[pg]) (.nil ?_);rw[k5,k2] at hK;exact hK
   refine hrun _ ⟨rfl,hc2,β,i+1,by omega,hil,λj h=>.inl (hβ j h),hβ0,λc h1 hb2=>⟨(hβB2 c h1 hb2).1,?_⟩,λj o' hj hdj=>⟨λh=>?_,λh=>?_⟩,?_⟩
   ·rcases bX c i with h | rfl | h
    ·exact un hb2 (hbi c h1 h)
    ·exact un hb2 hBi
    ·exact h
   ·rcases h with h | rfl
    ·have:=(hb j o' hj hdj).1 h;omega
    ·omega
   ·by_cases e:j=i
    ·exact .inr e
    ·exact .inl ((hb j o' hj hdj).2 i4)
   ·rw[k4];refine Fg.tmps λt=>.inl ?_
    have hr2:aO (pN (om (g L β m) (dH κ β m) (X β).f ol) (κ i) o.dst v) t=if o.dst=some t then v else jS (κ i) (g L β m t):=by
     have hk:aO (lL (om (g L β m) (dH κ β m) (X β).f ol) (κ i)) t=jS (κ i) (g L β m t):=by
      rw[<-hfr L β m t]
      cases κ i with
      | none=>rfl
      | some k=>exact fD _ _ _
     cases o.dst with
     | none=>rw[v6 nofun];exact hk
     | some d=>
      show(if d=t then v else _)=_;simp only[qr,hk]
    rw[hr2,hfr,hg];by_cases hd:o.dst=some t
    ·rw[ut hd,(hbase _ β).1 i o t hβi ho hd (.inr rfl),jT (ap _),k3 t hd]
    ·rw[v6 hd,hbne t hd,hg]
     have hmi2:dH κ (base (L,β) t) m (aO (X (base (L,β) t)).f t)=dH κ (base (L,β) t) i (aO (X (base (L,β) t)).f t):=by
      refine(oS hmi λw h1 h2 h3=>?_).symm
      cases hk:κ w with
      | none=>rfl
      | some k=>
       exfalso;have h4:=hKm w i4 (by rw[hk];nofun);obtain⟨ow,how⟩:=hat (show w<ol.length by omega)
       have hnb:¬B w:=λhb=>by rw[(hκ0 w).1 hb] at hk;cases hk
       have hwo:cB G w ow.op=true:=by
        cases hh:cB G w ow.op
        ·have:=(hκ how hnb).wr hh;rw[hk] at this;cases this
        ·rfl
       have:=h4.1 ((hb w ow how hwo).2 h3);omega
     rw[hmi2];by_cases hbl:base (L,β) t<=i
     ·exact sP hbl
     ·rw[jT i4,jT i4]
      cases hk:κ i with
      | none=>rfl
      | some k=>
       refine Eq.symm ?_;by_cases h:∃j o,β<=j/\ol[j]?=some o/\o.dst=some t/\L j
       ·obtain⟨j,o',h0,h1,h2,h3⟩:=h;rw[(hbase L β).1 j o' t h0 h1 h2 h3] at hbl ⊢
        have hij:j≠i:=λe=>by subst e;rw[ho] at h1;cases h1;exact hd h2
        have hnb:=hbd j o' h0 h1 h3;have:=(hκ h1 (hnb j h0 (a0 _))).v t h2 (i,k) (hKL (i+1) j _ i4 (ay (bo h1)) (λc g1 g2=>hnb c i4 i4) (hκi.k2 k hk))
        rcases this with this | this
        ·exact un (hA2 j o' i h1 h3 this) hr.new
        ·exact this
       ·rw[(hbase L β).2 t λj o' h0 h1 h2 h3=>h ⟨j,o',h0,h1,h2,h3⟩] at hbl;omega
  have hκn:=hκw (by simpa using hww);have hl:=hlook (.inr hκn)
  cases hstp with
  | s _ hd hw hwr=>
   refine aN.run (l':=[]) hst ?_ (.nil (lay (v:=.a lV) hd hwr (by rw[hxj];exact top)));rw[pg,hl.1 _ rfl,hxi,hw];simp only[hd,pg]
  | r _ hd hw hrd hop=>
   rename_i v _ _;refine aN.run (l':=[]) hst ?_ (.nil (lay (v:=v) hd (mN (wq hrd)) (by rw[hxj];exact top)));rw[pg,hl.1 _ rfl,hxi,hw,ng (by rw[hrd];rfl) hl.2,hxi,hop];simp only[hd,pN,lL,pg]
  | h _ hd hw hrd hop=>
   rename_i v _ _
   have e:=hlate (by rw[hxi]) λj o' hij hj hdj hnb=>by
    have h1:=(hκ hj (hBn hj hdj)).w hdj;exact all_eq_true.1 h1 i (hH (i+1) j i hij (ay (bo hj)) (λc g1 g2=>hnb c i4 g2) (by rw[hxj];exact bF))
   rw[hxi] at e;refine aN.run (l':=[]) hst ?_ (.nil (lay (v:=v) hd (mN (wq hrd)) (by rw[hxj];exact top)));rw[pg,hl.1 _ rfl,hxi,hw,ng (by rw[hrd];rfl) hl.2,hxi,e,hop];simp only[hd,pN,lL,pg]
  | k _ hop hd hw hdy he hcs hq hwk _ hfl=>
   have hkw:cB G i o.op=false:=by rw[hop];exact mN (NX hdy)
   have e:=hlate (by rw[hxi]) λj o' hij hj hdj _=>hord ho hj hij (by rw[hop,hdy,dE]) (by rw[hdj];rfl);rw[hxi] at e;refine aN.k hst hop hd (by rw[hl.1 _ rfl,hxi];exact hw) hdy (by rw[Fo (by rw[<-hop];exact hl.2),hxi];exact hcs) hq (by rw[e];exact hwk) hfl (.nil (lay hd hkw (by rw[hxj];exact top)))
  | sk _ _ _ hwr=>exact un hwr hww
  | e _ _ hwr=>exact un hwr hww
  | a _ _ hwr=>exact un hwr hww
  | x _ _ hwr=>exact un hwr hww
  | g _ hd hw hG _ hop=>
   refine hop _ _ _ _ hst (by rw[hl.1 _ rfl,hxi];exact hw) (λx hx=>(hl.2 x hx).trans (by rw[hxi])) (lay hd (by unfold cB;rw[hG,ca,cd]) (by rw[hxj];exact top))
  | Qh h1 h2 h3=>exact un ((hB0 i).2 ⟨o,ho,by rw[hxi,hxj];exact⟨h1,h2,h3,rfl⟩⟩) hBi
 ·rintro L x ⟨hxn,hc,β,m,hβm,hml,hβ,hβ0,hβB,hm,hx⟩ hall;have hnb:∀c,β<=c->¬B c:=λc h1 hb=>(hβB c h1 hb).1 (hall c (hBl hb))
  have hSe:(X m).S=z.S:=by
   rw[<-hXN];exact(hS m ol.length hml (ap _) (λc h1 _=>hnb c i4) λj o h1 h2 hj=>Lg λe=>by have:=(hm j o hj e).1 (hall j h2);omega).symm
  rw[hSe] at hx;refine⟨⟨z.f,n,z.S,ds⟩,hx.trans (Fg.tmps λt=>.inl ?_),hz⟩
  have hκm:∀b v,dH κ b m v=dH κ b ol.length v:=λb v=>(oS hml λw _ h2 h3=>by
   cases hk:κ w with
   | none=>rfl
   | some k=>
    exfalso;obtain⟨ow,how⟩:=hat h3
    have hnw:¬B w:=λhb=>by rw[(hκ0 w).1 hb] at hk;cases hk
    have hww:cB G w ow.op=true:=by
     cases hh:cB G w ow.op
     ·have:=(hκ how hnw).wr hh;rw[hk] at this;cases this
     ·rfl
    have:=(hm w ow how hww).1 (hall w h3)
    omega).symm
  rw[hfr,hg,hκm,<-hXN];by_cases hno:∃j o,β<=j/\ol[j]?=some o/\o.dst=some t
  ·obtain⟨k,o',h0,hk,hd'⟩:=hno;rw[(hbase L β).1 k o' t h0 hk hd' (hall k (bo hk))]
   exact hF (k+1) ol.length t (bo hk) (ap _) (λc h1 _=>hnb c i4) λj b h1 _ hj e=>by have:=hu hj hk e hd';omega
  ·rw[(hbase L β).2 t λj o' h0 hj hd=>un ⟨j,o',h0,hj,hd⟩ hno];exact hF β ol.length t i4 (ap _) (λc h1 _=>hnb c h1) λj o' h0 _ hj hd=>hno ⟨j,o',h0,hj,hd⟩
def aE.NU{id:Nat}{st:ez}(hol:ops.toList=ol)(hms:mW ol []=ms)(hok:((jK 0 ol&&P.follows .mixedOrders)&&(wi ol ms (cu 0 ol)&&Fq [] ms (cu 0 ol)))=true)
 (h:gF [] P ro ol ms st.n st.f [] true [] (cu 0 ol) st.f st.S λf' S'=>Q .normal ⟨f',st.n,S',st.ds⟩):aE P ro (.region id ops true) st Q:=.yC [] hol hms hok h
def SD(P:Program)(ro:Option Nat)(all:List Oper)(ms:List Nat)(n:Nat)(b:Bool)(hp:List Nat)(l:List (Nat×Oper))(f:Fm)(S:List SO)(K:Fm->List SO->Prop):Prop:=∀f0,gF [] P ro all ms n f0 [] b hp l f S K
def Su{i:Nat}(h:tR op=true):cB [] i op=true:=by unfold cB sN;rw[h];rfl
section
variable {all:List Oper} {ms:List Nat} {n:Nat} {b:Bool} {hp:List Nat} {l:List (Nat×Oper)} {f:Fm} {S:List SO} {K:Fm->List SO->Prop} {i:Nat} {o:Oper} {d:Nat}
def SD.nil(h:K f S):SD P ro all ms n b hp [] f S K:=λ_=>.nil h
theorem SD.s(hst:dg all n [o]=true)(hdst:o.dst=some d)(hw:bT all f o.guard=some false)(hwr:sN o.op=false)(q:SD P ro all ms n b hp l ((d,.a lV)::f) S K):SD P ro all ms n b hp ((i,o)::l) f S K:=λf0=>.s hst hdst hw (mN hwr) (q f0)
theorem SD.r{v:SV}{S':List SO}{kill:Option Nat}(hst:dg all n [o]=true)(hdst:o.dst=some d)(hw:bT all f o.guard=some true)(hrr:(kc o.op&&(b||!Iz o.op))=true)(hop:dk P f S o.op=some (v,S',kill))
 (hk:SD P ro all ms n b (_root_.cond (Iz o.op) (i::hp) hp) l ((d,v)::f) S K):SD P ro all ms n b hp ((i,o)::l) f S K:=λf0=>.r hst hdst hw hrr hop (hk f0) trivial
def SD.ri{tt:TypeId}{x:Operand}{cs0:List SV}{v:SV}(hst:dg all n [o]=true)(hdst:o.dst=some d)(hw:bT all f o.guard=some true)(hop:o.op=.load tt x)(hx:eW f x=some (.ip cs0))(hv:tX P tt cs0 0=some v)
 (q:SD P ro all ms n b hp l ((d,v)::f) S K):SD P ro all ms n b hp ((i,o)::l) f S K:=λf0=>.ri hst hdst hw hop hx hv trivial (q f0)
theorem SD.k{cl:Call}{g:FuncId}{vs ws:List SV}{r:SV}(hst:dg all n [o]=true)(hop:o.op=.call cl)(hdst:o.dst=some d)(hw:bT all f o.guard=some true)(hdy:fR (.call cl)=true)(he:tQ (.call cl)=true)
 (hc:iN P f cl=some (g,vs)) (hq:PC P g ws (·=r)) (hwk:cA S vs ws) (hr:wa r=true) (q:SD P ro all ms n true hp l ((d,r)::f) S K):SD P ro all ms n true hp ((i,o)::l) f S K:=λf0=>.k hst hop hdst hw hdy he hc hq hwk hr (q f0)
theorem SD.e{v:SV}{S':List SO}(hst:dg all n [o]=true)(hdst:o.dst=none)(hw:bT all f o.guard=some true)(he:tQ o.op=true)(hwr:tR o.op=true)(hms:hp.all (λj=>bL (ms.getD i 0) j)=true)(hop:dk P f S o.op=some (v,S',none))
 (q:SD P ro all ms n false hp l f S' K):SD P ro all ms n b hp ((i,o)::l) f S K:=λf0=>.e hst hw (Su hwr) hms hop trivial (by rw[hdst];exact q f0)
def SD.ed{v:SV}{S':List SO}(hst:dg all n [o]=true)(hdst:o.dst=some d)(hw:bT all f o.guard=some true)(he:tQ o.op=true)(hwr:tR o.op=true)(hms:hp.all (λj=>bL (ms.getD i 0) j)=true)(hop:dk P f S o.op=some (v,S',none))
 (q:SD P ro all ms n false hp l ((d,v)::f) S' K):SD P ro all ms n b hp ((i,o)::l) f S K:=λf0=>.e hst hw (Su hwr) hms hop trivial (by rw[hdst];exact q f0)
end
def aE.T4{id:Nat}{st:ez}(hol:ops.toList=ol)(hms:mW ol []=ms)(hok:((jK 0 ol&&P.follows .mixedOrders)&&(wi ol ms (cu 0 ol)&&Fq [] ms (cu 0 ol)))=true)
 (h:SD P ro ol ms st.n true [] (cu 0 ol) st.f st.S λf' S'=>Q .normal ⟨f',st.n,S',st.ds⟩):aE P ro (.region id ops true) st Q:=.NU hol hms hok (h _)
end
end
end Go.Ev
namespace Go.Proofs
open Go.Ev
set_option maxRecDepth 100000
def dx:ta prog:=Q3 (by kernel_rfl)
def HJ:Ni prog 322 .indexByte:=Ni.indexByte λx c w=>by
 rw[run_callFunc_extern Tryz.func322 (by kernel_rfl) (by kernel_rfl) (by kernel_rfl) (e:=Extern.BytealgIndexByte.indexByte) (by kernel_rfl),Lib.run_indexByteString];rfl
variable{a:Prop}{b:Prop}
def bm(x:a)(y:b):a/\b:=⟨x,y⟩
variable{c:Prop}
def cJ(x:a)(y:b)(z:c):a/\b/\c:=⟨x,y,z⟩
variable{d:Prop}
def fk(x:a)(y:b)(z:c)(w:d):a/\b/\c/\d:=⟨x,y,z,w⟩
variable{e:Prop}
def kY(x:a)(y:b)(z:c)(w:d)(u:e):a/\b/\c/\d/\e:=⟨x,y,z,w,u⟩
variable{f:Prop}
def vc(x:a)(y:b)(z:c)(w:d)(u:e)(v:f):a/\b/\c/\d/\e/\f:=⟨x,y,z,w,u,v⟩
variable{g:Prop}
def EY(a1:a)(b1:b)(c1:c)(d1:d)(e1:e)(f1:f)(g1:g):a/\b/\c/\d/\e/\f/\g:=⟨a1,b1,c1,d1,e1,f1,g1⟩
def T1{h:Prop}(a1:a)(b1:b)(c1:c)(d1:d)(e1:e)(f1:f)(g1:g)(h1:h):a/\b/\c/\d/\e/\f/\g/\h:=⟨a1,b1,c1,d1,e1,f1,g1,h1⟩
def Lx{h i:Prop}(a1:a)(b1:b)(c1:c)(d1:d)(e1:e)(f1:f)(g1:g)(h1:h)(i1:i):a/\b/\c/\d/\e/\f/\g/\h/\i:=⟨a1,b1,c1,d1,e1,f1,g1,h1,i1⟩
def NI{h i j:Prop}(a1:a)(b1:b)(c1:c)(d1:d)(e1:e)(f1:f)(g1:g)(h1:h)(i1:i)(j1:j):a/\b/\c/\d/\e/\f/\g/\h/\i/\j:=⟨a1,b1,c1,d1,e1,f1,g1,h1,i1,j1⟩
def Uk:ch 1 SO.gone=[.gone]:=rfl
def Ul:ch 2 SO.gone=[.gone,.gone]:=rfl
def Um:ch 3 SO.gone=[.gone,.gone,.gone]:=rfl
def Un:ch 4 SO.gone=[.gone,.gone,.gone,.gone]:=rfl
def Pf:type_of% Uk/\type_of% Ul/\type_of% Um/\type_of% Un:=⟨Uk,Ul,Um,Un⟩
variable{p:Prop}
def zl(h:p:=by simp only[cY,bP,ao,aF,m7,m6,↓reduceIte,Nat.reduceEqDiff,Nat.reduceAdd,Nat.reduceMul,Nat.reduceLeDiff,Nat.reduceLT,aq,aA,bD];first | done | rfl):p:=h
variable{r:Prop}
def pz(k:r)(h:r->p:=by intro k;simp only[cY,bP,ao,aF,m7,m6,↓reduceIte,Nat.reduceEqDiff,Nat.reduceAdd,Nat.reduceMul,Nat.reduceLeDiff,Nat.reduceLT,aq,aA,bD,k];first | done | rfl):p:=h k
def zc(h:p:=by simp only[cY,bP,ao,aF,m7,m6,↓reduceIte,Nat.reduceEqDiff,Nat.reduceAdd,Nat.reduceMul,Nat.reduceLeDiff,Nat.reduceLT,aq,aA,bD,iN];first | done | rfl):p:=h
def yc(k:r)(h:r->p:=by intro k;simp only[cY,bP,ao,aF,m7,m6,↓reduceIte,Nat.reduceEqDiff,Nat.reduceAdd,Nat.reduceMul,Nat.reduceLeDiff,Nat.reduceLT,aq,aA,bD,iN,k];first | done | rfl):p:=h k
variable{q:Prop}
def HW(f:r)(h:r->p->q:=by intro f h;(repeat (first | refine SD.ri ii rfl ii rfl (pz @f) (pz @f) ?_ | refine SD.r ii rfl ii ii (pz @f) ?_ | refine SD.s ii rfl ii ii ?_ | fail));exact h)(k:p):q:=h f k
def qx(h:p->q:=by intro h;(repeat (first | refine SD.ri ii rfl ii rfl zl zl ?_ | refine SD.r ii rfl ii ii zl ?_ | refine SD.s ii rfl ii ii ?_ | fail));exact h)(k:p):q:=h k
def zj(h:p:=by (repeat' apply And.intro)<;>first | exact .inl rfl | trivial):p:=h
def zW(h:p:=by kernel_rfl):p:=h
def zV(h:p->q:=by intro h;(repeat refine aE.seq ?_);refine aE.r0 ii zl ?_;(try change aE _ _ _ _ _);exact h)(k:p):q:=h k
def aB(f:r)(h:r->p->q:=by intro f h;(repeat refine aE.seq ?_);refine aE.r0 ii (pz @f) ?_;(try change aE _ _ _ _ _);exact h)(k:p):q:=h f k
def zC(h:p->q:=by intro h;(repeat refine aE.seq ?_);refine aE.Si ii zl ?_;exact h)(k:p):q:=h k
def eQ(f:r)(h:r->p->q:=by intro f h;(repeat refine aE.seq ?_);refine aE.Si ii (pz @f) ?_;exact h)(k:p):q:=h f k
def zR(h:p->q:=by intro h;refine aN.r0 ii zl ?_;(try change aE _ _ _ _ _);exact h)(k:p):q:=h k
def cM(f:r)(h:r->p->q:=by intro f h;refine aN.r0 ii (pz @f) ?_;(try change aE _ _ _ _ _);exact h)(k:p):q:=h f k
def zQ(h:p->q:=by intro h;refine aN.run ii zl ?_;exact h)(k:p):q:=h k
def MY(f:r)(h:r->p->q:=by intro f h;refine aN.run ii (pz @f) ?_;exact h)(k:p):q:=h f k
def zY(h:p->q:=by intro h;(repeat refine aE.seq ?_);refine aE.yes rfl ?_;(try (refine aE.skip ?_;try change aE _ _ _ _ _));exact h)(k:p):q:=h k
def zN(h:p->q:=by intro h;(repeat refine aE.seq ?_);refine aE.no rfl ?_;(try (refine aE.skip ?_;try change aE _ _ _ _ _));exact h)(k:p):q:=h k
def zE(h:p->q:=by intro h;refine aE.ret ?_;(try simp only[ea,cz,bI,bx]);exact h)(k:p):q:=h k
def zB(h:p->q:=by intro h;(repeat refine aE.seq ?_);refine aE.block ?_;exact h)(k:p):q:=h k
section
variable {P:Program} {ro:Option Nat} {f:Fm} {n:Nat} {S:List SO} {ds:List jG} {Q:Ex->ez->Prop}
variable{all:List Oper}{K:ez->Prop}{vs:List SV}
def zK{o:Oper}{l:List Oper}{d:Nat}{c:Call}{g:FuncId}{ws:List SV}{r:SV}(hq:PC P g ws (·=r))
 (hst:dg all n [o]=true:=by rfl) (hop:o.op=.call c:=by rfl) (hdst:o.dst=some d:=by rfl) (hw:bT all f o.guard=some true:=by rfl) (hdy:fR (.call c)=true:=by rfl)
 (hc:iN P f c=some (g,vs):=by exact zc) (hwk:cA S vs ws:=by first | exact cA.refl rfl | ((repeat' (first | exact cA.nil | apply cA.cons | exact Wk.refl rfl | exact Wk.nil _ | apply Wk.ag | apply Wk.cx | apply Wk.fn | refine Wk.ptr rfl ?_ (by first | decide | (simp only[bP];omega)) | refine Wk.buf rfl ?_ (by first | decide | (simp only[bP];omega)) | refine Wk.map rfl ?_ | exact cA.refl rfl));done)) (hfl:wa r=true\/cA [] vs ws:=by exact .inl rfl) (hk:aN P ro all l ⟨(d,r)::f,n,S,ds⟩ K):aN P ro all (o::l) ⟨f,n,S,ds⟩ K:=
 aN.k hst hop hdst hw hdy hc hq hwk hfl hk
variable{fn:Func}{Qr:SV->Prop}
def zO{e:Ex}{r:SV}(rs:List ResultVar)(he:kE e=true:=by rfl)(hr:fn.results.toList=rs:=by rfl)(h:pd P f S rs=some vs:=by exact zl)(hw:Wk S (eC vs) r:=by exact Wk.refl rfl)(hq:Qr r:=by (try simp only[eC,bK]);first | done | rfl):BJ P fn Qr e ⟨f,n,S,[]⟩:=BJ.of he hr h hw hq
variable{S':List SO}
def zH{f':Fm}(hf:uX f f':=by (simp only[cY,bP,fU,ao,↓reduceIte,Nat.reduceEqDiff])<;>(repeat' apply And.intro)<;>first | rfl | trivial)(hs:CX S S' 0:=by (simp only[cY,bP,ao,or_true,true_or])<;>(repeat' apply And.intro)<;>first | exact .inr rfl | exact .inl rfl | trivial):Fg ⟨f,n,S,ds⟩ ⟨f',n,S',ds⟩:=Fg.less hf hs
def cg{f':Fm}(k:r)(hf:r->uX f f':=by intro k;(simp only[cY,bP,fU,ao,↓reduceIte,Nat.reduceEqDiff,k])<;>(repeat' apply And.intro)<;>first | rfl | trivial)(hs:r->CX S S' 0:=by intro k;(simp only[cY,bP,ao,or_true,true_or,k])<;>(repeat' apply And.intro)<;>first | exact .inr rfl | exact .inl rfl | trivial):Fg ⟨f,n,S,ds⟩ ⟨f',n,S',ds⟩:=Fg.less (hf k) (hs k)
def zG(h:p:=by (simp only[ye,cY,bP,true_or,or_true,↓reduceIte,Nat.reduceEqDiff])<;>(repeat' apply And.intro)<;>first | exact .inl rfl | trivial | exact .inr (Wk.buf rfl (cA.refl rfl) (by first | decide | (simp only[bP];omega))) | exact .inr (Wk.map rfl (cA.refl rfl)) | exact .inr (Wk.ptr rfl (cA.refl rfl) (by first | decide | (simp only[bP];omega)))):p:=h
def gE(k:r)(h:r->p:=by intro k;((simp only[ye,cY,bP,true_or,or_true,↓reduceIte,Nat.reduceEqDiff,k])<;>(repeat' apply And.intro)<;>first | exact .inl rfl | trivial | exact .inr (Wk.buf rfl (cA.refl rfl) (by first | decide | (simp only[bP];omega))) | exact .inr (Wk.map rfl (cA.refl rfl)) | exact .inr (Wk.ptr rfl (cA.refl rfl) (by first | decide | (simp only[bP];omega))))):p:=h k
def zZ{c:Code}(f':Fm)(o:Nat){so:SO}(hS:S[o]?=some so)(hf:ye (jB o so) f f')(h:aE P ro c ⟨f',n,S.set o .gone,ds⟩ Q)(hg:so≠.gone:=by intro h;cases h):aE P ro c ⟨f,n,S,ds⟩ Q:=aE.fg (Fg.freeze o hS hg hf) h
def zA{c:Code}(f':Fm)(S':List SO)(hf:Fg ⟨f,n,S,ds⟩ ⟨f',n,S',ds⟩)(h:aE P ro c ⟨f',n,S',ds⟩ Q):aE P ro c ⟨f,n,S,ds⟩ Q:=aE.fg hf h
def oZ{l:List Oper}(f':Fm)(o:Nat){so:SO}(hS:S[o]?=some so)(hf:ye (jB o so) f f')(h:aN P ro all l ⟨f',n,S.set o .gone,ds⟩ K)(hg:so≠.gone:=by intro h;cases h):aN P ro all l ⟨f,n,S,ds⟩ K:=aN.fg (Fg.freeze o hS hg hf) h
def oA{l:List Oper}(f':Fm)(S':List SO)(hf:Fg ⟨f,n,S,ds⟩ ⟨f',n,S',ds⟩)(h:aN P ro all l ⟨f',n,S',ds⟩ K):aN P ro all l ⟨f,n,S,ds⟩ K:=aN.fg hf h
def zr{S0:List SO}{v:List SV}(h:cj v=true:=by rfl):cA S0 v v:=cA.refl h
def zs(h:p->q:=by intro h;(repeat refine aE.seq ?_);exact h)(k:p):q:=h k
variable{α:Type}{id:Nat}
def zL(l:List α)(I:Nat->Prop)(fr:Nat->Fm)(T:Nat->List SO){x:Code}(hf:Fg ⟨f,n,S,[]⟩ ⟨fr 0,n,T 0,[]⟩)(h0:I 0)
 (h:∀k,k<=l.length->I k->aE P ro x ⟨fr k,n,T k,[]⟩ (bI (λm st=>∃k,k<=l.length/\m=l.length-k/\I k/\st=⟨fr k,n,T k,[]⟩) (l.length-k) (ea id Q))):aE P ro (.block id (.loop x)) ⟨f,n,S,[]⟩ Q:=
 aE.block (aE.loop (λm st=>∃k,k<=l.length/\m=l.length-k/\I k/\st=⟨fr k,n,T k,[]⟩) l.length hf ⟨0,ck _,rfl,h0,rfl⟩ (by rintro m st ⟨k,_,_,_,rfl⟩;rfl) (by rintro m st ⟨k,hk,rfl,hI,rfl⟩;exact h k hk hI))
variable{l:List α}{k:Nat}
def zX{I:Nat->Prop}{fr:Nat->Fm}{T:Nat->List SO}{st:ez}(hlt:k<l.length)(hf:Fg st ⟨fr (k+1),n,T (k+1),[]⟩)(hI:I (k+1)):
 bI (λm st=>∃k,k<=l.length/\m=l.length-k/\I k/\st=⟨fr k,n,T k,[]⟩) (l.length-k) Q .normal st:=⟨l.length-(k+1),_,by omega,hf,k+1,hlt,rfl,hI,rfl⟩
def zi{L B:Nat}(h1:k<L)(h2:L<=B)(t:TypeId)(hB:B<=9223372036854775807:=by decide):c8 Tryz.prog .add t (.int .i64 (k:Int)) (.int .i64 1)=some (.int .i64 ((k:Int)+1)):=th (Iv h1 h2 hB)
def zt{n:Nat}(h:k<n):decide ((k:Int)<(n:Int))=true:=by simp only[wp];omega
def zS{o:Oper}{l:List Oper}{d:Nat}{c:Call}{g:FuncId}{ws:List SV}{mv:List Nat}{S0 S1 S2:List SO}{r0 r2:SV}{f2:Fm}(os:List Nat)(k:r)(hq:SC P g ws S0 mv (λr S'=>r=r0/\S'=S1))
 (hk:aN P ro all l ⟨(d,r2)::f2,n,S2,ds⟩ K) (hst:dg all n [o]=true:=by rfl) (hop:o.op=.call c:=by rfl) (hdst:o.dst=some d:=by rfl) (hw:bT all f o.guard=some true:=by rfl) (hdy:fR (.call c)=true:=by rfl)
 (hc:iN P f c=some (g,vs):=by exact zc) (hvs:r->mG (j8 os S.length) ws=vs:=by intro k;simp only[gA,bP,ao,↓reduceIte,Nat.reduceEqDiff,Nat.reduceAdd,Nat.reduceSub,Nat.reduceMul,Nat.reduceLeDiff,Nat.reduceLT,k];first | done | rfl) (hK:os.length=S0.length:=by rfl) (hnd:os.Nodup:=by decide)
 (hos:r->Du S (j8 os S.length) S0 os:=by intro k;simp only[Du,gA,bP,ao,k]<;>(repeat' apply And.intro)<;>first | trivial | rfl | (intro hh;cases hh))
 (hb1:r->dD S1.length r0=true:=by intro k;simp only[CE,gA,bP,ao,Nat.reduceAdd,Nat.reduceLT,decide_true,k];first | done | rfl) (hb2:r->u9 S1.length S1=true:=by intro k;simp only[CE,gA,bP,ao,Nat.reduceAdd,Nat.reduceLT,decide_true,k];first | done | rfl)
 (hr:r->fq (j8 os S.length) r0=r2:=by intro k;simp only[gA,bP,ao,↓reduceIte,Nat.reduceEqDiff,Nat.reduceAdd,Nat.reduceSub,Nat.reduceMul,Nat.reduceLeDiff,Nat.reduceLT,k];first | done | rfl) (hf:r->oy (de os mv S.length (S1.length-os.length)) f=f2:=by intro k;simp only[gA,bP,ao,↓reduceIte,Nat.reduceEqDiff,Nat.reduceAdd,Nat.reduceSub,Nat.reduceMul,Nat.reduceLeDiff,Nat.reduceLT,k,dB,dh,bW,aP,cY];first | done | rfl) (hS:r->dP S os mv S1=S2:=by intro k;simp only[gA,bP,ao,↓reduceIte,Nat.reduceEqDiff,Nat.reduceAdd,Nat.reduceSub,Nat.reduceMul,Nat.reduceLeDiff,Nat.reduceLT,k,dB,dh,bW,aP,cY];first | done | rfl):aN P ro all (o::l) ⟨f,n,S,ds⟩ K:=
 aN.sk os hst hop hdst hw hdy hc hq (hvs k) hK hnd (hos k) (hb1 k) (hb2 k) (hr k) (hf k) (hS k) hk
def zP{K:Nat}{mv:List Nat}{Qs:SV->List SO->Prop}{e:Ex}(rs:List ResultVar)(he:kE e=true:=by rfl)(hr:fn.results.toList=rs:=by rfl)(h:pd P f S rs=some vs:=by exact zl)
 (hq:Qs (eC vs) S:=by (try simp only[eC,bK]);first | done | exact⟨rfl,rfl⟩ | exact⟨trivial,trivial⟩ | exact⟨rfl,trivial⟩ | exact⟨trivial,rfl⟩ | trivial) (hK:K<=S.length:=by first | decide | (simp only[bP];omega)) (hw:∀i,i<K->i∉mv->aO f (1000000+i)=.ptr i 0:=by intro i hi;have hi2:i<_:=hi;clear hi;simp only[i7,i5,Nat.zero_add,Nat.reduceAdd,Nat.not_lt_zero] at hi2<;>(rcases i with _ | i<;>first | (exfalso;omega) | (intro hm_;first | rfl | (exfalso;apply hm_;simp;done)) | (rcases i with _ | i<;>first | (exfalso;omega) | (intro hm_;first | rfl | (exfalso;apply hm_;simp;done)) | (rcases i with _ | i<;>first | (exfalso;omega) | (intro hm_;first | rfl | (exfalso;apply hm_;simp;done)))))):Lh P fn K mv Qs e ⟨f,n,S,[]⟩:=Lh.of he hr h hq hK hw
def zD(h:p->q:=by intro h;(repeat (first | refine SD.r ii rfl ii ii zl ?_ | refine SD.s ii rfl ii ii ?_ | fail));exact h)(k:p):q:=h k
def uW(f:r)(h:r->p->q:=by intro f h;(repeat (first | refine SD.r ii rfl ii ii (pz @f) ?_ | refine SD.s ii rfl ii ii ?_ | fail));exact h)(k:p):q:=h f k
def zM(h:p->q:=by intro h;refine SD.nil ?_;(try change aE _ _ _ _ _);exact h)(k:p):q:=h k
def zp(h:p:=by first | exact λi y h=>un h (Nat.not_lt_zero _) | trivial | rfl | assumption):p:=h
def nw{ops:Array Oper}{st:ez}{ol:List Oper}(ms:List Nat)(h:SD P ro ol ms st.n true [] (cu 0 ol) st.f st.S λf' S'=>Q .normal ⟨f',st.n,S',st.ds⟩)(hol:ops.toList=ol:=by rfl)(hms:mW ol []=ms:=by kernel_rfl)(hok:((jK 0 ol&&P.follows .mixedOrders)&&(wi ol ms (cu 0 ol)&&Fq [] ms (cu 0 ol)))=true:=by kernel_rfl):aE P ro (.region id ops true) st Q:=aE.T4 hol hms hok h
def zw(h:p:=by first | exact cA.refl rfl | ((repeat' (first | exact cA.nil | apply cA.cons | exact Wk.refl rfl | exact Wk.nil _ | apply Wk.ag | apply Wk.cx | apply Wk.fn | refine Wk.ptr rfl ?_ (by first | decide | (simp only[bP];omega)) | refine Wk.buf rfl ?_ (by first | decide | (simp only[bP];omega)) | refine Wk.map rfl ?_ | exact cA.refl rfl));done)):p:=h
def yd(k:c)(h:c->p->q:=by intro f h;refine SD.k ii rfl rfl ii rfl rfl (by exact zc) f zw rfl h)(kk:p):q:=h k kk
def zv(h:p:=by (try simp only[eC,bK]);(repeat' (first | exact Wk.refl rfl | exact cA.nil | apply cA.cons | exact Wk.nil _ | apply Wk.ag | apply Wk.cx | refine Wk.ptr rfl ?_ (by first | decide | (simp only[bP];omega)) | refine Wk.buf rfl ?_ (by first | decide | (simp only[bP];omega)) | refine Wk.map rfl ?_ | exact cA.refl rfl))):p:=h
def UY(h:p:=by (simp only[cY,bP,fU,ao,↓reduceIte,Nat.reduceEqDiff])<;>(repeat' apply And.intro)<;>first | rfl | trivial):p:=h
def UE(k:r)(h:r->p:=by intro k;(simp only[cY,bP,fU,ao,↓reduceIte,Nat.reduceEqDiff,k])<;>(repeat' apply And.intro)<;>first | rfl | trivial):p:=h k
def Wu(h:p:=by (simp only[cY,bP,ao,or_true,true_or])<;>(repeat' apply And.intro)<;>first | exact .inr rfl | exact .inl rfl | trivial):p:=h
def UF(k:r)(h:r->p:=by intro k;(simp only[cY,bP,ao,or_true,true_or,k])<;>(repeat' apply And.intro)<;>first | exact .inr rfl | exact .inl rfl | trivial):p:=h k
def zq(h:p:=by (try simp only[eC,bK]);first | done | rfl):p:=h
def Wv(h:p:=by (try simp only[eC,bK]);first | done | exact⟨rfl,rfl⟩ | exact⟨trivial,rfl⟩ | exact⟨rfl,trivial⟩ | exact⟨trivial,trivial⟩):p:=h
def zg(h:p:=by intro i hi;have hi2:i<_:=hi;clear hi;simp only[i7,i5,Nat.zero_add,Nat.reduceAdd,Nat.not_lt_zero] at hi2<;>(rcases i with _ | i<;>first | (exfalso;omega) | (intro hm_;first | rfl | (exfalso;apply hm_;simp;done)) | (rcases i with _ | i<;>first | (exfalso;omega) | (intro hm_;first | rfl | (exfalso;apply hm_;simp;done)) | (rcases i with _ | i<;>first | (exfalso;omega) | (intro hm_;first | rfl | (exfalso;apply hm_;simp;done)))))):p:=h
def zd(h:p:=by first | decide | (simp only[bP];omega)):p:=h
def DI(k:Nat):(k:Int)+1=((k+1:Nat):Int):=rfl
def bA(a b:Int)(h : -9223372036854775808<=a+b/\a+b<=9223372036854775807)(P:Program)(t:TypeId):c8 P .add t (.int .i64 a) (.int .i64 b)=some (.int .i64 (a+b)):=th h
def bS(a b:Int)(h : -9223372036854775808<=a-b/\a-b<=9223372036854775807)(P:Program)(t:TypeId):c8 P .sub t (.int .i64 a) (.int .i64 b)=some (.int .i64 (a-b)):=J6 h
def MZ(k:r)(h:r->p:=by intro k;(simp only[sL,gA,bP,ao,k])<;>(repeat' apply And.intro)<;>first | trivial | exact .inl rfl | exact .inr rfl | exact .inr trivial | exact .inl trivial):p:=h k
def M0(k:r)(h:r->p:=by intro k;(simp only[cY,gA,bP,ao,k])<;>(repeat' apply And.intro)<;>first | rfl | trivial):p:=h k
def pB(n:Nat){g:FuncId}{c:Code}{args:List SV}{Q:SV->Prop}(hf:Tryz.prog.funcs[g]?=some fn)(hw:aE Tryz.prog none c ⟨kX 0 args,n,[],[]⟩ (BJ Tryz.prog fn Q))(hb:fn.body=some c:=by rfl)(hn:args.length+(fn.ntmps-args.length)=n:=by rfl)(hlim:n<=1000000:=by exact md rfl):PC Tryz.prog g args Q:=PC.body dx hf hb hn hw hlim
section
variable (n:Nat) {g:FuncId} {fn:Func} {c:Code} {args:List SV} {S0:List SO} {mv:List Nat} {Q:SV->List SO->Prop}
def Mv(hf:Tryz.prog.funcs[g]?=some fn)(hw:aE Tryz.prog none c ⟨kX 0 args++[],n,S0,[]⟩ (Lh Tryz.prog fn S0.length mv Q))(hb:fn.body=some c:=by rfl)(hn:args.length+(fn.ntmps-args.length)=n:=by rfl)(hlim:n<=1000000:=by exact md rfl)(hW:[]=oE S0.length:=by rfl)(hK:S0.length<=1000000:=by exact md rfl):SC Tryz.prog g args S0 mv Q:=SC.body dx hf hb hn hlim hW hw hK
def Pu(hf:Tryz.prog.funcs[g]?=some fn)(hw:aE Tryz.prog none c ⟨kX 0 args++[(1000000,.ptr 0 0)],n,S0,[]⟩ (Lh Tryz.prog fn S0.length mv Q))(hb:fn.body=some c:=by rfl)(hn:args.length+(fn.ntmps-args.length)=n:=by rfl)(hlim:n<=1000000:=by exact md rfl)(hW:[(1000000,.ptr 0 0)]=oE S0.length:=by rfl)(hK:S0.length<=1000000:=by exact md rfl):SC Tryz.prog g args S0 mv Q:=SC.body dx hf hb hn hlim hW hw hK
def Ss(hf:Tryz.prog.funcs[g]?=some fn)(hw:aE Tryz.prog none c ⟨kX 0 args++[(1000000,.ptr 0 0),(1000001,.ptr 1 0)],n,S0,[]⟩ (Lh Tryz.prog fn S0.length mv Q))(hb:fn.body=some c:=by rfl)(hn:args.length+(fn.ntmps-args.length)=n:=by rfl)(hlim:n<=1000000:=by exact md rfl)(hW:[(1000000,.ptr 0 0),(1000001,.ptr 1 0)]=oE S0.length:=by rfl)(hK:S0.length<=1000000:=by exact md rfl):SC Tryz.prog g args S0 mv Q:=SC.body dx hf hb hn hlim hW hw hK
def UX(hf:Tryz.prog.funcs[g]?=some fn)(hw:aE Tryz.prog none c ⟨kX 0 args++[(1000000,.ptr 0 0),(1000001,.ptr 1 0),(1000002,.ptr 2 0)],n,S0,[]⟩ (Lh Tryz.prog fn S0.length mv Q))(hb:fn.body=some c:=by rfl)(hn:args.length+(fn.ntmps-args.length)=n:=by rfl)(hlim:n<=1000000:=by exact md rfl)(hW:[(1000000,.ptr 0 0),(1000001,.ptr 1 0),(1000002,.ptr 2 0)]=oE S0.length:=by rfl)(hK:S0.length<=1000000:=by exact md rfl):SC Tryz.prog g args S0 mv Q:=SC.body dx hf hb hn hlim hW hw hK
end
def cK(h:p->q:=by intro h;(repeat refine aE.seq ?_);refine aE.yes rfl ?_;(try (refine aE.skip ?_;try change aE _ _ _ _ _));(repeat refine aE.seq ?_);refine aE.r0 ii zl ?_;(try change aE _ _ _ _ _);exact h)(k:p):q:=h k
def jC(h:p->q:=by intro h;(repeat refine aE.seq ?_);refine aE.r0 ii zl ?_;(try change aE _ _ _ _ _);(repeat refine aE.seq ?_);refine aE.Si ii zl ?_;exact h)(k:p):q:=h k
def lD(h:p->q:=by intro h;(repeat refine aE.seq ?_);refine aE.no rfl ?_;(try (refine aE.skip ?_;try change aE _ _ _ _ _));(repeat refine aE.seq ?_);refine aE.r0 ii zl ?_;(try change aE _ _ _ _ _);exact h)(k:p):q:=h k
def nD(h:p->q:=by intro h;(repeat refine aE.seq ?_);refine aE.r0 ii zl ?_;(try change aE _ _ _ _ _);(repeat refine aE.seq ?_);refine aE.r0 ii zl ?_;(try change aE _ _ _ _ _);exact h)(k:p):q:=h k
def M4(h:p->q:=by intro h;(repeat refine aE.seq ?_);refine aE.no rfl ?_;(try (refine aE.skip ?_;try change aE _ _ _ _ _));(repeat refine aE.seq ?_);refine aE.Si ii zl ?_;exact h)(k:p):q:=h k
def CP(h:p->q:=by intro h;(repeat refine aE.seq ?_);refine aE.r0 ii zl ?_;(try change aE _ _ _ _ _);(repeat refine aE.seq ?_);refine aE.no rfl ?_;(try (refine aE.skip ?_;try change aE _ _ _ _ _));exact h)(k:p):q:=h k
def xw(h:p->q:=by intro h;(repeat refine aE.seq ?_);refine aE.r0 ii zl ?_;(try change aE _ _ _ _ _);(repeat refine aE.seq ?_);refine aE.yes rfl ?_;(try (refine aE.skip ?_;try change aE _ _ _ _ _));exact h)(k:p):q:=h k
def BM{a b:Int}(h : -9223372036854775808<=a+b/\a+b<=9223372036854775807)(P:Program)(t:TypeId):c8 P .add t (.int .i64 a) (.int .i64 b)=some (.int .i64 (a+b)):=th h
def RW{a b:Int}(h : -9223372036854775808<=a-b/\a-b<=9223372036854775807)(P:Program)(t:TypeId):c8 P .sub t (.int .i64 a) (.int .i64 b)=some (.int .i64 (a-b)):=J6 h
variable{L:Nat->Prop}{i:Nat}
def iT(h:L i)(v:SV):vo L i v=v:=cI h
def Wr(h:¬L i)(v:SV):vo L i v=.any:=ns h
def V3(h:L i)(v:SO):wo L i v=v:=oF h
def VZ(h:¬L i)(v:SO):wo L i v=.gone:=gp h
def SM{n:Nat}(h:k<=n)(c:Option Nat)(q:IntKind):cO n c none (some (.int q (k:Int))) none=some (0,k,c):=by
 unfold cO oP qm;simp only[oX,m7,fc h,d7,aq]
def Lm{n:Nat}(h:k<=n)(c:Option Nat)(q:IntKind):cO n c (some (.int q (k:Int))) none none=some (k,n,c):=by
 unfold cO oP;simp only[oX,m7,fc h,aq]
end
def fw(h:p->q:=by intro h;(repeat refine aE.seq ?_);refine aE.yes rfl ?_;(try (refine aE.skip ?_;try change aE _ _ _ _ _));(repeat refine aE.seq ?_);refine aE.block ?_;exact h)(k:p):q:=h k
def fo(h:p->q:=by intro h;(repeat refine aE.seq ?_);refine aE.no rfl ?_;(try (refine aE.skip ?_;try change aE _ _ _ _ _));refine aE.exit ?_;exact h)(k:p):q:=h k
variable{α:Type}{l:List α}{k:Nat}
def Wt{p0 p1:Prop}(h0:k=l.length->p0)(h1:∀x,l[k]?=some x->k<l.length->p1)(hk:k<=l.length):(decide ((k:Int)<(l.length:Int))=false/\p0)\/(decide ((k:Int)<(l.length:Int))=true/\p1):=by
 by_cases hlt:k<l.length
 ·exact .inr ⟨zt hlt,h1 _ (jp hlt) hlt⟩
 ·exact .inl ⟨wd i4,h0 i4⟩
def zT{p0 p1:Prop}(l:List α)(k:Nat)(h0:k=l.length->p0)(h1:∀x,l[k]?=some x->k<l.length->p1)(h:(k=l.length->p0)->(∀x,l[k]?=some x->k<l.length->p1)->q:=by intro h0 h1;(repeat refine aE.seq ?_);refine aE.r0 ii zl ?_;(try change aE _ _ _ _ _);rcases Wt h0 h1 (by assumption) with⟨e,h⟩ | ⟨e,h⟩;(rw[e];exact h);(rw[e];exact h)):q:=h h0 h1
section
variable {P:Program} {ro:Option Nat} {f:Fm} {n:Nat} {S:List SO} {ds:List jG} {Q:Ex->ez->Prop}
variable{fn:Func}{Qr:SV->Prop}{v:SV}
def zo{r:SV}(rs:List ResultVar)(hg:BJ P fn Qr .ret ⟨f,n,S,[]⟩->Q .ret ⟨f,n,S,[]⟩:=by intro h;(try simp only[ea,cz,bI,bx]);exact h)(hr:fn.results.toList=rs:=by rfl)(h:pd P f S rs=some [v]:=by exact zl)(hw:Wk S v r:=by exact Wk.refl rfl)(hq:Qr r:=by rfl):aE P ro .ret ⟨f,n,S,[]⟩ Q:=aE.ret (hg (BJ.of rfl hr h hw hq))
def kn{w r:SV}(rs:List ResultVar)(hg:BJ P fn Qr .ret ⟨f,n,S,[]⟩->Q .ret ⟨f,n,S,[]⟩:=by intro h;(try simp only[ea,cz,bI,bx]);exact h)(hr:fn.results.toList=rs:=by rfl)(h:pd P f S rs=some [v,w]:=by exact zl)(hw:Wk S (.cx [v,w]) r:=by exact Wk.refl rfl)(hq:Qr r:=by rfl):aE P ro .ret ⟨f,n,S,[]⟩ Q:=aE.ret (hg (BJ.of rfl hr h hw hq))
variable{id:Nat}
def BF{β:Type}(l:List α)(I:Nat->β->Prop)(fr:Nat->β->Fm)(T:Nat->β->List SO)(b0:β){x:Code}(hf:Fg ⟨f,n,S,[]⟩ ⟨fr 0 b0,n,T 0 b0,[]⟩)(h0:I 0 b0)
 (h:∀k b,k<=l.length->I k b->aE P ro x ⟨fr k b,n,T k b,[]⟩ (bI (λm st=>∃k b,k<=l.length/\m=l.length-k/\I k b/\st=⟨fr k b,n,T k b,[]⟩) (l.length-k) (ea id Q))):aE P ro (.block id (.loop x)) ⟨f,n,S,[]⟩ Q:=
 aE.block (aE.loop (λm st=>∃k b,k<=l.length/\m=l.length-k/\I k b/\st=⟨fr k b,n,T k b,[]⟩) l.length hf ⟨0,b0,ck _,rfl,h0,rfl⟩ (by rintro m st ⟨k,b,_,_,_,rfl⟩;rfl) (by rintro m st ⟨k,b,hk,rfl,hI,rfl⟩;exact h k b hk hI))
def pw{β:Type}{I:Nat->β->Prop}{fr:Nat->β->Fm}{T:Nat->β->List SO}{st:ez}(hlt:k<l.length)(b:β)(hf:Fg st ⟨fr (k+1) b,n,T (k+1) b,[]⟩)(hI:I (k+1) b):
 bI (λm st=>∃k b,k<=l.length/\m=l.length-k/\I k b/\st=⟨fr k b,n,T k b,[]⟩) (l.length-k) Q .normal st:=⟨l.length-(k+1),_,by omega,hf,k+1,b,hlt,rfl,hI,rfl⟩
end
def kR(h:p->q:=by intro h;(repeat (first | refine gF.ri ii rfl ii rfl zl zl (by first | exact trivial | ((simp only[lN])<;>(repeat' apply And.intro)<;>first | exact True.intro | exact .inr rfl | (refine .inr ?_;simp only[cY,bP,ao,aF,m7,m6,↓reduceIte,Nat.reduceEqDiff,Nat.reduceAdd,Nat.reduceMul,Nat.reduceLeDiff,Nat.reduceLT,aq,aA,bD,aP];first | done | rfl) | exact .inl (by kernel_rfl))) ?_ | refine gF.r ii rfl ii ii zl ?_ (by first | exact trivial | ((simp only[lN])<;>(repeat' apply And.intro)<;>first | exact True.intro | exact .inr rfl | (refine .inr ?_;simp only[cY,bP,ao,aF,m7,m6,↓reduceIte,Nat.reduceEqDiff,Nat.reduceAdd,Nat.reduceMul,Nat.reduceLeDiff,Nat.reduceLT,aq,aA,bD,aP];first | done | rfl) | exact .inl (by kernel_rfl))) | refine gF.rg ii rfl ii rfl (by intro S_;simp only[cY,bP,ao,aF,m7,m6,↓reduceIte,Nat.reduceEqDiff,Nat.reduceAdd,Nat.reduceMul,Nat.reduceLeDiff,Nat.reduceLT,aq,aA,bD];first | done | rfl) (by first | exact trivial | ((simp only[lN])<;>(repeat' apply And.intro)<;>first | exact True.intro | exact .inr rfl | (refine .inr ?_;simp only[cY,bP,ao,aF,m7,m6,↓reduceIte,Nat.reduceEqDiff,Nat.reduceAdd,Nat.reduceMul,Nat.reduceLeDiff,Nat.reduceLT,aq,aA,bD,aP];first | done | rfl) | exact .inl (by kernel_rfl))) ?_ | refine gF.s ii rfl ii rfl ?_ | fail));exact h)(k:p):q:=h k
def B7(f:r)(h:r->p->q:=by intro f h;(repeat (first | refine gF.ri ii rfl ii rfl (pz @f) (pz @f) (by first | exact trivial | ((simp only[lN])<;>(repeat' apply And.intro)<;>first | exact True.intro | exact .inr rfl | (refine .inr ?_;simp only[cY,bP,ao,aF,m7,m6,↓reduceIte,Nat.reduceEqDiff,Nat.reduceAdd,Nat.reduceMul,Nat.reduceLeDiff,Nat.reduceLT,aq,aA,bD,aP,f];first | done | rfl) | exact .inl (by kernel_rfl))) ?_ | refine gF.r ii rfl ii ii (pz @f) ?_ (by first | exact trivial | ((simp only[lN])<;>(repeat' apply And.intro)<;>first | exact True.intro | exact .inr rfl | (refine .inr ?_;simp only[cY,bP,ao,aF,m7,m6,↓reduceIte,Nat.reduceEqDiff,Nat.reduceAdd,Nat.reduceMul,Nat.reduceLeDiff,Nat.reduceLT,aq,aA,bD,aP,f];first | done | rfl) | exact .inl (by kernel_rfl))) | refine gF.rg ii rfl ii rfl (by intro S_;simp only[cY,bP,ao,aF,m7,m6,↓reduceIte,Nat.reduceEqDiff,Nat.reduceAdd,Nat.reduceMul,Nat.reduceLeDiff,Nat.reduceLT,aq,aA,bD,f];first | done | rfl) (by first | exact trivial | ((simp only[lN])<;>(repeat' apply And.intro)<;>first | exact True.intro | exact .inr rfl | (refine .inr ?_;simp only[cY,bP,ao,aF,m7,m6,↓reduceIte,Nat.reduceEqDiff,Nat.reduceAdd,Nat.reduceMul,Nat.reduceLeDiff,Nat.reduceLT,aq,aA,bD,aP,f];first | done | rfl) | exact .inl (by kernel_rfl))) ?_ | refine gF.s ii rfl ii rfl ?_ | fail));exact h)(k:p):q:=h f k
def kN(h:p->q:=by intro h;refine gF.nil ?_;(try change aE _ _ _ _ _);exact h)(k:p):q:=h k
section
variable {G:List Nat} {P:Program} {ro:Option Nat} {all:List Oper} {ms:List Nat} {n:Nat} {b:Bool} {hp:List Nat} {l:List (Nat×Oper)} {f:Fm} {S:List SO} {K:Fm->List SO->Prop} {i:Nat} {o:Oper} {d:Nat} {f0:Fm} {kl:List (Nat×Nat)} {Q:Ex->ez->Prop}
variable{id:Nat}
def kZ{ops:Array Oper}{st:ez}{ol:List Oper}(ms:List Nat)(h:gF [] P ro ol ms st.n st.f [] true [] (cu 0 ol) st.f st.S λf' S'=>Q .normal ⟨f',st.n,S',st.ds⟩)(hol:ops.toList=ol:=by rfl)(hms:mW ol []=ms:=by kernel_rfl)(hok:((jK 0 ol&&P.follows .mixedOrders)&&(wi ol ms (cu 0 ol)&&Fq [] ms (cu 0 ol)))=true:=by kernel_rfl):aE P ro (.region id ops true) st Q:=aE.NU hol hms hok h
variable{v:SV}{S':List SO}
def kA{f':Fm}(T:List Nat)(hst:dg all n [o]=true:=by rfl)(hdst:o.dst=some d:=by rfl)(hw:bT all f o.guard=some true:=by rfl)(hwr:cB G i o.op=true:=by rfl)(hms:hp.all (λj=>bL (ms.getD i 0) j)=true:=by kernel_rfl)(hT:((Av all ms i).all λt=>T.contains t)=true:=by kernel_rfl)
 (hop:dk P f S o.op=some (v,S',some k):=by exact zl) (hf:dB k f=f':=by simp only[gA,bP,ao,↓reduceIte,Nat.reduceEqDiff,Nat.reduceAdd,Nat.reduceSub,Nat.reduceMul,Nat.reduceLeDiff,Nat.reduceLT,dB,dh,bW,aP,cY];first | done | rfl) (ht:Tz f0 f k T:=by (simp only[Tz])<;>(repeat' apply And.intro)<;>first | exact True.intro | rfl | (simp only[gA,bP,ao,↓reduceIte,Nat.reduceEqDiff,Nat.reduceAdd,Nat.reduceSub,Nat.reduceMul,Nat.reduceLeDiff,Nat.reduceLT,dB,dh,bW,aP,cY];first | done | rfl)) (hkl:lN ms i v kl:=by first | exact trivial | ((simp only[lN])<;>(repeat' apply And.intro)<;>first | exact True.intro | exact .inr rfl | (refine .inr ?_;simp only[cY,bP,ao,aF,m7,m6,↓reduceIte,Nat.reduceEqDiff,Nat.reduceAdd,Nat.reduceMul,Nat.reduceLeDiff,Nat.reduceLT,aq,aA,bD,aP];first | done | rfl) | exact .inl (by kernel_rfl))) (h:gF G P ro all ms n f0 ((i,k)::kl) false hp l ((d,v)::f') S' K):gF G P ro all ms n f0 kl b hp ((i,o)::l) f S K:=.a T hst hdst hw hwr hms hT hop hf ht hkl h
def R9{f':Fm}(T:List Nat)(c:r)(hst:dg all n [o]=true:=by rfl)(hdst:o.dst=some d:=by rfl)(hw:bT all f o.guard=some true:=by rfl)(hwr:cB G i o.op=true:=by rfl)(hms:hp.all (λj=>bL (ms.getD i 0) j)=true:=by kernel_rfl)(hT:((Av all ms i).all λt=>T.contains t)=true:=by kernel_rfl)
 (hop:r->dk P f S o.op=some (v,S',some k):=by intro c;simp only[cY,bP,ao,aF,m7,m6,↓reduceIte,Nat.reduceEqDiff,Nat.reduceAdd,Nat.reduceMul,Nat.reduceLeDiff,Nat.reduceLT,aq,aA,bD,c];first | done | rfl) (hf:r->dB k f=f':=by intro c;simp only[gA,bP,ao,↓reduceIte,Nat.reduceEqDiff,Nat.reduceAdd,Nat.reduceSub,Nat.reduceMul,Nat.reduceLeDiff,Nat.reduceLT,c,dB,dh,bW,aP,cY];first | done | rfl) (ht:r->Tz f0 f k T:=by intro c;(simp only[Tz])<;>(repeat' apply And.intro)<;>first | exact True.intro | rfl | (simp only[gA,bP,ao,↓reduceIte,Nat.reduceEqDiff,Nat.reduceAdd,Nat.reduceSub,Nat.reduceMul,Nat.reduceLeDiff,Nat.reduceLT,c,dB,dh,bW,aP,cY];first | done | rfl)) (hkl:r->lN ms i v kl:=by intro c;exact(by first | exact trivial | ((simp only[lN])<;>(repeat' apply And.intro)<;>first | exact True.intro | exact .inr rfl | (refine .inr ?_;simp only[cY,bP,ao,aF,m7,m6,↓reduceIte,Nat.reduceEqDiff,Nat.reduceAdd,Nat.reduceMul,Nat.reduceLeDiff,Nat.reduceLT,aq,aA,bD,aP,c];first | done | rfl) | exact .inl (by kernel_rfl)))) (h:gF G P ro all ms n f0 ((i,k)::kl) false hp l ((d,v)::f') S' K):gF G P ro all ms n f0 kl b hp ((i,o)::l) f S K:=.a T hst hdst hw hwr hms hT (hop c) (hf c) (ht c) (hkl c) h
def UP(c:r)(hst:dg all n [o]=true:=by rfl)(hdst:o.dst=some d:=by rfl)(hw:bT all f o.guard=some true:=by rfl)(hwr:cB G i o.op=true:=by rfl)(hms:hp.all (λj=>bL (ms.getD i 0) j)=true:=by kernel_rfl)(hop:r->dk P f S o.op=some (v,S',none):=by intro c;simp only[cY,bP,ao,aF,m7,m6,↓reduceIte,Nat.reduceEqDiff,Nat.reduceAdd,Nat.reduceMul,Nat.reduceLeDiff,Nat.reduceLT,aq,aA,bD,c];first | done | rfl)(hkl:r->lN ms i v kl:=by intro c;exact(by first | exact trivial | ((simp only[lN])<;>(repeat' apply And.intro)<;>first | exact True.intro | exact .inr rfl | (refine .inr ?_;simp only[cY,bP,ao,aF,m7,m6,↓reduceIte,Nat.reduceEqDiff,Nat.reduceAdd,Nat.reduceMul,Nat.reduceLeDiff,Nat.reduceLT,aq,aA,bD,aP,c];first | done | rfl) | exact .inl (by kernel_rfl))))(h:gF G P ro all ms n f0 kl false hp l ((d,v)::f) S' K):gF G P ro all ms n f0 kl b hp ((i,o)::l) f S K:=.ed hst hdst hw hwr hms (hop c) (hkl c) h
end
def r9(b:Nat):Nat:=
 bif dN b then 3 else bif ble 48 b&&ble b 57 then 4 else bif beq b 35 then 2 else bif beq b 95 then 5 else bif beq b 34 then 7 else
 bif [32,9,10].any (beq b) then 1 else bif [59,44,46,58,40,41,123,125,91,93,61,60,62,47,43,45,42].any (beq b) then 6 else 0
def Ic:List AV:=(dd 256).map λb=>AV.int .u8 (Int.ofNat (r9 b))
def NK:Ic.length=256:=by simp[Ic]
def NJ(b:Nat)(h:b<256):Ic[b]?=some (.int .u8 (r9 b:Int)):=by
 unfold Ic;rw[ax,d8 h];rfl
def L9(s:List Nat)(h:cN s=true):∀(i b:Nat),s[i]?=some b->kU b=true:=by
 intro i b hi
 cases s with
 | nil=>simp at hi
 | cons a l=>
  simp only[cN,al] at h
  cases i with
  | zero=>simp at hi;subst hi;unfold kU;rw[h.1];rfl
  | succ i=>
   rw[dC] at hi;exact all_eq_true.1 h.2.1 b (co hi)
def OI(s:List Nat)(h:∀(i b:Nat),s[i]?=some b->kU b=true)(b:Nat)(h0:s[0]?=some b):cN s=(decide (s.length<=24)&&dN b):=by
 cases s with
 | nil=>simp at h0
 | cons a l=>
  simp at h0;subst h0
  have:l.all kU=true:=by
   rw[all_eq_true];intro x hx;obtain⟨i,hi⟩:=mem_iff_getElem?.1 hx;exact h (i+1) x (by rw[dC];exact hi)
  simp only[cN,this,c6,i7]
  have e:ble l.length 23=decide (l.length+1<=24):=by
   by_cases hl:l.length<=23
   ·rw[fc hl];simp;omega
   ·have:ble l.length 23=false:=by
     cases hb:ble l.length 23
     ·rfl
     ·exact un (jq hb) hl
    rw[this];simp;omega
  rw[e,Bool.and_comm]
def NL:∀b,b<256->(decide (r9 b=3)=dN b)/\((decide (r9 b=3)||(decide (r9 b=4)||decide (r9 b=5)))=kU b):=by decide +kernel
def QY(s:List Nat)(b:Nat)(h0:s[0]?=some b)(h:dN b=false):cN s=false:=by
 cases s with
 | nil=>rfl
 | cons a l=>simp at h0;subst h0;simp only[cN,h,ce]
abbrev P0(b:Nat):SV:=.a (.int .u8 (b:Int))
def MJ(s:List Nat)(b:Nat)(hb:b<256):PC prog 322 [ah s,P0 b] (·=ab (ga b s 0)):=
 PC.of (xs:=[.str s,.int .u8 (b:Int)]) (λh=>ee.Vc HJ (by
  show cond (blt b 256) (some (AV.int .i64 (ga b s 0),h)) none=_
  rw[show blt b 256=true from Ll hb];rfl)) λρ avs ha=>by
  rw[dT] at ha;obtain⟨a,r,rfl,h1,ha⟩:=ha;rw[dT] at ha;obtain⟨a2,r,rfl,h2,ha⟩:=ha;rw[GS] at h1 h2;rw[eY] at ha;rw[h1,h2,ha]
def MI(s:List Nat)(b:Nat)(hb:b<256):PC prog 304 [ah s,P0 b] (·=ab (ga b s 0)):=by
 refine pB 8 Tryz.func304 ?_;exact(jC)<|(zK (MJ s b hb))<|(zR)<|zo [.tmp 4]
def CH(s:List Nat)(b:Nat)(hb:b<256):PC prog 256 [ah s,P0 b] (·=ab (ga b s 0)):=by
 refine pB 8 Tryz.func256 ?_;exact(jC)<|(zK (MI s b hb))<|(zR)<|zo [.tmp 4]
def yv(b:Nat):Nat:=bif dN b then 3 else bif ble 48 b&&ble b 57 then 4 else bif decide (0<=ga b [32,9,10] 0) then 1 else bif decide (0<=ga b [59,44,46,58,40,41,123,125,91,93,61,60,62,47,43,45,42] 0) then 6 else 0
def lA(k:Nat):List SV:=(dd 256).map λi=>P0 (if i<k then yv i else 0)
def JW:List SV:=(dd 256).map λ_=>P0 0
def uk(k:Nat):(lA k).length=256:=by simp[lA]
def To(hk:k<256):(lA k).take k++(P0 (yv k)::(lA k).drop (k+1))=lA (k+1):=by
 have h:(lA k).set k (P0 (yv k))=lA (k+1):=by
  apply List.ext_getElem?;intro i;by_cases hik:k=i
  ·subst hik;rw[List.getElem?_set_self (by rw[uk];exact hk)];unfold lA;rw[ax,d8 hk];simp
  ·rw[List.getElem?_set_ne hik];unfold lA;rw[ax,ax]
   cases hr:(dd 256)[i]? with
   | none=>rfl
   | some j=>
    have hj:j=i:=by
     obtain⟨h1,h2⟩:=rt hr;simpa using h2.symm
    subst hj;simp only[m6];by_cases h:j<k
    ·rw[ut h,ut i4]
    ·rw[v6 h,v6 i4]
 rw[<-h,cc,ut (by rw[uk];exact hk)]
def Tn(hk:k<256)(h:yv k=0):lA (k+1)=lA k:=by
 unfold lA;refine List.map_congr_left λi _=>?_;by_cases hik:i<k
 ·rw[ut hik,ut i4]
 ·rw[v6 hik];by_cases he:i=k
  ·subst he;rw[ut i4,h]
  ·rw[v6 i4]
def Qy(hk:k<256):lf prog 3 5 (.int .i64 (k:Int))=some (.int .u8 (k:Int)):=by
 have h1:lf prog 3 5 (.int .i64 (k:Int))=some (.int .u8 (dO .u8 (k:Int))):=by kernel_rfl
 rw[h1]
 congr 2
 have h2:(sj 0 (k:Int)&&sj (k:Int) 255)=true:=by rw[gC,gC];simp;omega
 simp only[dO,L4,LU,h2,aq]
def Bl:PC prog 184 [] (·=.ag (Ic.map SV.a)):=by
 refine pB 50 Tryz.func184 ?_;refine(nD)<|(zV) ?_
 have hl:(dd 256).length=256:=List.length_range
 have hlen:(dd 256).length<=1000000:=by rw[hl];decide
 refine zA [(0,.ptr 0 0),(1,.ptr 1 0),(4,ab 0)] [.cells JW,.cells (lA 0)] (by exact zH)<|(zs) ?_;refine zL (dd 256) (λk=>True) (λk=>[(0,.ptr 0 0),(1,.ptr 1 0),(4,ab k)]) (λk=>[.cells JW,.cells (lA k)]) zH zp ?_;intro k hk hall
 by_cases hlt:k<(dd 256).length
 ·have hk6:k<256:=by rw[<-hl];exact hlt
  have hk7:k+1<=256:=hk6;have e1:decide ((97:Int)<=(k:Int))=ble 97 k:=rq 97 k;have e2:decide ((k:Int)<=122)=ble k 122:=rq k 122;have e3:decide ((65:Int)<=(k:Int))=ble 65 k:=rq 65 k;have e4:decide ((k:Int)<=90)=ble k 90:=rq k 90;have e5:decide ((48:Int)<=(k:Int))=ble 48 k:=rq 48 k;have e6:decide ((k:Int)<=57)=ble k 57:=rq k 57;have hset:=To hk6;have hrl:=uk k
  refine(aB (show decide ((k:Int)<256)=true by simp only[wp];omega))<|(fw)<|(zV)<|(aB (Qy hk6))<|(zB) ?_;refine aE.seq ?_;refine aE.mono (Q:=λex st=>ex=.normal/\Fg st ⟨[(0,.ptr 0 0),(1,.ptr 1 0),(2,ab k),(3,P0 k),(4,ab k),(9,an (dN k))],50,[.cells JW,.cells (lA k)],[]⟩) ?_ ?_
  ·unfold dN;cases h1:ble 97 k<;>cases h2:ble k 122<;>cases h3:ble 65 k<;>cases h4:ble k 90
   all_goals
    rw[h1] at e1;rw[h2] at e2;rw[h3] at e3;rw[h4] at e4;refine(aB (bm e1 e2)) ?_
    first
     | (
      refine(zN) ?_
      refine(aB (bm e3 e4)) ?_;exact⟨rfl,zH⟩)
     | (
      refine(zY) ?_
      exact⟨rfl,zH⟩)
  rintro ex st ⟨rfl,hf⟩;refine aE.fg hf ?_;clear hf
  (try change aE _ _ _ _ _)
  cases hL:dN k;rotate_left
  ·have hc:yv k=3:=by unfold yv;rw[hL];rfl
   rw[hc] at hset;change (lA k).take k++(SV.a (.int .u8 3)::(lA k).drop (k+1))=_ at hset
   refine(zY)<|(aB (kY hk6 hk7 hrl @cp hset))<|(aB (zi hlt hlen)) ?_;refine zX hlt zH trivial
  have c0:yv k=bif ble 48 k&&ble k 57 then 4 else bif decide (0<=ga k [32,9,10] 0) then 1 else bif decide (0<=ga k [59,44,46,58,40,41,123,125,91,93,61,60,62,47,43,45,42] 0) then 6 else 0:=by unfold yv;rw[hL];rfl
  clear hL e1 e2 e3 e4;refine(zN) ?_
  (repeat refine aE.seq ?_)
  refine aE.mono (Q:=λex st=>ex=.normal/\Fg st ⟨[(0,.ptr 0 0),(1,.ptr 1 0),(2,ab k),(3,P0 k),(4,ab k),(24,an (ble 48 k&&ble k 57))],50,[.cells JW,.cells (lA k)],[]⟩) ?_ ?_
  ·cases h5:ble 48 k<;>cases h6:ble k 57
   all_goals
    rw[h5] at e5;rw[h6] at e6;refine(aB (bm e5 e6)) ?_;exact⟨rfl,zH⟩
  rintro ex st ⟨rfl,hf⟩;refine aE.fg hf ?_;clear hf e5 e6
  (try change aE _ _ _ _ _)
  cases hD:ble 48 k&&ble k 57;rotate_left
  ·rw[hD] at c0;rw[show yv k=4 from c0] at hset;change (lA k).take k++(SV.a (.int .u8 4)::(lA k).drop (k+1))=_ at hset
   refine(zY)<|(aB (kY hk6 hk7 hrl @cp hset))<|(aB (zi hlt hlen)) ?_;refine zX hlt zH trivial
  rw[hD] at c0
  refine(M4)<|(zK (CH [32,9,10] k hk6))<|(zR) ?_
  cases hB:decide (0<=ga k [32,9,10] 0);rotate_left
  ·rw[hB] at c0;rw[show yv k=1 from c0] at hset;change (lA k).take k++(SV.a (.int .u8 1)::(lA k).drop (k+1))=_ at hset
   refine(zY)<|(aB (kY hk6 hk7 hrl @cp hset))<|(aB (zi hlt hlen)) ?_;refine zX hlt zH trivial
  rw[hB] at c0
  refine(M4)<|(zK (CH [59,44,46,58,40,41,123,125,91,93,61,60,62,47,43,45,42] k hk6))<|(zR) ?_
  cases hS:decide (0<=ga k [59,44,46,58,40,41,123,125,91,93,61,60,62,47,43,45,42] 0);rotate_left
  ·rw[hS] at c0;rw[show yv k=6 from c0] at hset;change (lA k).take k++(SV.a (.int .u8 6)::(lA k).drop (k+1))=_ at hset
   refine(zY)<|(aB (kY hk6 hk7 hrl @cp hset))<|(aB (zi hlt hlen)) ?_;refine zX hlt zH trivial
  rw[hS] at c0;have hs0:=Tn hk6 c0;refine(zN) ?_
  (try (refine aE.skip ?_))
  refine(aB (zi hlt hlen)) ?_;refine zX hlt (cg hs0) trivial
 ·obtain rfl:k=256:=by omega
  refine(aB (show decide (((256:Nat):Int)<256)=false from rfl))<|(fo) ?_
  have set_at:∀{l:List SV} {i:Nat} (v:SV),i<l.length->l.take i++(v::l.drop (i+1))=l.set i v:=λv h=>by rw[cc,ut h]
  have hfin:(((lA 256).set 35 (.a (.int .u8 2))).set 95 (.a (.int .u8 5))).set 34 (.a (.int .u8 7))=Ic.map SV.a:=by kernel_rfl
  have l0:=uk 256
  have hz0:JW.length=256:=by simp[JW]
  generalize lA 256=R at hfin l0 ⊢;have s1:=set_at (l:=R) (i:=35) (.a (.int .u8 2)) i4
  have l1:(R.set 35 (.a (.int .u8 2))).length=256:=by rw[d5];exact l0
  generalize R.set 35 (.a (.int .u8 2))=R1 at hfin s1 l1;have s2:=set_at (l:=R1) (i:=95) (.a (.int .u8 5)) i4
  have l2:(R1.set 95 (.a (.int .u8 5))).length=256:=by rw[d5];exact l1
  generalize R1.set 95 (.a (.int .u8 5))=R2 at hfin s2 l2;have s3:=set_at (l:=R2) (i:=34) (.a (.int .u8 7)) i4
  have l3:(R2.set 34 (.a (.int .u8 7))).length=256:=by rw[d5];exact l2
  generalize R2.set 34 (.a (.int .u8 7))=R3 at hfin s3 l3;have t3:R3.take 256=R3:=d3 i4;have d0:JW.drop 256=[]:=d2 i4;refine(aB (NI (show df (.int .i64 35)=some 35 from rfl) (show df (.int .i64 95)=some 95 from rfl) (show df (.int .i64 34)=some 34 from rfl) l0 l1 l2 @cp s1 s2 s3)) ?_
  have ho:R3.all eP=true:=by rw[hfin];kernel_rfl
  refine(aB (Lx l3 t3 ho hz0 d0 @List.append_nil.{0} @List.take_zero.{0} @List.nil_append.{0} @ap)) ?_;subst hfin;exact zo [.cell 0 241] (h:=pz (bm l3 t3))
def drop_cons{x:α}(h:l[k]?=some x):l.drop k=x::l.drop (k+1):=by
 obtain⟨hlt,he⟩:=rt h;rw[dc hlt,he]
def Bw(s:List Nat)(hs:s.length<=1000000)(hb:∀b∈s,b<256):PC prog 101 [ah s] (·=an (cN s)):=by
 refine pB 39 Tryz.func101 ?_;have hcl:=Bl;obtain⟨C,hC⟩:∃C,C=Ic.map SV.a:=⟨_,rfl⟩
 have ho:C.all eP=true:=by rw[hC];kernel_rfl
 have hl:C.length=256:=by rw[hC,ey,NK]
 have hg:cj C=true:=by rw[hC];kernel_rfl
 have hfl:wa (.ag C)=true:=by rw[hC];kernel_rfl
 have hCg:∀b,b<256->C[b]?=some (P0 (r9 b)):=λb h=>by rw[hC,ax,NJ b h];rfl
 rw[<-hC] at hcl;clear hC;have ht:C.take 256=C:=d3 i4;have hnk:=λo:Nat=>cm (o:=o) hg;have hkk:=λo:Nat=>bV (o:=o) hg
 refine(jC)<|(zK hcl (hfl:=.inl hfl)) ?_;refine aN.r0 ii (by simp only[cY,bP,ao,aF,m7,m6,↓reduceIte,aa,ad,af,ac,aj,aq,aA,bD,hl,ho,ht,hkk,hnk,ey,List.length_replicate,d2,List.append_nil,ap];first | done | rfl) ?_;refine zZ [(0,ah s),(3,.ip C)] 0 rfl ⟨.inl rfl,.inr (.ptr rfl (cA.refl hg) (ck _)),trivial⟩<|zA [(0,ah s),(3,.ip C)] [] zH<|(zV)<|(zs) ?_;refine zL s (λk=>((∀(i b:Nat),i<k->s[i]?=some b->kU b=true)/\(0<k->∀b,s[0]?=some b->dN b=true))) (λk=>[(0,ah s),(3,.ip C),(8,ab s.length),(9,ab k)]) (λk=>[]) zH (by exact⟨λi b h=>un h (bi _),λh=>un h (bi _)⟩) ?_;intro k hk hall;refine zT s k ?_ ?_;rintro rfl;rotate_left;intro b hx hlt;rotate_left
 ·refine(fo) ?_
  cases hs0:s with
  | nil=>
   exact(aB (show decide (([]:List Nat)=[])=true from rfl))<|zo [.tmp 2]
  | cons b l=>
   have h0:s[0]?=some b:=by rw[hs0];rfl
   have hlt0:0<s.length:=by rw[hs0];exact em _
   have hn:=OI s (λi b' hb'=>hall.1 i b' (rt hb').1 hb') b h0;rw[hall.2 hlt0 b h0,ct,hs0] at hn;have c2:decide ((b::l)=[])=false:=rfl;cases c3:decide (((b::l).length:Int)<=24)
   ·have e24:decide ((b::l).length<=24)=false:=by have:=wt c3;simp only[wn];omega
    exact(aB (bm c2 c3))<|zo [.tmp 2] (hq:=by rw[hn,e24])
   ·have e24:decide ((b::l).length<=24)=true:=by have:=ww c3;simp only[wp];omega
    exact(aB (bm c2 c3))<|zo [.tmp 2] (hq:=by rw[hn,e24])
 have hb6:=hb b (co hx);obtain⟨sp1,sp2⟩:=NL b hb6;have hdr:=drop_cons (hCg b hb6)
 have hbl:b<=C.length:=by omega
 have q3:decide ((r9 b:Int)=3)=dN b:=by rw[<-sp1];simp only[decide_eq_decide];omega
 have q4:decide ((r9 b:Int)=4)=decide (r9 b=4):=by simp only[decide_eq_decide];omega
 have q5:decide ((r9 b:Int)=5)=decide (r9 b=5):=by simp only[decide_eq_decide];omega
 rw[sp1] at sp2
 refine(fw)<|(zV)<|(aB (vc hx (show df (.int .u8 (Int.ofNat b))=some b from rfl) @cp hb6 hbl hdr))<|zA [(0,ah s),(3,.ip C),(4,ab k),(5,.a (.int .u8 (r9 b:Int))),(8,ab s.length),(9,ab k)] [] zH ?_
 generalize (r9 b:Int)=cb at q3 q4 q5 ⊢;generalize decide (r9 b=4)=c4 at sp2 q4;generalize decide (r9 b=5)=c5 at sp2 q5
 have m3:c8 prog .neq 5 (.int .u8 cb) (.int .u8 3)=some (.bool (!dN b)):=by rw[<-q3];exact tl rfl
 have m4:c8 prog .neq 5 (.int .u8 cb) (.int .u8 4)=some (.bool (!c4)):=by rw[<-q4];exact tl rfl
 have m5:c8 prog .neq 5 (.int .u8 cb) (.int .u8 5)=some (.bool (!c5)):=by rw[<-q5];exact tl rfl
 clear q3 q4 q5
 have hmore:kU b=true->∀(i b':Nat),i<k+1->s[i]?=some b'->kU b'=true:=λhm i b' hi hb'=>by
  by_cases e:i=k
  ·subst e;rw[hx] at hb';cases hb';exact hm
  ·exact hall.1 i b' i4 hb'
 have hfirst:(k=0->dN b=true)->0<k+1->∀b',s[0]?=some b'->dN b'=true:=λh _ b' hb'=>by
  by_cases hk0:k=0
  ·subst hk0;rw[hx] at hb';cases hb';exact h rfl
  ·exact hall.2 i4 b' hb'
 cases hL:dN b;rotate_left
 ·rw[hL] at m3 sp2
  refine(aB m3)<|(zN)<|(aB (zi hlt hs)) ?_;refine zX hlt zH (⟨hmore sp2.symm,hfirst λ_=>hL⟩)
 rw[hL] at m3 sp2;by_cases hk0:k=0
 ·have hn:cN s=false:=QY s b (by rw[<-hk0];exact hx) hL
  exact(aB (bm m3 (show decide ((k:Int)=0)=true by simp only[wp];omega)))<|(cK)<|zo [.tmp 2] (hq:=by rw[hn])
 have k0:=show decide ((k:Int)=0)=false by simp only[wn];omega
 have hbad:kU b=false->cN s=false:=λhm=>by
  cases hc:cN s
  ·rfl
  ·rw[L9 s hc k b hx] at hm;cases hm
 cases c4
 ·cases c5
  ·have hn:=hbad sp2.symm
   exact(aB (fk m3 m4 m5 k0))<|(cK)<|zo [.tmp 2] (hq:=by rw[hn])
  ·refine(aB (fk m3 m4 m5 k0))<|(zN)<|(aB (zi hlt hs)) ?_;refine zX hlt zH (⟨hmore sp2.symm,hfirst λh=>un h hk0⟩)
 ·refine(aB (cJ m3 m4 k0))<|(zN)<|(aB (zi hlt hs)) ?_;refine zX hlt zH (⟨hmore sp2.symm,hfirst λh=>un h hk0⟩)
structure kj where
 name:List Nat
 kinds:List (List Nat)
 normal:Int
structure aM where
 name:List Nat
 vehicle:Bool
 bN:List kj
def bJ(s:kj):List SV:=[ah s.name,ao 1 s.kinds (aD ah),ab s.normal]
def ar(k:aM):List SV:=[ah k.name,an k.vehicle,ao 3 k.bN bJ]
def Kk (h:p:=by
  refine pB 19 vaa ?_;refine(aB @ao.eq_1)<|(zV)<|(zs) ?_;refine zL l (λk=>∀(i:Nat) y,i<k->l[i]?=some y->p y=false) (λk=>[(0,.sl l.length vab (l.flatMap vac)),(1,.fn fid first cap),(7,ab l.length),(8,ab k)]) (λk=>[]) zH zp ?_;intro k hk hall;refine zT l k ?_ ?_;rintro rfl;rotate_left;intro x hx hlt;rotate_left
  ·exact(fo)<|(zV)<|zo [.tmp 4] (hq:=by rw[iC hall])
  ·refine(fw)<|(zV)<|(eQ (cJ hlt (aL (e:=vab) (enc:=vac) gc hx) @vad))<|(zK (hp x (List.mem_iff_getElem?.2 ⟨k,hx⟩)) (hwk:=((cA.refl hg.1).app zr).app (cA.refl hg.2))) ?_;refine aN.nil ?_
   change aE _ _ _ _ _;cases hpx:p x
   ·refine(zN)<|(aB (zi hlt hlen)) ?_;refine zX hlt zH ?_
    intro i y hi hy;by_cases hik:i=k
    ·subst hik;rw[hx] at hy;cases hy;exact hpx
    ·exact hall i y (by ((try simp only[vab] at *)<;>omega)) hy
   ·exact(cK)<|zo [.tmp 4] (hq:=by rw[mb hx hpx hall])):p:=h
variable{fid:FuncId}{first:List SV}{cap:List SV}
open Go.Proofs.Tryz renaming func124 -> vaa in
open Go.Ev renaming Sd -> vab in
open Go.Proofs renaming ar -> vac in
def El{l:List (aM)}(p:aM->Bool)(hlen:l.length<=1000000)(hp:∀x∈l,PC prog fid ((first++[.ag (ar x)])++cap) (·=an (p x)))(hg:cj first=true/\cj cap=true):PC prog 124 [ao 3 l ar,.fn fid first cap] (·=ab (gf p l)):=by
 have vad:=@ar.eq_1;exact Kk
open Go.Proofs.Tryz renaming func284 -> vaa in
open Go.Ev renaming Sd -> vab in
open Go.Proofs renaming bJ -> vac in
def Ep{l:List (kj)}(p:kj->Bool)(hlen:l.length<=1000000)(hp:∀x∈l,PC prog fid ((first++[.ag (bJ x)])++cap) (·=an (p x)))(hg:cj first=true/\cj cap=true):PC prog 284 [ao 3 l bJ,.fn fid first cap] (·=ab (gf p l)):=by
 have vad:=@bJ.eq_1;exact Kk
def q8{l:List (List Nat)}(p:List Nat->Bool)(hlen:l.length<=1000000)(hp:∀x∈l,PC prog fid ((first++[ah x])++cap) (·=an (p x)))(hg:cj first=true/\cj cap=true):PC prog 262 [ao 1 l (aD ah),.fn fid first cap] (·=ab (gf p l)):=by
 refine pB 19 Tryz.func262 ?_;refine(aB @ao.eq_1)<|(zV)<|(zs) ?_;refine zL l (λk=>∀(i:Nat) y,i<k->l[i]?=some y->p y=false) (λk=>[(0,.sl l.length 1 (l.flatMap (aD ah))),(1,.fn fid first cap),(7,ab l.length),(8,ab k)]) (λk=>[]) zH zp ?_;intro k hk hall;refine zT l k ?_ ?_;rintro rfl;rotate_left;intro x hx hlt;rotate_left
 ·exact(fo)<|(zV)<|zo [.tmp 4] (hq:=by rw[iC hall])
 ·refine(fw)<|(zV)<|(eQ (cJ hlt (aL (e:=1) (enc:=(aD ah)) gc hx) @aD.eq_1))<|(zK (hp x (mem_iff_getElem?.2 ⟨k,hx⟩)) (hwk:=((cA.refl hg.1).app zr).app (cA.refl hg.2))) ?_;refine aN.nil ?_
  change aE _ _ _ _ _;cases hpx:p x
  ·refine(zN)<|(aB (zi hlt hlen)) ?_;refine zX hlt zH ?_
   intro i y hi hy;by_cases hik:i=k
   ·subst hik;rw[hx] at hy;cases hy;exact hpx
   ·exact hall i y i4 hy
  ·exact(cK)<|zo [.tmp 4] (hq:=by rw[mb hx hpx hall])
def Bv(s:List Nat):PC prog 54 [.ag [ah s,.any,.any]] (·=ah s):=by
 refine pB 5 Tryz.func54 ?_;exact(nD)<|zo [.tmp 2]
def Bz(s:List Nat):PC prog 235 [.ag [ah s,.any,.any]] (·=ah s):=by
 refine pB 5 Tryz.func235 ?_;exact(nD)<|zo [.tmp 2]
def Hk(k:aM)(s:List Nat):PC prog 125 [.ag (ar k),.ip [.fn 54 [] []],.ip [ah s]] (·=an (decide (k.name=s))):=by
 refine pB 10 Tryz.func125 ?_;refine(aB @ar.eq_1)<|(zs) ?_;refine nw [0,0,3,0,15,31] ?_;refine(zD) ?_;refine SD.k ii rfl rfl ii rfl rfl zc (Bv k.name) (.cons (.ag (.cons (.a _) (.cons (.any _) (.cons (.any _) .nil)))) .nil) rfl ?_;exact(zD)<|(zM)<|zo [.tmp 4]
def Ht(k:kj)(s:List Nat):PC prog 285 [.ag (bJ k),.ip [.fn 235 [] []],.ip [ah s]] (·=an (decide (k.name=s))):=by
 refine pB 10 Tryz.func285 ?_;refine(aB @bJ.eq_1)<|(zs) ?_;refine nw [0,0,3,0,15,31] ?_;refine(zD) ?_;refine SD.k ii rfl rfl ii rfl rfl zc (Bz k.name) (.cons (.ag (.cons (.a _) (.cons (.any _) (.cons (.any _) .nil)))) .nil) rfl ?_;exact(zD)<|(zM)<|zo [.tmp 4]
def Er(l:List aM)(s:List Nat)(hlen:l.length<=1000000):PC prog 53 [ao 3 l ar,.fn 54 [] [],ah s] (·=ab (gf (λk=>decide (k.name=s)) l)):=by
 refine pB 10 Tryz.func53 ?_;exact(jC)<|(zK (El (λk=>decide (k.name=s)) (first:=[]) (cap:=[.ip [.fn 54 [] []],.ip [ah s]]) hlen (λx _=>Hk x s) ⟨rfl,rfl⟩))<|(zR)<|zo [.tmp 6]
def EJ(l:List kj)(s:List Nat)(hlen:l.length<=1000000):PC prog 234 [ao 3 l bJ,.fn 235 [] [],ah s] (·=ab (gf (λk=>decide (k.name=s)) l)):=by
 refine pB 10 Tryz.func234 ?_;exact(jC)<|(zK (Ep (λk=>decide (k.name=s)) (first:=[]) (cap:=[.ip [.fn 235 [] []],.ip [ah s]]) hlen (λx _=>Ht x s) ⟨rfl,rfl⟩))<|(zR)<|zo [.tmp 6]
def tP(p:α->Bool)(l:List α):(gf p l = -1/\l.find? p=none)\/∃(k:Nat) (x:α),gf p l=(k:Int)/\k<l.length/\l[k]?=some x/\l.find? p=some x:=by
 unfold gf
 cases hf:l.findIdx? p with
 | none=>
  rw[List.findIdx?_eq_none_iff] at hf;exact .inl ⟨rfl,by rw[dv];intro x hx;rw[hf x hx];decide⟩
 | some k=>
  obtain⟨hlt,h1,h2⟩:=List.findIdx?_eq_some_iff_getElem.1 hf;refine .inr ⟨k,l[k],rfl,hlt,jp hlt,?_⟩;rw[List.find?_eq_some_iff_getElem];exact⟨h1,k,hlt,rfl,λj hj=>by simpa using h2 j hj⟩
def aM.zero:aM:=⟨[],false,[]⟩
def kj.zero:kj:=⟨[],[],0⟩
def dF(l:List aM)(s:List Nat):Option aM:=l.find? λk=>decide (k.name=s)
def pL(l:List kj)(s:List Nat):Option kj:=l.find? λk=>decide (k.name=s)
def jf(enc:α->List SV)(z:α):Option α->SV
 | some x=>.cx [.ag (enc x),an true]
 | none=>.cx [.ag (enc z),an false]
def kP(l:List aM)(s:List Nat)(hlen:l.length<=1000000):PC prog 16 [.ag [ao 3 l ar],ah s] (·=jf ar aM.zero (dF l s)):=by
 refine pB 19 Tryz.func16 ?_;refine(jC)<|(zK (Er l s hlen))<|(zR) ?_
 rcases tP (λk:aM=>decide (k.name=s)) l with⟨h1,h2⟩ | ⟨k,x,h1,hlt,hx,h2⟩
 ·rw[h1]
  refine(xw)<|(zV)<|(zE) ?_;exact BJ.of (rs:=[.cell 4 61,.tmp 5]) (r:=.cx [.ag [ah [],an false,.sl 0 3 []],an false]) rfl rfl zl zv (by (try simp only[eC,bK]);first | done | (unfold dF;rw[h2];rfl))
 ·rw[h1]
  exact(aB (show decide ((k:Int)<0)=false by simp))<|(zN)<|(aB (cJ hlt (aL (e:=3) (enc:=ar) gc hx) @ar.eq_1))<|kn [.cell 4 61,.tmp 5] (hq:=by unfold dF;rw[h2];rfl)
def AU(l:List aM)(kind name:List Nat)(hlen:l.length<=1000000)(hs:∀k∈l,k.bN.length<=1000000):PC prog 150 [.ag [ao 3 l ar],ah kind,ah name] (·=jf bJ kj.zero ((dF l kind).bind λk=>pL k.bN name)):=by
 refine pB 29 Tryz.func150 ?_
 obtain⟨q,b,h1,h2,h3⟩:∃(q:aM) (b:Bool),jf ar aM.zero (dF l kind)=.cx [.ag (ar q),an b]/\q.bN.length<=1000000/\((dF l kind).bind λk=>pL k.bN name)=pL q.bN name:=by
  cases hf:dF l kind with
  | none=>exact⟨aM.zero,false,rfl,ck _,rfl⟩
  | some q=>exact⟨q,true,rfl,hs q (aW hf),rfl⟩
 rw[h3];have hF:=kP l kind hlen;rw[h1] at hF
 refine(jC)<|(zK hF (hfl:=.inr zr))<|(cM @ar.eq_1)<|(zC)<|(zK (EJ q.bN name h2))<|(zR) ?_
 rcases tP (λk:kj=>decide (k.name=name)) q.bN with⟨g1,g2⟩ | ⟨k,x,g1,hlt,hx,g2⟩
 ·rw[g1]
  refine(xw)<|(zV)<|(zE) ?_;exact BJ.of (rs:=[.cell 6 155,.tmp 7]) (r:=.cx [.ag [ah [],.sl 0 1 [],ab 0],an false]) rfl rfl zl zv (by (try simp only[eC,bK]);first | done | (unfold pL;rw[g2];rfl))
 ·rw[g1]
  exact(aB (show decide ((k:Int)<0)=false by simp))<|(zN)<|(aB (cJ hlt (aL (e:=3) (enc:=bJ) gc hx) @bJ.eq_1))<|kn [.cell 6 155,.tmp 7] (hq:=by unfold pL;rw[g2];rfl)
def oD(l:List (List Nat))(s:List Nat)(hlen:l.length<=1000000):PC prog 122 [ao 1 l (aD ah),ah s] (·=ab (gf (λx=>decide (s=x)) l)):=by
 refine pB 19 Tryz.func122 ?_;refine(nD)<|(zs) ?_;refine zL l (λk=>∀(i:Nat) y,i<k->l[i]?=some y->decide (s=y)=false) (λk=>[(0,.sl l.length 1 (l.flatMap (aD ah))),(1,ah s),(7,ab l.length),(8,ab k)]) (λk=>[]) zH zp ?_;intro k hk hall;refine zT l k ?_ ?_;rintro rfl;rotate_left;intro x hx hlt;rotate_left
 ·exact(fo)<|(zV)<|zo [.tmp 4] (hq:=by rw[iC hall])
 ·refine(fw)<|(zV)<|(aB (cJ hlt (aL (e:=1) (enc:=aD ah) gc hx) @aD.eq_1)) ?_
  cases hpx:decide (s=x)
  ·refine(zN)<|(aB (zi hlt hlen)) ?_;refine zX hlt zH ?_
   intro i y hi hy;by_cases hik:i=k
   ·subst hik;rw[hx] at hy;cases hy;exact hpx
   ·exact hall i y i4 hy
  ·exact(cK)<|zo [.tmp 4] (hq:=by rw[mb hx hpx hall])
def Dv{l:List (List Nat)}{s:List Nat}:decide (0<=gf (λx=>decide (s=x)) l)=l.contains s:=by
 rcases tP (λx=>decide (s=x)) l with⟨g1,g2⟩ | ⟨k,x,g1,hlt,hx,g2⟩
 ·rw[g1];rw[dv] at g2
  have:s∉l:=λhm=>by simpa using g2 s hm
  simp[this]
 ·rw[g1];have h:=es g2;have hm:=aW g2;simp only[wp] at h;subst h;simp[hm]
def iL(l:List (List Nat))(s:List Nat)(hlen:l.length<=1000000):PC prog 51 [ao 1 l (aD ah),ah s] (·=an (l.contains s)):=by
 refine pB 9 Tryz.func51 ?_;exact(jC)<|(zK (oD l s hlen))<|(zR)<|zo [.tmp 4] (hq:=by rw[Dv])
def lR(l:List aM)(kind name other:List Nat):Bool:=match (dF l kind).bind λk=>pL k.bN name with
 | some s=>s.kinds.contains other
 | none=>false
def wW(l:List aM)(kind name other:List Nat)(hlen:l.length<=1000000)(hs:∀k∈l,k.bN.length<=1000000/\∀s∈k.bN,s.kinds.length<=1000000):PC prog 116 [.ag [ao 3 l ar],ah kind,ah name,ah other] (·=an (lR l kind name other)):=by
 refine pB 25 Tryz.func116 ?_;have hF:=AU l kind name hlen λk hk=>(hs k hk).1;refine(jC) ?_;unfold Proofs.lR
 cases hf:(dF l kind).bind λk=>pL k.bN name with
 | none=>
  rw[hf] at hF
  exact(zK hF (hfl:=.inr zr))<|(cM (cJ @jf.eq_1 @bJ.eq_1 @kj.zero.eq_1))<|(zV)<|zo [.tmp 8]
 | some q=>
  have hq:q.kinds.length<=1000000:=by
   obtain⟨k,hk,h2⟩:=ul hf;exact(hs k (aW hk)).2 q (aW h2)
  rw[hf] at hF
  exact(zK hF (hfl:=.inr zr))<|(cM (bm @jf.eq_1 @bJ.eq_1))<|(zC)<|(zK (iL q.kinds other hq))<|(zR)<|zo [.tmp 8]
def fj(s:List Nat):Prop:=s.length<=1000000/\∀b∈s,b<256
def dZ(s:List Nat)(h:fj s):PC prog 101 [ah s] (·=an (cN s)):=Bw s h.1 h.2
def mr:Keys prog 9 AV.str:=Ow zW
variable{S:List SO}{o:Nat}
def ik{l:List (List Nat×Bool)}(s:List Nat)(ok:Bool)(hS:S[o]?=some (bG AV.str an l)):jm prog S 133 (.map o) (.a (.str s)) ok=some (cond ok (.cx [an (getM false s l),an (dA s l)]) (an (getM false s l))):=
 OC (uv:=an) (u0:=false) (k:=s) (kt:=9) (et:=4) (z:=.bool false) (by simp only[aF]) mr (by simp only[aF]) rfl hS rfl ok
def rX{l:List (List Nat×Bool)}(s:List Nat)(u:Bool)(hS:S[o]?=some (bG AV.str an l)):iF prog S 133 (.map o) (.a (.str s)) (.a (.bool u))=some (S.set o (bG AV.str an (cC s u l))):=
 IW (uv:=an) (kt:=9) (et:=4) (by simp only[aF]) mr hS rfl u
def lM(parts:List (List Nat×Bool)):List (List Nat×Bool)->List (List Nat)->Bool
 | _,[]=>true
 | taken,x::xs=>!(getM false x taken||!getM false x parts)&&lM parts (cC x true taken) xs
def iS(parts:List (List Nat×Bool)):List (List Nat×Bool)->List kj->Bool
 | _,[]=>true
 | seen,s::ss=>!(getM false s.name seen||(!cN s.name||(decide (s.normal<1)||decide ((s.kinds.length:Int)<s.normal))))&&(lM parts [] s.kinds&&iS parts (cC s.name true seen) ss)
def iE:List (List Nat×Bool)->List aM->Bool
 | _,[]=>true
 | parts,k::ks=>!(dA k.name parts||(!cN k.name||decide (12<(k.bN.length:Int))))&&(iS parts [] k.bN&&iE (cC k.name (!k.vehicle) parts) ks)
def oJ(l:List aM):Bool:=iE [] l&&decide ((l.length:Int)<=60)
structure mI (l:List aM):Prop where
 len:l.length<=1000000
 kind:∀k∈l,fj k.name/\k.bN.length<=1000000
 slot:∀k∈l,∀s∈k.bN,fj s.name/\s.kinds.length<=1000000
def eZ{x:α}(h:l[k]?=some x):l.drop k=x::l.drop (k+1):=by
 obtain⟨hlt,he⟩:=rt h;rw[dc hlt,he]
def og(l:List aM)(hl:mI l):PC prog 42 [.ag [ao 3 l ar]] (·=an (oJ l)):=by
 have hlen:=hl.len
 refine pB 108 Tryz.func42 ?_;refine(nD)<|(zV)<|(zs) ?_;refine BF l (λk (parts:List (List Nat×Bool))=>iE [] l=iE parts (l.drop k)) (λk parts=>[(1,.ptr 0 0),(3,.map 1),(16,ao 3 l ar),(17,ab l.length),(18,ab k)]) (λk parts=>[.cells [ao 3 l ar],bG AV.str an parts]) ([]) zH ii ?_;intro k parts hk hall;refine zT l k ?_ ?_;rintro rfl;rotate_left;intro x hx hlt;rotate_left
 ·exact(fo)<|(zV)<|zo [.tmp 2] (hq:=by rw[show oJ l=decide ((l.length:Int)<=60) from by unfold oJ;rw[hall,bv];rfl])
 have no:iE parts (l.drop k)=false->oJ l=false:=λh=>by unfold oJ;rw[hall,h];rfl
 rw[eZ hx] at no hall;have hgx:=hl.kind x (mem_iff_getElem?.2 ⟨k,hx⟩);have hsx:=hl.slot x (mem_iff_getElem?.2 ⟨k,hx⟩)
 refine(fw)<|(aB (fk hlt (aL (e:=3) (enc:=ar) gc hx) @ar.eq_1 @qP))<|(zs) ?_;refine aE.r0 ii (by simp only[cY,bP,ao,aF,m7,m6,↓reduceIte,aa,ad,af,ac,aj,aq,aA,bD,ik (l:=parts)];first | done | rfl) ?_
 cases h1:dA x.name parts;rotate_left
 ·exact(xw)<|(zV)<|zo [.tmp 2] (hq:=by rw[no (by simp[iE,h1])])
 refine(zC)<|(zK (dZ x.name hgx.1)) ?_
 cases h2:cN x.name
 ·exact(zR)<|(cK)<|zo [.tmp 2] (hq:=by rw[no (by simp[iE,h2])])
 cases h3:decide (12<(x.bN.length:Int));rotate_left
 ·exact(cM h3)<|(cK)<|zo [.tmp 2] (hq:=by rw[no (by simp only[iE,h3,dE,ca,ce])])
 refine(cM h3)<|(zN)<|(aB @qP)<|(zV) ?_
 have hq2:iE [] l=(iS parts [] x.bN&&iE (cC x.name (!x.vehicle) parts) (l.drop (k+1))):=by rw[hall,iE,h1,h2,h3];rfl
 have hnx:True:=trivial
 have no2:iS parts [] x.bN=false->oJ l=false:=λh=>by unfold oJ;rw[hq2,h];rfl
 have hlen2:=hgx.2;refine(zs) ?_;refine BF x.bN (λk2 (seen:List (List Nat×Bool))=>iS parts [] x.bN=iS parts seen (x.bN.drop k2)) (λk2 seen=>[(1,.ptr 0 0),(3,.map 1),(16,ao 3 l ar),(17,ab l.length),(18,ab k),(5,.ptr 2 0),(8,.map 3),(44,ao 3 x.bN bJ),(45,ab x.bN.length),(46,ab k2)]) (λk2 seen=>[.cells [ao 3 l ar],bG AV.str an parts,.cells (ar x),bG AV.str an seen]) ([]) zH ii ?_;intro k2 seen hk2 hall2;refine zT x.bN k2 ?_ ?_;rintro rfl;rotate_left;intro y hx2 hlt2;rotate_left
 ·refine(fo) ?_
  have hall3:iE [] l=iE (cC x.name (!x.vehicle) parts) (l.drop (k+1)):=by rw[hq2,hall2,bv];rfl
  refine(zs) ?_;refine aE.r0 ii (by simp only[cY,bP,ao,aF,m7,m6,↓reduceIte,aa,ad,af,ac,aj,aq,aA,bD,ar,rX (l:=parts)];first | done | rfl) ?_;refine(aB (zi hlt hlen)) ?_;refine pw hlt (cC x.name (!x.vehicle) parts) zH hall3
 have no3:iS parts seen (x.bN.drop k2)=false->oJ l=false:=λh=>no2 (by rw[hall2,h]);rw[eZ hx2] at no3 hall2;have hgy:=hsx y (mem_iff_getElem?.2 ⟨k2,hx2⟩)
 refine(fw)<|(aB (kY hlt2 (aL (e:=3) (enc:=bJ) gc hx2) @bJ.eq_1 @ar.eq_1 @qP)) ?_
 cases g1:getM false y.name seen;rotate_left
 ·refine(zs) ?_;refine aE.r0 ii (by simp only[cY,bP,ao,aF,m7,m6,↓reduceIte,aa,ad,af,ac,aj,aq,aA,bD,ik (l:=seen),g1];first | done | rfl) ?_;exact(cK)<|zo [.tmp 2] (hq:=by rw[no3 (by simp[iS,g1])])
 refine(zs) ?_;refine aE.Si ii (by simp only[cY,bP,ao,aF,m7,m6,↓reduceIte,aa,ad,af,ac,aj,aq,aA,bD,ik (l:=seen),g1];first | done | rfl) ?_;refine(zK (dZ y.name hgy.1)) ?_;cases g2:cN y.name
 ·exact(zR)<|(cK)<|zo [.tmp 2] (hq:=by rw[no3 (by simp[iS,g2])])
 cases g3:decide (y.normal<1);rotate_left
 ·exact(cM g3)<|(cK)<|zo [.tmp 2] (hq:=by rw[no3 (by simp only[iS,g3,dE,d7,ca,ce])])
 cases g4:decide ((y.kinds.length:Int)<y.normal);rotate_left
 ·exact(cM (bm g3 g4))<|(cK)<|zo [.tmp 2] (hq:=by rw[no3 (by simp only[iS,g4,dE,d7,ca,ce])])
 refine(cM (bm g3 g4))<|(zN)<|(zs) ?_;refine aE.r0 ii (by simp only[cY,bP,ao,aF,m7,m6,↓reduceIte,aa,ad,af,ac,aj,aq,aA,bD,rX (l:=seen)];first | done | rfl) ?_;refine(aB @qP)<|(zV) ?_
 have hq3:iS parts [] x.bN=(lM parts [] y.kinds&&iS parts (cC y.name true seen) (x.bN.drop (k2+1))):=by rw[hall2,iS,g1,g2,g3,g4];rfl
 have no4:lM parts [] y.kinds=false->oJ l=false:=λh=>no2 (by rw[hq3,h];rfl);have hlen3:=hgy.2;refine(zs) ?_;refine BF y.kinds (λk3 (taken:List (List Nat×Bool))=>lM parts [] y.kinds=lM parts taken (y.kinds.drop k3)) (λk3 taken=>[(1,.ptr 0 0),(3,.map 1),(16,ao 3 l ar),(17,ab l.length),(18,ab k),(5,.ptr 2 0),(8,.map 3),(44,ao 3 x.bN bJ),(45,ab x.bN.length),(46,ab k2),(11,.map 5),(78,ao 1 y.kinds (aD ah)),(79,ab y.kinds.length),(80,ab k3)]) (λk3 taken=>[.cells [ao 3 l ar],bG AV.str an parts,.cells (ar x),bG AV.str an (cC y.name true seen),.gone,bG AV.str an taken]) ([]) (cg (bm @aD.eq_1 @ar.eq_1)) ii ?_;intro k3 taken hk3 hall3;refine zT y.kinds k3 ?_ ?_;rintro rfl;rotate_left;intro z hx3 hlt3;rotate_left
 ·refine(fo) ?_
  have hall4:iS parts [] x.bN=iS parts (cC y.name true seen) (x.bN.drop (k2+1)):=by rw[hq3,hall3,bv];rfl
  refine(aB (zi hlt2 hlen2)) ?_;refine pw hlt2 (cC y.name true seen) (cg @ar.eq_1) hall4
 have no5:lM parts taken (y.kinds.drop k3)=false->oJ l=false:=λh=>no4 (by rw[hall3,h]);rw[eZ hx3] at no5 hall3
 refine(fw)<|(aB (cJ hlt3 (aL (e:=1) (enc:=aD ah) gc hx3) @aD.eq_1)) ?_
 cases f1:getM false z taken;rotate_left
 ·refine(zs) ?_;refine aE.r0 ii (by simp only[cY,bP,ao,aF,m7,m6,↓reduceIte,aa,ad,af,ac,aj,aq,aA,bD,ik (l:=taken),f1];first | done | rfl) ?_;exact(cK)<|zo [.tmp 2] (hq:=by rw[no5 (by simp[lM,f1])])
 cases f2:getM false z parts
 ·refine(zs) ?_;refine aE.r0 ii (by simp only[cY,bP,ao,aF,m7,m6,↓reduceIte,aa,ad,af,ac,aj,aq,aA,bD,ik (l:=taken),ik (l:=parts),f1,f2];first | done | rfl) ?_;exact(cK)<|zo [.tmp 2] (hq:=by rw[no5 (by simp[lM,f2])])
 refine(zs) ?_;refine aE.r0 ii (by simp only[cY,bP,ao,aF,m7,m6,↓reduceIte,aa,ad,af,ac,aj,aq,aA,bD,ik (l:=taken),ik (l:=parts),f1,f2];first | done | rfl) ?_;refine(zN) ?_
 have hall5:lM parts [] y.kinds=lM parts (cC z true taken) (y.kinds.drop (k3+1)):=by rw[hall3,lM,f1,f2];rfl
 refine(zs) ?_;refine aE.r0 ii (by simp only[cY,bP,ao,aF,m7,m6,↓reduceIte,aa,ad,af,ac,aj,aq,aA,bD,rX (l:=taken)];first | done | rfl) ?_;refine(aB (zi hlt3 hlen3)) ?_;refine pw hlt3 (cC z true taken) (cg (bm @aD.eq_1 @ar.eq_1)) hall5
def nM{p:α->Bool}:decide (0<=gf p l)=l.any p:=by
 rcases tP p l with⟨g1,g2⟩ | ⟨k,x,g1,hlt,hx,g2⟩
 ·rw[g1];rw[dv] at g2
  have:l.any p=false:=by
   rw[List.any_eq_false];exact g2
  rw[this];rfl
 ·rw[g1];have:l.any p=true:=List.any_eq_true.2 ⟨x,aW g2,es g2⟩;rw[this];simp
def G4{l:List (List Nat)}(p:List Nat->Bool)(hlen:l.length<=1000000)(hp:∀x∈l,PC prog fid ((first++[ah x])++cap) (·=an (p x)))(hg:cj first=true/\cj cap=true):PC prog 191 [ao 1 l (aD ah),.fn fid first cap] (·=an (l.any p)):=by
 refine pB 9 Tryz.func191 ?_;exact(jC)<|(zK (q8 p hlen hp hg) (hwk:=.cons (Wk.sl _ _ _) (.cons (.fn (cA.refl hg.1) (cA.refl hg.2)) .nil)))<|(zR)<|zo [.tmp 4] (hq:=by rw[nM])
structure br where
 op:Int
 day:Int
 part:List Nat
 kind:List Nat
 aT:List Nat
 slot:List Nat
 key:List Nat
 value:List Nat
 u1:Int
 u2:Int
 u3:Int
 u4:Int
 u5:Int
 u6:Int
 deriving DecidableEq
def au(e:br):List SV:=[ab e.op,ab e.day,ah e.part,ah e.kind,ah e.aT,ah e.slot,ah e.key,ah e.value,ab e.u1,ab e.u2,ab e.u3,ab e.u4,ab e.u5,ab e.u6]
def br.av(e:br):List AV:=[.int .i64 e.op,.int .i64 e.day,.str e.part,.str e.kind,.str e.aT,.str e.slot,.str e.key,.str e.value,.int .i64 e.u1,.int .i64 e.u2,.int .i64 e.u3,.int .i64 e.u4,.int .i64 e.u5,.int .i64 e.u6]
def br.zero:br:=⟨0,0,[],[],[],[],[],[],0,0,0,0,0,0⟩
def br.Wg:List Kd:=[.i .i64,.i .i64,.s,.s,.s,.s,.s,.s,.i .i64,.i .i64,.i .i64,.i .i64,.i .i64,.i .i64]
def br.eq(a b:br):fY eG a.av b.av=decide (a=b):=by
 obtain⟨a1,a2,a3,a4,a5,a6,a7,a8,a9,a10,a11,a12,a13,a14⟩:=a;obtain⟨b1,b2,b3,b4,b5,b6,b7,b8,b9,b10,b11,b12,b13,b14⟩:=b;simp only[br.av,fY,eG,A0,sI,lH,c6,ct,br.mk.injEq,er]
def MG(a b:br):c8 prog .eql 90 (.agg a.av) (.agg b.av)=some (.bool (decide (a=b))):=
 tj (ks:=br.Wg) zW zW (by simp only[aF,m6]) rfl rfl (br.eq a b)
def TL:List (List Nat):=[[],[109,97,107,101],[102,105,116],[114,101,109,111,118,101],[114,117,110],[111,118,101,114,104,97,117,108],[110,111,116,101],[115,99,114,97,112]]
def HS(op:Int):List Nat:=if op<0\/8<=op then [] else (TL[op.toNat]?).getD []
def JP(op:Int):PC prog 189 [ab op] (·=ah (HS op)):=by
 refine pB 14 Tryz.func189 ?_;refine(nD) ?_;cases h1:decide (op<0);rotate_left
 ·exact(aB h1)<|(cK)<|zo [.tmp 2] (hq:=by rw[HS,ut (.inl (ww h1))])
 cases h2:decide (8<=op);rotate_left
 ·exact(aB (bm h1 h2))<|(cK)<|zo [.tmp 2] (hq:=by rw[HS,ut (.inr (ww h2))])
 refine(aB (bm h1 h2))<|(zN) ?_
 have hop:op=0\/op=1\/op=2\/op=3\/op=4\/op=5\/op=6\/op=7:=by simp only[wn] at h1 h2;omega
 rcases hop with rfl | rfl | rfl | rfl | rfl | rfl | rfl | rfl<;>(refine(zV) ?_ ;exact zo [.tmp 2])
def AJ(a b c d e f:SV):PC prog 190 [.ip [a,b,c,d,e,f]] (·=.ag [.ip [a,b,c,d,e,f],.ip [c,d,e,f],.ip [e,f]]):=by
 refine pB 13 Tryz.func190 ?_;refine(zV)<|(zs) ?_;refine nw [0,1,3,0,8,24,0,64,192,511,1023] ?_;refine(zD) ?_;refine SD.e ii rfl ii rfl rfl ii zl ?_;exact(zM)<|zo [.cell 2 251]
def Ez(s:List Nat)(h:fj s):PC prog 192 [ah s] (·=an (!cN s)):=by
 refine pB 6 Tryz.func192 ?_;exact(jC)<|(zK (dZ s h))<|(zR)<|zo [.tmp 2]
def jD(a b:Int):Bool:=!(decide (a<0))&&(!(decide (b<a))&&!(decide (1000000<b)))
def br.use(e:br):Bool:=jD e.u1 e.u2&&(jD e.u3 e.u4&&jD e.u5 e.u6)
def br.rest(e:br):br:=
 if e.op=1 then ⟨0,0,[],[],e.aT,e.slot,e.key,e.value,e.u1,e.u2,e.u3,e.u4,e.u5,e.u6⟩
 else if e.op=2 then ⟨0,0,[],e.kind,[],[],e.key,e.value,e.u1,e.u2,e.u3,e.u4,e.u5,e.u6⟩
 else if e.op=6 then ⟨0,0,[],e.kind,e.aT,e.slot,[],[],e.u1,e.u2,e.u3,e.u4,e.u5,e.u6⟩
 else if e.op=4 then ⟨0,0,[],e.kind,e.aT,e.slot,e.key,e.value,0,0,0,0,0,0⟩
 else ⟨0,0,[],e.kind,e.aT,e.slot,e.key,e.value,e.u1,e.u2,e.u3,e.u4,e.u5,e.u6⟩
def br.names(e:br):List (List Nat):=if e.op=1 then [e.kind] else if e.op=2 then [e.aT,e.slot] else if e.op=6 then [e.key] else []
def br.j7(e:br):Bool:=
 if e.op=1 then true else if e.op=2 then !(decide (e.aT=e.part)) else if e.op=6 then !(decide (e.value=[]))&&!(decide (200<(e.value.length:Int))) else if e.op=4 then e.use else true
def dL(e:br):Bool:=!(decide (HS e.op=[]))&&(!(decide (e.day<0))&&(!(decide (40000<e.day))&&(cN e.part&&(e.j7&&(decide (e.rest=br.zero)&&!(e.names.any λs=>!cN s))))))
structure lY (e:br):Prop where
 part:fj e.part
 kind:fj e.kind
 aT:fj e.aT
 slot:fj e.slot
 key:fj e.key
 value:fj e.value
def AG(a1 a2:Int)(a3 a4 a5 a6 a7 a8:List Nat)(a9 a10 a11 a12 a13 a14:Int):c8 prog .eql 90 (.agg [.int .i64 a1,.int .i64 a2,.str a3,.str a4,.str a5,.str a6,.str a7,.str a8,.int .i64 a9,.int .i64 a10,.int .i64 a11,.int .i64 a12,.int .i64 a13,.int .i64 a14]) (.agg [.int .i64 0,.int .i64 0,.str [],.str [],.str [],.str [],.str [],.str [],.int .i64 0,.int .i64 0,.int .i64 0,.int .i64 0,.int .i64 0,.int .i64 0])=some (.bool (decide ((⟨a1,a2,a3,a4,a5,a6,a7,a8,a9,a10,a11,a12,a13,a14⟩:br)=br.zero))):=
 MG ⟨a1,a2,a3,a4,a5,a6,a7,a8,a9,a10,a11,a12,a13,a14⟩ br.zero
def HA(e:br)(he:lY e):PC prog 108 [.ag (au e)] (·=an (dL e)):=by
 refine pB 111 Tryz.func108 ?_;refine(aB @au.eq_1)<|(zC)<|(zK (JP e.op)) ?_
 cases h1:decide (HS e.op=[]);rotate_left
 ·exact(cM h1)<|(cK)<|zo [.tmp 2] (hq:=by rw[dL,h1];rfl)
 cases h2:decide (e.day<0);rotate_left
 ·exact(cM (bm h1 h2))<|(cK)<|zo [.tmp 2] (hq:=by rw[dL,h1,h2];rfl)
 cases h3:decide (40000<e.day);rotate_left
 ·exact(cM (cJ h1 h2 h3))<|(cK)<|zo [.tmp 2] (hq:=by rw[dL,h1,h2,h3];rfl)
 refine(MY (cJ h1 h2 h3))<|(zK (dZ e.part he.part)) ?_
 cases h4:cN e.part
 ·exact(zR)<|(cK)<|zo [.tmp 2] (hq:=by rw[dL,h1,h2,h3,h4];rfl)
 refine(zR)<|(zN) ?_
 have hv:dL e=(e.j7&&(decide (e.rest=br.zero)&&!(e.names.any λs=>!cN s))):=by rw[dL,h1,h2,h3,h4];rfl
 clear h1 h2 h3 h4
 have hn:∀s∈e.names,fj s:=by
  intro s hs;unfold br.names at hs;split at hs
  ·rw[t6 hs];exact he.kind
  split at hs
  ·rcases t7 hs with rfl | hs
   ·exact he.aT
   ·rw[t6 hs];exact he.slot
  split at hs
  ·rw[t6 hs];exact he.key
  ·cases hs
 have hnl:e.names.length<=1000000:=by
  unfold br.names
  repeat' split
  all_goals simp
 refine(nD)<|(nD) ?_
 (repeat refine aE.seq ?_)
 refine aE.mono (Q:=λex st=>(ex=.normal/\e.j7=true/\Fg st ⟨[(3,.sl e.names.length 1 (e.names.flatMap (aD ah))),(4,.ptr 2 0)],111,[.gone,.gone,.cells (au e.rest)],[]⟩)\/(ex=.ret/\BJ prog Tryz.f108 (·=an (dL e)) .ret st)) ?_ ?_;rotate_left
 ·rintro ex st (⟨rfl,hm,hf⟩ | ⟨rfl,hs⟩);rotate_left
  ·exact hs
  change aE _ _ _ _ _;refine aE.fg hf ?_;rw[hv,hm,c6];cases r:decide (e.rest=br.zero)
  ·exact(aB (cJ @au.eq_1 @AG r))<|zo [.tmp 2]
  ·exact(eQ (cJ @au.eq_1 @AG r))<|(zK (G4 (λs=>!cN s) (l:=e.names) (first:=[]) (cap:=[]) hnl (λx hx=>Ez x (hn x hx)) ⟨rfl,rfl⟩))<|(zR)<|zo [.tmp 2]
 have hrest:∀a1 a2 a3 a4 a5 a6 a7 a8 a9 a10 a11 a12 a13 a14,e.rest=(⟨a1,a2,a3,a4,a5,a6,a7,a8,a9,a10,a11,a12,a13,a14⟩:br)->au e.rest=[ab a1,ab a2,ah a3,ah a4,ah a5,ah a6,ah a7,ah a8,ab a9,ab a10,ab a11,ab a12,ab a13,ab a14]:=by
  intros;simp only[*,au]
 refine aE.block ?_;refine(zV) ?_;cases k1:decide (e.op=1);rotate_left
 ·have k1':=ww k1;refine(cK) ?_;have hr:=hrest _ _ _ _ _ _ _ _ _ _ _ _ _ _ (show e.rest=_ by unfold br.rest;rw[ut k1'])
  have hnm:e.names=[e.kind]:=by unfold br.names;rw[ut k1']
  refine .inl ⟨rfl,by unfold br.j7;rw[ut k1'],?_⟩;rw[hr,hnm];exact Fg.trans (Fg.freeze (f':=[(3,.sl 1 1 [ah e.kind]),(4,.ptr 2 0)]) 3 rfl gt zG) zH
 have n1:=wt k1;refine(lD) ?_;cases k2:decide (e.op=2);rotate_left
 ·have k2':=ww k2
  have hmid:e.j7=!(decide (e.aT=e.part)):=by unfold br.j7;rw[v6 n1,ut k2']
  refine(cK) ?_;cases j1:decide (e.aT=e.part);rotate_left
  ·refine(cK) ?_;refine aE.ret ?_;refine .inr ⟨rfl,?_⟩;exact zO [.tmp 2] (hq:=by (try simp only[eC,bK]);first | done | (rw[hv,hmid,j1];rfl))
  refine(lD) ?_;have hr:=hrest _ _ _ _ _ _ _ _ _ _ _ _ _ _ (show e.rest=_ by unfold br.rest;rw[v6 n1,ut k2'])
  have hnm:e.names=[e.aT,e.slot]:=by unfold br.names;rw[v6 n1,ut k2']
  refine .inl ⟨rfl,by rw[hmid,j1];rfl,?_⟩;rw[hr,hnm];exact Fg.trans (Fg.freeze (f':=[(3,.sl 2 1 [ah e.aT,ah e.slot]),(4,.ptr 2 0)]) 3 rfl gt zG) zH
 have n2:=wt k2;refine(lD) ?_;cases k6:decide (e.op=6);rotate_left
 ·have k6':=ww k6
  have hmid:e.j7=(!(decide (e.value=[]))&&!(decide (200<(e.value.length:Int)))):=by unfold br.j7;rw[v6 n1,v6 n2,ut k6']
  refine(zY) ?_;cases j1:decide (e.value=[]);rotate_left
  ·refine(aB j1)<|(cK) ?_;refine aE.ret ?_;refine .inr ⟨rfl,?_⟩;exact zO [.tmp 2] (hq:=by (try simp only[eC,bK]);first | done | (rw[hv,hmid,j1];rfl))
  cases j2:decide (200<(e.value.length:Int));rotate_left
  ·(repeat refine aE.seq ?_);refine aE.r0 ii (pz (bm j1 j2)) ?_
   refine(cK) ?_;refine aE.ret ?_;refine .inr ⟨rfl,?_⟩;exact zO [.tmp 2] (hq:=by (try simp only[eC,bK]);first | done | (rw[hv,hmid,j1,j2];rfl))
  refine(zs) ?_;refine aE.r0 ii (by simp only[cY,bP,ao,aF,m7,m6,↓reduceIte,aa,ad,af,ac,aj,aq,aA,bD,j1,j2];first | done | rfl) ?_;refine(lD) ?_;have hr:=hrest _ _ _ _ _ _ _ _ _ _ _ _ _ _ (show e.rest=_ by unfold br.rest;rw[v6 n1,v6 n2,ut k6'])
  have hnm:e.names=[e.key]:=by unfold br.names;rw[v6 n1,v6 n2,ut k6']
  refine .inl ⟨rfl,by rw[hmid,j1,j2];rfl,?_⟩;rw[hr,hnm];exact Fg.trans (Fg.freeze (f':=[(3,.sl 1 1 [ah e.key]),(4,.ptr 2 0)]) 3 rfl gt zG) zH
 have n6:=wt k6
 have hnm:e.names=[]:=by unfold br.names;rw[v6 n1,v6 n2,v6 n6]
 refine(lD) ?_;cases k4:decide (e.op=4)
 ·have n4:=wt k4;refine(zN) ?_;have hr:=hrest _ _ _ _ _ _ _ _ _ _ _ _ _ _ (show e.rest=_ by unfold br.rest;rw[v6 n1,v6 n2,v6 n6,v6 n4]);refine .inl ⟨rfl,by unfold br.j7;rw[v6 n1,v6 n2,v6 n6,v6 n4],?_⟩;rw[hr,hnm];exact Fg.trans (Fg.freeze (f':=[(3,.sl 0 1 []),(4,.ptr 2 0)]) 1 rfl gt zG) zH
 have k4':=ww k4
 have hmid:e.j7=e.use:=by unfold br.j7;rw[v6 n1,v6 n2,v6 n6,ut k4']
 refine(zY) ?_;refine zZ [(1,.ip (au e)),(3,.buf 1 0 1 (some 0)),(4,.ptr 2 0)] 0 rfl (gE @au.eq_1)<|(eQ @au.eq_1)<|(zK (AJ (ab e.u1) (ab e.u2) (ab e.u3) (ab e.u4) (ab e.u5) (ab e.u6)) (hfl:=.inr zr))<|(zR) ?_
 (repeat refine aE.seq ?_)
 refine aE.block (aE.loop (λm st=>∃k:Nat,k<=3/\m=3-k/\(0<k->jD e.u1 e.u2=true)/\(1<k->jD e.u3 e.u4=true)/\(2<k->jD e.u5 e.u6=true)/\st=⟨[(3,.buf 1 0 1 (some 0)),(4,.ptr 2 0),(73,.ag [.ip [ab e.u1,ab e.u2,ab e.u3,ab e.u4,ab e.u5,ab e.u6],.ip [ab e.u3,ab e.u4,ab e.u5,ab e.u6],.ip [ab e.u5,ab e.u6]]),(74,ab k)],111,[.gone,.cells [],.cells [ab 0,ab 0,ah [],ah e.kind,ah e.aT,ah e.slot,ah e.key,ah e.value,ab e.u1,ab e.u2,ab e.u3,ab e.u4,ab e.u5,ab e.u6]],[]⟩) 3 zH ⟨0,by omega,rfl,λh=>un h i4,λh=>un h i4,λh=>un h i4,rfl⟩ (by rintro m st ⟨k,_,_,_,_,_,rfl⟩;rfl) ?_);rintro m st ⟨k,hk,rfl,u1,u2,u3,rfl⟩;refine(zV) ?_;by_cases hlt:k<3;rotate_left
 ·obtain rfl:k=3:=by omega
  refine(fo)<|(aB (show di prog 88=some (.agg [.int .i64 0,.int .i64 0,.int .i64 0,.int .i64 0,.int .i64 0,.int .i64 0]) by simp only[aF])) ?_
  have hr:=hrest _ _ _ _ _ _ _ _ _ _ _ _ _ _ (show e.rest=_ by unfold br.rest;rw[v6 n1,v6 n2,v6 n6,ut k4']);refine .inl ⟨rfl,by rw[hmid,br.use,u1 i4,u2 i4,u3 i4];rfl,?_⟩;rw[hr,hnm];exact Fg.trans (Fg.freeze (f':=[(3,.sl 0 1 []),(4,.ptr 2 0)]) 1 rfl gt zG) zH
 rw[show decide ((k:Int)<3)=true by simp only[wp];omega]
 obtain⟨a,b,l,hab,hno,hyes⟩:∃(a b:Int) (l:List SV),([.ip [ab e.u1,ab e.u2,ab e.u3,ab e.u4,ab e.u5,ab e.u6],.ip [ab e.u3,ab e.u4,ab e.u5,ab e.u6],.ip [ab e.u5,ab e.u6]]:List SV)[k*1]?=some (.ip (ab a::ab b::l))/\(jD a b=false->e.use=false)/\(jD a b=true->(0<k+1->jD e.u1 e.u2=true)/\(1<k+1->jD e.u3 e.u4=true)/\(2<k+1->jD e.u5 e.u6=true)):=by
  have:k=0\/k=1\/k=2:=by omega
  rcases this with rfl | rfl | rfl
  ·exact⟨_,_,_,rfl,λh=>by rw[br.use,h];rfl,λh=>⟨λ_=>h,λh=>by omega,λh=>by omega⟩⟩
  ·exact⟨_,_,_,rfl,λh=>by rw[br.use,h,ce,cd],λh=>⟨λ_=>u1 i4,λ_=>h,λh=>by omega⟩⟩
  ·exact⟨_,_,_,rfl,λh=>by rw[br.use,h,cd,cd],λh=>⟨λ_=>u1 i4,λ_=>u2 i4,λ_=>h⟩⟩
 refine(fw)<|(zs) ?_;refine aE.r0 ii (by simp only[cY,bP,ao,aF,m7,m6,↓reduceIte,aa,ad,af,ac,aj,aq,aA,bD,hlt,hab];first | done | rfl) ?_
 cases c1:decide (a<0);rotate_left
 ·refine(zs) ?_;refine nw [0,1,3,7,15,31,63,127,255,511,63,1087,3135,7231,16383,32767,65535,131071,262143,524287,1048575,2097151,4194303] ?_;refine(uW c1)<|(zM)<|(cK) ?_;refine aE.ret ?_;refine .inr ⟨rfl,?_⟩;exact zO [.tmp 2] (hq:=by (try simp only[eC,bK]);first | done | (rw[hv,hmid,hno (by simp[jD,ww c1])];rfl))
 cases c2:decide (b<a);rotate_left
 ·refine(zs) ?_;refine nw [0,1,3,7,15,31,63,127,255,511,63,1087,3135,7231,16383,32767,65535,131071,262143,524287,1048575,2097151,4194303] ?_
  (repeat (first | refine SD.r ii rfl ii ii (by simp only[cY,bP,ao,aF,m7,m6,↓reduceIte,aa,ad,af,ac,aj,aq,aA,bD,c1,c2];first | done | rfl) ?_ | refine SD.s ii rfl ii ii ?_ | fail))
  refine(zM)<|(cK) ?_;refine aE.ret ?_;refine .inr ⟨rfl,?_⟩;exact zO [.tmp 2] (hq:=by (try simp only[eC,bK]);first | done | (rw[hv,hmid,hno (by simp[jD,ww c2])];rfl))
 cases c3:decide (1000000<b);rotate_left
 ·refine(zs) ?_;refine nw [0,1,3,7,15,31,63,127,255,511,63,1087,3135,7231,16383,32767,65535,131071,262143,524287,1048575,2097151,4194303] ?_;refine(uW (cJ c1 c2 c3))<|(zM)<|(cK) ?_;refine aE.ret ?_;refine .inr ⟨rfl,?_⟩;exact zO [.tmp 2] (hq:=by (try simp only[eC,bK]);first | done | (rw[hv,hmid,hno (by simp[jD,ww c3])];rfl))
 refine(zs) ?_;refine nw [0,1,3,7,15,31,63,127,255,511,63,1087,3135,7231,16383,32767,65535,131071,262143,524287,1048575,2097151,4194303] ?_;refine(uW (cJ c1 c2 c3))<|(zM)<|(zN) ?_
 obtain⟨y1,y2,y3⟩:=hyes (by rw[jD,c1,c2,c3];rfl);refine(aB (BM (show -9223372036854775808<=(k:Int)+1/\(k:Int)+1<=9223372036854775807 from⟨by omega,by omega⟩))) ?_;refine⟨3-(k+1),_,by omega,zH,k+1,by omega,rfl,y1,y2,y3,rfl⟩
structure bC where
 key:List Nat
 value:List Nat
structure ak where
 name:List Nat
 kind:List Nat
 aT:List Nat
 slot:List Nat
 made:Int
 since:Int
 bq:Bool
 props:List bC
 l1:Int
 l2:Int
 l3:Int
 l4:Int
 l5:Int
 l6:Int
def aI(p:bC):List SV:=[ah p.key,ah p.value]
def ae(p:ak):List SV:=[ah p.name,ah p.kind,ah p.aT,ah p.slot,ab p.made,ab p.since,an p.bq,ao 2 p.props aI,ab p.l1,ab p.l2,ab p.l3,ab p.l4,ab p.l5,ab p.l6]
def ak.zero:ak:=⟨[],[],[],[],0,0,false,[],0,0,0,0,0,0⟩
def eu:List (List Nat)->Bool
 | a::b::r=>fF a b&&eu (b::r)
 | _=>true
def z6:∀{l:List (List Nat)},(∀(i:Nat) a b,l[i]?=some a->l[i+1]?=some b->fF a b=true)->eu l=true
 | [],_=>rfl
 | [_],_=>rfl
 | a::b::r,h=>by
  rw[eu,h 0 a b rfl rfl,c6];exact z6 λi x y h1 h2=>h (i+1) x y h1 h2
def DT:∀{l:List (List Nat)} {i:Nat} {a b:List Nat},l[i]?=some a->l[i+1]?=some b->fF a b=false->eu l=false
 | [],i,_,_,h,_,_=>by simp at h
 | [_],i,_,_,_,h,_=>by simp at h
 | x::y::r,0,a,b,h1,h2,h3=>by cases h1;cases h2;rw[eu,h3];rfl
 | x::y::r,i+1,a,b,h1,h2,h3=>by
  rw[eu,DT (l:=y::r) (i:=i) h1 h2 h3,cd]
variable{i:Nat}
def qL{β:Type}{f:α->β}{b:β}(h:(l.map f)[i]?=some b):∃a,l[i]?=some a/\f a=b:=by
 rw[ax] at h;obtain⟨a,h1,h2⟩:=az h;exact⟨a,h1,h2⟩
def uJ(s:List Nat):PC prog 261 [.ag (ah s::ch 1 .any)] (·=ah s):=by
 refine pB 5 Tryz.func261 ?_;refine(aB Pf)<|(zV)<|(zE) ?_;exact BJ.of (rs:=[.tmp 2]) rfl rfl zl (Wk.refl rfl) zq
def EC(l:List bC)(hlen:l.length<=1000000):PC prog 260 [ao 2 l aI,.fn 261 [] []] (·=an (eu (l.map bC.key))):=by
 refine pB 26 Tryz.func260 ?_;refine(nD) ?_
 (repeat refine aE.seq ?_)
 refine aE.block (aE.loop (λm st=>∃k:Nat,1<=k/\m=l.length-k/\(∀(i:Nat) a b,i+1<k->l[i]?=some a->l[i+1]?=some b->fF a.key b.key=true)/\st=⟨[(0,ao 2 l aI),(1,.fn 261 [] []),(5,ab k)],26,[],[]⟩) (l.length-1) zH ⟨1,by omega,rfl,λi a b h=>un h i4,rfl⟩ (by rintro m st ⟨k,_,_,_,rfl⟩;rfl) ?_);rintro m st ⟨k,hk,rfl,hall,rfl⟩;refine(zV) ?_;by_cases hlt:k<l.length;rotate_left
 ·rw[show decide ((k:Int)<(l.length:Int))=false by simp only[wn];omega]
  refine(fo)<|(zV) ?_
  exact zo [.tmp 4] (hq:=by rw[z6 λi a b h1 h2=>by
   obtain⟨x,hx,rfl⟩:=qL h1;obtain⟨y,hy,rfl⟩:=qL h2
   exact hall i x y (by have:=bo hy;omega) hx hy])
 rw[show decide ((k:Int)<(l.length:Int))=true by simp only[wp];omega];obtain⟨j,rfl⟩:∃j,k=j+1:=⟨k-1,by omega⟩;obtain⟨x,hx⟩:∃x,l[j]?=some x:=⟨l[j],jp i4⟩;obtain⟨y,hy⟩:∃y,l[j+1]?=some y:=⟨l[j+1],jp hlt⟩
 have hj:j<l.length:=by omega
 refine(fw)<|(zs) ?_;refine nw [0,0,0,4,14,30,63,0,0,0,768,1792,4095,8191] ?_
 (repeat (first | refine SD.r ii rfl ii ii (pz (kY (bS (((j+1:Nat):Int)) 1 i4) (show((j+1:Nat):Int)-1=(j:Int) from by omega) hj (aL (e:=2) (enc:=aI) gc hx) @aI.eq_1)) ?_ | refine SD.s ii rfl ii ii ?_ | fail))
 refine SD.k ii rfl rfl ii rfl rfl zc (uJ x.key) (.cons (.ag (.cons (.a _) (.cons (.any _) .nil))) .nil) rfl ?_;refine(uW (cJ hlt (aL (e:=2) (enc:=aI) gc hy) @aI.eq_1)) ?_;refine SD.k ii rfl rfl ii rfl rfl zc (uJ y.key) (.cons (.ag (.cons (.a _) (.cons (.any _) .nil))) .nil) rfl ?_;refine(uW @yp)<|(zM) ?_
 cases g:fF x.key y.key
 ·exact(cK)<|zo [.tmp 4] (hq:=by rw[DT (i:=j) (a:=x.key) (b:=y.key) (by rw[ax,hx];rfl) (by rw[ax,hy];rfl) g])
 ·refine(zN)<|(zs) ?_;refine aE.r0 ii (pz (bA (((j+1:Nat):Int)) 1 i4)) ?_;refine⟨l.length-(j+1+1),_,by omega,zH,j+1+1,by omega,rfl,?_,rfl⟩
  intro i a b hi ha hb;by_cases hij:i=j
  ·subst hij;rw[hx] at ha;rw[hy] at hb;cases ha;cases hb;exact g
  ·exact hall i a b i4 ha hb
def uI(s:List Nat):PC prog 187 [.ag (ah s::ch 13 .any)] (·=ah s):=by
 refine pB 5 Tryz.func187 ?_;refine(aB Pf)<|(zV)<|(zE) ?_;exact BJ.of (rs:=[.tmp 2]) rfl rfl zl (Wk.refl rfl) zq
def EB(l:List ak)(hlen:l.length<=1000000):PC prog 186 [ao 14 l ae,.fn 187 [] []] (·=an (eu (l.map ak.name))):=by
 refine pB 26 Tryz.func186 ?_;refine(nD) ?_
 (repeat refine aE.seq ?_)
 refine aE.block (aE.loop (λm st=>∃k:Nat,1<=k/\m=l.length-k/\(∀(i:Nat) a b,i+1<k->l[i]?=some a->l[i+1]?=some b->fF a.name b.name=true)/\st=⟨[(0,ao 14 l ae),(1,.fn 187 [] []),(5,ab k)],26,[],[]⟩) (l.length-1) zH ⟨1,by omega,rfl,λi a b h=>un h i4,rfl⟩ (by rintro m st ⟨k,_,_,_,rfl⟩;rfl) ?_);rintro m st ⟨k,hk,rfl,hall,rfl⟩;refine(zV) ?_;by_cases hlt:k<l.length;rotate_left
 ·rw[show decide ((k:Int)<(l.length:Int))=false by simp only[wn];omega]
  refine(fo)<|(zV) ?_
  exact zo [.tmp 4] (hq:=by rw[z6 λi a b h1 h2=>by
   obtain⟨x,hx,rfl⟩:=qL h1;obtain⟨y,hy,rfl⟩:=qL h2
   exact hall i x y (by have:=bo hy;omega) hx hy])
 rw[show decide ((k:Int)<(l.length:Int))=true by simp only[wp];omega];obtain⟨j,rfl⟩:∃j,k=j+1:=⟨k-1,by omega⟩;obtain⟨x,hx⟩:∃x,l[j]?=some x:=⟨l[j],jp i4⟩;obtain⟨y,hy⟩:∃y,l[j+1]?=some y:=⟨l[j+1],jp hlt⟩
 have hj:j<l.length:=by omega
 refine(fw)<|(zs) ?_;refine nw [0,0,0,4,14,30,63,0,0,0,768,1792,4095,8191] ?_
 (repeat (first | refine SD.r ii rfl ii ii (pz (kY (bS (((j+1:Nat):Int)) 1 i4) (show((j+1:Nat):Int)-1=(j:Int) from by omega) hj (aL (e:=14) (enc:=ae) gc hx) @ae.eq_1)) ?_ | refine SD.s ii rfl ii ii ?_ | fail))
 refine SD.k ii rfl rfl ii rfl rfl zc (uI x.name) (.cons (.ag (.cons (.a _) (.cons (.any _) (.cons (.any _) (.cons (.any _) (.cons (.any _) (.cons (.any _) (.cons (.any _) (.cons (.any _) (.cons (.any _) (.cons (.any _) (.cons (.any _) (.cons (.any _) (.cons (.any _) (.cons (.any _) .nil))))))))))))))) .nil) rfl ?_;refine(uW (cJ hlt (aL (e:=14) (enc:=ae) gc hy) @ae.eq_1)) ?_;refine SD.k ii rfl rfl ii rfl rfl zc (uI y.name) (.cons (.ag (.cons (.a _) (.cons (.any _) (.cons (.any _) (.cons (.any _) (.cons (.any _) (.cons (.any _) (.cons (.any _) (.cons (.any _) (.cons (.any _) (.cons (.any _) (.cons (.any _) (.cons (.any _) (.cons (.any _) (.cons (.any _) .nil))))))))))))))) .nil) rfl ?_;refine(uW @yp)<|(zM) ?_
 cases g:fF x.name y.name
 ·exact(cK)<|zo [.tmp 4] (hq:=by rw[DT (i:=j) (a:=x.name) (b:=y.name) (by rw[ax,hx];rfl) (by rw[ax,hy];rfl) g])
 ·refine(zN)<|(zs) ?_;refine aE.r0 ii (pz (bA (((j+1:Nat):Int)) 1 i4)) ?_;refine⟨l.length-(j+1+1),_,by omega,zH,j+1+1,by omega,rfl,?_,rfl⟩
  intro i a b hi ha hb;by_cases hij:i=j
  ·subst hij;rw[hx] at ha;rw[hy] at hb;cases ha;cases hb;exact g
  ·exact hall i a b i4 ha hb
def Hl{l:List (List Nat×Int)}(s:List Nat)(ok:Bool)(hS:S[o]?=some (bG AV.str ab l)):jm prog S 118 (.map o) (.a (.str s)) ok=some (cond ok (.cx [ab (getM 0 s l),an (dA s l)]) (ab (getM 0 s l))):=
 OC (uv:=ab) (u0:=0) (k:=s) (kt:=9) (et:=3) (z:=.int .i64 0) (by simp only[aF]) mr (by simp only[aF]) rfl hS rfl ok
def JG{l:List (List Nat×Int)}(s:List Nat)(u:Int)(hS:S[o]?=some (bG AV.str ab l)):iF prog S 118 (.map o) (.a (.str s)) (.a (.int .i64 u))=some (S.set o (bG AV.str ab (cC s u l))):=
 IW (uv:=ab) (kt:=9) (et:=3) (by simp only[aF]) mr hS rfl u
def wK{S:List SO}{l:List (List Nat×Int)}(s:List Nat)(ok:Bool):jm prog S 118 (mc AV.str ab l) (.a (.str s)) ok=some (cond ok (.cx [ab (getM 0 s l),an (dA s l)]) (ab (getM 0 s l))):=
 Sb (uv:=ab) (u0:=0) (k:=s) (kt:=9) (et:=3) (z:=.int .i64 0) (by simp only[aF]) mr (by simp only[aF]) rfl rfl ok
def nv:Nat->List (List Nat×Int)->List ak->List (List Nat×Int)
 | _,m,[]=>m
 | i,m,p::ps=>nv (i+1) (if dA p.name m=true then m else cC p.name i m) ps
def CO(ps:List ak):SV:=.ag [ao 14 ps ae,mc AV.str ab (nv 0 [] ps)]
def rW(ps:List ak)(hlen:ps.length<=1000000):PC prog 55 [.ag [ao 14 ps ae]] (·=CO ps):=by
 refine pB 37 Tryz.func55 ?_;refine(nD)<|(zV)<|(zs) ?_;refine BF ps (λk (m0:List (List Nat×Int))=>nv 0 [] ps=nv k m0 (ps.drop k)) (λk m0=>[(2,.ptr 1 0),(3,.ptr 3 0),(13,ao 14 ps ae),(14,ab ps.length),(15,ab k)]) (λk m0=>[.gone,.cells [.a (.slice none 0 0 (some 0)),.a (.map none)],bG AV.str ab m0,.cells [ao 14 ps ae,.map 2]]) ([]) zH ii ?_;intro k m0 hk hall;refine zT ps k ?_ ?_;rintro rfl;rotate_left;intro x hx hlt;rotate_left
 ·exact(fo)<|(zV)<|zo [.cell 2 120] (r:=.ag [ao 14 ps ae,mc AV.str ab m0]) (hw:=Wk.ag (.cons (.sl _ _ _) (.cons (mu (λ_=>rfl) rfl) .nil))) (hq:=by rw[CO,hall,bv];rfl)
 rw[eZ hx] at hall
 refine(fw)<|(aB (fk hlt (aL (e:=14) (enc:=ae) gc hx) @ae.eq_1 @S8))<|(zs) ?_;refine aE.r0 ii (by simp only[cY,bP,ao,aF,m7,m6,↓reduceIte,aa,ad,af,ac,aj,aq,aA,bD,Hl (l:=m0)];first | done | rfl) ?_;refine(zV) ?_
 cases h1:dA x.name m0
 ·refine(zY)<|(zs) ?_;refine aE.r0 ii (by simp only[cY,bP,ao,aF,m7,m6,↓reduceIte,aa,ad,af,ac,aj,aq,aA,bD,JG (l:=m0)];first | done | rfl) ?_;refine(aB (zi hlt hlen)) ?_;refine pw hlt (cC x.name (k:Int) m0) zH (show nv 0 [] ps=nv (k+1) (cC x.name (k:Int) m0) (ps.drop (k+1)) by rw[hall,nv,h1];rfl)
 ·refine(zN)<|(aB (zi hlt hlen)) ?_;refine pw hlt (m0) zH (show nv 0 [] ps=nv (k+1) m0 (ps.drop (k+1)) by rw[hall,nv,ut h1])
def pO(ps:List ak)(m:List (List Nat×Int))(name:List Nat):Option ak:=if dA name m=true then ps[(getM 0 name m).toNat]? else none
def Sz(ps:List ak)(m:List (List Nat×Int)):Prop:=∀name,dA name m=true->∃k:Nat,getM 0 name m=(k:Int)/\k<ps.length
def nr(ps:List ak)(m:List (List Nat×Int))(name:List Nat)(hm:Sz ps m):PC prog 113 [.ag [ao 14 ps ae,mc AV.str ab m],ah name] (·=jf ae ak.zero (pO ps m name)):=by
 refine pB 23 Tryz.func113 ?_;refine(zV)<|(aB @wK)<|(zV) ?_
 cases h1:dA name m
 ·exact(cK)<|kn [.cell 4 56,.tmp 5] (r:=.cx [.ag [ah [],ah [],ah [],ah [],ab 0,ab 0,an false,.sl 0 2 [],ab 0,ab 0,ab 0,ab 0,ab 0,ab 0],an false]) (hw:=zv) (hq:=by rw[pO,h1];rfl)
 obtain⟨k,hk,hlt⟩:=hm name h1;obtain⟨x,hx⟩:∃x,ps[k]?=some x:=⟨ps[k],jp hlt⟩
 exact(zN)<|(aB (fk hk hlt (aL (e:=14) (enc:=ae) gc hx) @ae.eq_1))<|kn [.cell 4 56,.tmp 5] (hq:=by rw[pO,ut h1,hk,Int.toNat_natCast,hx];rfl)
def C3:∀{ps l:List ak} {i:Nat} {m:List (List Nat×Int)},i+ps.length=l.length->Sz l m->Sz l (nv i m ps)
 | [],_,_,_,_,h=>h
 | p::ps,l,i,m,hl,h=>by
  rw[nv];refine C3 (by rw[i7] at hl;omega) ?_;split
  ·exact h
  ·intro name hn;by_cases e:name=p.name
   ·subst e;exact⟨i,by rw[ll,ut rfl],by rw[i7] at hl;omega⟩
   ·rw[qN,wd e,cv] at hn;rw[ll,v6 e];exact h name hn
def r7(a b:Int):Bool:=decide (0<=a)&&(decide (a<=b)&&decide (b<=1000000000000))
def nU(x:bC):Bool:=cN x.key&&(!(decide (x.value=[]))&&decide ((x.value.length:Int)<=200))
def Ax(a b:Int):PC prog 258 [.ag [ab a,ab b]] (·=an (r7 a b)):=by
 refine pB 18 Tryz.func258 ?_;refine(zV) ?_;cases h1:decide (0<=a)
 ·exact(aB h1)<|zo [.tmp 2] (hq:=by rw[r7,h1];rfl)
 cases h2:decide (a<=b)
 ·exact(aB (bm h1 h2))<|zo [.tmp 2] (hq:=by rw[r7,h1,h2];rfl)
 ·exact(aB (bm h1 h2))<|zo [.tmp 2] (hq:=by rw[r7,h1,h2];rfl)
def MS(x:bC)(hx:fj x.key):PC prog 259 [.ag (aI x)] (·=an (nU x)):=by
 refine pB 17 Tryz.func259 ?_;refine(aB @aI.eq_1)<|(zC)<|(zK (dZ x.key hx)) ?_
 cases h1:cN x.key
 ·exact(zR)<|zo [.tmp 2] (hq:=by rw[nU,h1];rfl)
 cases h2:decide (x.value=[]);rotate_left
 ·exact(cM h2)<|zo [.tmp 2] (hq:=by rw[nU,h1,h2];rfl)
 ·exact(cM h2)<|zo [.tmp 2] (hq:=by rw[nU,h1,h2];rfl)
structure fz (p:ak):Prop where
 name:fj p.name
 kind:fj p.kind
 aT:fj p.aT
 slot:fj p.slot
 len:p.props.length<=1000000
 prop:∀x∈p.props,fj x.key/\fj x.value
def dJ(c:List aM)(p:ak):Bool:=(dF c p.kind).isSome&&(cN p.name&&(!(decide (p.made<0))&&(!(decide (p.since<p.made))&&(!(decide (40000<p.since))&&(!(decide (60<(p.props.length:Int)))&&(p.props.all nU&&(eu (p.props.map bC.key)&&(r7 p.l1 p.l2&&(r7 p.l3 p.l4&&r7 p.l5 p.l6)))))))))
def Nk{p:α->Bool}{x:α}(h:l[k]?=some x):(l.drop k).all p=(p x&&(l.drop (k+1)).all p):=by rw[eZ h,List.all_cons]
def JI(c:List aM)(p:ak)(hc:c.length<=1000000)(hp:fz p):PC prog 188 [.ag [ao 3 c ar],.ag (ae p)] (·=an (dJ c p)):=by
 have hlen:=hp.len;refine pB 85 Tryz.func188 ?_
 obtain⟨q,b,h1,hb⟩:∃(q:aM) (b:Bool),jf ar aM.zero (dF c p.kind)=.cx [.ag (ar q),an b]/\(dF c p.kind).isSome=b:=by
  cases hf:dF c p.kind with
  | none=>exact⟨aM.zero,false,rfl,rfl⟩
  | some q=>exact⟨q,true,rfl,rfl⟩
 have hF:=kP c p.kind hc;rw[h1] at hF
 refine(aB @ae.eq_1)<|(nD)<|(zC)<|(zK hF (hfl:=.inr zr))<|(cM @ar.eq_1) ?_
 cases b
 ·exact(xw)<|(zV)<|zo [.tmp 4] (hq:=by rw[dJ,hb];rfl)
 refine(zC)<|(zK (dZ p.name hp.name)) ?_
 cases h2:cN p.name
 ·exact(zR)<|(cK)<|zo [.tmp 4] (hq:=by rw[dJ,hb,h2];rfl)
 cases h3:decide (p.made<0);rotate_left
 ·exact(cM h3)<|(cK)<|zo [.tmp 4] (hq:=by rw[dJ,hb,h2,h3];rfl)
 cases h4:decide (p.since<p.made);rotate_left
 ·exact(cM (bm h3 h4))<|(cK)<|zo [.tmp 4] (hq:=by rw[dJ,hb,h2,h3,h4];rfl)
 cases h5:decide (40000<p.since);rotate_left
 ·exact(cM (cJ h3 h4 h5))<|(cK)<|zo [.tmp 4] (hq:=by rw[dJ,hb,h2,h3,h4,h5];rfl)
 cases h6:decide (60<(p.props.length:Int));rotate_left
 ·exact(cM (fk h3 h4 h5 h6))<|(cK)<|zo [.tmp 4] (hq:=by rw[dJ,hb,h2,h3,h4,h5,h6];rfl)
 refine(cM (fk h3 h4 h5 h6))<|(zN) ?_
 have hv:dJ c p=(p.props.all nU&&(eu (p.props.map bC.key)&&(r7 p.l1 p.l2&&(r7 p.l3 p.l4&&r7 p.l5 p.l6)))):=by rw[dJ,hb,h2,h3,h4,h5,h6];rfl
 refine(zV)<|(zs) ?_;refine zL p.props (λk=>p.props.all nU=(p.props.drop k).all nU) (λk=>[(3,.ptr 1 0),(5,.fn 258 [] []),(6,.fn 259 [] []),(50,ao 2 p.props aI),(51,ab p.props.length),(52,ab k)]) (λk=>[.gone,.cells (ae p)]) (cg @ae.eq_1) ii ?_;intro k hk hall;refine zT p.props k ?_ ?_;rintro rfl;rotate_left;intro x hx hlt;rotate_left
 ·refine(fo) ?_;rw[bv] at hall
  refine(eQ @ae.eq_1)<|(zK (EC p.props hlen)) ?_
  cases g1:eu (p.props.map bC.key)
  ·exact(zR)<|zo [.tmp 4] (hq:=by rw[hv,hall,g1];rfl)
  refine(zQ)<|(zK (Ax p.l1 p.l2)) ?_
  cases g2:r7 p.l1 p.l2
  ·exact(zR)<|zo [.tmp 4] (hq:=by rw[hv,hall,g1,g2];rfl)
  refine(zQ)<|(zK (Ax p.l3 p.l4)) ?_
  cases g3:r7 p.l3 p.l4
  ·exact(zR)<|zo [.tmp 4] (hq:=by rw[hv,hall,g1,g2,g3];rfl)
  exact(zQ)<|(zK (Ax p.l5 p.l6))<|(zR)<|zo [.tmp 4] (hq:=by rw[hv,hall,g1,g2,g3];rfl)
 rw[Nk hx] at hall
 refine(fw)<|(aB (fk hlt (aL (e:=2) (enc:=aI) gc hx) @aI.eq_1 @ae.eq_1))<|(zC)<|(zK (MS x (hp.prop x (mem_iff_getElem?.2 ⟨k,hx⟩)).1)) ?_
 cases g1:nU x
 ·exact(zR)<|(cK)<|zo [.tmp 4] (hq:=by rw[hv,hall,g1];rfl)
 ·refine(zR)<|(zN)<|(aB (zi hlt hlen)) ?_;refine zX hlt (cg @ae.eq_1) (show p.props.all nU=(p.props.drop (k+1)).all nU by rw[hall,g1];rfl)
structure fQ where
 aT:List Nat
 slot:List Nat
 deriving DecidableEq
def fQ.av(s:fQ):List AV:=[.str s.aT,.str s.slot]
def Aj(s:fQ):AV:=.agg s.av
def fQ.eq(a b:fQ):fY eG a.av b.av=decide (a=b):=by
 obtain⟨a1,a2⟩:=a;obtain⟨b1,b2⟩:=b;simp only[fQ.av,fY,eG,lH,ct,fQ.mk.injEq,er]
def AL:Keys prog 248 Aj:=
 vw (ks:=[.s,.s]) zW (by simp only[aF,m6]) (λ_=>rfl) fQ.eq λ_=>rfl
def sA{l:List (fQ×Bool)}(a b:List Nat)(ok:Bool)(hS:S[o]?=some (bG Aj an l)):jm prog S 245 (.map o) (.ag [ah a,ah b]) ok=some (cond ok (.cx [an (getM false (⟨a,b⟩:fQ) l),an (dA (⟨a,b⟩:fQ) l)]) (an (getM false (⟨a,b⟩:fQ) l))):=
 OC (uv:=an) (u0:=false) (k:=(⟨a,b⟩:fQ)) (kt:=248) (et:=4) (z:=.bool false) (by simp only[aF]) AL (by simp only[aF]) rfl hS rfl ok
def EH{l:List (fQ×Bool)}(a b:List Nat)(u:Bool)(hS:S[o]?=some (bG Aj an l)):iF prog S 245 (.map o) (.ag [ah a,ah b]) (.a (.bool u))=some (S.set o (bG Aj an (cC (⟨a,b⟩:fQ) u l))):=
 IW (uv:=an) (k:=(⟨a,b⟩:fQ)) (kt:=248) (et:=4) (by simp only[aF]) AL hS rfl u
def oU{n:Nat}{l:List (fQ×Bool)}:bW n (bG Aj an l)=bG Aj an l:=mD λ_=>ml _
def CK(a b:Bool):c8 prog .neq 4 (.bool a) (.bool b)=some (.bool (!(a==b))):=by
 have h1:prog.eqGuardType prog.depth 4=false:=by kernel_rfl
 have h2:prog.underlying 4=some .bool:=by kernel_rfl
 have h3:lG prog 8 4 (.bool a) (.bool b)=some (a==b):=by unfold lG;rw[h2]
 show cond (prog.eqGuardType prog.depth 4) none ((lG prog 8 4 (.bool a) (.bool b)).map λb=>AV.bool (!b))=_;rw[h1,aA,h3];rfl
def si(c:List aM)(taken:List (fQ×Bool))(p:ak):Option ak->Bool
 | some h=>!(p.bq||(h.bq||(getM false ⟨p.aT,p.slot⟩ taken||!lR c h.kind p.slot p.kind)))
 | none=>false
def fh(c:List aM)(ps:List ak)(m:List (List Nat×Int)):List (fQ×Bool)->List ak->Bool
 | _,[]=>true
 | taken,p::r=>dJ c p&&((decide (p.aT=[])==decide (p.slot=[]))&&cond (decide (p.aT=[])) (fh c ps m taken r) (si c taken p (pO ps m p.aT)&&fh c ps m (cC ⟨p.aT,p.slot⟩ true taken) r))
def dM(c:List aM)(ps:List ak):Bool:=oJ c&&(!(decide (20000<(ps.length:Int)))&&(eu (ps.map ak.name)&&fh c ps (nv 0 [] ps) [] ps))
def EW(ps:List ak):Sz ps []:=λname h=>by cases h
def HB(c:List aM)(ps:List ak)(hc:mI c)(hlen:ps.length<=1000000)(hps:∀p∈ps,fz p):PC prog 107 [.ag [ao 3 c ar],.ag [ao 14 ps ae]] (·=an (Proofs.dM c ps)):=by
 have hct:∀k∈c,k.bN.length<=1000000/\∀s∈k.bN,s.kinds.length<=1000000:=λk hk=>⟨(hc.kind k hk).2,λs hs=>(hc.slot k hk s hs).2⟩;have hy:Sz ps (nv 0 [] ps):=C3 i4 (EW ps)
 refine pB 94 Tryz.func107 ?_;refine(jC)<|(zK (og c hc)) ?_
 cases h1:oJ c
 ·exact(zR)<|(cK)<|zo [.tmp 4] (hq:=by rw[Proofs.dM,h1];rfl)
 cases h2:decide (20000<(ps.length:Int));rotate_left
 ·exact(cM h2)<|(cK)<|zo [.tmp 4] (hq:=by rw[Proofs.dM,h1,h2];rfl)
 refine(MY h2)<|(zK (EB ps hlen)) ?_
 cases h3:eu (ps.map ak.name)
 ·exact(zR)<|(cK)<|zo [.tmp 4] (hq:=by rw[Proofs.dM,h1,h2,h3];rfl)
 refine(zR)<|(zN) ?_
 have hv:Proofs.dM c ps=fh c ps (nv 0 [] ps) [] ps:=by rw[Proofs.dM,h1,h2,h3];rfl
 clear h1 h2 h3
 refine(zC)<|(zK (rW ps hlen) (hfl:=.inr zr)) ?_
 generalize hM:nv 0 [] ps=M at hv hy
 refine(cM (bm @CO.eq_1 hM))<|(nD)<|(zs) ?_;refine BF ps (λk (taken:List (fQ×Bool))=>fh c ps M [] ps=fh c ps M taken (ps.drop k)) (λk taken=>[(2,.ptr 0 0),(5,.ptr 2 0),(6,.map 3),(31,ao 14 ps ae),(32,ab ps.length),(33,ab k)]) (λk taken=>[.cells [ao 3 c ar],.gone,.cells [ao 14 ps ae,mc AV.str ab M],bG Aj an taken]) ([]) zH ii ?_;intro k taken hk hall;refine zT ps k ?_ ?_;rintro rfl;rotate_left;intro p hx hlt;rotate_left
 ·exact(fo)<|(zV)<|zo [.tmp 4] (hq:=by rw[hv,hall,bv];rfl)
 have no:fh c ps M taken (ps.drop k)=false->Proofs.dM c ps=false:=λh=>by rw[hv,hall,h]
 rw[eZ hx] at no hall;have hp:=hps p (mem_iff_getElem?.2 ⟨k,hx⟩)
 refine(fw)<|(aB (fk hlt (aL (e:=14) (enc:=ae) gc hx) @ae.eq_1 @oU))<|(zC)<|(zK (JI c p hc.len hp)) ?_
 cases g1:dJ c p
 ·exact(zR)<|(cK)<|zo [.tmp 4] (hq:=by rw[no (by simp[fh,g1])])
 cases g2:(decide (p.aT=[])==decide (p.slot=[]))
 ·exact(cM (bm @CK g2))<|(cK)<|zo [.tmp 4] (hq:=by rw[no (by simp only[fh,g1,g2,c6,ce])])
 refine(cM (bm @CK g2))<|(lD) ?_
 cases g3:decide (p.aT=[]);rotate_left
 ·refine(zY) ?_;refine aE.exit ?_
  (try change aE _ _ _ _ _)
  refine(aB (zi hlt hlen)) ?_;refine pw hlt (taken) zH (show fh c ps M [] ps=fh c ps M taken (ps.drop (k+1)) by rw[hall,fh,g1,g2,g3];rfl)
 refine(zN) ?_
 have hpv:∀r,fh c ps M taken (p::r)=(si c taken p (pO ps M p.aT)&&fh c ps M (cC ⟨p.aT,p.slot⟩ true taken) r):=by intro r;rw[fh,g1,g2,g3];rfl
 rw[hpv] at no hall;refine(zC) ?_;have hG:=nr ps M p.aT hy
 cases hg:pO ps M p.aT with
 | none=>
  rw[hg] at hG no
  exact(zK hG (hfl:=.inr zr))<|(cM (fk @jf.eq_1 @ae.eq_1 @ak.zero.eq_1 @oU))<|(aB @oU)<|(xw)<|(zV)<|zo [.tmp 4] (hq:=by rw[no rfl])
 | some h=>
  rw[hg] at hG no hall
  refine(zK hG (hfl:=.inr zr))<|(cM (cJ @jf.eq_1 @ae.eq_1 @oU))<|(aB @oU) ?_
  cases f1:p.bq;rotate_left
  ·exact(xw)<|(zV)<|zo [.tmp 4] (hq:=by rw[no (by simp[si,f1])])
  cases f2:h.bq;rotate_left
  ·exact(xw)<|(zV)<|zo [.tmp 4] (hq:=by rw[no (by simp[si,f2])])
  cases f3:getM false (⟨p.aT,p.slot⟩:fQ) taken;rotate_left
  ·refine(zs) ?_;refine aE.r0 ii (by simp only[cY,bP,ao,aF,m7,m6,↓reduceIte,aa,ad,af,ac,aj,aq,aA,bD,sA (l:=taken),f3];first | done | rfl) ?_;exact(cK)<|zo [.tmp 4] (hq:=by rw[no (by simp[si,f3])])
  refine(zs) ?_;refine aE.Si ii (by simp only[cY,bP,ao,aF,m7,m6,↓reduceIte,aa,ad,af,ac,aj,aq,aA,bD,sA (l:=taken),f3];first | done | rfl) ?_;refine(zK (wW c h.kind p.slot p.kind hc.len hct)) ?_;cases f4:Proofs.lR c h.kind p.slot p.kind
  ·exact(zR)<|(cK)<|zo [.tmp 4] (hq:=by rw[no (by simp[si,f4])])
  refine(zR)<|(zN)<|(zs) ?_;refine aE.r0 ii (by simp only[cY,bP,ao,aF,m7,m6,↓reduceIte,aa,ad,af,ac,aj,aq,aA,bD,EH (l:=taken)];first | done | rfl) ?_;refine(aB (zi hlt hlen)) ?_;refine pw hlt (cC ⟨p.aT,p.slot⟩ true taken) zH (show fh c ps M [] ps=fh c ps M (cC ⟨p.aT,p.slot⟩ true taken) (ps.drop (k+1)) by rw[hall,show si c taken p (some h)=true by simp[si,f1,f2,f3,f4]];rfl)
def yh(a b:Int):Int:=dO .i64 (a+b)
def uB(a b:Int):Int:=dO .i64 (a-b)
def Mc(a:Int):Int:=dO .i64 (0-a)
def ti{P:Program}{t:TypeId}(a b:Int):c8 P .add t (.int .i64 a) (.int .i64 b)=some (.int .i64 (yh a b)):=rfl
def oI{P:Program}{t:TypeId}(a b:Int):c8 P .sub t (.int .i64 a) (.int .i64 b)=some (.int .i64 (uB a b)):=rfl
def ly(a b:Int):SV:=.ag [ab a,ab b]
def mU(a b:Int):Bool:=decide (-1000000000000<=a)&&(decide (a<=b)&&decide (b<=1000000000000))
def pk(a b:Int):PC prog 221 [ly a b] (·=an (mU a b)):=by
 refine pB 18 Tryz.func221 ?_;refine(aB @ly.eq_1) ?_;cases h1:decide (-1000000000000<=a)
 ·exact(aB h1)<|zo [.tmp 2] (hq:=by rw[mU,h1];rfl)
 cases h2:decide (a<=b)
 ·exact(aB (bm h1 h2))<|zo [.tmp 2] (hq:=by rw[mU,h1,h2];rfl)
 exact(aB (bm h1 h2))<|zo [.tmp 2] (hq:=by rw[mU,h1,h2];rfl)
def ff(a b:Int):Int:=if a<=b then a else b
def dV(a b:Int):Int:=if b<=a then a else b
def jo(a b:Int):zF false (.int .i64 a) (.int .i64 b)=some (.int .i64 (ff a b)):=OF
def fp(a b:Int):zF true (.int .i64 a) (.int .i64 b)=some (.int .i64 (dV a b)):=OE
def Ry(n:Int):Int:=dV (-1000000000000) (ff n 1000000000000)
def q9(n:Int):PC prog 268 [ab n] (·=ab (Ry n)):=by
 refine pB 6 Tryz.func268 ?_;exact(zV)<|(aB (bm @jo @fp))<|zo [.tmp 2]
def gH(a b:Int):Int:=Ry (yh a b)
def DH(a b:Int):Int:=Ry (uB a b)
def MR(a b:Int):PC prog 202 [ab a,ab b] (·=ab (gH a b)):=by
 refine pB 9 Tryz.func202 ?_;exact(zV)<|(eQ @ti)<|(zK (q9 _))<|(zR)<|zo [.tmp 4]
def Jz(a b:Int):PC prog 353 [ab a,ab b] (·=ab (DH a b)):=by
 refine pB 9 Tryz.func353 ?_;refine(zV)<|(eQ @oI)<|(zK (q9 _))<|(zR)<|(zE) ?_;exact BJ.of (rs:=[.tmp 4]) rfl rfl zl (Wk.refl rfl) zq
def BX{f:Int->Int->Int}{r:List Int}{j:Nat}{x y:Int}(h:r[j]?=some x):(r.take (j+1)).foldl f y=f ((r.take j).foldl f y) x:=by
 rw[List.take_add_one,h,Option.toList_some,List.foldl_append];rfl
def RZ (h:p:=by
  refine pB 25 vae ?_;refine(zV)<|(aB (bm @i7.{0} (show decide (((r.length+1:Nat):Int)<1)=false by simp only[wn];omega)))<|(zN)<|(aB (fk @i7.{0} @Nat.zero_lt_succ (aL (l:=a::r) (e:=1) (enc:=aD ab) gc (show(a::r)[0]?=some a from rfl)) @aD.eq_1))<|(zV) ?_
  (repeat refine aE.seq ?_)
  refine aE.block (aE.loop (λm st=>∃j:Nat,j<=r.length/\m=r.length-j/\st=⟨[(0,ao 1 (a::r) (aD ab)),(3,ab ((r.take j).foldl vaf a)),(4,ab ((j+1:Nat):Int))],25,[],[]⟩) r.length (cg (bm @List.take_zero.{0} @List.foldl_nil.{0,0})) ⟨0,Nat.zero_le _,rfl,rfl⟩ (by rintro m st ⟨j,_,_,rfl⟩;rfl) ?_);rintro m st ⟨j,hj,rfl,rfl⟩;refine(aB @i7.{0}) ?_;by_cases hlt:j<r.length;rotate_left
  ·rw[show decide (((j+1:Nat):Int)<((r.length+1:Nat):Int))=false by simp only[wn];omega]
   refine(fo)<|(zV) ?_
   obtain rfl:j=r.length:=by omega
   exact zo [.tmp 2] (hq:=by rw[List.take_length])
  rw[show decide (((j+1:Nat):Int)<((r.length+1:Nat):Int))=true by simp only[wp];omega];obtain⟨x,hx⟩:∃x,r[j]?=some x:=⟨r[j],jp hlt⟩
  refine(fw)<|(aB (kY @i7.{0} (show j+1<r.length+1 by omega) (aL (l:=a::r) (i:=j+1) (e:=1) (enc:=aD ab) gc (show(a::r)[j+1]?=some x from hx)) @aD.eq_1 @vag))<|(zs) ?_;refine aE.r0 ii (pz (bA (((j+1:Nat):Int)) 1 i4)) ?_;exact⟨r.length-(j+1),_,by omega,(Fg.less (by (simp only[cY,bP,fU,↓reduceIte,Nat.reduceEqDiff,BX hx])<;>(repeat' apply And.intro)<;>first | rfl | trivial) (by (simp only[cY,bP,or_true,true_or,BX hx])<;>(repeat' apply And.intro)<;>first | exact .inr rfl | exact .inl rfl | trivial)),j+1,by omega,rfl,rfl⟩):p:=h
open Go.Proofs.Tryz renaming func309 -> vae in
open Go.Proofs renaming ff -> vaf in
def JL(a:Int)(r:List Int)(hlen:r.length<1000000):PC prog 309 [ao 1 (a::r) (aD ab)] (·=ab (r.foldl ff a)):=by
 have vag:=@jo;exact RZ
open Go.Proofs.Tryz renaming func310 -> vae in
open Go.Proofs renaming dV -> vaf in
def JK(a:Int)(r:List Int)(hlen:r.length<1000000):PC prog 310 [ao 1 (a::r) (aD ab)] (·=ab (r.foldl dV a)):=by
 have vag:=@fp;exact RZ
def wB(a:Int)(r:List Int)(hlen:r.length<1000000):PC prog 267 [ao 1 (a::r) (aD ab)] (·=ly (r.foldl ff a) (r.foldl dV a)):=by
 refine pB 8 Tryz.func267 ?_;exact(jC)<|(zK (JL a r hlen))<|(zQ)<|(zK (JK a r hlen))<|(zR)<|zo [.cell 2 52]
def eD(f:Int->Int->Int)(a b c d:Int):Int×Int:=
 if mU a b&&mU c d then (ff (ff (ff (f a c) (f a d)) (f b c)) (f b d),dV (dV (dV (f a c) (f a d)) (f b c)) (f b d)) else (0,0)
def oG(p:Int×Int):SV:=ly p.1 p.2
def vS(g:FuncId)(fn:Int->Int->Int)(hg:∀x y,PC prog g [ab x,ab y] (·=ab (fn x y)))(a b c d:Int):PC prog 201 [ly a b,ly c d,.fn g [] []] (·=oG (eD fn a b c d)):=by
 refine pB 46 Tryz.func201 ?_;refine(aB @ly.eq_1)<|(zC)<|(zK (pk a b)) ?_
 cases h1:mU a b
 ·exact(zR)<|(cK)<|zo [.cell 6 52] (hq:=by rw[eD,h1];rfl)
 refine(zQ)<|(zK (pk c d)) ?_
 cases h2:mU c d
 ·exact(zR)<|(cK)<|zo [.cell 6 52] (hq:=by rw[eD,h1,h2];rfl)
 refine(zR)<|(zN)<|(zs) ?_;refine nw [0,1,0,4,0,16,0,64,3,271,831,2047] ?_;exact(zD)<|(zM)<|(zC)<|(zK (hg a c))<|(zQ)<|(zK (hg a d))<|(zQ)<|(zK (hg b c))<|(zQ)<|(zK (hg b d))<|(zQ)<|(zK (wB (fn a c) [fn a d,fn b c,fn b d] (by show 3<1000000;omega)))<|(zR)<|zo [.cell 6 52] (hq:=by rw[eD,h1,h2];rfl)
def qj(a b c d:Int):PC prog 123 [ly a b,ly c d] (·=oG (eD gH a b c d)):=by
 refine pB 8 Tryz.func123 ?_;exact(aB @ly.eq_1)<|(zC)<|(zK (vS 202 gH MR a b c d))<|(cM (bm @oG.eq_1 @ly.eq_1))<|zo [.cell 4 52]
def Ju(a b c d:Int):PC prog 349 [ly a b,ly c d] (·=oG (eD DH a b c d)):=by
 refine pB 8 Tryz.func349 ?_;exact(aB @ly.eq_1)<|(zC)<|(zK (vS 353 DH Jz a b c d))<|(cM (bm @oG.eq_1 @ly.eq_1))<|zo [.cell 4 52]
def mg(a b c d:Int):Int×Int:=if mU a b&&mU c d then (ff (ff (ff a b) c) d,dV (dV (dV a b) c) d) else (0,0)
def od(a b c d:Int):PC prog 352 [ly a b,ly c d] (·=oG (mg a b c d)):=by
 refine pB 24 Tryz.func352 ?_;refine(aB @ly.eq_1)<|(zC)<|(zK (pk a b)) ?_
 cases h1:mU a b
 ·exact(zR)<|(cK)<|zo [.cell 4 52] (hq:=by rw[mg,h1];rfl)
 refine(zQ)<|(zK (pk c d)) ?_
 cases h2:mU c d
 ·exact(zR)<|(cK)<|zo [.cell 4 52] (hq:=by rw[mg,h1,h2];rfl)
 exact(zR)<|(M4)<|(zK (wB a [b,c,d] (by show 3<1000000;omega)))<|(zR)<|zo [.cell 4 52] (hq:=by rw[mg,h1,h2];rfl)
def pa(a b n:Int):Int:=if (!mU a b)||decide (b<=n) then 0 else if n<a then 2 else 1
def q7(a b n:Int):PC prog 137 [ly a b,ab n] (·=ab (pa a b n)):=by
 refine pB 20 Tryz.func137 ?_;refine(aB @ly.eq_1)<|(zB)<|(zC)<|(zK (pk a b)) ?_
 cases h1:mU a b
 ·exact(zR)<|(cK)<|zo [.tmp 4] (hq:=by rw[pa,h1];rfl)
 cases h2:decide (b<=n);rotate_left
 ·exact(cM h2)<|(cK)<|zo [.tmp 4] (hq:=by rw[pa,h1,h2];rfl)
 refine(cM h2)<|(zN) ?_
 cases h3:decide (n<a)
 ·exact(aB h3)<|(lD)<|zo [.tmp 4] (hq:=by rw[pa,h1,h2,v6 (wt h3)];rfl)
 ·exact(aB h3)<|(cK)<|zo [.tmp 4] (hq:=by rw[pa,h1,h2,ut (ww h3)];rfl)
open Go.Ev Go.RowKit Go.Lib Go.Shelf
def Hm(x y:Nat)(hx:x<18446744073709551616)(hy:y<18446744073709551616)(w:World):
 Calls prog 357 #[.int .u64 x,.int .u64 y] w λe w'=>e=.returned (.tuple #[.int .u64 ((x*y/18446744073709551616:Nat):Int),.int .u64 ((x*y%18446744073709551616:Nat):Int)])/\w'=w:=by
 obtain⟨bd,bt,bw,hhi⟩:=Lib.mul64_hi x y hx hy;have ba:=Lib.half_mul_le (a:=x/4294967296) (b:=y/4294967296) i4 i4;have bb:=Lib.half_mul_le (a:=x/4294967296) (b:=y%4294967296) i4 i4;have bc:=Lib.half_mul_le (a:=x%4294967296) (b:=y/4294967296) i4 i4
 have ba':x/4294967296*(y/4294967296)<18446744073709551616:=by omega
 have bb':x/4294967296*(y%4294967296)<18446744073709551616:=by omega
 have bc':x%4294967296*(y/4294967296)<18446744073709551616:=by omega
 have bh1:x/4294967296*(y/4294967296)+(x/4294967296*(y%4294967296)+x%4294967296*(y%4294967296)/4294967296)/4294967296<18446744073709551616:=by omega
 have bh:x/4294967296*(y/4294967296)+(x/4294967296*(y%4294967296)+x%4294967296*(y%4294967296)/4294967296)/4294967296+((x/4294967296*(y%4294967296)+x%4294967296*(y%4294967296)/4294967296)%4294967296+x%4294967296*(y/4294967296))/4294967296<18446744073709551616:=by omega
 go_enter func357,Tryz.ntmps357
 go_wp2
 simp only[Mul64.maskN x hx,Mul64.maskN y hy,Mul64.divN,Mul64.mulN,Mul64.addN,Mul64.wrapN _ bd,Mul64.wrapN _ bb',Mul64.wrapN _ bt,Mul64.maskN _ bt,Mul64.wrapN _ bc',Mul64.wrapN _ bw,Mul64.wrapN _ ba',Mul64.wrapN _ bh1,Mul64.wrapN _ bh,Mul64.wrapM (x*y)];rw[hhi]
 go_ret2
 exact⟨rfl,rfl⟩
def Hn(x y:Nat)(hx:x<18446744073709551616)(hy:y<18446744073709551616):PC prog 357 [.a (.int .u64 x),.a (.int .u64 y)]
 (·=.cx [.a (.int .u64 ((x*y/18446744073709551616:Nat):Int)),.a (.int .u64 ((x*y%18446744073709551616:Nat):Int))]):=by
 intro ρ h avs _ hA;rw[dT] at hA;obtain⟨a,r,rfl,hA1,hA2⟩:=hA;rw[dT] at hA2;obtain⟨b,r2,rfl,hB1,hB2⟩:=hA2;rw[eY] at hB2;subst hB2;rw[GS] at hA1 hB1;subst hA1;subst hB1
 have hc:ee prog (.func 357) [.int .u64 x,.int .u64 y] h (λa h'=>a=.cx [.int .u64 ((x*y/18446744073709551616:Nat):Int),.int .u64 ((x*y%18446744073709551616:Nat):Int)]/\h'=h):=by
  intro σ w args' hv hr;obtain⟨v1,v2,rfl,k1,k2⟩:=Fb hv;cases k1;cases k2;refine(A9 dx func357 ii hr (a:=.cx [.int .u64 ((x*y/18446744073709551616:Nat):Int),.int .u64 ((x*y%18446744073709551616:Nat):Int)]) (V.OH (.cons (.int _ _) (.cons (.int _ _) .nil))) ((Hm x y hx hy w).mono ?_)).mono ?_
  ·rintro e w' ⟨rfl,rfl⟩;exact⟨rfl,Below.refl _ _⟩
  ·rintro v w' ⟨a,h',hm,hg⟩;have:=t6 hm;cases this;exact⟨_,_,⟨rfl,rfl⟩,hg⟩
 refine hc.mono ?_;rintro v h' ⟨rfl,rfl⟩;refine⟨_,ρ,rfl,.refl _ _,λid ob hi=>.inl hi,?_⟩;rw[GS];exact⟨_,rfl,by rw[dT];exact⟨_,_,rfl,by rw[GS],by rw[dT];exact⟨_,_,rfl,by rw[GS],by rw[eY]⟩⟩⟩
def iW(a:Int):Nat:=(dO .u64 (dV a (Mc a))).toNat
def EU(n:Int):dO .u64 n=((dO .u64 n).toNat:Int)/\(dO .u64 n).toNat<18446744073709551616:=by
 have h:dO .u64 n=n%18446744073709551616:=by rw[iq];simp[IntKind.wrap,IntKind.bits,IntKind.signed]
 rw[h];omega
def sY(a:Int):TG .neg (.int .i64 a)=some (.int .i64 (Mc a)):=rfl
def Au(a b:Int):Int:=
 cond ((decide (a<0)) != (decide (b<0)))
  (Mc (if iW a*iW b/18446744073709551616=0/\iW a*iW b%18446744073709551616<=1000000000000 then dO .i64 ((iW a*iW b%18446744073709551616:Nat):Int) else 1000000000000))
  (if iW a*iW b/18446744073709551616=0/\iW a*iW b%18446744073709551616<=1000000000000 then dO .i64 ((iW a*iW b%18446744073709551616:Nat):Int) else 1000000000000)
def Ed(n:Int):lf prog 271 283 (.int .i64 n)=some (.int .u64 (dO .u64 n)):=by
 unfold lf;rw[show prog.underlying 271=some (.int .i64) by kernel_rfl,show prog.underlying 283=some (.int .u64) by kernel_rfl]
def Ee(n:Int):lf prog 283 271 (.int .u64 n)=some (.int .i64 (dO .i64 n)):=by
 unfold lf;rw[show prog.underlying 271=some (.int .i64) by kernel_rfl,show prog.underlying 283=some (.int .u64) by kernel_rfl]
def Vp{P:Program}{t:TypeId}(a b:Int):c8 P .eql t (.int .u64 a) (.int .u64 b)=some (.bool (decide (a=b))):=C4 rfl
def TE{P:Program}{t:TypeId}(a b:Int):c8 P .leq t (.int .u64 a) (.int .u64 b)=some (.bool (decide (a<=b))):=C5 rfl
def JN(a b:Int):PC prog 354 [ab a,ab b] (·=ab (Au a b)):=by
 refine pB 38 Tryz.func354 ?_;have hm:=Hn (iW a) (iW b) (EU _).2 (EU _).2;rw[show((iW a:Nat):Int)=dO .u64 (dV a (Mc a)) from(EU _).1.symm,show((iW b:Nat):Int)=dO .u64 (dV b (Mc b)) from(EU _).1.symm] at hm;have ht:Au a b=cond ((decide (a<0)) != (decide (b<0))) (Mc (if iW a*iW b/18446744073709551616=0/\iW a*iW b%18446744073709551616<=1000000000000 then dO .i64 ((iW a*iW b%18446744073709551616:Nat):Int) else 1000000000000)) (if iW a*iW b/18446744073709551616=0/\iW a*iW b%18446744073709551616<=1000000000000 then dO .i64 ((iW a*iW b%18446744073709551616:Nat):Int) else 1000000000000):=rfl;generalize iW a*iW b/18446744073709551616=hi at hm ht;generalize iW a*iW b%18446744073709551616=lo at hm ht
 refine(zV)<|(eQ (cJ @sY @fp @Ed))<|(zK hm)<|(zR)<|(zV) ?_
 by_cases h1:hi=0/\lo<=1000000000000
 ·rw[ut h1] at ht
  refine(aB (fk @Vp @TE (show decide ((hi:Int)=0)=true by simp;omega) (show decide ((lo:Int)<=1000000000000)=true by simp;omega)))<|(zY)<|(aB @Ee) ?_
  cases g1:decide (a<0)<;>cases g2:decide (b<0)
  ·rw[g1,g2] at ht
   exact(aB (bm g1 g2))<|(lD)<|zo [.tmp 4] (hq:=by rw[ht];rfl)
  ·rw[g1,g2] at ht
   exact(aB (bm g1 g2))<|(zY)<|(aB @sY)<|zo [.tmp 4] (hq:=by rw[ht];rfl)
  ·rw[g1,g2] at ht
   exact(aB (bm g1 g2))<|(zY)<|(aB @sY)<|zo [.tmp 4] (hq:=by rw[ht];rfl)
  ·rw[g1,g2] at ht
   exact(aB (bm g1 g2))<|(lD)<|zo [.tmp 4] (hq:=by rw[ht];rfl)
 ·rw[v6 h1] at ht;by_cases h2:hi=0
  ·refine(aB (fk @Vp @TE (show decide ((hi:Int)=0)=true by simp;omega) (show decide ((lo:Int)<=1000000000000)=false by simp;omega)))<|(zN) ?_
   cases g1:decide (a<0)<;>cases g2:decide (b<0)
   ·rw[g1,g2] at ht
    exact(aB (bm g1 g2))<|(lD)<|zo [.tmp 4] (hq:=by rw[ht];rfl)
   ·rw[g1,g2] at ht
    exact(aB (bm g1 g2))<|(zY)<|(aB @sY)<|zo [.tmp 4] (hq:=by rw[ht];rfl)
   ·rw[g1,g2] at ht
    exact(aB (bm g1 g2))<|(zY)<|(aB @sY)<|zo [.tmp 4] (hq:=by rw[ht];rfl)
   ·rw[g1,g2] at ht
    exact(aB (bm g1 g2))<|(lD)<|zo [.tmp 4] (hq:=by rw[ht];rfl)
  ·refine(aB (cJ @Vp @TE (show decide ((hi:Int)=0)=false by simp;omega)))<|(zN) ?_
   cases g1:decide (a<0)<;>cases g2:decide (b<0)
   ·rw[g1,g2] at ht
    exact(aB (bm g1 g2))<|(lD)<|zo [.tmp 4] (hq:=by rw[ht];rfl)
   ·rw[g1,g2] at ht
    exact(aB (bm g1 g2))<|(zY)<|(aB @sY)<|zo [.tmp 4] (hq:=by rw[ht];rfl)
   ·rw[g1,g2] at ht
    exact(aB (bm g1 g2))<|(zY)<|(aB @sY)<|zo [.tmp 4] (hq:=by rw[ht];rfl)
   ·rw[g1,g2] at ht
    exact(aB (bm g1 g2))<|(lD)<|zo [.tmp 4] (hq:=by rw[ht];rfl)
def Jt(a b c d:Int):PC prog 350 [ly a b,ly c d] (·=oG (eD Au a b c d)):=by
 refine pB 8 Tryz.func350 ?_;exact(aB @ly.eq_1)<|(zC)<|(zK (vS 354 Au JN a b c d))<|(cM (bm @oG.eq_1 @ly.eq_1))<|zo [.cell 4 52]
def QX(a b:Int):Int:=dO .i64 (a*b)
def GI(a b:Int):Int:=dO .i64 (a.tdiv b)
def qA{P:Program}{t:TypeId}(a b:Int):c8 P .mul t (.int .i64 a) (.int .i64 b)=some (.int .i64 (QX a b)):=rfl
def Nu{P:Program}{t:TypeId}{a b:Int}(h:¬b=0):c8 P .quo t (.int .i64 a) (.int .i64 b)=some (.int .i64 (GI a b)):=by
 have:QQ b=false:=by
  cases b with
  | ofNat n=>
   cases n with
   | zero=>exact un rfl h
   | succ n=>rfl
  | negSucc n=>rfl
 unfold c8;simp only[this];rfl
def qI(a b:Int):Int:=if b=0 then 0 else if (!(decide (QX (GI a b) b=a)))&&((decide (a<0)) != (decide (b<0))) then uB (GI a b) 1 else GI a b
def ij(a b:Int):PC prog 356 [ab a,ab b] (·=ab (qI a b)):=by
 refine pB 26 Tryz.func356 ?_;refine(zV) ?_;cases h0:decide (b=0);rotate_left
 ·exact(aB h0)<|(cK)<|zo [.tmp 4] (hq:=by rw[qI,ut (ww h0)])
 have h0':=wt h0
 refine(aB h0)<|(zN)<|(zs) ?_;refine aE.r0 ii (by simp only[cY,bP,ao,aF,m7,m6,↓reduceIte,aa,ad,af,ac,aj,aq,aA,bD,Nu h0'];first | done | rfl) ?_
 have hf:qI a b=if (!(decide (QX (GI a b) b=a)))&&((decide (a<0)) != (decide (b<0))) then uB (GI a b) 1 else GI a b:=by rw[qI,v6 h0']
 cases h1:decide (QX (GI a b) b=a);rotate_left
 ·rw[h1] at hf;refine(zs) ?_;refine aE.r0 ii (pz (bm @qA h1)) ?_;refine(zs) ?_;refine aE.no rfl ?_;(try (refine aE.skip ?_;try change aE _ _ _ _ _));refine(zs) ?_;refine aE.r0 ii zl ?_;refine(zE) ?_;exact BJ.of (rs:=[.tmp 4]) rfl rfl zl (Wk.refl rfl) (by (try simp only[eC,bK]);first | done | (rw[hf];rfl))
 cases g1:decide (a<0)<;>cases g2:decide (b<0)<;>rw[h1,g1,g2] at hf
 ·refine(zs) ?_;refine aE.r0 ii (pz (fk @qA h1 g1 g2)) ?_;exact(lD)<|zo [.tmp 4] (hq:=by rw[hf];rfl)
 ·exact(aB (fk @qA h1 g1 g2))<|(zY)<|(aB @oI)<|(zV)<|zo [.tmp 4] (hq:=by rw[hf];rfl)
 ·exact(aB (fk @qA h1 g1 g2))<|(zY)<|(aB @oI)<|(zV)<|zo [.tmp 4] (hq:=by rw[hf];rfl)
 ·exact(aB (fk @qA h1 g1 g2))<|(lD)<|zo [.tmp 4] (hq:=by rw[hf];rfl)
abbrev bH:SV:=.a (.slice none 0 0 (some 0))
variable{n:Nat}
def UK{c:Option Nat}{q:IntKind}(h:k<=n):cO n c none (some (.int q (k:Int))) none=some (0,k,c):=by
 unfold cO oP qm;simp only[oX,m7,fc h,d7,aq]
def Ln{c:Option Nat}{q:IntKind}(h:k<=n):cO n c (some (.int q (k:Int))) none none=some (k,n,c):=by
 unfold cO oP;simp only[oX,m7,fc h,aq]
def OU(l:List (List Nat)):(l.flatMap (aD ah)).all eP=true:=by
 induction l with
 | nil=>rfl
 | cons a l ih=>rw[ej,List.all_append,ih];rfl
def DC(l:List (List Nat)):(l.flatMap (aD ah)).length=l.length:=by
 induction l with
 | nil=>rfl
 | cons a l ih=>rw[ej,li,ih,i7];show 1+_=_;omega
open Go.Ev Go.RowKit
def Qj{P:Program}{t:TypeId}{a b:Int}(hb:b≠0):c8 P .rem t (.int .i64 a) (.int .i64 b)=some (.int .i64 (a.tmod b)):=by
 have hz:QQ b=false:=by
  unfold QQ
  cases b with
  | ofNat n=>
   cases n with
   | zero=>exact un rfl hb
   | succ n=>rfl
  | negSucc n=>rfl
 simp only[c8,A0,aq,hz,aA]
def qw(k:List Nat):List AV:=[.str k]
def Ai(ks:List (List Nat)):∀r∈ks.map qw,r.length=1:=by intro r hr;obtain⟨t,_,rfl⟩:=List.mem_map.1 hr;rfl
def gD(day fr:Int):Int:=if day<=fr then 0 else day-(if day-1000000000000<=fr then fr else day-1000000000000)
def rm(ks:List (List Nat)):Prop:=ks.Pairwise λa b=>fF b a=false
end Go.Proofs
