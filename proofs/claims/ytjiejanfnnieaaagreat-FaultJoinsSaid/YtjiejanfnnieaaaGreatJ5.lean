/- Lemmas of this claim, each with its conditions. -/
import Derived.Test.YtjiejanfnnieaaaGreatJ4
import Derived.Test.YtjiejanfnnieaaaGreatJ3
import Derived.Test.YtjiejanfnnieaaaGreatJ2
import Derived.Test.YtjiejanfnnieaaaGreatProg
import Derived.KernelRfl
import Derived.MapKept
import Derived.Shelf.Bits.Mul64
set_option linter.all false
set_option maxHeartbeats 8000000
open Go.Proofs.Tryz (prog func357)
open Nat (ble beq blt)
open List (mem_iff_getElem? all_eq_true)
open Nat renaming reduceEqDiff -> aa, reduceLeDiff -> ac, reduceAdd -> ad, reduceMul -> af, reduceLT -> aj, le_refl -> ap, le_of_lt -> ay, lt_succ_self -> a0, not_lt_zero -> bg, exists_eq_succ_of_ne_zero -> bi, reduceSub -> bk, lt_trichotomy -> bV, eq_of_beq_eq_true -> ci, zero_le -> ck, le_of_not_lt -> cn, mul_one -> cp, zero_add -> dd, le_total -> d8, zero_lt_succ -> d9, add_zero -> ey, lt_trans -> fa
open Bool renaming and_eq_true -> al, not_true -> ca, and_false -> cd, false_and -> ce, and_true -> ct, false_or -> cv, true_and -> cH, or_true -> dv, or_eq_true -> d3, true_or -> ef, decide_and -> el
open And renaming intro -> am
open List renaming getElem?_map -> ax, mem_of_find?_eq_some -> aW, mem_cons_of_mem -> be, drop_length -> bs, mem_cons_self -> bv, set_eq_take_append_cons_drop -> cc, replicate -> ch, mem_of_getElem? -> co, drop_eq_getElem_cons -> c6, range -> dc, find?_eq_none -> dt, getElem?_cons_succ -> du, drop_of_length_le -> dC, take_of_length_le -> d2, length_set -> d4, mem_append -> d5, getElem?_range -> d6, getElem?_take -> d7, find?_some -> em, length_map -> er, all_cons -> es
open Array renaming toList_append -> dl
namespace Go.Ev
noncomputable section
section
variable {P:Program} {ro:Option Nat}
def PC.body(hng:sP P){g:FuncId}{fn:Func}{c:Code}{args:List SV}{Q:SV->Prop}(hf:P.funcs[g]?=some fn)(hb:fn.body=some c){n:Nat}(hn:args.length+(fn.ntmps-args.length)=n)
 (hw:aG P none c ⟨kP 0 args,n,[],[]⟩ (Bh P fn Q)) (hlim:n<=1000000:=by exact md rfl):PC P g args Q:=
 .sZ hng hf hb hn hlim (hw.mono λe st ⟨h1,h2,h3⟩=>⟨h1,by rw[h2];exact h3⟩)
def SC.body(hng:sP P){g:FuncId}{fn:Func}{c:Code}{args:List SV}{S0:List SO}{mv:List Nat}{Q:SV->List SO->Prop}(hf:P.funcs[g]?=some fn)(hb:fn.body=some c){n:Nat}(hn:args.length+(fn.ntmps-args.length)=n)(hlim:n<=1000000){W:Fm}(hW:W=og S0.length)
 (hw:aG P none c ⟨kP 0 args++W,n,S0,[]⟩ (KD P fn S0.length mv Q)) (hK:S0.length<=1000000:=by exact md rfl):SC P g args S0 mv Q:=
 .sZ hng hf hb hn hlim hW hK (hw.mono λe st ⟨h1,h2,h3⟩=>⟨h1,by rw[h2];exact h3⟩)
variable{ol:List Oper}
def H9{L:Nat->Prop}(hb:jA 0 ol=true)(hc:lM ol L){j:Nat}:∀(i:Nat) (o:Oper),ol[i]?=some o->(∀e∈o.after.toList,dep e=true->L e.on)->bG ((mN ol []).getD i 0) j=true->L j:=by
 intro i
 induction i using Nat.strongRecOn with
 | _ i ih=>
  intro o ho hd hj;have hlt:=λe he hde=>pe hb ho e he hde;simp only[dd] at hlt;obtain⟨e,he,hde,h | h⟩:=Ia ho hlt hj
  ·exact h▸hd e he hde
  ·have hl:=hlt e he hde;obtain⟨o',ho'⟩:∃o',ol[e.on]?=some o':=⟨_,jp (fa hl (bq ho))⟩;exact ih e.on hl o' ho' (hc _ _ ho' (hd e he hde)) h
def JW{α β γ:Type}(a:Option α)(g:α->Option β)(k:β->γ):(a.bind λx=>(g x).map k)=(a.bind g).map k:=by cases a<;>rfl
variable{op:Op}
def QE{f:Fm}{S S2:List SO}{v:SV}(hr:jS op=true)(hh:H3 op=false)(h:dj P f S op=some (v,S,none)):dj P f S2 op=some (v,S2,none):=by
 have go:∀{α:Type} (q:Option α) (w:α->SV),q.map (λv=>(w v,S,(none:Option Nat)))=some (v,S,none)->q.map (λv=>(w v,S2,(none:Option Nat)))=some (v,S2,none):=by
  rintro _ (_ | q) w h
  ·cases h
  ·cases h;rfl
 cases op<;>first | (simp[jS] at hr;done) | (simp[H3] at hh;done) | (simp only[dj,JW] at h ⊢;exact go _ _ h) | skip
 case makeFunc g first _=>
  cases g<;>first | (simp[jS] at hr;done) | skip
  all_goals
   simp only[dj] at h ⊢
   cases ha:pO f first.toList with
   | none=>rw[ha] at h;cases h
   | some a=>
    rw[ha] at h;simp only[m7] at h ⊢
    first
    | exact go _ _ h
    | cases hb:iQ a with
     | none=>rw[hb] at h;cases h
     | some b=>
      rw[hb] at h;simp only[m7,JW] at h ⊢;exact go _ _ h
 case extract x _=>
  simp only[dj] at h ⊢
  cases hx:eP f x with
  | none=>rw[hx] at h;cases h
  | some w=>
   rw[hx] at h
   cases w<;>first | (cases h;done) | exact go _ _ h
def Of(ol:List Oper)(i:Nat)(a:Oper)(mj:Nat)(b:Oper):Bool:=
 (match b.dst with | some d=>!(decide (a.dst=some d))&&(!(iK ol a).contains d||bG mj i) | none=>true)&&(bG mj i||(match a.dst with | some d=>!(iK ol b).contains d | none=>true)&&!(tF a.op&&tF b.op))
def vO(all:List Oper)(ms:List Nat):List (Nat×Oper)->Bool
 | []=>true
 | (i,a)::rest=>(match a.dst with | some d=>!(iK all a).contains d | none=>true)&&(match a.guard with | some (j,_)=>blt j i | none=>true)&&rest.all (λq=>Of all i a (ms.getD q.1 0) q.2)&&vO all ms rest
def Og{all:List Oper}{ms:List Nat}:∀{ol:List Oper} {i0 i:Nat} {o:Oper},vO all ms (cq i0 ol)=true->ol[i]?=some o->(∀d,o.dst=some d->d∉iK all o)/\(∀j b,o.guard=some (j,b)->j<i0+i)/\∀(k:Nat) o',i<k->ol[k]?=some o'->Of all (i0+i) o (ms.getD (i0+k) 0) o'=true
 | [],_,_,_,_,h=>by simp at h
 | a::ol,i0,i,o,h,ho=>by
  rw[cq,vO,al,al,al] at h;obtain⟨⟨⟨h1,h2⟩,h3⟩,h4⟩:=h
  cases i with
  | zero=>
   cases ho;refine⟨λd hd=>?_,λj b hg=>?_,λk o' hk hko=>?_⟩
   ·rw[hd] at h1;simpa using h1
   ·rw[hg] at h2;exact fK h2
   ·obtain⟨k,rfl⟩:=bi (Nat.ne_of_gt hk);have:=all_eq_true.1 h3 (i0+1+k,o') (mem_iff_getElem?.2 ⟨k,by rw[jM,show ol[k]?=some o' by simpa using hko];rfl⟩);rw[show i0+(k+1)=i0+1+k by omega];exact this
  | succ i=>
   obtain⟨g1,g2,g3⟩:=Og h4 (by simpa using ho);refine⟨g1,λj b hg=>by have:=g2 j b hg;omega,λk o' hk hko=>?_⟩;obtain⟨k,rfl⟩:=bi (show k≠0 by omega);have:=g3 k o' i4 (by simpa using hko);rw[show i0+(i+1)=i0+1+i by omega,show i0+(k+1)=i0+1+k by omega];exact this
variable{all:List Oper}
def Hi{f1 f2:Fm}{o:Oper}(h:∀t∈iK all o,aK f1 t=aK f2 t):bM all f1 o.guard=bM all f2 o.guard:=by
 unfold iK at h;unfold bM;split
 ·rfl
 ·rename_i j w hg;rw[hg] at h
  cases ho:all[j]? with
  | none=>rfl
  | some o'=>
   cases hd:o'.dst with
   | none=>simp[hd]
   | some d=>
    simp only[ho,hd,m7] at h ⊢;rw[h d ge]
def LN{f1 f2:Fm}{o:Oper}(h:∀t∈iK all o,aK f1 t=aK f2 t):∀x∈o.op.operands.toList,eP f1 x=eP f2 x:=by
 intro x hx
 cases x with
 | tmp t=>simp only[eP];rw[h t (by unfold iK;exact List.mem_append_left _ (Ib (by simpa using hx)))]
 | _=>rfl
def EM{f1 f2:Fm}{c:Call}(h:∀x∈(Op.call c).operands.toList,eP f1 x=eP f2 x):iE P f1 c=iE P f2 c:=by
 obtain⟨callee,aS,ats⟩:=c
 cases callee with
 | builtin b=>rfl
 | value x=>
  rw[iE,iE];simp only;rw[h x (by simp[Op.operands,Call.operands]),fZ (l:=aS.toList) λy hy=>h y (by simp only[Op.operands,Call.operands,dl,d5];exact .inr hy)]
 | invoke x m=>
  rw[iE,iE];simp only;rw[h x (by simp[Op.operands,Call.operands]),fZ (l:=aS.toList) λy hy=>h y (by simp only[Op.operands,Call.operands,dl,d5];exact .inr hy)]
def RM{cl:Call}(h:fE (.call cl)=true):tG (.call cl)=false:=by
 obtain⟨callee,aS,ats⟩:=cl
 cases callee<;>first | rfl | (simp[fE] at h;done)
def KC{b:Bool}(h:b=true->False):b=false:=by cases b<;>simp_all
def Ti(h:jS op=true):tG op=false:=by
 cases op<;>first | rfl | (simp[jS] at h;done) | skip
 rename_i c;obtain⟨callee,aS,ats⟩:=c
 cases callee with
 | builtin b=>cases b<;>first | rfl | (simp[jS] at h;done)
 | _=>rfl
def PT:Op->Bool
 | .alloc _ | .box _ _ | .buildSlice _ _ _ | .makeMap _ _ | .makeSlice _ _ _ | .call { callee:=.builtin .append,.. }=>true
 | _=>false
def sC(op:Op):Bool:=tG op||PT op
def cj(G:List Nat)(i:Nat)(op:Op):Bool:=sC op&&!G.contains i
variable{G:List Nat}
def mE{i:Nat}(h:sC op=false):cj G i op=false:=by unfold cj;rw[h];rfl
def HF{i:Nat}(h:cj G i op=true):sC op=true:=by unfold cj at h;rw[Bool.and_eq_true] at h;exact h.1
def EO(G:List Nat)(ms:List Nat):List (Nat×Oper)->Bool
 | []=>true
 | (i,a)::l=>(!(cj G i a.op||fE a.op)||l.all λq=>!(cj G q.1 q.2.op||fE q.2.op)||bG (ms.getD q.1 0) i)&&EO G ms l
def JE{G:List Nat}{ms:List Nat}:∀{ol:List Oper} {i0 i j:Nat} {a b:Oper},EO G ms (cq i0 ol)=true->ol[i]?=some a->ol[j]?=some b->i<j->(cj G (i0+i) a.op||fE a.op)=true->(cj G (i0+j) b.op||fE b.op)=true->bG (ms.getD (i0+j) 0) (i0+i)=true
 | [],_,_,_,_,_,_,h,_,_,_,_=>by simp at h
 | o::ol,i0,i,j,a,b,h,ha,hb,hij,h1,h2=>by
  rw[cq,EO,al] at h;obtain⟨g1,g2⟩:=h;obtain⟨j,rfl⟩:=bi (show j≠0 by omega)
  cases i with
  | zero=>
   cases ha;rw[ey] at h1;rw[h1,ca,cv] at g1;have:=all_eq_true.1 g1 (i0+1+j,b) (mem_iff_getElem?.2 ⟨j,by rw[jM,show ol[j]?=some b by simpa using hb];rfl⟩);rw[show i0+(j+1)=i0+1+j by omega] at h2 ⊢;rw[h2,ca,cv] at this;exact this
  | succ i=>
   rw[show i0+(i+1)=i0+1+i by omega] at h1 ⊢;rw[show i0+(j+1)=i0+1+j by omega] at h2 ⊢;exact JE g2 (i:=i) (j:=j) (by simpa using ha) (by simpa using hb) i4 h1 h2
def vP(h:jS op=true):sC op=false:=by
 unfold sC;rw[Ti h,cv]
 cases op<;>first | rfl | (simp[jS] at h;done) | skip
 rename_i c;obtain⟨callee,aS,ats⟩:=c
 cases callee with
 | builtin b=>cases b<;>first | rfl | (simp[jS] at h;done)
 | _=>rfl
def Nb{cl:Call}(h:fE (.call cl)=true):sC (.call cl)=false:=by
 unfold sC;rw[RM h,cv];obtain⟨callee,aS,ats⟩:=cl
 cases callee<;>first | rfl | (simp[fE] at h;done)
def jj{S:List SO}{f1 f2:Fm}(hrd:(jS op||sC op)=true)(h:∀x∈op.operands.toList,eP f1 x=eP f2 x):dj P f1 S op=dj P f2 S op:=by
 by_cases hw:(jS op||tG op)=true
 ·exact LL hw h
 cases op with
 | alloc e=>rfl
 | box t x=>rw[dj,dj,h x (by simp[Op.operands])]
 | buildSlice t n ps=>rw[dj,dj,pS λx hx=>h x (by simpa [Op.operands] using hx)]
 | makeMap t x=>
  cases x with
  | none=>rfl
  | some x=>rfl
 | makeSlice t l c=>rw[dj,dj,h l (by simp[Op.operands]),h c (by simp[Op.operands])]
 | call c=>
  obtain⟨callee,aS,ats⟩:=c
  cases callee with
  | builtin b=>rw[dj,dj,fZ λx hx=>h x (by simp only[Op.operands,Call.operands,dl,d5];exact .inr hx)]
  | _=>simp[jS,sC,tG,PT] at hrd
 | makeFunc g first cap=>cases g<;>first | exact un rfl hw | (simp[jS,sC,tG,PT] at hrd;done)
 | _=>first | exact un rfl hw | (simp[jS,sC,tG,PT] at hrd;done)
variable{ms:List Nat}
def JX(hb:jA 0 ol=true)(hms:mN ol []=ms)(w:Nat)(o:Oper)(ho:ol[w]?=some o){i:Nat}(h:bG (ms.getD w 0) i=true):i<w:=by
 have hlt:∀{j:Nat} {o':Oper},ol[j]?=some o'->∀e∈o'.after.toList,dep e=true->e.on<j:=λho' e he hde=>by simpa using pe hb ho' e he hde
 exact H9 (L:=λj=>j<w) hb (λj o' ho' hj e he hde=>fa (hlt ho' e he hde) hj) w o ho (λe he hde=>hlt ho e he hde) (by rw[hms];exact h)
structure Mi where
 b:Bool
 hp:List Nat
 kl:List (Nat×Nat)
 f0:Fm
 f:Fm
 S:List SO
def gO(ms:List Nat)(i:Nat)(v:SV):List (Nat×Nat)->Prop
 | []=>True
 | q::l=>(bG (ms.getD i 0) q.1=true\/aM q.2 v=v)/\gO ms i v l
def oJ{ms:List Nat}{i:Nat}{v:SV}:∀{l:List (Nat×Nat)},gO ms i v l->∀q∈l,bG (ms.getD i 0) q.1=true\/aM q.2 v=v
 | [],_,q,hq=>by cases hq
 | x::l,h,q,hq=>by
  rcases t7 hq with rfl | hq
  ·exact h.1
  ·exact oJ h.2 q hq
def Fu{ms:List Nat}{i:Nat}{v:SV}(hv:∀o,aM o v=v):∀{l:List (Nat×Nat)},gO ms i v l
 | []=>trivial
 | _::_=>⟨.inr (hv _),Fu hv⟩
def sa(all:List Oper)(ms:List Nat)(i:Nat):List Nat:=((cq 0 all).filter λq=>!Nat.beq q.1 i&&!bG (ms.getD i 0) q.1&&!bG (ms.getD q.1 0) i).flatMap λq=>(match q.2.dst with | some d=>d::iK all q.2 | none=>iK all q.2)
def As(f0 f:Fm)(k:Nat):List Nat->Prop
 | []=>True
 | t::l=>(aM k (aK f t)=aK f t/\aM k (aK f0 t)=aK f0 t)/\As f0 f k l
def Dx{f0 f:Fm}{k:Nat}:∀{l:List Nat},As f0 f k l->∀t∈l,aM k (aK f t)=aK f t/\aM k (aK f0 t)=aK f0 t
 | [],_,t,h=>by cases h
 | x::l,h,t,ht=>by
  rcases t7 ht with rfl | ht
  ·exact h.1
  ·exact Dx h.2 t ht
def Ju(all:List Oper)(ms:List Nat)(i:Nat):Bool:=(cq 0 all).all λq=>beq q.1 i||(blt q.1 i&&bG (ms.getD i 0) q.1)||(blt i q.1&&bG (ms.getD q.1 0) i)
inductive qc (G:List Nat) (P:Program) (ro:Option Nat) (all:List Oper) (ms:List Nat) (n:Nat) (i:Nat) (o:Oper):Mi->Mi->Prop
 | s {b hp kl f0 f S d}:de all n [o]=true->o.dst=some d->bM all f o.guard=some false->cj G i o.op=false->qc G P ro all ms n i o ⟨b,hp,kl,f0,f,S⟩ ⟨b,hp,kl,f0,(d,.a lK)::f,S⟩
 | sk {b hp kl f0 f S d}:de all n [o]=true->o.dst=some d->bM all f o.guard=some false->cj G i o.op=true->hp.all (λj=>bG (ms.getD i 0) j)=true->qc G P ro all ms n i o ⟨b,hp,kl,f0,f,S⟩ ⟨false,hp,kl,f0,(d,.a lK)::f,S⟩
 | r {b hp kl f0 f S d v}:de all n [o]=true->o.dst=some d->bM all f o.guard=some true->jS o.op=true->(∀S2,dj P f S2 o.op=some (v,S2,none))->gO ms i v kl->qc G P ro all ms n i o ⟨b,hp,kl,f0,f,S⟩ ⟨b,hp,kl,f0,(d,v)::f,S⟩
 | h {hp kl f0 f S d v}:de all n [o]=true->o.dst=some d->bM all f o.guard=some true->jS o.op=true->dj P f S o.op=some (v,S,none)->gO ms i v kl->qc G P ro all ms n i o ⟨true,hp,kl,f0,f,S⟩ ⟨true,i::hp,kl,f0,(d,v)::f,S⟩
 | k {hp kl f0 f S d cl g vs ws r}:de all n [o]=true->o.op=.call cl->o.dst=some d->bM all f o.guard=some true->fE (.call cl)=true->tF o.op=true->iE P f cl=some (g,vs)->PC P g ws (·=r)->cu S vs ws->(∀o,aM o r=r)->(vJ r=true\/cu [] vs ws)->
  qc G P ro all ms n i o ⟨true,hp,kl,f0,f,S⟩ ⟨true,hp,kl,f0,(d,r)::f,S⟩
 | e {b hp kl f0 f S v S'}:de all n [o]=true->bM all f o.guard=some true->cj G i o.op=true->hp.all (λj=>bG (ms.getD i 0) j)=true->dj P f S o.op=some (v,S',none)->gO ms i v kl->qc G P ro all ms n i o ⟨b,hp,kl,f0,f,S⟩ ⟨false,hp,kl,f0,pz f none o.dst v,S'⟩
 | a {b hp kl f0 f S v S' k}:de all n [o]=true->bM all f o.guard=some true->cj G i o.op=true->hp.all (λj=>bG (ms.getD i 0) j)=true->dj P f S o.op=some (v,S',some k)->gO ms i v kl->(∀t∈sa all ms i,aM k (aK f t)=aK f t/\aM k (aK f0 t)=aK f0 t)->qc G P ro all ms n i o ⟨b,hp,kl,f0,f,S⟩ ⟨false,hp,(i,k)::kl,f0,pz f (some k) o.dst v,S'⟩
 | g {b hp kl f0 f S d v}:de all n [o]=true->o.dst=some d->bM all f o.guard=some true->G.contains i=true->(∀o,aM o v=v)->(∀f2 S2 ds K,de (all.take (i+1)) n [o]=true->bM (all.take (i+1)) f2 o.guard=some true->(∀x∈o.op.operands.toList,eP f2 x=eP f x)->K ⟨(d,v)::f2,n,S2,ds⟩->aL P ro (all.take (i+1)) [o] ⟨f2,n,S2,ds⟩ K)->qc G P ro all ms n i o ⟨b,hp,kl,f0,f,S⟩ ⟨b,hp,kl,f0,(d,v)::f,S⟩
 | x {b hp kl f0 f S v S' k}:de all n [o]=true->bM all f o.guard=some true->cj G i o.op=true->hp.all (λj=>bG (ms.getD i 0) j)=true->(∀f2 ds K,de (all.take (i+1)) n [o]=true->bM (all.take (i+1)) f2 o.guard=some true->(∀x∈o.op.operands.toList,eP f2 x=eP f x)->K ⟨pz f2 (some k) o.dst v,n,S',ds⟩->aL P ro (all.take (i+1)) [o] ⟨f2,n,S,ds⟩ K)->gO ms i v kl->(∀t∈sa all ms i,aM k (aK f t)=aK f t/\aM k (aK f0 t)=aK f0 t)->qc G P ro all ms n i o ⟨b,hp,kl,f0,f,S⟩ ⟨false,hp,(i,k)::kl,f0,pz f (some k) o.dst v,S'⟩
 | Pm {b hp kl f0 f S f' S'}:Ju all ms i=true->cj G i o.op=false->(∀ds K,K ⟨f',n,S',ds⟩->aL P ro (all.take (i+1)) [o] ⟨f,n,S,ds⟩ K)->qc G P ro all ms n i o ⟨b,hp,kl,f0,f,S⟩ ⟨true,[],[],f',f',S'⟩
inductive Ry (G:List Nat) (P:Program) (ro:Option Nat) (all:List Oper) (ms:List Nat) (n:Nat):List (Nat×Oper)->Mi->Mi->Prop
 | nil {x}:Ry G P ro all ms n [] x x
 | cons {i o l x y z}:qc G P ro all ms n i o x y->Ry G P ro all ms n l y z->Ry G P ro all ms n ((i,o)::l) x z
def ej(G:List Nat)(P:Program)(ro:Option Nat)(all:List Oper)(ms:List Nat)(n:Nat)(f0:Fm)(kl:List (Nat×Nat))(b:Bool)(hp:List Nat)(l:List (Nat×Oper))(f:Fm)(S:List SO)(K:Fm->List SO->Prop):Prop:=∃z,K z.f z.S/\Ry G P ro all ms n l ⟨b,hp,kl,f0,f,S⟩ z
mutual
def E5:∀{v:SV},vJ v=true->∀o,names o v=false
 | .any,_,_=>rfl
 | .a _,_,_=>rfl
 | .ag cs,h,o=>by rw[names];exact uW (by rw[vJ] at h;exact h) o
 | .cx cs,h,o=>by rw[names];exact uW (by rw[vJ] at h;exact h) o
 | .sl ..,h,_ | .im ..,h,_ | .ptr ..,h,_ | .map ..,h,_ | .buf ..,h,_ | .sub ..,h,_ | .fn ..,h,_ | .iface ..,h,_ | .ip ..,h,_ | .e0 ..,h,_=>by simp[vJ] at h
def uW:∀{l:List SV},HT l=true->∀o,eI o l=false
 | [],_,_=>rfl
 | d::ds,h,o=>by rw[HT,al] at h;rw[eI,E5 h.1,uW h.2];rfl
end
def PV{v:SV}(h:vJ v=true)(o:Nat):aM o v=v:=by unfold aM;rw[E5 h o];rfl
section
variable {G:List Nat} {all:List Oper} {ms:List Nat} {n:Nat} {b:Bool} {hp:List Nat} {l:List (Nat×Oper)} {f:Fm} {S:List SO} {K:Fm->List SO->Prop} {i:Nat} {o:Oper} {d:Nat} {f0:Fm} {kl:List (Nat×Nat)}
def ej.nil(h:K f S):ej G P ro all ms n f0 kl b hp [] f S K:=⟨_,h,.nil⟩
theorem ej.s(hst:de all n [o]=true)(hdst:o.dst=some d)(hw:bM all f o.guard=some false)(hwr:cj G i o.op=false):ej G P ro all ms n f0 kl b hp l ((d,.a lK)::f) S K->ej G P ro all ms n f0 kl b hp ((i,o)::l) f S K:=λ⟨z,k,t⟩=>⟨z,k,.cons (.s hst hdst hw hwr) t⟩
theorem ej.r{v:SV}{S':List SO}{kill:Option Nat}(hst:de all n [o]=true)(hdst:o.dst=some d)(hw:bM all f o.guard=some true)(hrr:(jS o.op&&(b||!H3 o.op))=true)(hop:dj P f S o.op=some (v,S',kill))
 (hk:ej G P ro all ms n f0 kl b (_root_.cond (H3 o.op) (i::hp) hp) l ((d,v)::f) S K) (hkl:gO ms i v kl):ej G P ro all ms n f0 kl b hp ((i,o)::l) f S K:=by
 rw[al] at hrr;obtain⟨h1,h2⟩:=hrr;obtain⟨rfl,rfl⟩:=OG h1 hop;obtain⟨z,k,t⟩:=hk;cases hh:H3 o.op
 ·rw[hh] at t;exact⟨z,k,.cons (.r hst hdst hw h1 (λS2=>QE h1 hh hop) hkl) t⟩
 ·rw[hh] at t h2
  obtain rfl:b=true:=by cases b<;>simp_all
  exact⟨z,k,.cons (.h hst hdst hw h1 hop hkl) t⟩
def ej.ri{tt:TypeId}{x:Operand}{cs0:List SV}{v:SV}(hst:de all n [o]=true)(hdst:o.dst=some d)(hw:bM all f o.guard=some true)(hop:o.op=.load tt x)(hx:eP f x=some (.ip cs0))(hv:tM P tt cs0 0=some v)(hkl:gO ms i v kl):
 ej G P ro all ms n f0 kl b hp l ((d,v)::f) S K->ej G P ro all ms n f0 kl b hp ((i,o)::l) f S K:=λ⟨z,k,t⟩=>⟨z,k,.cons (.r hst hdst hw (by rw[hop];rfl) (λS2=>by rw[hop,dj,hx,m7,yJ,hv];rfl) hkl) t⟩
def ej.rg{v:SV}(hst:de all n [o]=true)(hdst:o.dst=some d)(hw:bM all f o.guard=some true)(hrd:jS o.op=true)(hop:∀S2,dj P f S2 o.op=some (v,S2,none))(hkl:gO ms i v kl):
 ej G P ro all ms n f0 kl b hp l ((d,v)::f) S K->ej G P ro all ms n f0 kl b hp ((i,o)::l) f S K:=λ⟨z,k,t⟩=>⟨z,k,.cons (.r hst hdst hw hrd hop hkl) t⟩
theorem ej.k{cl:Call}{g:FuncId}{vs ws:List SV}{r:SV}(hst:de all n [o]=true)(hop:o.op=.call cl)(hdst:o.dst=some d)(hw:bM all f o.guard=some true)(hdy:fE (.call cl)=true)(he:tF (.call cl)=true)
 (hc:iE P f cl=some (g,vs)) (hq:PC P g ws (·=r)) (hwk:cu S vs ws) (hr:vJ r=true):ej G P ro all ms n f0 kl true hp l ((d,r)::f) S K->ej G P ro all ms n f0 kl true hp ((i,o)::l) f S K:=λ⟨z,k,t⟩=>⟨z,k,.cons (.k hst hop hdst hw hdy (by rw[hop];exact he) hc hq hwk (PV hr) (.inl hr)) t⟩
def ej.kg{cl:Call}{g:FuncId}{vs:List SV}{r:SV}(hst:de all n [o]=true)(hop:o.op=.call cl)(hdst:o.dst=some d)(hw:bM all f o.guard=some true)(hdy:fE (.call cl)=true)(he:tF (.call cl)=true)
 (hc:iE P f cl=some (g,vs)) (hq:PC P g vs (·=r)) (hwk:∀S,cu S vs vs) (hr:mq r=true):ej G P ro all ms n f0 kl true hp l ((d,r)::f) S K->ej G P ro all ms n f0 kl true hp ((i,o)::l) f S K:=λ⟨z,k,t⟩=>⟨z,k,.cons (.k hst hop hdst hw hdy (by rw[hop];exact he) hc hq (hwk _) (λ_=>vc hr) (.inr (hwk _))) t⟩
theorem ej.e{v:SV}{S':List SO}(hst:de all n [o]=true)(hw:bM all f o.guard=some true)(hwr:cj G i o.op=true)(hms:hp.all (λj=>bG (ms.getD i 0) j)=true)(hop:dj P f S o.op=some (v,S',none))(hkl:gO ms i v kl):
 ej G P ro all ms n f0 kl false hp l (pz f none o.dst v) S' K->ej G P ro all ms n f0 kl b hp ((i,o)::l) f S K:=λ⟨z,k,t⟩=>⟨z,k,.cons (.e hst hw hwr hms hop hkl) t⟩
def ej.ed{v:SV}{S':List SO}(hst:de all n [o]=true)(hdst:o.dst=some d)(hw:bM all f o.guard=some true)(hwr:cj G i o.op=true)(hms:hp.all (λj=>bG (ms.getD i 0) j)=true)(hop:dj P f S o.op=some (v,S',none))(hkl:gO ms i v kl)
 (q:ej G P ro all ms n f0 kl false hp l ((d,v)::f) S' K):ej G P ro all ms n f0 kl b hp ((i,o)::l) f S K:=.e hst hw hwr hms hop hkl (by rw[hdst];exact q)
theorem ej.a{f':Fm}{v:SV}{S':List SO}{k:Nat}(T:List Nat)(hst:de all n [o]=true)(hdst:o.dst=some d)(hw:bM all f o.guard=some true)(hwr:cj G i o.op=true)(hms:hp.all (λj=>bG (ms.getD i 0) j)=true)(hT:((sa all ms i).all λt=>T.contains t)=true)(hop:dj P f S o.op=some (v,S',some k))(hf:bX k f=f')(ht:As f0 f k T)(hkl:gO ms i v kl):
 ej G P ro all ms n f0 ((i,k)::kl) false hp l ((d,v)::f') S' K->ej G P ro all ms n f0 kl b hp ((i,o)::l) f S K:=λ⟨z,c,t⟩=>⟨z,c,.cons (by have:=qc.a (ro:=ro) (b:=b) hst hw hwr hms hop hkl λt h=>Dx ht t (List.contains_iff_mem.1 (all_eq_true.1 hT t h));rw[hdst] at this;rw[<-hf];exact this) t⟩
theorem ej.g{v:SV}(hst:de all n [o]=true)(hdst:o.dst=some d)(hw:bM all f o.guard=some true)(hG:G.contains i=true)(hv:∀o,aM o v=v)(hop:∀f2 S2 ds K,de (all.take (i+1)) n [o]=true->bM (all.take (i+1)) f2 o.guard=some true->(∀x∈o.op.operands.toList,eP f2 x=eP f x)->K ⟨(d,v)::f2,n,S2,ds⟩->aL P ro (all.take (i+1)) [o] ⟨f2,n,S2,ds⟩ K):
 ej G P ro all ms n f0 kl b hp l ((d,v)::f) S K->ej G P ro all ms n f0 kl b hp ((i,o)::l) f S K:=λ⟨z,c,t⟩=>⟨z,c,.cons (.g hst hdst hw hG hv hop) t⟩
theorem ej.x{f':Fm}{v:SV}{S':List SO}{k:Nat}(T:List Nat)(hst:de all n [o]=true)(hdst:o.dst=some d)(hw:bM all f o.guard=some true)(hwr:cj G i o.op=true)(hms:hp.all (λj=>bG (ms.getD i 0) j)=true)(hT:((sa all ms i).all λt=>T.contains t)=true)(hop:∀f2 ds K,de (all.take (i+1)) n [o]=true->bM (all.take (i+1)) f2 o.guard=some true->(∀x∈o.op.operands.toList,eP f2 x=eP f x)->K ⟨(d,v)::bX k f2,n,S',ds⟩->aL P ro (all.take (i+1)) [o] ⟨f2,n,S,ds⟩ K)(hf:bX k f=f')(ht:As f0 f k T)(hkl:gO ms i v kl):
 ej G P ro all ms n f0 ((i,k)::kl) false hp l ((d,v)::f') S' K->ej G P ro all ms n f0 kl b hp ((i,o)::l) f S K:=λ⟨z,c,t⟩=>⟨z,c,.cons (by have:=qc.x (ro:=ro) (b:=b) hst hw hwr hms (by rw[hdst];exact hop) hkl λt h=>Dx ht t (List.contains_iff_mem.1 (all_eq_true.1 hT t h));rw[hdst] at this;rw[<-hf];exact this) t⟩
def ej.Pm{f':Fm}{S':List SO}(hbr:Ju all ms i=true)(hwr:cj G i o.op=false)(hop:∀ds K,K ⟨f',n,S',ds⟩->aL P ro (all.take (i+1)) [o] ⟨f,n,S,ds⟩ K):
 ej G P ro all ms n f' [] true [] l f' S' K->ej G P ro all ms n f0 kl b hp ((i,o)::l) f S K:=λ⟨z,c,t⟩=>⟨z,c,.cons (.Pm hbr hwr hop) t⟩
end
def Ry.get{G:List Nat}{all:List Oper}{ms:List Nat}{n:Nat}:∀{ol:List Oper} {i0:Nat} {x z:Mi},Ry G P ro all ms n (cq i0 ol) x z->∃X:Nat->Mi,X i0=x/\X (i0+ol.length)=z/\∀(k:Nat) o,ol[k]?=some o->qc G P ro all ms n (i0+k) o (X (i0+k)) (X (i0+k+1))
 | [],i0,x,z,h=>by
  rw[cq] at h;cases h;exact⟨λ_=>x,rfl,rfl,λk o h=>by simp at h⟩
 | o::ol,i0,x,z,h=>by
  rw[cq] at h
  cases h with | cons h t=>?_
  obtain⟨X,h1,h2,h3⟩:=Ry.get t;refine⟨λj=>if j=i0 then x else X j,ut rfl,?_,?_⟩
  ·show(if _ then _ else _)=z;rw[i7,v6 i4,<-h2];congr 1;omega
  ·rintro(_ | k) o' ho
   ·cases ho;show qc G P ro all ms n i0 o (if _ then _ else _) (if _ then _ else _);rw[ey,ut rfl,v6 i4,h1];exact h
   ·have:=h3 k o' (by simpa using ho);show qc G P ro all ms n (i0+(k+1)) o' (if _ then _ else _) (if _ then _ else _);rw[v6 i4,v6 i4,show i0+(k+1)=i0+1+k by omega];exact this
structure Rw (G:List Nat) (P:Program) (ro:Option Nat) (all:List Oper) (ms:List Nat) (n:Nat) (i:Nat) (o:Oper) (x y:Mi) (κ:Option Nat):Prop where
 st:de all n [o]=true
 fr:∀t,o.dst≠some t->aK y.f t=jJ κ (aK x.f t)
 wr:cj G i o.op=false->κ=none
 S:cj G i o.op=false->y.S=x.S
 b:y.b=true->x.b=true/\cj G i o.op=false
 hp:∀j∈x.hp,j∈y.hp
 w:cj G i o.op=true->x.hp.all (λj=>bG (ms.getD i 0) j)=true
 k1:∀q∈x.kl,q∈y.kl
 k2:∀k,κ=some k->(i,k)∈y.kl
 t:∀k,κ=some k->∀t∈sa all ms i,aM k (aK x.f t)=aK x.f t/\aM k (aK x.f0 t)=aK x.f0 t
 v:∀d,o.dst=some d->∀q∈x.kl,bG (ms.getD i 0) q.1=true\/aM q.2 (aK y.f d)=aK y.f d
 op:cj G i o.op=true->∃v S',((bM all x.f o.guard=some true/\(∀f2 ds K,de (all.take (i+1)) n [o]=true->bM (all.take (i+1)) f2 o.guard=some true->(∀y∈o.op.operands.toList,eP f2 y=eP x.f y)->K ⟨pz f2 κ o.dst v,n,S',ds⟩->aL P ro (all.take (i+1)) [o] ⟨f2,n,x.S,ds⟩ K))\/(bM all x.f o.guard=some false/\(∃d,o.dst=some d)/\v=.a lK/\S'=x.S/\κ=none))/\(∀d,o.dst=some d->aK y.f d=v)/\y.S=S'
 z:y.f0=x.f0
structure SL (G:List Nat) (P:Program) (ro:Option Nat) (all:List Oper) (ms:List Nat) (n:Nat) (i:Nat) (o:Oper) (x y:Mi):Prop where
 ok:Ju all ms i=true
 wr:cj G i o.op=false
 op:∀ds K,K ⟨y.f,n,y.S,ds⟩->aL P ro (all.take (i+1)) [o] ⟨x.f,n,x.S,ds⟩ K
 z:y.f0=y.f
def qc.out{n i:Nat}{o:Oper}{x y:Mi}(h:qc G P ro all ms n i o x y):(∃κ,Rw G P ro all ms n i o x y κ)\/SL G P ro all ms n i o x y:=by
 have put:∀{f:Fm} {d:Nat} {v:SV},o.dst=some d->∀t,o.dst≠some t->aK ((d,v)::f) t=aK f t:=λ{f d v} hd t ht=>by
  show(if d=t then v else aK f t)=_;rw[v6 λe=>ht (by rw[hd,e])]
 have top:∀{d:Nat} {v:SV} {f:Fm},aK ((d,v)::f) d=v:=λ{d v f}=>ut rfl
 have no2:∀{q:Prop},cj G i o.op=false->cj G i o.op=true->q:=λh h2=>by rw[h] at h2;cases h2
 have run:∀{f:Fm} {S S':List SO} {v:SV} {κ:Option Nat},cj G i o.op=true->dj P f S o.op=some (v,S',κ)->∀f2 ds K,de (all.take (i+1)) n [o]=true->bM (all.take (i+1)) f2 o.guard=some true->(∀x∈o.op.operands.toList,eP f2 x=eP f x)->K ⟨pz f2 κ o.dst v,n,S',ds⟩->aL P ro (all.take (i+1)) [o] ⟨f2,n,S,ds⟩ K:=
  λh1 h2 f2 ds K h3 h4 h5 hK=>aL.run (l':=[]) h3 (by rw[oT,h4,jj (by rw[HF h1,dv]) h5,h2];simp only[oT]) (.nil hK)
 have val:∀{d d':Nat} {v:SV} {f:Fm},o.dst=some d->o.dst=some d'->aK ((d,v)::f) d'=v:=λh1 h2=>by rw[h1] at h2;cases h2;exact top
 cases h with
 | s h1 h2 h3 h4=>exact .inl ⟨none,h1,put h2,λ_=>rfl,λ_=>rfl,λh=>⟨h,h4⟩,λ_ h=>h,no2 h4,λ_ h=>h,nofun,nofun,λd hd q _=>.inr (by rw[val h2 hd];rfl),no2 h4,rfl⟩
 | r h1 h2 h3 h4 _ h6=>exact .inl ⟨none,h1,put h2,λ_=>rfl,λ_=>rfl,λh=>⟨h,mE (vP h4)⟩,λ_ h=>h,no2 (mE (vP h4)),λ_ h=>h,nofun,nofun,λd hd q hq=>by rw[val h2 hd];exact oJ h6 q hq,no2 (mE (vP h4)),rfl⟩
 | h h1 h2 h3 h4 _ h6=>exact .inl ⟨none,h1,put h2,λ_=>rfl,λ_=>rfl,λh=>⟨h,mE (vP h4)⟩,λ_ h=>be _ h,no2 (mE (vP h4)),λ_ h=>h,nofun,nofun,λd hd q hq=>by rw[val h2 hd];exact oJ h6 q hq,no2 (mE (vP h4)),rfl⟩
 | k h1 h0 h2 h3 h4 _ _ _ _ h9 _=>
  have hk:cj G i o.op=false:=by rw[h0];exact mE (Nb h4)
  exact .inl ⟨none,h1,put h2,λ_=>rfl,λ_=>rfl,λh=>⟨h,hk⟩,λ_ h=>h,no2 hk,λ_ h=>h,nofun,nofun,λd hd q _=>.inr (by rw[val h2 hd];exact h9 _),no2 hk,rfl⟩
 | sk h1 h2 h3 h4 h5=>exact .inl ⟨none,h1,put h2,λ_=>rfl,λ_=>rfl,λh=>(by cases h),λ_ h=>h,λ_=>h5,λ_ h=>h,nofun,nofun,λd hd q _=>.inr (by rw[val h2 hd];rfl),λ_=>⟨.a lK,_,.inr ⟨h3,⟨_,h2⟩,rfl,rfl,rfl⟩,λd hd=>val h2 hd,rfl⟩,rfl⟩
 | e h1 h3 h5 h6 h7 h8=>
  refine .inl ⟨none,h1,λt ht=>?_,λ_=>rfl,λh=>(by rw[h] at h5;cases h5),λh=>(by cases h),λ_ h=>h,λ_=>h6,λ_ h=>h,nofun,nofun,λd hd q hq=>?_,λ_=>⟨_,_,.inl ⟨h3,run h5 h7⟩,λd hd=>(by rw[hd];exact top),rfl⟩,rfl⟩
  ·cases hd:o.dst with
   | none=>rfl
   | some d=>exact put hd t ht
  ·refine(oJ h8 q hq).imp id λh=>?_;rw[hd];simp only[pz,top];exact h
 | a h1 h3 h5 h6 h7 h8 h9=>
  rename_i k;refine .inl ⟨some k,h1,λt ht=>?_,λh=>(by rw[h] at h5;cases h5),λh=>(by rw[h] at h5;cases h5),λh=>(by cases h),λ_ h=>h,λ_=>h6,λ_ h=>be _ h,λk' e=>(by cases e;exact bv),λk' e=>(by cases e;exact h9),λd hd q hq=>?_,λ_=>⟨_,_,.inl ⟨h3,run h5 h7⟩,λd hd=>(by rw[hd];exact top),rfl⟩,rfl⟩
  ·cases hd:o.dst with
   | none=>exact ez _ _ _
   | some d=>exact(put (f:=bX k _) hd t ht).trans (ez _ _ _)
  ·refine(oJ h8 q hq).imp id λh=>?_;rw[hd];simp only[pz,top];exact h
 | x h1 h3 h5 h6 h7 h8 h9=>
  rename_i k;refine .inl ⟨some k,h1,λt ht=>?_,λh=>(by rw[h] at h5;cases h5),λh=>(by rw[h] at h5;cases h5),λh=>(by cases h),λ_ h=>h,λ_=>h6,λ_ h=>be _ h,λk' e=>(by cases e;exact bv),λk' e=>(by cases e;exact h9),λd hd q hq=>?_,λ_=>⟨_,_,.inl ⟨h3,h7⟩,λd hd=>(by rw[hd];exact top),rfl⟩,rfl⟩
  ·cases hd:o.dst with
   | none=>exact ez _ _ _
   | some d=>exact(put (f:=bX k _) hd t ht).trans (ez _ _ _)
  ·refine(oJ h8 q hq).imp id λh=>?_;rw[hd];simp only[pz,top];exact h
 | g h1 h2 h3 h4 h5 _=>
  have hk:cj G i o.op=false:=by unfold cj;rw[h4,ca,cd]
  exact .inl ⟨none,h1,put h2,λ_=>rfl,λ_=>rfl,λh=>⟨h,hk⟩,λ_ h=>h,no2 hk,λ_ h=>h,nofun,nofun,λd hd q _=>.inr (by rw[val h2 hd];exact h5 _),no2 hk,rfl⟩
 | Pm h1 h2 h3=>exact .inr ⟨h1,h2,h3,rfl⟩
def dH(κ:Nat->Option Nat)(b:Nat):Nat->SV->SV
 | 0,v=>v
 | m+1,v=>if m<b then v else jJ (κ m) (dH κ b m v)
def tH(k:Option Nat)(v:SV):jJ k v=v\/jJ k v=.any:=by
 cases k with
 | none=>exact .inl rfl
 | some k=>unfold jJ aM;simp only;cases names k v;exact .inl rfl;exact .inr rfl
def BF(k:Option Nat):jJ k .any=.any:=by rcases tH k .any with h | h<;>exact h
section
variable {κ:Nat->Option Nat} {b m:Nat} {v:SV}
def Fp:dH κ b m v=v\/dH κ b m v=.any:=by
 induction m with
 | zero=>exact .inl rfl
 | succ m ih=>
  rw[dH];split
  ·exact .inl rfl
  ·rcases ih with h | h
   ·rw[h];exact tH _ _
   ·rw[h,BF];exact .inr rfl
def jK(h:m<=b):dH κ b m v=v:=by
 cases m with
 | zero=>rfl
 | succ m=>rw[dH,ut i4]
def sE(h:b<=m):dH κ b (m+1) v=jJ (κ m) (dH κ b m v):=by rw[dH,v6 i4]
def oG{c:Nat}(hbc:m<=c)(h:∀w,b<=w->m<=w->w<c->jJ (κ w) (dH κ b w v)=dH κ b w v):dH κ b c v=dH κ b m v:=by
 induction hbc with
 | refl=>rfl
 | step hbc ih=>
  rename_i c;have:=ih λw h1 h2 h3=>h w h1 h2 (Nat.lt_succ_of_lt h3);by_cases hb:b<=c
  ·rw[sE hb,h c hb hbc (a0 c),this]
  ·rw[jK i4,<-this,jK i4]
end
def nR(g:Nat->SV)(φ:SV->SV)(f:Fm):List Oper->Fm
 | []=>f.map λq=>(q.1,φ q.2)
 | o::l=>match o.dst with
  | some d=>(d,g d)::nR g φ f l
  | none=>nR g φ f l
def EN{g:Nat->SV}{φ:SV->SV}{f:Fm}(hφ:φ .any=.any){t:Nat}:∀{l:List Oper},(aK (nR g φ f l) t=g t/\∃o∈l,o.dst=some t)\/(aK (nR g φ f l) t=φ (aK f t)/\∀o∈l,o.dst≠some t)
 | []=>by
  refine .inr ⟨?_,λo h=>by cases h⟩;rw[nR]
  induction f with
  | nil=>exact hφ.symm
  | cons q f ih=>
   show(if q.1=t then φ q.2 else _)=φ (if q.1=t then q.2 else _);split
   ·rfl
   ·exact ih
 | o::l=>by
  have ih:=EN (g:=g) (φ:=φ) (f:=f) hφ (t:=t) (l:=l);rw[nR]
  cases hd:o.dst with
  | none=>exact ih.imp (λ⟨a,o',b,c⟩=>⟨a,o',be _ b,c⟩) λ⟨a,b⟩=>⟨a,λo' ho'=>by rcases t7 ho' with rfl | h ;(rw[hd];nofun);exact b o' h⟩
  | some d=>
   by_cases e:d=t
   ·subst e;exact .inl ⟨ut rfl,o,bv,hd⟩
   ·have h1:aK ((d,g d)::nR g φ f l) t=aK (nR g φ f l) t:=v6 e;simp only[h1];exact ih.imp (λ⟨a,o',b,c⟩=>⟨a,o',be _ b,c⟩) λ⟨a,b⟩=>⟨a,λo' ho'=>by rcases t7 ho' with rfl | h ;(rw[hd];exact λh=>e (Option.some.inj h));exact b o' h⟩
variable{ops:Array Oper}{Q:Ex->eu->Prop}
def aG.uQ(G:List Nat){id:Nat}{st:eu}(hol:ops.toList=ol)(hms:mN ol []=ms)(hok:((jA 0 ol&&P.follows .mixedOrders)&&(vO ol ms (cq 0 ol)&&EO G ms (cq 0 ol)))=true)
 (h:ej G P ro ol ms st.n st.f [] true [] (cq 0 ol) st.f st.S λf' S'=>Q .normal ⟨f',st.n,S',st.ds⟩):aG P ro (.region id ops true) st Q:=by
 obtain⟨f,n,S,ds⟩:=st;rw[al] at hok;obtain⟨hbk,hpr⟩:=hok;rw[al] at hpr;obtain⟨hpr,hch⟩:=hpr
 have hord:∀{i j:Nat} {a b:Oper},ol[i]?=some a->ol[j]?=some b->i<j->(cj G i a.op||fE a.op)=true->(cj G j b.op||fE b.op)=true->bG (ms.getD j 0) i=true:=λh1 h2 h3 h4 h5=>by simpa using JE hch h1 h2 h3 (by simpa using h4) (by simpa using h5)
 have hback:=hbk;rw[al] at hback;obtain⟨z,hz,ht⟩:=h;obtain⟨X,hX0,hXN,hX⟩:=ht.get;simp only[dd] at hXN hX;have hP:=λ{i:Nat} {o:Oper} (ho:ol[i]?=some o)=>Og hpr ho;simp only[dd] at hP;obtain⟨B,hB0⟩:∃B:Nat->Prop,∀i,B i↔∃o,ol[i]?=some o/\SL G P ro ol ms n i o (X i) (X (i+1)):=⟨_,λ_=>Iff.rfl⟩
 obtain⟨κ,hκ0⟩:∃κ:Nat->Option Nat,∀i,(B i->κ i=none)/\∀o,ol[i]?=some o->¬B i->Rw G P ro ol ms n i o (X i) (X (i+1)) (κ i):=by
  have:∀i,∃κ,(B i->κ=none)/\∀o,ol[i]?=some o->¬B i->Rw G P ro ol ms n i o (X i) (X (i+1)) κ:=by
   intro i;by_cases hb:B i
   ·exact⟨none,λ_=>rfl,λ_ _ h=>un hb h⟩
   cases ho:ol[i]? with
   | none=>exact⟨none,λ_=>rfl,nofun⟩
   | some o=>
    rcases(hX i o ho).out with⟨κ,h⟩ | h
    ·exact⟨κ,λh=>un h hb,λo' e _=>by cases e;exact h⟩
    ·exact un ((hB0 i).2 ⟨o,ho,h⟩) hb
  exact⟨λi=>Classical.choose (this i),λi=>Classical.choose_spec (this i)⟩
 have hκ:=λ{i o} (ho:ol[i]?=some o) (hb:¬B i)=>(hκ0 i).2 o ho hb
 have hBw:∀{i o},B i->ol[i]?=some o->cj G i o.op=false/\Ju ol ms i=true:=by
  intro i o hb ho;obtain⟨o',h1,h2⟩:=(hB0 i).1 hb;rw[h1] at ho;cases ho;exact⟨h2.wr,h2.ok⟩
 have hBn:∀{i o},ol[i]?=some o->cj G i o.op=true->¬B i:=λho hw hb=>by rw[(hBw hb ho).1] at hw;cases hw
 have hat:∀{i},i<ol.length->∃o,ol[i]?=some o:=λh=>⟨_,jp h⟩
 have hBl:∀{i},B i->i<ol.length:=λhb=>by obtain⟨o,h,_⟩:=(hB0 _).1 hb;exact bq h
 have hBo:∀{c j},B c->j<ol.length->(j<c->bG (ms.getD c 0) j=true)/\(c<j->bG (ms.getD j 0) c=true):=by
  intro c j hb hj;obtain⟨oc,hoc⟩:=hat (hBl hb);obtain⟨oj,hoj⟩:=hat hj;have h:=all_eq_true.1 (hBw hb hoc).2 (j,oj) (mem_iff_getElem?.2 ⟨j,by rw[jM,hoj];simp⟩);simp only[d3,al] at h;refine⟨λhlt=>?_,λhlt=>?_⟩
  ·rcases h with(h | h) | h
   ·have:=ci h;omega
   ·exact h.2
   ·have:=fK h.1;omega
  ·rcases h with(h | h) | h
   ·have:=ci h;omega
   ·have:=fK h.1;omega
   ·exact h.2
 have hF:∀(k m t:Nat),k<=m->m<=ol.length->(∀c,k<=c->c<m->¬B c)->(∀j o,k<=j->j<m->ol[j]?=some o->o.dst≠some t)->aK (X m).f t=dH κ k m (aK (X k).f t):=by
  intro k m t hkm
  induction hkm with
  | refl=>exact λ_ _ _=>(jK (ap _)).symm
  | step hkm ih=>
   rename_i m;intro hm hb hno;obtain⟨o,hoj⟩:=hat hm;rw[(hκ hoj (hb m hkm (a0 _))).fr t (hno m _ hkm (a0 _) hoj),sE hkm,ih (ay hm) (λc h1 h2=>hb c h1 i4) λj o h1 h2=>hno j o h1 i4]
 have hseg:∀{α:Type} (φ:Mi->α) (k m:Nat),(∀j o,k<=j->j<m->ol[j]?=some o->φ (X (j+1))=φ (X j))->k<=m->m<=ol.length->φ (X m)=φ (X k):=by
  intro α φ k m hs hkm
  induction hkm with
  | refl=>exact λ_=>rfl
  | step hkm ih=>
   rename_i m;intro hm;obtain⟨o,hoj⟩:=hat hm;rw[hs m o hkm (a0 _) hoj];exact ih (λj o h1 h2=>hs j o h1 i4) (ay hm)
 have hS:∀(k m:Nat),k<=m->m<=ol.length->(∀c,k<=c->c<m->¬B c)->(∀j o,k<=j->j<m->ol[j]?=some o->cj G j o.op=false)->(X m).S=(X k).S:=λk m h1 h2 hb hw=>hseg Mi.S k m (λj o g1 g2 g3=>(hκ g3 (hb j g1 g2)).S (hw j o g1 g2 g3)) h1 h2;have hZ:∀(k m:Nat),k<=m->m<=ol.length->(∀c,k<=c->c<m->¬B c)->(X m).f0=(X k).f0:=λk m h1 h2 hb=>hseg Mi.f0 k m (λj o g1 g2 g3=>(hκ g3 (hb j g1 g2)).z) h1 h2
 have hB:∀(k m:Nat),k<=m->m<=ol.length->(∀c,k<=c->c<m->¬B c)->(X m).b=true->∀j o,k<=j->j<m->ol[j]?=some o->cj G j o.op=false:=by
  intro k m hkm
  induction hkm with
  | refl=>exact λ_ _ _ j o h1 h2=>by omega
  | step hkm ih=>
   rename_i m;intro hm hbr hb j o h1 hj ho;obtain⟨o',ho'⟩:=hat hm;obtain⟨h3,h2⟩:=(hκ ho' (hbr m hkm (a0 _))).b hb;by_cases e:j=m
   ·subst e;rw[ho'] at ho;cases ho;exact h2
   ·exact ih (ay hm) (λc h1 h2=>hbr c h1 i4) h3 j o h1 i4 ho
 have hH:∀(k m j:Nat),k<=m->m<=ol.length->(∀c,k<=c->c<m->¬B c)->j∈(X k).hp->j∈(X m).hp:=by
  intro k m j hkm
  induction hkm with
  | refl=>exact λ_ _ h=>h
  | step hkm ih=>
   intro hm hb hj;obtain⟨o',ho'⟩:=hat hm;exact(hκ ho' (hb _ hkm (a0 _))).hp j (ih (ay hm) (λc h1 h2=>hb c h1 i4) hj)
 have hKL:∀(k m:Nat) q,k<=m->m<=ol.length->(∀c,k<=c->c<m->¬B c)->q∈(X k).kl->q∈(X m).kl:=by
  intro k m q hkm
  induction hkm with
  | refl=>exact λ_ _ h=>h
  | step hkm ih=>
   intro hm hb hj;obtain⟨o',ho'⟩:=hat hm;exact(hκ ho' (hb _ hkm (a0 _))).k1 q (ih (ay hm) (λc h1 h2=>hb c h1 i4) hj)
 have hu:∀{j k:Nat} {a b:Oper} {t:Nat},ol[j]?=some a->ol[k]?=some b->a.dst=some t->b.dst=some t->j=k:=by
  have one:∀{j k:Nat} {a b:Oper} {t:Nat},ol[j]?=some a->ol[k]?=some b->a.dst=some t->b.dst=some t->¬j<k:=by
   intro j k a b t hj hk ha hb hlt;have:=(hP hj).2.2 k b hlt hk;unfold Of at this;rw[hb] at this;simp[ha] at this
  intro j k a b t hj hk ha hb;exact Nat.le_antisymm (cn (one hk hj hb ha)) (cn (one hj hk ha hb))
 have hT:∀{i w:Nat} {o:Oper} {t k:Nat},ol[i]?=some o->i≠w->bG (ms.getD w 0) i=false->bG (ms.getD i 0) w=false->w<ol.length->κ w=some k->(o.dst=some t\/t∈iK ol o)->aM k (aK (X w).f t)=aK (X w).f t/\aM k (aK (X w).f0 t)=aK (X w).f0 t:=by
  intro i w o t k ho hne h1 h2 hw hk hd;obtain⟨ow,how⟩:=hat hw
  have hnb:¬B w:=λhb=>by rw[(hκ0 w).1 hb] at hk;cases hk
  refine(hκ how hnb).t k hk t ?_;unfold sa;refine List.mem_flatMap.2 ⟨(i,o),List.mem_filter.2 ⟨mem_iff_getElem?.2 ⟨i,by rw[jM,ho];simp⟩,?_⟩,?_⟩
  ·simp only[h1,h2,Bool.not_false,ct,Bool.not_eq_true'];cases hb:beq i w
   ·rfl
   ·exact un (ci hb) hne
  ·cases hd':o.dst with
   | none=>rw[hd'] at hd;exact hd.resolve_left nofun
   | some d=>
    rw[hd'] at hd
    rcases hd with hd | hd
    ·cases hd;exact bv
    ·exact be _ hd
 have hu0:∀q:(Nat->Prop)×Nat,∃base:Nat->Nat,(∀j o t,q.2<=j->ol[j]?=some o->o.dst=some t->q.1 j->base t=j+1)/\∀t,(∀j o,q.2<=j->ol[j]?=some o->o.dst=some t->¬q.1 j)->base t=q.2:=by
  rintro⟨L,β⟩
  have:∀t,∃b,(∀j o,β<=j->ol[j]?=some o->o.dst=some t->L j->b=j+1)/\((∀j o,β<=j->ol[j]?=some o->o.dst=some t->¬L j)->b=β):=by
   intro t;by_cases h:∃j o,β<=j/\ol[j]?=some o/\o.dst=some t/\L j
   ·obtain⟨j,o,h0,h1,h2,h3⟩:=h;exact⟨j+1,λj' o' _ g1 g2 _=>by rw[hu h1 g1 h2 g2],λg=>un h3 (g j o h0 h1 h2)⟩
   ·exact⟨β,λj o g0 g1 g2 g3=>un ⟨j,o,g0,g1,g2,g3⟩ h,λ_=>rfl⟩
  exact⟨λt=>Classical.choose (this t),λj o t h0 h1 h2 h3=>(Classical.choose_spec (this t)).1 j o h0 h1 h2 h3,λt h=>(Classical.choose_spec (this t)).2 h⟩
 obtain⟨base,hbase0⟩:=Classical.axiomOfChoice hu0;have hbase:=λL β=>hbase0 (L,β);simp only at hbase;obtain⟨g,hg⟩:∃g:(Nat->Prop)->Nat->Nat->Nat->SV,∀L β m t,g L β m t=dH κ (base (L,β) t) m (aK (X (base (L,β) t)).f t):=⟨_,λ_ _ _ _=>rfl⟩
 have hfr:∀L β m t,aK (nR (g L β m) (dH κ β m) (X β).f ol) t=g L β m t:=by
  intro L β m t
  rcases EN (g:=g L β m) (φ:=dH κ β m) (f:=(X β).f) (by rcases Fp (κ:=κ) (b:=β) (m:=m) (v:=.any) with h | h<;>exact h) (t:=t) (l:=ol) with⟨h,_⟩ | ⟨h,hn⟩
  ·exact h
  ·rw[h,hg,(hbase L β).2 t λj o _ hj hd=>un hd (hn o (co hj))]
 have hgd:∀(i:Nat) (o:Oper),ol[i]?=some o->∀(j:Nat) (b:Bool),o.guard=some (j,b)->j<i:=λi o ho=>(hP ho).2.1;refine aG.post (aG.any hol hbk (.inr hgd) (λL x=>x.n=n/\lM ol L/\∃β m,β<=m/\m<=ol.length/\(∀j,j<β->L j)/\(X β).f0=(X β).f/\(∀c,β<=c->B c->¬L c/\m<=c)/\(∀j o,ol[j]?=some o->cj G j o.op=true->(L j↔j<m))/\Fg x ⟨nR (g L β m) (dH κ β m) (X β).f ol,n,(X m).S,ds⟩) ?_ (λL x h=>h.1) ?_ ?_)
 ·refine⟨rfl,λ_ _ _ h=>h.elim,0,0,ap _,ck _,λj h=>un h (bg _),by rw[hX0],λc _ _=>⟨λh=>h,ck _⟩,λj o _ _=>⟨λh=>h.elim,λh=>un h (bg _)⟩,?_⟩;rw[show(X 0).S=S by rw[hX0]];refine Fg.tmps λt=>.inl ?_;rw[hfr,hg,(hbase _ 0).2 t λj o _ _ _ h=>h,hX0];rfl
 ·rintro L x i o ⟨hxn,hc,β,m,hβm,hml,hβ,hβ0,hβB,hm,hx⟩ hr;have ho:=hr.ju;have hil:=bq ho;obtain⟨p1,p2,p3⟩:=hP ho;have hβi:β<=i:=cn λh=>hr.new (hβ i h)
  have hc2:lM ol (λj=>L j\/j=i):=by
   intro j o' ho' hj e he hd
   rcases hj with hj | rfl
   ·exact .inl (hc j o' ho' hj e he hd)
   ·rw[ho'] at ho;cases ho;exact .inl (hr.dep e he hd)
  have hA:∀k,bG (ms.getD i 0) k=true->L k:=λk hk=>H9 hback.1 hc i o ho hr.dep (by rw[hms];exact hk);have hA2:∀j o' k,ol[j]?=some o'->L j->bG (ms.getD j 0) k=true->L k:=λj o' k hj hl hk=>H9 hback.1 hc j o' hj (hc j o' hj hl) (by rw[hms];exact hk);have hbi:∀c,β<=c->c<i->¬B c:=λc h1 h2 hb=>(hβB c h1 hb).1 (hA c ((hBo hb hil).2 h2))
  have hbm:∀c,β<=c->c<m->¬B c:=λc h1 h2 hb=>by have:=(hβB c h1 hb).2;omega
  have hbd:∀j o',β<=j->ol[j]?=some o'->L j->∀c,β<=c->c<j+1->¬B c:=by
   intro j o' h1 hj hl c h2 h3 hb;have hn:=(hβB c h2 hb).1;by_cases e:c=j
   ·subst e;exact hn hl
   ·exact hn (hA2 j o' c hj hl ((hBo hb (bq hj)).2 i4))
  have hKm:∀w,w<ol.length->κ w≠none->(L w↔w<m):=by
   intro w hw hk;obtain⟨ow,how⟩:=hat hw;have hnb:¬B w:=λhb=>hk ((hκ0 w).1 hb);refine hm w ow how ?_;cases hh:cj G w ow.op
   ·exact un ((hκ how hnb).wr hh) hk
   ·rfl
  by_cases hBi:B i
  ·
   obtain⟨o',ho',hbar⟩:=(hB0 i).1 hBi;rw[ho] at ho';cases ho'
   have hLi:∀j,j<ol.length->(L j↔j<i):=by
    intro j hj;refine⟨λhl=>?_,λh=>hA j ((hBo hBi hj).1 h)⟩
    rcases bV j i with h | rfl | h
    ·exact h
    ·exact un hl hr.new
    ·obtain⟨oj,hoj⟩:=hat hj;exact un (hA2 j oj i hoj hl ((hBo hBi hj).2 h)) hr.new
   have hmi:m<=i:=(hβB i hβi hBi).2
   have hkr:∀b v,dH κ b m v=dH κ b i v:=λb v=>(oG hmi λw _ h2 h3=>by
    cases hk:κ w with
    | none=>rfl
    | some k=>
     have:=(hKm w i4 (by rw[hk];nofun)).1 ((hLi w i4).2 h3)
     omega).symm
   have hSi:(X i).S=(X m).S:=hS m i hmi (ay hil) (λc h1 h2=>hbi c i4 h2) λj o' h1 h2 hj=>KC λe=>by have:=(hm j o' hj e).1 ((hLi j i4).2 h2);omega
   refine aL.fg (hx.trans (Fg.tmps (f':=(X i).f) λt=>.inl ?_)) ?_
   ·rw[hfr,hg,hkr];by_cases h:∃j o,β<=j/\ol[j]?=some o/\o.dst=some t/\L j
    ·obtain⟨j,o',h0,h1,h2,h3⟩:=h;have hji:=(hLi j (bq h1)).1 h3;rw[(hbase L β).1 j o' t h0 h1 h2 h3]
     exact hF (j+1) i t hji (ay hil) (λc g1 g2=>hbi c i4 g2) λk b g1 _ hk e=>by have:=hu h1 hk h2 e;omega
    ·rw[(hbase L β).2 t λj o' h0 h1 h2 h3=>h ⟨j,o',h0,h1,h2,h3⟩];exact hF β i t hβi (ay hil) hbi λk b g1 g2 hk e=>h ⟨k,b,g1,hk,e,(hLi k (bq hk)).2 g2⟩
   ·rw[<-hSi];refine hbar.op ds _ ⟨rfl,hc2,i+1,i+1,ap _,hil,λj hj=>?_,hbar.z,λc h1 hb=>⟨λh=>?_,h1⟩,λj o' hj _=>⟨λh=>?_,λh=>?_⟩,Fg.tmps λt=>.inl ?_⟩
    ·by_cases e:j=i
     ·exact .inr e
     ·exact .inl ((hLi j i4).2 i4)
    ·rcases h with h | rfl
     ·have:=(hLi c (hBl hb)).1 h;omega
     ·omega
    ·rcases h with h | rfl
     ·have:=(hLi j (bq hj)).1 h;omega
     ·omega
    ·by_cases e:j=i
     ·exact .inr e
     ·exact .inl ((hLi j (bq hj)).2 i4)
    ·rw[hfr,hg,(hbase _ (i+1)).2 t λj o' h0 h1 h2 h3=>?_,jK (ap _)]
     rcases h3 with h3 | rfl
     ·have:=(hLi j (bq h1)).1 h3;omega
     ·omega
  have hκi:=hκ ho hBi
  have hun:∀{t:Nat},(o.dst=some t\/t∈iK ol o)->∀w,β<=w->w<ol.length->w≠i->(i<w/\w<m\/m<=w/\w<i)->∀k,κ w=some k->aM k (aK (X w).f t)=aK (X w).f t/\aM k (aK (X β).f t)=aK (X β).f t:=by
   intro t hd w hbw hw hne hcase k hk;obtain⟨ow,how⟩:=hat hw;have hLw:=hKm w hw (by rw[hk];nofun)
   have b1:bG (ms.getD w 0) i=false:=by
    cases hb:bG (ms.getD w 0) i
    ·rfl
    ·rcases hcase with h | h
     ·exact un (hA2 w ow i how (hLw.2 h.2) hb) hr.new
     ·have:=JX hback.1 hms w ow how hb;omega
   have b2:bG (ms.getD i 0) w=false:=by
    cases hb:bG (ms.getD i 0) w
    ·rfl
    ·rcases hcase with h | h
     ·have:=JX hback.1 hms i o ho hb;omega
     ·have:=hLw.1 (hA w hb);omega
   have:=hT ho hne.symm b1 b2 hw hk hd;rw[hZ β w hbw (ay hw) λc h1 h2=>by rcases hcase with h | h;exact hbm c h1 i4;exact hbi c h1 i4,hβ0] at this;exact this
  have hstay:∀{t b:Nat},β<=b->(o.dst=some t\/t∈iK ol o)->b<=i+1->((b=β/\κ i=none)\/∀w,i<w->w<m->w<=ol.length->aK (X w).f t=dH κ b w (aK (X b).f t))->(∀w,w<=i->b<=w->aK (X w).f t=dH κ b w (aK (X b).f t))->(m<=i\/κ i=none)->dH κ b m (aK (X b).f t)=dH κ b i (aK (X b).f t):=by
   intro t b hβb hd hbi hw1 hw2 hκi
   rcases d8 m i with hmi | hmi
   ·refine(oG hmi λw h1 h2 h3=>?_).symm
    cases hk:κ w with
    | none=>rfl
    | some k=>rw[<-hw2 w i4 h1];exact(hun hd w i4 i4 i4 (.inr ⟨h2,h3⟩) k hk).1
   ·refine oG hmi λw h1 h2 h3=>?_;by_cases hwi:w=i
    ·subst hwi
     rcases hκi with h | h
     ·omega
     ·rw[h];rfl
    ·cases hk:κ w with
     | none=>rfl
     | some k=>
      have hu:=hun hd w i4 i4 hwi (.inl ⟨by omega,h3⟩) k hk
      rcases hw1 with⟨rfl,_⟩ | hw1
      ·rcases Fp (κ:=κ) (b:=b) (m:=w) (v:=aK (X b).f t) with h | h
       ·rw[h];exact hu.2
       ·rw[h];exact BF _
      ·rw[<-hw1 w i4 h3 i4];exact hu.1
  have hκw:cj G i o.op=false->κ i=none:=hκi.wr
  have hlook0:(m<=i\/κ i=none)->∀t∈iK ol o,g L β m t=aK (X i).f t:=by
   intro hκi t hlt
   have hbw:∀w,(w<=i\/i<w/\w<m)->∀b,β<=b->∀c,b<=c->c<w->¬B c:=λw hw b hb c h1 h2=>by rcases hw with hw | hw;exact hbi c i4 i4;exact hbm c i4 i4
   rw[hg];by_cases hno:∀j o,β<=j->ol[j]?=some o->o.dst≠some t
   ·rw[(hbase L β).2 t λj o' h0 hj hd=>un hd (hno j o' h0 hj)];have hh:=λw (h:w<=i\/i<w/\w<m) (hbw':β<=w) (hw:w<=ol.length)=>hF β w t hbw' hw (hbw w h β (ap _)) λj o' h1 _ hj=>hno j o' h1 hj;rw[hh i (.inl (ap _)) hβi (ay hil)];exact hstay (ap _) (.inr hlt) i4 (.inr λw h1 h2 h=>hh w (.inr ⟨h1,h2⟩) i4 h) (λw h h2=>hh w (.inl h) h2 i4) hκi
   ·simp only[ne_eq,Classical.not_forall,Decidable.not_not] at hno;obtain⟨j,o',hβj,hj,hd⟩:=hno
    rcases bV j i with hji | rfl | hji
    ·have h1:=(hP hj).2.2 i o hji ho;unfold Of at h1;rw[hd,al] at h1
     have hbit:bG (ms.getD i 0) j=true:=by
      have h2:=h1.2;rw[d3] at h2
      rcases h2 with h2 | h2
      ·exact h2
      ·simp[hlt] at h2
     rw[(hbase L β).1 j o' t hβj hj hd (hA j hbit)]
     have hh:=λw (h:w<=i\/i<w/\w<m) (h1:j+1<=w) (hw:w<=ol.length)=>hF (j+1) w t h1 hw (hbw w h (j+1) i4) λk b hik _ hk e=>by have:=hu hj hk hd e;omega
     rw[hh i (.inl (ap _)) hji (ay hil)];exact hstay i4 (.inr hlt) i4 (.inr λw h h3 h2=>hh w (.inr ⟨h,h3⟩) i4 h2) (λw h h2=>hh w (.inl h) h2 i4) hκi
    ·rw[hj] at ho;cases ho;exact un hlt (p1 t hd)
    ·have h1:=p3 j o' hji hj;unfold Of at h1;rw[hd,al,al,d3] at h1;have h2:=h1.1.2.resolve_left (by simp[hlt]);rw[(hbase L β).2 t λk b _ hk e hl=>hr.new (by have:=hu hj hk hd e;subst this;exact hA2 j o' i hj hl h2)]
     have hh:=λw (hw:w<=i) (hbw':β<=w)=>hF β w t hbw' i4 (hbw w (.inl hw) β (ap _)) λk b _ hki hk e=>by have:=hu hj hk hd e;omega
     rw[hh i (ap _) hβi]
     rcases hκi with hκi | hκi
     ·exact hstay (ap _) (.inr hlt) i4 (.inr λw h1 h2 _=>by omega) (λw h h2=>hh w h h2) (.inl hκi)
     ·exact hstay (ap _) (.inr hlt) i4 (.inl ⟨rfl,hκi⟩) (λw h h2=>hh w h h2) (.inr hκi)
  have hSS:(∀j o',ol[j]?=some o'->cj G j o'.op=true->(L j↔j<i))->(X m).S=(X i).S:=by
   intro hh
   rcases d8 i m with him | him
   ·exact hS i m him hml (λc h1 h2=>hbm c i4 h2) λj o' h1 h2 hj=>KC λe=>by have a:=hh j o' hj e;have b:=hm j o' hj e;have:=a.1 (b.2 h2);omega
   ·exact(hS m i him (ay hil) (λc h1 h2=>hbi c i4 h2) λj o' h1 h2 hj=>KC λe=>by have a:=hh j o' hj e;have b:=hm j o' hj e;have:=b.1 (a.2 h2);omega).symm
  have hlate:(X i).b=true->(∀j o',i<j->ol[j]?=some o'->cj G j o'.op=true->(∀c,i<c->c<j->¬B c)->bG (ms.getD j 0) i=true)->(X m).S=(X i).S:=by
   intro hb hh;refine hSS λj o' hj hd=>⟨λhl=>?_,λhlt=>?_⟩
   ·rcases bV j i with h1 | rfl | h1
    ·exact h1
    ·exact un hl hr.new
    ·refine un (hA2 j o' i hj hl (hh j o' h1 hj hd λc g1 g2=>hbd j o' i4 hj hl c i4 i4)) hr.new
   ·by_cases hjb:j<β
    ·exact hβ j hjb
    ·exact un hd (by rw[hB β i hβi (ay hil) hbi hb j o' i4 hlt hj];simp)
  refine aL.fg hx ?_
  have hbne:∀t,o.dst≠some t->base (λj=>L j\/j=i,β) t=base (L,β) t:=by
   intro t ht;by_cases h:∃j o,β<=j/\ol[j]?=some o/\o.dst=some t/\L j
   ·obtain⟨j,o',h0,h1,h2,h3⟩:=h;rw[(hbase _ β).1 j o' t h0 h1 h2 (.inl h3),(hbase L β).1 j o' t h0 h1 h2 h3]
   ·rw[(hbase L β).2 t λj o' h0 h1 h2 h3=>h ⟨j,o',h0,h1,h2,h3⟩,(hbase _ β).2 t λj o' h0 h1 h2 h3=>?_]
    rcases h3 with h3 | rfl
    ·exact h ⟨j,o',h0,h1,h2,h3⟩
    ·rw[ho] at h1;cases h1;exact ht h2
  have hβB2:∀c,β<=c->B c->¬(L c\/c=i)/\m<=c:=λc h1 hb=>⟨λh=>h.elim (hβB c h1 hb).1 λe=>hBi (e▸hb),(hβB c h1 hb).2⟩
  have lay:∀{d:Nat} {v:SV},o.dst=some d->cj G i o.op=false->aK (X (i+1)).f d=v->(λx=>(λx=>x.n=n/\lM ol (λj=>L j\/j=i)/\∃β m,β<=m/\m<=ol.length/\(∀j,j<β->(L j\/j=i))/\(X β).f0=(X β).f/\(∀c,β<=c->B c->¬(L c\/c=i)/\m<=c)/\(∀j o,ol[j]?=some o->cj G j o.op=true->((L j\/j=i)↔j<m))/\Fg x ⟨nR (g (λj=>L j\/j=i) β m) (dH κ β m) (X β).f ol,n,(X m).S,ds⟩) x) ⟨(d,v)::nR (g L β m) (dH κ β m) (X β).f ol,n,(X m).S,ds⟩:=by
   intro d v hd hwr hv;refine⟨rfl,hc2,β,m,hβm,hml,λj h=>.inl (hβ j h),hβ0,hβB2,λj o' hj hdj=>⟨λh=>?_,λh=>.inl ((hm j o' hj hdj).2 h)⟩,Fg.tmps λt=>.inl ?_⟩
   ·rcases h with h | rfl
    ·exact(hm j o' hj hdj).1 h
    ·rw[ho] at hj;cases hj;rw[hwr] at hdj;cases hdj
   ·rw[hfr,hg]
    show _=if d=t then v else aK (nR (g L β m) (dH κ β m) (X β).f ol) t
    by_cases e:d=t
    ·subst e;rw[ut rfl,(hbase _ β).1 i o d hβi ho hd (.inr rfl),hv]
     rcases d8 m (i+1) with h | h
     ·exact jK h
     ·refine(oG h λw h1 h2 h3=>?_).trans (jK (ap _))
      cases hk:κ w with
      | none=>rfl
      | some k=>
       rw[<-hv,<-hF (i+1) w d h1 i4 (λc g1 g2=>hbm c i4 i4) λj o' g1 _ g3 e=>by have:=hu ho g3 hd e;omega];exact(hun (.inl hd) w i4 i4 i4 (.inl ⟨by omega,h3⟩) k hk).1
    ·rw[v6 e,hfr,hg,hbne t λh=>e (by rw[hd] at h;exact Option.some.inj h)]
  have hstp:=hX i o ho;have top:∀{d:Nat} {v:SV} {f:Fm},aK ((d,v)::f) d=v:=λ{d v f}=>ut rfl;have hXi:∃x,X i=x:=⟨_,rfl⟩;have hXj:∃x,X (i+1)=x:=⟨_,rfl⟩;obtain⟨xi,hxi⟩:=hXi;obtain⟨xj,hxj⟩:=hXj
  have hst:de (ol.take (i+1)) n [o]=true:=by
   have:=hκi.st;unfold de at this ⊢;simp only[es,List.all_nil,ct] at this ⊢
   cases hg:o.guard with
   | none=>rw[hg] at this;exact this
   | some q=>obtain⟨j,w⟩:=q;rw[hg] at this;simp only at this ⊢;rw[d7,ut (by have:=p2 j w hg;omega)];exact this
  have hlook:(m<=i\/κ i=none)->(∀gd:Option (Nat×Bool),o.guard=gd->bM (ol.take (i+1)) (nR (g L β m) (dH κ β m) (X β).f ol) gd=bM ol (X i).f gd)/\∀x∈o.op.operands.toList,eP (nR (g L β m) (dH κ β m) (X β).f ol) x=eP (X i).f x:=by
   intro hκi
   have h1:∀t∈iK ol o,aK (nR (g L β m) (dH κ β m) (X β).f ol) t=aK (X i).f t:=λt ht=>by rw[hfr];exact hlook0 hκi t ht
   refine⟨λgd hgd=>?_,LN h1⟩;rw[<-hgd,<-Hi h1,hgd]
   cases gd with
   | none=>rfl
   | some q=>obtain⟨j,w⟩:=q;simp only[bM];rw[d7,ut (by have:=p2 j w hgd;omega)]
  rw[hxi,hxj] at hstp;by_cases hww:cj G i o.op=true
  ·have hb:∀j o',ol[j]?=some o'->cj G j o'.op=true->(L j↔j<i):=by
    intro j o' hj hdj
    rcases bV j i with h1 | rfl | h1
    ·exact⟨λ_=>h1,λ_=>hA j (hord hj ho h1 (by rw[hdj];rfl) (by rw[hww];rfl))⟩
    ·exact⟨λh=>un h hr.new,λh=>un h (Nat.lt_irrefl _)⟩
    ·exact⟨λhl=>un (hA2 j o' i hj hl (hord ho hj h1 (by rw[hww];rfl) (by rw[hdj];rfl))) hr.new,λh=>un h i4⟩
   have hmi:m<=i:=cn λh=>hr.new ((hm i o ho hww).2 h);have hl:=hlook (.inl hmi);obtain⟨v,S',k1,k3,k4⟩:=hκi.op hww
   have hrun:∀K,K ⟨pz (nR (g L β m) (dH κ β m) (X β).f ol) (κ i) o.dst v,n,S',ds⟩->aL P ro (ol.take (i+1)) [o] ⟨nR (g L β m) (dH κ β m) (X β).f ol,n,(X m).S,ds⟩ K:=by
    intro K hK
    rcases k1 with⟨k1,k2⟩ | ⟨k1,⟨d,k2⟩,rfl,rfl,k5⟩
    ·rw[hSS hb];exact k2 _ _ _ hst (by rw[hl.1 _ rfl,k1]) hl.2 hK
    ·refine aL.run (l':=[]) (f':=(d,.a lK)::nR (g L β m) (dH κ β m) (X β).f ol) (S':=(X i).S) hst (by rw[oT,hl.1 _ rfl,k1,k2,hSS hb];simp only[oT]) (.nil ?_);rw[k5,k2] at hK;exact hK
   refine hrun _ ⟨rfl,hc2,β,i+1,by omega,hil,λj h=>.inl (hβ j h),hβ0,λc h1 hb2=>⟨(hβB2 c h1 hb2).1,?_⟩,λj o' hj hdj=>⟨λh=>?_,λh=>?_⟩,?_⟩
   ·rcases bV c i with h | rfl | h
    ·exact un hb2 (hbi c h1 h)
    ·exact un hb2 hBi
    ·exact h
   ·rcases h with h | rfl
    ·have:=(hb j o' hj hdj).1 h;omega
    ·omega
   ·by_cases e:j=i
    ·exact .inr e
    ·exact .inl ((hb j o' hj hdj).2 i4)
   ·rw[k4];refine Fg.tmps λt=>.inl ?_
    have hr2:aK (pz (nR (g L β m) (dH κ β m) (X β).f ol) (κ i) o.dst v) t=if o.dst=some t then v else jJ (κ i) (g L β m t):=by
     have hk:aK (lB (nR (g L β m) (dH κ β m) (X β).f ol) (κ i)) t=jJ (κ i) (g L β m t):=by
      rw[<-hfr L β m t]
      cases κ i with
      | none=>rfl
      | some k=>exact ez _ _ _
     cases o.dst with
     | none=>rw[v6 nofun];exact hk
     | some d=>
      show(if d=t then v else _)=_;simp only[qr,hk]
    rw[hr2,hfr,hg];by_cases hd:o.dst=some t
    ·rw[ut hd,(hbase _ β).1 i o t hβi ho hd (.inr rfl),jK (ap _),k3 t hd]
    ·rw[v6 hd,hbne t hd,hg]
     have hmi2:dH κ (base (L,β) t) m (aK (X (base (L,β) t)).f t)=dH κ (base (L,β) t) i (aK (X (base (L,β) t)).f t):=by
      refine(oG hmi λw h1 h2 h3=>?_).symm
      cases hk:κ w with
      | none=>rfl
      | some k=>
       exfalso;have h4:=hKm w i4 (by rw[hk];nofun);obtain⟨ow,how⟩:=hat (show w<ol.length by omega)
       have hnb:¬B w:=λhb=>by rw[(hκ0 w).1 hb] at hk;cases hk
       have hwo:cj G w ow.op=true:=by
        cases hh:cj G w ow.op
        ·have:=(hκ how hnb).wr hh;rw[hk] at this;cases this
        ·rfl
       have:=h4.1 ((hb w ow how hwo).2 h3);omega
     rw[hmi2];by_cases hbl:base (L,β) t<=i
     ·exact sE hbl
     ·rw[jK i4,jK i4]
      cases hk:κ i with
      | none=>rfl
      | some k=>
       refine Eq.symm ?_;by_cases h:∃j o,β<=j/\ol[j]?=some o/\o.dst=some t/\L j
       ·obtain⟨j,o',h0,h1,h2,h3⟩:=h;rw[(hbase L β).1 j o' t h0 h1 h2 h3] at hbl ⊢
        have hij:j≠i:=λe=>by subst e;rw[ho] at h1;cases h1;exact hd h2
        have hnb:=hbd j o' h0 h1 h3;have:=(hκ h1 (hnb j h0 (a0 _))).v t h2 (i,k) (hKL (i+1) j _ i4 (ay (bq h1)) (λc g1 g2=>hnb c i4 i4) (hκi.k2 k hk))
        rcases this with this | this
        ·exact un (hA2 j o' i h1 h3 this) hr.new
        ·exact this
       ·rw[(hbase L β).2 t λj o' h0 h1 h2 h3=>h ⟨j,o',h0,h1,h2,h3⟩] at hbl;omega
  have hκn:=hκw (by simpa using hww);have hl:=hlook (.inr hκn)
  cases hstp with
  | s _ hd hw hwr=>
   refine aL.run (l':=[]) hst ?_ (.nil (lay (v:=.a lK) hd hwr (by rw[hxj];exact top)));rw[oT,hl.1 _ rfl,hxi,hw];simp only[hd,oT]
  | r _ hd hw hrd hop=>
   rename_i v _ _;refine aL.run (l':=[]) hst ?_ (.nil (lay (v:=v) hd (mE (vP hrd)) (by rw[hxj];exact top)));rw[oT,hl.1 _ rfl,hxi,hw,jj (by rw[hrd];rfl) hl.2,hxi,hop];simp only[hd,pz,lB,oT]
  | h _ hd hw hrd hop=>
   rename_i v _ _
   have e:=hlate (by rw[hxi]) λj o' hij hj hdj hnb=>by
    have h1:=(hκ hj (hBn hj hdj)).w hdj;exact all_eq_true.1 h1 i (hH (i+1) j i hij (ay (bq hj)) (λc g1 g2=>hnb c i4 g2) (by rw[hxj];exact bv))
   rw[hxi] at e;refine aL.run (l':=[]) hst ?_ (.nil (lay (v:=v) hd (mE (vP hrd)) (by rw[hxj];exact top)));rw[oT,hl.1 _ rfl,hxi,hw,jj (by rw[hrd];rfl) hl.2,hxi,e,hop];simp only[hd,pz,lB,oT]
  | k _ hop hd hw hdy he hcs hq hwk _ hfl=>
   have hkw:cj G i o.op=false:=by rw[hop];exact mE (Nb hdy)
   have e:=hlate (by rw[hxi]) λj o' hij hj hdj _=>hord ho hj hij (by rw[hop,hdy,dv]) (by rw[hdj];rfl);rw[hxi] at e;refine aL.k hst hop hd (by rw[hl.1 _ rfl,hxi];exact hw) hdy (by rw[EM (by rw[<-hop];exact hl.2),hxi];exact hcs) hq (by rw[e];exact hwk) hfl (.nil (lay hd hkw (by rw[hxj];exact top)))
  | sk _ _ _ hwr=>exact un hwr hww
  | e _ _ hwr=>exact un hwr hww
  | a _ _ hwr=>exact un hwr hww
  | x _ _ hwr=>exact un hwr hww
  | g _ hd hw hG _ hop=>
   refine hop _ _ _ _ hst (by rw[hl.1 _ rfl,hxi];exact hw) (λx hx=>(hl.2 x hx).trans (by rw[hxi])) (lay hd (by unfold cj;rw[hG,ca,cd]) (by rw[hxj];exact top))
  | Pm h1 h2 h3=>exact un ((hB0 i).2 ⟨o,ho,by rw[hxi,hxj];exact⟨h1,h2,h3,rfl⟩⟩) hBi
 ·rintro L x ⟨hxn,hc,β,m,hβm,hml,hβ,hβ0,hβB,hm,hx⟩ hall;have hnb:∀c,β<=c->¬B c:=λc h1 hb=>(hβB c h1 hb).1 (hall c (hBl hb))
  have hSe:(X m).S=z.S:=by
   rw[<-hXN];exact(hS m ol.length hml (ap _) (λc h1 _=>hnb c i4) λj o h1 h2 hj=>KC λe=>by have:=(hm j o hj e).1 (hall j h2);omega).symm
  rw[hSe] at hx;refine⟨⟨z.f,n,z.S,ds⟩,hx.trans (Fg.tmps λt=>.inl ?_),hz⟩
  have hκm:∀b v,dH κ b m v=dH κ b ol.length v:=λb v=>(oG hml λw _ h2 h3=>by
   cases hk:κ w with
   | none=>rfl
   | some k=>
    exfalso;obtain⟨ow,how⟩:=hat h3
    have hnw:¬B w:=λhb=>by rw[(hκ0 w).1 hb] at hk;cases hk
    have hww:cj G w ow.op=true:=by
     cases hh:cj G w ow.op
     ·have:=(hκ how hnw).wr hh;rw[hk] at this;cases this
     ·rfl
    have:=(hm w ow how hww).1 (hall w h3)
    omega).symm
  rw[hfr,hg,hκm,<-hXN];by_cases hno:∃j o,β<=j/\ol[j]?=some o/\o.dst=some t
  ·obtain⟨k,o',h0,hk,hd'⟩:=hno;rw[(hbase L β).1 k o' t h0 hk hd' (hall k (bq hk))]
   exact hF (k+1) ol.length t (bq hk) (ap _) (λc h1 _=>hnb c i4) λj b h1 _ hj e=>by have:=hu hj hk e hd';omega
  ·rw[(hbase L β).2 t λj o' h0 hj hd=>un ⟨j,o',h0,hj,hd⟩ hno];exact hF β ol.length t i4 (ap _) (λc h1 _=>hnb c h1) λj o' h0 _ hj hd=>hno ⟨j,o',h0,hj,hd⟩
def aG.M8{id:Nat}{st:eu}(hol:ops.toList=ol)(hms:mN ol []=ms)(hok:((jA 0 ol&&P.follows .mixedOrders)&&(vO ol ms (cq 0 ol)&&EO [] ms (cq 0 ol)))=true)
 (h:ej [] P ro ol ms st.n st.f [] true [] (cq 0 ol) st.f st.S λf' S'=>Q .normal ⟨f',st.n,S',st.ds⟩):aG P ro (.region id ops true) st Q:=.uQ [] hol hms hok h
def SD(P:Program)(ro:Option Nat)(all:List Oper)(ms:List Nat)(n:Nat)(b:Bool)(hp:List Nat)(l:List (Nat×Oper))(f:Fm)(S:List SO)(K:Fm->List SO->Prop):Prop:=∀f0,ej [] P ro all ms n f0 [] b hp l f S K
def Ru{i:Nat}(h:tG op=true):cj [] i op=true:=by unfold cj sC;rw[h];rfl
section
variable {all:List Oper} {ms:List Nat} {n:Nat} {b:Bool} {hp:List Nat} {l:List (Nat×Oper)} {f:Fm} {S:List SO} {K:Fm->List SO->Prop} {i:Nat} {o:Oper} {d:Nat}
def SD.nil(h:K f S):SD P ro all ms n b hp [] f S K:=λ_=>.nil h
theorem SD.s(hst:de all n [o]=true)(hdst:o.dst=some d)(hw:bM all f o.guard=some false)(hwr:sC o.op=false)(q:SD P ro all ms n b hp l ((d,.a lK)::f) S K):SD P ro all ms n b hp ((i,o)::l) f S K:=λf0=>.s hst hdst hw (mE hwr) (q f0)
theorem SD.r{v:SV}{S':List SO}{kill:Option Nat}(hst:de all n [o]=true)(hdst:o.dst=some d)(hw:bM all f o.guard=some true)(hrr:(jS o.op&&(b||!H3 o.op))=true)(hop:dj P f S o.op=some (v,S',kill))
 (hk:SD P ro all ms n b (_root_.cond (H3 o.op) (i::hp) hp) l ((d,v)::f) S K):SD P ro all ms n b hp ((i,o)::l) f S K:=λf0=>.r hst hdst hw hrr hop (hk f0) trivial
def SD.ri{tt:TypeId}{x:Operand}{cs0:List SV}{v:SV}(hst:de all n [o]=true)(hdst:o.dst=some d)(hw:bM all f o.guard=some true)(hop:o.op=.load tt x)(hx:eP f x=some (.ip cs0))(hv:tM P tt cs0 0=some v)
 (q:SD P ro all ms n b hp l ((d,v)::f) S K):SD P ro all ms n b hp ((i,o)::l) f S K:=λf0=>.ri hst hdst hw hop hx hv trivial (q f0)
theorem SD.k{cl:Call}{g:FuncId}{vs ws:List SV}{r:SV}(hst:de all n [o]=true)(hop:o.op=.call cl)(hdst:o.dst=some d)(hw:bM all f o.guard=some true)(hdy:fE (.call cl)=true)(he:tF (.call cl)=true)
 (hc:iE P f cl=some (g,vs)) (hq:PC P g ws (·=r)) (hwk:cu S vs ws) (hr:vJ r=true) (q:SD P ro all ms n true hp l ((d,r)::f) S K):SD P ro all ms n true hp ((i,o)::l) f S K:=λf0=>.k hst hop hdst hw hdy he hc hq hwk hr (q f0)
theorem SD.e{v:SV}{S':List SO}(hst:de all n [o]=true)(hdst:o.dst=none)(hw:bM all f o.guard=some true)(he:tF o.op=true)(hwr:tG o.op=true)(hms:hp.all (λj=>bG (ms.getD i 0) j)=true)(hop:dj P f S o.op=some (v,S',none))
 (q:SD P ro all ms n false hp l f S' K):SD P ro all ms n b hp ((i,o)::l) f S K:=λf0=>.e hst hw (Ru hwr) hms hop trivial (by rw[hdst];exact q f0)
def SD.ed{v:SV}{S':List SO}(hst:de all n [o]=true)(hdst:o.dst=some d)(hw:bM all f o.guard=some true)(he:tF o.op=true)(hwr:tG o.op=true)(hms:hp.all (λj=>bG (ms.getD i 0) j)=true)(hop:dj P f S o.op=some (v,S',none))
 (q:SD P ro all ms n false hp l ((d,v)::f) S' K):SD P ro all ms n b hp ((i,o)::l) f S K:=λf0=>.e hst hw (Ru hwr) hms hop trivial (by rw[hdst];exact q f0)
end
def aG.S6{id:Nat}{st:eu}(hol:ops.toList=ol)(hms:mN ol []=ms)(hok:((jA 0 ol&&P.follows .mixedOrders)&&(vO ol ms (cq 0 ol)&&EO [] ms (cq 0 ol)))=true)
 (h:SD P ro ol ms st.n true [] (cq 0 ol) st.f st.S λf' S'=>Q .normal ⟨f',st.n,S',st.ds⟩):aG P ro (.region id ops true) st Q:=.M8 hol hms hok (h _)
end
end
end Go.Ev
namespace Go.Proofs
open Go.Ev
set_option maxRecDepth 100000
def dz:sP prog:=P6 (by kernel_rfl)
def Ha:Mx prog 322 .indexByte:=Mx.indexByte λx c w=>by
 rw[run_callFunc_extern Tryz.func322 (by kernel_rfl) (by kernel_rfl) (by kernel_rfl) (e:=Extern.BytealgIndexByte.indexByte) (by kernel_rfl),Lib.run_indexByteString];rfl
variable{a:Prop}{b:Prop}
def bu(x:a)(y:b):a/\b:=⟨x,y⟩
variable{c:Prop}
def cJ(x:a)(y:b)(z:c):a/\b/\c:=⟨x,y,z⟩
variable{d:Prop}
def gm(x:a)(y:b)(z:c)(w:d):a/\b/\c/\d:=⟨x,y,z,w⟩
variable{e:Prop}
def lk(x:a)(y:b)(z:c)(w:d)(u:e):a/\b/\c/\d/\e:=⟨x,y,z,w,u⟩
variable{f:Prop}
def uP(x:a)(y:b)(z:c)(w:d)(u:e)(v:f):a/\b/\c/\d/\e/\f:=⟨x,y,z,w,u,v⟩
variable{g:Prop}
def Hm(a1:a)(b1:b)(c1:c)(d1:d)(e1:e)(f1:f)(g1:g):a/\b/\c/\d/\e/\f/\g:=⟨a1,b1,c1,d1,e1,f1,g1⟩
def TL{h:Prop}(a1:a)(b1:b)(c1:c)(d1:d)(e1:e)(f1:f)(g1:g)(h1:h):a/\b/\c/\d/\e/\f/\g/\h:=⟨a1,b1,c1,d1,e1,f1,g1,h1⟩
def Mj{h i:Prop}(a1:a)(b1:b)(c1:c)(d1:d)(e1:e)(f1:f)(g1:g)(h1:h)(i1:i):a/\b/\c/\d/\e/\f/\g/\h/\i:=⟨a1,b1,c1,d1,e1,f1,g1,h1,i1⟩
def MX{h i j:Prop}(a1:a)(b1:b)(c1:c)(d1:d)(e1:e)(f1:f)(g1:g)(h1:h)(i1:i)(j1:j):a/\b/\c/\d/\e/\f/\g/\h/\i/\j:=⟨a1,b1,c1,d1,e1,f1,g1,h1,i1,j1⟩
def Tj:ch 1 SO.gone=[.gone]:=rfl
def Tk:ch 2 SO.gone=[.gone,.gone]:=rfl
def Tl:ch 3 SO.gone=[.gone,.gone,.gone]:=rfl
def Tm:ch 4 SO.gone=[.gone,.gone,.gone,.gone]:=rfl
def QB:type_of% Tj/\type_of% Tk/\type_of% Tl/\type_of% Tm:=⟨Tj,Tk,Tl,Tm⟩
variable{p:Prop}
def zl(h:p:=by simp only[cL,bI,an,aC,m7,m6,↓reduceIte,Nat.reduceEqDiff,Nat.reduceAdd,Nat.reduceMul,Nat.reduceLeDiff,Nat.reduceLT,ak,au,bl];first | done | rfl):p:=h
variable{r:Prop}
def me(k:r)(h:r->p:=by intro k;simp only[cL,bI,an,aC,m7,m6,↓reduceIte,Nat.reduceEqDiff,Nat.reduceAdd,Nat.reduceMul,Nat.reduceLeDiff,Nat.reduceLT,ak,au,bl,k];first | done | rfl):p:=h k
def zc(h:p:=by simp only[cL,bI,an,aC,m7,m6,↓reduceIte,Nat.reduceEqDiff,Nat.reduceAdd,Nat.reduceMul,Nat.reduceLeDiff,Nat.reduceLT,ak,au,bl,iE];first | done | rfl):p:=h
def Cg(k:r)(h:r->p:=by intro k;simp only[cL,bI,an,aC,m7,m6,↓reduceIte,Nat.reduceEqDiff,Nat.reduceAdd,Nat.reduceMul,Nat.reduceLeDiff,Nat.reduceLT,ak,au,bl,iE,k];first | done | rfl):p:=h k
variable{q:Prop}
def Hp(f:r)(h:r->p->q:=by intro f h;(repeat (first | refine SD.ri ii rfl ii rfl (me @f) (me @f) ?_ | refine SD.r ii rfl ii ii (me @f) ?_ | refine SD.s ii rfl ii ii ?_ | fail));exact h)(k:p):q:=h f k
def qg(h:p->q:=by intro h;(repeat (first | refine SD.ri ii rfl ii rfl zl zl ?_ | refine SD.r ii rfl ii ii zl ?_ | refine SD.s ii rfl ii ii ?_ | fail));exact h)(k:p):q:=h k
def zj(h:p:=by (repeat' apply And.intro)<;>first | exact .inl rfl | trivial):p:=h
def zW(h:p:=by kernel_rfl):p:=h
def zV(h:p->q:=by intro h;(repeat refine aG.seq ?_);refine aG.r0 ii zl ?_;(try change aG _ _ _ _ _);exact h)(k:p):q:=h k
def aD(f:r)(h:r->p->q:=by intro f h;(repeat refine aG.seq ?_);refine aG.r0 ii (me @f) ?_;(try change aG _ _ _ _ _);exact h)(k:p):q:=h f k
def zC(h:p->q:=by intro h;(repeat refine aG.seq ?_);refine aG.Rk ii zl ?_;exact h)(k:p):q:=h k
def e9(f:r)(h:r->p->q:=by intro f h;(repeat refine aG.seq ?_);refine aG.Rk ii (me @f) ?_;exact h)(k:p):q:=h f k
def zR(h:p->q:=by intro h;refine aL.r0 ii zl ?_;(try change aG _ _ _ _ _);exact h)(k:p):q:=h k
def cP(f:r)(h:r->p->q:=by intro f h;refine aL.r0 ii (me @f) ?_;(try change aG _ _ _ _ _);exact h)(k:p):q:=h f k
def zQ(h:p->q:=by intro h;refine aL.run ii zl ?_;exact h)(k:p):q:=h k
def Mf(f:r)(h:r->p->q:=by intro f h;refine aL.run ii (me @f) ?_;exact h)(k:p):q:=h f k
def zY(h:p->q:=by intro h;(repeat refine aG.seq ?_);refine aG.yes rfl ?_;(try (refine aG.skip ?_;try change aG _ _ _ _ _));exact h)(k:p):q:=h k
def zN(h:p->q:=by intro h;(repeat refine aG.seq ?_);refine aG.no rfl ?_;(try (refine aG.skip ?_;try change aG _ _ _ _ _));exact h)(k:p):q:=h k
def zE(h:p->q:=by intro h;refine aG.ret ?_;(try simp only[eN,c8,bW,bK]);exact h)(k:p):q:=h k
def zB(h:p->q:=by intro h;(repeat refine aG.seq ?_);refine aG.block ?_;exact h)(k:p):q:=h k
section
variable {P:Program} {ro:Option Nat} {f:Fm} {n:Nat} {S:List SO} {ds:List jv} {Q:Ex->eu->Prop}
variable{all:List Oper}{K:eu->Prop}{vs:List SV}
def zK{o:Oper}{l:List Oper}{d:Nat}{c:Call}{g:FuncId}{ws:List SV}{r:SV}(hq:PC P g ws (·=r))
 (hst:de all n [o]=true:=by rfl) (hop:o.op=.call c:=by rfl) (hdst:o.dst=some d:=by rfl) (hw:bM all f o.guard=some true:=by rfl) (hdy:fE (.call c)=true:=by rfl)
 (hc:iE P f c=some (g,vs):=by exact zc) (hwk:cu S vs ws:=by first | exact cu.refl rfl | ((repeat' (first | exact cu.nil | apply cu.cons | exact Wk.refl rfl | exact Wk.nil _ | apply Wk.ag | apply Wk.cx | apply Wk.fn | refine Wk.ptr rfl ?_ (by first | decide | (simp only[bI];omega)) | refine Wk.buf rfl ?_ (by first | decide | (simp only[bI];omega)) | refine Wk.map rfl ?_ | exact cu.refl rfl));done)) (hfl:vJ r=true\/cu [] vs ws:=by exact .inl rfl) (hk:aL P ro all l ⟨(d,r)::f,n,S,ds⟩ K):aL P ro all (o::l) ⟨f,n,S,ds⟩ K:=
 aL.k hst hop hdst hw hdy hc hq hwk hfl hk
variable{fn:Func}{Qr:SV->Prop}
def zO{e:Ex}{r:SV}(rs:List ResultVar)(he:ke e=true:=by rfl)(hr:fn.results.toList=rs:=by rfl)(h:oQ P f S rs=some vs:=by exact zl)(hw:Wk S (eC vs) r:=by exact Wk.refl rfl)(hq:Qr r:=by (try simp only[eC,bJ]);first | done | rfl):Bh P fn Qr e ⟨f,n,S,[]⟩:=Bh.of he hr h hw hq
variable{S':List SO}
def zH{f':Fm}(hf:uI f f':=by (simp only[cL,bI,fF,an,↓reduceIte,Nat.reduceEqDiff])<;>(repeat' apply And.intro)<;>first | rfl | trivial)(hs:Cn S S' 0:=by (simp only[cL,bI,an,or_true,true_or])<;>(repeat' apply And.intro)<;>first | exact .inr rfl | exact .inl rfl | trivial):Fg ⟨f,n,S,ds⟩ ⟨f',n,S',ds⟩:=Fg.less hf hs
def cf{f':Fm}(k:r)(hf:r->uI f f':=by intro k;(simp only[cL,bI,fF,an,↓reduceIte,Nat.reduceEqDiff,k])<;>(repeat' apply And.intro)<;>first | rfl | trivial)(hs:r->Cn S S' 0:=by intro k;(simp only[cL,bI,an,or_true,true_or,k])<;>(repeat' apply And.intro)<;>first | exact .inr rfl | exact .inl rfl | trivial):Fg ⟨f,n,S,ds⟩ ⟨f',n,S',ds⟩:=Fg.less (hf k) (hs k)
def zG(h:p:=by (simp only[xL,cL,bI,true_or,or_true,↓reduceIte,Nat.reduceEqDiff])<;>(repeat' apply And.intro)<;>first | exact .inl rfl | trivial | exact .inr (Wk.buf rfl (cu.refl rfl) (by first | decide | (simp only[bI];omega))) | exact .inr (Wk.map rfl (cu.refl rfl)) | exact .inr (Wk.ptr rfl (cu.refl rfl) (by first | decide | (simp only[bI];omega)))):p:=h
def gw(k:r)(h:r->p:=by intro k;((simp only[xL,cL,bI,true_or,or_true,↓reduceIte,Nat.reduceEqDiff,k])<;>(repeat' apply And.intro)<;>first | exact .inl rfl | trivial | exact .inr (Wk.buf rfl (cu.refl rfl) (by first | decide | (simp only[bI];omega))) | exact .inr (Wk.map rfl (cu.refl rfl)) | exact .inr (Wk.ptr rfl (cu.refl rfl) (by first | decide | (simp only[bI];omega))))):p:=h k
def zZ{c:Code}(f':Fm)(o:Nat){so:SO}(hS:S[o]?=some so)(hf:xL (jq o so) f f')(h:aG P ro c ⟨f',n,S.set o .gone,ds⟩ Q)(hg:so≠.gone:=by intro h;cases h):aG P ro c ⟨f,n,S,ds⟩ Q:=aG.fg (Fg.freeze o hS hg hf) h
def zA{c:Code}(f':Fm)(S':List SO)(hf:Fg ⟨f,n,S,ds⟩ ⟨f',n,S',ds⟩)(h:aG P ro c ⟨f',n,S',ds⟩ Q):aG P ro c ⟨f,n,S,ds⟩ Q:=aG.fg hf h
def oZ{l:List Oper}(f':Fm)(o:Nat){so:SO}(hS:S[o]?=some so)(hf:xL (jq o so) f f')(h:aL P ro all l ⟨f',n,S.set o .gone,ds⟩ K)(hg:so≠.gone:=by intro h;cases h):aL P ro all l ⟨f,n,S,ds⟩ K:=aL.fg (Fg.freeze o hS hg hf) h
def oA{l:List Oper}(f':Fm)(S':List SO)(hf:Fg ⟨f,n,S,ds⟩ ⟨f',n,S',ds⟩)(h:aL P ro all l ⟨f',n,S',ds⟩ K):aL P ro all l ⟨f,n,S,ds⟩ K:=aL.fg hf h
def zr{S0:List SO}{v:List SV}(h:bR v=true:=by rfl):cu S0 v v:=cu.refl h
def zs(h:p->q:=by intro h;(repeat refine aG.seq ?_);exact h)(k:p):q:=h k
variable{α:Type}{id:Nat}
def zL(l:List α)(I:Nat->Prop)(fr:Nat->Fm)(T:Nat->List SO){x:Code}(hf:Fg ⟨f,n,S,[]⟩ ⟨fr 0,n,T 0,[]⟩)(h0:I 0)
 (h:∀k,k<=l.length->I k->aG P ro x ⟨fr k,n,T k,[]⟩ (bW (λm st=>∃k,k<=l.length/\m=l.length-k/\I k/\st=⟨fr k,n,T k,[]⟩) (l.length-k) (eN id Q))):aG P ro (.block id (.loop x)) ⟨f,n,S,[]⟩ Q:=
 aG.block (aG.loop (λm st=>∃k,k<=l.length/\m=l.length-k/\I k/\st=⟨fr k,n,T k,[]⟩) l.length hf ⟨0,ck _,rfl,h0,rfl⟩ (by rintro m st ⟨k,_,_,_,rfl⟩;rfl) (by rintro m st ⟨k,hk,rfl,hI,rfl⟩;exact h k hk hI))
variable{l:List α}{k:Nat}
def zX{I:Nat->Prop}{fr:Nat->Fm}{T:Nat->List SO}{st:eu}(hlt:k<l.length)(hf:Fg st ⟨fr (k+1),n,T (k+1),[]⟩)(hI:I (k+1)):
 bW (λm st=>∃k,k<=l.length/\m=l.length-k/\I k/\st=⟨fr k,n,T k,[]⟩) (l.length-k) Q .normal st:=⟨l.length-(k+1),_,by omega,hf,k+1,hlt,rfl,hI,rfl⟩
def zi{L B:Nat}(h1:k<L)(h2:L<=B)(t:TypeId)(hB:B<=9223372036854775807:=by decide):dk Tryz.prog .add t (.int .i64 (k:Int)) (.int .i64 1)=some (.int .i64 ((k:Int)+1)):=xh (Nz h1 h2 hB)
def zt{n:Nat}(h:k<n):decide ((k:Int)<(n:Int))=true:=by simp only[wp];omega
def zS{o:Oper}{l:List Oper}{d:Nat}{c:Call}{g:FuncId}{ws:List SV}{mv:List Nat}{S0 S1 S2:List SO}{r0 r2:SV}{f2:Fm}(os:List Nat)(k:r)(hq:SC P g ws S0 mv (λr S'=>r=r0/\S'=S1))
 (hk:aL P ro all l ⟨(d,r2)::f2,n,S2,ds⟩ K) (hst:de all n [o]=true:=by rfl) (hop:o.op=.call c:=by rfl) (hdst:o.dst=some d:=by rfl) (hw:bM all f o.guard=some true:=by rfl) (hdy:fE (.call c)=true:=by rfl)
 (hc:iE P f c=some (g,vs):=by exact zc) (hvs:r->mP (jQ os S.length) ws=vs:=by intro k;simp only[gn,bI,an,↓reduceIte,Nat.reduceEqDiff,Nat.reduceAdd,Nat.reduceSub,Nat.reduceMul,Nat.reduceLeDiff,Nat.reduceLT,k];first | done | rfl) (hK:os.length=S0.length:=by rfl) (hnd:os.Nodup:=by decide)
 (hos:r->CR S (jQ os S.length) S0 os:=by intro k;simp only[CR,gn,bI,an,k]<;>(repeat' apply And.intro)<;>first | trivial | rfl | (intro hh;cases hh))
 (hb1:r->dD S1.length r0=true:=by intro k;simp only[B5,gn,bI,an,Nat.reduceAdd,Nat.reduceLT,decide_true,k];first | done | rfl) (hb2:r->uM S1.length S1=true:=by intro k;simp only[B5,gn,bI,an,Nat.reduceAdd,Nat.reduceLT,decide_true,k];first | done | rfl)
 (hr:r->fo (jQ os S.length) r0=r2:=by intro k;simp only[gn,bI,an,↓reduceIte,Nat.reduceEqDiff,Nat.reduceAdd,Nat.reduceSub,Nat.reduceMul,Nat.reduceLeDiff,Nat.reduceLT,k];first | done | rfl) (hf:r->nY (dh os mv S.length (S1.length-os.length)) f=f2:=by intro k;simp only[gn,bI,an,↓reduceIte,Nat.reduceEqDiff,Nat.reduceAdd,Nat.reduceSub,Nat.reduceMul,Nat.reduceLeDiff,Nat.reduceLT,k,bX,cA,bF,aM,cL];first | done | rfl) (hS:r->dM S os mv S1=S2:=by intro k;simp only[gn,bI,an,↓reduceIte,Nat.reduceEqDiff,Nat.reduceAdd,Nat.reduceSub,Nat.reduceMul,Nat.reduceLeDiff,Nat.reduceLT,k,bX,cA,bF,aM,cL];first | done | rfl):aL P ro all (o::l) ⟨f,n,S,ds⟩ K:=
 aL.sk os hst hop hdst hw hdy hc hq (hvs k) hK hnd (hos k) (hb1 k) (hb2 k) (hr k) (hf k) (hS k) hk
def zP{K:Nat}{mv:List Nat}{Qs:SV->List SO->Prop}{e:Ex}(rs:List ResultVar)(he:ke e=true:=by rfl)(hr:fn.results.toList=rs:=by rfl)(h:oQ P f S rs=some vs:=by exact zl)
 (hq:Qs (eC vs) S:=by (try simp only[eC,bJ]);first | done | exact⟨rfl,rfl⟩ | exact⟨trivial,trivial⟩ | exact⟨rfl,trivial⟩ | exact⟨trivial,rfl⟩ | trivial) (hK:K<=S.length:=by first | decide | (simp only[bI];omega)) (hw:∀i,i<K->i∉mv->aK f (1000000+i)=.ptr i 0:=by intro i hi;have hi2:i<_:=hi;clear hi;simp only[i7,i5,Nat.zero_add,Nat.reduceAdd,Nat.not_lt_zero] at hi2<;>(rcases i with _ | i<;>first | (exfalso;omega) | (intro hm_;first | rfl | (exfalso;apply hm_;simp;done)) | (rcases i with _ | i<;>first | (exfalso;omega) | (intro hm_;first | rfl | (exfalso;apply hm_;simp;done)) | (rcases i with _ | i<;>first | (exfalso;omega) | (intro hm_;first | rfl | (exfalso;apply hm_;simp;done)))))):KD P fn K mv Qs e ⟨f,n,S,[]⟩:=KD.of he hr h hq hK hw
def zD(h:p->q:=by intro h;(repeat (first | refine SD.r ii rfl ii ii zl ?_ | refine SD.s ii rfl ii ii ?_ | fail));exact h)(k:p):q:=h k
def uH(f:r)(h:r->p->q:=by intro f h;(repeat (first | refine SD.r ii rfl ii ii (me @f) ?_ | refine SD.s ii rfl ii ii ?_ | fail));exact h)(k:p):q:=h f k
def zM(h:p->q:=by intro h;refine SD.nil ?_;(try change aG _ _ _ _ _);exact h)(k:p):q:=h k
def zp(h:p:=by first | exact λi y h=>un h (Nat.not_lt_zero _) | trivial | rfl | assumption):p:=h
def nh{ops:Array Oper}{st:eu}{ol:List Oper}(ms:List Nat)(h:SD P ro ol ms st.n true [] (cq 0 ol) st.f st.S λf' S'=>Q .normal ⟨f',st.n,S',st.ds⟩)(hol:ops.toList=ol:=by rfl)(hms:mN ol []=ms:=by kernel_rfl)(hok:((jA 0 ol&&P.follows .mixedOrders)&&(vO ol ms (cq 0 ol)&&EO [] ms (cq 0 ol)))=true:=by kernel_rfl):aG P ro (.region id ops true) st Q:=aG.S6 hol hms hok h
def zw(h:p:=by first | exact cu.refl rfl | ((repeat' (first | exact cu.nil | apply cu.cons | exact Wk.refl rfl | exact Wk.nil _ | apply Wk.ag | apply Wk.cx | apply Wk.fn | refine Wk.ptr rfl ?_ (by first | decide | (simp only[bI];omega)) | refine Wk.buf rfl ?_ (by first | decide | (simp only[bI];omega)) | refine Wk.map rfl ?_ | exact cu.refl rfl));done)):p:=h
def xJ(k:c)(h:c->p->q:=by intro f h;refine SD.k ii rfl rfl ii rfl rfl (by exact zc) f zw rfl h)(kk:p):q:=h k kk
def zv(h:p:=by (try simp only[eC,bJ]);(repeat' (first | exact Wk.refl rfl | exact cu.nil | apply cu.cons | exact Wk.nil _ | apply Wk.ag | apply Wk.cx | refine Wk.ptr rfl ?_ (by first | decide | (simp only[bI];omega)) | refine Wk.buf rfl ?_ (by first | decide | (simp only[bI];omega)) | refine Wk.map rfl ?_ | exact cu.refl rfl))):p:=h
def T0(h:p:=by (simp only[cL,bI,fF,an,↓reduceIte,Nat.reduceEqDiff])<;>(repeat' apply And.intro)<;>first | rfl | trivial):p:=h
def Us(k:r)(h:r->p:=by intro k;(simp only[cL,bI,fF,an,↓reduceIte,Nat.reduceEqDiff,k])<;>(repeat' apply And.intro)<;>first | rfl | trivial):p:=h k
def Vq(h:p:=by (simp only[cL,bI,an,or_true,true_or])<;>(repeat' apply And.intro)<;>first | exact .inr rfl | exact .inl rfl | trivial):p:=h
def Ut(k:r)(h:r->p:=by intro k;(simp only[cL,bI,an,or_true,true_or,k])<;>(repeat' apply And.intro)<;>first | exact .inr rfl | exact .inl rfl | trivial):p:=h k
def zq(h:p:=by (try simp only[eC,bJ]);first | done | rfl):p:=h
def Vr(h:p:=by (try simp only[eC,bJ]);first | done | exact⟨rfl,rfl⟩ | exact⟨trivial,rfl⟩ | exact⟨rfl,trivial⟩ | exact⟨trivial,trivial⟩):p:=h
def zg(h:p:=by intro i hi;have hi2:i<_:=hi;clear hi;simp only[i7,i5,Nat.zero_add,Nat.reduceAdd,Nat.not_lt_zero] at hi2<;>(rcases i with _ | i<;>first | (exfalso;omega) | (intro hm_;first | rfl | (exfalso;apply hm_;simp;done)) | (rcases i with _ | i<;>first | (exfalso;omega) | (intro hm_;first | rfl | (exfalso;apply hm_;simp;done)) | (rcases i with _ | i<;>first | (exfalso;omega) | (intro hm_;first | rfl | (exfalso;apply hm_;simp;done)))))):p:=h
def zd(h:p:=by first | decide | (simp only[bI];omega)):p:=h
def C7(k:Nat):(k:Int)+1=((k+1:Nat):Int):=rfl
def bA(a b:Int)(h : -9223372036854775808<=a+b/\a+b<=9223372036854775807)(P:Program)(t:TypeId):dk P .add t (.int .i64 a) (.int .i64 b)=some (.int .i64 (a+b)):=xh h
def bS(a b:Int)(h : -9223372036854775808<=a-b/\a-b<=9223372036854775807)(P:Program)(t:TypeId):dk P .sub t (.int .i64 a) (.int .i64 b)=some (.int .i64 (a-b)):=Jy h
def Mg(k:r)(h:r->p:=by intro k;(simp only[sA,gn,bI,an,k])<;>(repeat' apply And.intro)<;>first | trivial | exact .inl rfl | exact .inr rfl | exact .inr trivial | exact .inl trivial):p:=h k
def Mh(k:r)(h:r->p:=by intro k;(simp only[cL,gn,bI,an,k])<;>(repeat' apply And.intro)<;>first | rfl | trivial):p:=h k
def pB(n:Nat){g:FuncId}{c:Code}{args:List SV}{Q:SV->Prop}(hf:Tryz.prog.funcs[g]?=some fn)(hw:aG Tryz.prog none c ⟨kP 0 args,n,[],[]⟩ (Bh Tryz.prog fn Q))(hb:fn.body=some c:=by rfl)(hn:args.length+(fn.ntmps-args.length)=n:=by rfl)(hlim:n<=1000000:=by exact md rfl):PC Tryz.prog g args Q:=PC.body dz hf hb hn hw hlim
section
variable (n:Nat) {g:FuncId} {fn:Func} {c:Code} {args:List SV} {S0:List SO} {mv:List Nat} {Q:SV->List SO->Prop}
def LK(hf:Tryz.prog.funcs[g]?=some fn)(hw:aG Tryz.prog none c ⟨kP 0 args++[],n,S0,[]⟩ (KD Tryz.prog fn S0.length mv Q))(hb:fn.body=some c:=by rfl)(hn:args.length+(fn.ntmps-args.length)=n:=by rfl)(hlim:n<=1000000:=by exact md rfl)(hW:[]=og S0.length:=by rfl)(hK:S0.length<=1000000:=by exact md rfl):SC Tryz.prog g args S0 mv Q:=SC.body dz hf hb hn hlim hW hw hK
def OE(hf:Tryz.prog.funcs[g]?=some fn)(hw:aG Tryz.prog none c ⟨kP 0 args++[(1000000,.ptr 0 0)],n,S0,[]⟩ (KD Tryz.prog fn S0.length mv Q))(hb:fn.body=some c:=by rfl)(hn:args.length+(fn.ntmps-args.length)=n:=by rfl)(hlim:n<=1000000:=by exact md rfl)(hW:[(1000000,.ptr 0 0)]=og S0.length:=by rfl)(hK:S0.length<=1000000:=by exact md rfl):SC Tryz.prog g args S0 mv Q:=SC.body dz hf hb hn hlim hW hw hK
def Rt(hf:Tryz.prog.funcs[g]?=some fn)(hw:aG Tryz.prog none c ⟨kP 0 args++[(1000000,.ptr 0 0),(1000001,.ptr 1 0)],n,S0,[]⟩ (KD Tryz.prog fn S0.length mv Q))(hb:fn.body=some c:=by rfl)(hn:args.length+(fn.ntmps-args.length)=n:=by rfl)(hlim:n<=1000000:=by exact md rfl)(hW:[(1000000,.ptr 0 0),(1000001,.ptr 1 0)]=og S0.length:=by rfl)(hK:S0.length<=1000000:=by exact md rfl):SC Tryz.prog g args S0 mv Q:=SC.body dz hf hb hn hlim hW hw hK
def TZ(hf:Tryz.prog.funcs[g]?=some fn)(hw:aG Tryz.prog none c ⟨kP 0 args++[(1000000,.ptr 0 0),(1000001,.ptr 1 0),(1000002,.ptr 2 0)],n,S0,[]⟩ (KD Tryz.prog fn S0.length mv Q))(hb:fn.body=some c:=by rfl)(hn:args.length+(fn.ntmps-args.length)=n:=by rfl)(hlim:n<=1000000:=by exact md rfl)(hW:[(1000000,.ptr 0 0),(1000001,.ptr 1 0),(1000002,.ptr 2 0)]=og S0.length:=by rfl)(hK:S0.length<=1000000:=by exact md rfl):SC Tryz.prog g args S0 mv Q:=SC.body dz hf hb hn hlim hW hw hK
end
def cI(h:p->q:=by intro h;(repeat refine aG.seq ?_);refine aG.yes rfl ?_;(try (refine aG.skip ?_;try change aG _ _ _ _ _));(repeat refine aG.seq ?_);refine aG.r0 ii zl ?_;(try change aG _ _ _ _ _);exact h)(k:p):q:=h k
def jr(h:p->q:=by intro h;(repeat refine aG.seq ?_);refine aG.r0 ii zl ?_;(try change aG _ _ _ _ _);(repeat refine aG.seq ?_);refine aG.Rk ii zl ?_;exact h)(k:p):q:=h k
def lj(h:p->q:=by intro h;(repeat refine aG.seq ?_);refine aG.no rfl ?_;(try (refine aG.skip ?_;try change aG _ _ _ _ _));(repeat refine aG.seq ?_);refine aG.r0 ii zl ?_;(try change aG _ _ _ _ _);exact h)(k:p):q:=h k
def om(h:p->q:=by intro h;(repeat refine aG.seq ?_);refine aG.r0 ii zl ?_;(try change aG _ _ _ _ _);(repeat refine aG.seq ?_);refine aG.r0 ii zl ?_;(try change aG _ _ _ _ _);exact h)(k:p):q:=h k
def Ml(h:p->q:=by intro h;(repeat refine aG.seq ?_);refine aG.no rfl ?_;(try (refine aG.skip ?_;try change aG _ _ _ _ _));(repeat refine aG.seq ?_);refine aG.Rk ii zl ?_;exact h)(k:p):q:=h k
def El(h:p->q:=by intro h;(repeat refine aG.seq ?_);refine aG.r0 ii zl ?_;(try change aG _ _ _ _ _);(repeat refine aG.seq ?_);refine aG.no rfl ?_;(try (refine aG.skip ?_;try change aG _ _ _ _ _));exact h)(k:p):q:=h k
def w6(h:p->q:=by intro h;(repeat refine aG.seq ?_);refine aG.r0 ii zl ?_;(try change aG _ _ _ _ _);(repeat refine aG.seq ?_);refine aG.yes rfl ?_;(try (refine aG.skip ?_;try change aG _ _ _ _ _));exact h)(k:p):q:=h k
def Ct{a b:Int}(h : -9223372036854775808<=a+b/\a+b<=9223372036854775807)(P:Program)(t:TypeId):dk P .add t (.int .i64 a) (.int .i64 b)=some (.int .i64 (a+b)):=xh h
def QZ{a b:Int}(h : -9223372036854775808<=a-b/\a-b<=9223372036854775807)(P:Program)(t:TypeId):dk P .sub t (.int .i64 a) (.int .i64 b)=some (.int .i64 (a-b)):=Jy h
variable{L:Nat->Prop}{i:Nat}
def iM(h:L i)(v:SV):vo L i v=v:=cG h
def Vo(h:¬L i)(v:SV):vo L i v=.any:=nf h
def U2(h:L i)(v:SO):wo L i v=v:=oh h
def U1(h:¬L i)(v:SO):wo L i v=.gone:=gf h
def RJ{n:Nat}(h:k<=n)(c:Option Nat)(q:IntKind):cQ n c none (some (.int q (k:Int))) none=some (0,k,c):=by
 unfold cQ oC pY;simp only[oL,m7,fc h,ef,ak]
def KI{n:Nat}(h:k<=n)(c:Option Nat)(q:IntKind):cQ n c (some (.int q (k:Int))) none none=some (k,n,c):=by
 unfold cQ oC;simp only[oL,m7,fc h,ak]
end
def gA(h:p->q:=by intro h;(repeat refine aG.seq ?_);refine aG.yes rfl ?_;(try (refine aG.skip ?_;try change aG _ _ _ _ _));(repeat refine aG.seq ?_);refine aG.block ?_;exact h)(k:p):q:=h k
def gg(h:p->q:=by intro h;(repeat refine aG.seq ?_);refine aG.no rfl ?_;(try (refine aG.skip ?_;try change aG _ _ _ _ _));refine aG.exit ?_;exact h)(k:p):q:=h k
variable{α:Type}{l:List α}{k:Nat}
def Vp{p0 p1:Prop}(h0:k=l.length->p0)(h1:∀x,l[k]?=some x->k<l.length->p1)(hk:k<=l.length):(decide ((k:Int)<(l.length:Int))=false/\p0)\/(decide ((k:Int)<(l.length:Int))=true/\p1):=by
 by_cases hlt:k<l.length
 ·exact .inr ⟨zt hlt,h1 _ (jp hlt) hlt⟩
 ·exact .inl ⟨wd i4,h0 i4⟩
def zT{p0 p1:Prop}(l:List α)(k:Nat)(h0:k=l.length->p0)(h1:∀x,l[k]?=some x->k<l.length->p1)(h:(k=l.length->p0)->(∀x,l[k]?=some x->k<l.length->p1)->q:=by intro h0 h1;(repeat refine aG.seq ?_);refine aG.r0 ii zl ?_;(try change aG _ _ _ _ _);rcases Vp h0 h1 (by assumption) with⟨e,h⟩ | ⟨e,h⟩;(rw[e];exact h);(rw[e];exact h)):q:=h h0 h1
section
variable {P:Program} {ro:Option Nat} {f:Fm} {n:Nat} {S:List SO} {ds:List jv} {Q:Ex->eu->Prop}
variable{fn:Func}{Qr:SV->Prop}{v:SV}
def zo{r:SV}(rs:List ResultVar)(hg:Bh P fn Qr .ret ⟨f,n,S,[]⟩->Q .ret ⟨f,n,S,[]⟩:=by intro h;(try simp only[eN,c8,bW,bK]);exact h)(hr:fn.results.toList=rs:=by rfl)(h:oQ P f S rs=some [v]:=by exact zl)(hw:Wk S v r:=by exact Wk.refl rfl)(hq:Qr r:=by rfl):aG P ro .ret ⟨f,n,S,[]⟩ Q:=aG.ret (hg (Bh.of rfl hr h hw hq))
def jZ{w r:SV}(rs:List ResultVar)(hg:Bh P fn Qr .ret ⟨f,n,S,[]⟩->Q .ret ⟨f,n,S,[]⟩:=by intro h;(try simp only[eN,c8,bW,bK]);exact h)(hr:fn.results.toList=rs:=by rfl)(h:oQ P f S rs=some [v,w]:=by exact zl)(hw:Wk S (.cx [v,w]) r:=by exact Wk.refl rfl)(hq:Qr r:=by rfl):aG P ro .ret ⟨f,n,S,[]⟩ Q:=aG.ret (hg (Bh.of rfl hr h hw hq))
variable{id:Nat}
def Ho{β:Type}(l:List α)(I:Nat->β->Prop)(fr:Nat->β->Fm)(T:Nat->β->List SO)(b0:β){x:Code}(hf:Fg ⟨f,n,S,[]⟩ ⟨fr 0 b0,n,T 0 b0,[]⟩)(h0:I 0 b0)
 (h:∀k b,k<=l.length->I k b->aG P ro x ⟨fr k b,n,T k b,[]⟩ (bW (λm st=>∃k b,k<=l.length/\m=l.length-k/\I k b/\st=⟨fr k b,n,T k b,[]⟩) (l.length-k) (eN id Q))):aG P ro (.block id (.loop x)) ⟨f,n,S,[]⟩ Q:=
 aG.block (aG.loop (λm st=>∃k b,k<=l.length/\m=l.length-k/\I k b/\st=⟨fr k b,n,T k b,[]⟩) l.length hf ⟨0,b0,ck _,rfl,h0,rfl⟩ (by rintro m st ⟨k,b,_,_,_,rfl⟩;rfl) (by rintro m st ⟨k,b,hk,rfl,hI,rfl⟩;exact h k b hk hI))
def w8{β:Type}{I:Nat->β->Prop}{fr:Nat->β->Fm}{T:Nat->β->List SO}{st:eu}(hlt:k<l.length)(b:β)(hf:Fg st ⟨fr (k+1) b,n,T (k+1) b,[]⟩)(hI:I (k+1) b):
 bW (λm st=>∃k b,k<=l.length/\m=l.length-k/\I k b/\st=⟨fr k b,n,T k b,[]⟩) (l.length-k) Q .normal st:=⟨l.length-(k+1),_,by omega,hf,k+1,b,hlt,rfl,hI,rfl⟩
end
def kR(h:p->q:=by intro h;(repeat (first | refine ej.ri ii rfl ii rfl zl zl (by first | exact trivial | ((simp only[gO])<;>(repeat' apply And.intro)<;>first | exact True.intro | exact .inr rfl | (refine .inr ?_;simp only[cL,bI,an,aC,m7,m6,↓reduceIte,Nat.reduceEqDiff,Nat.reduceAdd,Nat.reduceMul,Nat.reduceLeDiff,Nat.reduceLT,ak,au,bl,aM];first | done | rfl) | exact .inl (by kernel_rfl))) ?_ | refine ej.r ii rfl ii ii zl ?_ (by first | exact trivial | ((simp only[gO])<;>(repeat' apply And.intro)<;>first | exact True.intro | exact .inr rfl | (refine .inr ?_;simp only[cL,bI,an,aC,m7,m6,↓reduceIte,Nat.reduceEqDiff,Nat.reduceAdd,Nat.reduceMul,Nat.reduceLeDiff,Nat.reduceLT,ak,au,bl,aM];first | done | rfl) | exact .inl (by kernel_rfl))) | refine ej.rg ii rfl ii rfl (by intro S_;simp only[cL,bI,an,aC,m7,m6,↓reduceIte,Nat.reduceEqDiff,Nat.reduceAdd,Nat.reduceMul,Nat.reduceLeDiff,Nat.reduceLT,ak,au,bl];first | done | rfl) (by first | exact trivial | ((simp only[gO])<;>(repeat' apply And.intro)<;>first | exact True.intro | exact .inr rfl | (refine .inr ?_;simp only[cL,bI,an,aC,m7,m6,↓reduceIte,Nat.reduceEqDiff,Nat.reduceAdd,Nat.reduceMul,Nat.reduceLeDiff,Nat.reduceLT,ak,au,bl,aM];first | done | rfl) | exact .inl (by kernel_rfl))) ?_ | refine ej.s ii rfl ii rfl ?_ | fail));exact h)(k:p):q:=h k
def rW(f:r)(h:r->p->q:=by intro f h;(repeat (first | refine ej.ri ii rfl ii rfl (me @f) (me @f) (by first | exact trivial | ((simp only[gO])<;>(repeat' apply And.intro)<;>first | exact True.intro | exact .inr rfl | (refine .inr ?_;simp only[cL,bI,an,aC,m7,m6,↓reduceIte,Nat.reduceEqDiff,Nat.reduceAdd,Nat.reduceMul,Nat.reduceLeDiff,Nat.reduceLT,ak,au,bl,aM,f];first | done | rfl) | exact .inl (by kernel_rfl))) ?_ | refine ej.r ii rfl ii ii (me @f) ?_ (by first | exact trivial | ((simp only[gO])<;>(repeat' apply And.intro)<;>first | exact True.intro | exact .inr rfl | (refine .inr ?_;simp only[cL,bI,an,aC,m7,m6,↓reduceIte,Nat.reduceEqDiff,Nat.reduceAdd,Nat.reduceMul,Nat.reduceLeDiff,Nat.reduceLT,ak,au,bl,aM,f];first | done | rfl) | exact .inl (by kernel_rfl))) | refine ej.rg ii rfl ii rfl (by intro S_;simp only[cL,bI,an,aC,m7,m6,↓reduceIte,Nat.reduceEqDiff,Nat.reduceAdd,Nat.reduceMul,Nat.reduceLeDiff,Nat.reduceLT,ak,au,bl,f];first | done | rfl) (by first | exact trivial | ((simp only[gO])<;>(repeat' apply And.intro)<;>first | exact True.intro | exact .inr rfl | (refine .inr ?_;simp only[cL,bI,an,aC,m7,m6,↓reduceIte,Nat.reduceEqDiff,Nat.reduceAdd,Nat.reduceMul,Nat.reduceLeDiff,Nat.reduceLT,ak,au,bl,aM,f];first | done | rfl) | exact .inl (by kernel_rfl))) ?_ | refine ej.s ii rfl ii rfl ?_ | fail));exact h)(k:p):q:=h f k
def kN(h:p->q:=by intro h;refine ej.nil ?_;(try change aG _ _ _ _ _);exact h)(k:p):q:=h k
section
variable {G:List Nat} {P:Program} {ro:Option Nat} {all:List Oper} {ms:List Nat} {n:Nat} {b:Bool} {hp:List Nat} {l:List (Nat×Oper)} {f:Fm} {S:List SO} {K:Fm->List SO->Prop} {i:Nat} {o:Oper} {d:Nat} {f0:Fm} {kl:List (Nat×Nat)} {Q:Ex->eu->Prop}
variable{id:Nat}
def kZ{ops:Array Oper}{st:eu}{ol:List Oper}(ms:List Nat)(h:ej [] P ro ol ms st.n st.f [] true [] (cq 0 ol) st.f st.S λf' S'=>Q .normal ⟨f',st.n,S',st.ds⟩)(hol:ops.toList=ol:=by rfl)(hms:mN ol []=ms:=by kernel_rfl)(hok:((jA 0 ol&&P.follows .mixedOrders)&&(vO ol ms (cq 0 ol)&&EO [] ms (cq 0 ol)))=true:=by kernel_rfl):aG P ro (.region id ops true) st Q:=aG.M8 hol hms hok h
variable{v:SV}{S':List SO}
def kA{f':Fm}(T:List Nat)(hst:de all n [o]=true:=by rfl)(hdst:o.dst=some d:=by rfl)(hw:bM all f o.guard=some true:=by rfl)(hwr:cj G i o.op=true:=by rfl)(hms:hp.all (λj=>bG (ms.getD i 0) j)=true:=by kernel_rfl)(hT:((sa all ms i).all λt=>T.contains t)=true:=by kernel_rfl)
 (hop:dj P f S o.op=some (v,S',some k):=by exact zl) (hf:bX k f=f':=by simp only[gn,bI,an,↓reduceIte,Nat.reduceEqDiff,Nat.reduceAdd,Nat.reduceSub,Nat.reduceMul,Nat.reduceLeDiff,Nat.reduceLT,bX,cA,bF,aM,cL];first | done | rfl) (ht:As f0 f k T:=by (simp only[As])<;>(repeat' apply And.intro)<;>first | exact True.intro | rfl | (simp only[gn,bI,an,↓reduceIte,Nat.reduceEqDiff,Nat.reduceAdd,Nat.reduceSub,Nat.reduceMul,Nat.reduceLeDiff,Nat.reduceLT,bX,cA,bF,aM,cL];first | done | rfl)) (hkl:gO ms i v kl:=by first | exact trivial | ((simp only[gO])<;>(repeat' apply And.intro)<;>first | exact True.intro | exact .inr rfl | (refine .inr ?_;simp only[cL,bI,an,aC,m7,m6,↓reduceIte,Nat.reduceEqDiff,Nat.reduceAdd,Nat.reduceMul,Nat.reduceLeDiff,Nat.reduceLT,ak,au,bl,aM];first | done | rfl) | exact .inl (by kernel_rfl))) (h:ej G P ro all ms n f0 ((i,k)::kl) false hp l ((d,v)::f') S' K):ej G P ro all ms n f0 kl b hp ((i,o)::l) f S K:=.a T hst hdst hw hwr hms hT hop hf ht hkl h
def Rb{f':Fm}(T:List Nat)(c:r)(hst:de all n [o]=true:=by rfl)(hdst:o.dst=some d:=by rfl)(hw:bM all f o.guard=some true:=by rfl)(hwr:cj G i o.op=true:=by rfl)(hms:hp.all (λj=>bG (ms.getD i 0) j)=true:=by kernel_rfl)(hT:((sa all ms i).all λt=>T.contains t)=true:=by kernel_rfl)
 (hop:r->dj P f S o.op=some (v,S',some k):=by intro c;simp only[cL,bI,an,aC,m7,m6,↓reduceIte,Nat.reduceEqDiff,Nat.reduceAdd,Nat.reduceMul,Nat.reduceLeDiff,Nat.reduceLT,ak,au,bl,c];first | done | rfl) (hf:r->bX k f=f':=by intro c;simp only[gn,bI,an,↓reduceIte,Nat.reduceEqDiff,Nat.reduceAdd,Nat.reduceSub,Nat.reduceMul,Nat.reduceLeDiff,Nat.reduceLT,c,bX,cA,bF,aM,cL];first | done | rfl) (ht:r->As f0 f k T:=by intro c;(simp only[As])<;>(repeat' apply And.intro)<;>first | exact True.intro | rfl | (simp only[gn,bI,an,↓reduceIte,Nat.reduceEqDiff,Nat.reduceAdd,Nat.reduceSub,Nat.reduceMul,Nat.reduceLeDiff,Nat.reduceLT,c,bX,cA,bF,aM,cL];first | done | rfl)) (hkl:r->gO ms i v kl:=by intro c;exact(by first | exact trivial | ((simp only[gO])<;>(repeat' apply And.intro)<;>first | exact True.intro | exact .inr rfl | (refine .inr ?_;simp only[cL,bI,an,aC,m7,m6,↓reduceIte,Nat.reduceEqDiff,Nat.reduceAdd,Nat.reduceMul,Nat.reduceLeDiff,Nat.reduceLT,ak,au,bl,aM,c];first | done | rfl) | exact .inl (by kernel_rfl)))) (h:ej G P ro all ms n f0 ((i,k)::kl) false hp l ((d,v)::f') S' K):ej G P ro all ms n f0 kl b hp ((i,o)::l) f S K:=.a T hst hdst hw hwr hms hT (hop c) (hf c) (ht c) (hkl c) h
def TQ(c:r)(hst:de all n [o]=true:=by rfl)(hdst:o.dst=some d:=by rfl)(hw:bM all f o.guard=some true:=by rfl)(hwr:cj G i o.op=true:=by rfl)(hms:hp.all (λj=>bG (ms.getD i 0) j)=true:=by kernel_rfl)(hop:r->dj P f S o.op=some (v,S',none):=by intro c;simp only[cL,bI,an,aC,m7,m6,↓reduceIte,Nat.reduceEqDiff,Nat.reduceAdd,Nat.reduceMul,Nat.reduceLeDiff,Nat.reduceLT,ak,au,bl,c];first | done | rfl)(hkl:r->gO ms i v kl:=by intro c;exact(by first | exact trivial | ((simp only[gO])<;>(repeat' apply And.intro)<;>first | exact True.intro | exact .inr rfl | (refine .inr ?_;simp only[cL,bI,an,aC,m7,m6,↓reduceIte,Nat.reduceEqDiff,Nat.reduceAdd,Nat.reduceMul,Nat.reduceLeDiff,Nat.reduceLT,ak,au,bl,aM,c];first | done | rfl) | exact .inl (by kernel_rfl))))(h:ej G P ro all ms n f0 kl false hp l ((d,v)::f) S' K):ej G P ro all ms n f0 kl b hp ((i,o)::l) f S K:=.ed hst hdst hw hwr hms (hop c) (hkl c) h
end
def rO(b:Nat):Nat:=
 bif dK b then 3 else bif ble 48 b&&ble b 57 then 4 else bif beq b 35 then 2 else bif beq b 95 then 5 else bif beq b 34 then 7 else
 bif [32,9,10].any (beq b) then 1 else bif [59,44,46,58,40,41,123,125,91,93,61,60,62,47,43,45,42].any (beq b) then 6 else 0
def HH:List AV:=(dc 256).map λb=>AV.int .u8 (Int.ofNat (rO b))
def MZ:HH.length=256:=by simp[HH]
def MY(b:Nat)(h:b<256):HH[b]?=some (.int .u8 (rO b:Int)):=by
 unfold HH;rw[ax,d6 h];rfl
def Ln(s:List Nat)(h:cX s=true):∀(i b:Nat),s[i]?=some b->kK b=true:=by
 intro i b hi
 cases s with
 | nil=>simp at hi
 | cons a l=>
  simp only[cX,al] at h
  cases i with
  | zero=>simp at hi;subst hi;unfold kK;rw[h.1];rfl
  | succ i=>
   rw[du] at hi;exact all_eq_true.1 h.2.1 b (co hi)
def NP(s:List Nat)(h:∀(i b:Nat),s[i]?=some b->kK b=true)(b:Nat)(h0:s[0]?=some b):cX s=(decide (s.length<=24)&&dK b):=by
 cases s with
 | nil=>simp at h0
 | cons a l=>
  simp at h0;subst h0
  have:l.all kK=true:=by
   rw[all_eq_true];intro x hx;obtain⟨i,hi⟩:=mem_iff_getElem?.1 hx;exact h (i+1) x (by rw[du];exact hi)
  simp only[cX,this,cH,i7]
  have e:ble l.length 23=decide (l.length+1<=24):=by
   by_cases hl:l.length<=23
   ·rw[fc hl];simp;omega
   ·have:ble l.length 23=false:=by
     cases hb:ble l.length 23
     ·rfl
     ·exact un (jg hb) hl
    rw[this];simp;omega
  rw[e,Bool.and_comm]
def M0:∀b,b<256->(decide (rO b=3)=dK b)/\((decide (rO b=3)||(decide (rO b=4)||decide (rO b=5)))=kK b):=by decide +kernel
def P3(s:List Nat)(b:Nat)(h0:s[0]?=some b)(h:dK b=false):cX s=false:=by
 cases s with
 | nil=>rfl
 | cons a l=>simp at h0;subst h0;simp only[cX,h,ce]
abbrev O4(b:Nat):SV:=.a (.int .u8 (b:Int))
def LZ(s:List Nat)(b:Nat)(hb:b<256):PC prog 322 [ah s,O4 b] (·=ab (fN b s 0)):=
 PC.of (xs:=[.str s,.int .u8 (b:Int)]) (λh=>dZ.Ue Ha (by
  show cond (blt b 256) (some (AV.int .i64 (fN b s 0),h)) none=_
  rw[show blt b 256=true from KH hb];rfl)) λρ avs ha=>by
  rw[dO] at ha;obtain⟨a,r,rfl,h1,ha⟩:=ha;rw[dO] at ha;obtain⟨a2,r,rfl,h2,ha⟩:=ha;rw[GS] at h1 h2;rw[eU] at ha;rw[h1,h2,ha]
def LY(s:List Nat)(b:Nat)(hb:b<256):PC prog 304 [ah s,O4 b] (·=ab (fN b s 0)):=by
 refine pB 8 Tryz.func304 ?_;exact(jr)<|(zK (LZ s b hb))<|(zR)<|zo [.tmp 4]
def B8(s:List Nat)(b:Nat)(hb:b<256):PC prog 256 [ah s,O4 b] (·=ab (fN b s 0)):=by
 refine pB 8 Tryz.func256 ?_;exact(jr)<|(zK (LY s b hb))<|(zR)<|zo [.tmp 4]
def xZ(b:Nat):Nat:=bif dK b then 3 else bif ble 48 b&&ble b 57 then 4 else bif decide (0<=fN b [32,9,10] 0) then 1 else bif decide (0<=fN b [59,44,46,58,40,41,123,125,91,93,61,60,62,47,43,45,42] 0) then 6 else 0
def lf(k:Nat):List SV:=(dc 256).map λi=>O4 (if i<k then xZ i else 0)
def Jp:List SV:=(dc 256).map λ_=>O4 0
def tW(k:Nat):(lf k).length=256:=by simp[lf]
def Si(hk:k<256):(lf k).take k++(O4 (xZ k)::(lf k).drop (k+1))=lf (k+1):=by
 have h:(lf k).set k (O4 (xZ k))=lf (k+1):=by
  apply List.ext_getElem?;intro i;by_cases hik:k=i
  ·subst hik;rw[List.getElem?_set_self (by rw[tW];exact hk)];unfold lf;rw[ax,d6 hk];simp
  ·rw[List.getElem?_set_ne hik];unfold lf;rw[ax,ax]
   cases hr:(dc 256)[i]? with
   | none=>rfl
   | some j=>
    have hj:j=i:=by
     obtain⟨h1,h2⟩:=rt hr;simpa using h2.symm
    subst hj;simp only[m6];by_cases h:j<k
    ·rw[ut h,ut i4]
    ·rw[v6 h,v6 i4]
 rw[<-h,cc,ut (by rw[tW];exact hk)]
def Sh(hk:k<256)(h:xZ k=0):lf (k+1)=lf k:=by
 unfold lf;refine List.map_congr_left λi _=>?_;by_cases hik:i<k
 ·rw[ut hik,ut i4]
 ·rw[v6 hik];by_cases he:i=k
  ·subst he;rw[ut i4,h]
  ·rw[v6 i4]
def Py(hk:k<256):mF prog 3 5 (.int .i64 (k:Int))=some (.int .u8 (k:Int)):=by
 have h1:mF prog 3 5 (.int .i64 (k:Int))=some (.int .u8 (dX .u8 (k:Int))):=by kernel_rfl
 rw[h1]
 congr 2
 have h2:(uG 0 (k:Int)&&uG (k:Int) 255)=true:=by rw[gq,gq];simp;omega
 simp only[dX,P0,PO,h2,ak]
def AU:PC prog 184 [] (·=.ag (HH.map SV.a)):=by
 refine pB 50 Tryz.func184 ?_;refine(om)<|(zV) ?_
 have hl:(dc 256).length=256:=List.length_range
 have hlen:(dc 256).length<=1000000:=by rw[hl];decide
 refine zA [(0,.ptr 0 0),(1,.ptr 1 0),(4,ab 0)] [.cells Jp,.cells (lf 0)] (by exact zH)<|(zs) ?_;refine zL (dc 256) (λk=>True) (λk=>[(0,.ptr 0 0),(1,.ptr 1 0),(4,ab k)]) (λk=>[.cells Jp,.cells (lf k)]) zH zp ?_;intro k hk hall
 by_cases hlt:k<(dc 256).length
 ·have hk6:k<256:=by rw[<-hl];exact hlt
  have hk7:k+1<=256:=hk6;have e1:decide ((97:Int)<=(k:Int))=ble 97 k:=q0 97 k;have e2:decide ((k:Int)<=122)=ble k 122:=q0 k 122;have e3:decide ((65:Int)<=(k:Int))=ble 65 k:=q0 65 k;have e4:decide ((k:Int)<=90)=ble k 90:=q0 k 90;have e5:decide ((48:Int)<=(k:Int))=ble 48 k:=q0 48 k;have e6:decide ((k:Int)<=57)=ble k 57:=q0 k 57;have hset:=Si hk6;have hrl:=tW k
  refine(aD (show decide ((k:Int)<256)=true by simp only[wp];omega))<|(gA)<|(zV)<|(aD (Py hk6))<|(zB) ?_;refine aG.seq ?_;refine aG.mono (Q:=λex st=>ex=.normal/\Fg st ⟨[(0,.ptr 0 0),(1,.ptr 1 0),(2,ab k),(3,O4 k),(4,ab k),(9,ai (dK k))],50,[.cells Jp,.cells (lf k)],[]⟩) ?_ ?_
  ·unfold dK;cases h1:ble 97 k<;>cases h2:ble k 122<;>cases h3:ble 65 k<;>cases h4:ble k 90
   all_goals
    rw[h1] at e1;rw[h2] at e2;rw[h3] at e3;rw[h4] at e4;refine(aD (bu e1 e2)) ?_
    first
     | (
      refine(zN) ?_
      refine(aD (bu e3 e4)) ?_;exact⟨rfl,zH⟩)
     | (
      refine(zY) ?_
      exact⟨rfl,zH⟩)
  rintro ex st ⟨rfl,hf⟩;refine aG.fg hf ?_;clear hf
  (try change aG _ _ _ _ _)
  cases hL:dK k;rotate_left
  ·have hc:xZ k=3:=by unfold xZ;rw[hL];rfl
   rw[hc] at hset;change (lf k).take k++(SV.a (.int .u8 3)::(lf k).drop (k+1))=_ at hset
   refine(zY)<|(aD (lk hk6 hk7 hrl @cp hset))<|(aD (zi hlt hlen)) ?_;refine zX hlt zH trivial
  have c0:xZ k=bif ble 48 k&&ble k 57 then 4 else bif decide (0<=fN k [32,9,10] 0) then 1 else bif decide (0<=fN k [59,44,46,58,40,41,123,125,91,93,61,60,62,47,43,45,42] 0) then 6 else 0:=by unfold xZ;rw[hL];rfl
  clear hL e1 e2 e3 e4;refine(zN) ?_
  (repeat refine aG.seq ?_)
  refine aG.mono (Q:=λex st=>ex=.normal/\Fg st ⟨[(0,.ptr 0 0),(1,.ptr 1 0),(2,ab k),(3,O4 k),(4,ab k),(24,ai (ble 48 k&&ble k 57))],50,[.cells Jp,.cells (lf k)],[]⟩) ?_ ?_
  ·cases h5:ble 48 k<;>cases h6:ble k 57
   all_goals
    rw[h5] at e5;rw[h6] at e6;refine(aD (bu e5 e6)) ?_;exact⟨rfl,zH⟩
  rintro ex st ⟨rfl,hf⟩;refine aG.fg hf ?_;clear hf e5 e6
  (try change aG _ _ _ _ _)
  cases hD:ble 48 k&&ble k 57;rotate_left
  ·rw[hD] at c0;rw[show xZ k=4 from c0] at hset;change (lf k).take k++(SV.a (.int .u8 4)::(lf k).drop (k+1))=_ at hset
   refine(zY)<|(aD (lk hk6 hk7 hrl @cp hset))<|(aD (zi hlt hlen)) ?_;refine zX hlt zH trivial
  rw[hD] at c0
  refine(Ml)<|(zK (B8 [32,9,10] k hk6))<|(zR) ?_
  cases hB:decide (0<=fN k [32,9,10] 0);rotate_left
  ·rw[hB] at c0;rw[show xZ k=1 from c0] at hset;change (lf k).take k++(SV.a (.int .u8 1)::(lf k).drop (k+1))=_ at hset
   refine(zY)<|(aD (lk hk6 hk7 hrl @cp hset))<|(aD (zi hlt hlen)) ?_;refine zX hlt zH trivial
  rw[hB] at c0
  refine(Ml)<|(zK (B8 [59,44,46,58,40,41,123,125,91,93,61,60,62,47,43,45,42] k hk6))<|(zR) ?_
  cases hS:decide (0<=fN k [59,44,46,58,40,41,123,125,91,93,61,60,62,47,43,45,42] 0);rotate_left
  ·rw[hS] at c0;rw[show xZ k=6 from c0] at hset;change (lf k).take k++(SV.a (.int .u8 6)::(lf k).drop (k+1))=_ at hset
   refine(zY)<|(aD (lk hk6 hk7 hrl @cp hset))<|(aD (zi hlt hlen)) ?_;refine zX hlt zH trivial
  rw[hS] at c0;have hs0:=Sh hk6 c0;refine(zN) ?_
  (try (refine aG.skip ?_))
  refine(aD (zi hlt hlen)) ?_;refine zX hlt (cf hs0) trivial
 ·obtain rfl:k=256:=by omega
  refine(aD (show decide (((256:Nat):Int)<256)=false from rfl))<|(gg) ?_
  have set_at:∀{l:List SV} {i:Nat} (v:SV),i<l.length->l.take i++(v::l.drop (i+1))=l.set i v:=λv h=>by rw[cc,ut h]
  have hfin:(((lf 256).set 35 (.a (.int .u8 2))).set 95 (.a (.int .u8 5))).set 34 (.a (.int .u8 7))=HH.map SV.a:=by kernel_rfl
  have l0:=tW 256
  have hz0:Jp.length=256:=by simp[Jp]
  generalize lf 256=R at hfin l0 ⊢;have s1:=set_at (l:=R) (i:=35) (.a (.int .u8 2)) i4
  have l1:(R.set 35 (.a (.int .u8 2))).length=256:=by rw[d4];exact l0
  generalize R.set 35 (.a (.int .u8 2))=R1 at hfin s1 l1;have s2:=set_at (l:=R1) (i:=95) (.a (.int .u8 5)) i4
  have l2:(R1.set 95 (.a (.int .u8 5))).length=256:=by rw[d4];exact l1
  generalize R1.set 95 (.a (.int .u8 5))=R2 at hfin s2 l2;have s3:=set_at (l:=R2) (i:=34) (.a (.int .u8 7)) i4
  have l3:(R2.set 34 (.a (.int .u8 7))).length=256:=by rw[d4];exact l2
  generalize R2.set 34 (.a (.int .u8 7))=R3 at hfin s3 l3;have t3:R3.take 256=R3:=d2 i4;have d0:Jp.drop 256=[]:=dC i4;refine(aD (MX (show di (.int .i64 35)=some 35 from rfl) (show di (.int .i64 95)=some 95 from rfl) (show di (.int .i64 34)=some 34 from rfl) l0 l1 l2 @cp s1 s2 s3)) ?_
  have ho:R3.all eB=true:=by rw[hfin];kernel_rfl
  refine(aD (Mj l3 t3 ho hz0 d0 @List.append_nil.{0} @List.take_zero.{0} @List.nil_append.{0} @ap)) ?_;subst hfin;exact zo [.cell 0 241] (h:=me (bu l3 t3))
def drop_cons{x:α}(h:l[k]?=some x):l.drop k=x::l.drop (k+1):=by
 obtain⟨hlt,he⟩:=rt h;rw[c6 hlt,he]
def A6(s:List Nat)(hs:s.length<=1000000)(hb:∀b∈s,b<256):PC prog 101 [ah s] (·=ai (cX s)):=by
 refine pB 39 Tryz.func101 ?_;have hcl:=AU;obtain⟨C,hC⟩:∃C,C=HH.map SV.a:=⟨_,rfl⟩
 have ho:C.all eB=true:=by rw[hC];kernel_rfl
 have hl:C.length=256:=by rw[hC,er,MZ]
 have hg:bR C=true:=by rw[hC];kernel_rfl
 have hfl:vJ (.ag C)=true:=by rw[hC];kernel_rfl
 have hCg:∀b,b<256->C[b]?=some (O4 (rO b)):=λb h=>by rw[hC,ax,MY b h];rfl
 rw[<-hC] at hcl;clear hC;have ht:C.take 256=C:=d2 i4;have hnk:=λo:Nat=>cg (o:=o) hg;have hkk:=λo:Nat=>bQ (o:=o) hg
 refine(jr)<|(zK hcl (hfl:=.inl hfl)) ?_;refine aL.r0 ii (by simp only[cL,bI,an,aC,m7,m6,↓reduceIte,aa,ad,af,ac,aj,ak,au,bl,hl,ho,ht,hkk,hnk,er,List.length_replicate,dC,List.append_nil,ap];first | done | rfl) ?_;refine zZ [(0,ah s),(3,.ip C)] 0 rfl ⟨.inl rfl,.inr (.ptr rfl (cu.refl hg) (ck _)),trivial⟩<|zA [(0,ah s),(3,.ip C)] [] zH<|(zV)<|(zs) ?_;refine zL s (λk=>((∀(i b:Nat),i<k->s[i]?=some b->kK b=true)/\(0<k->∀b,s[0]?=some b->dK b=true))) (λk=>[(0,ah s),(3,.ip C),(8,ab s.length),(9,ab k)]) (λk=>[]) zH (by exact⟨λi b h=>un h (bg _),λh=>un h (bg _)⟩) ?_;intro k hk hall;refine zT s k ?_ ?_;rintro rfl;rotate_left;intro b hx hlt;rotate_left
 ·refine(gg) ?_
  cases hs0:s with
  | nil=>
   exact(aD (show decide (([]:List Nat)=[])=true from rfl))<|zo [.tmp 2]
  | cons b l=>
   have h0:s[0]?=some b:=by rw[hs0];rfl
   have hlt0:0<s.length:=by rw[hs0];exact d9 _
   have hn:=NP s (λi b' hb'=>hall.1 i b' (rt hb').1 hb') b h0;rw[hall.2 hlt0 b h0,ct,hs0] at hn;have c2:decide ((b::l)=[])=false:=rfl;cases c3:decide (((b::l).length:Int)<=24)
   ·have e24:decide ((b::l).length<=24)=false:=by have:=wt c3;simp only[wn];omega
    exact(aD (bu c2 c3))<|zo [.tmp 2] (hq:=by rw[hn,e24])
   ·have e24:decide ((b::l).length<=24)=true:=by have:=ww c3;simp only[wp];omega
    exact(aD (bu c2 c3))<|zo [.tmp 2] (hq:=by rw[hn,e24])
 have hb6:=hb b (co hx);obtain⟨sp1,sp2⟩:=M0 b hb6;have hdr:=drop_cons (hCg b hb6)
 have hbl:b<=C.length:=by omega
 have q3:decide ((rO b:Int)=3)=dK b:=by rw[<-sp1];simp only[decide_eq_decide];omega
 have q4:decide ((rO b:Int)=4)=decide (rO b=4):=by simp only[decide_eq_decide];omega
 have q5:decide ((rO b:Int)=5)=decide (rO b=5):=by simp only[decide_eq_decide];omega
 rw[sp1] at sp2
 refine(gA)<|(zV)<|(aD (uP hx (show di (.int .u8 (Int.ofNat b))=some b from rfl) @cp hb6 hbl hdr))<|zA [(0,ah s),(3,.ip C),(4,ab k),(5,.a (.int .u8 (rO b:Int))),(8,ab s.length),(9,ab k)] [] zH ?_
 generalize (rO b:Int)=cb at q3 q4 q5 ⊢;generalize decide (rO b=4)=c4 at sp2 q4;generalize decide (rO b=5)=c5 at sp2 q5
 have m3:dk prog .neq 5 (.int .u8 cb) (.int .u8 3)=some (.bool (!dK b)):=by rw[<-q3];exact sW rfl
 have m4:dk prog .neq 5 (.int .u8 cb) (.int .u8 4)=some (.bool (!c4)):=by rw[<-q4];exact sW rfl
 have m5:dk prog .neq 5 (.int .u8 cb) (.int .u8 5)=some (.bool (!c5)):=by rw[<-q5];exact sW rfl
 clear q3 q4 q5
 have hmore:kK b=true->∀(i b':Nat),i<k+1->s[i]?=some b'->kK b'=true:=λhm i b' hi hb'=>by
  by_cases e:i=k
  ·subst e;rw[hx] at hb';cases hb';exact hm
  ·exact hall.1 i b' i4 hb'
 have hfirst:(k=0->dK b=true)->0<k+1->∀b',s[0]?=some b'->dK b'=true:=λh _ b' hb'=>by
  by_cases hk0:k=0
  ·subst hk0;rw[hx] at hb';cases hb';exact h rfl
  ·exact hall.2 i4 b' hb'
 cases hL:dK b;rotate_left
 ·rw[hL] at m3 sp2
  refine(aD m3)<|(zN)<|(aD (zi hlt hs)) ?_;refine zX hlt zH (⟨hmore sp2.symm,hfirst λ_=>hL⟩)
 rw[hL] at m3 sp2;by_cases hk0:k=0
 ·have hn:cX s=false:=P3 s b (by rw[<-hk0];exact hx) hL
  exact(aD (bu m3 (show decide ((k:Int)=0)=true by simp only[wp];omega)))<|(cI)<|zo [.tmp 2] (hq:=by rw[hn])
 have k0:=show decide ((k:Int)=0)=false by simp only[wn];omega
 have hbad:kK b=false->cX s=false:=λhm=>by
  cases hc:cX s
  ·rfl
  ·rw[Ln s hc k b hx] at hm;cases hm
 cases c4
 ·cases c5
  ·have hn:=hbad sp2.symm
   exact(aD (gm m3 m4 m5 k0))<|(cI)<|zo [.tmp 2] (hq:=by rw[hn])
  ·refine(aD (gm m3 m4 m5 k0))<|(zN)<|(aD (zi hlt hs)) ?_;refine zX hlt zH (⟨hmore sp2.symm,hfirst λh=>un h hk0⟩)
 ·refine(aD (cJ m3 m4 k0))<|(zN)<|(aD (zi hlt hs)) ?_;refine zX hlt zH (⟨hmore sp2.symm,hfirst λh=>un h hk0⟩)
structure jV where
 name:List Nat
 kinds:List (List Nat)
 normal:Int
structure aV where
 name:List Nat
 vehicle:Bool
 bL:List jV
def bH(s:jV):List SV:=[ah s.name,an 1 s.kinds (aH ah),ab s.normal]
def ao(k:aV):List SV:=[ah k.name,ai k.vehicle,an 3 k.bL bH]
def JL (h:p:=by
  refine pB 19 vaa ?_;refine(aD @an.eq_1)<|(zV)<|(zs) ?_;refine zL l (λk=>∀(i:Nat) y,i<k->l[i]?=some y->p y=false) (λk=>[(0,.sl l.length vab (l.flatMap vac)),(1,.fn fid first cap),(7,ab l.length),(8,ab k)]) (λk=>[]) zH zp ?_;intro k hk hall;refine zT l k ?_ ?_;rintro rfl;rotate_left;intro x hx hlt;rotate_left
  ·exact(gg)<|(zV)<|zo [.tmp 4] (hq:=by rw[ib hall])
  ·refine(gA)<|(zV)<|(e9 (cJ hlt (aQ (e:=vab) (enc:=vac) gc hx) @vad))<|(zK (hp x (List.mem_iff_getElem?.2 ⟨k,hx⟩)) (hwk:=((cu.refl hg.1).app zr).app (cu.refl hg.2))) ?_;refine aL.nil ?_
   change aG _ _ _ _ _;cases hpx:p x
   ·refine(zN)<|(aD (zi hlt hlen)) ?_;refine zX hlt zH ?_
    intro i y hi hy;by_cases hik:i=k
    ·subst hik;rw[hx] at hy;cases hy;exact hpx
    ·exact hall i y (by ((try simp only[vab] at *)<;>omega)) hy
   ·exact(cI)<|zo [.tmp 4] (hq:=by rw[lT hx hpx hall])):p:=h
variable{fid:FuncId}{first:List SV}{cap:List SV}
open Go.Proofs.Tryz renaming func124 -> vaa in
open Go.Ev renaming Rg -> vab in
open Go.Proofs renaming ao -> vac in
def DP{l:List (aV)}(p:aV->Bool)(hlen:l.length<=1000000)(hp:∀x∈l,PC prog fid ((first++[.ag (ao x)])++cap) (·=ai (p x)))(hg:bR first=true/\bR cap=true):PC prog 124 [an 3 l ao,.fn fid first cap] (·=ab (fO p l)):=by
 have vad:=@ao.eq_1;exact JL
open Go.Proofs.Tryz renaming func284 -> vaa in
open Go.Ev renaming Rg -> vab in
open Go.Proofs renaming bH -> vac in
def DS{l:List (jV)}(p:jV->Bool)(hlen:l.length<=1000000)(hp:∀x∈l,PC prog fid ((first++[.ag (bH x)])++cap) (·=ai (p x)))(hg:bR first=true/\bR cap=true):PC prog 284 [an 3 l bH,.fn fid first cap] (·=ab (fO p l)):=by
 have vad:=@bH.eq_1;exact JL
def qP{l:List (List Nat)}(p:List Nat->Bool)(hlen:l.length<=1000000)(hp:∀x∈l,PC prog fid ((first++[ah x])++cap) (·=ai (p x)))(hg:bR first=true/\bR cap=true):PC prog 262 [an 1 l (aH ah),.fn fid first cap] (·=ab (fO p l)):=by
 refine pB 19 Tryz.func262 ?_;refine(aD @an.eq_1)<|(zV)<|(zs) ?_;refine zL l (λk=>∀(i:Nat) y,i<k->l[i]?=some y->p y=false) (λk=>[(0,.sl l.length 1 (l.flatMap (aH ah))),(1,.fn fid first cap),(7,ab l.length),(8,ab k)]) (λk=>[]) zH zp ?_;intro k hk hall;refine zT l k ?_ ?_;rintro rfl;rotate_left;intro x hx hlt;rotate_left
 ·exact(gg)<|(zV)<|zo [.tmp 4] (hq:=by rw[ib hall])
 ·refine(gA)<|(zV)<|(e9 (cJ hlt (aQ (e:=1) (enc:=(aH ah)) gc hx) @aH.eq_1))<|(zK (hp x (mem_iff_getElem?.2 ⟨k,hx⟩)) (hwk:=((cu.refl hg.1).app zr).app (cu.refl hg.2))) ?_;refine aL.nil ?_
  change aG _ _ _ _ _;cases hpx:p x
  ·refine(zN)<|(aD (zi hlt hlen)) ?_;refine zX hlt zH ?_
   intro i y hi hy;by_cases hik:i=k
   ·subst hik;rw[hx] at hy;cases hy;exact hpx
   ·exact hall i y i4 hy
  ·exact(cI)<|zo [.tmp 4] (hq:=by rw[lT hx hpx hall])
def A5(s:List Nat):PC prog 54 [.ag [ah s,.any,.any]] (·=ah s):=by
 refine pB 5 Tryz.func54 ?_;exact(om)<|zo [.tmp 2]
def A8(s:List Nat):PC prog 235 [.ag [ah s,.any,.any]] (·=ah s):=by
 refine pB 5 Tryz.func235 ?_;exact(om)<|zo [.tmp 2]
def GK(k:aV)(s:List Nat):PC prog 125 [.ag (ao k),.ip [.fn 54 [] []],.ip [ah s]] (·=ai (decide (k.name=s))):=by
 refine pB 10 Tryz.func125 ?_;refine(aD @ao.eq_1)<|(zs) ?_;refine nh [0,0,3,0,15,31] ?_;refine(zD) ?_;refine SD.k ii rfl rfl ii rfl rfl zc (A5 k.name) (.cons (.ag (.cons (.a _) (.cons (.any _) (.cons (.any _) .nil)))) .nil) rfl ?_;exact(zD)<|(zM)<|zo [.tmp 4]
def GV(k:jV)(s:List Nat):PC prog 285 [.ag (bH k),.ip [.fn 235 [] []],.ip [ah s]] (·=ai (decide (k.name=s))):=by
 refine pB 10 Tryz.func285 ?_;refine(aD @bH.eq_1)<|(zs) ?_;refine nh [0,0,3,0,15,31] ?_;refine(zD) ?_;refine SD.k ii rfl rfl ii rfl rfl zc (A8 k.name) (.cons (.ag (.cons (.a _) (.cons (.any _) (.cons (.any _) .nil)))) .nil) rfl ?_;exact(zD)<|(zM)<|zo [.tmp 4]
def DT(l:List aV)(s:List Nat)(hlen:l.length<=1000000):PC prog 53 [an 3 l ao,.fn 54 [] [],ah s] (·=ab (fO (λk=>decide (k.name=s)) l)):=by
 refine pB 10 Tryz.func53 ?_;exact(jr)<|(zK (DP (λk=>decide (k.name=s)) (first:=[]) (cap:=[.ip [.fn 54 [] []],.ip [ah s]]) hlen (λx _=>GK x s) ⟨rfl,rfl⟩))<|(zR)<|zo [.tmp 6]
def Ea(l:List jV)(s:List Nat)(hlen:l.length<=1000000):PC prog 234 [an 3 l bH,.fn 235 [] [],ah s] (·=ab (fO (λk=>decide (k.name=s)) l)):=by
 refine pB 10 Tryz.func234 ?_;exact(jr)<|(zK (DS (λk=>decide (k.name=s)) (first:=[]) (cap:=[.ip [.fn 235 [] []],.ip [ah s]]) hlen (λx _=>GV x s) ⟨rfl,rfl⟩))<|(zR)<|zo [.tmp 6]
def tE(p:α->Bool)(l:List α):(fO p l = -1/\l.find? p=none)\/∃(k:Nat) (x:α),fO p l=(k:Int)/\k<l.length/\l[k]?=some x/\l.find? p=some x:=by
 unfold fO
 cases hf:l.findIdx? p with
 | none=>
  rw[List.findIdx?_eq_none_iff] at hf;exact .inl ⟨rfl,by rw[dt];intro x hx;rw[hf x hx];decide⟩
 | some k=>
  obtain⟨hlt,h1,h2⟩:=List.findIdx?_eq_some_iff_getElem.1 hf;refine .inr ⟨k,l[k],rfl,hlt,jp hlt,?_⟩;rw[List.find?_eq_some_iff_getElem];exact⟨h1,k,hlt,rfl,λj hj=>by simpa using h2 j hj⟩
def aV.zero:aV:=⟨[],false,[]⟩
def jV.zero:jV:=⟨[],[],0⟩
def dU(l:List aV)(s:List Nat):Option aV:=l.find? λk=>decide (k.name=s)
def pq(l:List jV)(s:List Nat):Option jV:=l.find? λk=>decide (k.name=s)
def iW(enc:α->List SV)(z:α):Option α->SV
 | some x=>.cx [.ag (enc x),ai true]
 | none=>.cx [.ag (enc z),ai false]
def kF(l:List aV)(s:List Nat)(hlen:l.length<=1000000):PC prog 16 [.ag [an 3 l ao],ah s] (·=iW ao aV.zero (dU l s)):=by
 refine pB 19 Tryz.func16 ?_;refine(jr)<|(zK (DT l s hlen))<|(zR) ?_
 rcases tE (λk:aV=>decide (k.name=s)) l with⟨h1,h2⟩ | ⟨k,x,h1,hlt,hx,h2⟩
 ·rw[h1]
  refine(w6)<|(zV)<|(zE) ?_;exact Bh.of (rs:=[.cell 4 61,.tmp 5]) (r:=.cx [.ag [ah [],ai false,.sl 0 3 []],ai false]) rfl rfl zl zv (by (try simp only[eC,bJ]);first | done | (unfold dU;rw[h2];rfl))
 ·rw[h1]
  exact(aD (show decide ((k:Int)<0)=false by simp))<|(zN)<|(aD (cJ hlt (aQ (e:=3) (enc:=ao) gc hx) @ao.eq_1))<|jZ [.cell 4 61,.tmp 5] (hq:=by unfold dU;rw[h2];rfl)
def Am(l:List aV)(kind name:List Nat)(hlen:l.length<=1000000)(hs:∀k∈l,k.bL.length<=1000000):PC prog 150 [.ag [an 3 l ao],ah kind,ah name] (·=iW bH jV.zero ((dU l kind).bind λk=>pq k.bL name)):=by
 refine pB 29 Tryz.func150 ?_
 obtain⟨q,b,h1,h2,h3⟩:∃(q:aV) (b:Bool),iW ao aV.zero (dU l kind)=.cx [.ag (ao q),ai b]/\q.bL.length<=1000000/\((dU l kind).bind λk=>pq k.bL name)=pq q.bL name:=by
  cases hf:dU l kind with
  | none=>exact⟨aV.zero,false,rfl,ck _,rfl⟩
  | some q=>exact⟨q,true,rfl,hs q (aW hf),rfl⟩
 rw[h3];have hF:=kF l kind hlen;rw[h1] at hF
 refine(jr)<|(zK hF (hfl:=.inr zr))<|(cP @ao.eq_1)<|(zC)<|(zK (Ea q.bL name h2))<|(zR) ?_
 rcases tE (λk:jV=>decide (k.name=name)) q.bL with⟨g1,g2⟩ | ⟨k,x,g1,hlt,hx,g2⟩
 ·rw[g1]
  refine(w6)<|(zV)<|(zE) ?_;exact Bh.of (rs:=[.cell 6 155,.tmp 7]) (r:=.cx [.ag [ah [],.sl 0 1 [],ab 0],ai false]) rfl rfl zl zv (by (try simp only[eC,bJ]);first | done | (unfold pq;rw[g2];rfl))
 ·rw[g1]
  exact(aD (show decide ((k:Int)<0)=false by simp))<|(zN)<|(aD (cJ hlt (aQ (e:=3) (enc:=bH) gc hx) @bH.eq_1))<|jZ [.cell 6 155,.tmp 7] (hq:=by unfold pq;rw[g2];rfl)
def oe(l:List (List Nat))(s:List Nat)(hlen:l.length<=1000000):PC prog 122 [an 1 l (aH ah),ah s] (·=ab (fO (λx=>decide (s=x)) l)):=by
 refine pB 19 Tryz.func122 ?_;refine(om)<|(zs) ?_;refine zL l (λk=>∀(i:Nat) y,i<k->l[i]?=some y->decide (s=y)=false) (λk=>[(0,.sl l.length 1 (l.flatMap (aH ah))),(1,ah s),(7,ab l.length),(8,ab k)]) (λk=>[]) zH zp ?_;intro k hk hall;refine zT l k ?_ ?_;rintro rfl;rotate_left;intro x hx hlt;rotate_left
 ·exact(gg)<|(zV)<|zo [.tmp 4] (hq:=by rw[ib hall])
 ·refine(gA)<|(zV)<|(aD (cJ hlt (aQ (e:=1) (enc:=aH ah) gc hx) @aH.eq_1)) ?_
  cases hpx:decide (s=x)
  ·refine(zN)<|(aD (zi hlt hlen)) ?_;refine zX hlt zH ?_
   intro i y hi hy;by_cases hik:i=k
   ·subst hik;rw[hx] at hy;cases hy;exact hpx
   ·exact hall i y i4 hy
  ·exact(cI)<|zo [.tmp 4] (hq:=by rw[lT hx hpx hall])
def CS{l:List (List Nat)}{s:List Nat}:decide (0<=fO (λx=>decide (s=x)) l)=l.contains s:=by
 rcases tE (λx=>decide (s=x)) l with⟨g1,g2⟩ | ⟨k,x,g1,hlt,hx,g2⟩
 ·rw[g1];rw[dt] at g2
  have:s∉l:=λhm=>by simpa using g2 s hm
  simp[this]
 ·rw[g1];have h:=em g2;have hm:=aW g2;simp only[wp] at h;subst h;simp[hm]
def iA(l:List (List Nat))(s:List Nat)(hlen:l.length<=1000000):PC prog 51 [an 1 l (aH ah),ah s] (·=ai (l.contains s)):=by
 refine pB 9 Tryz.func51 ?_;exact(jr)<|(zK (oe l s hlen))<|(zR)<|zo [.tmp 4] (hq:=by rw[CS])
def vz(l:List aV)(kind name other:List Nat):Bool:=match (dU l kind).bind λk=>pq k.bL name with
 | some s=>s.kinds.contains other
 | none=>false
def wx(l:List aV)(kind name other:List Nat)(hlen:l.length<=1000000)(hs:∀k∈l,k.bL.length<=1000000/\∀s∈k.bL,s.kinds.length<=1000000):PC prog 116 [.ag [an 3 l ao],ah kind,ah name,ah other] (·=ai (vz l kind name other)):=by
 refine pB 25 Tryz.func116 ?_;have hF:=Am l kind name hlen λk hk=>(hs k hk).1;refine(jr) ?_;unfold Proofs.vz
 cases hf:(dU l kind).bind λk=>pq k.bL name with
 | none=>
  rw[hf] at hF
  exact(zK hF (hfl:=.inr zr))<|(cP (cJ @iW.eq_1 @bH.eq_1 @jV.zero.eq_1))<|(zV)<|zo [.tmp 8]
 | some q=>
  have hq:q.kinds.length<=1000000:=by
   obtain⟨k,hk,h2⟩:=ul hf;exact(hs k (aW hk)).2 q (aW h2)
  rw[hf] at hF
  exact(zK hF (hfl:=.inr zr))<|(cP (bu @iW.eq_1 @bH.eq_1))<|(zC)<|(zK (iA q.kinds other hq))<|(zR)<|zo [.tmp 8]
def fi(s:List Nat):Prop:=s.length<=1000000/\∀b∈s,b<256
def dW(s:List Nat)(h:fi s):PC prog 101 [ah s] (·=ai (cX s)):=A6 s h.1 h.2
def mb:Keys prog 9 AV.str:=NC zW
variable{S:List SO}{o:Nat}
def gX{l:List (List Nat×Bool)}(s:List Nat)(ok:Bool)(hS:S[o]?=some (bE AV.str ai l)):jc prog S 133 (.map o) (.a (.str s)) ok=some (cond ok (.cx [ai (getM false s l),ai (dF s l)]) (ai (getM false s l))):=
 NJ (uv:=ai) (u0:=false) (k:=s) (kt:=9) (et:=4) (z:=.bool false) (by simp only[aC]) mb (by simp only[aC]) rfl hS rfl ok
def rK{l:List (List Nat×Bool)}(s:List Nat)(u:Bool)(hS:S[o]?=some (bE AV.str ai l)):ik prog S 133 (.map o) (.a (.str s)) (.a (.bool u))=some (S.set o (bE AV.str ai (cy s u l))):=
 Ir (uv:=ai) (kt:=9) (et:=4) (by simp only[aC]) mb hS rfl u
def lC(parts:List (List Nat×Bool)):List (List Nat×Bool)->List (List Nat)->Bool
 | _,[]=>true
 | taken,x::xs=>!(getM false x taken||!getM false x parts)&&lC parts (cy x true taken) xs
def iL(parts:List (List Nat×Bool)):List (List Nat×Bool)->List jV->Bool
 | _,[]=>true
 | seen,s::ss=>!(getM false s.name seen||(!cX s.name||(decide (s.normal<1)||decide ((s.kinds.length:Int)<s.normal))))&&(lC parts [] s.kinds&&iL parts (cy s.name true seen) ss)
def ie:List (List Nat×Bool)->List aV->Bool
 | _,[]=>true
 | parts,k::ks=>!(dF k.name parts||(!cX k.name||decide (12<(k.bL.length:Int))))&&(iL parts [] k.bL&&ie (cy k.name (!k.vehicle) parts) ks)
def qk(l:List aV):Bool:=ie [] l&&decide ((l.length:Int)<=60)
structure mz (l:List aV):Prop where
 len:l.length<=1000000
 kind:∀k∈l,fi k.name/\k.bL.length<=1000000
 slot:∀k∈l,∀s∈k.bL,fi s.name/\s.kinds.length<=1000000
def eV{x:α}(h:l[k]?=some x):l.drop k=x::l.drop (k+1):=by
 obtain⟨hlt,he⟩:=rt h;rw[c6 hlt,he]
def nM(l:List aV)(hl:mz l):PC prog 42 [.ag [an 3 l ao]] (·=ai (qk l)):=by
 have hlen:=hl.len
 refine pB 108 Tryz.func42 ?_;refine(om)<|(zV)<|(zs) ?_;refine Ho l (λk (parts:List (List Nat×Bool))=>ie [] l=ie parts (l.drop k)) (λk parts=>[(1,.ptr 0 0),(3,.map 1),(16,an 3 l ao),(17,ab l.length),(18,ab k)]) (λk parts=>[.cells [an 3 l ao],bE AV.str ai parts]) ([]) zH ii ?_;intro k parts hk hall;refine zT l k ?_ ?_;rintro rfl;rotate_left;intro x hx hlt;rotate_left
 ·exact(gg)<|(zV)<|zo [.tmp 2] (hq:=by rw[show qk l=decide ((l.length:Int)<=60) from by unfold qk;rw[hall,bs];rfl])
 have no:ie parts (l.drop k)=false->qk l=false:=λh=>by unfold qk;rw[hall,h];rfl
 rw[eV hx] at no hall;have hgx:=hl.kind x (mem_iff_getElem?.2 ⟨k,hx⟩);have hsx:=hl.slot x (mem_iff_getElem?.2 ⟨k,hx⟩)
 refine(gA)<|(aD (gm hlt (aQ (e:=3) (enc:=ao) gc hx) @ao.eq_1 @qz))<|(zs) ?_;refine aG.r0 ii (by simp only[cL,bI,an,aC,m7,m6,↓reduceIte,aa,ad,af,ac,aj,ak,au,bl,gX (l:=parts)];first | done | rfl) ?_
 cases h1:dF x.name parts;rotate_left
 ·exact(w6)<|(zV)<|zo [.tmp 2] (hq:=by rw[no (by simp[ie,h1])])
 refine(zC)<|(zK (dW x.name hgx.1)) ?_
 cases h2:cX x.name
 ·exact(zR)<|(cI)<|zo [.tmp 2] (hq:=by rw[no (by simp[ie,h2])])
 cases h3:decide (12<(x.bL.length:Int));rotate_left
 ·exact(cP h3)<|(cI)<|zo [.tmp 2] (hq:=by rw[no (by simp only[ie,h3,dv,ca,ce])])
 refine(cP h3)<|(zN)<|(aD @qz)<|(zV) ?_
 have hq2:ie [] l=(iL parts [] x.bL&&ie (cy x.name (!x.vehicle) parts) (l.drop (k+1))):=by rw[hall,ie,h1,h2,h3];rfl
 have hnx:True:=trivial
 have no2:iL parts [] x.bL=false->qk l=false:=λh=>by unfold qk;rw[hq2,h];rfl
 have hlen2:=hgx.2;refine(zs) ?_;refine Ho x.bL (λk2 (seen:List (List Nat×Bool))=>iL parts [] x.bL=iL parts seen (x.bL.drop k2)) (λk2 seen=>[(1,.ptr 0 0),(3,.map 1),(16,an 3 l ao),(17,ab l.length),(18,ab k),(5,.ptr 2 0),(8,.map 3),(44,an 3 x.bL bH),(45,ab x.bL.length),(46,ab k2)]) (λk2 seen=>[.cells [an 3 l ao],bE AV.str ai parts,.cells (ao x),bE AV.str ai seen]) ([]) zH ii ?_;intro k2 seen hk2 hall2;refine zT x.bL k2 ?_ ?_;rintro rfl;rotate_left;intro y hx2 hlt2;rotate_left
 ·refine(gg) ?_
  have hall3:ie [] l=ie (cy x.name (!x.vehicle) parts) (l.drop (k+1)):=by rw[hq2,hall2,bs];rfl
  refine(zs) ?_;refine aG.r0 ii (by simp only[cL,bI,an,aC,m7,m6,↓reduceIte,aa,ad,af,ac,aj,ak,au,bl,ao,rK (l:=parts)];first | done | rfl) ?_;refine(aD (zi hlt hlen)) ?_;refine w8 hlt (cy x.name (!x.vehicle) parts) zH hall3
 have no3:iL parts seen (x.bL.drop k2)=false->qk l=false:=λh=>no2 (by rw[hall2,h]);rw[eV hx2] at no3 hall2;have hgy:=hsx y (mem_iff_getElem?.2 ⟨k2,hx2⟩)
 refine(gA)<|(aD (lk hlt2 (aQ (e:=3) (enc:=bH) gc hx2) @bH.eq_1 @ao.eq_1 @qz)) ?_
 cases g1:getM false y.name seen;rotate_left
 ·refine(zs) ?_;refine aG.r0 ii (by simp only[cL,bI,an,aC,m7,m6,↓reduceIte,aa,ad,af,ac,aj,ak,au,bl,gX (l:=seen),g1];first | done | rfl) ?_;exact(cI)<|zo [.tmp 2] (hq:=by rw[no3 (by simp[iL,g1])])
 refine(zs) ?_;refine aG.Rk ii (by simp only[cL,bI,an,aC,m7,m6,↓reduceIte,aa,ad,af,ac,aj,ak,au,bl,gX (l:=seen),g1];first | done | rfl) ?_;refine(zK (dW y.name hgy.1)) ?_;cases g2:cX y.name
 ·exact(zR)<|(cI)<|zo [.tmp 2] (hq:=by rw[no3 (by simp[iL,g2])])
 cases g3:decide (y.normal<1);rotate_left
 ·exact(cP g3)<|(cI)<|zo [.tmp 2] (hq:=by rw[no3 (by simp only[iL,g3,dv,ef,ca,ce])])
 cases g4:decide ((y.kinds.length:Int)<y.normal);rotate_left
 ·exact(cP (bu g3 g4))<|(cI)<|zo [.tmp 2] (hq:=by rw[no3 (by simp only[iL,g4,dv,ef,ca,ce])])
 refine(cP (bu g3 g4))<|(zN)<|(zs) ?_;refine aG.r0 ii (by simp only[cL,bI,an,aC,m7,m6,↓reduceIte,aa,ad,af,ac,aj,ak,au,bl,rK (l:=seen)];first | done | rfl) ?_;refine(aD @qz)<|(zV) ?_
 have hq3:iL parts [] x.bL=(lC parts [] y.kinds&&iL parts (cy y.name true seen) (x.bL.drop (k2+1))):=by rw[hall2,iL,g1,g2,g3,g4];rfl
 have no4:lC parts [] y.kinds=false->qk l=false:=λh=>no2 (by rw[hq3,h];rfl);have hlen3:=hgy.2;refine(zs) ?_;refine Ho y.kinds (λk3 (taken:List (List Nat×Bool))=>lC parts [] y.kinds=lC parts taken (y.kinds.drop k3)) (λk3 taken=>[(1,.ptr 0 0),(3,.map 1),(16,an 3 l ao),(17,ab l.length),(18,ab k),(5,.ptr 2 0),(8,.map 3),(44,an 3 x.bL bH),(45,ab x.bL.length),(46,ab k2),(11,.map 5),(78,an 1 y.kinds (aH ah)),(79,ab y.kinds.length),(80,ab k3)]) (λk3 taken=>[.cells [an 3 l ao],bE AV.str ai parts,.cells (ao x),bE AV.str ai (cy y.name true seen),.gone,bE AV.str ai taken]) ([]) (cf (bu @aH.eq_1 @ao.eq_1)) ii ?_;intro k3 taken hk3 hall3;refine zT y.kinds k3 ?_ ?_;rintro rfl;rotate_left;intro z hx3 hlt3;rotate_left
 ·refine(gg) ?_
  have hall4:iL parts [] x.bL=iL parts (cy y.name true seen) (x.bL.drop (k2+1)):=by rw[hq3,hall3,bs];rfl
  refine(aD (zi hlt2 hlen2)) ?_;refine w8 hlt2 (cy y.name true seen) (cf @ao.eq_1) hall4
 have no5:lC parts taken (y.kinds.drop k3)=false->qk l=false:=λh=>no4 (by rw[hall3,h]);rw[eV hx3] at no5 hall3
 refine(gA)<|(aD (cJ hlt3 (aQ (e:=1) (enc:=aH ah) gc hx3) @aH.eq_1)) ?_
 cases f1:getM false z taken;rotate_left
 ·refine(zs) ?_;refine aG.r0 ii (by simp only[cL,bI,an,aC,m7,m6,↓reduceIte,aa,ad,af,ac,aj,ak,au,bl,gX (l:=taken),f1];first | done | rfl) ?_;exact(cI)<|zo [.tmp 2] (hq:=by rw[no5 (by simp[lC,f1])])
 cases f2:getM false z parts
 ·refine(zs) ?_;refine aG.r0 ii (by simp only[cL,bI,an,aC,m7,m6,↓reduceIte,aa,ad,af,ac,aj,ak,au,bl,gX (l:=taken),gX (l:=parts),f1,f2];first | done | rfl) ?_;exact(cI)<|zo [.tmp 2] (hq:=by rw[no5 (by simp[lC,f2])])
 refine(zs) ?_;refine aG.r0 ii (by simp only[cL,bI,an,aC,m7,m6,↓reduceIte,aa,ad,af,ac,aj,ak,au,bl,gX (l:=taken),gX (l:=parts),f1,f2];first | done | rfl) ?_;refine(zN) ?_
 have hall5:lC parts [] y.kinds=lC parts (cy z true taken) (y.kinds.drop (k3+1)):=by rw[hall3,lC,f1,f2];rfl
 refine(zs) ?_;refine aG.r0 ii (by simp only[cL,bI,an,aC,m7,m6,↓reduceIte,aa,ad,af,ac,aj,ak,au,bl,rK (l:=taken)];first | done | rfl) ?_;refine(aD (zi hlt3 hlen3)) ?_;refine w8 hlt3 (cy z true taken) (cf (bu @aH.eq_1 @ao.eq_1)) hall5
def nB{p:α->Bool}:decide (0<=fO p l)=l.any p:=by
 rcases tE p l with⟨g1,g2⟩ | ⟨k,x,g1,hlt,hx,g2⟩
 ·rw[g1];rw[dt] at g2
  have:l.any p=false:=by
   rw[List.any_eq_false];exact g2
  rw[this];rfl
 ·rw[g1];have:l.any p=true:=List.any_eq_true.2 ⟨x,aW g2,em g2⟩;rw[this];simp
def Gs{l:List (List Nat)}(p:List Nat->Bool)(hlen:l.length<=1000000)(hp:∀x∈l,PC prog fid ((first++[ah x])++cap) (·=ai (p x)))(hg:bR first=true/\bR cap=true):PC prog 191 [an 1 l (aH ah),.fn fid first cap] (·=ai (l.any p)):=by
 refine pB 9 Tryz.func191 ?_;exact(jr)<|(zK (qP p hlen hp hg) (hwk:=.cons (Wk.sl _ _ _) (.cons (.fn (cu.refl hg.1) (cu.refl hg.2)) .nil)))<|(zR)<|zo [.tmp 4] (hq:=by rw[nB])
structure bB where
 op:Int
 day:Int
 part:List Nat
 kind:List Nat
 br:List Nat
 slot:List Nat
 key:List Nat
 value:List Nat
 u1:Int
 u2:Int
 u3:Int
 u4:Int
 u5:Int
 u6:Int
 deriving DecidableEq
def ar(e:bB):List SV:=[ab e.op,ab e.day,ah e.part,ah e.kind,ah e.br,ah e.slot,ah e.key,ah e.value,ab e.u1,ab e.u2,ab e.u3,ab e.u4,ab e.u5,ab e.u6]
def bB.av(e:bB):List AV:=[.int .i64 e.op,.int .i64 e.day,.str e.part,.str e.kind,.str e.br,.str e.slot,.str e.key,.str e.value,.int .i64 e.u1,.int .i64 e.u2,.int .i64 e.u3,.int .i64 e.u4,.int .i64 e.u5,.int .i64 e.u6]
def bB.zero:bB:=⟨0,0,[],[],[],[],[],[],0,0,0,0,0,0⟩
def bB.Ve:List Kd:=[.i .i64,.i .i64,.s,.s,.s,.s,.s,.s,.i .i64,.i .i64,.i .i64,.i .i64,.i .i64,.i .i64]
def bB.eq(a b:bB):fJ eE a.av b.av=decide (a=b):=by
 obtain⟨a1,a2,a3,a4,a5,a6,a7,a8,a9,a10,a11,a12,a13,a14⟩:=a;obtain⟨b1,b2,b3,b4,b5,b6,b7,b8,b9,b10,b11,b12,b13,b14⟩:=b;simp only[bB.av,fJ,eE,AI,sv,ly,cH,ct,bB.mk.injEq,el]
def LW(a b:bB):dk prog .eql 90 (.agg a.av) (.agg b.av)=some (.bool (decide (a=b))):=
 sV (ks:=bB.Ve) zW zW (by simp only[aC,m6]) rfl rfl (bB.eq a b)
def Sz:List (List Nat):=[[],[109,97,107,101],[102,105,116],[114,101,109,111,118,101],[114,117,110],[111,118,101,114,104,97,117,108],[110,111,116,101],[115,99,114,97,112]]
def Hk(op:Int):List Nat:=if op<0\/8<=op then [] else (Sz[op.toNat]?).getD []
def Jk(op:Int):PC prog 189 [ab op] (·=ah (Hk op)):=by
 refine pB 14 Tryz.func189 ?_;refine(om) ?_;cases h1:decide (op<0);rotate_left
 ·exact(aD h1)<|(cI)<|zo [.tmp 2] (hq:=by rw[Hk,ut (.inl (ww h1))])
 cases h2:decide (8<=op);rotate_left
 ·exact(aD (bu h1 h2))<|(cI)<|zo [.tmp 2] (hq:=by rw[Hk,ut (.inr (ww h2))])
 refine(aD (bu h1 h2))<|(zN) ?_
 have hop:op=0\/op=1\/op=2\/op=3\/op=4\/op=5\/op=6\/op=7:=by simp only[wn] at h1 h2;omega
 rcases hop with rfl | rfl | rfl | rfl | rfl | rfl | rfl | rfl<;>(refine(zV) ?_ ;exact zo [.tmp 2])
def Af(a b c d e f:SV):PC prog 190 [.ip [a,b,c,d,e,f]] (·=.ag [.ip [a,b,c,d,e,f],.ip [c,d,e,f],.ip [e,f]]):=by
 refine pB 13 Tryz.func190 ?_;refine(zV)<|(zs) ?_;refine nh [0,1,3,0,8,24,0,64,192,511,1023] ?_;refine(zD) ?_;refine SD.e ii rfl ii rfl rfl ii zl ?_;exact(zM)<|zo [.cell 2 251]
def D0(s:List Nat)(h:fi s):PC prog 192 [ah s] (·=ai (!cX s)):=by
 refine pB 6 Tryz.func192 ?_;exact(jr)<|(zK (dW s h))<|(zR)<|zo [.tmp 2]
def jG(a b:Int):Bool:=!(decide (a<0))&&(!(decide (b<a))&&!(decide (1000000<b)))
def bB.use(e:bB):Bool:=jG e.u1 e.u2&&(jG e.u3 e.u4&&jG e.u5 e.u6)
def bB.rest(e:bB):bB:=
 if e.op=1 then ⟨0,0,[],[],e.br,e.slot,e.key,e.value,e.u1,e.u2,e.u3,e.u4,e.u5,e.u6⟩
 else if e.op=2 then ⟨0,0,[],e.kind,[],[],e.key,e.value,e.u1,e.u2,e.u3,e.u4,e.u5,e.u6⟩
 else if e.op=6 then ⟨0,0,[],e.kind,e.br,e.slot,[],[],e.u1,e.u2,e.u3,e.u4,e.u5,e.u6⟩
 else if e.op=4 then ⟨0,0,[],e.kind,e.br,e.slot,e.key,e.value,0,0,0,0,0,0⟩
 else ⟨0,0,[],e.kind,e.br,e.slot,e.key,e.value,e.u1,e.u2,e.u3,e.u4,e.u5,e.u6⟩
def bB.names(e:bB):List (List Nat):=if e.op=1 then [e.kind] else if e.op=2 then [e.br,e.slot] else if e.op=6 then [e.key] else []
def bB.kL(e:bB):Bool:=
 if e.op=1 then true else if e.op=2 then !(decide (e.br=e.part)) else if e.op=6 then !(decide (e.value=[]))&&!(decide (200<(e.value.length:Int))) else if e.op=4 then e.use else true
def gz(e:bB):Bool:=!(decide (Hk e.op=[]))&&(!(decide (e.day<0))&&(!(decide (40000<e.day))&&(cX e.part&&(e.kL&&(decide (e.rest=bB.zero)&&!(e.names.any λs=>!cX s))))))
structure lN (e:bB):Prop where
 part:fi e.part
 kind:fi e.kind
 br:fi e.br
 slot:fi e.slot
 key:fi e.key
 value:fi e.value
def Ac(a1 a2:Int)(a3 a4 a5 a6 a7 a8:List Nat)(a9 a10 a11 a12 a13 a14:Int):dk prog .eql 90 (.agg [.int .i64 a1,.int .i64 a2,.str a3,.str a4,.str a5,.str a6,.str a7,.str a8,.int .i64 a9,.int .i64 a10,.int .i64 a11,.int .i64 a12,.int .i64 a13,.int .i64 a14]) (.agg [.int .i64 0,.int .i64 0,.str [],.str [],.str [],.str [],.str [],.str [],.int .i64 0,.int .i64 0,.int .i64 0,.int .i64 0,.int .i64 0,.int .i64 0])=some (.bool (decide ((⟨a1,a2,a3,a4,a5,a6,a7,a8,a9,a10,a11,a12,a13,a14⟩:bB)=bB.zero))):=
 LW ⟨a1,a2,a3,a4,a5,a6,a7,a8,a9,a10,a11,a12,a13,a14⟩ bB.zero
def G2(e:bB)(he:lN e):PC prog 108 [.ag (ar e)] (·=ai (gz e)):=by
 refine pB 111 Tryz.func108 ?_;refine(aD @ar.eq_1)<|(zC)<|(zK (Jk e.op)) ?_
 cases h1:decide (Hk e.op=[]);rotate_left
 ·exact(cP h1)<|(cI)<|zo [.tmp 2] (hq:=by rw[gz,h1];rfl)
 cases h2:decide (e.day<0);rotate_left
 ·exact(cP (bu h1 h2))<|(cI)<|zo [.tmp 2] (hq:=by rw[gz,h1,h2];rfl)
 cases h3:decide (40000<e.day);rotate_left
 ·exact(cP (cJ h1 h2 h3))<|(cI)<|zo [.tmp 2] (hq:=by rw[gz,h1,h2,h3];rfl)
 refine(Mf (cJ h1 h2 h3))<|(zK (dW e.part he.part)) ?_
 cases h4:cX e.part
 ·exact(zR)<|(cI)<|zo [.tmp 2] (hq:=by rw[gz,h1,h2,h3,h4];rfl)
 refine(zR)<|(zN) ?_
 have hv:gz e=(e.kL&&(decide (e.rest=bB.zero)&&!(e.names.any λs=>!cX s))):=by rw[gz,h1,h2,h3,h4];rfl
 clear h1 h2 h3 h4
 have hn:∀s∈e.names,fi s:=by
  intro s hs;unfold bB.names at hs;split at hs
  ·rw[t6 hs];exact he.kind
  split at hs
  ·rcases t7 hs with rfl | hs
   ·exact he.br
   ·rw[t6 hs];exact he.slot
  split at hs
  ·rw[t6 hs];exact he.key
  ·cases hs
 have hnl:e.names.length<=1000000:=by
  unfold bB.names
  repeat' split
  all_goals simp
 refine(om)<|(om) ?_
 (repeat refine aG.seq ?_)
 refine aG.mono (Q:=λex st=>(ex=.normal/\e.kL=true/\Fg st ⟨[(3,.sl e.names.length 1 (e.names.flatMap (aH ah))),(4,.ptr 2 0)],111,[.gone,.gone,.cells (ar e.rest)],[]⟩)\/(ex=.ret/\Bh prog Tryz.f108 (·=ai (gz e)) .ret st)) ?_ ?_;rotate_left
 ·rintro ex st (⟨rfl,hm,hf⟩ | ⟨rfl,hs⟩);rotate_left
  ·exact hs
  change aG _ _ _ _ _;refine aG.fg hf ?_;rw[hv,hm,cH];cases r:decide (e.rest=bB.zero)
  ·exact(aD (cJ @ar.eq_1 @Ac r))<|zo [.tmp 2]
  ·exact(e9 (cJ @ar.eq_1 @Ac r))<|(zK (Gs (λs=>!cX s) (l:=e.names) (first:=[]) (cap:=[]) hnl (λx hx=>D0 x (hn x hx)) ⟨rfl,rfl⟩))<|(zR)<|zo [.tmp 2]
 have hrest:∀a1 a2 a3 a4 a5 a6 a7 a8 a9 a10 a11 a12 a13 a14,e.rest=(⟨a1,a2,a3,a4,a5,a6,a7,a8,a9,a10,a11,a12,a13,a14⟩:bB)->ar e.rest=[ab a1,ab a2,ah a3,ah a4,ah a5,ah a6,ah a7,ah a8,ab a9,ab a10,ab a11,ab a12,ab a13,ab a14]:=by
  intros;simp only[*,ar]
 refine aG.block ?_;refine(zV) ?_;cases k1:decide (e.op=1);rotate_left
 ·have k1':=ww k1;refine(cI) ?_;have hr:=hrest _ _ _ _ _ _ _ _ _ _ _ _ _ _ (show e.rest=_ by unfold bB.rest;rw[ut k1'])
  have hnm:e.names=[e.kind]:=by unfold bB.names;rw[ut k1']
  refine .inl ⟨rfl,by unfold bB.kL;rw[ut k1'],?_⟩;rw[hr,hnm];exact Fg.trans (Fg.freeze (f':=[(3,.sl 1 1 [ah e.kind]),(4,.ptr 2 0)]) 3 rfl gt zG) zH
 have n1:=wt k1;refine(lj) ?_;cases k2:decide (e.op=2);rotate_left
 ·have k2':=ww k2
  have hmid:e.kL=!(decide (e.br=e.part)):=by unfold bB.kL;rw[v6 n1,ut k2']
  refine(cI) ?_;cases j1:decide (e.br=e.part);rotate_left
  ·refine(cI) ?_;refine aG.ret ?_;refine .inr ⟨rfl,?_⟩;exact zO [.tmp 2] (hq:=by (try simp only[eC,bJ]);first | done | (rw[hv,hmid,j1];rfl))
  refine(lj) ?_;have hr:=hrest _ _ _ _ _ _ _ _ _ _ _ _ _ _ (show e.rest=_ by unfold bB.rest;rw[v6 n1,ut k2'])
  have hnm:e.names=[e.br,e.slot]:=by unfold bB.names;rw[v6 n1,ut k2']
  refine .inl ⟨rfl,by rw[hmid,j1];rfl,?_⟩;rw[hr,hnm];exact Fg.trans (Fg.freeze (f':=[(3,.sl 2 1 [ah e.br,ah e.slot]),(4,.ptr 2 0)]) 3 rfl gt zG) zH
 have n2:=wt k2;refine(lj) ?_;cases k6:decide (e.op=6);rotate_left
 ·have k6':=ww k6
  have hmid:e.kL=(!(decide (e.value=[]))&&!(decide (200<(e.value.length:Int)))):=by unfold bB.kL;rw[v6 n1,v6 n2,ut k6']
  refine(zY) ?_;cases j1:decide (e.value=[]);rotate_left
  ·refine(aD j1)<|(cI) ?_;refine aG.ret ?_;refine .inr ⟨rfl,?_⟩;exact zO [.tmp 2] (hq:=by (try simp only[eC,bJ]);first | done | (rw[hv,hmid,j1];rfl))
  cases j2:decide (200<(e.value.length:Int));rotate_left
  ·(repeat refine aG.seq ?_);refine aG.r0 ii (me (bu j1 j2)) ?_
   refine(cI) ?_;refine aG.ret ?_;refine .inr ⟨rfl,?_⟩;exact zO [.tmp 2] (hq:=by (try simp only[eC,bJ]);first | done | (rw[hv,hmid,j1,j2];rfl))
  refine(zs) ?_;refine aG.r0 ii (by simp only[cL,bI,an,aC,m7,m6,↓reduceIte,aa,ad,af,ac,aj,ak,au,bl,j1,j2];first | done | rfl) ?_;refine(lj) ?_;have hr:=hrest _ _ _ _ _ _ _ _ _ _ _ _ _ _ (show e.rest=_ by unfold bB.rest;rw[v6 n1,v6 n2,ut k6'])
  have hnm:e.names=[e.key]:=by unfold bB.names;rw[v6 n1,v6 n2,ut k6']
  refine .inl ⟨rfl,by rw[hmid,j1,j2];rfl,?_⟩;rw[hr,hnm];exact Fg.trans (Fg.freeze (f':=[(3,.sl 1 1 [ah e.key]),(4,.ptr 2 0)]) 3 rfl gt zG) zH
 have n6:=wt k6
 have hnm:e.names=[]:=by unfold bB.names;rw[v6 n1,v6 n2,v6 n6]
 refine(lj) ?_;cases k4:decide (e.op=4)
 ·have n4:=wt k4;refine(zN) ?_;have hr:=hrest _ _ _ _ _ _ _ _ _ _ _ _ _ _ (show e.rest=_ by unfold bB.rest;rw[v6 n1,v6 n2,v6 n6,v6 n4]);refine .inl ⟨rfl,by unfold bB.kL;rw[v6 n1,v6 n2,v6 n6,v6 n4],?_⟩;rw[hr,hnm];exact Fg.trans (Fg.freeze (f':=[(3,.sl 0 1 []),(4,.ptr 2 0)]) 1 rfl gt zG) zH
 have k4':=ww k4
 have hmid:e.kL=e.use:=by unfold bB.kL;rw[v6 n1,v6 n2,v6 n6,ut k4']
 refine(zY) ?_;refine zZ [(1,.ip (ar e)),(3,.buf 1 0 1 (some 0)),(4,.ptr 2 0)] 0 rfl (gw @ar.eq_1)<|(e9 @ar.eq_1)<|(zK (Af (ab e.u1) (ab e.u2) (ab e.u3) (ab e.u4) (ab e.u5) (ab e.u6)) (hfl:=.inr zr))<|(zR) ?_
 (repeat refine aG.seq ?_)
 refine aG.block (aG.loop (λm st=>∃k:Nat,k<=3/\m=3-k/\(0<k->jG e.u1 e.u2=true)/\(1<k->jG e.u3 e.u4=true)/\(2<k->jG e.u5 e.u6=true)/\st=⟨[(3,.buf 1 0 1 (some 0)),(4,.ptr 2 0),(73,.ag [.ip [ab e.u1,ab e.u2,ab e.u3,ab e.u4,ab e.u5,ab e.u6],.ip [ab e.u3,ab e.u4,ab e.u5,ab e.u6],.ip [ab e.u5,ab e.u6]]),(74,ab k)],111,[.gone,.cells [],.cells [ab 0,ab 0,ah [],ah e.kind,ah e.br,ah e.slot,ah e.key,ah e.value,ab e.u1,ab e.u2,ab e.u3,ab e.u4,ab e.u5,ab e.u6]],[]⟩) 3 zH ⟨0,by omega,rfl,λh=>un h i4,λh=>un h i4,λh=>un h i4,rfl⟩ (by rintro m st ⟨k,_,_,_,_,_,rfl⟩;rfl) ?_);rintro m st ⟨k,hk,rfl,u1,u2,u3,rfl⟩;refine(zV) ?_;by_cases hlt:k<3;rotate_left
 ·obtain rfl:k=3:=by omega
  refine(gg)<|(aD (show dm prog 88=some (.agg [.int .i64 0,.int .i64 0,.int .i64 0,.int .i64 0,.int .i64 0,.int .i64 0]) by simp only[aC])) ?_
  have hr:=hrest _ _ _ _ _ _ _ _ _ _ _ _ _ _ (show e.rest=_ by unfold bB.rest;rw[v6 n1,v6 n2,v6 n6,ut k4']);refine .inl ⟨rfl,by rw[hmid,bB.use,u1 i4,u2 i4,u3 i4];rfl,?_⟩;rw[hr,hnm];exact Fg.trans (Fg.freeze (f':=[(3,.sl 0 1 []),(4,.ptr 2 0)]) 1 rfl gt zG) zH
 rw[show decide ((k:Int)<3)=true by simp only[wp];omega]
 obtain⟨a,b,l,hab,hno,hyes⟩:∃(a b:Int) (l:List SV),([.ip [ab e.u1,ab e.u2,ab e.u3,ab e.u4,ab e.u5,ab e.u6],.ip [ab e.u3,ab e.u4,ab e.u5,ab e.u6],.ip [ab e.u5,ab e.u6]]:List SV)[k*1]?=some (.ip (ab a::ab b::l))/\(jG a b=false->e.use=false)/\(jG a b=true->(0<k+1->jG e.u1 e.u2=true)/\(1<k+1->jG e.u3 e.u4=true)/\(2<k+1->jG e.u5 e.u6=true)):=by
  have:k=0\/k=1\/k=2:=by omega
  rcases this with rfl | rfl | rfl
  ·exact⟨_,_,_,rfl,λh=>by rw[bB.use,h];rfl,λh=>⟨λ_=>h,λh=>by omega,λh=>by omega⟩⟩
  ·exact⟨_,_,_,rfl,λh=>by rw[bB.use,h,ce,cd],λh=>⟨λ_=>u1 i4,λ_=>h,λh=>by omega⟩⟩
  ·exact⟨_,_,_,rfl,λh=>by rw[bB.use,h,cd,cd],λh=>⟨λ_=>u1 i4,λ_=>u2 i4,λ_=>h⟩⟩
 refine(gA)<|(zs) ?_;refine aG.r0 ii (by simp only[cL,bI,an,aC,m7,m6,↓reduceIte,aa,ad,af,ac,aj,ak,au,bl,hlt,hab];first | done | rfl) ?_
 cases c1:decide (a<0);rotate_left
 ·refine(zs) ?_;refine nh [0,1,3,7,15,31,63,127,255,511,63,1087,3135,7231,16383,32767,65535,131071,262143,524287,1048575,2097151,4194303] ?_;refine(uH c1)<|(zM)<|(cI) ?_;refine aG.ret ?_;refine .inr ⟨rfl,?_⟩;exact zO [.tmp 2] (hq:=by (try simp only[eC,bJ]);first | done | (rw[hv,hmid,hno (by simp[jG,ww c1])];rfl))
 cases c2:decide (b<a);rotate_left
 ·refine(zs) ?_;refine nh [0,1,3,7,15,31,63,127,255,511,63,1087,3135,7231,16383,32767,65535,131071,262143,524287,1048575,2097151,4194303] ?_
  (repeat (first | refine SD.r ii rfl ii ii (by simp only[cL,bI,an,aC,m7,m6,↓reduceIte,aa,ad,af,ac,aj,ak,au,bl,c1,c2];first | done | rfl) ?_ | refine SD.s ii rfl ii ii ?_ | fail))
  refine(zM)<|(cI) ?_;refine aG.ret ?_;refine .inr ⟨rfl,?_⟩;exact zO [.tmp 2] (hq:=by (try simp only[eC,bJ]);first | done | (rw[hv,hmid,hno (by simp[jG,ww c2])];rfl))
 cases c3:decide (1000000<b);rotate_left
 ·refine(zs) ?_;refine nh [0,1,3,7,15,31,63,127,255,511,63,1087,3135,7231,16383,32767,65535,131071,262143,524287,1048575,2097151,4194303] ?_;refine(uH (cJ c1 c2 c3))<|(zM)<|(cI) ?_;refine aG.ret ?_;refine .inr ⟨rfl,?_⟩;exact zO [.tmp 2] (hq:=by (try simp only[eC,bJ]);first | done | (rw[hv,hmid,hno (by simp[jG,ww c3])];rfl))
 refine(zs) ?_;refine nh [0,1,3,7,15,31,63,127,255,511,63,1087,3135,7231,16383,32767,65535,131071,262143,524287,1048575,2097151,4194303] ?_;refine(uH (cJ c1 c2 c3))<|(zM)<|(zN) ?_
 obtain⟨y1,y2,y3⟩:=hyes (by rw[jG,c1,c2,c3];rfl);refine(aD (Ct (show -9223372036854775808<=(k:Int)+1/\(k:Int)+1<=9223372036854775807 from⟨by omega,by omega⟩))) ?_;refine⟨3-(k+1),_,by omega,zH,k+1,by omega,rfl,y1,y2,y3,rfl⟩
structure bN where
 key:List Nat
 value:List Nat
structure aq where
 name:List Nat
 kind:List Nat
 br:List Nat
 slot:List Nat
 made:Int
 since:Int
 cN:Bool
 props:List bN
 l1:Int
 l2:Int
 l3:Int
 l4:Int
 l5:Int
 l6:Int
def aJ(p:bN):List SV:=[ah p.key,ah p.value]
def ae(p:aq):List SV:=[ah p.name,ah p.kind,ah p.br,ah p.slot,ab p.made,ab p.since,ai p.cN,an 2 p.props aJ,ab p.l1,ab p.l2,ab p.l3,ab p.l4,ab p.l5,ab p.l6]
def aq.zero:aq:=⟨[],[],[],[],0,0,false,[],0,0,0,0,0,0⟩
def ku:List (List Nat)->Bool
 | a::b::r=>gC a b&&ku (b::r)
 | _=>true
def yV:∀{l:List (List Nat)},(∀(i:Nat) a b,l[i]?=some a->l[i+1]?=some b->gC a b=true)->ku l=true
 | [],_=>rfl
 | [_],_=>rfl
 | a::b::r,h=>by
  rw[ku,h 0 a b rfl rfl,cH];exact yV λi x y h1 h2=>h (i+1) x y h1 h2
def Dg:∀{l:List (List Nat)} {i:Nat} {a b:List Nat},l[i]?=some a->l[i+1]?=some b->gC a b=false->ku l=false
 | [],i,_,_,h,_,_=>by simp at h
 | [_],i,_,_,_,h,_=>by simp at h
 | x::y::r,0,a,b,h1,h2,h3=>by cases h1;cases h2;rw[ku,h3];rfl
 | x::y::r,i+1,a,b,h1,h2,h3=>by
  rw[ku,Dg (l:=y::r) (i:=i) h1 h2 h3,cd]
variable{i:Nat}
def qw{β:Type}{f:α->β}{b:β}(h:(l.map f)[i]?=some b):∃a,l[i]?=some a/\f a=b:=by
 rw[ax] at h;obtain⟨a,h1,h2⟩:=az h;exact⟨a,h1,h2⟩
def ur(s:List Nat):PC prog 261 [.ag (ah s::ch 1 .any)] (·=ah s):=by
 refine pB 5 Tryz.func261 ?_;refine(aD QB)<|(zV)<|(zE) ?_;exact Bh.of (rs:=[.tmp 2]) rfl rfl zl (Wk.refl rfl) zq
def D3(l:List bN)(hlen:l.length<=1000000):PC prog 260 [an 2 l aJ,.fn 261 [] []] (·=ai (ku (l.map bN.key))):=by
 refine pB 26 Tryz.func260 ?_;refine(om) ?_
 (repeat refine aG.seq ?_)
 refine aG.block (aG.loop (λm st=>∃k:Nat,1<=k/\m=l.length-k/\(∀(i:Nat) a b,i+1<k->l[i]?=some a->l[i+1]?=some b->gC a.key b.key=true)/\st=⟨[(0,an 2 l aJ),(1,.fn 261 [] []),(5,ab k)],26,[],[]⟩) (l.length-1) zH ⟨1,by omega,rfl,λi a b h=>un h i4,rfl⟩ (by rintro m st ⟨k,_,_,_,rfl⟩;rfl) ?_);rintro m st ⟨k,hk,rfl,hall,rfl⟩;refine(zV) ?_;by_cases hlt:k<l.length;rotate_left
 ·rw[show decide ((k:Int)<(l.length:Int))=false by simp only[wn];omega]
  refine(gg)<|(zV) ?_
  exact zo [.tmp 4] (hq:=by rw[yV λi a b h1 h2=>by
   obtain⟨x,hx,rfl⟩:=qw h1;obtain⟨y,hy,rfl⟩:=qw h2
   exact hall i x y (by have:=bq hy;omega) hx hy])
 rw[show decide ((k:Int)<(l.length:Int))=true by simp only[wp];omega];obtain⟨j,rfl⟩:∃j,k=j+1:=⟨k-1,by omega⟩;obtain⟨x,hx⟩:∃x,l[j]?=some x:=⟨l[j],jp i4⟩;obtain⟨y,hy⟩:∃y,l[j+1]?=some y:=⟨l[j+1],jp hlt⟩
 have hj:j<l.length:=by omega
 refine(gA)<|(zs) ?_;refine nh [0,0,0,4,14,30,63,0,0,0,768,1792,4095,8191] ?_
 (repeat (first | refine SD.r ii rfl ii ii (me (lk (bS (((j+1:Nat):Int)) 1 i4) (show((j+1:Nat):Int)-1=(j:Int) from by omega) hj (aQ (e:=2) (enc:=aJ) gc hx) @aJ.eq_1)) ?_ | refine SD.s ii rfl ii ii ?_ | fail))
 refine SD.k ii rfl rfl ii rfl rfl zc (ur x.key) (.cons (.ag (.cons (.a _) (.cons (.any _) .nil))) .nil) rfl ?_;refine(uH (cJ hlt (aQ (e:=2) (enc:=aJ) gc hy) @aJ.eq_1)) ?_;refine SD.k ii rfl rfl ii rfl rfl zc (ur y.key) (.cons (.ag (.cons (.a _) (.cons (.any _) .nil))) .nil) rfl ?_;refine(uH @xV)<|(zM) ?_
 cases g:gC x.key y.key
 ·exact(cI)<|zo [.tmp 4] (hq:=by rw[Dg (i:=j) (a:=x.key) (b:=y.key) (by rw[ax,hx];rfl) (by rw[ax,hy];rfl) g])
 ·refine(zN)<|(zs) ?_;refine aG.r0 ii (me (bA (((j+1:Nat):Int)) 1 i4)) ?_;refine⟨l.length-(j+1+1),_,by omega,zH,j+1+1,by omega,rfl,?_,rfl⟩
  intro i a b hi ha hb;by_cases hij:i=j
  ·subst hij;rw[hx] at ha;rw[hy] at hb;cases ha;cases hb;exact g
  ·exact hall i a b i4 ha hb
def uq(s:List Nat):PC prog 187 [.ag (ah s::ch 13 .any)] (·=ah s):=by
 refine pB 5 Tryz.func187 ?_;refine(aD QB)<|(zV)<|(zE) ?_;exact Bh.of (rs:=[.tmp 2]) rfl rfl zl (Wk.refl rfl) zq
def D2(l:List aq)(hlen:l.length<=1000000):PC prog 186 [an 14 l ae,.fn 187 [] []] (·=ai (ku (l.map aq.name))):=by
 refine pB 26 Tryz.func186 ?_;refine(om) ?_
 (repeat refine aG.seq ?_)
 refine aG.block (aG.loop (λm st=>∃k:Nat,1<=k/\m=l.length-k/\(∀(i:Nat) a b,i+1<k->l[i]?=some a->l[i+1]?=some b->gC a.name b.name=true)/\st=⟨[(0,an 14 l ae),(1,.fn 187 [] []),(5,ab k)],26,[],[]⟩) (l.length-1) zH ⟨1,by omega,rfl,λi a b h=>un h i4,rfl⟩ (by rintro m st ⟨k,_,_,_,rfl⟩;rfl) ?_);rintro m st ⟨k,hk,rfl,hall,rfl⟩;refine(zV) ?_;by_cases hlt:k<l.length;rotate_left
 ·rw[show decide ((k:Int)<(l.length:Int))=false by simp only[wn];omega]
  refine(gg)<|(zV) ?_
  exact zo [.tmp 4] (hq:=by rw[yV λi a b h1 h2=>by
   obtain⟨x,hx,rfl⟩:=qw h1;obtain⟨y,hy,rfl⟩:=qw h2
   exact hall i x y (by have:=bq hy;omega) hx hy])
 rw[show decide ((k:Int)<(l.length:Int))=true by simp only[wp];omega];obtain⟨j,rfl⟩:∃j,k=j+1:=⟨k-1,by omega⟩;obtain⟨x,hx⟩:∃x,l[j]?=some x:=⟨l[j],jp i4⟩;obtain⟨y,hy⟩:∃y,l[j+1]?=some y:=⟨l[j+1],jp hlt⟩
 have hj:j<l.length:=by omega
 refine(gA)<|(zs) ?_;refine nh [0,0,0,4,14,30,63,0,0,0,768,1792,4095,8191] ?_
 (repeat (first | refine SD.r ii rfl ii ii (me (lk (bS (((j+1:Nat):Int)) 1 i4) (show((j+1:Nat):Int)-1=(j:Int) from by omega) hj (aQ (e:=14) (enc:=ae) gc hx) @ae.eq_1)) ?_ | refine SD.s ii rfl ii ii ?_ | fail))
 refine SD.k ii rfl rfl ii rfl rfl zc (uq x.name) (.cons (.ag (.cons (.a _) (.cons (.any _) (.cons (.any _) (.cons (.any _) (.cons (.any _) (.cons (.any _) (.cons (.any _) (.cons (.any _) (.cons (.any _) (.cons (.any _) (.cons (.any _) (.cons (.any _) (.cons (.any _) (.cons (.any _) .nil))))))))))))))) .nil) rfl ?_;refine(uH (cJ hlt (aQ (e:=14) (enc:=ae) gc hy) @ae.eq_1)) ?_;refine SD.k ii rfl rfl ii rfl rfl zc (uq y.name) (.cons (.ag (.cons (.a _) (.cons (.any _) (.cons (.any _) (.cons (.any _) (.cons (.any _) (.cons (.any _) (.cons (.any _) (.cons (.any _) (.cons (.any _) (.cons (.any _) (.cons (.any _) (.cons (.any _) (.cons (.any _) (.cons (.any _) .nil))))))))))))))) .nil) rfl ?_;refine(uH @xV)<|(zM) ?_
 cases g:gC x.name y.name
 ·exact(cI)<|zo [.tmp 4] (hq:=by rw[Dg (i:=j) (a:=x.name) (b:=y.name) (by rw[ax,hx];rfl) (by rw[ax,hy];rfl) g])
 ·refine(zN)<|(zs) ?_;refine aG.r0 ii (me (bA (((j+1:Nat):Int)) 1 i4)) ?_;refine⟨l.length-(j+1+1),_,by omega,zH,j+1+1,by omega,rfl,?_,rfl⟩
  intro i a b hi ha hb;by_cases hij:i=j
  ·subst hij;rw[hx] at ha;rw[hy] at hb;cases ha;cases hb;exact g
  ·exact hall i a b i4 ha hb
def GL{l:List (List Nat×Int)}(s:List Nat)(ok:Bool)(hS:S[o]?=some (bE AV.str ab l)):jc prog S 118 (.map o) (.a (.str s)) ok=some (cond ok (.cx [ab (getM 0 s l),ai (dF s l)]) (ab (getM 0 s l))):=
 NJ (uv:=ab) (u0:=0) (k:=s) (kt:=9) (et:=3) (z:=.int .i64 0) (by simp only[aC]) mb (by simp only[aC]) rfl hS rfl ok
def Ja{l:List (List Nat×Int)}(s:List Nat)(u:Int)(hS:S[o]?=some (bE AV.str ab l)):ik prog S 118 (.map o) (.a (.str s)) (.a (.int .i64 u))=some (S.set o (bE AV.str ab (cy s u l))):=
 Ir (uv:=ab) (kt:=9) (et:=3) (by simp only[aC]) mb hS rfl u
def wc{S:List SO}{l:List (List Nat×Int)}(s:List Nat)(ok:Bool):jc prog S 118 (lU AV.str ab l) (.a (.str s)) ok=some (cond ok (.cx [ab (getM 0 s l),ai (dF s l)]) (ab (getM 0 s l))):=
 Re (uv:=ab) (u0:=0) (k:=s) (kt:=9) (et:=3) (z:=.int .i64 0) (by simp only[aC]) mb (by simp only[aC]) rfl rfl ok
def nQ:Nat->List (List Nat×Int)->List aq->List (List Nat×Int)
 | _,m,[]=>m
 | i,m,p::ps=>nQ (i+1) (if dF p.name m=true then m else cy p.name i m) ps
def Cf(ps:List aq):SV:=.ag [an 14 ps ae,lU AV.str ab (nQ 0 [] ps)]
def rJ(ps:List aq)(hlen:ps.length<=1000000):PC prog 55 [.ag [an 14 ps ae]] (·=Cf ps):=by
 refine pB 37 Tryz.func55 ?_;refine(om)<|(zV)<|(zs) ?_;refine Ho ps (λk (m0:List (List Nat×Int))=>nQ 0 [] ps=nQ k m0 (ps.drop k)) (λk m0=>[(2,.ptr 1 0),(3,.ptr 3 0),(13,an 14 ps ae),(14,ab ps.length),(15,ab k)]) (λk m0=>[.gone,.cells [.a (.slice none 0 0 (some 0)),.a (.map none)],bE AV.str ab m0,.cells [an 14 ps ae,.map 2]]) ([]) zH ii ?_;intro k m0 hk hall;refine zT ps k ?_ ?_;rintro rfl;rotate_left;intro x hx hlt;rotate_left
 ·exact(gg)<|(zV)<|zo [.cell 2 120] (r:=.ag [an 14 ps ae,lU AV.str ab m0]) (hw:=Wk.ag (.cons (.sl _ _ _) (.cons (mc (λ_=>rfl) rfl) .nil))) (hq:=by rw[Cf,hall,bs];rfl)
 rw[eV hx] at hall
 refine(gA)<|(aD (gm hlt (aQ (e:=14) (enc:=ae) gc hx) @ae.eq_1 @RY))<|(zs) ?_;refine aG.r0 ii (by simp only[cL,bI,an,aC,m7,m6,↓reduceIte,aa,ad,af,ac,aj,ak,au,bl,GL (l:=m0)];first | done | rfl) ?_;refine(zV) ?_
 cases h1:dF x.name m0
 ·refine(zY)<|(zs) ?_;refine aG.r0 ii (by simp only[cL,bI,an,aC,m7,m6,↓reduceIte,aa,ad,af,ac,aj,ak,au,bl,Ja (l:=m0)];first | done | rfl) ?_;refine(aD (zi hlt hlen)) ?_;refine w8 hlt (cy x.name (k:Int) m0) zH (show nQ 0 [] ps=nQ (k+1) (cy x.name (k:Int) m0) (ps.drop (k+1)) by rw[hall,nQ,h1];rfl)
 ·refine(zN)<|(aD (zi hlt hlen)) ?_;refine w8 hlt (m0) zH (show nQ 0 [] ps=nQ (k+1) m0 (ps.drop (k+1)) by rw[hall,nQ,ut h1])
def pA(ps:List aq)(m:List (List Nat×Int))(name:List Nat):Option aq:=if dF name m=true then ps[(getM 0 name m).toNat]? else none
def Rz(ps:List aq)(m:List (List Nat×Int)):Prop:=∀name,dF name m=true->∃k:Nat,getM 0 name m=(k:Int)/\k<ps.length
def na(ps:List aq)(m:List (List Nat×Int))(name:List Nat)(hm:Rz ps m):PC prog 113 [.ag [an 14 ps ae,lU AV.str ab m],ah name] (·=iW ae aq.zero (pA ps m name)):=by
 refine pB 23 Tryz.func113 ?_;refine(zV)<|(aD @wc)<|(zV) ?_
 cases h1:dF name m
 ·exact(cI)<|jZ [.cell 4 56,.tmp 5] (r:=.cx [.ag [ah [],ah [],ah [],ah [],ab 0,ab 0,ai false,.sl 0 2 [],ab 0,ab 0,ab 0,ab 0,ab 0,ab 0],ai false]) (hw:=zv) (hq:=by rw[pA,h1];rfl)
 obtain⟨k,hk,hlt⟩:=hm name h1;obtain⟨x,hx⟩:∃x,ps[k]?=some x:=⟨ps[k],jp hlt⟩
 exact(zN)<|(aD (gm hk hlt (aQ (e:=14) (enc:=ae) gc hx) @ae.eq_1))<|jZ [.cell 4 56,.tmp 5] (hq:=by rw[pA,ut h1,hk,Int.toNat_natCast,hx];rfl)
def Cs:∀{ps l:List aq} {i:Nat} {m:List (List Nat×Int)},i+ps.length=l.length->Rz l m->Rz l (nQ i m ps)
 | [],_,_,_,_,h=>h
 | p::ps,l,i,m,hl,h=>by
  rw[nQ];refine Cs (by rw[i7] at hl;omega) ?_;split
  ·exact h
  ·intro name hn;by_cases e:name=p.name
   ·subst e;exact⟨i,by rw[qv,ut rfl],by rw[i7] at hl;omega⟩
   ·rw[qx,wd e,cv] at hn;rw[qv,v6 e];exact h name hn
def wD(a b:Int):Bool:=decide (0<=a)&&(decide (a<=b)&&decide (b<=1000000000000))
def qG(x:bN):Bool:=cX x.key&&(!(decide (x.value=[]))&&decide ((x.value.length:Int)<=200))
def zI(a b:Int):PC prog 258 [.ag [ab a,ab b]] (·=ai (wD a b)):=by
 refine pB 18 Tryz.func258 ?_;refine(zV) ?_;cases h1:decide (0<=a)
 ·exact(aD h1)<|zo [.tmp 2] (hq:=by rw[wD,h1];rfl)
 cases h2:decide (a<=b)
 ·exact(aD (bu h1 h2))<|zo [.tmp 2] (hq:=by rw[wD,h1,h2];rfl)
 ·exact(aD (bu h1 h2))<|zo [.tmp 2] (hq:=by rw[wD,h1,h2];rfl)
def Ma(x:bN)(hx:fi x.key):PC prog 259 [.ag (aJ x)] (·=ai (qG x)):=by
 refine pB 17 Tryz.func259 ?_;refine(aD @aJ.eq_1)<|(zC)<|(zK (dW x.key hx)) ?_
 cases h1:cX x.key
 ·exact(zR)<|zo [.tmp 2] (hq:=by rw[qG,h1];rfl)
 cases h2:decide (x.value=[]);rotate_left
 ·exact(cP h2)<|zo [.tmp 2] (hq:=by rw[qG,h1,h2];rfl)
 ·exact(cP h2)<|zo [.tmp 2] (hq:=by rw[qG,h1,h2];rfl)
structure fq (p:aq):Prop where
 name:fi p.name
 kind:fi p.kind
 br:fi p.br
 slot:fi p.slot
 len:p.props.length<=1000000
 prop:∀x∈p.props,fi x.key/\fi x.value
def kD(c:List aV)(p:aq):Bool:=(dU c p.kind).isSome&&(cX p.name&&(!(decide (p.made<0))&&(!(decide (p.since<p.made))&&(!(decide (40000<p.since))&&(!(decide (60<(p.props.length:Int)))&&(p.props.all qG&&(ku (p.props.map bN.key)&&(wD p.l1 p.l2&&(wD p.l3 p.l4&&wD p.l5 p.l6)))))))))
def Mz{p:α->Bool}{x:α}(h:l[k]?=some x):(l.drop k).all p=(p x&&(l.drop (k+1)).all p):=by rw[eV h,List.all_cons]
def Jc(c:List aV)(p:aq)(hc:c.length<=1000000)(hp:fq p):PC prog 188 [.ag [an 3 c ao],.ag (ae p)] (·=ai (kD c p)):=by
 have hlen:=hp.len;refine pB 85 Tryz.func188 ?_
 obtain⟨q,b,h1,hb⟩:∃(q:aV) (b:Bool),iW ao aV.zero (dU c p.kind)=.cx [.ag (ao q),ai b]/\(dU c p.kind).isSome=b:=by
  cases hf:dU c p.kind with
  | none=>exact⟨aV.zero,false,rfl,rfl⟩
  | some q=>exact⟨q,true,rfl,rfl⟩
 have hF:=kF c p.kind hc;rw[h1] at hF
 refine(aD @ae.eq_1)<|(om)<|(zC)<|(zK hF (hfl:=.inr zr))<|(cP @ao.eq_1) ?_
 cases b
 ·exact(w6)<|(zV)<|zo [.tmp 4] (hq:=by rw[kD,hb];rfl)
 refine(zC)<|(zK (dW p.name hp.name)) ?_
 cases h2:cX p.name
 ·exact(zR)<|(cI)<|zo [.tmp 4] (hq:=by rw[kD,hb,h2];rfl)
 cases h3:decide (p.made<0);rotate_left
 ·exact(cP h3)<|(cI)<|zo [.tmp 4] (hq:=by rw[kD,hb,h2,h3];rfl)
 cases h4:decide (p.since<p.made);rotate_left
 ·exact(cP (bu h3 h4))<|(cI)<|zo [.tmp 4] (hq:=by rw[kD,hb,h2,h3,h4];rfl)
 cases h5:decide (40000<p.since);rotate_left
 ·exact(cP (cJ h3 h4 h5))<|(cI)<|zo [.tmp 4] (hq:=by rw[kD,hb,h2,h3,h4,h5];rfl)
 cases h6:decide (60<(p.props.length:Int));rotate_left
 ·exact(cP (gm h3 h4 h5 h6))<|(cI)<|zo [.tmp 4] (hq:=by rw[kD,hb,h2,h3,h4,h5,h6];rfl)
 refine(cP (gm h3 h4 h5 h6))<|(zN) ?_
 have hv:kD c p=(p.props.all qG&&(ku (p.props.map bN.key)&&(wD p.l1 p.l2&&(wD p.l3 p.l4&&wD p.l5 p.l6)))):=by rw[kD,hb,h2,h3,h4,h5,h6];rfl
 refine(zV)<|(zs) ?_;refine zL p.props (λk=>p.props.all qG=(p.props.drop k).all qG) (λk=>[(3,.ptr 1 0),(5,.fn 258 [] []),(6,.fn 259 [] []),(50,an 2 p.props aJ),(51,ab p.props.length),(52,ab k)]) (λk=>[.gone,.cells (ae p)]) (cf @ae.eq_1) ii ?_;intro k hk hall;refine zT p.props k ?_ ?_;rintro rfl;rotate_left;intro x hx hlt;rotate_left
 ·refine(gg) ?_;rw[bs] at hall
  refine(e9 @ae.eq_1)<|(zK (D3 p.props hlen)) ?_
  cases g1:ku (p.props.map bN.key)
  ·exact(zR)<|zo [.tmp 4] (hq:=by rw[hv,hall,g1];rfl)
  refine(zQ)<|(zK (zI p.l1 p.l2)) ?_
  cases g2:wD p.l1 p.l2
  ·exact(zR)<|zo [.tmp 4] (hq:=by rw[hv,hall,g1,g2];rfl)
  refine(zQ)<|(zK (zI p.l3 p.l4)) ?_
  cases g3:wD p.l3 p.l4
  ·exact(zR)<|zo [.tmp 4] (hq:=by rw[hv,hall,g1,g2,g3];rfl)
  exact(zQ)<|(zK (zI p.l5 p.l6))<|(zR)<|zo [.tmp 4] (hq:=by rw[hv,hall,g1,g2,g3];rfl)
 rw[Mz hx] at hall
 refine(gA)<|(aD (gm hlt (aQ (e:=2) (enc:=aJ) gc hx) @aJ.eq_1 @ae.eq_1))<|(zC)<|(zK (Ma x (hp.prop x (mem_iff_getElem?.2 ⟨k,hx⟩)).1)) ?_
 cases g1:qG x
 ·exact(zR)<|(cI)<|zo [.tmp 4] (hq:=by rw[hv,hall,g1];rfl)
 ·refine(zR)<|(zN)<|(aD (zi hlt hlen)) ?_;refine zX hlt (cf @ae.eq_1) (show p.props.all qG=(p.props.drop (k+1)).all qG by rw[hall,g1];rfl)
structure iD where
 br:List Nat
 slot:List Nat
 deriving DecidableEq
def iD.av(s:iD):List AV:=[.str s.br,.str s.slot]
def zb(s:iD):AV:=.agg s.av
def iD.eq(a b:iD):fJ eE a.av b.av=decide (a=b):=by
 obtain⟨a1,a2⟩:=a;obtain⟨b1,b2⟩:=b;simp only[iD.av,fJ,eE,ly,ct,iD.mk.injEq,el]
def Ah:Keys prog 248 zb:=
 vb (ks:=[.s,.s]) zW (by simp only[aC,m6]) (λ_=>rfl) iD.eq λ_=>rfl
def sh{l:List (iD×Bool)}(a b:List Nat)(ok:Bool)(hS:S[o]?=some (bE zb ai l)):jc prog S 245 (.map o) (.ag [ah a,ah b]) ok=some (cond ok (.cx [ai (getM false (⟨a,b⟩:iD) l),ai (dF (⟨a,b⟩:iD) l)]) (ai (getM false (⟨a,b⟩:iD) l))):=
 NJ (uv:=ai) (u0:=false) (k:=(⟨a,b⟩:iD)) (kt:=248) (et:=4) (z:=.bool false) (by simp only[aC]) Ah (by simp only[aC]) rfl hS rfl ok
def D8{l:List (iD×Bool)}(a b:List Nat)(u:Bool)(hS:S[o]?=some (bE zb ai l)):ik prog S 245 (.map o) (.ag [ah a,ah b]) (.a (.bool u))=some (S.set o (bE zb ai (cy (⟨a,b⟩:iD) u l))):=
 Ir (uv:=ai) (k:=(⟨a,b⟩:iD)) (kt:=248) (et:=4) (by simp only[aC]) Ah hS rfl u
def oI{n:Nat}{l:List (iD×Bool)}:bF n (bE zb ai l)=bE zb ai l:=mr λ_=>l8 _
def Cb(a b:Bool):dk prog .neq 4 (.bool a) (.bool b)=some (.bool (!(a==b))):=by
 have h1:prog.eqGuardType prog.depth 4=false:=by kernel_rfl
 have h2:prog.underlying 4=some .bool:=by kernel_rfl
 have h3:lu prog 8 4 (.bool a) (.bool b)=some (a==b):=by unfold lu;rw[h2]
 show cond (prog.eqGuardType prog.depth 4) none ((lu prog 8 4 (.bool a) (.bool b)).map λb=>AV.bool (!b))=_;rw[h1,au,h3];rfl
def vK(c:List aV)(taken:List (iD×Bool))(p:aq):Option aq->Bool
 | some h=>!(p.cN||(h.cN||(getM false ⟨p.br,p.slot⟩ taken||!vz c h.kind p.slot p.kind)))
 | none=>false
def fV(c:List aV)(ps:List aq)(m:List (List Nat×Int)):List (iD×Bool)->List aq->Bool
 | _,[]=>true
 | taken,p::r=>kD c p&&((decide (p.br=[])==decide (p.slot=[]))&&cond (decide (p.br=[])) (fV c ps m taken r) (vK c taken p (pA ps m p.br)&&fV c ps m (cy ⟨p.br,p.slot⟩ true taken) r))
def kH(c:List aV)(ps:List aq):Bool:=qk c&&(!(decide (20000<(ps.length:Int)))&&(ku (ps.map aq.name)&&fV c ps (nQ 0 [] ps) [] ps))
def Ek(ps:List aq):Rz ps []:=λname h=>by cases h
def G3(c:List aV)(ps:List aq)(hc:mz c)(hlen:ps.length<=1000000)(hps:∀p∈ps,fq p):PC prog 107 [.ag [an 3 c ao],.ag [an 14 ps ae]] (·=ai (Proofs.kH c ps)):=by
 have hct:∀k∈c,k.bL.length<=1000000/\∀s∈k.bL,s.kinds.length<=1000000:=λk hk=>⟨(hc.kind k hk).2,λs hs=>(hc.slot k hk s hs).2⟩;have hy:Rz ps (nQ 0 [] ps):=Cs i4 (Ek ps)
 refine pB 94 Tryz.func107 ?_;refine(jr)<|(zK (nM c hc)) ?_
 cases h1:qk c
 ·exact(zR)<|(cI)<|zo [.tmp 4] (hq:=by rw[Proofs.kH,h1];rfl)
 cases h2:decide (20000<(ps.length:Int));rotate_left
 ·exact(cP h2)<|(cI)<|zo [.tmp 4] (hq:=by rw[Proofs.kH,h1,h2];rfl)
 refine(Mf h2)<|(zK (D2 ps hlen)) ?_
 cases h3:ku (ps.map aq.name)
 ·exact(zR)<|(cI)<|zo [.tmp 4] (hq:=by rw[Proofs.kH,h1,h2,h3];rfl)
 refine(zR)<|(zN) ?_
 have hv:Proofs.kH c ps=fV c ps (nQ 0 [] ps) [] ps:=by rw[Proofs.kH,h1,h2,h3];rfl
 clear h1 h2 h3
 refine(zC)<|(zK (rJ ps hlen) (hfl:=.inr zr)) ?_
 generalize hM:nQ 0 [] ps=M at hv hy
 refine(cP (bu @Cf.eq_1 hM))<|(om)<|(zs) ?_;refine Ho ps (λk (taken:List (iD×Bool))=>fV c ps M [] ps=fV c ps M taken (ps.drop k)) (λk taken=>[(2,.ptr 0 0),(5,.ptr 2 0),(6,.map 3),(31,an 14 ps ae),(32,ab ps.length),(33,ab k)]) (λk taken=>[.cells [an 3 c ao],.gone,.cells [an 14 ps ae,lU AV.str ab M],bE zb ai taken]) ([]) zH ii ?_;intro k taken hk hall;refine zT ps k ?_ ?_;rintro rfl;rotate_left;intro p hx hlt;rotate_left
 ·exact(gg)<|(zV)<|zo [.tmp 4] (hq:=by rw[hv,hall,bs];rfl)
 have no:fV c ps M taken (ps.drop k)=false->Proofs.kH c ps=false:=λh=>by rw[hv,hall,h]
 rw[eV hx] at no hall;have hp:=hps p (mem_iff_getElem?.2 ⟨k,hx⟩)
 refine(gA)<|(aD (gm hlt (aQ (e:=14) (enc:=ae) gc hx) @ae.eq_1 @oI))<|(zC)<|(zK (Jc c p hc.len hp)) ?_
 cases g1:kD c p
 ·exact(zR)<|(cI)<|zo [.tmp 4] (hq:=by rw[no (by simp[fV,g1])])
 cases g2:(decide (p.br=[])==decide (p.slot=[]))
 ·exact(cP (bu @Cb g2))<|(cI)<|zo [.tmp 4] (hq:=by rw[no (by simp only[fV,g1,g2,cH,ce])])
 refine(cP (bu @Cb g2))<|(lj) ?_
 cases g3:decide (p.br=[]);rotate_left
 ·refine(zY) ?_;refine aG.exit ?_
  (try change aG _ _ _ _ _)
  refine(aD (zi hlt hlen)) ?_;refine w8 hlt (taken) zH (show fV c ps M [] ps=fV c ps M taken (ps.drop (k+1)) by rw[hall,fV,g1,g2,g3];rfl)
 refine(zN) ?_
 have hpv:∀r,fV c ps M taken (p::r)=(vK c taken p (pA ps M p.br)&&fV c ps M (cy ⟨p.br,p.slot⟩ true taken) r):=by intro r;rw[fV,g1,g2,g3];rfl
 rw[hpv] at no hall;refine(zC) ?_;have hG:=na ps M p.br hy
 cases hg:pA ps M p.br with
 | none=>
  rw[hg] at hG no
  exact(zK hG (hfl:=.inr zr))<|(cP (gm @iW.eq_1 @ae.eq_1 @aq.zero.eq_1 @oI))<|(aD @oI)<|(w6)<|(zV)<|zo [.tmp 4] (hq:=by rw[no rfl])
 | some h=>
  rw[hg] at hG no hall
  refine(zK hG (hfl:=.inr zr))<|(cP (cJ @iW.eq_1 @ae.eq_1 @oI))<|(aD @oI) ?_
  cases f1:p.cN;rotate_left
  ·exact(w6)<|(zV)<|zo [.tmp 4] (hq:=by rw[no (by simp[vK,f1])])
  cases f2:h.cN;rotate_left
  ·exact(w6)<|(zV)<|zo [.tmp 4] (hq:=by rw[no (by simp[vK,f2])])
  cases f3:getM false (⟨p.br,p.slot⟩:iD) taken;rotate_left
  ·refine(zs) ?_;refine aG.r0 ii (by simp only[cL,bI,an,aC,m7,m6,↓reduceIte,aa,ad,af,ac,aj,ak,au,bl,sh (l:=taken),f3];first | done | rfl) ?_;exact(cI)<|zo [.tmp 4] (hq:=by rw[no (by simp[vK,f3])])
  refine(zs) ?_;refine aG.Rk ii (by simp only[cL,bI,an,aC,m7,m6,↓reduceIte,aa,ad,af,ac,aj,ak,au,bl,sh (l:=taken),f3];first | done | rfl) ?_;refine(zK (wx c h.kind p.slot p.kind hc.len hct)) ?_;cases f4:Proofs.vz c h.kind p.slot p.kind
  ·exact(zR)<|(cI)<|zo [.tmp 4] (hq:=by rw[no (by simp[vK,f4])])
  refine(zR)<|(zN)<|(zs) ?_;refine aG.r0 ii (by simp only[cL,bI,an,aC,m7,m6,↓reduceIte,aa,ad,af,ac,aj,ak,au,bl,D8 (l:=taken)];first | done | rfl) ?_;refine(aD (zi hlt hlen)) ?_;refine w8 hlt (cy ⟨p.br,p.slot⟩ true taken) zH (show fV c ps M [] ps=fV c ps M (cy ⟨p.br,p.slot⟩ true taken) (ps.drop (k+1)) by rw[hall,show vK c taken p (some h)=true by simp[vK,f1,f2,f3,f4]];rfl)
def Co(a b:Int):Int:=dX .i64 (a+b)
def uh(a b:Int):Int:=dX .i64 (a-b)
def Lq(a:Int):Int:=dX .i64 (0-a)
def sU{P:Program}{t:TypeId}(a b:Int):dk P .add t (.int .i64 a) (.int .i64 b)=some (.int .i64 (Co a b)):=rfl
def ot{P:Program}{t:TypeId}(a b:Int):dk P .sub t (.int .i64 a) (.int .i64 b)=some (.int .i64 (uh a b)):=rfl
def kW(a b:Int):SV:=.ag [ab a,ab b]
def nD(a b:Int):Bool:=decide (-1000000000000<=a)&&(decide (a<=b)&&decide (b<=1000000000000))
def oW(a b:Int):PC prog 221 [kW a b] (·=ai (nD a b)):=by
 refine pB 18 Tryz.func221 ?_;refine(aD @kW.eq_1) ?_;cases h1:decide (-1000000000000<=a)
 ·exact(aD h1)<|zo [.tmp 2] (hq:=by rw[nD,h1];rfl)
 cases h2:decide (a<=b)
 ·exact(aD (bu h1 h2))<|zo [.tmp 2] (hq:=by rw[nD,h1,h2];rfl)
 exact(aD (bu h1 h2))<|zo [.tmp 2] (hq:=by rw[nD,h1,h2];rfl)
def gl(a b:Int):Int:=if a<=b then a else b
def eH(a b:Int):Int:=if b<=a then a else b
def je(a b:Int):yP false (.int .i64 a) (.int .i64 b)=some (.int .i64 (gl a b)):=NM
def fk(a b:Int):yP true (.int .i64 a) (.int .i64 b)=some (.int .i64 (eH a b)):=NL
def Sl(n:Int):Int:=eH (-1000000000000) (gl n 1000000000000)
def qQ(n:Int):PC prog 268 [ab n] (·=ab (Sl n)):=by
 refine pB 6 Tryz.func268 ?_;exact(zV)<|(aD (bu @je @fk))<|zo [.tmp 2]
def jN(a b:Int):Int:=Sl (Co a b)
def C6(a b:Int):Int:=Sl (uh a b)
def L9(a b:Int):PC prog 202 [ab a,ab b] (·=ab (jN a b)):=by
 refine pB 9 Tryz.func202 ?_;exact(zV)<|(e9 @sU)<|(zK (qQ _))<|(zR)<|zo [.tmp 4]
def I2(a b:Int):PC prog 353 [ab a,ab b] (·=ab (C6 a b)):=by
 refine pB 9 Tryz.func353 ?_;refine(zV)<|(e9 @ot)<|(zK (qQ _))<|(zR)<|(zE) ?_;exact Bh.of (rs:=[.tmp 4]) rfl rfl zl (Wk.refl rfl) zq
def Bt{f:Int->Int->Int}{r:List Int}{j:Nat}{x y:Int}(h:r[j]?=some x):(r.take (j+1)).foldl f y=f ((r.take j).foldl f y) x:=by
 rw[List.take_add_one,h,Option.toList_some,List.foldl_append];rfl
def Q3 (h:p:=by
  refine pB 25 vae ?_;refine(zV)<|(aD (bu @i7.{0} (show decide (((r.length+1:Nat):Int)<1)=false by simp only[wn];omega)))<|(zN)<|(aD (gm @i7.{0} @Nat.zero_lt_succ (aQ (l:=a::r) (e:=1) (enc:=aH ab) gc (show(a::r)[0]?=some a from rfl)) @aH.eq_1))<|(zV) ?_
  (repeat refine aG.seq ?_)
  refine aG.block (aG.loop (λm st=>∃j:Nat,j<=r.length/\m=r.length-j/\st=⟨[(0,an 1 (a::r) (aH ab)),(3,ab ((r.take j).foldl vaf a)),(4,ab ((j+1:Nat):Int))],25,[],[]⟩) r.length (cf (bu @List.take_zero.{0} @List.foldl_nil.{0,0})) ⟨0,Nat.zero_le _,rfl,rfl⟩ (by rintro m st ⟨j,_,_,rfl⟩;rfl) ?_);rintro m st ⟨j,hj,rfl,rfl⟩;refine(aD @i7.{0}) ?_;by_cases hlt:j<r.length;rotate_left
  ·rw[show decide (((j+1:Nat):Int)<((r.length+1:Nat):Int))=false by simp only[wn];omega]
   refine(gg)<|(zV) ?_
   obtain rfl:j=r.length:=by omega
   exact zo [.tmp 2] (hq:=by rw[List.take_length])
  rw[show decide (((j+1:Nat):Int)<((r.length+1:Nat):Int))=true by simp only[wp];omega];obtain⟨x,hx⟩:∃x,r[j]?=some x:=⟨r[j],jp hlt⟩
  refine(gA)<|(aD (lk @i7.{0} (show j+1<r.length+1 by omega) (aQ (l:=a::r) (i:=j+1) (e:=1) (enc:=aH ab) gc (show(a::r)[j+1]?=some x from hx)) @aH.eq_1 @vag))<|(zs) ?_;refine aG.r0 ii (me (bA (((j+1:Nat):Int)) 1 i4)) ?_;exact⟨r.length-(j+1),_,by omega,(Fg.less (by (simp only[cL,bI,fF,↓reduceIte,Nat.reduceEqDiff,Bt hx])<;>(repeat' apply And.intro)<;>first | rfl | trivial) (by (simp only[cL,bI,or_true,true_or,Bt hx])<;>(repeat' apply And.intro)<;>first | exact .inr rfl | exact .inl rfl | trivial)),j+1,by omega,rfl,rfl⟩):p:=h
open Go.Proofs.Tryz renaming func309 -> vae in
open Go.Proofs renaming gl -> vaf in
def Jg(a:Int)(r:List Int)(hlen:r.length<1000000):PC prog 309 [an 1 (a::r) (aH ab)] (·=ab (r.foldl gl a)):=by
 have vag:=@je;exact Q3
open Go.Proofs.Tryz renaming func310 -> vae in
open Go.Proofs renaming eH -> vaf in
def Jf(a:Int)(r:List Int)(hlen:r.length<1000000):PC prog 310 [an 1 (a::r) (aH ab)] (·=ab (r.foldl eH a)):=by
 have vag:=@fk;exact Q3
def vU(a:Int)(r:List Int)(hlen:r.length<1000000):PC prog 267 [an 1 (a::r) (aH ab)] (·=kW (r.foldl gl a) (r.foldl eH a)):=by
 refine pB 8 Tryz.func267 ?_;exact(jr)<|(zK (Jg a r hlen))<|(zQ)<|(zK (Jf a r hlen))<|(zR)<|zo [.cell 2 52]
def fj(f:Int->Int->Int)(a b c d:Int):Int×Int:=
 if nD a b&&nD c d then (gl (gl (gl (f a c) (f a d)) (f b c)) (f b d),eH (eH (eH (f a c) (f a d)) (f b c)) (f b d)) else (0,0)
def oi(p:Int×Int):SV:=kW p.1 p.2
def vB(g:FuncId)(fn:Int->Int->Int)(hg:∀x y,PC prog g [ab x,ab y] (·=ab (fn x y)))(a b c d:Int):PC prog 201 [kW a b,kW c d,.fn g [] []] (·=oi (fj fn a b c d)):=by
 refine pB 46 Tryz.func201 ?_;refine(aD @kW.eq_1)<|(zC)<|(zK (oW a b)) ?_
 cases h1:nD a b
 ·exact(zR)<|(cI)<|zo [.cell 6 52] (hq:=by rw[fj,h1];rfl)
 refine(zQ)<|(zK (oW c d)) ?_
 cases h2:nD c d
 ·exact(zR)<|(cI)<|zo [.cell 6 52] (hq:=by rw[fj,h1,h2];rfl)
 refine(zR)<|(zN)<|(zs) ?_;refine nh [0,1,0,4,0,16,0,64,3,271,831,2047] ?_;exact(zD)<|(zM)<|(zC)<|(zK (hg a c))<|(zQ)<|(zK (hg a d))<|(zQ)<|(zK (hg b c))<|(zQ)<|(zK (hg b d))<|(zQ)<|(zK (vU (fn a c) [fn a d,fn b c,fn b d] (by show 3<1000000;omega)))<|(zR)<|zo [.cell 6 52] (hq:=by rw[fj,h1,h2];rfl)
def pU(a b c d:Int):PC prog 123 [kW a b,kW c d] (·=oi (fj jN a b c d)):=by
 refine pB 8 Tryz.func123 ?_;exact(aD @kW.eq_1)<|(zC)<|(zK (vB 202 jN L9 a b c d))<|(cP (bu @oi.eq_1 @kW.eq_1))<|zo [.cell 4 52]
def IX(a b c d:Int):PC prog 349 [kW a b,kW c d] (·=oi (fj C6 a b c d)):=by
 refine pB 8 Tryz.func349 ?_;exact(aD @kW.eq_1)<|(zC)<|(zK (vB 353 C6 I2 a b c d))<|(cP (bu @oi.eq_1 @kW.eq_1))<|zo [.cell 4 52]
def lX(a b c d:Int):Int×Int:=if nD a b&&nD c d then (gl (gl (gl a b) c) d,eH (eH (eH a b) c) d) else (0,0)
def nK(a b c d:Int):PC prog 352 [kW a b,kW c d] (·=oi (lX a b c d)):=by
 refine pB 24 Tryz.func352 ?_;refine(aD @kW.eq_1)<|(zC)<|(zK (oW a b)) ?_
 cases h1:nD a b
 ·exact(zR)<|(cI)<|zo [.cell 4 52] (hq:=by rw[lX,h1];rfl)
 refine(zQ)<|(zK (oW c d)) ?_
 cases h2:nD c d
 ·exact(zR)<|(cI)<|zo [.cell 4 52] (hq:=by rw[lX,h1,h2];rfl)
 exact(zR)<|(Ml)<|(zK (vU a [b,c,d] (by show 3<1000000;omega)))<|(zR)<|zo [.cell 4 52] (hq:=by rw[lX,h1,h2];rfl)
def oN(a b n:Int):Int:=if (!nD a b)||decide (b<=n) then 0 else if n<a then 2 else 1
def qO(a b n:Int):PC prog 137 [kW a b,ab n] (·=ab (oN a b n)):=by
 refine pB 20 Tryz.func137 ?_;refine(aD @kW.eq_1)<|(zB)<|(zC)<|(zK (oW a b)) ?_
 cases h1:nD a b
 ·exact(zR)<|(cI)<|zo [.tmp 4] (hq:=by rw[oN,h1];rfl)
 cases h2:decide (b<=n);rotate_left
 ·exact(cP h2)<|(cI)<|zo [.tmp 4] (hq:=by rw[oN,h1,h2];rfl)
 refine(cP h2)<|(zN) ?_
 cases h3:decide (n<a)
 ·exact(aD h3)<|(lj)<|zo [.tmp 4] (hq:=by rw[oN,h1,h2,v6 (wt h3)];rfl)
 ·exact(aD h3)<|(cI)<|zo [.tmp 4] (hq:=by rw[oN,h1,h2,ut (ww h3)];rfl)
open Go.Ev Go.RowKit Go.Lib Go.Shelf
def GM(x y:Nat)(hx:x<18446744073709551616)(hy:y<18446744073709551616)(w:World):
 Calls prog 357 #[.int .u64 x,.int .u64 y] w λe w'=>e=.returned (.tuple #[.int .u64 ((x*y/18446744073709551616:Nat):Int),.int .u64 ((x*y%18446744073709551616:Nat):Int)])/\w'=w:=by
 obtain⟨bd,bt,bw,hhi⟩:=Lib.mul64_hi x y hx hy;have ba:=Lib.half_mul_le (a:=x/4294967296) (b:=y/4294967296) i4 i4;have bb:=Lib.half_mul_le (a:=x/4294967296) (b:=y%4294967296) i4 i4;have bc:=Lib.half_mul_le (a:=x%4294967296) (b:=y/4294967296) i4 i4
 have ba':x/4294967296*(y/4294967296)<18446744073709551616:=by omega
 have bb':x/4294967296*(y%4294967296)<18446744073709551616:=by omega
 have bc':x%4294967296*(y/4294967296)<18446744073709551616:=by omega
 have bh1:x/4294967296*(y/4294967296)+(x/4294967296*(y%4294967296)+x%4294967296*(y%4294967296)/4294967296)/4294967296<18446744073709551616:=by omega
 have bh:x/4294967296*(y/4294967296)+(x/4294967296*(y%4294967296)+x%4294967296*(y%4294967296)/4294967296)/4294967296+((x/4294967296*(y%4294967296)+x%4294967296*(y%4294967296)/4294967296)%4294967296+x%4294967296*(y/4294967296))/4294967296<18446744073709551616:=by omega
 go_enter func357,Tryz.ntmps357
 go_wp2
 simp only[Mul64.maskN x hx,Mul64.maskN y hy,Mul64.divN,Mul64.mulN,Mul64.addN,Mul64.wrapN _ bd,Mul64.wrapN _ bb',Mul64.wrapN _ bt,Mul64.maskN _ bt,Mul64.wrapN _ bc',Mul64.wrapN _ bw,Mul64.wrapN _ ba',Mul64.wrapN _ bh1,Mul64.wrapN _ bh,Mul64.wrapM (x*y)];rw[hhi]
 go_ret2
 exact⟨rfl,rfl⟩
def GN(x y:Nat)(hx:x<18446744073709551616)(hy:y<18446744073709551616):PC prog 357 [.a (.int .u64 x),.a (.int .u64 y)]
 (·=.cx [.a (.int .u64 ((x*y/18446744073709551616:Nat):Int)),.a (.int .u64 ((x*y%18446744073709551616:Nat):Int))]):=by
 intro ρ h avs _ hA;rw[dO] at hA;obtain⟨a,r,rfl,hA1,hA2⟩:=hA;rw[dO] at hA2;obtain⟨b,r2,rfl,hB1,hB2⟩:=hA2;rw[eU] at hB2;subst hB2;rw[GS] at hA1 hB1;subst hA1;subst hB1
 have hc:dZ prog (.func 357) [.int .u64 x,.int .u64 y] h (λa h'=>a=.cx [.int .u64 ((x*y/18446744073709551616:Nat):Int),.int .u64 ((x*y%18446744073709551616:Nat):Int)]/\h'=h):=by
  intro σ w args' hv hr;obtain⟨v1,v2,rfl,k1,k2⟩:=EC hv;cases k1;cases k2;refine(AD dz func357 ii hr (a:=.cx [.int .u64 ((x*y/18446744073709551616:Nat):Int),.int .u64 ((x*y%18446744073709551616:Nat):Int)]) (V.NO (.cons (.int _ _) (.cons (.int _ _) .nil))) ((GM x y hx hy w).mono ?_)).mono ?_
  ·rintro e w' ⟨rfl,rfl⟩;exact⟨rfl,Below.refl _ _⟩
  ·rintro v w' ⟨a,h',hm,hg⟩;have:=t6 hm;cases this;exact⟨_,_,⟨rfl,rfl⟩,hg⟩
 refine hc.mono ?_;rintro v h' ⟨rfl,rfl⟩;refine⟨_,ρ,rfl,.refl _ _,λid ob hi=>.inl hi,?_⟩;rw[GS];exact⟨_,rfl,by rw[dO];exact⟨_,_,rfl,by rw[GS],by rw[dO];exact⟨_,_,rfl,by rw[GS],by rw[eU]⟩⟩⟩
def iO(a:Int):Nat:=(dX .u64 (eH a (Lq a))).toNat
def Ei(n:Int):dX .u64 n=((dX .u64 n).toNat:Int)/\(dX .u64 n).toNat<18446744073709551616:=by
 have h:dX .u64 n=n%18446744073709551616:=by rw[gY];simp[IntKind.wrap,IntKind.bits,IntKind.signed]
 rw[h];omega
def sN(a:Int):Sw .neg (.int .i64 a)=some (.int .i64 (Lq a)):=rfl
def zz(a b:Int):Int:=
 cond ((decide (a<0)) != (decide (b<0)))
  (Lq (if iO a*iO b/18446744073709551616=0/\iO a*iO b%18446744073709551616<=1000000000000 then dX .i64 ((iO a*iO b%18446744073709551616:Nat):Int) else 1000000000000))
  (if iO a*iO b/18446744073709551616=0/\iO a*iO b%18446744073709551616<=1000000000000 then dX .i64 ((iO a*iO b%18446744073709551616:Nat):Int) else 1000000000000)
def DG(n:Int):mF prog 271 283 (.int .i64 n)=some (.int .u64 (dX .u64 n)):=by
 unfold mF;rw[show prog.underlying 271=some (.int .i64) by kernel_rfl,show prog.underlying 283=some (.int .u64) by kernel_rfl]
def DH(n:Int):mF prog 283 271 (.int .u64 n)=some (.int .i64 (dX .i64 n)):=by
 unfold mF;rw[show prog.underlying 271=some (.int .i64) by kernel_rfl,show prog.underlying 283=some (.int .u64) by kernel_rfl]
def Ur{P:Program}{t:TypeId}(a b:Int):dk P .eql t (.int .u64 a) (.int .u64 b)=some (.bool (decide (a=b))):=Cu rfl
def Sv{P:Program}{t:TypeId}(a b:Int):dk P .leq t (.int .u64 a) (.int .u64 b)=some (.bool (decide (a<=b))):=Cv rfl
def Ji(a b:Int):PC prog 354 [ab a,ab b] (·=ab (zz a b)):=by
 refine pB 38 Tryz.func354 ?_;have hm:=GN (iO a) (iO b) (Ei _).2 (Ei _).2;rw[show((iO a:Nat):Int)=dX .u64 (eH a (Lq a)) from(Ei _).1.symm,show((iO b:Nat):Int)=dX .u64 (eH b (Lq b)) from(Ei _).1.symm] at hm;have ht:zz a b=cond ((decide (a<0)) != (decide (b<0))) (Lq (if iO a*iO b/18446744073709551616=0/\iO a*iO b%18446744073709551616<=1000000000000 then dX .i64 ((iO a*iO b%18446744073709551616:Nat):Int) else 1000000000000)) (if iO a*iO b/18446744073709551616=0/\iO a*iO b%18446744073709551616<=1000000000000 then dX .i64 ((iO a*iO b%18446744073709551616:Nat):Int) else 1000000000000):=rfl;generalize iO a*iO b/18446744073709551616=hi at hm ht;generalize iO a*iO b%18446744073709551616=lo at hm ht
 refine(zV)<|(e9 (cJ @sN @fk @DG))<|(zK hm)<|(zR)<|(zV) ?_
 by_cases h1:hi=0/\lo<=1000000000000
 ·rw[ut h1] at ht
  refine(aD (gm @Ur @Sv (show decide ((hi:Int)=0)=true by simp;omega) (show decide ((lo:Int)<=1000000000000)=true by simp;omega)))<|(zY)<|(aD @DH) ?_
  cases g1:decide (a<0)<;>cases g2:decide (b<0)
  ·rw[g1,g2] at ht
   exact(aD (bu g1 g2))<|(lj)<|zo [.tmp 4] (hq:=by rw[ht];rfl)
  ·rw[g1,g2] at ht
   exact(aD (bu g1 g2))<|(zY)<|(aD @sN)<|zo [.tmp 4] (hq:=by rw[ht];rfl)
  ·rw[g1,g2] at ht
   exact(aD (bu g1 g2))<|(zY)<|(aD @sN)<|zo [.tmp 4] (hq:=by rw[ht];rfl)
  ·rw[g1,g2] at ht
   exact(aD (bu g1 g2))<|(lj)<|zo [.tmp 4] (hq:=by rw[ht];rfl)
 ·rw[v6 h1] at ht;by_cases h2:hi=0
  ·refine(aD (gm @Ur @Sv (show decide ((hi:Int)=0)=true by simp;omega) (show decide ((lo:Int)<=1000000000000)=false by simp;omega)))<|(zN) ?_
   cases g1:decide (a<0)<;>cases g2:decide (b<0)
   ·rw[g1,g2] at ht
    exact(aD (bu g1 g2))<|(lj)<|zo [.tmp 4] (hq:=by rw[ht];rfl)
   ·rw[g1,g2] at ht
    exact(aD (bu g1 g2))<|(zY)<|(aD @sN)<|zo [.tmp 4] (hq:=by rw[ht];rfl)
   ·rw[g1,g2] at ht
    exact(aD (bu g1 g2))<|(zY)<|(aD @sN)<|zo [.tmp 4] (hq:=by rw[ht];rfl)
   ·rw[g1,g2] at ht
    exact(aD (bu g1 g2))<|(lj)<|zo [.tmp 4] (hq:=by rw[ht];rfl)
  ·refine(aD (cJ @Ur @Sv (show decide ((hi:Int)=0)=false by simp;omega)))<|(zN) ?_
   cases g1:decide (a<0)<;>cases g2:decide (b<0)
   ·rw[g1,g2] at ht
    exact(aD (bu g1 g2))<|(lj)<|zo [.tmp 4] (hq:=by rw[ht];rfl)
   ·rw[g1,g2] at ht
    exact(aD (bu g1 g2))<|(zY)<|(aD @sN)<|zo [.tmp 4] (hq:=by rw[ht];rfl)
   ·rw[g1,g2] at ht
    exact(aD (bu g1 g2))<|(zY)<|(aD @sN)<|zo [.tmp 4] (hq:=by rw[ht];rfl)
   ·rw[g1,g2] at ht
    exact(aD (bu g1 g2))<|(lj)<|zo [.tmp 4] (hq:=by rw[ht];rfl)
def IW(a b c d:Int):PC prog 350 [kW a b,kW c d] (·=oi (fj zz a b c d)):=by
 refine pB 8 Tryz.func350 ?_;exact(aD @kW.eq_1)<|(zC)<|(zK (vB 354 zz Ji a b c d))<|(cP (bu @oi.eq_1 @kW.eq_1))<|zo [.cell 4 52]
def P2(a b:Int):Int:=dX .i64 (a*b)
def F9(a b:Int):Int:=dX .i64 (a.tdiv b)
def qi{P:Program}{t:TypeId}(a b:Int):dk P .mul t (.int .i64 a) (.int .i64 b)=some (.int .i64 (P2 a b)):=rfl
def MJ{P:Program}{t:TypeId}{a b:Int}(h:¬b=0):dk P .quo t (.int .i64 a) (.int .i64 b)=some (.int .i64 (F9 a b)):=by
 have:RX b=false:=by
  cases b with
  | ofNat n=>
   cases n with
   | zero=>exact un rfl h
   | succ n=>rfl
  | negSucc n=>rfl
 unfold dk;simp only[this];rfl
def qt(a b:Int):Int:=if b=0 then 0 else if (!(decide (P2 (F9 a b) b=a)))&&((decide (a<0)) != (decide (b<0))) then uh (F9 a b) 1 else F9 a b
def gW(a b:Int):PC prog 356 [ab a,ab b] (·=ab (qt a b)):=by
 refine pB 26 Tryz.func356 ?_;refine(zV) ?_;cases h0:decide (b=0);rotate_left
 ·exact(aD h0)<|(cI)<|zo [.tmp 4] (hq:=by rw[qt,ut (ww h0)])
 have h0':=wt h0
 refine(aD h0)<|(zN)<|(zs) ?_;refine aG.r0 ii (by simp only[cL,bI,an,aC,m7,m6,↓reduceIte,aa,ad,af,ac,aj,ak,au,bl,MJ h0'];first | done | rfl) ?_
 have hf:qt a b=if (!(decide (P2 (F9 a b) b=a)))&&((decide (a<0)) != (decide (b<0))) then uh (F9 a b) 1 else F9 a b:=by rw[qt,v6 h0']
 cases h1:decide (P2 (F9 a b) b=a);rotate_left
 ·rw[h1] at hf;refine(zs) ?_;refine aG.r0 ii (me (bu @qi h1)) ?_;refine(zs) ?_;refine aG.no rfl ?_;(try (refine aG.skip ?_;try change aG _ _ _ _ _));refine(zs) ?_;refine aG.r0 ii zl ?_;refine(zE) ?_;exact Bh.of (rs:=[.tmp 4]) rfl rfl zl (Wk.refl rfl) (by (try simp only[eC,bJ]);first | done | (rw[hf];rfl))
 cases g1:decide (a<0)<;>cases g2:decide (b<0)<;>rw[h1,g1,g2] at hf
 ·refine(zs) ?_;refine aG.r0 ii (me (gm @qi h1 g1 g2)) ?_;exact(lj)<|zo [.tmp 4] (hq:=by rw[hf];rfl)
 ·exact(aD (gm @qi h1 g1 g2))<|(zY)<|(aD @ot)<|(zV)<|zo [.tmp 4] (hq:=by rw[hf];rfl)
 ·exact(aD (gm @qi h1 g1 g2))<|(zY)<|(aD @ot)<|(zV)<|zo [.tmp 4] (hq:=by rw[hf];rfl)
 ·exact(aD (gm @qi h1 g1 g2))<|(lj)<|zo [.tmp 4] (hq:=by rw[hf];rfl)
end Go.Proofs
