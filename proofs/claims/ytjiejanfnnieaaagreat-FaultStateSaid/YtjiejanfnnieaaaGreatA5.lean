/- Lemmas of this claim, each with its conditions. -/
import Derived.Test.YtjiejanfnnieaaaGreatA4
import Derived.Test.YtjiejanfnnieaaaGreatA3
import Derived.Test.YtjiejanfnnieaaaGreatA2
import Derived.Test.YtjiejanfnnieaaaGreatProg
import Derived.KernelRfl
import Derived.MapKept
import Derived.Shelf.Bits.Mul64
import Derived.Shelf.SlGeneric
import Derived.Shelf.SortM.Plain
import Derived.Shelf.SortM.SortNone
import Derived.Ground.SlgmProg
set_option linter.all false
set_option maxHeartbeats 8000000
open Go.Proofs.Tryz (prog func357 func56 isAgg66 isAgg9 sizeOf9)
open Nat (ble beq blt)
open List (mem_iff_getElem? all_eq_true append_nil take_zero mem_map)
open Nat renaming reduceEqDiff -> aa, reduceLeDiff -> ac, reduceAdd -> ad, reduceMul -> af, reduceLT -> aj, le_refl -> ap, le_of_lt -> ax, lt_succ_self -> be, not_lt_zero -> bi, exists_eq_succ_of_ne_zero -> bv, lt_trichotomy -> cc, mul_one -> ce, eq_of_beq_eq_true -> co, zero_le -> ct, le_of_not_lt -> cv, zero_add -> cI, reduceSub -> d6, add_zero -> eb, le_total -> fs, zero_lt_succ -> fu, lt_trans -> gv
open List renaming getElem?_map -> al, length_map -> ay, mem_of_find?_eq_some -> aU, mem_cons_of_mem -> bs, drop_length -> ca, set_eq_take_append_cons_drop -> cd, replicate -> ci, mem_cons_self -> ck, drop_of_length_le -> cn, range -> cp, mem_of_getElem? -> c6, getElem?_range -> dc, drop_eq_getElem_cons -> dy, find?_eq_none -> d3, getElem?_cons_succ -> d5, take_of_length_le -> d8, getElem?_eq_none -> d9, length_set -> em, mem_append -> er, getElem?_take -> ey, ext_getElem? -> fl, flatMap_cons -> fm, find?_some -> f7, all_cons -> ge
open Bool renaming and_eq_true -> am, false_and -> ch, and_true -> dd, false_or -> dl, not_true -> dt, true_and -> dv, and_false -> d4, or_true -> d7, or_eq_true -> el, true_or -> es, not_eq_true' -> fd, decide_and -> f5
open And renaming intro -> bk
open Array renaming toList_append -> d2, getElem?_modify -> ec
open Go.Proofs.Tryz renaming underlying66 -> fv, underlying9 -> fC, zeroValue66 -> fE, zeroValue9 -> gc, sizeOf66 -> g5
namespace Go.Ev
noncomputable section
section
variable {P:Program} {ro:Option Nat}
def PC.body(hng:sG P){g:FuncId}{fn:Func}{c:Code}{args:List SV}{Q:SV->Prop}(hf:P.funcs[g]?=some fn)(hb:fn.body=some c){n:Nat}(hn:args.length+(fn.ntmps-args.length)=n)
 (hw:aE P none c ⟨kJ 0 args,n,[],[]⟩ (Bf P fn Q)) (hlim:n<=1000000:=by exact mt rfl):PC P g args Q:=
 .sQ hng hf hb hn hlim (hw.mono λe st ⟨h1,h2,h3⟩=>⟨h1,by rw[h2];exact h3⟩)
def SC.body(hng:sG P){g:FuncId}{fn:Func}{c:Code}{args:List SV}{S0:List SO}{mv:List Nat}{Q:SV->List SO->Prop}(hf:P.funcs[g]?=some fn)(hb:fn.body=some c){n:Nat}(hn:args.length+(fn.ntmps-args.length)=n)(hlim:n<=1000000){W:Fm}(hW:W=nX S0.length)
 (hw:aE P none c ⟨kJ 0 args++W,n,S0,[]⟩ (KD P fn S0.length mv Q)) (hK:S0.length<=1000000:=by exact mt rfl):SC P g args S0 mv Q:=
 .sQ hng hf hb hn hlim hW hK (hw.mono λe st ⟨h1,h2,h3⟩=>⟨h1,by rw[h2];exact h3⟩)
def HY{ol:List Oper}{L:Nat->Prop}(hb:lf 0 ol=true)(hc:lJ ol L){j:Nat}:∀(i:Nat) (o:Oper),ol[i]?=some o->(∀e∈o.after.toList,dep e=true->L e.on)->bP ((oE ol []).getD i 0) j=true->L j:=by
 intro i
 induction i using Nat.strongRecOn with
 | _ i ih=>
  intro o ho hd hj;have hlt:=λe he hde=>oX hb ho e he hde;simp only[cI] at hlt;obtain⟨e,he,hde,h | h⟩:=HZ ho hlt hj
  ·exact h▸hd e he hde
  ·have hl:=hlt e he hde;obtain⟨o',ho'⟩:∃o',ol[e.on]?=some o':=⟨_,li (gv hl (br ho))⟩;exact ih e.on hl o' ho' (hc _ _ ho' (hd e he hde)) h
def JW{α β γ:Type}(a:Option α)(g:α->Option β)(k:β->γ):(a.bind λx=>(g x).map k)=(a.bind g).map k:=by cases a<;>rfl
def QH{f:Fm}{S S2:List SO}{op:Op}{v:SV}(hr:kh op=true)(hh:HS op=false)(h:dH P f S op=some (v,S,none)):dH P f S2 op=some (v,S2,none):=by
 have go:∀{α:Type} (q:Option α) (w:α->SV),q.map (λv=>(w v,S,(none:Option Nat)))=some (v,S,none)->q.map (λv=>(w v,S2,(none:Option Nat)))=some (v,S2,none):=by
  rintro _ (_ | q) w h
  ·cases h
  ·cases h;rfl
 cases op<;>first | (simp[kh] at hr;done) | (simp[HS] at hh;done) | (simp only[dH,JW] at h ⊢;exact go _ _ h) | skip
 case makeFunc g first _=>
  cases g<;>first | (simp[kh] at hr;done) | skip
  all_goals
   simp only[dH] at h ⊢
   cases ha:pJ f first.toList with
   | none=>rw[ha] at h;cases h
   | some a=>
    rw[ha] at h;simp only[m8] at h ⊢
    first
    | exact go _ _ h
    | cases hb:iP a with
     | none=>rw[hb] at h;cases h
     | some b=>
      rw[hb] at h;simp only[m8,JW] at h ⊢;exact go _ _ h
 case extract x _=>
  simp only[dH] at h ⊢
  cases hx:fD f x with
  | none=>rw[hx] at h;cases h
  | some w=>
   rw[hx] at h
   cases w<;>first | (cases h;done) | exact go _ _ h
def Oj(ol:List Oper)(i:Nat)(a:Oper)(mj:Nat)(b:Oper):Bool:=
 (match b.dst with | some d=>!(decide (a.dst=some d))&&(!(iI ol a).contains d||bP mj i) | none=>true)&&(bP mj i||(match a.dst with | some d=>!(iI ol b).contains d | none=>true)&&!(tu a.op&&tu b.op))
def BU(all:List Oper)(ms:List Nat):List (Nat×Oper)->Bool
 | []=>true
 | (i,a)::rest=>(match a.dst with | some d=>!(iI all a).contains d | none=>true)&&(match a.guard with | some (j,_)=>blt j i | none=>true)&&rest.all (λq=>Oj all i a (ms.getD q.1 0) q.2)&&BU all ms rest
def Ol{all:List Oper}{ms:List Nat}:∀{ol:List Oper} {i0 i:Nat} {o:Oper},BU all ms (cT i0 ol)=true->ol[i]?=some o->(∀d,o.dst=some d->d∉iI all o)/\(∀j b,o.guard=some (j,b)->j<i0+i)/\∀(k:Nat) o',i<k->ol[k]?=some o'->Oj all (i0+i) o (ms.getD (i0+k) 0) o'=true
 | [],_,_,_,_,h=>by simp at h
 | a::ol,i0,i,o,h,ho=>by
  rw[cT,BU,am,am,am] at h;obtain⟨⟨⟨h1,h2⟩,h3⟩,h4⟩:=h
  cases i with
  | zero=>
   cases ho;refine⟨λd hd=>?_,λj b hg=>?_,λk o' hk hko=>?_⟩
   ·rw[hd] at h1;simpa using h1
   ·rw[hg] at h2;exact fO h2
   ·obtain⟨k,rfl⟩:=bv (Nat.ne_of_gt hk);have:=all_eq_true.1 h3 (i0+1+k,o') (mem_iff_getElem?.2 ⟨k,by rw[jL,show ol[k]?=some o' by simpa using hko];rfl⟩);rw[show i0+(k+1)=i0+1+k by omega];exact this
  | succ i=>
   obtain⟨g1,g2,g3⟩:=Ol h4 (by simpa using ho);refine⟨g1,λj b hg=>by have:=g2 j b hg;omega,λk o' hk hko=>?_⟩;obtain⟨k,rfl⟩:=bv (show k≠0 by omega);have:=g3 k o' i5 (by simpa using hko);rw[show i0+(i+1)=i0+1+i by omega,show i0+(k+1)=i0+1+k by omega];exact this
def G9{all:List Oper}{f1 f2:Fm}{o:Oper}(h:∀t∈iI all o,aP f1 t=aP f2 t):cO all f1 o.guard=cO all f2 o.guard:=by
 unfold iI at h;unfold cO;split
 ·rfl
 ·rename_i j w hg;rw[hg] at h
  cases ho:all[j]? with
  | none=>rfl
  | some o'=>
   cases hd:o'.dst with
   | none=>simp[hd]
   | some d=>
    simp only[ho,hd,m8] at h ⊢;rw[h d gt]
def LM{all:List Oper}{f1 f2:Fm}{o:Oper}(h:∀t∈iI all o,aP f1 t=aP f2 t):∀x∈o.op.operands.toList,fD f1 x=fD f2 x:=by
 intro x hx
 cases x with
 | tmp t=>simp only[fD];rw[h t (by unfold iI;exact List.mem_append_left _ (H0 (by simpa using hx)))]
 | _=>rfl
def EE{f1 f2:Fm}{c:Call}(h:∀x∈(Op.call c).operands.toList,fD f1 x=fD f2 x):iE P f1 c=iE P f2 c:=by
 obtain⟨callee,aS,ats⟩:=c
 cases callee with
 | builtin b=>rfl
 | value x=>
  rw[iE,iE];simp only;rw[h x (by simp[Op.operands,Call.operands]),ga (l:=aS.toList) λy hy=>h y (by simp only[Op.operands,Call.operands,d2,er];exact .inr hy)]
 | invoke x m=>
  rw[iE,iE];simp only;rw[h x (by simp[Op.operands,Call.operands]),ga (l:=aS.toList) λy hy=>h y (by simp only[Op.operands,Call.operands,d2,er];exact .inr hy)]
def RQ{cl:Call}(h:fG (.call cl)=true):tv (.call cl)=false:=by
 obtain⟨callee,aS,ats⟩:=cl
 cases callee<;>first | rfl | (simp[fG] at h;done)
def KC{b:Bool}(h:b=true->False):b=false:=by cases b<;>simp_all
def Tj{op:Op}(h:kh op=true):tv op=false:=by
 cases op<;>first | rfl | (simp[kh] at h;done) | skip
 rename_i c;obtain⟨callee,aS,ats⟩:=c
 cases callee with
 | builtin b=>cases b<;>first | rfl | (simp[kh] at h;done)
 | _=>rfl
def PW:Op->Bool
 | .alloc _ | .box _ _ | .buildSlice _ _ _ | .makeMap _ _ | .makeSlice _ _ _ | .call { callee:=.builtin .append,.. }=>true
 | _=>false
def dW(op:Op):Bool:=tv op||PW op
def KR(ms:List Nat):List (Nat×Oper)->Bool
 | []=>true
 | (i,a)::l=>(!(dW a.op||fG a.op)||l.all λq=>!(dW q.2.op||fG q.2.op)||bP (ms.getD q.1 0) i)&&KR ms l
def Jz{ms:List Nat}:∀{ol:List Oper} {i0 i j:Nat} {a b:Oper},KR ms (cT i0 ol)=true->ol[i]?=some a->ol[j]?=some b->i<j->(dW a.op||fG a.op)=true->(dW b.op||fG b.op)=true->bP (ms.getD (i0+j) 0) (i0+i)=true
 | [],_,_,_,_,_,_,h,_,_,_,_=>by simp at h
 | o::ol,i0,i,j,a,b,h,ha,hb,hij,h1,h2=>by
  rw[cT,KR,am] at h;obtain⟨g1,g2⟩:=h;obtain⟨j,rfl⟩:=bv (show j≠0 by omega)
  cases i with
  | zero=>
   cases ha;rw[h1,dt,dl] at g1;have:=all_eq_true.1 g1 (i0+1+j,b) (mem_iff_getElem?.2 ⟨j,by rw[jL,show ol[j]?=some b by simpa using hb];rfl⟩);rw[h2,dt,dl] at this;rw[show i0+(j+1)=i0+1+j by omega];exact this
  | succ i=>
   have:=Jz g2 (i:=i) (j:=j) (by simpa using ha) (by simpa using hb) i5 h1 h2;rw[show i0+(j+1)=i0+1+j by omega,show i0+(i+1)=i0+1+i by omega];exact this
def vL{op:Op}(h:kh op=true):dW op=false:=by
 unfold dW;rw[Tj h,dl]
 cases op<;>first | rfl | (simp[kh] at h;done) | skip
 rename_i c;obtain⟨callee,aS,ats⟩:=c
 cases callee with
 | builtin b=>cases b<;>first | rfl | (simp[kh] at h;done)
 | _=>rfl
def M8{cl:Call}(h:fG (.call cl)=true):dW (.call cl)=false:=by
 unfold dW;rw[RQ h,dl];obtain⟨callee,aS,ats⟩:=cl
 cases callee<;>first | rfl | (simp[fG] at h;done)
def sw{S:List SO}{f1 f2:Fm}{op:Op}(hrd:(kh op||dW op)=true)(h:∀x∈op.operands.toList,fD f1 x=fD f2 x):dH P f1 S op=dH P f2 S op:=by
 by_cases hw:(kh op||tv op)=true
 ·exact LK hw h
 cases op with
 | alloc e=>rfl
 | box t x=>rw[dH,dH,h x (by simp[Op.operands])]
 | buildSlice t n ps=>rw[dH,dH,pL λx hx=>h x (by simpa [Op.operands] using hx)]
 | makeMap t x=>
  cases x with
  | none=>rfl
  | some x=>rfl
 | makeSlice t l c=>rw[dH,dH,h l (by simp[Op.operands]),h c (by simp[Op.operands])]
 | call c=>
  obtain⟨callee,aS,ats⟩:=c
  cases callee with
  | builtin b=>rw[dH,dH,ga λx hx=>h x (by simp only[Op.operands,Call.operands,d2,er];exact .inr hx)]
  | _=>simp[kh,dW,tv,PW] at hrd
 | makeFunc g first cap=>cases g<;>first | exact un rfl hw | (simp[kh,dW,tv,PW] at hrd;done)
 | _=>first | exact un rfl hw | (simp[kh,dW,tv,PW] at hrd;done)
def JX{ol:List Oper}{ms:List Nat}(hb:lf 0 ol=true)(hms:oE ol []=ms)(w:Nat)(o:Oper)(ho:ol[w]?=some o){i:Nat}(h:bP (ms.getD w 0) i=true):i<w:=by
 have hlt:∀{j:Nat} {o':Oper},ol[j]?=some o'->∀e∈o'.after.toList,dep e=true->e.on<j:=λho' e he hde=>by simpa using oX hb ho' e he hde
 exact HY (L:=λj=>j<w) hb (λj o' ho' hj e he hde=>gv (hlt ho' e he hde) hj) w o ho (λe he hde=>hlt ho e he hde) (by rw[hms];exact h)
structure Mh where
 b:Bool
 hp:List Nat
 kl:List (Nat×Nat)
 f0:Fm
 f:Fm
 S:List SO
def AH(ms:List Nat)(i:Nat)(v:SV):List (Nat×Nat)->Prop
 | []=>True
 | q::l=>(bP (ms.getD i 0) q.1=true\/aY q.2 v=v)/\AH ms i v l
def qu{ms:List Nat}{i:Nat}{v:SV}:∀{l:List (Nat×Nat)},AH ms i v l->∀q∈l,bP (ms.getD i 0) q.1=true\/aY q.2 v=v
 | [],_,q,hq=>by cases hq
 | x::l,h,q,hq=>by
  rcases t7 hq with rfl | hq
  ·exact h.1
  ·exact qu h.2 q hq
def KA(all:List Oper)(ms:List Nat)(i:Nat):List Nat:=((cT 0 all).filter λq=>!Nat.beq q.1 i&&!bP (ms.getD i 0) q.1&&!bP (ms.getD q.1 0) i).flatMap λq=>(match q.2.dst with | some d=>d::iI all q.2 | none=>iI all q.2)
def Un(f0 f:Fm)(k:Nat):List Nat->Prop
 | []=>True
 | t::l=>(aY k (aP f t)=aP f t/\aY k (aP f0 t)=aP f0 t)/\Un f0 f k l
def Kz{f0 f:Fm}{k:Nat}:∀{l:List Nat},Un f0 f k l->∀t∈l,aY k (aP f t)=aP f t/\aY k (aP f0 t)=aP f0 t
 | [],_,t,h=>by cases h
 | x::l,h,t,ht=>by
  rcases t7 ht with rfl | ht
  ·exact h.1
  ·exact Kz h.2 t ht
def Jr(all:List Oper)(ms:List Nat)(i:Nat):Bool:=(cT 0 all).all λq=>beq q.1 i||(blt q.1 i&&bP (ms.getD i 0) q.1)||(blt i q.1&&bP (ms.getD q.1 0) i)
inductive r7 (P:Program) (ro:Option Nat) (all:List Oper) (ms:List Nat) (n:Nat) (i:Nat) (o:Oper):Mh->Mh->Prop
 | s {b hp kl f0 f S d}:eG all n [o]=true->o.dst=some d->cO all f o.guard=some false->dW o.op=false->r7 P ro all ms n i o ⟨b,hp,kl,f0,f,S⟩ ⟨b,hp,kl,f0,(d,.a lH)::f,S⟩
 | sk {b hp kl f0 f S d}:eG all n [o]=true->o.dst=some d->cO all f o.guard=some false->dW o.op=true->hp.all (λj=>bP (ms.getD i 0) j)=true->r7 P ro all ms n i o ⟨b,hp,kl,f0,f,S⟩ ⟨false,hp,kl,f0,(d,.a lH)::f,S⟩
 | r {b hp kl f0 f S d v}:eG all n [o]=true->o.dst=some d->cO all f o.guard=some true->kh o.op=true->(∀S2,dH P f S2 o.op=some (v,S2,none))->AH ms i v kl->r7 P ro all ms n i o ⟨b,hp,kl,f0,f,S⟩ ⟨b,hp,kl,f0,(d,v)::f,S⟩
 | h {hp kl f0 f S d v}:eG all n [o]=true->o.dst=some d->cO all f o.guard=some true->kh o.op=true->dH P f S o.op=some (v,S,none)->AH ms i v kl->r7 P ro all ms n i o ⟨true,hp,kl,f0,f,S⟩ ⟨true,i::hp,kl,f0,(d,v)::f,S⟩
 | k {hp kl f0 f S d cl g vs ws r}:eG all n [o]=true->o.op=.call cl->o.dst=some d->cO all f o.guard=some true->fG (.call cl)=true->tu o.op=true->iE P f cl=some (g,vs)->PC P g ws (·=r)->bg S vs ws->(∀o,aY o r=r)->(vD r=true\/bg [] vs ws)->
  r7 P ro all ms n i o ⟨true,hp,kl,f0,f,S⟩ ⟨true,hp,kl,f0,(d,r)::f,S⟩
 | e {b hp kl f0 f S v S'}:eG all n [o]=true->cO all f o.guard=some true->dW o.op=true->hp.all (λj=>bP (ms.getD i 0) j)=true->dH P f S o.op=some (v,S',none)->AH ms i v kl->r7 P ro all ms n i o ⟨b,hp,kl,f0,f,S⟩ ⟨false,hp,kl,f0,sg f none o.dst v,S'⟩
 | a {b hp kl f0 f S v S' k}:eG all n [o]=true->cO all f o.guard=some true->dW o.op=true->hp.all (λj=>bP (ms.getD i 0) j)=true->dH P f S o.op=some (v,S',some k)->AH ms i v kl->(∀t∈KA all ms i,aY k (aP f t)=aP f t/\aY k (aP f0 t)=aP f0 t)->r7 P ro all ms n i o ⟨b,hp,kl,f0,f,S⟩ ⟨false,hp,(i,k)::kl,f0,sg f (some k) o.dst v,S'⟩
 | Pp {b hp kl f0 f S f' S'}:Jr all ms i=true->dW o.op=false->(∀ds K,K ⟨f',n,S',ds⟩->aT P ro (all.take (i+1)) [o] ⟨f,n,S,ds⟩ K)->r7 P ro all ms n i o ⟨b,hp,kl,f0,f,S⟩ ⟨true,[],[],f',f',S'⟩
inductive RC (P:Program) (ro:Option Nat) (all:List Oper) (ms:List Nat) (n:Nat):List (Nat×Oper)->Mh->Mh->Prop
 | nil {x}:RC P ro all ms n [] x x
 | cons {i o l x y z}:r7 P ro all ms n i o x y->RC P ro all ms n l y z->RC P ro all ms n ((i,o)::l) x z
def qR(P:Program)(ro:Option Nat)(all:List Oper)(ms:List Nat)(n:Nat)(f0:Fm)(kl:List (Nat×Nat))(b:Bool)(hp:List Nat)(l:List (Nat×Oper))(f:Fm)(S:List SO)(K:Fm->List SO->Prop):Prop:=∃z,K z.f z.S/\RC P ro all ms n l ⟨b,hp,kl,f0,f,S⟩ z
mutual
def EY:∀{v:SV},vD v=true->∀o,names o v=false
 | .any,_,_=>rfl
 | .a _,_,_=>rfl
 | .ag cs,h,o=>by rw[names];exact uP (by rw[vD] at h;exact h) o
 | .cm cs,h,o=>by rw[names];exact uP (by rw[vD] at h;exact h) o
 | .sl ..,h,_ | .im ..,h,_ | .ptr ..,h,_ | .map ..,h,_ | .buf ..,h,_ | .sub ..,h,_ | .fn ..,h,_ | .iface ..,h,_ | .ip ..,h,_ | .e0 ..,h,_=>by simp[vD] at h
def uP:∀{l:List SV},HJ l=true->∀o,e8 o l=false
 | [],_,_=>rfl
 | d::ds,h,o=>by rw[HJ,am] at h;rw[e8,EY h.1,uP h.2];rfl
end
def PY{v:SV}(h:vD v=true)(o:Nat):aY o v=v:=by unfold aY;rw[EY h o];rfl
section
variable {all:List Oper} {ms:List Nat} {n:Nat} {b:Bool} {hp:List Nat} {l:List (Nat×Oper)} {f:Fm} {S:List SO} {K:Fm->List SO->Prop} {i:Nat} {o:Oper} {d:Nat} {f0:Fm} {kl:List (Nat×Nat)}
def qR.nil(h:K f S):qR P ro all ms n f0 kl b hp [] f S K:=⟨_,h,.nil⟩
theorem qR.s(hst:eG all n [o]=true)(hdst:o.dst=some d)(hw:cO all f o.guard=some false)(hwr:dW o.op=false):qR P ro all ms n f0 kl b hp l ((d,.a lH)::f) S K->qR P ro all ms n f0 kl b hp ((i,o)::l) f S K:=λ⟨z,k,t⟩=>⟨z,k,.cons (.s hst hdst hw hwr) t⟩
theorem qR.r{v:SV}{S':List SO}{kill:Option Nat}(hst:eG all n [o]=true)(hdst:o.dst=some d)(hw:cO all f o.guard=some true)(hrr:(kh o.op&&(b||!HS o.op))=true)(hop:dH P f S o.op=some (v,S',kill))
 (hk:qR P ro all ms n f0 kl b (_root_.cond (HS o.op) (i::hp) hp) l ((d,v)::f) S K) (hkl:AH ms i v kl):qR P ro all ms n f0 kl b hp ((i,o)::l) f S K:=by
 rw[am] at hrr;obtain⟨h1,h2⟩:=hrr;obtain⟨rfl,rfl⟩:=OJ h1 hop;obtain⟨z,k,t⟩:=hk;cases hh:HS o.op
 ·rw[hh] at t;exact⟨z,k,.cons (.r hst hdst hw h1 (λS2=>QH h1 hh hop) hkl) t⟩
 ·rw[hh] at t h2
  obtain rfl:b=true:=by cases b<;>simp_all
  exact⟨z,k,.cons (.h hst hdst hw h1 hop hkl) t⟩
def qR.ri{tt:TypeId}{x:Operand}{cs0:List SV}{v:SV}(hst:eG all n [o]=true)(hdst:o.dst=some d)(hw:cO all f o.guard=some true)(hop:o.op=.load tt x)(hx:fD f x=some (.ip cs0))(hv:tE P tt cs0 0=some v)(hkl:AH ms i v kl):
 qR P ro all ms n f0 kl b hp l ((d,v)::f) S K->qR P ro all ms n f0 kl b hp ((i,o)::l) f S K:=λ⟨z,k,t⟩=>⟨z,k,.cons (.r hst hdst hw (by rw[hop];rfl) (λS2=>by rw[hop,dH,hx,m8,yJ,hv];rfl) hkl) t⟩
theorem qR.k{cl:Call}{g:FuncId}{vs ws:List SV}{r:SV}(hst:eG all n [o]=true)(hop:o.op=.call cl)(hdst:o.dst=some d)(hw:cO all f o.guard=some true)(hdy:fG (.call cl)=true)(he:tu (.call cl)=true)
 (hc:iE P f cl=some (g,vs)) (hq:PC P g ws (·=r)) (hwk:bg S vs ws) (hr:vD r=true):qR P ro all ms n f0 kl true hp l ((d,r)::f) S K->qR P ro all ms n f0 kl true hp ((i,o)::l) f S K:=λ⟨z,k,t⟩=>⟨z,k,.cons (.k hst hop hdst hw hdy (by rw[hop];exact he) hc hq hwk (PY hr) (.inl hr)) t⟩
def qR.kg{cl:Call}{g:FuncId}{vs:List SV}{r:SV}(hst:eG all n [o]=true)(hop:o.op=.call cl)(hdst:o.dst=some d)(hw:cO all f o.guard=some true)(hdy:fG (.call cl)=true)(he:tu (.call cl)=true)
 (hc:iE P f cl=some (g,vs)) (hq:PC P g vs (·=r)) (hwk:∀S,bg S vs vs) (hr:mg r=true):qR P ro all ms n f0 kl true hp l ((d,r)::f) S K->qR P ro all ms n f0 kl true hp ((i,o)::l) f S K:=λ⟨z,k,t⟩=>⟨z,k,.cons (.k hst hop hdst hw hdy (by rw[hop];exact he) hc hq (hwk _) (λ_=>uZ hr) (.inr (hwk _))) t⟩
theorem qR.e{v:SV}{S':List SO}(hst:eG all n [o]=true)(hw:cO all f o.guard=some true)(hwr:dW o.op=true)(hms:hp.all (λj=>bP (ms.getD i 0) j)=true)(hop:dH P f S o.op=some (v,S',none))(hkl:AH ms i v kl):
 qR P ro all ms n f0 kl false hp l (sg f none o.dst v) S' K->qR P ro all ms n f0 kl b hp ((i,o)::l) f S K:=λ⟨z,k,t⟩=>⟨z,k,.cons (.e hst hw hwr hms hop hkl) t⟩
theorem qR.a{f':Fm}{v:SV}{S':List SO}{k:Nat}(T:List Nat)(hst:eG all n [o]=true)(hdst:o.dst=some d)(hw:cO all f o.guard=some true)(hwr:dW o.op=true)(hms:hp.all (λj=>bP (ms.getD i 0) j)=true)(hT:((KA all ms i).all λt=>T.contains t)=true)(hop:dH P f S o.op=some (v,S',some k))(hf:eK k f=f')(ht:Un f0 f k T)(hkl:AH ms i v kl):
 qR P ro all ms n f0 ((i,k)::kl) false hp l ((d,v)::f') S' K->qR P ro all ms n f0 kl b hp ((i,o)::l) f S K:=λ⟨z,c,t⟩=>⟨z,c,.cons (by have:=r7.a (ro:=ro) (b:=b) hst hw hwr hms hop hkl λt h=>Kz ht t (List.contains_iff_mem.1 (all_eq_true.1 hT t h));rw[hdst] at this;rw[<-hf];exact this) t⟩
def qR.Pp{f':Fm}{S':List SO}(hbr:Jr all ms i=true)(hwr:dW o.op=false)(hop:∀ds K,K ⟨f',n,S',ds⟩->aT P ro (all.take (i+1)) [o] ⟨f,n,S,ds⟩ K):
 qR P ro all ms n f' [] true [] l f' S' K->qR P ro all ms n f0 kl b hp ((i,o)::l) f S K:=λ⟨z,c,t⟩=>⟨z,c,.cons (.Pp hbr hwr hop) t⟩
end
def RC.get{all:List Oper}{ms:List Nat}{n:Nat}:∀{ol:List Oper} {i0:Nat} {x z:Mh},RC P ro all ms n (cT i0 ol) x z->∃X:Nat->Mh,X i0=x/\X (i0+ol.length)=z/\∀(k:Nat) o,ol[k]?=some o->r7 P ro all ms n (i0+k) o (X (i0+k)) (X (i0+k+1))
 | [],i0,x,z,h=>by
  rw[cT] at h;cases h;exact⟨λ_=>x,rfl,rfl,λk o h=>by simp at h⟩
 | o::ol,i0,x,z,h=>by
  rw[cT] at h
  cases h with | cons h t=>?_
  obtain⟨X,h1,h2,h3⟩:=RC.get t;refine⟨λj=>if j=i0 then x else X j,ut rfl,?_,?_⟩
  ·show(if _ then _ else _)=z;rw[jp,v6 i5,<-h2];congr 1;omega
  ·rintro(_ | k) o' ho
   ·cases ho;show r7 P ro all ms n i0 o (if _ then _ else _) (if _ then _ else _);rw[eb,ut rfl,v6 i5,h1];exact h
   ·have:=h3 k o' (by simpa using ho);show r7 P ro all ms n (i0+(k+1)) o' (if _ then _ else _) (if _ then _ else _);rw[v6 i5,v6 i5,show i0+(k+1)=i0+1+k by omega];exact this
structure RA (P:Program) (all:List Oper) (ms:List Nat) (n:Nat) (i:Nat) (o:Oper) (x y:Mh) (κ:Option Nat):Prop where
 st:eG all n [o]=true
 fr:∀t,o.dst≠some t->aP y.f t=jH κ (aP x.f t)
 wr:dW o.op=false->κ=none
 S:dW o.op=false->y.S=x.S
 b:y.b=true->x.b=true/\dW o.op=false
 hp:∀j∈x.hp,j∈y.hp
 w:dW o.op=true->x.hp.all (λj=>bP (ms.getD i 0) j)=true
 k1:∀q∈x.kl,q∈y.kl
 k2:∀k,κ=some k->(i,k)∈y.kl
 t:∀k,κ=some k->∀t∈KA all ms i,aY k (aP x.f t)=aP x.f t/\aY k (aP x.f0 t)=aP x.f0 t
 v:∀d,o.dst=some d->∀q∈x.kl,bP (ms.getD i 0) q.1=true\/aY q.2 (aP y.f d)=aP y.f d
 op:dW o.op=true->∃v S',((cO all x.f o.guard=some true/\dH P x.f x.S o.op=some (v,S',κ))\/(cO all x.f o.guard=some false/\(∃d,o.dst=some d)/\v=.a lH/\S'=x.S/\κ=none))/\(∀d,o.dst=some d->aP y.f d=v)/\y.S=S'
 z:y.f0=x.f0
structure SP (P:Program) (ro:Option Nat) (all:List Oper) (ms:List Nat) (n:Nat) (i:Nat) (o:Oper) (x y:Mh):Prop where
 ok:Jr all ms i=true
 wr:dW o.op=false
 op:∀ds K,K ⟨y.f,n,y.S,ds⟩->aT P ro (all.take (i+1)) [o] ⟨x.f,n,x.S,ds⟩ K
 z:y.f0=y.f
def r7.out{all:List Oper}{ms:List Nat}{n i:Nat}{o:Oper}{x y:Mh}(h:r7 P ro all ms n i o x y):(∃κ,RA P all ms n i o x y κ)\/SP P ro all ms n i o x y:=by
 have put:∀{f:Fm} {d:Nat} {v:SV},o.dst=some d->∀t,o.dst≠some t->aP ((d,v)::f) t=aP f t:=λ{f d v} hd t ht=>by
  show(if d=t then v else aP f t)=_;rw[v6 λe=>ht (by rw[hd,e])]
 have top:∀{d:Nat} {v:SV} {f:Fm},aP ((d,v)::f) d=v:=λ{d v f}=>ut rfl
 have no2:∀{q:Prop},dW o.op=false->dW o.op=true->q:=λh h2=>by rw[h] at h2;cases h2
 have val:∀{d d':Nat} {v:SV} {f:Fm},o.dst=some d->o.dst=some d'->aP ((d,v)::f) d'=v:=λh1 h2=>by rw[h1] at h2;cases h2;exact top
 cases h with
 | s h1 h2 h3 h4=>exact .inl ⟨none,h1,put h2,λ_=>rfl,λ_=>rfl,λh=>⟨h,h4⟩,λ_ h=>h,no2 h4,λ_ h=>h,nofun,nofun,λd hd q _=>.inr (by rw[val h2 hd];rfl),no2 h4,rfl⟩
 | r h1 h2 h3 h4 _ h6=>exact .inl ⟨none,h1,put h2,λ_=>rfl,λ_=>rfl,λh=>⟨h,vL h4⟩,λ_ h=>h,no2 (vL h4),λ_ h=>h,nofun,nofun,λd hd q hq=>by rw[val h2 hd];exact qu h6 q hq,no2 (vL h4),rfl⟩
 | h h1 h2 h3 h4 _ h6=>exact .inl ⟨none,h1,put h2,λ_=>rfl,λ_=>rfl,λh=>⟨h,vL h4⟩,λ_ h=>bs _ h,no2 (vL h4),λ_ h=>h,nofun,nofun,λd hd q hq=>by rw[val h2 hd];exact qu h6 q hq,no2 (vL h4),rfl⟩
 | k h1 h0 h2 h3 h4 _ _ _ _ h9 _=>
  have hk:dW o.op=false:=by rw[h0];exact M8 h4
  exact .inl ⟨none,h1,put h2,λ_=>rfl,λ_=>rfl,λh=>⟨h,hk⟩,λ_ h=>h,no2 hk,λ_ h=>h,nofun,nofun,λd hd q _=>.inr (by rw[val h2 hd];exact h9 _),no2 hk,rfl⟩
 | sk h1 h2 h3 h4 h5=>exact .inl ⟨none,h1,put h2,λ_=>rfl,λ_=>rfl,λh=>(by cases h),λ_ h=>h,λ_=>h5,λ_ h=>h,nofun,nofun,λd hd q _=>.inr (by rw[val h2 hd];rfl),λ_=>⟨.a lH,_,.inr ⟨h3,⟨_,h2⟩,rfl,rfl,rfl⟩,λd hd=>val h2 hd,rfl⟩,rfl⟩
 | e h1 h3 h5 h6 h7 h8=>
  refine .inl ⟨none,h1,λt ht=>?_,λ_=>rfl,λh=>(by rw[h] at h5;cases h5),λh=>(by cases h),λ_ h=>h,λ_=>h6,λ_ h=>h,nofun,nofun,λd hd q hq=>?_,λ_=>⟨_,_,.inl ⟨h3,h7⟩,λd hd=>(by rw[hd];exact top),rfl⟩,rfl⟩
  ·cases hd:o.dst with
   | none=>rfl
   | some d=>exact put hd t ht
  ·refine(qu h8 q hq).imp id λh=>?_;rw[hd];simp only[sg,top];exact h
 | a h1 h3 h5 h6 h7 h8 h9=>
  rename_i k;refine .inl ⟨some k,h1,λt ht=>?_,λh=>(by rw[h] at h5;cases h5),λh=>(by rw[h] at h5;cases h5),λh=>(by cases h),λ_ h=>h,λ_=>h6,λ_ h=>bs _ h,λk' e=>(by cases e;exact ck),λk' e=>(by cases e;exact h9),λd hd q hq=>?_,λ_=>⟨_,_,.inl ⟨h3,h7⟩,λd hd=>(by rw[hd];exact top),rfl⟩,rfl⟩
  ·cases hd:o.dst with
   | none=>exact ib _ _ _
   | some d=>exact(put (f:=eK k _) hd t ht).trans (ib _ _ _)
  ·refine(qu h8 q hq).imp id λh=>?_;rw[hd];simp only[sg,top];exact h
 | Pp h1 h2 h3=>exact .inr ⟨h1,h2,h3,rfl⟩
def dM(κ:Nat->Option Nat)(b:Nat):Nat->SV->SV
 | 0,v=>v
 | m+1,v=>if m<b then v else jH (κ m) (dM κ b m v)
def Fi(k:Option Nat)(v:SV):jH k v=v\/jH k v=.any:=by
 cases k with
 | none=>exact .inl rfl
 | some k=>unfold jH aY;simp only;cases names k v;exact .inl rfl;exact .inr rfl
def BF(k:Option Nat):jH k .any=.any:=by rcases Fi k .any with h | h<;>exact h
section
variable {κ:Nat->Option Nat} {b m:Nat} {v:SV}
def Fj:dM κ b m v=v\/dM κ b m v=.any:=by
 induction m with
 | zero=>exact .inl rfl
 | succ m ih=>
  rw[dM];split
  ·exact .inl rfl
  ·rcases ih with h | h
   ·rw[h];exact Fi _ _
   ·rw[h,BF];exact .inr rfl
def jI(h:m<=b):dM κ b m v=v:=by
 cases m with
 | zero=>rfl
 | succ m=>rw[dM,ut i5]
def sn(h:b<=m):dM κ b (m+1) v=jH (κ m) (dM κ b m v):=by rw[dM,v6 i5]
def oy{c:Nat}(hbc:m<=c)(h:∀w,b<=w->m<=w->w<c->jH (κ w) (dM κ b w v)=dM κ b w v):dM κ b c v=dM κ b m v:=by
 induction hbc with
 | refl=>rfl
 | step hbc ih=>
  rename_i c;have:=ih λw h1 h2 h3=>h w h1 h2 (Nat.lt_succ_of_lt h3);by_cases hb:b<=c
  ·rw[sn hb,h c hb hbc (be c),this]
  ·rw[jI i5,<-this,jI i5]
end
def pc(g:Nat->SV)(φ:SV->SV)(f:Fm):List Oper->Fm
 | []=>f.map λq=>(q.1,φ q.2)
 | o::l=>match o.dst with
  | some d=>(d,g d)::pc g φ f l
  | none=>pc g φ f l
def EF{g:Nat->SV}{φ:SV->SV}{f:Fm}(hφ:φ .any=.any){t:Nat}:∀{l:List Oper},(aP (pc g φ f l) t=g t/\∃o∈l,o.dst=some t)\/(aP (pc g φ f l) t=φ (aP f t)/\∀o∈l,o.dst≠some t)
 | []=>by
  refine .inr ⟨?_,λo h=>by cases h⟩;rw[pc]
  induction f with
  | nil=>exact hφ.symm
  | cons q f ih=>
   show(if q.1=t then φ q.2 else _)=φ (if q.1=t then q.2 else _);split
   ·rfl
   ·exact ih
 | o::l=>by
  have ih:=EF (g:=g) (φ:=φ) (f:=f) hφ (t:=t) (l:=l);rw[pc]
  cases hd:o.dst with
  | none=>exact ih.imp (λ⟨a,o',b,c⟩=>⟨a,o',bs _ b,c⟩) λ⟨a,b⟩=>⟨a,λo' ho'=>by rcases t7 ho' with rfl | h ;(rw[hd];nofun);exact b o' h⟩
  | some d=>
   by_cases e:d=t
   ·subst e;exact .inl ⟨ut rfl,o,ck,hd⟩
   ·have h1:aP ((d,g d)::pc g φ f l) t=aP (pc g φ f l) t:=v6 e;simp only[h1];exact ih.imp (λ⟨a,o',b,c⟩=>⟨a,o',bs _ b,c⟩) λ⟨a,b⟩=>⟨a,λo' ho'=>by rcases t7 ho' with rfl | h ;(rw[hd];exact λh=>e (Option.some.inj h));exact b o' h⟩
def aE.RP{id:Nat}{ops:Array Oper}{st:eI}{Q:Ex->eI->Prop}{ol:List Oper}{ms:List Nat}(hol:ops.toList=ol)(hms:oE ol []=ms)(hok:((lf 0 ol&&P.follows .mixedOrders)&&(BU ol ms (cT 0 ol)&&KR ms (cT 0 ol)))=true)
 (h:qR P ro ol ms st.n st.f [] true [] (cT 0 ol) st.f st.S λf' S'=>Q .normal ⟨f',st.n,S',st.ds⟩):aE P ro (.region id ops true) st Q:=by
 obtain⟨f,n,S,ds⟩:=st;rw[am] at hok;obtain⟨hbk,hpr⟩:=hok;rw[am] at hpr;obtain⟨hpr,hch⟩:=hpr
 have hord:∀{i j:Nat} {a b:Oper},ol[i]?=some a->ol[j]?=some b->i<j->(dW a.op||fG a.op)=true->(dW b.op||fG b.op)=true->bP (ms.getD j 0) i=true:=λh1 h2 h3 h4 h5=>by simpa using Jz hch h1 h2 h3 h4 h5
 have hback:=hbk;rw[am] at hback;obtain⟨z,hz,ht⟩:=h;obtain⟨X,hX0,hXN,hX⟩:=ht.get;simp only[cI] at hXN hX;have hP:=λ{i:Nat} {o:Oper} (ho:ol[i]?=some o)=>Ol hpr ho;simp only[cI] at hP;obtain⟨B,hB0⟩:∃B:Nat->Prop,∀i,B i↔∃o,ol[i]?=some o/\SP P ro ol ms n i o (X i) (X (i+1)):=⟨_,λ_=>Iff.rfl⟩
 obtain⟨κ,hκ0⟩:∃κ:Nat->Option Nat,∀i,(B i->κ i=none)/\∀o,ol[i]?=some o->¬B i->RA P ol ms n i o (X i) (X (i+1)) (κ i):=by
  have:∀i,∃κ,(B i->κ=none)/\∀o,ol[i]?=some o->¬B i->RA P ol ms n i o (X i) (X (i+1)) κ:=by
   intro i;by_cases hb:B i
   ·exact⟨none,λ_=>rfl,λ_ _ h=>un hb h⟩
   cases ho:ol[i]? with
   | none=>exact⟨none,λ_=>rfl,nofun⟩
   | some o=>
    rcases(hX i o ho).out with⟨κ,h⟩ | h
    ·exact⟨κ,λh=>un h hb,λo' e _=>by cases e;exact h⟩
    ·exact un ((hB0 i).2 ⟨o,ho,h⟩) hb
  exact⟨λi=>Classical.choose (this i),λi=>Classical.choose_spec (this i)⟩
 have hκ:=λ{i o} (ho:ol[i]?=some o) (hb:¬B i)=>(hκ0 i).2 o ho hb
 have hBw:∀{i o},B i->ol[i]?=some o->dW o.op=false/\Jr ol ms i=true:=by
  intro i o hb ho;obtain⟨o',h1,h2⟩:=(hB0 i).1 hb;rw[h1] at ho;cases ho;exact⟨h2.wr,h2.ok⟩
 have hBn:∀{i o},ol[i]?=some o->dW o.op=true->¬B i:=λho hw hb=>by rw[(hBw hb ho).1] at hw;cases hw
 have hat:∀{i},i<ol.length->∃o,ol[i]?=some o:=λh=>⟨_,li h⟩
 have hBl:∀{i},B i->i<ol.length:=λhb=>by obtain⟨o,h,_⟩:=(hB0 _).1 hb;exact br h
 have hBo:∀{c j},B c->j<ol.length->(j<c->bP (ms.getD c 0) j=true)/\(c<j->bP (ms.getD j 0) c=true):=by
  intro c j hb hj;obtain⟨oc,hoc⟩:=hat (hBl hb);obtain⟨oj,hoj⟩:=hat hj;have h:=all_eq_true.1 (hBw hb hoc).2 (j,oj) (mem_iff_getElem?.2 ⟨j,by rw[jL,hoj];simp⟩);simp only[el,am] at h;refine⟨λhlt=>?_,λhlt=>?_⟩
  ·rcases h with(h | h) | h
   ·have:=co h;omega
   ·exact h.2
   ·have:=fO h.1;omega
  ·rcases h with(h | h) | h
   ·have:=co h;omega
   ·have:=fO h.1;omega
   ·exact h.2
 have hF:∀(k m t:Nat),k<=m->m<=ol.length->(∀c,k<=c->c<m->¬B c)->(∀j o,k<=j->j<m->ol[j]?=some o->o.dst≠some t)->aP (X m).f t=dM κ k m (aP (X k).f t):=by
  intro k m t hkm
  induction hkm with
  | refl=>exact λ_ _ _=>(jI (ap _)).symm
  | step hkm ih=>
   rename_i m;intro hm hb hno;obtain⟨o,hoj⟩:=hat hm;rw[(hκ hoj (hb m hkm (be _))).fr t (hno m _ hkm (be _) hoj),sn hkm,ih (ax hm) (λc h1 h2=>hb c h1 i5) λj o h1 h2=>hno j o h1 i5]
 have hseg:∀{α:Type} (φ:Mh->α) (k m:Nat),(∀j o,k<=j->j<m->ol[j]?=some o->φ (X (j+1))=φ (X j))->k<=m->m<=ol.length->φ (X m)=φ (X k):=by
  intro α φ k m hs hkm
  induction hkm with
  | refl=>exact λ_=>rfl
  | step hkm ih=>
   rename_i m;intro hm;obtain⟨o,hoj⟩:=hat hm;rw[hs m o hkm (be _) hoj];exact ih (λj o h1 h2=>hs j o h1 i5) (ax hm)
 have hS:∀(k m:Nat),k<=m->m<=ol.length->(∀c,k<=c->c<m->¬B c)->(∀j o,k<=j->j<m->ol[j]?=some o->dW o.op=false)->(X m).S=(X k).S:=λk m h1 h2 hb hw=>hseg Mh.S k m (λj o g1 g2 g3=>(hκ g3 (hb j g1 g2)).S (hw j o g1 g2 g3)) h1 h2;have hZ:∀(k m:Nat),k<=m->m<=ol.length->(∀c,k<=c->c<m->¬B c)->(X m).f0=(X k).f0:=λk m h1 h2 hb=>hseg Mh.f0 k m (λj o g1 g2 g3=>(hκ g3 (hb j g1 g2)).z) h1 h2
 have hB:∀(k m:Nat),k<=m->m<=ol.length->(∀c,k<=c->c<m->¬B c)->(X m).b=true->∀j o,k<=j->j<m->ol[j]?=some o->dW o.op=false:=by
  intro k m hkm
  induction hkm with
  | refl=>exact λ_ _ _ j o h1 h2=>by omega
  | step hkm ih=>
   rename_i m;intro hm hbr hb j o h1 hj ho;obtain⟨o',ho'⟩:=hat hm;obtain⟨h3,h2⟩:=(hκ ho' (hbr m hkm (be _))).b hb;by_cases e:j=m
   ·subst e;rw[ho'] at ho;cases ho;exact h2
   ·exact ih (ax hm) (λc h1 h2=>hbr c h1 i5) h3 j o h1 i5 ho
 have hH:∀(k m j:Nat),k<=m->m<=ol.length->(∀c,k<=c->c<m->¬B c)->j∈(X k).hp->j∈(X m).hp:=by
  intro k m j hkm
  induction hkm with
  | refl=>exact λ_ _ h=>h
  | step hkm ih=>
   intro hm hb hj;obtain⟨o',ho'⟩:=hat hm;exact(hκ ho' (hb _ hkm (be _))).hp j (ih (ax hm) (λc h1 h2=>hb c h1 i5) hj)
 have hKL:∀(k m:Nat) q,k<=m->m<=ol.length->(∀c,k<=c->c<m->¬B c)->q∈(X k).kl->q∈(X m).kl:=by
  intro k m q hkm
  induction hkm with
  | refl=>exact λ_ _ h=>h
  | step hkm ih=>
   intro hm hb hj;obtain⟨o',ho'⟩:=hat hm;exact(hκ ho' (hb _ hkm (be _))).k1 q (ih (ax hm) (λc h1 h2=>hb c h1 i5) hj)
 have hu:∀{j k:Nat} {a b:Oper} {t:Nat},ol[j]?=some a->ol[k]?=some b->a.dst=some t->b.dst=some t->j=k:=by
  have one:∀{j k:Nat} {a b:Oper} {t:Nat},ol[j]?=some a->ol[k]?=some b->a.dst=some t->b.dst=some t->¬j<k:=by
   intro j k a b t hj hk ha hb hlt;have:=(hP hj).2.2 k b hlt hk;unfold Oj at this;rw[hb] at this;simp[ha] at this
  intro j k a b t hj hk ha hb;exact Nat.le_antisymm (cv (one hk hj hb ha)) (cv (one hj hk ha hb))
 have hT:∀{i w:Nat} {o:Oper} {t k:Nat},ol[i]?=some o->i≠w->bP (ms.getD w 0) i=false->bP (ms.getD i 0) w=false->w<ol.length->κ w=some k->(o.dst=some t\/t∈iI ol o)->aY k (aP (X w).f t)=aP (X w).f t/\aY k (aP (X w).f0 t)=aP (X w).f0 t:=by
  intro i w o t k ho hne h1 h2 hw hk hd;obtain⟨ow,how⟩:=hat hw
  have hnb:¬B w:=λhb=>by rw[(hκ0 w).1 hb] at hk;cases hk
  refine(hκ how hnb).t k hk t ?_;unfold KA;refine List.mem_flatMap.2 ⟨(i,o),List.mem_filter.2 ⟨mem_iff_getElem?.2 ⟨i,by rw[jL,ho];simp⟩,?_⟩,?_⟩
  ·simp only[h1,h2,Bool.not_false,dd,fd];cases hb:beq i w
   ·rfl
   ·exact un (co hb) hne
  ·cases hd':o.dst with
   | none=>rw[hd'] at hd;exact hd.resolve_left nofun
   | some d=>
    rw[hd'] at hd
    rcases hd with hd | hd
    ·cases hd;exact ck
    ·exact bs _ hd
 have hu0:∀q:(Nat->Prop)×Nat,∃base:Nat->Nat,(∀j o t,q.2<=j->ol[j]?=some o->o.dst=some t->q.1 j->base t=j+1)/\∀t,(∀j o,q.2<=j->ol[j]?=some o->o.dst=some t->¬q.1 j)->base t=q.2:=by
  rintro⟨L,β⟩
  have:∀t,∃b,(∀j o,β<=j->ol[j]?=some o->o.dst=some t->L j->b=j+1)/\((∀j o,β<=j->ol[j]?=some o->o.dst=some t->¬L j)->b=β):=by
   intro t;by_cases h:∃j o,β<=j/\ol[j]?=some o/\o.dst=some t/\L j
   ·obtain⟨j,o,h0,h1,h2,h3⟩:=h;exact⟨j+1,λj' o' _ g1 g2 _=>by rw[hu h1 g1 h2 g2],λg=>un h3 (g j o h0 h1 h2)⟩
   ·exact⟨β,λj o g0 g1 g2 g3=>un ⟨j,o,g0,g1,g2,g3⟩ h,λ_=>rfl⟩
  exact⟨λt=>Classical.choose (this t),λj o t h0 h1 h2 h3=>(Classical.choose_spec (this t)).1 j o h0 h1 h2 h3,λt h=>(Classical.choose_spec (this t)).2 h⟩
 obtain⟨base,hbase0⟩:=Classical.axiomOfChoice hu0;have hbase:=λL β=>hbase0 (L,β);simp only at hbase;obtain⟨g,hg⟩:∃g:(Nat->Prop)->Nat->Nat->Nat->SV,∀L β m t,g L β m t=dM κ (base (L,β) t) m (aP (X (base (L,β) t)).f t):=⟨_,λ_ _ _ _=>rfl⟩
 have hfr:∀L β m t,aP (pc (g L β m) (dM κ β m) (X β).f ol) t=g L β m t:=by
  intro L β m t
  rcases EF (g:=g L β m) (φ:=dM κ β m) (f:=(X β).f) (by rcases Fj (κ:=κ) (b:=β) (m:=m) (v:=.any) with h | h<;>exact h) (t:=t) (l:=ol) with⟨h,_⟩ | ⟨h,hn⟩
  ·exact h
  ·rw[h,hg,(hbase L β).2 t λj o _ hj hd=>un hd (hn o (c6 hj))]
 have hgd:∀(i:Nat) (o:Oper),ol[i]?=some o->∀(j:Nat) (b:Bool),o.guard=some (j,b)->j<i:=λi o ho=>(hP ho).2.1;refine aE.post (aE.any hol hbk (.inr hgd) (λL x=>x.n=n/\lJ ol L/\∃β m,β<=m/\m<=ol.length/\(∀j,j<β->L j)/\(X β).f0=(X β).f/\(∀c,β<=c->B c->¬L c/\m<=c)/\(∀j o,ol[j]?=some o->dW o.op=true->(L j↔j<m))/\Fg x ⟨pc (g L β m) (dM κ β m) (X β).f ol,n,(X m).S,ds⟩) ?_ (λL x h=>h.1) ?_ ?_)
 ·refine⟨rfl,λ_ _ _ h=>h.elim,0,0,ap _,ct _,λj h=>un h (bi _),by rw[hX0],λc _ _=>⟨λh=>h,ct _⟩,λj o _ _=>⟨λh=>h.elim,λh=>un h (bi _)⟩,?_⟩;rw[show(X 0).S=S by rw[hX0]];refine Fg.tmps λt=>.inl ?_;rw[hfr,hg,(hbase _ 0).2 t λj o _ _ _ h=>h,hX0];rfl
 ·rintro L x i o ⟨hxn,hc,β,m,hβm,hml,hβ,hβ0,hβB,hm,hx⟩ hr;have ho:=hr.jw;have hil:=br ho;obtain⟨p1,p2,p3⟩:=hP ho;have hβi:β<=i:=cv λh=>hr.new (hβ i h)
  have hc2:lJ ol (λj=>L j\/j=i):=by
   intro j o' ho' hj e he hd
   rcases hj with hj | rfl
   ·exact .inl (hc j o' ho' hj e he hd)
   ·rw[ho'] at ho;cases ho;exact .inl (hr.dep e he hd)
  have hA:∀k,bP (ms.getD i 0) k=true->L k:=λk hk=>HY hback.1 hc i o ho hr.dep (by rw[hms];exact hk);have hA2:∀j o' k,ol[j]?=some o'->L j->bP (ms.getD j 0) k=true->L k:=λj o' k hj hl hk=>HY hback.1 hc j o' hj (hc j o' hj hl) (by rw[hms];exact hk);have hbi:∀c,β<=c->c<i->¬B c:=λc h1 h2 hb=>(hβB c h1 hb).1 (hA c ((hBo hb hil).2 h2))
  have hbm:∀c,β<=c->c<m->¬B c:=λc h1 h2 hb=>by have:=(hβB c h1 hb).2;omega
  have hbd:∀j o',β<=j->ol[j]?=some o'->L j->∀c,β<=c->c<j+1->¬B c:=by
   intro j o' h1 hj hl c h2 h3 hb;have hn:=(hβB c h2 hb).1;by_cases e:c=j
   ·subst e;exact hn hl
   ·exact hn (hA2 j o' c hj hl ((hBo hb (br hj)).2 i5))
  have hKm:∀w,w<ol.length->κ w≠none->(L w↔w<m):=by
   intro w hw hk;obtain⟨ow,how⟩:=hat hw;have hnb:¬B w:=λhb=>hk ((hκ0 w).1 hb);refine hm w ow how ?_;cases hh:dW ow.op
   ·exact un ((hκ how hnb).wr hh) hk
   ·rfl
  by_cases hBi:B i
  ·
   obtain⟨o',ho',hbar⟩:=(hB0 i).1 hBi;rw[ho] at ho';cases ho'
   have hLi:∀j,j<ol.length->(L j↔j<i):=by
    intro j hj;refine⟨λhl=>?_,λh=>hA j ((hBo hBi hj).1 h)⟩
    rcases cc j i with h | rfl | h
    ·exact h
    ·exact un hl hr.new
    ·obtain⟨oj,hoj⟩:=hat hj;exact un (hA2 j oj i hoj hl ((hBo hBi hj).2 h)) hr.new
   have hmi:m<=i:=(hβB i hβi hBi).2
   have hkr:∀b v,dM κ b m v=dM κ b i v:=λb v=>(oy hmi λw _ h2 h3=>by
    cases hk:κ w with
    | none=>rfl
    | some k=>
     have:=(hKm w i5 (by rw[hk];nofun)).1 ((hLi w i5).2 h3)
     omega).symm
   have hSi:(X i).S=(X m).S:=hS m i hmi (ax hil) (λc h1 h2=>hbi c i5 h2) λj o' h1 h2 hj=>KC λe=>by have:=(hm j o' hj e).1 ((hLi j i5).2 h2);omega
   refine aT.fg (hx.trans (Fg.tmps (f':=(X i).f) λt=>.inl ?_)) ?_
   ·rw[hfr,hg,hkr];by_cases h:∃j o,β<=j/\ol[j]?=some o/\o.dst=some t/\L j
    ·obtain⟨j,o',h0,h1,h2,h3⟩:=h;have hji:=(hLi j (br h1)).1 h3;rw[(hbase L β).1 j o' t h0 h1 h2 h3]
     exact hF (j+1) i t hji (ax hil) (λc g1 g2=>hbi c i5 g2) λk b g1 _ hk e=>by have:=hu h1 hk h2 e;omega
    ·rw[(hbase L β).2 t λj o' h0 h1 h2 h3=>h ⟨j,o',h0,h1,h2,h3⟩];exact hF β i t hβi (ax hil) hbi λk b g1 g2 hk e=>h ⟨k,b,g1,hk,e,(hLi k (br hk)).2 g2⟩
   ·rw[<-hSi];refine hbar.op ds _ ⟨rfl,hc2,i+1,i+1,ap _,hil,λj hj=>?_,hbar.z,λc h1 hb=>⟨λh=>?_,h1⟩,λj o' hj _=>⟨λh=>?_,λh=>?_⟩,Fg.tmps λt=>.inl ?_⟩
    ·by_cases e:j=i
     ·exact .inr e
     ·exact .inl ((hLi j i5).2 i5)
    ·rcases h with h | rfl
     ·have:=(hLi c (hBl hb)).1 h;omega
     ·omega
    ·rcases h with h | rfl
     ·have:=(hLi j (br hj)).1 h;omega
     ·omega
    ·by_cases e:j=i
     ·exact .inr e
     ·exact .inl ((hLi j (br hj)).2 i5)
    ·rw[hfr,hg,(hbase _ (i+1)).2 t λj o' h0 h1 h2 h3=>?_,jI (ap _)]
     rcases h3 with h3 | rfl
     ·have:=(hLi j (br h1)).1 h3;omega
     ·omega
  have hκi:=hκ ho hBi
  have hun:∀{t:Nat},(o.dst=some t\/t∈iI ol o)->∀w,β<=w->w<ol.length->w≠i->(i<w/\w<m\/m<=w/\w<i)->∀k,κ w=some k->aY k (aP (X w).f t)=aP (X w).f t/\aY k (aP (X β).f t)=aP (X β).f t:=by
   intro t hd w hbw hw hne hcase k hk;obtain⟨ow,how⟩:=hat hw;have hLw:=hKm w hw (by rw[hk];nofun)
   have b1:bP (ms.getD w 0) i=false:=by
    cases hb:bP (ms.getD w 0) i
    ·rfl
    ·rcases hcase with h | h
     ·exact un (hA2 w ow i how (hLw.2 h.2) hb) hr.new
     ·have:=JX hback.1 hms w ow how hb;omega
   have b2:bP (ms.getD i 0) w=false:=by
    cases hb:bP (ms.getD i 0) w
    ·rfl
    ·rcases hcase with h | h
     ·have:=JX hback.1 hms i o ho hb;omega
     ·have:=hLw.1 (hA w hb);omega
   have:=hT ho hne.symm b1 b2 hw hk hd;rw[hZ β w hbw (ax hw) λc h1 h2=>by rcases hcase with h | h;exact hbm c h1 i5;exact hbi c h1 i5,hβ0] at this;exact this
  have hstay:∀{t b:Nat},β<=b->(o.dst=some t\/t∈iI ol o)->b<=i+1->((b=β/\κ i=none)\/∀w,i<w->w<m->w<=ol.length->aP (X w).f t=dM κ b w (aP (X b).f t))->(∀w,w<=i->b<=w->aP (X w).f t=dM κ b w (aP (X b).f t))->(m<=i\/κ i=none)->dM κ b m (aP (X b).f t)=dM κ b i (aP (X b).f t):=by
   intro t b hβb hd hbi hw1 hw2 hκi
   rcases fs m i with hmi | hmi
   ·refine(oy hmi λw h1 h2 h3=>?_).symm
    cases hk:κ w with
    | none=>rfl
    | some k=>rw[<-hw2 w i5 h1];exact(hun hd w i5 i5 i5 (.inr ⟨h2,h3⟩) k hk).1
   ·refine oy hmi λw h1 h2 h3=>?_;by_cases hwi:w=i
    ·subst hwi
     rcases hκi with h | h
     ·omega
     ·rw[h];rfl
    ·cases hk:κ w with
     | none=>rfl
     | some k=>
      have hu:=hun hd w i5 i5 hwi (.inl ⟨by omega,h3⟩) k hk
      rcases hw1 with⟨rfl,_⟩ | hw1
      ·rcases Fj (κ:=κ) (b:=b) (m:=w) (v:=aP (X b).f t) with h | h
       ·rw[h];exact hu.2
       ·rw[h];exact BF _
      ·rw[<-hw1 w i5 h3 i5];exact hu.1
  have hκw:dW o.op=false->κ i=none:=hκi.wr
  have hlook0:(m<=i\/κ i=none)->∀t∈iI ol o,g L β m t=aP (X i).f t:=by
   intro hκi t hlt
   have hbw:∀w,(w<=i\/i<w/\w<m)->∀b,β<=b->∀c,b<=c->c<w->¬B c:=λw hw b hb c h1 h2=>by rcases hw with hw | hw;exact hbi c i5 i5;exact hbm c i5 i5
   rw[hg];by_cases hno:∀j o,β<=j->ol[j]?=some o->o.dst≠some t
   ·rw[(hbase L β).2 t λj o' h0 hj hd=>un hd (hno j o' h0 hj)];have hh:=λw (h:w<=i\/i<w/\w<m) (hbw':β<=w) (hw:w<=ol.length)=>hF β w t hbw' hw (hbw w h β (ap _)) λj o' h1 _ hj=>hno j o' h1 hj;rw[hh i (.inl (ap _)) hβi (ax hil)];exact hstay (ap _) (.inr hlt) i5 (.inr λw h1 h2 h=>hh w (.inr ⟨h1,h2⟩) i5 h) (λw h h2=>hh w (.inl h) h2 i5) hκi
   ·simp only[ne_eq,Classical.not_forall,Decidable.not_not] at hno;obtain⟨j,o',hβj,hj,hd⟩:=hno
    rcases cc j i with hji | rfl | hji
    ·have h1:=(hP hj).2.2 i o hji ho;unfold Oj at h1;rw[hd,am] at h1
     have hbit:bP (ms.getD i 0) j=true:=by
      have h2:=h1.2;rw[el] at h2
      rcases h2 with h2 | h2
      ·exact h2
      ·simp[hlt] at h2
     rw[(hbase L β).1 j o' t hβj hj hd (hA j hbit)]
     have hh:=λw (h:w<=i\/i<w/\w<m) (h1:j+1<=w) (hw:w<=ol.length)=>hF (j+1) w t h1 hw (hbw w h (j+1) i5) λk b hik _ hk e=>by have:=hu hj hk hd e;omega
     rw[hh i (.inl (ap _)) hji (ax hil)];exact hstay i5 (.inr hlt) i5 (.inr λw h h3 h2=>hh w (.inr ⟨h,h3⟩) i5 h2) (λw h h2=>hh w (.inl h) h2 i5) hκi
    ·rw[hj] at ho;cases ho;exact un hlt (p1 t hd)
    ·have h1:=p3 j o' hji hj;unfold Oj at h1;rw[hd,am,am,el] at h1;have h2:=h1.1.2.resolve_left (by simp[hlt]);rw[(hbase L β).2 t λk b _ hk e hl=>hr.new (by have:=hu hj hk hd e;subst this;exact hA2 j o' i hj hl h2)]
     have hh:=λw (hw:w<=i) (hbw':β<=w)=>hF β w t hbw' i5 (hbw w (.inl hw) β (ap _)) λk b _ hki hk e=>by have:=hu hj hk hd e;omega
     rw[hh i (ap _) hβi]
     rcases hκi with hκi | hκi
     ·exact hstay (ap _) (.inr hlt) i5 (.inr λw h1 h2 _=>by omega) (λw h h2=>hh w h h2) (.inl hκi)
     ·exact hstay (ap _) (.inr hlt) i5 (.inl ⟨rfl,hκi⟩) (λw h h2=>hh w h h2) (.inr hκi)
  have hSS:(∀j o',ol[j]?=some o'->dW o'.op=true->(L j↔j<i))->(X m).S=(X i).S:=by
   intro hh
   rcases fs i m with him | him
   ·exact hS i m him hml (λc h1 h2=>hbm c i5 h2) λj o' h1 h2 hj=>KC λe=>by have a:=hh j o' hj e;have b:=hm j o' hj e;have:=a.1 (b.2 h2);omega
   ·exact(hS m i him (ax hil) (λc h1 h2=>hbi c i5 h2) λj o' h1 h2 hj=>KC λe=>by have a:=hh j o' hj e;have b:=hm j o' hj e;have:=b.1 (a.2 h2);omega).symm
  have hlate:(X i).b=true->(∀j o',i<j->ol[j]?=some o'->dW o'.op=true->(∀c,i<c->c<j->¬B c)->bP (ms.getD j 0) i=true)->(X m).S=(X i).S:=by
   intro hb hh;refine hSS λj o' hj hd=>⟨λhl=>?_,λhlt=>?_⟩
   ·rcases cc j i with h1 | rfl | h1
    ·exact h1
    ·exact un hl hr.new
    ·refine un (hA2 j o' i hj hl (hh j o' h1 hj hd λc g1 g2=>hbd j o' i5 hj hl c i5 i5)) hr.new
   ·by_cases hjb:j<β
    ·exact hβ j hjb
    ·exact un hd (by rw[hB β i hβi (ax hil) hbi hb j o' i5 hlt hj];simp)
  refine aT.fg hx ?_
  have hbne:∀t,o.dst≠some t->base (λj=>L j\/j=i,β) t=base (L,β) t:=by
   intro t ht;by_cases h:∃j o,β<=j/\ol[j]?=some o/\o.dst=some t/\L j
   ·obtain⟨j,o',h0,h1,h2,h3⟩:=h;rw[(hbase _ β).1 j o' t h0 h1 h2 (.inl h3),(hbase L β).1 j o' t h0 h1 h2 h3]
   ·rw[(hbase L β).2 t λj o' h0 h1 h2 h3=>h ⟨j,o',h0,h1,h2,h3⟩,(hbase _ β).2 t λj o' h0 h1 h2 h3=>?_]
    rcases h3 with h3 | rfl
    ·exact h ⟨j,o',h0,h1,h2,h3⟩
    ·rw[ho] at h1;cases h1;exact ht h2
  have hβB2:∀c,β<=c->B c->¬(L c\/c=i)/\m<=c:=λc h1 hb=>⟨λh=>h.elim (hβB c h1 hb).1 λe=>hBi (e▸hb),(hβB c h1 hb).2⟩
  have lay:∀{d:Nat} {v:SV},o.dst=some d->dW o.op=false->aP (X (i+1)).f d=v->(λx=>(λx=>x.n=n/\lJ ol (λj=>L j\/j=i)/\∃β m,β<=m/\m<=ol.length/\(∀j,j<β->(L j\/j=i))/\(X β).f0=(X β).f/\(∀c,β<=c->B c->¬(L c\/c=i)/\m<=c)/\(∀j o,ol[j]?=some o->dW o.op=true->((L j\/j=i)↔j<m))/\Fg x ⟨pc (g (λj=>L j\/j=i) β m) (dM κ β m) (X β).f ol,n,(X m).S,ds⟩) x) ⟨(d,v)::pc (g L β m) (dM κ β m) (X β).f ol,n,(X m).S,ds⟩:=by
   intro d v hd hwr hv;refine⟨rfl,hc2,β,m,hβm,hml,λj h=>.inl (hβ j h),hβ0,hβB2,λj o' hj hdj=>⟨λh=>?_,λh=>.inl ((hm j o' hj hdj).2 h)⟩,Fg.tmps λt=>.inl ?_⟩
   ·rcases h with h | rfl
    ·exact(hm j o' hj hdj).1 h
    ·rw[ho] at hj;cases hj;rw[hwr] at hdj;cases hdj
   ·rw[hfr,hg]
    show _=if d=t then v else aP (pc (g L β m) (dM κ β m) (X β).f ol) t
    by_cases e:d=t
    ·subst e;rw[ut rfl,(hbase _ β).1 i o d hβi ho hd (.inr rfl),hv]
     rcases fs m (i+1) with h | h
     ·exact jI h
     ·refine(oy h λw h1 h2 h3=>?_).trans (jI (ap _))
      cases hk:κ w with
      | none=>rfl
      | some k=>
       rw[<-hv,<-hF (i+1) w d h1 i5 (λc g1 g2=>hbm c i5 i5) λj o' g1 _ g3 e=>by have:=hu ho g3 hd e;omega];exact(hun (.inl hd) w i5 i5 i5 (.inl ⟨by omega,h3⟩) k hk).1
    ·rw[v6 e,hfr,hg,hbne t λh=>e (by rw[hd] at h;exact Option.some.inj h)]
  have hstp:=hX i o ho;have top:∀{d:Nat} {v:SV} {f:Fm},aP ((d,v)::f) d=v:=λ{d v f}=>ut rfl;have hXi:∃x,X i=x:=⟨_,rfl⟩;have hXj:∃x,X (i+1)=x:=⟨_,rfl⟩;obtain⟨xi,hxi⟩:=hXi;obtain⟨xj,hxj⟩:=hXj
  have hst:eG (ol.take (i+1)) n [o]=true:=by
   have:=hκi.st;unfold eG at this ⊢;simp only[ge,List.all_nil,dd] at this ⊢
   cases hg:o.guard with
   | none=>rw[hg] at this;exact this
   | some q=>obtain⟨j,w⟩:=q;rw[hg] at this;simp only at this ⊢;rw[ey,ut (by have:=p2 j w hg;omega)];exact this
  have hlook:(m<=i\/κ i=none)->(∀gd:Option (Nat×Bool),o.guard=gd->cO (ol.take (i+1)) (pc (g L β m) (dM κ β m) (X β).f ol) gd=cO ol (X i).f gd)/\∀x∈o.op.operands.toList,fD (pc (g L β m) (dM κ β m) (X β).f ol) x=fD (X i).f x:=by
   intro hκi
   have h1:∀t∈iI ol o,aP (pc (g L β m) (dM κ β m) (X β).f ol) t=aP (X i).f t:=λt ht=>by rw[hfr];exact hlook0 hκi t ht
   refine⟨λgd hgd=>?_,LM h1⟩;rw[<-hgd,<-G9 h1,hgd]
   cases gd with
   | none=>rfl
   | some q=>obtain⟨j,w⟩:=q;simp only[cO];rw[ey,ut (by have:=p2 j w hgd;omega)]
  rw[hxi,hxj] at hstp;by_cases hww:dW o.op=true
  ·have hb:∀j o',ol[j]?=some o'->dW o'.op=true->(L j↔j<i):=by
    intro j o' hj hdj
    rcases cc j i with h1 | rfl | h1
    ·exact⟨λ_=>h1,λ_=>hA j (hord hj ho h1 (by rw[hdj];rfl) (by rw[hww];rfl))⟩
    ·exact⟨λh=>un h hr.new,λh=>un h (Nat.lt_irrefl _)⟩
    ·exact⟨λhl=>un (hA2 j o' i hj hl (hord ho hj h1 (by rw[hww];rfl) (by rw[hdj];rfl))) hr.new,λh=>un h i5⟩
   have hmi:m<=i:=cv λh=>hr.new ((hm i o ho hww).2 h);have hl:=hlook (.inl hmi);obtain⟨v,S',k1,k3,k4⟩:=hκi.op hww
   refine aT.run (l':=[]) (f':=sg (pc (g L β m) (dM κ β m) (X β).f ol) (κ i) o.dst v) (S':=S') hst (by
    rcases k1 with⟨k1,k2⟩ | ⟨k1,⟨d,k2⟩,rfl,rfl,k5⟩
    ·rw[oM,hl.1 _ rfl,k1,sw (by rw[hww,d7]) hl.2,hSS hb,k2];simp only[oM]
    ·rw[oM,hl.1 _ rfl,k1,k5,k2,hSS hb];simp only[oM,sg,ki]) (.nil ⟨rfl,hc2,β,i+1,by omega,hil,λj h=>.inl (hβ j h),hβ0,λc h1 hb2=>⟨(hβB2 c h1 hb2).1,?_⟩,λj o' hj hdj=>⟨λh=>?_,λh=>?_⟩,?_⟩)
   ·rcases cc c i with h | rfl | h
    ·exact un hb2 (hbi c h1 h)
    ·exact un hb2 hBi
    ·exact h
   ·rcases h with h | rfl
    ·have:=(hb j o' hj hdj).1 h;omega
    ·omega
   ·by_cases e:j=i
    ·exact .inr e
    ·exact .inl ((hb j o' hj hdj).2 i5)
   ·rw[k4];refine Fg.tmps λt=>.inl ?_
    have hr2:aP (sg (pc (g L β m) (dM κ β m) (X β).f ol) (κ i) o.dst v) t=if o.dst=some t then v else jH (κ i) (g L β m t):=by
     have hk:aP (ki (pc (g L β m) (dM κ β m) (X β).f ol) (κ i)) t=jH (κ i) (g L β m t):=by
      rw[<-hfr L β m t]
      cases κ i with
      | none=>rfl
      | some k=>exact ib _ _ _
     cases o.dst with
     | none=>rw[v6 nofun];exact hk
     | some d=>
      show(if d=t then v else _)=_;simp only[rc,hk]
    rw[hr2,hfr,hg];by_cases hd:o.dst=some t
    ·rw[ut hd,(hbase _ β).1 i o t hβi ho hd (.inr rfl),jI (ap _),k3 t hd]
    ·rw[v6 hd,hbne t hd,hg]
     have hmi2:dM κ (base (L,β) t) m (aP (X (base (L,β) t)).f t)=dM κ (base (L,β) t) i (aP (X (base (L,β) t)).f t):=by
      refine(oy hmi λw h1 h2 h3=>?_).symm
      cases hk:κ w with
      | none=>rfl
      | some k=>
       exfalso;have h4:=hKm w i5 (by rw[hk];nofun);obtain⟨ow,how⟩:=hat (show w<ol.length by omega)
       have hnb:¬B w:=λhb=>by rw[(hκ0 w).1 hb] at hk;cases hk
       have hwo:dW ow.op=true:=by
        cases hh:dW ow.op
        ·have:=(hκ how hnb).wr hh;rw[hk] at this;cases this
        ·rfl
       have:=h4.1 ((hb w ow how hwo).2 h3);omega
     rw[hmi2];by_cases hbl:base (L,β) t<=i
     ·exact sn hbl
     ·rw[jI i5,jI i5]
      cases hk:κ i with
      | none=>rfl
      | some k=>
       refine Eq.symm ?_;by_cases h:∃j o,β<=j/\ol[j]?=some o/\o.dst=some t/\L j
       ·obtain⟨j,o',h0,h1,h2,h3⟩:=h;rw[(hbase L β).1 j o' t h0 h1 h2 h3] at hbl ⊢
        have hij:j≠i:=λe=>by subst e;rw[ho] at h1;cases h1;exact hd h2
        have hnb:=hbd j o' h0 h1 h3;have:=(hκ h1 (hnb j h0 (be _))).v t h2 (i,k) (hKL (i+1) j _ i5 (ax (br h1)) (λc g1 g2=>hnb c i5 i5) (hκi.k2 k hk))
        rcases this with this | this
        ·exact un (hA2 j o' i h1 h3 this) hr.new
        ·exact this
       ·rw[(hbase L β).2 t λj o' h0 h1 h2 h3=>h ⟨j,o',h0,h1,h2,h3⟩] at hbl;omega
  have hκn:=hκw (by simpa using hww);have hl:=hlook (.inr hκn)
  cases hstp with
  | s _ hd hw hwr=>
   refine aT.run (l':=[]) hst ?_ (.nil (lay (v:=.a lH) hd hwr (by rw[hxj];exact top)));rw[oM,hl.1 _ rfl,hxi,hw];simp only[hd,oM]
  | r _ hd hw hrd hop=>
   rename_i v _ _;refine aT.run (l':=[]) hst ?_ (.nil (lay (v:=v) hd (vL hrd) (by rw[hxj];exact top)));rw[oM,hl.1 _ rfl,hxi,hw,sw (by rw[hrd];rfl) hl.2,hxi,hop];simp only[hd,sg,ki,oM]
  | h _ hd hw hrd hop=>
   rename_i v _ _
   have e:=hlate (by rw[hxi]) λj o' hij hj hdj hnb=>by
    have h1:=(hκ hj (hBn hj hdj)).w hdj;exact all_eq_true.1 h1 i (hH (i+1) j i hij (ax (br hj)) (λc g1 g2=>hnb c i5 g2) (by rw[hxj];exact ck))
   rw[hxi] at e;refine aT.run (l':=[]) hst ?_ (.nil (lay (v:=v) hd (vL hrd) (by rw[hxj];exact top)));rw[oM,hl.1 _ rfl,hxi,hw,sw (by rw[hrd];rfl) hl.2,hxi,e,hop];simp only[hd,sg,ki,oM]
  | k _ hop hd hw hdy he hcs hq hwk _ hfl=>
   have hkw:dW o.op=false:=by rw[hop];exact M8 hdy
   have e:=hlate (by rw[hxi]) λj o' hij hj hdj _=>hord ho hj hij (by rw[hop,hdy,d7]) (by rw[hdj];rfl);rw[hxi] at e;refine aT.k hst hop hd (by rw[hl.1 _ rfl,hxi];exact hw) hdy (by rw[EE (by rw[<-hop];exact hl.2),hxi];exact hcs) hq (by rw[e];exact hwk) hfl (.nil (lay hd hkw (by rw[hxj];exact top)))
  | sk _ _ _ hwr=>exact un hwr hww
  | e _ _ hwr=>exact un hwr hww
  | a _ _ hwr=>exact un hwr hww
  | Pp h1 h2 h3=>exact un ((hB0 i).2 ⟨o,ho,by rw[hxi,hxj];exact⟨h1,h2,h3,rfl⟩⟩) hBi
 ·rintro L x ⟨hxn,hc,β,m,hβm,hml,hβ,hβ0,hβB,hm,hx⟩ hall;have hnb:∀c,β<=c->¬B c:=λc h1 hb=>(hβB c h1 hb).1 (hall c (hBl hb))
  have hSe:(X m).S=z.S:=by
   rw[<-hXN];exact(hS m ol.length hml (ap _) (λc h1 _=>hnb c i5) λj o h1 h2 hj=>KC λe=>by have:=(hm j o hj e).1 (hall j h2);omega).symm
  rw[hSe] at hx;refine⟨⟨z.f,n,z.S,ds⟩,hx.trans (Fg.tmps λt=>.inl ?_),hz⟩
  have hκm:∀b v,dM κ b m v=dM κ b ol.length v:=λb v=>(oy hml λw _ h2 h3=>by
   cases hk:κ w with
   | none=>rfl
   | some k=>
    exfalso;obtain⟨ow,how⟩:=hat h3
    have hnw:¬B w:=λhb=>by rw[(hκ0 w).1 hb] at hk;cases hk
    have hww:dW ow.op=true:=by
     cases hh:dW ow.op
     ·have:=(hκ how hnw).wr hh;rw[hk] at this;cases this
     ·rfl
    have:=(hm w ow how hww).1 (hall w h3)
    omega).symm
  rw[hfr,hg,hκm,<-hXN];by_cases hno:∃j o,β<=j/\ol[j]?=some o/\o.dst=some t
  ·obtain⟨k,o',h0,hk,hd'⟩:=hno;rw[(hbase L β).1 k o' t h0 hk hd' (hall k (br hk))]
   exact hF (k+1) ol.length t (br hk) (ap _) (λc h1 _=>hnb c i5) λj b h1 _ hj e=>by have:=hu hj hk e hd';omega
  ·rw[(hbase L β).2 t λj o' h0 hj hd=>un ⟨j,o',h0,hj,hd⟩ hno];exact hF β ol.length t i5 (ap _) (λc h1 _=>hnb c h1) λj o' h0 _ hj hd=>hno ⟨j,o',h0,hj,hd⟩
def SD(P:Program)(ro:Option Nat)(all:List Oper)(ms:List Nat)(n:Nat)(b:Bool)(hp:List Nat)(l:List (Nat×Oper))(f:Fm)(S:List SO)(K:Fm->List SO->Prop):Prop:=∀f0,qR P ro all ms n f0 [] b hp l f S K
def Ry{op:Op}(h:tv op=true):dW op=true:=by unfold dW;rw[h];rfl
section
variable {all:List Oper} {ms:List Nat} {n:Nat} {b:Bool} {hp:List Nat} {l:List (Nat×Oper)} {f:Fm} {S:List SO} {K:Fm->List SO->Prop} {i:Nat} {o:Oper} {d:Nat}
def SD.nil(h:K f S):SD P ro all ms n b hp [] f S K:=λ_=>.nil h
theorem SD.s(hst:eG all n [o]=true)(hdst:o.dst=some d)(hw:cO all f o.guard=some false)(hwr:dW o.op=false)(q:SD P ro all ms n b hp l ((d,.a lH)::f) S K):SD P ro all ms n b hp ((i,o)::l) f S K:=λf0=>.s hst hdst hw hwr (q f0)
theorem SD.r{v:SV}{S':List SO}{kill:Option Nat}(hst:eG all n [o]=true)(hdst:o.dst=some d)(hw:cO all f o.guard=some true)(hrr:(kh o.op&&(b||!HS o.op))=true)(hop:dH P f S o.op=some (v,S',kill))
 (hk:SD P ro all ms n b (_root_.cond (HS o.op) (i::hp) hp) l ((d,v)::f) S K):SD P ro all ms n b hp ((i,o)::l) f S K:=λf0=>.r hst hdst hw hrr hop (hk f0) trivial
def SD.ri{tt:TypeId}{x:Operand}{cs0:List SV}{v:SV}(hst:eG all n [o]=true)(hdst:o.dst=some d)(hw:cO all f o.guard=some true)(hop:o.op=.load tt x)(hx:fD f x=some (.ip cs0))(hv:tE P tt cs0 0=some v)
 (q:SD P ro all ms n b hp l ((d,v)::f) S K):SD P ro all ms n b hp ((i,o)::l) f S K:=λf0=>.ri hst hdst hw hop hx hv trivial (q f0)
theorem SD.k{cl:Call}{g:FuncId}{vs ws:List SV}{r:SV}(hst:eG all n [o]=true)(hop:o.op=.call cl)(hdst:o.dst=some d)(hw:cO all f o.guard=some true)(hdy:fG (.call cl)=true)(he:tu (.call cl)=true)
 (hc:iE P f cl=some (g,vs)) (hq:PC P g ws (·=r)) (hwk:bg S vs ws) (hr:vD r=true) (q:SD P ro all ms n true hp l ((d,r)::f) S K):SD P ro all ms n true hp ((i,o)::l) f S K:=λf0=>.k hst hop hdst hw hdy he hc hq hwk hr (q f0)
theorem SD.e{v:SV}{S':List SO}(hst:eG all n [o]=true)(hdst:o.dst=none)(hw:cO all f o.guard=some true)(he:tu o.op=true)(hwr:tv o.op=true)(hms:hp.all (λj=>bP (ms.getD i 0) j)=true)(hop:dH P f S o.op=some (v,S',none))
 (q:SD P ro all ms n false hp l f S' K):SD P ro all ms n b hp ((i,o)::l) f S K:=λf0=>.e hst hw (Ry hwr) hms hop trivial (by rw[hdst];exact q f0)
def SD.ed{v:SV}{S':List SO}(hst:eG all n [o]=true)(hdst:o.dst=some d)(hw:cO all f o.guard=some true)(he:tu o.op=true)(hwr:tv o.op=true)(hms:hp.all (λj=>bP (ms.getD i 0) j)=true)(hop:dH P f S o.op=some (v,S',none))
 (q:SD P ro all ms n false hp l ((d,v)::f) S' K):SD P ro all ms n b hp ((i,o)::l) f S K:=λf0=>.e hst hw (Ry hwr) hms hop trivial (by rw[hdst];exact q f0)
end
def aE.S7{id:Nat}{ops:Array Oper}{st:eI}{Q:Ex->eI->Prop}{ol:List Oper}{ms:List Nat}(hol:ops.toList=ol)(hms:oE ol []=ms)(hok:((lf 0 ol&&P.follows .mixedOrders)&&(BU ol ms (cT 0 ol)&&KR ms (cT 0 ol)))=true)
 (h:SD P ro ol ms st.n true [] (cT 0 ol) st.f st.S λf' S'=>Q .normal ⟨f',st.n,S',st.ds⟩):aE P ro (.region id ops true) st Q:=.RP hol hms hok (h _)
end
end
end Go.Ev
namespace Go.Proofs
open Go.Ev
set_option maxRecDepth 100000
def dr:sG prog:=P9 (by kernel_rfl)
def G3:Mw prog 322 .indexByte:=Mw.indexByte λx c w=>by
 rw[run_callFunc_extern Tryz.func322 (by kernel_rfl) (by kernel_rfl) (by kernel_rfl) (e:=Extern.BytealgIndexByte.indexByte) (by kernel_rfl),Lib.run_indexByteString];rfl
def bq{a b:Prop}(x:a)(y:b):a/\b:=⟨x,y⟩
def cG{a b c:Prop}(x:a)(y:b)(z:c):a/\b/\c:=⟨x,y,z⟩
def gm{a b c d:Prop}(x:a)(y:b)(z:c)(w:d):a/\b/\c/\d:=⟨x,y,z,w⟩
def lM{a b c d e:Prop}(x:a)(y:b)(z:c)(w:d)(u:e):a/\b/\c/\d/\e:=⟨x,y,z,w,u⟩
def xX{a b c d e f:Prop}(x:a)(y:b)(z:c)(w:d)(u:e)(v:f):a/\b/\c/\d/\e/\f:=⟨x,y,z,w,u,v⟩
def EG{a b c d e f g:Prop}(a1:a)(b1:b)(c1:c)(d1:d)(e1:e)(f1:f)(g1:g):a/\b/\c/\d/\e/\f/\g:=⟨a1,b1,c1,d1,e1,f1,g1⟩
def TM{a b c d e f g h:Prop}(a1:a)(b1:b)(c1:c)(d1:d)(e1:e)(f1:f)(g1:g)(h1:h):a/\b/\c/\d/\e/\f/\g/\h:=⟨a1,b1,c1,d1,e1,f1,g1,h1⟩
def MW{a b c d e f g h i:Prop}(a1:a)(b1:b)(c1:c)(d1:d)(e1:e)(f1:f)(g1:g)(h1:h)(i1:i):a/\b/\c/\d/\e/\f/\g/\h/\i:=⟨a1,b1,c1,d1,e1,f1,g1,h1,i1⟩
def MV{a b c d e f g h i j:Prop}(a1:a)(b1:b)(c1:c)(d1:d)(e1:e)(f1:f)(g1:g)(h1:h)(i1:i)(j1:j):a/\b/\c/\d/\e/\f/\g/\h/\i/\j:=⟨a1,b1,c1,d1,e1,f1,g1,h1,i1,j1⟩
def Tk:ci 1 SO.gone=[.gone]:=rfl
def Tl:ci 2 SO.gone=[.gone,.gone]:=rfl
def Tm:ci 3 SO.gone=[.gone,.gone,.gone]:=rfl
def Tn:ci 4 SO.gone=[.gone,.gone,.gone,.gone]:=rfl
def QE:type_of% Tk/\type_of% Tl/\type_of% Tm/\type_of% Tn:=⟨Tk,Tl,Tm,Tn⟩
def zl{p:Prop}(h:p:=by simp only[dJ,cj,an,aJ,m8,m7,↓reduceIte,Nat.reduceEqDiff,Nat.reduceAdd,Nat.reduceMul,Nat.reduceLeDiff,Nat.reduceLT,ar,az,bT];first | done | rfl):p:=h
def rX{p r:Prop}(k:r)(h:r->p:=by intro k;simp only[dJ,cj,an,aJ,m8,m7,↓reduceIte,Nat.reduceEqDiff,Nat.reduceAdd,Nat.reduceMul,Nat.reduceLeDiff,Nat.reduceLT,ar,az,bT,k];first | done | rfl):p:=h k
def zc{p:Prop}(h:p:=by simp only[dJ,cj,an,aJ,m8,m7,↓reduceIte,Nat.reduceEqDiff,Nat.reduceAdd,Nat.reduceMul,Nat.reduceLeDiff,Nat.reduceLT,ar,az,bT,iE];first | done | rfl):p:=h
def Hg{p r:Prop}(k:r)(h:r->p:=by intro k;simp only[dJ,cj,an,aJ,m8,m7,↓reduceIte,Nat.reduceEqDiff,Nat.reduceAdd,Nat.reduceMul,Nat.reduceLeDiff,Nat.reduceLT,ar,az,bT,iE,k];first | done | rfl):p:=h k
def QZ{p q r:Prop}(f:r)(h:r->p->q:=by intro f h;(repeat (first | refine SD.ri i4 rfl i4 rfl (rX @f) (rX @f) ?_ | refine SD.r i4 rfl i4 i4 (rX @f) ?_ | refine SD.s i4 rfl i4 i4 ?_ | fail));exact h)(k:p):q:=h f k
def qP{p q:Prop}(h:p->q:=by intro h;(repeat (first | refine SD.ri i4 rfl i4 rfl zl zl ?_ | refine SD.r i4 rfl i4 i4 zl ?_ | refine SD.s i4 rfl i4 i4 ?_ | fail));exact h)(k:p):q:=h k
def zj{p:Prop}(h:p:=by (repeat' apply And.intro)<;>first | exact .inl rfl | trivial):p:=h
def zW{p:Prop}(h:p:=by kernel_rfl):p:=h
def zV{p q:Prop}(h:p->q:=by intro h;(repeat refine aE.seq ?_);refine aE.r0 i4 zl ?_;(try change aE _ _ _ _ _);exact h)(k:p):q:=h k
def aw{p q r:Prop}(f:r)(h:r->p->q:=by intro f h;(repeat refine aE.seq ?_);refine aE.r0 i4 (rX @f) ?_;(try change aE _ _ _ _ _);exact h)(k:p):q:=h f k
def zC{p q:Prop}(h:p->q:=by intro h;(repeat refine aE.seq ?_);refine aE.Ro i4 zl ?_;exact h)(k:p):q:=h k
def fb{p q r:Prop}(f:r)(h:r->p->q:=by intro f h;(repeat refine aE.seq ?_);refine aE.Ro i4 (rX @f) ?_;exact h)(k:p):q:=h f k
def zR{p q:Prop}(h:p->q:=by intro h;refine aT.r0 i4 zl ?_;(try change aE _ _ _ _ _);exact h)(k:p):q:=h k
def cJ{p q r:Prop}(f:r)(h:r->p->q:=by intro f h;refine aT.r0 i4 (rX @f) ?_;(try change aE _ _ _ _ _);exact h)(k:p):q:=h f k
def zQ{p q:Prop}(h:p->q:=by intro h;refine aT.run i4 zl ?_;exact h)(k:p):q:=h k
def Mk{p q r:Prop}(f:r)(h:r->p->q:=by intro f h;refine aT.run i4 (rX @f) ?_;exact h)(k:p):q:=h f k
def zY{p q:Prop}(h:p->q:=by intro h;(repeat refine aE.seq ?_);refine aE.yes rfl ?_;(try (refine aE.skip ?_;try change aE _ _ _ _ _));exact h)(k:p):q:=h k
def zN{p q:Prop}(h:p->q:=by intro h;(repeat refine aE.seq ?_);refine aE.no rfl ?_;(try (refine aE.skip ?_;try change aE _ _ _ _ _));exact h)(k:p):q:=h k
def zE{p q:Prop}(h:p->q:=by intro h;refine aE.ret ?_;(try simp only[eQ,cX,bU,bK]);exact h)(k:p):q:=h k
def zB{p q:Prop}(h:p->q:=by intro h;(repeat refine aE.seq ?_);refine aE.block ?_;exact h)(k:p):q:=h k
section
variable {P:Program} {ro:Option Nat} {f:Fm} {n:Nat} {S:List SO} {ds:List jT} {Q:Ex->eI->Prop}
def zK{all:List Oper}{o:Oper}{l:List Oper}{K:eI->Prop}{d:Nat}{c:Call}{g:FuncId}{vs ws:List SV}{r:SV}(hq:PC P g ws (·=r))
 (hst:eG all n [o]=true:=by rfl) (hop:o.op=.call c:=by rfl) (hdst:o.dst=some d:=by rfl) (hw:cO all f o.guard=some true:=by rfl) (hdy:fG (.call c)=true:=by rfl)
 (hc:iE P f c=some (g,vs):=by exact zc) (hwk:bg S vs ws:=by first | exact bg.refl rfl | ((repeat' (first | exact bg.nil | apply bg.cons | exact Wk.refl rfl | exact Wk.nil _ | apply Wk.ag | apply Wk.cm | apply Wk.fn | refine Wk.ptr rfl ?_ (by first | decide | (simp only[cj];omega)) | refine Wk.buf rfl ?_ (by first | decide | (simp only[cj];omega)) | refine Wk.map rfl ?_ | exact bg.refl rfl));done)) (hfl:vD r=true\/bg [] vs ws:=by exact .inl rfl) (hk:aT P ro all l ⟨(d,r)::f,n,S,ds⟩ K):aT P ro all (o::l) ⟨f,n,S,ds⟩ K:=
 aT.k hst hop hdst hw hdy hc hq hwk hfl hk
def zO{fn:Func}{Qr:SV->Prop}{e:Ex}{vs:List SV}{r:SV}(rs:List ResultVar)(he:j8 e=true:=by rfl)(hr:fn.results.toList=rs:=by rfl)(h:oK P f S rs=some vs:=by exact zl)(hw:Wk S (ew vs) r:=by exact Wk.refl rfl)(hq:Qr r:=by (try simp only[ew,bH]);first | done | rfl):Bf P fn Qr e ⟨f,n,S,[]⟩:=Bf.of he hr h hw hq
def zH{f':Fm}{S':List SO}(hf:uE f f':=by (simp only[dJ,cj,fH,an,↓reduceIte,Nat.reduceEqDiff])<;>(repeat' apply And.intro)<;>first | rfl | trivial)(hs:Ck S S' 0:=by (simp only[dJ,cj,an,or_true,true_or])<;>(repeat' apply And.intro)<;>first | exact .inr rfl | exact .inl rfl | trivial):Fg ⟨f,n,S,ds⟩ ⟨f',n,S',ds⟩:=Fg.less hf hs
def bX{r:Prop}{f':Fm}{S':List SO}(k:r)(hf:r->uE f f':=by intro k;(simp only[dJ,cj,fH,an,↓reduceIte,Nat.reduceEqDiff,k])<;>(repeat' apply And.intro)<;>first | rfl | trivial)(hs:r->Ck S S' 0:=by intro k;(simp only[dJ,cj,an,or_true,true_or,k])<;>(repeat' apply And.intro)<;>first | exact .inr rfl | exact .inl rfl | trivial):Fg ⟨f,n,S,ds⟩ ⟨f',n,S',ds⟩:=Fg.less (hf k) (hs k)
def zG{p:Prop}(h:p:=by (simp only[xG,dJ,cj,true_or,or_true,↓reduceIte,Nat.reduceEqDiff])<;>(repeat' apply And.intro)<;>first | exact .inl rfl | trivial | exact .inr (Wk.buf rfl (bg.refl rfl) (by first | decide | (simp only[cj];omega))) | exact .inr (Wk.map rfl (bg.refl rfl)) | exact .inr (Wk.ptr rfl (bg.refl rfl) (by first | decide | (simp only[cj];omega)))):p:=h
def gu{r p:Prop}(k:r)(h:r->p:=by intro k;((simp only[xG,dJ,cj,true_or,or_true,↓reduceIte,Nat.reduceEqDiff,k])<;>(repeat' apply And.intro)<;>first | exact .inl rfl | trivial | exact .inr (Wk.buf rfl (bg.refl rfl) (by first | decide | (simp only[cj];omega))) | exact .inr (Wk.map rfl (bg.refl rfl)) | exact .inr (Wk.ptr rfl (bg.refl rfl) (by first | decide | (simp only[cj];omega))))):p:=h k
def zZ{c:Code}(f':Fm)(o:Nat){so:SO}(hS:S[o]?=some so)(hf:xG (lG o so) f f')(h:aE P ro c ⟨f',n,S.set o .gone,ds⟩ Q)(hg:so≠.gone:=by intro h;cases h):aE P ro c ⟨f,n,S,ds⟩ Q:=aE.fg (Fg.freeze o hS hg hf) h
def zA{c:Code}(f':Fm)(S':List SO)(hf:Fg ⟨f,n,S,ds⟩ ⟨f',n,S',ds⟩)(h:aE P ro c ⟨f',n,S',ds⟩ Q):aE P ro c ⟨f,n,S,ds⟩ Q:=aE.fg hf h
def oZ{all:List Oper}{l:List Oper}{K:eI->Prop}(f':Fm)(o:Nat){so:SO}(hS:S[o]?=some so)(hf:xG (lG o so) f f')(h:aT P ro all l ⟨f',n,S.set o .gone,ds⟩ K)(hg:so≠.gone:=by intro h;cases h):aT P ro all l ⟨f,n,S,ds⟩ K:=aT.fg (Fg.freeze o hS hg hf) h
def oA{all:List Oper}{l:List Oper}{K:eI->Prop}(f':Fm)(S':List SO)(hf:Fg ⟨f,n,S,ds⟩ ⟨f',n,S',ds⟩)(h:aT P ro all l ⟨f',n,S',ds⟩ K):aT P ro all l ⟨f,n,S,ds⟩ K:=aT.fg hf h
def zs{p q:Prop}(h:p->q:=by intro h;(repeat refine aE.seq ?_);exact h)(k:p):q:=h k
def zL{α:Type}(l:List α)(I:Nat->Prop)(fr:Nat->Fm)(T:Nat->List SO){id:Nat}{x:Code}(hf:Fg ⟨f,n,S,[]⟩ ⟨fr 0,n,T 0,[]⟩)(h0:I 0)
 (h:∀k,k<=l.length->I k->aE P ro x ⟨fr k,n,T k,[]⟩ (bU (λm st=>∃k,k<=l.length/\m=l.length-k/\I k/\st=⟨fr k,n,T k,[]⟩) (l.length-k) (eQ id Q))):aE P ro (.block id (.loop x)) ⟨f,n,S,[]⟩ Q:=
 aE.block (aE.loop (λm st=>∃k,k<=l.length/\m=l.length-k/\I k/\st=⟨fr k,n,T k,[]⟩) l.length hf ⟨0,ct _,rfl,h0,rfl⟩ (by rintro m st ⟨k,_,_,_,rfl⟩;rfl) (by rintro m st ⟨k,hk,rfl,hI,rfl⟩;exact h k hk hI))
def zX{α:Type}{l:List α}{I:Nat->Prop}{fr:Nat->Fm}{T:Nat->List SO}{k:Nat}{st:eI}(hlt:k<l.length)(hf:Fg st ⟨fr (k+1),n,T (k+1),[]⟩)(hI:I (k+1)):
 bU (λm st=>∃k,k<=l.length/\m=l.length-k/\I k/\st=⟨fr k,n,T k,[]⟩) (l.length-k) Q .normal st:=⟨l.length-(k+1),_,by omega,hf,k+1,hlt,rfl,hI,rfl⟩
def zi{k L B:Nat}(h1:k<L)(h2:L<=B)(t:TypeId)(hB:B<=9223372036854775807:=by decide):da Tryz.prog .add t (.int .i64 (k:Int)) (.int .i64 1)=some (.int .i64 ((k:Int)+1)):=xd (RY h1 h2 hB)
def zt{k n:Nat}(h:k<n):decide ((k:Int)<(n:Int))=true:=by simp only[wp];omega
def zS{r:Prop}{all:List Oper}{o:Oper}{l:List Oper}{K:eI->Prop}{d:Nat}{c:Call}{g:FuncId}{vs ws:List SV}{mv:List Nat}{S0 S1 S2:List SO}{r0 r2:SV}{f2:Fm}(os:List Nat)(k:r)(hq:SC P g ws S0 mv (λr S'=>r=r0/\S'=S1))
 (hk:aT P ro all l ⟨(d,r2)::f2,n,S2,ds⟩ K) (hst:eG all n [o]=true:=by rfl) (hop:o.op=.call c:=by rfl) (hdst:o.dst=some d:=by rfl) (hw:cO all f o.guard=some true:=by rfl) (hdy:fG (.call c)=true:=by rfl)
 (hc:iE P f c=some (g,vs):=by exact zc) (hvs:r->mn (jP os S.length) ws=vs:=by intro k;simp only[gD,cj,an,↓reduceIte,Nat.reduceEqDiff,Nat.reduceAdd,Nat.reduceSub,Nat.reduceMul,Nat.reduceLeDiff,Nat.reduceLT,k];first | done | rfl) (hK:os.length=S0.length:=by rfl) (hnd:os.Nodup:=by decide)
 (hos:r->CL S (jP os S.length) S0 os:=by intro k;simp only[CL,gD,cj,an,k]<;>(repeat' apply And.intro)<;>first | trivial | rfl | (intro hh;cases hh))
 (hb1:r->dz S1.length r0=true:=by intro k;simp only[B4,gD,cj,an,Nat.reduceAdd,Nat.reduceLT,decide_true,k];first | done | rfl) (hb2:r->uI S1.length S1=true:=by intro k;simp only[B4,gD,cj,an,Nat.reduceAdd,Nat.reduceLT,decide_true,k];first | done | rfl)
 (hr:r->fh (jP os S.length) r0=r2:=by intro k;simp only[gD,cj,an,↓reduceIte,Nat.reduceEqDiff,Nat.reduceAdd,Nat.reduceSub,Nat.reduceMul,Nat.reduceLeDiff,Nat.reduceLT,k];first | done | rfl) (hf:r->nR (c9 os mv S.length (S1.length-os.length)) f=f2:=by intro k;simp only[gD,cj,an,↓reduceIte,Nat.reduceEqDiff,Nat.reduceAdd,Nat.reduceSub,Nat.reduceMul,Nat.reduceLeDiff,Nat.reduceLT,k,eK,ek,cE,aY,dJ];first | done | rfl) (hS:r->dI S os mv S1=S2:=by intro k;simp only[gD,cj,an,↓reduceIte,Nat.reduceEqDiff,Nat.reduceAdd,Nat.reduceSub,Nat.reduceMul,Nat.reduceLeDiff,Nat.reduceLT,k,eK,ek,cE,aY,dJ];first | done | rfl):aT P ro all (o::l) ⟨f,n,S,ds⟩ K:=
 aT.sk os hst hop hdst hw hdy hc hq (hvs k) hK hnd (hos k) (hb1 k) (hb2 k) (hr k) (hf k) (hS k) hk
def zP{fn:Func}{K:Nat}{mv:List Nat}{Qs:SV->List SO->Prop}{e:Ex}{vs:List SV}(rs:List ResultVar)(he:j8 e=true:=by rfl)(hr:fn.results.toList=rs:=by rfl)(h:oK P f S rs=some vs:=by exact zl)
 (hq:Qs (ew vs) S:=by (try simp only[ew,bH]);first | done | exact⟨rfl,rfl⟩ | exact⟨trivial,trivial⟩ | exact⟨rfl,trivial⟩ | exact⟨trivial,rfl⟩ | trivial) (hK:K<=S.length:=by first | decide | (simp only[cj];omega)) (hw:∀i,i<K->i∉mv->aP f (1000000+i)=.ptr i 0:=by intro i hi;have hi2:i<_:=hi;clear hi;simp only[jp,i7,Nat.zero_add,Nat.reduceAdd,Nat.not_lt_zero] at hi2<;>(rcases i with _ | i<;>first | (exfalso;omega) | (intro hm_;first | rfl | (exfalso;apply hm_;simp;done)) | (rcases i with _ | i<;>first | (exfalso;omega) | (intro hm_;first | rfl | (exfalso;apply hm_;simp;done)) | (rcases i with _ | i<;>first | (exfalso;omega) | (intro hm_;first | rfl | (exfalso;apply hm_;simp;done)))))):KD P fn K mv Qs e ⟨f,n,S,[]⟩:=KD.of he hr h hq hK hw
def zD{p q:Prop}(h:p->q:=by intro h;(repeat (first | refine SD.r i4 rfl i4 i4 zl ?_ | refine SD.s i4 rfl i4 i4 ?_ | fail));exact h)(k:p):q:=h k
def uD{p q r:Prop}(f:r)(h:r->p->q:=by intro f h;(repeat (first | refine SD.r i4 rfl i4 i4 (rX @f) ?_ | refine SD.s i4 rfl i4 i4 ?_ | fail));exact h)(k:p):q:=h f k
def zM{p q:Prop}(h:p->q:=by intro h;refine SD.nil ?_;(try change aE _ _ _ _ _);exact h)(k:p):q:=h k
def zp{p:Prop}(h:p:=by first | exact λi y h=>un h (Nat.not_lt_zero _) | trivial | rfl | assumption):p:=h
def oS{id:Nat}{ops:Array Oper}{st:eI}{ol:List Oper}(ms:List Nat)(h:SD P ro ol ms st.n true [] (cT 0 ol) st.f st.S λf' S'=>Q .normal ⟨f',st.n,S',st.ds⟩)(hol:ops.toList=ol:=by rfl)(hms:oE ol []=ms:=by kernel_rfl)(hok:((lf 0 ol&&P.follows .mixedOrders)&&(BU ol ms (cT 0 ol)&&KR ms (cT 0 ol)))=true:=by kernel_rfl):aE P ro (.region id ops true) st Q:=aE.S7 hol hms hok h
def zw{p:Prop}(h:p:=by first | exact bg.refl rfl | ((repeat' (first | exact bg.nil | apply bg.cons | exact Wk.refl rfl | exact Wk.nil _ | apply Wk.ag | apply Wk.cm | apply Wk.fn | refine Wk.ptr rfl ?_ (by first | decide | (simp only[cj];omega)) | refine Wk.buf rfl ?_ (by first | decide | (simp only[cj];omega)) | refine Wk.map rfl ?_ | exact bg.refl rfl));done)):p:=h
def zv{p:Prop}(h:p:=by (try simp only[ew,bH]);(repeat' (first | exact Wk.refl rfl | exact bg.nil | apply bg.cons | exact Wk.nil _ | apply Wk.ag | apply Wk.cm | refine Wk.ptr rfl ?_ (by first | decide | (simp only[cj];omega)) | refine Wk.buf rfl ?_ (by first | decide | (simp only[cj];omega)) | refine Wk.map rfl ?_ | exact bg.refl rfl))):p:=h
def Ur{p:Prop}(h:p:=by (simp only[dJ,cj,fH,an,↓reduceIte,Nat.reduceEqDiff])<;>(repeat' apply And.intro)<;>first | rfl | trivial):p:=h
def Us{p r:Prop}(k:r)(h:r->p:=by intro k;(simp only[dJ,cj,fH,an,↓reduceIte,Nat.reduceEqDiff,k])<;>(repeat' apply And.intro)<;>first | rfl | trivial):p:=h k
def Ut{p r:Prop}(k:r)(h:r->p:=by intro k;(simp only[dJ,cj,an,or_true,true_or,k])<;>(repeat' apply And.intro)<;>first | exact .inr rfl | exact .inl rfl | trivial):p:=h k
def zq{p:Prop}(h:p:=by (try simp only[ew,bH]);first | done | rfl):p:=h
def Vp{p:Prop}(h:p:=by (try simp only[ew,bH]);first | done | exact⟨rfl,rfl⟩ | exact⟨trivial,rfl⟩ | exact⟨rfl,trivial⟩ | exact⟨trivial,trivial⟩):p:=h
def zg{p:Prop}(h:p:=by intro i hi;have hi2:i<_:=hi;clear hi;simp only[jp,i7,Nat.zero_add,Nat.reduceAdd,Nat.not_lt_zero] at hi2<;>(rcases i with _ | i<;>first | (exfalso;omega) | (intro hm_;first | rfl | (exfalso;apply hm_;simp;done)) | (rcases i with _ | i<;>first | (exfalso;omega) | (intro hm_;first | rfl | (exfalso;apply hm_;simp;done)) | (rcases i with _ | i<;>first | (exfalso;omega) | (intro hm_;first | rfl | (exfalso;apply hm_;simp;done)))))):p:=h
def zd{p:Prop}(h:p:=by first | decide | (simp only[cj];omega)):p:=h
def C2(k:Nat):(k:Int)+1=((k+1:Nat):Int):=rfl
def bA(a b:Int)(h : -9223372036854775808<=a+b/\a+b<=9223372036854775807)(P:Program)(t:TypeId):da P .add t (.int .i64 a) (.int .i64 b)=some (.int .i64 (a+b)):=xd h
def bS(a b:Int)(h : -9223372036854775808<=a-b/\a-b<=9223372036854775807)(P:Program)(t:TypeId):da P .sub t (.int .i64 a) (.int .i64 b)=some (.int .i64 (a-b)):=Cr h
def Mf{p r:Prop}(k:r)(h:r->p:=by intro k;(simp only[si,gD,cj,an,k])<;>(repeat' apply And.intro)<;>first | trivial | exact .inl rfl | exact .inr rfl | exact .inr trivial | exact .inl trivial):p:=h k
def Mg{p r:Prop}(k:r)(h:r->p:=by intro k;(simp only[dJ,gD,cj,an,k])<;>(repeat' apply And.intro)<;>first | rfl | trivial):p:=h k
def pB(n:Nat){g:FuncId}{fn:Func}{c:Code}{args:List SV}{Q:SV->Prop}(hf:Tryz.prog.funcs[g]?=some fn)(hw:aE Tryz.prog none c ⟨kJ 0 args,n,[],[]⟩ (Bf Tryz.prog fn Q))(hb:fn.body=some c:=by rfl)(hn:args.length+(fn.ntmps-args.length)=n:=by rfl)(hlim:n<=1000000:=by exact mt rfl):PC Tryz.prog g args Q:=PC.body dr hf hb hn hw hlim
section
variable (n:Nat) {g:FuncId} {fn:Func} {c:Code} {args:List SV} {S0:List SO} {mv:List Nat} {Q:SV->List SO->Prop}
def LJ(hf:Tryz.prog.funcs[g]?=some fn)(hw:aE Tryz.prog none c ⟨kJ 0 args++[],n,S0,[]⟩ (KD Tryz.prog fn S0.length mv Q))(hb:fn.body=some c:=by rfl)(hn:args.length+(fn.ntmps-args.length)=n:=by rfl)(hlim:n<=1000000:=by exact mt rfl)(hW:[]=nX S0.length:=by rfl)(hK:S0.length<=1000000:=by exact mt rfl):SC Tryz.prog g args S0 mv Q:=SC.body dr hf hb hn hlim hW hw hK
def OH(hf:Tryz.prog.funcs[g]?=some fn)(hw:aE Tryz.prog none c ⟨kJ 0 args++[(1000000,.ptr 0 0)],n,S0,[]⟩ (KD Tryz.prog fn S0.length mv Q))(hb:fn.body=some c:=by rfl)(hn:args.length+(fn.ntmps-args.length)=n:=by rfl)(hlim:n<=1000000:=by exact mt rfl)(hW:[(1000000,.ptr 0 0)]=nX S0.length:=by rfl)(hK:S0.length<=1000000:=by exact mt rfl):SC Tryz.prog g args S0 mv Q:=SC.body dr hf hb hn hlim hW hw hK
def Rx(hf:Tryz.prog.funcs[g]?=some fn)(hw:aE Tryz.prog none c ⟨kJ 0 args++[(1000000,.ptr 0 0),(1000001,.ptr 1 0)],n,S0,[]⟩ (KD Tryz.prog fn S0.length mv Q))(hb:fn.body=some c:=by rfl)(hn:args.length+(fn.ntmps-args.length)=n:=by rfl)(hlim:n<=1000000:=by exact mt rfl)(hW:[(1000000,.ptr 0 0),(1000001,.ptr 1 0)]=nX S0.length:=by rfl)(hK:S0.length<=1000000:=by exact mt rfl):SC Tryz.prog g args S0 mv Q:=SC.body dr hf hb hn hlim hW hw hK
def TZ(hf:Tryz.prog.funcs[g]?=some fn)(hw:aE Tryz.prog none c ⟨kJ 0 args++[(1000000,.ptr 0 0),(1000001,.ptr 1 0),(1000002,.ptr 2 0)],n,S0,[]⟩ (KD Tryz.prog fn S0.length mv Q))(hb:fn.body=some c:=by rfl)(hn:args.length+(fn.ntmps-args.length)=n:=by rfl)(hlim:n<=1000000:=by exact mt rfl)(hW:[(1000000,.ptr 0 0),(1000001,.ptr 1 0),(1000002,.ptr 2 0)]=nX S0.length:=by rfl)(hK:S0.length<=1000000:=by exact mt rfl):SC Tryz.prog g args S0 mv Q:=SC.body dr hf hb hn hlim hW hw hK
end
def cF{p q:Prop}(h:p->q:=by intro h;(repeat refine aE.seq ?_);refine aE.yes rfl ?_;(try (refine aE.skip ?_;try change aE _ _ _ _ _));(repeat refine aE.seq ?_);refine aE.r0 i4 zl ?_;(try change aE _ _ _ _ _);exact h)(k:p):q:=h k
def jt{p q:Prop}(h:p->q:=by intro h;(repeat refine aE.seq ?_);refine aE.r0 i4 zl ?_;(try change aE _ _ _ _ _);(repeat refine aE.seq ?_);refine aE.Ro i4 zl ?_;exact h)(k:p):q:=h k
def kY{p q:Prop}(h:p->q:=by intro h;(repeat refine aE.seq ?_);refine aE.no rfl ?_;(try (refine aE.skip ?_;try change aE _ _ _ _ _));(repeat refine aE.seq ?_);refine aE.r0 i4 zl ?_;(try change aE _ _ _ _ _);exact h)(k:p):q:=h k
def oa{p q:Prop}(h:p->q:=by intro h;(repeat refine aE.seq ?_);refine aE.r0 i4 zl ?_;(try change aE _ _ _ _ _);(repeat refine aE.seq ?_);refine aE.r0 i4 zl ?_;(try change aE _ _ _ _ _);exact h)(k:p):q:=h k
def Mj{p q:Prop}(h:p->q:=by intro h;(repeat refine aE.seq ?_);refine aE.no rfl ?_;(try (refine aE.skip ?_;try change aE _ _ _ _ _));(repeat refine aE.seq ?_);refine aE.Ro i4 zl ?_;exact h)(k:p):q:=h k
def Ec{p q:Prop}(h:p->q:=by intro h;(repeat refine aE.seq ?_);refine aE.r0 i4 zl ?_;(try change aE _ _ _ _ _);(repeat refine aE.seq ?_);refine aE.no rfl ?_;(try (refine aE.skip ?_;try change aE _ _ _ _ _));exact h)(k:p):q:=h k
def wY{p q:Prop}(h:p->q:=by intro h;(repeat refine aE.seq ?_);refine aE.r0 i4 zl ?_;(try change aE _ _ _ _ _);(repeat refine aE.seq ?_);refine aE.yes rfl ?_;(try (refine aE.skip ?_;try change aE _ _ _ _ _));exact h)(k:p):q:=h k
def Ee{a b:Int}(h : -9223372036854775808<=a+b/\a+b<=9223372036854775807)(P:Program)(t:TypeId):da P .add t (.int .i64 a) (.int .i64 b)=some (.int .i64 (a+b)):=xd h
def Q6{a b:Int}(h : -9223372036854775808<=a-b/\a-b<=9223372036854775807)(P:Program)(t:TypeId):da P .sub t (.int .i64 a) (.int .i64 b)=some (.int .i64 (a-b)):=Cr h
def iK{L:Nat->Prop}{i:Nat}(h:L i)(v:SV):vo L i v=v:=cz h
def Vn{L:Nat->Prop}{i:Nat}(h:¬L i)(v:SV):vo L i v=.any:=mV h
def U1{L:Nat->Prop}{i:Nat}(h:L i)(v:SO):wo L i v=v:=nY h
def U0{L:Nat->Prop}{i:Nat}(h:¬L i)(v:SO):wo L i v=.gone:=gg h
def T5{n k:Nat}(h:k<=n)(c:Option Nat)(q:IntKind):cK n c none (some (.int q (k:Int))) none=some (0,k,c):=by
 unfold cK ou pQ;simp only[oF,m8,eY h,es,ar]
def Ps{n k:Nat}(h:k<=n)(c:Option Nat)(q:IntKind):cK n c (some (.int q (k:Int))) none none=some (k,n,c):=by
 unfold cK ou;simp only[oF,m8,eY h,ar]
end
def gB{p q:Prop}(h:p->q:=by intro h;(repeat refine aE.seq ?_);refine aE.yes rfl ?_;(try (refine aE.skip ?_;try change aE _ _ _ _ _));(repeat refine aE.seq ?_);refine aE.block ?_;exact h)(k:p):q:=h k
def gh{p q:Prop}(h:p->q:=by intro h;(repeat refine aE.seq ?_);refine aE.no rfl ?_;(try (refine aE.skip ?_;try change aE _ _ _ _ _));refine aE.exit ?_;exact h)(k:p):q:=h k
def Vo{α:Type}{l:List α}{k:Nat}{p0 p1:Prop}(h0:k=l.length->p0)(h1:∀x,l[k]?=some x->k<l.length->p1)(hk:k<=l.length):(decide ((k:Int)<(l.length:Int))=false/\p0)\/(decide ((k:Int)<(l.length:Int))=true/\p1):=by
 by_cases hlt:k<l.length
 ·exact .inr ⟨zt hlt,h1 _ (li hlt) hlt⟩
 ·exact .inl ⟨wd i5,h0 i5⟩
def zT{α:Type}{p0 p1 q:Prop}(l:List α)(k:Nat)(h0:k=l.length->p0)(h1:∀x,l[k]?=some x->k<l.length->p1)(h:(k=l.length->p0)->(∀x,l[k]?=some x->k<l.length->p1)->q:=by intro h0 h1;(repeat refine aE.seq ?_);refine aE.r0 i4 zl ?_;(try change aE _ _ _ _ _);rcases Vo h0 h1 (by assumption) with⟨e,h⟩ | ⟨e,h⟩;(rw[e];exact h);(rw[e];exact h)):q:=h h0 h1
section
variable {P:Program} {ro:Option Nat} {f:Fm} {n:Nat} {S:List SO} {ds:List jT} {Q:Ex->eI->Prop}
def zo{fn:Func}{Qr:SV->Prop}{v r:SV}(rs:List ResultVar)(hg:Bf P fn Qr .ret ⟨f,n,S,[]⟩->Q .ret ⟨f,n,S,[]⟩:=by intro h;(try simp only[eQ,cX,bU,bK]);exact h)(hr:fn.results.toList=rs:=by rfl)(h:oK P f S rs=some [v]:=by exact zl)(hw:Wk S v r:=by exact Wk.refl rfl)(hq:Qr r:=by rfl):aE P ro .ret ⟨f,n,S,[]⟩ Q:=aE.ret (hg (Bf.of rfl hr h hw hq))
def jW{fn:Func}{Qr:SV->Prop}{v w r:SV}(rs:List ResultVar)(hg:Bf P fn Qr .ret ⟨f,n,S,[]⟩->Q .ret ⟨f,n,S,[]⟩:=by intro h;(try simp only[eQ,cX,bU,bK]);exact h)(hr:fn.results.toList=rs:=by rfl)(h:oK P f S rs=some [v,w]:=by exact zl)(hw:Wk S (.cm [v,w]) r:=by exact Wk.refl rfl)(hq:Qr r:=by rfl):aE P ro .ret ⟨f,n,S,[]⟩ Q:=aE.ret (hg (Bf.of rfl hr h hw hq))
def Hf{α β:Type}(l:List α)(I:Nat->β->Prop)(fr:Nat->β->Fm)(T:Nat->β->List SO)(b0:β){id:Nat}{x:Code}(hf:Fg ⟨f,n,S,[]⟩ ⟨fr 0 b0,n,T 0 b0,[]⟩)(h0:I 0 b0)
 (h:∀k b,k<=l.length->I k b->aE P ro x ⟨fr k b,n,T k b,[]⟩ (bU (λm st=>∃k b,k<=l.length/\m=l.length-k/\I k b/\st=⟨fr k b,n,T k b,[]⟩) (l.length-k) (eQ id Q))):aE P ro (.block id (.loop x)) ⟨f,n,S,[]⟩ Q:=
 aE.block (aE.loop (λm st=>∃k b,k<=l.length/\m=l.length-k/\I k b/\st=⟨fr k b,n,T k b,[]⟩) l.length hf ⟨0,b0,ct _,rfl,h0,rfl⟩ (by rintro m st ⟨k,b,_,_,_,rfl⟩;rfl) (by rintro m st ⟨k,b,hk,rfl,hI,rfl⟩;exact h k b hk hI))
def wq{α β:Type}{l:List α}{I:Nat->β->Prop}{fr:Nat->β->Fm}{T:Nat->β->List SO}{k:Nat}{st:eI}(hlt:k<l.length)(b:β)(hf:Fg st ⟨fr (k+1) b,n,T (k+1) b,[]⟩)(hI:I (k+1) b):
 bU (λm st=>∃k b,k<=l.length/\m=l.length-k/\I k b/\st=⟨fr k b,n,T k b,[]⟩) (l.length-k) Q .normal st:=⟨l.length-(k+1),_,by omega,hf,k+1,b,hlt,rfl,hI,rfl⟩
end
def rF(b:Nat):Nat:=
 bif dG b then 3 else bif ble 48 b&&ble b 57 then 4 else bif beq b 35 then 2 else bif beq b 95 then 5 else bif beq b 34 then 7 else
 bif [32,9,10].any (beq b) then 1 else bif [59,44,46,58,40,41,123,125,91,93,61,60,62,47,43,45,42].any (beq b) then 6 else 0
def Hx:List AV:=(cp 256).map λb=>AV.int .u8 (Int.ofNat (rF b))
def MY:Hx.length=256:=by simp[Hx]
def MX(b:Nat)(h:b<256):Hx[b]?=some (.int .u8 (rF b:Int)):=by
 unfold Hx;rw[al,dc h];rfl
def Lm(s:List Nat)(h:cH s=true):∀(i b:Nat),s[i]?=some b->kG b=true:=by
 intro i b hi
 cases s with
 | nil=>simp at hi
 | cons a l=>
  simp only[cH,am] at h
  cases i with
  | zero=>simp at hi;subst hi;unfold kG;rw[h.1];rfl
  | succ i=>
   rw[d5] at hi;exact all_eq_true.1 h.2.1 b (c6 hi)
def NR(s:List Nat)(h:∀(i b:Nat),s[i]?=some b->kG b=true)(b:Nat)(h0:s[0]?=some b):cH s=(decide (s.length<=24)&&dG b):=by
 cases s with
 | nil=>simp at h0
 | cons a l=>
  simp at h0;subst h0
  have:l.all kG=true:=by
   rw[all_eq_true];intro x hx;obtain⟨i,hi⟩:=mem_iff_getElem?.1 hx;exact h (i+1) x (by rw[d5];exact hi)
  simp only[cH,this,dv,jp]
  have e:ble l.length 23=decide (l.length+1<=24):=by
   by_cases hl:l.length<=23
   ·rw[eY hl];simp;omega
   ·have:ble l.length 23=false:=by
     cases hb:ble l.length 23
     ·rfl
     ·exact un (jg hb) hl
    rw[this];simp;omega
  rw[e,Bool.and_comm]
def MZ:∀b,b<256->(decide (rF b=3)=dG b)/\((decide (rF b=3)||(decide (rF b=4)||decide (rF b=5)))=kG b):=by decide +kernel
def P5(s:List Nat)(b:Nat)(h0:s[0]?=some b)(h:dG b=false):cH s=false:=by
 cases s with
 | nil=>rfl
 | cons a l=>simp at h0;subst h0;simp only[cH,h,ch]
abbrev O7(b:Nat):SV:=.a (.int .u8 (b:Int))
def LY(s:List Nat)(b:Nat)(hb:b<256):PC prog 322 [ah s,O7 b] (·=ab (fQ b s 0)):=
 PC.of (xs:=[.str s,.int .u8 (b:Int)]) (λh=>dU.Uc G3 (by
  show cond (blt b 256) (some (AV.int .i64 (fQ b s 0),h)) none=_
  rw[show blt b 256=true from KH hb];rfl)) λρ avs ha=>by
  rw[dL] at ha;obtain⟨a,r,rfl,h1,ha⟩:=ha;rw[dL] at ha;obtain⟨a2,r,rfl,h2,ha⟩:=ha;rw[GS] at h1 h2;rw[eP] at ha;rw[h1,h2,ha]
def LX(s:List Nat)(b:Nat)(hb:b<256):PC prog 304 [ah s,O7 b] (·=ab (fQ b s 0)):=by
 refine pB 8 Tryz.func304 ?_;exact(jt)<|(zK (LY s b hb))<|(zR)<|zo [.tmp 4]
def B7(s:List Nat)(b:Nat)(hb:b<256):PC prog 256 [ah s,O7 b] (·=ab (fQ b s 0)):=by
 refine pB 8 Tryz.func256 ?_;exact(jt)<|(zK (LX s b hb))<|(zR)<|zo [.tmp 4]
def xZ(b:Nat):Nat:=bif dG b then 3 else bif ble 48 b&&ble b 57 then 4 else bif decide (0<=fQ b [32,9,10] 0) then 1 else bif decide (0<=fQ b [59,44,46,58,40,41,123,125,91,93,61,60,62,47,43,45,42] 0) then 6 else 0
def kV(k:Nat):List SV:=(cp 256).map λi=>O7 (if i<k then xZ i else 0)
def Jl:List SV:=(cp 256).map λ_=>O7 0
def tQ(k:Nat):(kV k).length=256:=by simp[kV]
def Sl{k:Nat}(hk:k<256):(kV k).take k++(O7 (xZ k)::(kV k).drop (k+1))=kV (k+1):=by
 have h:(kV k).set k (O7 (xZ k))=kV (k+1):=by
  apply fl;intro i;by_cases hik:k=i
  ·subst hik;rw[List.getElem?_set_self (by rw[tQ];exact hk)];unfold kV;rw[al,dc hk];simp
  ·rw[List.getElem?_set_ne hik];unfold kV;rw[al,al]
   cases hr:(cp 256)[i]? with
   | none=>rfl
   | some j=>
    have hj:j=i:=by
     obtain⟨h1,h2⟩:=rt hr;simpa using h2.symm
    subst hj;simp only[m7];by_cases h:j<k
    ·rw[ut h,ut i5]
    ·rw[v6 h,v6 i5]
 rw[<-h,cd,ut (by rw[tQ];exact hk)]
def Sk{k:Nat}(hk:k<256)(h:xZ k=0):kV (k+1)=kV k:=by
 unfold kV;refine List.map_congr_left λi _=>?_;by_cases hik:i<k
 ·rw[ut hik,ut i5]
 ·rw[v6 hik];by_cases he:i=k
  ·subst he;rw[ut i5,h]
  ·rw[v6 i5]
def PD{k:Nat}(hk:k<256):mA prog 3 5 (.int .i64 (k:Int))=some (.int .u8 (k:Int)):=by
 have h1:mA prog 3 5 (.int .i64 (k:Int))=some (.int .u8 (dP .u8 (k:Int))):=by kernel_rfl
 rw[h1]
 congr 2
 have h2:(sF 0 (k:Int)&&sF (k:Int) 255)=true:=by rw[gq,gq];simp;omega
 simp only[dP,NK,Nz,h2,ar]
def AS:PC prog 184 [] (·=.ag (Hx.map SV.a)):=by
 refine pB 50 Tryz.func184 ?_;refine(oa)<|(zV) ?_
 have hl:(cp 256).length=256:=List.length_range
 have hlen:(cp 256).length<=1000000:=by rw[hl];decide
 refine zA [(0,.ptr 0 0),(1,.ptr 1 0),(4,ab 0)] [.cells Jl,.cells (kV 0)] (by exact zH)<|(zs) ?_;refine zL (cp 256) (λk=>True) (λk=>[(0,.ptr 0 0),(1,.ptr 1 0),(4,ab k)]) (λk=>[.cells Jl,.cells (kV k)]) zH zp ?_;intro k hk hall
 by_cases hlt:k<(cp 256).length
 ·have hk6:k<256:=by rw[<-hl];exact hlt
  have hk7:k+1<=256:=hk6;have e1:decide ((97:Int)<=(k:Int))=ble 97 k:=qV 97 k;have e2:decide ((k:Int)<=122)=ble k 122:=qV k 122;have e3:decide ((65:Int)<=(k:Int))=ble 65 k:=qV 65 k;have e4:decide ((k:Int)<=90)=ble k 90:=qV k 90;have e5:decide ((48:Int)<=(k:Int))=ble 48 k:=qV 48 k;have e6:decide ((k:Int)<=57)=ble k 57:=qV k 57;have hset:=Sl hk6;have hrl:=tQ k
  refine(aw (show decide ((k:Int)<256)=true by simp only[wp];omega))<|(gB)<|(zV)<|(aw (PD hk6))<|(zB) ?_;refine aE.seq ?_;refine aE.mono (Q:=λex st=>ex=.normal/\Fg st ⟨[(0,.ptr 0 0),(1,.ptr 1 0),(2,ab k),(3,O7 k),(4,ab k),(9,ak (dG k))],50,[.cells Jl,.cells (kV k)],[]⟩) ?_ ?_
  ·unfold dG;cases h1:ble 97 k<;>cases h2:ble k 122<;>cases h3:ble 65 k<;>cases h4:ble k 90
   all_goals
    rw[h1] at e1;rw[h2] at e2;rw[h3] at e3;rw[h4] at e4;refine(aw (bq e1 e2)) ?_
    first
     | (
      refine(zN) ?_
      refine(aw (bq e3 e4)) ?_;exact⟨rfl,zH⟩)
     | (
      refine(zY) ?_
      exact⟨rfl,zH⟩)
  rintro ex st ⟨rfl,hf⟩;refine aE.fg hf ?_;clear hf
  (try change aE _ _ _ _ _)
  cases hL:dG k;rotate_left
  ·have hc:xZ k=3:=by unfold xZ;rw[hL];rfl
   rw[hc] at hset;change (kV k).take k++(SV.a (.int .u8 3)::(kV k).drop (k+1))=_ at hset
   refine(zY)<|(aw (lM hk6 hk7 hrl @ce hset))<|(aw (zi hlt hlen)) ?_;refine zX hlt zH trivial
  have c0:xZ k=bif ble 48 k&&ble k 57 then 4 else bif decide (0<=fQ k [32,9,10] 0) then 1 else bif decide (0<=fQ k [59,44,46,58,40,41,123,125,91,93,61,60,62,47,43,45,42] 0) then 6 else 0:=by unfold xZ;rw[hL];rfl
  clear hL e1 e2 e3 e4;refine(zN) ?_
  (repeat refine aE.seq ?_)
  refine aE.mono (Q:=λex st=>ex=.normal/\Fg st ⟨[(0,.ptr 0 0),(1,.ptr 1 0),(2,ab k),(3,O7 k),(4,ab k),(24,ak (ble 48 k&&ble k 57))],50,[.cells Jl,.cells (kV k)],[]⟩) ?_ ?_
  ·cases h5:ble 48 k<;>cases h6:ble k 57
   all_goals
    rw[h5] at e5;rw[h6] at e6;refine(aw (bq e5 e6)) ?_;exact⟨rfl,zH⟩
  rintro ex st ⟨rfl,hf⟩;refine aE.fg hf ?_;clear hf e5 e6
  (try change aE _ _ _ _ _)
  cases hD:ble 48 k&&ble k 57;rotate_left
  ·rw[hD] at c0;rw[show xZ k=4 from c0] at hset;change (kV k).take k++(SV.a (.int .u8 4)::(kV k).drop (k+1))=_ at hset
   refine(zY)<|(aw (lM hk6 hk7 hrl @ce hset))<|(aw (zi hlt hlen)) ?_;refine zX hlt zH trivial
  rw[hD] at c0
  refine(Mj)<|(zK (B7 [32,9,10] k hk6))<|(zR) ?_
  cases hB:decide (0<=fQ k [32,9,10] 0);rotate_left
  ·rw[hB] at c0;rw[show xZ k=1 from c0] at hset;change (kV k).take k++(SV.a (.int .u8 1)::(kV k).drop (k+1))=_ at hset
   refine(zY)<|(aw (lM hk6 hk7 hrl @ce hset))<|(aw (zi hlt hlen)) ?_;refine zX hlt zH trivial
  rw[hB] at c0
  refine(Mj)<|(zK (B7 [59,44,46,58,40,41,123,125,91,93,61,60,62,47,43,45,42] k hk6))<|(zR) ?_
  cases hS:decide (0<=fQ k [59,44,46,58,40,41,123,125,91,93,61,60,62,47,43,45,42] 0);rotate_left
  ·rw[hS] at c0;rw[show xZ k=6 from c0] at hset;change (kV k).take k++(SV.a (.int .u8 6)::(kV k).drop (k+1))=_ at hset
   refine(zY)<|(aw (lM hk6 hk7 hrl @ce hset))<|(aw (zi hlt hlen)) ?_;refine zX hlt zH trivial
  rw[hS] at c0;have hs0:=Sk hk6 c0;refine(zN) ?_
  (try (refine aE.skip ?_))
  refine(aw (zi hlt hlen)) ?_;refine zX hlt (bX hs0) trivial
 ·obtain rfl:k=256:=by omega
  refine(aw (show decide (((256:Nat):Int)<256)=false from rfl))<|(gh) ?_
  have set_at:∀{l:List SV} {i:Nat} (v:SV),i<l.length->l.take i++(v::l.drop (i+1))=l.set i v:=λv h=>by rw[cd,ut h]
  have hfin:(((kV 256).set 35 (.a (.int .u8 2))).set 95 (.a (.int .u8 5))).set 34 (.a (.int .u8 7))=Hx.map SV.a:=by kernel_rfl
  have l0:=tQ 256
  have hz0:Jl.length=256:=by simp[Jl]
  generalize kV 256=R at hfin l0 ⊢;have s1:=set_at (l:=R) (i:=35) (.a (.int .u8 2)) i5
  have l1:(R.set 35 (.a (.int .u8 2))).length=256:=by rw[em];exact l0
  generalize R.set 35 (.a (.int .u8 2))=R1 at hfin s1 l1;have s2:=set_at (l:=R1) (i:=95) (.a (.int .u8 5)) i5
  have l2:(R1.set 95 (.a (.int .u8 5))).length=256:=by rw[em];exact l1
  generalize R1.set 95 (.a (.int .u8 5))=R2 at hfin s2 l2;have s3:=set_at (l:=R2) (i:=34) (.a (.int .u8 7)) i5
  have l3:(R2.set 34 (.a (.int .u8 7))).length=256:=by rw[em];exact l2
  generalize R2.set 34 (.a (.int .u8 7))=R3 at hfin s3 l3;have t3:R3.take 256=R3:=d8 i5;have d0:Jl.drop 256=[]:=cn i5;refine(aw (MV (show c7 (.int .i64 35)=some 35 from rfl) (show c7 (.int .i64 95)=some 95 from rfl) (show c7 (.int .i64 34)=some 34 from rfl) l0 l1 l2 @ce s1 s2 s3)) ?_
  have ho:R3.all e9=true:=by rw[hfin];kernel_rfl
  refine(aw (MW l3 t3 ho hz0 d0 @append_nil.{0} @take_zero.{0} @List.nil_append.{0} @ap)) ?_;subst hfin;exact zo [.cell 0 241] (h:=rX (bq l3 t3))
def drop_cons{α:Type}{l:List α}{k:Nat}{x:α}(h:l[k]?=some x):l.drop k=x::l.drop (k+1):=by
 obtain⟨hlt,he⟩:=rt h;rw[dy hlt,he]
def A4(s:List Nat)(hs:s.length<=1000000)(hb:∀b∈s,b<256):PC prog 101 [ah s] (·=ak (cH s)):=by
 refine pB 39 Tryz.func101 ?_;have hcl:=AS;obtain⟨C,hC⟩:∃C,C=Hx.map SV.a:=⟨_,rfl⟩
 have ho:C.all e9=true:=by rw[hC];kernel_rfl
 have hl:C.length=256:=by rw[hC,ay,MY]
 have hg:bW C=true:=by rw[hC];kernel_rfl
 have hfl:vD (.ag C)=true:=by rw[hC];kernel_rfl
 have hCg:∀b,b<256->C[b]?=some (O7 (rF b)):=λb h=>by rw[hC,al,MX b h];rfl
 rw[<-hC] at hcl;clear hC;have ht:C.take 256=C:=d8 i5;have hnk:=λo:Nat=>bV (o:=o) hg;have hkk:=λo:Nat=>bR (o:=o) hg
 refine(jt)<|(zK hcl (hfl:=.inl hfl)) ?_;refine aT.r0 i4 (by simp only[dJ,cj,an,aJ,m8,m7,↓reduceIte,aa,ad,af,ac,aj,ar,az,bT,hl,ho,ht,hkk,hnk,ay,List.length_replicate,cn,append_nil,ap];first | done | rfl) ?_;refine zZ [(0,ah s),(3,.ip C)] 0 rfl ⟨.inl rfl,.inr (.ptr rfl (bg.refl hg) (ct _)),trivial⟩<|zA [(0,ah s),(3,.ip C)] [] zH<|(zV)<|(zs) ?_;refine zL s (λk=>((∀(i b:Nat),i<k->s[i]?=some b->kG b=true)/\(0<k->∀b,s[0]?=some b->dG b=true))) (λk=>[(0,ah s),(3,.ip C),(8,ab s.length),(9,ab k)]) (λk=>[]) zH (by exact⟨λi b h=>un h (bi _),λh=>un h (bi _)⟩) ?_;intro k hk hall;refine zT s k ?_ ?_;rintro rfl;rotate_left;intro b hx hlt;rotate_left
 ·refine(gh) ?_
  cases hs0:s with
  | nil=>
   exact(aw (show decide (([]:List Nat)=[])=true from rfl))<|zo [.tmp 2]
  | cons b l=>
   have h0:s[0]?=some b:=by rw[hs0];rfl
   have hlt0:0<s.length:=by rw[hs0];exact fu _
   have hn:=NR s (λi b' hb'=>hall.1 i b' (rt hb').1 hb') b h0;rw[hall.2 hlt0 b h0,dd,hs0] at hn;have c2:decide ((b::l)=[])=false:=rfl;cases c3:decide (((b::l).length:Int)<=24)
   ·have e24:decide ((b::l).length<=24)=false:=by have:=wt c3;simp only[wn];omega
    exact(aw (bq c2 c3))<|zo [.tmp 2] (hq:=by rw[hn,e24])
   ·have e24:decide ((b::l).length<=24)=true:=by have:=ww c3;simp only[wp];omega
    exact(aw (bq c2 c3))<|zo [.tmp 2] (hq:=by rw[hn,e24])
 have hb6:=hb b (c6 hx);obtain⟨sp1,sp2⟩:=MZ b hb6;have hdr:=drop_cons (hCg b hb6)
 have hbl:b<=C.length:=by omega
 have q3:decide ((rF b:Int)=3)=dG b:=by rw[<-sp1];simp only[decide_eq_decide];omega
 have q4:decide ((rF b:Int)=4)=decide (rF b=4):=by simp only[decide_eq_decide];omega
 have q5:decide ((rF b:Int)=5)=decide (rF b=5):=by simp only[decide_eq_decide];omega
 rw[sp1] at sp2
 refine(gB)<|(zV)<|(aw (xX hx (show c7 (.int .u8 (Int.ofNat b))=some b from rfl) @ce hb6 hbl hdr))<|zA [(0,ah s),(3,.ip C),(4,ab k),(5,.a (.int .u8 (rF b:Int))),(8,ab s.length),(9,ab k)] [] zH ?_
 generalize (rF b:Int)=cb at q3 q4 q5 ⊢;generalize decide (rF b=4)=c4 at sp2 q4;generalize decide (rF b=5)=c5 at sp2 q5
 have m3:da prog .neq 5 (.int .u8 cb) (.int .u8 3)=some (.bool (!dG b)):=by rw[<-q3];exact sO rfl
 have m4:da prog .neq 5 (.int .u8 cb) (.int .u8 4)=some (.bool (!c4)):=by rw[<-q4];exact sO rfl
 have m5:da prog .neq 5 (.int .u8 cb) (.int .u8 5)=some (.bool (!c5)):=by rw[<-q5];exact sO rfl
 clear q3 q4 q5
 have hmore:kG b=true->∀(i b':Nat),i<k+1->s[i]?=some b'->kG b'=true:=λhm i b' hi hb'=>by
  by_cases e:i=k
  ·subst e;rw[hx] at hb';cases hb';exact hm
  ·exact hall.1 i b' i5 hb'
 have hfirst:(k=0->dG b=true)->0<k+1->∀b',s[0]?=some b'->dG b'=true:=λh _ b' hb'=>by
  by_cases hk0:k=0
  ·subst hk0;rw[hx] at hb';cases hb';exact h rfl
  ·exact hall.2 i5 b' hb'
 cases hL:dG b;rotate_left
 ·rw[hL] at m3 sp2
  refine(aw m3)<|(zN)<|(aw (zi hlt hs)) ?_;refine zX hlt zH (⟨hmore sp2.symm,hfirst λ_=>hL⟩)
 rw[hL] at m3 sp2;by_cases hk0:k=0
 ·have hn:cH s=false:=P5 s b (by rw[<-hk0];exact hx) hL
  exact(aw (bq m3 (show decide ((k:Int)=0)=true by simp only[wp];omega)))<|(cF)<|zo [.tmp 2] (hq:=by rw[hn])
 have k0:=show decide ((k:Int)=0)=false by simp only[wn];omega
 have hbad:kG b=false->cH s=false:=λhm=>by
  cases hc:cH s
  ·rfl
  ·rw[Lm s hc k b hx] at hm;cases hm
 cases c4
 ·cases c5
  ·have hn:=hbad sp2.symm
   exact(aw (gm m3 m4 m5 k0))<|(cF)<|zo [.tmp 2] (hq:=by rw[hn])
  ·refine(aw (gm m3 m4 m5 k0))<|(zN)<|(aw (zi hlt hs)) ?_;refine zX hlt zH (⟨hmore sp2.symm,hfirst λh=>un h hk0⟩)
 ·refine(aw (cG m3 m4 k0))<|(zN)<|(aw (zi hlt hs)) ?_;refine zX hlt zH (⟨hmore sp2.symm,hfirst λh=>un h hk0⟩)
structure jU where
 name:List Nat
 kinds:List (List Nat)
 normal:Int
structure aL where
 name:List Nat
 vehicle:Bool
 bJ:List jU
def bF(s:jU):List SV:=[ah s.name,an 1 s.kinds (aB ah),ab s.normal]
def ao(k:aL):List SV:=[ah k.name,ak k.vehicle,an 3 k.bJ bF]
def JH{p:Prop} (h:p:=by
  refine pB 19 vaa ?_;refine(aw @an.eq_1)<|(zV)<|(zs) ?_;refine zL l (λk=>∀(i:Nat) y,i<k->l[i]?=some y->p y=false) (λk=>[(0,.sl l.length vab (l.flatMap vac)),(1,.fn fid first cap),(7,ab l.length),(8,ab k)]) (λk=>[]) zH zp ?_;intro k hk hall;refine zT l k ?_ ?_;rintro rfl;rotate_left;intro x hx hlt;rotate_left
  ·exact(gh)<|(zV)<|zo [.tmp 4] (hq:=by rw[ig hall])
  ·refine(gB)<|(zV)<|(fb (cG hlt (aQ (e:=vab) (enc:=vac) (λ_=>rfl) hx) @vad))<|(zK (hp x (List.mem_iff_getElem?.2 ⟨k,hx⟩)) (hwk:=((bg.refl hg.1).app (bg.refl rfl)).app (bg.refl hg.2))) ?_;refine aT.nil ?_
   change aE _ _ _ _ _;cases hpx:p x
   ·refine(zN)<|(aw (zi hlt hlen)) ?_;refine zX hlt zH ?_
    intro i y hi hy;by_cases hik:i=k
    ·subst hik;rw[hx] at hy;cases hy;exact hpx
    ·exact hall i y (by ((try simp only[vab] at *)<;>omega)) hy
   ·exact(cF)<|zo [.tmp 4] (hq:=by rw[lR hx hpx hall])):p:=h
open Go.Proofs.Tryz renaming func124 -> vaa in
open Go.Ev renaming Rk -> vab in
open Go.Proofs renaming ao -> vac in
def DG{l:List (aL)}(p:aL->Bool){fid:FuncId}{first cap:List SV}(hlen:l.length<=1000000)(hp:∀x∈l,PC prog fid ((first++[.ag (ao x)])++cap) (·=ak (p x)))(hg:bW first=true/\bW cap=true):PC prog 124 [an 3 l ao,.fn fid first cap] (·=ab (fR p l)):=by
 have vad:=@ao.eq_1;exact JH
open Go.Proofs.Tryz renaming func284 -> vaa in
open Go.Ev renaming Rk -> vab in
open Go.Proofs renaming bF -> vac in
def DJ{l:List (jU)}(p:jU->Bool){fid:FuncId}{first cap:List SV}(hlen:l.length<=1000000)(hp:∀x∈l,PC prog fid ((first++[.ag (bF x)])++cap) (·=ak (p x)))(hg:bW first=true/\bW cap=true):PC prog 284 [an 3 l bF,.fn fid first cap] (·=ab (fR p l)):=by
 have vad:=@bF.eq_1;exact JH
def qH{l:List (List Nat)}(p:List Nat->Bool){fid:FuncId}{first cap:List SV}(hlen:l.length<=1000000)(hp:∀x∈l,PC prog fid ((first++[ah x])++cap) (·=ak (p x)))(hg:bW first=true/\bW cap=true):PC prog 262 [an 1 l (aB ah),.fn fid first cap] (·=ab (fR p l)):=by
 refine pB 19 Tryz.func262 ?_;refine(aw @an.eq_1)<|(zV)<|(zs) ?_;refine zL l (λk=>∀(i:Nat) y,i<k->l[i]?=some y->p y=false) (λk=>[(0,.sl l.length 1 (l.flatMap (aB ah))),(1,.fn fid first cap),(7,ab l.length),(8,ab k)]) (λk=>[]) zH zp ?_;intro k hk hall;refine zT l k ?_ ?_;rintro rfl;rotate_left;intro x hx hlt;rotate_left
 ·exact(gh)<|(zV)<|zo [.tmp 4] (hq:=by rw[ig hall])
 ·refine(gB)<|(zV)<|(fb (cG hlt (aQ (e:=1) (enc:=(aB ah)) (λ_=>rfl) hx) @aB.eq_1))<|(zK (hp x (mem_iff_getElem?.2 ⟨k,hx⟩)) (hwk:=((bg.refl hg.1).app (bg.refl rfl)).app (bg.refl hg.2))) ?_;refine aT.nil ?_
  change aE _ _ _ _ _;cases hpx:p x
  ·refine(zN)<|(aw (zi hlt hlen)) ?_;refine zX hlt zH ?_
   intro i y hi hy;by_cases hik:i=k
   ·subst hik;rw[hx] at hy;cases hy;exact hpx
   ·exact hall i y i5 hy
  ·exact(cF)<|zo [.tmp 4] (hq:=by rw[lR hx hpx hall])
def A3(s:List Nat):PC prog 54 [.ag [ah s,.any,.any]] (·=ah s):=by
 refine pB 5 Tryz.func54 ?_;exact(oa)<|zo [.tmp 2]
def A6(s:List Nat):PC prog 235 [.ag [ah s,.any,.any]] (·=ah s):=by
 refine pB 5 Tryz.func235 ?_;exact(oa)<|zo [.tmp 2]
def GB(k:aL)(s:List Nat):PC prog 125 [.ag (ao k),.ip [.fn 54 [] []],.ip [ah s]] (·=ak (decide (k.name=s))):=by
 refine pB 10 Tryz.func125 ?_;refine(aw @ao.eq_1)<|(zs) ?_;refine oS [0,0,3,0,15,31] ?_;refine(zD) ?_;refine SD.k i4 rfl rfl i4 rfl rfl zc (A3 k.name) (.cons (.ag (.cons (.a _) (.cons (.any _) (.cons (.any _) .nil)))) .nil) rfl ?_;exact(zD)<|(zM)<|zo [.tmp 4]
def GL(k:jU)(s:List Nat):PC prog 285 [.ag (bF k),.ip [.fn 235 [] []],.ip [ah s]] (·=ak (decide (k.name=s))):=by
 refine pB 10 Tryz.func285 ?_;refine(aw @bF.eq_1)<|(zs) ?_;refine oS [0,0,3,0,15,31] ?_;refine(zD) ?_;refine SD.k i4 rfl rfl i4 rfl rfl zc (A6 k.name) (.cons (.ag (.cons (.a _) (.cons (.any _) (.cons (.any _) .nil)))) .nil) rfl ?_;exact(zD)<|(zM)<|zo [.tmp 4]
def DK(l:List aL)(s:List Nat)(hlen:l.length<=1000000):PC prog 53 [an 3 l ao,.fn 54 [] [],ah s] (·=ab (fR (λk=>decide (k.name=s)) l)):=by
 refine pB 10 Tryz.func53 ?_;exact(jt)<|(zK (DG (λk=>decide (k.name=s)) (first:=[]) (cap:=[.ip [.fn 54 [] []],.ip [ah s]]) hlen (λx _=>GB x s) ⟨rfl,rfl⟩))<|(zR)<|zo [.tmp 6]
def D1(l:List jU)(s:List Nat)(hlen:l.length<=1000000):PC prog 234 [an 3 l bF,.fn 235 [] [],ah s] (·=ab (fR (λk=>decide (k.name=s)) l)):=by
 refine pB 10 Tryz.func234 ?_;exact(jt)<|(zK (DJ (λk=>decide (k.name=s)) (first:=[]) (cap:=[.ip [.fn 235 [] []],.ip [ah s]]) hlen (λx _=>GL x s) ⟨rfl,rfl⟩))<|(zR)<|zo [.tmp 6]
def tq{α:Type}(p:α->Bool)(l:List α):(fR p l = -1/\l.find? p=none)\/∃(k:Nat) (x:α),fR p l=(k:Int)/\k<l.length/\l[k]?=some x/\l.find? p=some x:=by
 unfold fR
 cases hf:l.findIdx? p with
 | none=>
  rw[List.findIdx?_eq_none_iff] at hf;exact .inl ⟨rfl,by rw[d3];intro x hx;rw[hf x hx];decide⟩
 | some k=>
  obtain⟨hlt,h1,h2⟩:=List.findIdx?_eq_some_iff_getElem.1 hf;refine .inr ⟨k,l[k],rfl,hlt,li hlt,?_⟩;rw[List.find?_eq_some_iff_getElem];exact⟨h1,k,hlt,rfl,λj hj=>by simpa using h2 j hj⟩
def aL.zero:aL:=⟨[],false,[]⟩
def jU.zero:jU:=⟨[],[],0⟩
def dg(l:List aL)(s:List Nat):Option aL:=l.find? λk=>decide (k.name=s)
def ph(l:List jU)(s:List Nat):Option jU:=l.find? λk=>decide (k.name=s)
def iV{α:Type}(enc:α->List SV)(z:α):Option α->SV
 | some x=>.cm [.ag (enc x),ak true]
 | none=>.cm [.ag (enc z),ak false]
def jk(l:List aL)(s:List Nat)(hlen:l.length<=1000000):PC prog 16 [.ag [an 3 l ao],ah s] (·=iV ao aL.zero (dg l s)):=by
 refine pB 19 Tryz.func16 ?_;refine(jt)<|(zK (DK l s hlen))<|(zR) ?_
 rcases tq (λk:aL=>decide (k.name=s)) l with⟨h1,h2⟩ | ⟨k,x,h1,hlt,hx,h2⟩
 ·rw[h1]
  refine(wY)<|(zV)<|(zE) ?_;exact Bf.of (rs:=[.cell 4 61,.tmp 5]) (r:=.cm [.ag [ah [],ak false,.sl 0 3 []],ak false]) rfl rfl zl zv (by (try simp only[ew,bH]);first | done | (unfold dg;rw[h2];rfl))
 ·rw[h1]
  exact(aw (show decide ((k:Int)<0)=false by simp))<|(zN)<|(aw (cG hlt (aQ (e:=3) (enc:=ao) (λ_=>rfl) hx) @ao.eq_1))<|jW [.cell 4 61,.tmp 5] (hq:=by unfold dg;rw[h2];rfl)
def Am(l:List aL)(kind name:List Nat)(hlen:l.length<=1000000)(hs:∀k∈l,k.bJ.length<=1000000):PC prog 150 [.ag [an 3 l ao],ah kind,ah name] (·=iV bF jU.zero ((dg l kind).bind λk=>ph k.bJ name)):=by
 refine pB 29 Tryz.func150 ?_
 obtain⟨q,b,h1,h2,h3⟩:∃(q:aL) (b:Bool),iV ao aL.zero (dg l kind)=.cm [.ag (ao q),ak b]/\q.bJ.length<=1000000/\((dg l kind).bind λk=>ph k.bJ name)=ph q.bJ name:=by
  cases hf:dg l kind with
  | none=>exact⟨aL.zero,false,rfl,ct _,rfl⟩
  | some q=>exact⟨q,true,rfl,hs q (aU hf),rfl⟩
 rw[h3];have hF:=jk l kind hlen;rw[h1] at hF
 refine(jt)<|(zK hF (hfl:=.inr (bg.refl rfl)))<|(cJ @ao.eq_1)<|(zC)<|(zK (D1 q.bJ name h2))<|(zR) ?_
 rcases tq (λk:jU=>decide (k.name=name)) q.bJ with⟨g1,g2⟩ | ⟨k,x,g1,hlt,hx,g2⟩
 ·rw[g1]
  refine(wY)<|(zV)<|(zE) ?_;exact Bf.of (rs:=[.cell 6 155,.tmp 7]) (r:=.cm [.ag [ah [],.sl 0 1 [],ab 0],ak false]) rfl rfl zl zv (by (try simp only[ew,bH]);first | done | (unfold ph;rw[g2];rfl))
 ·rw[g1]
  exact(aw (show decide ((k:Int)<0)=false by simp))<|(zN)<|(aw (cG hlt (aQ (e:=3) (enc:=bF) (λ_=>rfl) hx) @bF.eq_1))<|jW [.cell 6 155,.tmp 7] (hq:=by unfold ph;rw[g2];rfl)
def nV(l:List (List Nat))(s:List Nat)(hlen:l.length<=1000000):PC prog 122 [an 1 l (aB ah),ah s] (·=ab (fR (λx=>decide (s=x)) l)):=by
 refine pB 19 Tryz.func122 ?_;refine(oa)<|(zs) ?_;refine zL l (λk=>∀(i:Nat) y,i<k->l[i]?=some y->decide (s=y)=false) (λk=>[(0,.sl l.length 1 (l.flatMap (aB ah))),(1,ah s),(7,ab l.length),(8,ab k)]) (λk=>[]) zH zp ?_;intro k hk hall;refine zT l k ?_ ?_;rintro rfl;rotate_left;intro x hx hlt;rotate_left
 ·exact(gh)<|(zV)<|zo [.tmp 4] (hq:=by rw[ig hall])
 ·refine(gB)<|(zV)<|(aw (cG hlt (aQ (e:=1) (enc:=aB ah) (λ_=>rfl) hx) @aB.eq_1)) ?_
  cases hpx:decide (s=x)
  ·refine(zN)<|(aw (zi hlt hlen)) ?_;refine zX hlt zH ?_
   intro i y hi hy;by_cases hik:i=k
   ·subst hik;rw[hx] at hy;cases hy;exact hpx
   ·exact hall i y i5 hy
  ·exact(cF)<|zo [.tmp 4] (hq:=by rw[lR hx hpx hall])
def CM{l:List (List Nat)}{s:List Nat}:decide (0<=fR (λx=>decide (s=x)) l)=l.contains s:=by
 rcases tq (λx=>decide (s=x)) l with⟨g1,g2⟩ | ⟨k,x,g1,hlt,hx,g2⟩
 ·rw[g1];rw[d3] at g2
  have:s∉l:=λhm=>by simpa using g2 s hm
  simp[this]
 ·rw[g1];have h:=f7 g2;have hm:=aU g2;simp only[wp] at h;subst h;simp[hm]
def iC(l:List (List Nat))(s:List Nat)(hlen:l.length<=1000000):PC prog 51 [an 1 l (aB ah),ah s] (·=ak (l.contains s)):=by
 refine pB 9 Tryz.func51 ?_;exact(jt)<|(zK (nV l s hlen))<|(zR)<|zo [.tmp 4] (hq:=by rw[CM])
def lC(l:List aL)(kind name other:List Nat):Bool:=match (dg l kind).bind λk=>ph k.bJ name with
 | some s=>s.kinds.contains other
 | none=>false
def wj(l:List aL)(kind name other:List Nat)(hlen:l.length<=1000000)(hs:∀k∈l,k.bJ.length<=1000000/\∀s∈k.bJ,s.kinds.length<=1000000):PC prog 116 [.ag [an 3 l ao],ah kind,ah name,ah other] (·=ak (lC l kind name other)):=by
 refine pB 25 Tryz.func116 ?_;have hF:=Am l kind name hlen λk hk=>(hs k hk).1;refine(jt) ?_;unfold Proofs.lC
 cases hf:(dg l kind).bind λk=>ph k.bJ name with
 | none=>
  rw[hf] at hF
  exact(zK hF (hfl:=.inr (bg.refl rfl)))<|(cJ (cG @iV.eq_1 @bF.eq_1 @jU.zero.eq_1))<|(zV)<|zo [.tmp 8]
 | some q=>
  have hq:q.kinds.length<=1000000:=by
   obtain⟨k,hk,h2⟩:=ul hf;exact(hs k (aU hk)).2 q (aU h2)
  rw[hf] at hF
  exact(zK hF (hfl:=.inr (bg.refl rfl)))<|(cJ (bq @iV.eq_1 @bF.eq_1))<|(zC)<|(zK (iC q.kinds other hq))<|(zR)<|zo [.tmp 8]
def fc(s:List Nat):Prop:=s.length<=1000000/\∀b∈s,b<256
def dS(s:List Nat)(h:fc s):PC prog 101 [ah s] (·=ak (cH s)):=A4 s h.1 h.2
def l8:Keys prog 9 AV.str:=ND zW
def gW{S:List SO}{o:Nat}{l:List (List Nat×Bool)}(s:List Nat)(ok:Bool)(hS:S[o]?=some (bE AV.str ak l)):jd prog S 133 (.map o) (.a (.str s)) ok=some (cond ok (.cm [ak (getM false s l),ak (dx s l)]) (ak (getM false s l))):=
 NL (uv:=ak) (u0:=false) (k:=s) (kt:=9) (et:=4) (z:=.bool false) (by simp only[aJ]) l8 (by simp only[aJ]) rfl hS rfl ok
def rA{S:List SO}{o:Nat}{l:List (List Nat×Bool)}(s:List Nat)(u:Bool)(hS:S[o]?=some (bE AV.str ak l)):iq prog S 133 (.map o) (.a (.str s)) (.a (.bool u))=some (S.set o (bE AV.str ak (cq s u l))):=
 Ig (uv:=ak) (kt:=9) (et:=4) (by simp only[aJ]) l8 hS rfl u
def lu(parts:List (List Nat×Bool)):List (List Nat×Bool)->List (List Nat)->Bool
 | _,[]=>true
 | taken,x::xs=>!(getM false x taken||!getM false x parts)&&lu parts (cq x true taken) xs
def iJ(parts:List (List Nat×Bool)):List (List Nat×Bool)->List jU->Bool
 | _,[]=>true
 | seen,s::ss=>!(getM false s.name seen||(!cH s.name||(decide (s.normal<1)||decide ((s.kinds.length:Int)<s.normal))))&&(lu parts [] s.kinds&&iJ parts (cq s.name true seen) ss)
def ik:List (List Nat×Bool)->List aL->Bool
 | _,[]=>true
 | parts,k::ks=>!(dx k.name parts||(!cH k.name||decide (12<(k.bJ.length:Int))))&&(iJ parts [] k.bJ&&ik (cq k.name (!k.vehicle) parts) ks)
def og(l:List aL):Bool:=ik [] l&&decide ((l.length:Int)<=60)
structure mr (l:List aL):Prop where
 len:l.length<=1000000
 kind:∀k∈l,fc k.name/\k.bJ.length<=1000000
 slot:∀k∈l,∀s∈k.bJ,fc s.name/\s.kinds.length<=1000000
def eR{α:Type}{l:List α}{k:Nat}{x:α}(h:l[k]?=some x):l.drop k=x::l.drop (k+1):=by
 obtain⟨hlt,he⟩:=rt h;rw[dy hlt,he]
def nI(l:List aL)(hl:mr l):PC prog 42 [.ag [an 3 l ao]] (·=ak (og l)):=by
 have hlen:=hl.len
 refine pB 108 Tryz.func42 ?_;refine(oa)<|(zV)<|(zs) ?_;refine Hf l (λk (parts:List (List Nat×Bool))=>ik [] l=ik parts (l.drop k)) (λk parts=>[(1,.ptr 0 0),(3,.map 1),(16,an 3 l ao),(17,ab l.length),(18,ab k)]) (λk parts=>[.cells [an 3 l ao],bE AV.str ak parts]) ([]) zH i4 ?_;intro k parts hk hall;refine zT l k ?_ ?_;rintro rfl;rotate_left;intro x hx hlt;rotate_left
 ·exact(gh)<|(zV)<|zo [.tmp 2] (hq:=by rw[show og l=decide ((l.length:Int)<=60) from by unfold og;rw[hall,ca];rfl])
 have no:ik parts (l.drop k)=false->og l=false:=λh=>by unfold og;rw[hall,h];rfl
 rw[eR hx] at no hall;have hgx:=hl.kind x (mem_iff_getElem?.2 ⟨k,hx⟩);have hsx:=hl.slot x (mem_iff_getElem?.2 ⟨k,hx⟩)
 refine(gB)<|(aw (gm hlt (aQ (e:=3) (enc:=ao) (λ_=>rfl) hx) @ao.eq_1 @qt))<|(zs) ?_;refine aE.r0 i4 (by simp only[dJ,cj,an,aJ,m8,m7,↓reduceIte,aa,ad,af,ac,aj,ar,az,bT,gW (l:=parts)];first | done | rfl) ?_
 cases h1:dx x.name parts;rotate_left
 ·exact(wY)<|(zV)<|zo [.tmp 2] (hq:=by rw[no (by simp[ik,h1])])
 refine(zC)<|(zK (dS x.name hgx.1)) ?_
 cases h2:cH x.name
 ·exact(zR)<|(cF)<|zo [.tmp 2] (hq:=by rw[no (by simp[ik,h2])])
 cases h3:decide (12<(x.bJ.length:Int));rotate_left
 ·exact(cJ h3)<|(cF)<|zo [.tmp 2] (hq:=by rw[no (by simp only[ik,h3,d7,dt,ch])])
 refine(cJ h3)<|(zN)<|(aw @qt)<|(zV) ?_
 have hq2:ik [] l=(iJ parts [] x.bJ&&ik (cq x.name (!x.vehicle) parts) (l.drop (k+1))):=by rw[hall,ik,h1,h2,h3];rfl
 have hnx:True:=trivial
 have no2:iJ parts [] x.bJ=false->og l=false:=λh=>by unfold og;rw[hq2,h];rfl
 have hlen2:=hgx.2;refine(zs) ?_;refine Hf x.bJ (λk2 (seen:List (List Nat×Bool))=>iJ parts [] x.bJ=iJ parts seen (x.bJ.drop k2)) (λk2 seen=>[(1,.ptr 0 0),(3,.map 1),(16,an 3 l ao),(17,ab l.length),(18,ab k),(5,.ptr 2 0),(8,.map 3),(44,an 3 x.bJ bF),(45,ab x.bJ.length),(46,ab k2)]) (λk2 seen=>[.cells [an 3 l ao],bE AV.str ak parts,.cells (ao x),bE AV.str ak seen]) ([]) zH i4 ?_;intro k2 seen hk2 hall2;refine zT x.bJ k2 ?_ ?_;rintro rfl;rotate_left;intro y hx2 hlt2;rotate_left
 ·refine(gh) ?_
  have hall3:ik [] l=ik (cq x.name (!x.vehicle) parts) (l.drop (k+1)):=by rw[hq2,hall2,ca];rfl
  refine(zs) ?_;refine aE.r0 i4 (by simp only[dJ,cj,an,aJ,m8,m7,↓reduceIte,aa,ad,af,ac,aj,ar,az,bT,ao,rA (l:=parts)];first | done | rfl) ?_;refine(aw (zi hlt hlen)) ?_;refine wq hlt (cq x.name (!x.vehicle) parts) zH hall3
 have no3:iJ parts seen (x.bJ.drop k2)=false->og l=false:=λh=>no2 (by rw[hall2,h]);rw[eR hx2] at no3 hall2;have hgy:=hsx y (mem_iff_getElem?.2 ⟨k2,hx2⟩)
 refine(gB)<|(aw (lM hlt2 (aQ (e:=3) (enc:=bF) (λ_=>rfl) hx2) @bF.eq_1 @ao.eq_1 @qt)) ?_
 cases g1:getM false y.name seen;rotate_left
 ·refine(zs) ?_;refine aE.r0 i4 (by simp only[dJ,cj,an,aJ,m8,m7,↓reduceIte,aa,ad,af,ac,aj,ar,az,bT,gW (l:=seen),g1];first | done | rfl) ?_;exact(cF)<|zo [.tmp 2] (hq:=by rw[no3 (by simp[iJ,g1])])
 refine(zs) ?_;refine aE.Ro i4 (by simp only[dJ,cj,an,aJ,m8,m7,↓reduceIte,aa,ad,af,ac,aj,ar,az,bT,gW (l:=seen),g1];first | done | rfl) ?_;refine(zK (dS y.name hgy.1)) ?_;cases g2:cH y.name
 ·exact(zR)<|(cF)<|zo [.tmp 2] (hq:=by rw[no3 (by simp[iJ,g2])])
 cases g3:decide (y.normal<1);rotate_left
 ·exact(cJ g3)<|(cF)<|zo [.tmp 2] (hq:=by rw[no3 (by simp only[iJ,g3,d7,es,dt,ch])])
 cases g4:decide ((y.kinds.length:Int)<y.normal);rotate_left
 ·exact(cJ (bq g3 g4))<|(cF)<|zo [.tmp 2] (hq:=by rw[no3 (by simp only[iJ,g4,d7,es,dt,ch])])
 refine(cJ (bq g3 g4))<|(zN)<|(zs) ?_;refine aE.r0 i4 (by simp only[dJ,cj,an,aJ,m8,m7,↓reduceIte,aa,ad,af,ac,aj,ar,az,bT,rA (l:=seen)];first | done | rfl) ?_;refine(aw @qt)<|(zV) ?_
 have hq3:iJ parts [] x.bJ=(lu parts [] y.kinds&&iJ parts (cq y.name true seen) (x.bJ.drop (k2+1))):=by rw[hall2,iJ,g1,g2,g3,g4];rfl
 have no4:lu parts [] y.kinds=false->og l=false:=λh=>no2 (by rw[hq3,h];rfl);have hlen3:=hgy.2;refine(zs) ?_;refine Hf y.kinds (λk3 (taken:List (List Nat×Bool))=>lu parts [] y.kinds=lu parts taken (y.kinds.drop k3)) (λk3 taken=>[(1,.ptr 0 0),(3,.map 1),(16,an 3 l ao),(17,ab l.length),(18,ab k),(5,.ptr 2 0),(8,.map 3),(44,an 3 x.bJ bF),(45,ab x.bJ.length),(46,ab k2),(11,.map 5),(78,an 1 y.kinds (aB ah)),(79,ab y.kinds.length),(80,ab k3)]) (λk3 taken=>[.cells [an 3 l ao],bE AV.str ak parts,.cells (ao x),bE AV.str ak (cq y.name true seen),.gone,bE AV.str ak taken]) ([]) (bX (bq @aB.eq_1 @ao.eq_1)) i4 ?_;intro k3 taken hk3 hall3;refine zT y.kinds k3 ?_ ?_;rintro rfl;rotate_left;intro z hx3 hlt3;rotate_left
 ·refine(gh) ?_
  have hall4:iJ parts [] x.bJ=iJ parts (cq y.name true seen) (x.bJ.drop (k2+1)):=by rw[hq3,hall3,ca];rfl
  refine(aw (zi hlt2 hlen2)) ?_;refine wq hlt2 (cq y.name true seen) (bX @ao.eq_1) hall4
 have no5:lu parts taken (y.kinds.drop k3)=false->og l=false:=λh=>no4 (by rw[hall3,h]);rw[eR hx3] at no5 hall3
 refine(gB)<|(aw (cG hlt3 (aQ (e:=1) (enc:=aB ah) (λ_=>rfl) hx3) @aB.eq_1)) ?_
 cases f1:getM false z taken;rotate_left
 ·refine(zs) ?_;refine aE.r0 i4 (by simp only[dJ,cj,an,aJ,m8,m7,↓reduceIte,aa,ad,af,ac,aj,ar,az,bT,gW (l:=taken),f1];first | done | rfl) ?_;exact(cF)<|zo [.tmp 2] (hq:=by rw[no5 (by simp[lu,f1])])
 cases f2:getM false z parts
 ·refine(zs) ?_;refine aE.r0 i4 (by simp only[dJ,cj,an,aJ,m8,m7,↓reduceIte,aa,ad,af,ac,aj,ar,az,bT,gW (l:=taken),gW (l:=parts),f1,f2];first | done | rfl) ?_;exact(cF)<|zo [.tmp 2] (hq:=by rw[no5 (by simp[lu,f2])])
 refine(zs) ?_;refine aE.r0 i4 (by simp only[dJ,cj,an,aJ,m8,m7,↓reduceIte,aa,ad,af,ac,aj,ar,az,bT,gW (l:=taken),gW (l:=parts),f1,f2];first | done | rfl) ?_;refine(zN) ?_
 have hall5:lu parts [] y.kinds=lu parts (cq z true taken) (y.kinds.drop (k3+1)):=by rw[hall3,lu,f1,f2];rfl
 refine(zs) ?_;refine aE.r0 i4 (by simp only[dJ,cj,an,aJ,m8,m7,↓reduceIte,aa,ad,af,ac,aj,ar,az,bT,rA (l:=taken)];first | done | rfl) ?_;refine(aw (zi hlt3 hlen3)) ?_;refine wq hlt3 (cq z true taken) (bX (bq @aB.eq_1 @ao.eq_1)) hall5
def nq{α:Type}{p:α->Bool}{l:List α}:decide (0<=fR p l)=l.any p:=by
 rcases tq p l with⟨g1,g2⟩ | ⟨k,x,g1,hlt,hx,g2⟩
 ·rw[g1];rw[d3] at g2
  have:l.any p=false:=by
   rw[List.any_eq_false];exact g2
  rw[this];rfl
 ·rw[g1];have:l.any p=true:=List.any_eq_true.2 ⟨x,aU g2,f7 g2⟩;rw[this];simp
def Gk{l:List (List Nat)}(p:List Nat->Bool){fid:FuncId}{first cap:List SV}(hlen:l.length<=1000000)(hp:∀x∈l,PC prog fid ((first++[ah x])++cap) (·=ak (p x)))(hg:bW first=true/\bW cap=true):PC prog 191 [an 1 l (aB ah),.fn fid first cap] (·=ak (l.any p)):=by
 refine pB 9 Tryz.func191 ?_;exact(jt)<|(zK (qH p hlen hp hg) (hwk:=.cons (Wk.sl _ _ _) (.cons (.fn (bg.refl hg.1) (bg.refl hg.2)) .nil)))<|(zR)<|zo [.tmp 4] (hq:=by rw[nq])
structure bu where
 op:Int
 day:Int
 part:List Nat
 kind:List Nat
 aR:List Nat
 slot:List Nat
 key:List Nat
 value:List Nat
 u1:Int
 u2:Int
 u3:Int
 u4:Int
 u5:Int
 u6:Int
 deriving DecidableEq
def aq(e:bu):List SV:=[ab e.op,ab e.day,ah e.part,ah e.kind,ah e.aR,ah e.slot,ah e.key,ah e.value,ab e.u1,ab e.u2,ab e.u3,ab e.u4,ab e.u5,ab e.u6]
def bu.av(e:bu):List AV:=[.int .i64 e.op,.int .i64 e.day,.str e.part,.str e.kind,.str e.aR,.str e.slot,.str e.key,.str e.value,.int .i64 e.u1,.int .i64 e.u2,.int .i64 e.u3,.int .i64 e.u4,.int .i64 e.u5,.int .i64 e.u6]
def bu.zero:bu:=⟨0,0,[],[],[],[],[],[],0,0,0,0,0,0⟩
def bu.Vd:List Kd:=[.i .i64,.i .i64,.s,.s,.s,.s,.s,.s,.i .i64,.i .i64,.i .i64,.i .i64,.i .i64,.i .i64]
def bu.eq(a b:bu):fN eC a.av b.av=decide (a=b):=by
 obtain⟨a1,a2,a3,a4,a5,a6,a7,a8,a9,a10,a11,a12,a13,a14⟩:=a;obtain⟨b1,b2,b3,b4,b5,b6,b7,b8,b9,b10,b11,b12,b13,b14⟩:=b;simp only[bu.av,fN,eC,AG,sd,j9,dv,dd,bu.mk.injEq,f5]
def LV(a b:bu):da prog .eql 90 (.agg a.av) (.agg b.av)=some (.bool (decide (a=b))):=
 sN (ks:=bu.Vd) zW zW (by simp only[aJ,m7]) rfl rfl (bu.eq a b)
def SH:List (List Nat):=[[],[109,97,107,101],[102,105,116],[114,101,109,111,118,101],[114,117,110],[111,118,101,114,104,97,117,108],[110,111,116,101],[115,99,114,97,112]]
def Hc(op:Int):List Nat:=if op<0\/8<=op then [] else (SH[op.toNat]?).getD []
def Je(op:Int):PC prog 189 [ab op] (·=ah (Hc op)):=by
 refine pB 14 Tryz.func189 ?_;refine(oa) ?_;cases h1:decide (op<0);rotate_left
 ·exact(aw h1)<|(cF)<|zo [.tmp 2] (hq:=by rw[Hc,ut (.inl (ww h1))])
 cases h2:decide (8<=op);rotate_left
 ·exact(aw (bq h1 h2))<|(cF)<|zo [.tmp 2] (hq:=by rw[Hc,ut (.inr (ww h2))])
 refine(aw (bq h1 h2))<|(zN) ?_
 have hop:op=0\/op=1\/op=2\/op=3\/op=4\/op=5\/op=6\/op=7:=by simp only[wn] at h1 h2;omega
 rcases hop with rfl | rfl | rfl | rfl | rfl | rfl | rfl | rfl<;>(refine(zV) ?_ ;exact zo [.tmp 2])
def Ae(a b c d e f:SV):PC prog 190 [.ip [a,b,c,d,e,f]] (·=.ag [.ip [a,b,c,d,e,f],.ip [c,d,e,f],.ip [e,f]]):=by
 refine pB 13 Tryz.func190 ?_;refine(zV)<|(zs) ?_;refine oS [0,1,3,0,8,24,0,64,192,511,1023] ?_;refine(zD) ?_;refine SD.e i4 rfl i4 rfl rfl i4 zl ?_;exact(zM)<|zo [.cell 2 251]
def DQ(s:List Nat)(h:fc s):PC prog 192 [ah s] (·=ak (!cH s)):=by
 refine pB 6 Tryz.func192 ?_;exact(jt)<|(zK (dS s h))<|(zR)<|zo [.tmp 2]
def ju(a b:Int):Bool:=!(decide (a<0))&&(!(decide (b<a))&&!(decide (1000000<b)))
def bu.use(e:bu):Bool:=ju e.u1 e.u2&&(ju e.u3 e.u4&&ju e.u5 e.u6)
def bu.rest(e:bu):bu:=
 if e.op=1 then ⟨0,0,[],[],e.aR,e.slot,e.key,e.value,e.u1,e.u2,e.u3,e.u4,e.u5,e.u6⟩
 else if e.op=2 then ⟨0,0,[],e.kind,[],[],e.key,e.value,e.u1,e.u2,e.u3,e.u4,e.u5,e.u6⟩
 else if e.op=6 then ⟨0,0,[],e.kind,e.aR,e.slot,[],[],e.u1,e.u2,e.u3,e.u4,e.u5,e.u6⟩
 else if e.op=4 then ⟨0,0,[],e.kind,e.aR,e.slot,e.key,e.value,0,0,0,0,0,0⟩
 else ⟨0,0,[],e.kind,e.aR,e.slot,e.key,e.value,e.u1,e.u2,e.u3,e.u4,e.u5,e.u6⟩
def bu.names(e:bu):List (List Nat):=if e.op=1 then [e.kind] else if e.op=2 then [e.aR,e.slot] else if e.op=6 then [e.key] else []
def bu.jO(e:bu):Bool:=
 if e.op=1 then true else if e.op=2 then !(decide (e.aR=e.part)) else if e.op=6 then !(decide (e.value=[]))&&!(decide (200<(e.value.length:Int))) else if e.op=4 then e.use else true
def dE(e:bu):Bool:=!(decide (Hc e.op=[]))&&(!(decide (e.day<0))&&(!(decide (40000<e.day))&&(cH e.part&&(e.jO&&(decide (e.rest=bu.zero)&&!(e.names.any λs=>!cH s))))))
structure lK (e:bu):Prop where
 part:fc e.part
 kind:fc e.kind
 aR:fc e.aR
 slot:fc e.slot
 key:fc e.key
 value:fc e.value
def Ac(a1 a2:Int)(a3 a4 a5 a6 a7 a8:List Nat)(a9 a10 a11 a12 a13 a14:Int):da prog .eql 90 (.agg [.int .i64 a1,.int .i64 a2,.str a3,.str a4,.str a5,.str a6,.str a7,.str a8,.int .i64 a9,.int .i64 a10,.int .i64 a11,.int .i64 a12,.int .i64 a13,.int .i64 a14]) (.agg [.int .i64 0,.int .i64 0,.str [],.str [],.str [],.str [],.str [],.str [],.int .i64 0,.int .i64 0,.int .i64 0,.int .i64 0,.int .i64 0,.int .i64 0])=some (.bool (decide ((⟨a1,a2,a3,a4,a5,a6,a7,a8,a9,a10,a11,a12,a13,a14⟩:bu)=bu.zero))):=
 LV ⟨a1,a2,a3,a4,a5,a6,a7,a8,a9,a10,a11,a12,a13,a14⟩ bu.zero
def GV(e:bu)(he:lK e):PC prog 108 [.ag (aq e)] (·=ak (dE e)):=by
 refine pB 111 Tryz.func108 ?_;refine(aw @aq.eq_1)<|(zC)<|(zK (Je e.op)) ?_
 cases h1:decide (Hc e.op=[]);rotate_left
 ·exact(cJ h1)<|(cF)<|zo [.tmp 2] (hq:=by rw[dE,h1];rfl)
 cases h2:decide (e.day<0);rotate_left
 ·exact(cJ (bq h1 h2))<|(cF)<|zo [.tmp 2] (hq:=by rw[dE,h1,h2];rfl)
 cases h3:decide (40000<e.day);rotate_left
 ·exact(cJ (cG h1 h2 h3))<|(cF)<|zo [.tmp 2] (hq:=by rw[dE,h1,h2,h3];rfl)
 refine(Mk (cG h1 h2 h3))<|(zK (dS e.part he.part)) ?_
 cases h4:cH e.part
 ·exact(zR)<|(cF)<|zo [.tmp 2] (hq:=by rw[dE,h1,h2,h3,h4];rfl)
 refine(zR)<|(zN) ?_
 have hv:dE e=(e.jO&&(decide (e.rest=bu.zero)&&!(e.names.any λs=>!cH s))):=by rw[dE,h1,h2,h3,h4];rfl
 clear h1 h2 h3 h4
 have hn:∀s∈e.names,fc s:=by
  intro s hs;unfold bu.names at hs;split at hs
  ·rw[t6 hs];exact he.kind
  split at hs
  ·rcases t7 hs with rfl | hs
   ·exact he.aR
   ·rw[t6 hs];exact he.slot
  split at hs
  ·rw[t6 hs];exact he.key
  ·cases hs
 have hnl:e.names.length<=1000000:=by
  unfold bu.names
  repeat' split
  all_goals simp
 refine(oa)<|(oa) ?_
 (repeat refine aE.seq ?_)
 refine aE.mono (Q:=λex st=>(ex=.normal/\e.jO=true/\Fg st ⟨[(3,.sl e.names.length 1 (e.names.flatMap (aB ah))),(4,.ptr 2 0)],111,[.gone,.gone,.cells (aq e.rest)],[]⟩)\/(ex=.ret/\Bf prog Tryz.f108 (·=ak (dE e)) .ret st)) ?_ ?_;rotate_left
 ·rintro ex st (⟨rfl,hm,hf⟩ | ⟨rfl,hs⟩);rotate_left
  ·exact hs
  change aE _ _ _ _ _;refine aE.fg hf ?_;rw[hv,hm,dv];cases r:decide (e.rest=bu.zero)
  ·exact(aw (cG @aq.eq_1 @Ac r))<|zo [.tmp 2]
  ·exact(fb (cG @aq.eq_1 @Ac r))<|(zK (Gk (λs=>!cH s) (l:=e.names) (first:=[]) (cap:=[]) hnl (λx hx=>DQ x (hn x hx)) ⟨rfl,rfl⟩))<|(zR)<|zo [.tmp 2]
 have hrest:∀a1 a2 a3 a4 a5 a6 a7 a8 a9 a10 a11 a12 a13 a14,e.rest=(⟨a1,a2,a3,a4,a5,a6,a7,a8,a9,a10,a11,a12,a13,a14⟩:bu)->aq e.rest=[ab a1,ab a2,ah a3,ah a4,ah a5,ah a6,ah a7,ah a8,ab a9,ab a10,ab a11,ab a12,ab a13,ab a14]:=by
  intros;simp only[*,aq]
 refine aE.block ?_;refine(zV) ?_;cases k1:decide (e.op=1);rotate_left
 ·have k1':=ww k1;refine(cF) ?_;have hr:=hrest _ _ _ _ _ _ _ _ _ _ _ _ _ _ (show e.rest=_ by unfold bu.rest;rw[ut k1'])
  have hnm:e.names=[e.kind]:=by unfold bu.names;rw[ut k1']
  refine .inl ⟨rfl,by unfold bu.jO;rw[ut k1'],?_⟩;rw[hr,hnm];exact Fg.trans (Fg.freeze (f':=[(3,.sl 1 1 [ah e.kind]),(4,.ptr 2 0)]) 3 rfl g9 zG) zH
 have n1:=wt k1;refine(kY) ?_;cases k2:decide (e.op=2);rotate_left
 ·have k2':=ww k2
  have hmid:e.jO=!(decide (e.aR=e.part)):=by unfold bu.jO;rw[v6 n1,ut k2']
  refine(cF) ?_;cases j1:decide (e.aR=e.part);rotate_left
  ·refine(cF) ?_;refine aE.ret ?_;refine .inr ⟨rfl,?_⟩;exact zO [.tmp 2] (hq:=by (try simp only[ew,bH]);first | done | (rw[hv,hmid,j1];rfl))
  refine(kY) ?_;have hr:=hrest _ _ _ _ _ _ _ _ _ _ _ _ _ _ (show e.rest=_ by unfold bu.rest;rw[v6 n1,ut k2'])
  have hnm:e.names=[e.aR,e.slot]:=by unfold bu.names;rw[v6 n1,ut k2']
  refine .inl ⟨rfl,by rw[hmid,j1];rfl,?_⟩;rw[hr,hnm];exact Fg.trans (Fg.freeze (f':=[(3,.sl 2 1 [ah e.aR,ah e.slot]),(4,.ptr 2 0)]) 3 rfl g9 zG) zH
 have n2:=wt k2;refine(kY) ?_;cases k6:decide (e.op=6);rotate_left
 ·have k6':=ww k6
  have hmid:e.jO=(!(decide (e.value=[]))&&!(decide (200<(e.value.length:Int)))):=by unfold bu.jO;rw[v6 n1,v6 n2,ut k6']
  refine(zY) ?_;cases j1:decide (e.value=[]);rotate_left
  ·refine(aw j1)<|(cF) ?_;refine aE.ret ?_;refine .inr ⟨rfl,?_⟩;exact zO [.tmp 2] (hq:=by (try simp only[ew,bH]);first | done | (rw[hv,hmid,j1];rfl))
  cases j2:decide (200<(e.value.length:Int));rotate_left
  ·(repeat refine aE.seq ?_);refine aE.r0 i4 (rX (bq j1 j2)) ?_
   refine(cF) ?_;refine aE.ret ?_;refine .inr ⟨rfl,?_⟩;exact zO [.tmp 2] (hq:=by (try simp only[ew,bH]);first | done | (rw[hv,hmid,j1,j2];rfl))
  refine(zs) ?_;refine aE.r0 i4 (by simp only[dJ,cj,an,aJ,m8,m7,↓reduceIte,aa,ad,af,ac,aj,ar,az,bT,j1,j2];first | done | rfl) ?_;refine(kY) ?_;have hr:=hrest _ _ _ _ _ _ _ _ _ _ _ _ _ _ (show e.rest=_ by unfold bu.rest;rw[v6 n1,v6 n2,ut k6'])
  have hnm:e.names=[e.key]:=by unfold bu.names;rw[v6 n1,v6 n2,ut k6']
  refine .inl ⟨rfl,by rw[hmid,j1,j2];rfl,?_⟩;rw[hr,hnm];exact Fg.trans (Fg.freeze (f':=[(3,.sl 1 1 [ah e.key]),(4,.ptr 2 0)]) 3 rfl g9 zG) zH
 have n6:=wt k6
 have hnm:e.names=[]:=by unfold bu.names;rw[v6 n1,v6 n2,v6 n6]
 refine(kY) ?_;cases k4:decide (e.op=4)
 ·have n4:=wt k4;refine(zN) ?_;have hr:=hrest _ _ _ _ _ _ _ _ _ _ _ _ _ _ (show e.rest=_ by unfold bu.rest;rw[v6 n1,v6 n2,v6 n6,v6 n4]);refine .inl ⟨rfl,by unfold bu.jO;rw[v6 n1,v6 n2,v6 n6,v6 n4],?_⟩;rw[hr,hnm];exact Fg.trans (Fg.freeze (f':=[(3,.sl 0 1 []),(4,.ptr 2 0)]) 1 rfl g9 zG) zH
 have k4':=ww k4
 have hmid:e.jO=e.use:=by unfold bu.jO;rw[v6 n1,v6 n2,v6 n6,ut k4']
 refine(zY) ?_;refine zZ [(1,.ip (aq e)),(3,.buf 1 0 1 (some 0)),(4,.ptr 2 0)] 0 rfl (gu @aq.eq_1)<|(fb @aq.eq_1)<|(zK (Ae (ab e.u1) (ab e.u2) (ab e.u3) (ab e.u4) (ab e.u5) (ab e.u6)) (hfl:=.inr (bg.refl rfl)))<|(zR) ?_
 (repeat refine aE.seq ?_)
 refine aE.block (aE.loop (λm st=>∃k:Nat,k<=3/\m=3-k/\(0<k->ju e.u1 e.u2=true)/\(1<k->ju e.u3 e.u4=true)/\(2<k->ju e.u5 e.u6=true)/\st=⟨[(3,.buf 1 0 1 (some 0)),(4,.ptr 2 0),(73,.ag [.ip [ab e.u1,ab e.u2,ab e.u3,ab e.u4,ab e.u5,ab e.u6],.ip [ab e.u3,ab e.u4,ab e.u5,ab e.u6],.ip [ab e.u5,ab e.u6]]),(74,ab k)],111,[.gone,.cells [],.cells [ab 0,ab 0,ah [],ah e.kind,ah e.aR,ah e.slot,ah e.key,ah e.value,ab e.u1,ab e.u2,ab e.u3,ab e.u4,ab e.u5,ab e.u6]],[]⟩) 3 zH ⟨0,by omega,rfl,λh=>un h i5,λh=>un h i5,λh=>un h i5,rfl⟩ (by rintro m st ⟨k,_,_,_,_,_,rfl⟩;rfl) ?_);rintro m st ⟨k,hk,rfl,u1,u2,u3,rfl⟩;refine(zV) ?_;by_cases hlt:k<3;rotate_left
 ·obtain rfl:k=3:=by omega
  refine(gh)<|(aw (show de prog 88=some (.agg [.int .i64 0,.int .i64 0,.int .i64 0,.int .i64 0,.int .i64 0,.int .i64 0]) by simp only[aJ])) ?_
  have hr:=hrest _ _ _ _ _ _ _ _ _ _ _ _ _ _ (show e.rest=_ by unfold bu.rest;rw[v6 n1,v6 n2,v6 n6,ut k4']);refine .inl ⟨rfl,by rw[hmid,bu.use,u1 i5,u2 i5,u3 i5];rfl,?_⟩;rw[hr,hnm];exact Fg.trans (Fg.freeze (f':=[(3,.sl 0 1 []),(4,.ptr 2 0)]) 1 rfl g9 zG) zH
 rw[show decide ((k:Int)<3)=true by simp only[wp];omega]
 obtain⟨a,b,l,hab,hno,hyes⟩:∃(a b:Int) (l:List SV),([.ip [ab e.u1,ab e.u2,ab e.u3,ab e.u4,ab e.u5,ab e.u6],.ip [ab e.u3,ab e.u4,ab e.u5,ab e.u6],.ip [ab e.u5,ab e.u6]]:List SV)[k*1]?=some (.ip (ab a::ab b::l))/\(ju a b=false->e.use=false)/\(ju a b=true->(0<k+1->ju e.u1 e.u2=true)/\(1<k+1->ju e.u3 e.u4=true)/\(2<k+1->ju e.u5 e.u6=true)):=by
  have:k=0\/k=1\/k=2:=by omega
  rcases this with rfl | rfl | rfl
  ·exact⟨_,_,_,rfl,λh=>by rw[bu.use,h];rfl,λh=>⟨λ_=>h,λh=>by omega,λh=>by omega⟩⟩
  ·exact⟨_,_,_,rfl,λh=>by rw[bu.use,h,ch,d4],λh=>⟨λ_=>u1 i5,λ_=>h,λh=>by omega⟩⟩
  ·exact⟨_,_,_,rfl,λh=>by rw[bu.use,h,d4,d4],λh=>⟨λ_=>u1 i5,λ_=>u2 i5,λ_=>h⟩⟩
 refine(gB)<|(zs) ?_;refine aE.r0 i4 (by simp only[dJ,cj,an,aJ,m8,m7,↓reduceIte,aa,ad,af,ac,aj,ar,az,bT,hlt,hab];first | done | rfl) ?_
 cases c1:decide (a<0);rotate_left
 ·refine(zs) ?_;refine oS [0,1,3,7,15,31,63,127,255,511,63,1087,3135,7231,16383,32767,65535,131071,262143,524287,1048575,2097151,4194303] ?_;refine(uD c1)<|(zM)<|(cF) ?_;refine aE.ret ?_;refine .inr ⟨rfl,?_⟩;exact zO [.tmp 2] (hq:=by (try simp only[ew,bH]);first | done | (rw[hv,hmid,hno (by simp[ju,ww c1])];rfl))
 cases c2:decide (b<a);rotate_left
 ·refine(zs) ?_;refine oS [0,1,3,7,15,31,63,127,255,511,63,1087,3135,7231,16383,32767,65535,131071,262143,524287,1048575,2097151,4194303] ?_
  (repeat (first | refine SD.r i4 rfl i4 i4 (by simp only[dJ,cj,an,aJ,m8,m7,↓reduceIte,aa,ad,af,ac,aj,ar,az,bT,c1,c2];first | done | rfl) ?_ | refine SD.s i4 rfl i4 i4 ?_ | fail))
  refine(zM)<|(cF) ?_;refine aE.ret ?_;refine .inr ⟨rfl,?_⟩;exact zO [.tmp 2] (hq:=by (try simp only[ew,bH]);first | done | (rw[hv,hmid,hno (by simp[ju,ww c2])];rfl))
 cases c3:decide (1000000<b);rotate_left
 ·refine(zs) ?_;refine oS [0,1,3,7,15,31,63,127,255,511,63,1087,3135,7231,16383,32767,65535,131071,262143,524287,1048575,2097151,4194303] ?_;refine(uD (cG c1 c2 c3))<|(zM)<|(cF) ?_;refine aE.ret ?_;refine .inr ⟨rfl,?_⟩;exact zO [.tmp 2] (hq:=by (try simp only[ew,bH]);first | done | (rw[hv,hmid,hno (by simp[ju,ww c3])];rfl))
 refine(zs) ?_;refine oS [0,1,3,7,15,31,63,127,255,511,63,1087,3135,7231,16383,32767,65535,131071,262143,524287,1048575,2097151,4194303] ?_;refine(uD (cG c1 c2 c3))<|(zM)<|(zN) ?_
 obtain⟨y1,y2,y3⟩:=hyes (by rw[ju,c1,c2,c3];rfl);refine(aw (Ee (show -9223372036854775808<=(k:Int)+1/\(k:Int)+1<=9223372036854775807 from⟨by omega,by omega⟩))) ?_;refine⟨3-(k+1),_,by omega,zH,k+1,by omega,rfl,y1,y2,y3,rfl⟩
structure bB where
 key:List Nat
 value:List Nat
structure ai where
 name:List Nat
 kind:List Nat
 aR:List Nat
 slot:List Nat
 made:Int
 since:Int
 bo:Bool
 props:List bB
 l1:Int
 l2:Int
 l3:Int
 l4:Int
 l5:Int
 l6:Int
def aH(p:bB):List SV:=[ah p.key,ah p.value]
def ae(p:ai):List SV:=[ah p.name,ah p.kind,ah p.aR,ah p.slot,ab p.made,ab p.since,ak p.bo,an 2 p.props aH,ab p.l1,ab p.l2,ab p.l3,ab p.l4,ab p.l5,ab p.l6]
def ai.zero:ai:=⟨[],[],[],[],0,0,false,[],0,0,0,0,0,0⟩
def eu:List (List Nat)->Bool
 | a::b::r=>fe a b&&eu (b::r)
 | _=>true
def yU:∀{l:List (List Nat)},(∀(i:Nat) a b,l[i]?=some a->l[i+1]?=some b->fe a b=true)->eu l=true
 | [],_=>rfl
 | [_],_=>rfl
 | a::b::r,h=>by
  rw[eu,h 0 a b rfl rfl,dv];exact yU λi x y h1 h2=>h (i+1) x y h1 h2
def Db:∀{l:List (List Nat)} {i:Nat} {a b:List Nat},l[i]?=some a->l[i+1]?=some b->fe a b=false->eu l=false
 | [],i,_,_,h,_,_=>by simp at h
 | [_],i,_,_,_,h,_=>by simp at h
 | x::y::r,0,a,b,h1,h2,h3=>by cases h1;cases h2;rw[eu,h3];rfl
 | x::y::r,i+1,a,b,h1,h2,h3=>by
  rw[eu,Db (l:=y::r) (i:=i) h1 h2 h3,d4]
def qm{α β:Type}{f:α->β}{l:List α}{i:Nat}{b:β}(h:(l.map f)[i]?=some b):∃a,l[i]?=some a/\f a=b:=by
 rw[al] at h;obtain⟨a,h1,h2⟩:=au h;exact⟨a,h1,h2⟩
def ui(s:List Nat):PC prog 261 [.ag (ah s::ci 1 .any)] (·=ah s):=by
 refine pB 5 Tryz.func261 ?_;refine(aw QE)<|(zV)<|(zE) ?_;exact Bf.of (rs:=[.tmp 2]) rfl rfl zl (Wk.refl rfl) zq
def DT(l:List bB)(hlen:l.length<=1000000):PC prog 260 [an 2 l aH,.fn 261 [] []] (·=ak (eu (l.map bB.key))):=by
 refine pB 26 Tryz.func260 ?_;refine(oa) ?_
 (repeat refine aE.seq ?_)
 refine aE.block (aE.loop (λm st=>∃k:Nat,1<=k/\m=l.length-k/\(∀(i:Nat) a b,i+1<k->l[i]?=some a->l[i+1]?=some b->fe a.key b.key=true)/\st=⟨[(0,an 2 l aH),(1,.fn 261 [] []),(5,ab k)],26,[],[]⟩) (l.length-1) zH ⟨1,by omega,rfl,λi a b h=>un h i5,rfl⟩ (by rintro m st ⟨k,_,_,_,rfl⟩;rfl) ?_);rintro m st ⟨k,hk,rfl,hall,rfl⟩;refine(zV) ?_;by_cases hlt:k<l.length;rotate_left
 ·rw[show decide ((k:Int)<(l.length:Int))=false by simp only[wn];omega]
  refine(gh)<|(zV) ?_
  exact zo [.tmp 4] (hq:=by rw[yU λi a b h1 h2=>by
   obtain⟨x,hx,rfl⟩:=qm h1;obtain⟨y,hy,rfl⟩:=qm h2
   exact hall i x y (by have:=br hy;omega) hx hy])
 rw[show decide ((k:Int)<(l.length:Int))=true by simp only[wp];omega];obtain⟨j,rfl⟩:∃j,k=j+1:=⟨k-1,by omega⟩;obtain⟨x,hx⟩:∃x,l[j]?=some x:=⟨l[j],li i5⟩;obtain⟨y,hy⟩:∃y,l[j+1]?=some y:=⟨l[j+1],li hlt⟩
 have hj:j<l.length:=by omega
 refine(gB)<|(zs) ?_;refine oS [0,0,0,4,14,30,63,0,0,0,768,1792,4095,8191] ?_
 (repeat (first | refine SD.r i4 rfl i4 i4 (rX (lM (bS (((j+1:Nat):Int)) 1 i5) (show((j+1:Nat):Int)-1=(j:Int) from by omega) hj (aQ (e:=2) (enc:=aH) (λ_=>rfl) hx) @aH.eq_1)) ?_ | refine SD.s i4 rfl i4 i4 ?_ | fail))
 refine SD.k i4 rfl rfl i4 rfl rfl zc (ui x.key) (.cons (.ag (.cons (.a _) (.cons (.any _) .nil))) .nil) rfl ?_;refine(uD (cG hlt (aQ (e:=2) (enc:=aH) (λ_=>rfl) hy) @aH.eq_1)) ?_;refine SD.k i4 rfl rfl i4 rfl rfl zc (ui y.key) (.cons (.ag (.cons (.a _) (.cons (.any _) .nil))) .nil) rfl ?_;refine(uD @xU)<|(zM) ?_
 cases g:fe x.key y.key
 ·exact(cF)<|zo [.tmp 4] (hq:=by rw[Db (i:=j) (a:=x.key) (b:=y.key) (by rw[al,hx];rfl) (by rw[al,hy];rfl) g])
 ·refine(zN)<|(zs) ?_;refine aE.r0 i4 (rX (bA (((j+1:Nat):Int)) 1 i5)) ?_;refine⟨l.length-(j+1+1),_,by omega,zH,j+1+1,by omega,rfl,?_,rfl⟩
  intro i a b hi ha hb;by_cases hij:i=j
  ·subst hij;rw[hx] at ha;rw[hy] at hb;cases ha;cases hb;exact g
  ·exact hall i a b i5 ha hb
def uh(s:List Nat):PC prog 187 [.ag (ah s::ci 13 .any)] (·=ah s):=by
 refine pB 5 Tryz.func187 ?_;refine(aw QE)<|(zV)<|(zE) ?_;exact Bf.of (rs:=[.tmp 2]) rfl rfl zl (Wk.refl rfl) zq
def DS(l:List ai)(hlen:l.length<=1000000):PC prog 186 [an 14 l ae,.fn 187 [] []] (·=ak (eu (l.map ai.name))):=by
 refine pB 26 Tryz.func186 ?_;refine(oa) ?_
 (repeat refine aE.seq ?_)
 refine aE.block (aE.loop (λm st=>∃k:Nat,1<=k/\m=l.length-k/\(∀(i:Nat) a b,i+1<k->l[i]?=some a->l[i+1]?=some b->fe a.name b.name=true)/\st=⟨[(0,an 14 l ae),(1,.fn 187 [] []),(5,ab k)],26,[],[]⟩) (l.length-1) zH ⟨1,by omega,rfl,λi a b h=>un h i5,rfl⟩ (by rintro m st ⟨k,_,_,_,rfl⟩;rfl) ?_);rintro m st ⟨k,hk,rfl,hall,rfl⟩;refine(zV) ?_;by_cases hlt:k<l.length;rotate_left
 ·rw[show decide ((k:Int)<(l.length:Int))=false by simp only[wn];omega]
  refine(gh)<|(zV) ?_
  exact zo [.tmp 4] (hq:=by rw[yU λi a b h1 h2=>by
   obtain⟨x,hx,rfl⟩:=qm h1;obtain⟨y,hy,rfl⟩:=qm h2
   exact hall i x y (by have:=br hy;omega) hx hy])
 rw[show decide ((k:Int)<(l.length:Int))=true by simp only[wp];omega];obtain⟨j,rfl⟩:∃j,k=j+1:=⟨k-1,by omega⟩;obtain⟨x,hx⟩:∃x,l[j]?=some x:=⟨l[j],li i5⟩;obtain⟨y,hy⟩:∃y,l[j+1]?=some y:=⟨l[j+1],li hlt⟩
 have hj:j<l.length:=by omega
 refine(gB)<|(zs) ?_;refine oS [0,0,0,4,14,30,63,0,0,0,768,1792,4095,8191] ?_
 (repeat (first | refine SD.r i4 rfl i4 i4 (rX (lM (bS (((j+1:Nat):Int)) 1 i5) (show((j+1:Nat):Int)-1=(j:Int) from by omega) hj (aQ (e:=14) (enc:=ae) (λ_=>rfl) hx) @ae.eq_1)) ?_ | refine SD.s i4 rfl i4 i4 ?_ | fail))
 refine SD.k i4 rfl rfl i4 rfl rfl zc (uh x.name) (.cons (.ag (.cons (.a _) (.cons (.any _) (.cons (.any _) (.cons (.any _) (.cons (.any _) (.cons (.any _) (.cons (.any _) (.cons (.any _) (.cons (.any _) (.cons (.any _) (.cons (.any _) (.cons (.any _) (.cons (.any _) (.cons (.any _) .nil))))))))))))))) .nil) rfl ?_;refine(uD (cG hlt (aQ (e:=14) (enc:=ae) (λ_=>rfl) hy) @ae.eq_1)) ?_;refine SD.k i4 rfl rfl i4 rfl rfl zc (uh y.name) (.cons (.ag (.cons (.a _) (.cons (.any _) (.cons (.any _) (.cons (.any _) (.cons (.any _) (.cons (.any _) (.cons (.any _) (.cons (.any _) (.cons (.any _) (.cons (.any _) (.cons (.any _) (.cons (.any _) (.cons (.any _) (.cons (.any _) .nil))))))))))))))) .nil) rfl ?_;refine(uD @xU)<|(zM) ?_
 cases g:fe x.name y.name
 ·exact(cF)<|zo [.tmp 4] (hq:=by rw[Db (i:=j) (a:=x.name) (b:=y.name) (by rw[al,hx];rfl) (by rw[al,hy];rfl) g])
 ·refine(zN)<|(zs) ?_;refine aE.r0 i4 (rX (bA (((j+1:Nat):Int)) 1 i5)) ?_;refine⟨l.length-(j+1+1),_,by omega,zH,j+1+1,by omega,rfl,?_,rfl⟩
  intro i a b hi ha hb;by_cases hij:i=j
  ·subst hij;rw[hx] at ha;rw[hy] at hb;cases ha;cases hb;exact g
  ·exact hall i a b i5 ha hb
def GC{S:List SO}{o:Nat}{l:List (List Nat×Int)}(s:List Nat)(ok:Bool)(hS:S[o]?=some (bE AV.str ab l)):jd prog S 118 (.map o) (.a (.str s)) ok=some (cond ok (.cm [ab (getM 0 s l),ak (dx s l)]) (ab (getM 0 s l))):=
 NL (uv:=ab) (u0:=0) (k:=s) (kt:=9) (et:=3) (z:=.int .i64 0) (by simp only[aJ]) l8 (by simp only[aJ]) rfl hS rfl ok
def I4{S:List SO}{o:Nat}{l:List (List Nat×Int)}(s:List Nat)(u:Int)(hS:S[o]?=some (bE AV.str ab l)):iq prog S 118 (.map o) (.a (.str s)) (.a (.int .i64 u))=some (S.set o (bE AV.str ab (cq s u l))):=
 Ig (uv:=ab) (kt:=9) (et:=3) (by simp only[aJ]) l8 hS rfl u
def vY{S:List SO}{l:List (List Nat×Int)}(s:List Nat)(ok:Bool):jd prog S 118 (lS AV.str ab l) (.a (.str s)) ok=some (cond ok (.cm [ab (getM 0 s l),ak (dx s l)]) (ab (getM 0 s l))):=
 Ri (uv:=ab) (u0:=0) (k:=s) (kt:=9) (et:=3) (z:=.int .i64 0) (by simp only[aJ]) l8 (by simp only[aJ]) rfl rfl ok
def mX:Nat->List (List Nat×Int)->List ai->List (List Nat×Int)
 | _,m,[]=>m
 | i,m,p::ps=>mX (i+1) (if dx p.name m=true then m else cq p.name i m) ps
def Ce(ps:List ai):SV:=.ag [an 14 ps ae,lS AV.str ab (mX 0 [] ps)]
def rz(ps:List ai)(hlen:ps.length<=1000000):PC prog 55 [.ag [an 14 ps ae]] (·=Ce ps):=by
 refine pB 37 Tryz.func55 ?_;refine(oa)<|(zV)<|(zs) ?_;refine Hf ps (λk (m0:List (List Nat×Int))=>mX 0 [] ps=mX k m0 (ps.drop k)) (λk m0=>[(2,.ptr 1 0),(3,.ptr 3 0),(13,an 14 ps ae),(14,ab ps.length),(15,ab k)]) (λk m0=>[.gone,.cells [.a (.slice none 0 0 (some 0)),.a (.map none)],bE AV.str ab m0,.cells [an 14 ps ae,.map 2]]) ([]) zH i4 ?_;intro k m0 hk hall;refine zT ps k ?_ ?_;rintro rfl;rotate_left;intro x hx hlt;rotate_left
 ·exact(gh)<|(zV)<|zo [.cell 2 120] (r:=.ag [an 14 ps ae,lS AV.str ab m0]) (hw:=Wk.ag (.cons (.sl _ _ _) (.cons (l9 (λ_=>rfl) rfl) .nil))) (hq:=by rw[Ce,hall,ca];rfl)
 rw[eR hx] at hall
 refine(gB)<|(aw (gm hlt (aQ (e:=14) (enc:=ae) (λ_=>rfl) hx) @ae.eq_1 @R4))<|(zs) ?_;refine aE.r0 i4 (by simp only[dJ,cj,an,aJ,m8,m7,↓reduceIte,aa,ad,af,ac,aj,ar,az,bT,GC (l:=m0)];first | done | rfl) ?_;refine(zV) ?_
 cases h1:dx x.name m0
 ·refine(zY)<|(zs) ?_;refine aE.r0 i4 (by simp only[dJ,cj,an,aJ,m8,m7,↓reduceIte,aa,ad,af,ac,aj,ar,az,bT,I4 (l:=m0)];first | done | rfl) ?_;refine(aw (zi hlt hlen)) ?_;refine wq hlt (cq x.name (k:Int) m0) zH (show mX 0 [] ps=mX (k+1) (cq x.name (k:Int) m0) (ps.drop (k+1)) by rw[hall,mX,h1];rfl)
 ·refine(zN)<|(aw (zi hlt hlen)) ?_;refine wq hlt (m0) zH (show mX 0 [] ps=mX (k+1) m0 (ps.drop (k+1)) by rw[hall,mX,ut h1])
def pn(ps:List ai)(m:List (List Nat×Int))(name:List Nat):Option ai:=if dx name m=true then ps[(getM 0 name m).toNat]? else none
def RD(ps:List ai)(m:List (List Nat×Int)):Prop:=∀name,dx name m=true->∃k:Nat,getM 0 name m=(k:Int)/\k<ps.length
def mU(ps:List ai)(m:List (List Nat×Int))(name:List Nat)(hm:RD ps m):PC prog 113 [.ag [an 14 ps ae,lS AV.str ab m],ah name] (·=iV ae ai.zero (pn ps m name)):=by
 refine pB 23 Tryz.func113 ?_;refine(zV)<|(aw @vY)<|(zV) ?_
 cases h1:dx name m
 ·exact(cF)<|jW [.cell 4 56,.tmp 5] (r:=.cm [.ag [ah [],ah [],ah [],ah [],ab 0,ab 0,ak false,.sl 0 2 [],ab 0,ab 0,ab 0,ab 0,ab 0,ab 0],ak false]) (hw:=zv) (hq:=by rw[pn,h1];rfl)
 obtain⟨k,hk,hlt⟩:=hm name h1;obtain⟨x,hx⟩:∃x,ps[k]?=some x:=⟨ps[k],li hlt⟩
 exact(zN)<|(aw (gm hk hlt (aQ (e:=14) (enc:=ae) (λ_=>rfl) hx) @ae.eq_1))<|jW [.cell 4 56,.tmp 5] (hq:=by rw[pn,ut h1,hk,Int.toNat_natCast,hx];rfl)
def Co:∀{ps l:List ai} {i:Nat} {m:List (List Nat×Int)},i+ps.length=l.length->RD l m->RD l (mX i m ps)
 | [],_,_,_,_,h=>h
 | p::ps,l,i,m,hl,h=>by
  rw[mX];refine Co (by rw[jp] at hl;omega) ?_;split
  ·exact h
  ·intro name hn;by_cases e:name=p.name
   ·subst e;exact⟨i,by rw[kO,ut rfl],by rw[jp] at hl;omega⟩
   ·rw[qo,wd e,dl] at hn;rw[kO,v6 e];exact h name hn
def rD(a b:Int):Bool:=decide (0<=a)&&(decide (a<=b)&&decide (b<=1000000000000))
def nz(x:bB):Bool:=cH x.key&&(!(decide (x.value=[]))&&decide ((x.value.length:Int)<=200))
def zI(a b:Int):PC prog 258 [.ag [ab a,ab b]] (·=ak (rD a b)):=by
 refine pB 18 Tryz.func258 ?_;refine(zV) ?_;cases h1:decide (0<=a)
 ·exact(aw h1)<|zo [.tmp 2] (hq:=by rw[rD,h1];rfl)
 cases h2:decide (a<=b)
 ·exact(aw (bq h1 h2))<|zo [.tmp 2] (hq:=by rw[rD,h1,h2];rfl)
 ·exact(aw (bq h1 h2))<|zo [.tmp 2] (hq:=by rw[rD,h1,h2];rfl)
def L9(x:bB)(hx:fc x.key):PC prog 259 [.ag (aH x)] (·=ak (nz x)):=by
 refine pB 17 Tryz.func259 ?_;refine(aw @aH.eq_1)<|(zC)<|(zK (dS x.key hx)) ?_
 cases h1:cH x.key
 ·exact(zR)<|zo [.tmp 2] (hq:=by rw[nz,h1];rfl)
 cases h2:decide (x.value=[]);rotate_left
 ·exact(cJ h2)<|zo [.tmp 2] (hq:=by rw[nz,h1,h2];rfl)
 ·exact(cJ h2)<|zo [.tmp 2] (hq:=by rw[nz,h1,h2];rfl)
structure fj (p:ai):Prop where
 name:fc p.name
 kind:fc p.kind
 aR:fc p.aR
 slot:fc p.slot
 len:p.props.length<=1000000
 prop:∀x∈p.props,fc x.key/\fc x.value
def dC(c:List aL)(p:ai):Bool:=(dg c p.kind).isSome&&(cH p.name&&(!(decide (p.made<0))&&(!(decide (p.since<p.made))&&(!(decide (40000<p.since))&&(!(decide (60<(p.props.length:Int)))&&(p.props.all nz&&(eu (p.props.map bB.key)&&(rD p.l1 p.l2&&(rD p.l3 p.l4&&rD p.l5 p.l6)))))))))
def My{α:Type}{p:α->Bool}{l:List α}{k:Nat}{x:α}(h:l[k]?=some x):(l.drop k).all p=(p x&&(l.drop (k+1)).all p):=by rw[eR h,List.all_cons]
def I6(c:List aL)(p:ai)(hc:c.length<=1000000)(hp:fj p):PC prog 188 [.ag [an 3 c ao],.ag (ae p)] (·=ak (dC c p)):=by
 have hlen:=hp.len;refine pB 85 Tryz.func188 ?_
 obtain⟨q,b,h1,hb⟩:∃(q:aL) (b:Bool),iV ao aL.zero (dg c p.kind)=.cm [.ag (ao q),ak b]/\(dg c p.kind).isSome=b:=by
  cases hf:dg c p.kind with
  | none=>exact⟨aL.zero,false,rfl,rfl⟩
  | some q=>exact⟨q,true,rfl,rfl⟩
 have hF:=jk c p.kind hc;rw[h1] at hF
 refine(aw @ae.eq_1)<|(oa)<|(zC)<|(zK hF (hfl:=.inr (bg.refl rfl)))<|(cJ @ao.eq_1) ?_
 cases b
 ·exact(wY)<|(zV)<|zo [.tmp 4] (hq:=by rw[dC,hb];rfl)
 refine(zC)<|(zK (dS p.name hp.name)) ?_
 cases h2:cH p.name
 ·exact(zR)<|(cF)<|zo [.tmp 4] (hq:=by rw[dC,hb,h2];rfl)
 cases h3:decide (p.made<0);rotate_left
 ·exact(cJ h3)<|(cF)<|zo [.tmp 4] (hq:=by rw[dC,hb,h2,h3];rfl)
 cases h4:decide (p.since<p.made);rotate_left
 ·exact(cJ (bq h3 h4))<|(cF)<|zo [.tmp 4] (hq:=by rw[dC,hb,h2,h3,h4];rfl)
 cases h5:decide (40000<p.since);rotate_left
 ·exact(cJ (cG h3 h4 h5))<|(cF)<|zo [.tmp 4] (hq:=by rw[dC,hb,h2,h3,h4,h5];rfl)
 cases h6:decide (60<(p.props.length:Int));rotate_left
 ·exact(cJ (gm h3 h4 h5 h6))<|(cF)<|zo [.tmp 4] (hq:=by rw[dC,hb,h2,h3,h4,h5,h6];rfl)
 refine(cJ (gm h3 h4 h5 h6))<|(zN) ?_
 have hv:dC c p=(p.props.all nz&&(eu (p.props.map bB.key)&&(rD p.l1 p.l2&&(rD p.l3 p.l4&&rD p.l5 p.l6)))):=by rw[dC,hb,h2,h3,h4,h5,h6];rfl
 refine(zV)<|(zs) ?_;refine zL p.props (λk=>p.props.all nz=(p.props.drop k).all nz) (λk=>[(3,.ptr 1 0),(5,.fn 258 [] []),(6,.fn 259 [] []),(50,an 2 p.props aH),(51,ab p.props.length),(52,ab k)]) (λk=>[.gone,.cells (ae p)]) (bX @ae.eq_1) i4 ?_;intro k hk hall;refine zT p.props k ?_ ?_;rintro rfl;rotate_left;intro x hx hlt;rotate_left
 ·refine(gh) ?_;rw[ca] at hall
  refine(fb @ae.eq_1)<|(zK (DT p.props hlen)) ?_
  cases g1:eu (p.props.map bB.key)
  ·exact(zR)<|zo [.tmp 4] (hq:=by rw[hv,hall,g1];rfl)
  refine(zQ)<|(zK (zI p.l1 p.l2)) ?_
  cases g2:rD p.l1 p.l2
  ·exact(zR)<|zo [.tmp 4] (hq:=by rw[hv,hall,g1,g2];rfl)
  refine(zQ)<|(zK (zI p.l3 p.l4)) ?_
  cases g3:rD p.l3 p.l4
  ·exact(zR)<|zo [.tmp 4] (hq:=by rw[hv,hall,g1,g2,g3];rfl)
  exact(zQ)<|(zK (zI p.l5 p.l6))<|(zR)<|zo [.tmp 4] (hq:=by rw[hv,hall,g1,g2,g3];rfl)
 rw[My hx] at hall
 refine(gB)<|(aw (gm hlt (aQ (e:=2) (enc:=aH) (λ_=>rfl) hx) @aH.eq_1 @ae.eq_1))<|(zC)<|(zK (L9 x (hp.prop x (mem_iff_getElem?.2 ⟨k,hx⟩)).1)) ?_
 cases g1:nz x
 ·exact(zR)<|(cF)<|zo [.tmp 4] (hq:=by rw[hv,hall,g1];rfl)
 ·refine(zR)<|(zN)<|(aw (zi hlt hlen)) ?_;refine zX hlt (bX @ae.eq_1) (show p.props.all nz=(p.props.drop (k+1)).all nz by rw[hall,g1];rfl)
structure fF where
 aR:List Nat
 slot:List Nat
 deriving DecidableEq
def fF.av(s:fF):List AV:=[.str s.aR,.str s.slot]
def ze(s:fF):AV:=.agg s.av
def fF.eq(a b:fF):fN eC a.av b.av=decide (a=b):=by
 obtain⟨a1,a2⟩:=a;obtain⟨b1,b2⟩:=b;simp only[fF.av,fN,eC,j9,dd,fF.mk.injEq,f5]
def Ag:Keys prog 248 ze:=
 uY (ks:=[.s,.s]) zW (by simp only[aJ,m7]) (λ_=>rfl) fF.eq λ_=>rfl
def rV{S:List SO}{o:Nat}{l:List (fF×Bool)}(a b:List Nat)(ok:Bool)(hS:S[o]?=some (bE ze ak l)):jd prog S 245 (.map o) (.ag [ah a,ah b]) ok=some (cond ok (.cm [ak (getM false (⟨a,b⟩:fF) l),ak (dx (⟨a,b⟩:fF) l)]) (ak (getM false (⟨a,b⟩:fF) l))):=
 NL (uv:=ak) (u0:=false) (k:=(⟨a,b⟩:fF)) (kt:=248) (et:=4) (z:=.bool false) (by simp only[aJ]) Ag (by simp only[aJ]) rfl hS rfl ok
def DZ{S:List SO}{o:Nat}{l:List (fF×Bool)}(a b:List Nat)(u:Bool)(hS:S[o]?=some (bE ze ak l)):iq prog S 245 (.map o) (.ag [ah a,ah b]) (.a (.bool u))=some (S.set o (bE ze ak (cq (⟨a,b⟩:fF) u l))):=
 Ig (uv:=ak) (k:=(⟨a,b⟩:fF)) (kt:=248) (et:=4) (by simp only[aJ]) Ag hS rfl u
def oB{n:Nat}{l:List (fF×Bool)}:cE n (bE ze ak l)=bE ze ak l:=mh λ_=>lY _
def Ca(a b:Bool):da prog .neq 4 (.bool a) (.bool b)=some (.bool (!(a==b))):=by
 have h1:prog.eqGuardType prog.depth 4=false:=by kernel_rfl
 have h2:prog.underlying 4=some .bool:=by kernel_rfl
 have h3:lk prog 8 4 (.bool a) (.bool b)=some (a==b):=by unfold lk;rw[h2]
 show cond (prog.eqGuardType prog.depth 4) none ((lk prog 8 4 (.bool a) (.bool b)).map λb=>AV.bool (!b))=_;rw[h1,az,h3];rfl
def rL(c:List aL)(taken:List (fF×Bool))(p:ai):Option ai->Bool
 | some h=>!(p.bo||(h.bo||(getM false ⟨p.aR,p.slot⟩ taken||!lC c h.kind p.slot p.kind)))
 | none=>false
def fa(c:List aL)(ps:List ai)(m:List (List Nat×Int)):List (fF×Bool)->List ai->Bool
 | _,[]=>true
 | taken,p::r=>dC c p&&((decide (p.aR=[])==decide (p.slot=[]))&&cond (decide (p.aR=[])) (fa c ps m taken r) (rL c taken p (pn ps m p.aR)&&fa c ps m (cq ⟨p.aR,p.slot⟩ true taken) r))
def dF(c:List aL)(ps:List ai):Bool:=og c&&(!(decide (20000<(ps.length:Int)))&&(eu (ps.map ai.name)&&fa c ps (mX 0 [] ps) [] ps))
def Eb(ps:List ai):RD ps []:=λname h=>by cases h
def GW(c:List aL)(ps:List ai)(hc:mr c)(hlen:ps.length<=1000000)(hps:∀p∈ps,fj p):PC prog 107 [.ag [an 3 c ao],.ag [an 14 ps ae]] (·=ak (Proofs.dF c ps)):=by
 have hct:∀k∈c,k.bJ.length<=1000000/\∀s∈k.bJ,s.kinds.length<=1000000:=λk hk=>⟨(hc.kind k hk).2,λs hs=>(hc.slot k hk s hs).2⟩;have hy:RD ps (mX 0 [] ps):=Co i5 (Eb ps)
 refine pB 94 Tryz.func107 ?_;refine(jt)<|(zK (nI c hc)) ?_
 cases h1:og c
 ·exact(zR)<|(cF)<|zo [.tmp 4] (hq:=by rw[Proofs.dF,h1];rfl)
 cases h2:decide (20000<(ps.length:Int));rotate_left
 ·exact(cJ h2)<|(cF)<|zo [.tmp 4] (hq:=by rw[Proofs.dF,h1,h2];rfl)
 refine(Mk h2)<|(zK (DS ps hlen)) ?_
 cases h3:eu (ps.map ai.name)
 ·exact(zR)<|(cF)<|zo [.tmp 4] (hq:=by rw[Proofs.dF,h1,h2,h3];rfl)
 refine(zR)<|(zN) ?_
 have hv:Proofs.dF c ps=fa c ps (mX 0 [] ps) [] ps:=by rw[Proofs.dF,h1,h2,h3];rfl
 clear h1 h2 h3
 refine(zC)<|(zK (rz ps hlen) (hfl:=.inr (bg.refl rfl))) ?_
 generalize hM:mX 0 [] ps=M at hv hy
 refine(cJ (bq @Ce.eq_1 hM))<|(oa)<|(zs) ?_;refine Hf ps (λk (taken:List (fF×Bool))=>fa c ps M [] ps=fa c ps M taken (ps.drop k)) (λk taken=>[(2,.ptr 0 0),(5,.ptr 2 0),(6,.map 3),(31,an 14 ps ae),(32,ab ps.length),(33,ab k)]) (λk taken=>[.cells [an 3 c ao],.gone,.cells [an 14 ps ae,lS AV.str ab M],bE ze ak taken]) ([]) zH i4 ?_;intro k taken hk hall;refine zT ps k ?_ ?_;rintro rfl;rotate_left;intro p hx hlt;rotate_left
 ·exact(gh)<|(zV)<|zo [.tmp 4] (hq:=by rw[hv,hall,ca];rfl)
 have no:fa c ps M taken (ps.drop k)=false->Proofs.dF c ps=false:=λh=>by rw[hv,hall,h]
 rw[eR hx] at no hall;have hp:=hps p (mem_iff_getElem?.2 ⟨k,hx⟩)
 refine(gB)<|(aw (gm hlt (aQ (e:=14) (enc:=ae) (λ_=>rfl) hx) @ae.eq_1 @oB))<|(zC)<|(zK (I6 c p hc.len hp)) ?_
 cases g1:dC c p
 ·exact(zR)<|(cF)<|zo [.tmp 4] (hq:=by rw[no (by simp[fa,g1])])
 cases g2:(decide (p.aR=[])==decide (p.slot=[]))
 ·exact(cJ (bq @Ca g2))<|(cF)<|zo [.tmp 4] (hq:=by rw[no (by simp only[fa,g1,g2,dv,ch])])
 refine(cJ (bq @Ca g2))<|(kY) ?_
 cases g3:decide (p.aR=[]);rotate_left
 ·refine(zY) ?_;refine aE.exit ?_
  (try change aE _ _ _ _ _)
  refine(aw (zi hlt hlen)) ?_;refine wq hlt (taken) zH (show fa c ps M [] ps=fa c ps M taken (ps.drop (k+1)) by rw[hall,fa,g1,g2,g3];rfl)
 refine(zN) ?_
 have hpv:∀r,fa c ps M taken (p::r)=(rL c taken p (pn ps M p.aR)&&fa c ps M (cq ⟨p.aR,p.slot⟩ true taken) r):=by intro r;rw[fa,g1,g2,g3];rfl
 rw[hpv] at no hall;refine(zC) ?_;have hG:=mU ps M p.aR hy
 cases hg:pn ps M p.aR with
 | none=>
  rw[hg] at hG no
  exact(zK hG (hfl:=.inr (bg.refl rfl)))<|(cJ (gm @iV.eq_1 @ae.eq_1 @ai.zero.eq_1 @oB))<|(aw @oB)<|(wY)<|(zV)<|zo [.tmp 4] (hq:=by rw[no rfl])
 | some h=>
  rw[hg] at hG no hall
  refine(zK hG (hfl:=.inr (bg.refl rfl)))<|(cJ (cG @iV.eq_1 @ae.eq_1 @oB))<|(aw @oB) ?_
  cases f1:p.bo;rotate_left
  ·exact(wY)<|(zV)<|zo [.tmp 4] (hq:=by rw[no (by simp[rL,f1])])
  cases f2:h.bo;rotate_left
  ·exact(wY)<|(zV)<|zo [.tmp 4] (hq:=by rw[no (by simp[rL,f2])])
  cases f3:getM false (⟨p.aR,p.slot⟩:fF) taken;rotate_left
  ·refine(zs) ?_;refine aE.r0 i4 (by simp only[dJ,cj,an,aJ,m8,m7,↓reduceIte,aa,ad,af,ac,aj,ar,az,bT,rV (l:=taken),f3];first | done | rfl) ?_;exact(cF)<|zo [.tmp 4] (hq:=by rw[no (by simp[rL,f3])])
  refine(zs) ?_;refine aE.Ro i4 (by simp only[dJ,cj,an,aJ,m8,m7,↓reduceIte,aa,ad,af,ac,aj,ar,az,bT,rV (l:=taken),f3];first | done | rfl) ?_;refine(zK (wj c h.kind p.slot p.kind hc.len hct)) ?_;cases f4:Proofs.lC c h.kind p.slot p.kind
  ·exact(zR)<|(cF)<|zo [.tmp 4] (hq:=by rw[no (by simp[rL,f4])])
  refine(zR)<|(zN)<|(zs) ?_;refine aE.r0 i4 (by simp only[dJ,cj,an,aJ,m8,m7,↓reduceIte,aa,ad,af,ac,aj,ar,az,bT,DZ (l:=taken)];first | done | rfl) ?_;refine(aw (zi hlt hlen)) ?_;refine wq hlt (cq ⟨p.aR,p.slot⟩ true taken) zH (show fa c ps M [] ps=fa c ps M (cq ⟨p.aR,p.slot⟩ true taken) (ps.drop (k+1)) by rw[hall,show rL c taken p (some h)=true by simp[rL,f1,f2,f3,f4]];rfl)
def xL(a b:Int):Int:=dP .i64 (a+b)
def ub(a b:Int):Int:=dP .i64 (a-b)
def Lp(a:Int):Int:=dP .i64 (0-a)
def sM{P:Program}{t:TypeId}(a b:Int):da P .add t (.int .i64 a) (.int .i64 b)=some (.int .i64 (xL a b)):=rfl
def oe{P:Program}{t:TypeId}(a b:Int):da P .sub t (.int .i64 a) (.int .i64 b)=some (.int .i64 (ub a b)):=rfl
def kS(a b:Int):SV:=.ag [ab a,ab b]
def mG(a b:Int):Bool:=decide (-1000000000000<=a)&&(decide (a<=b)&&decide (b<=1000000000000))
def oP(a b:Int):PC prog 221 [kS a b] (·=ak (mG a b)):=by
 refine pB 18 Tryz.func221 ?_;refine(aw @kS.eq_1) ?_;cases h1:decide (-1000000000000<=a)
 ·exact(aw h1)<|zo [.tmp 2] (hq:=by rw[mG,h1];rfl)
 cases h2:decide (a<=b)
 ·exact(aw (bq h1 h2))<|zo [.tmp 2] (hq:=by rw[mG,h1,h2];rfl)
 exact(aw (bq h1 h2))<|zo [.tmp 2] (hq:=by rw[mG,h1,h2];rfl)
def e7(a b:Int):Int:=if a<=b then a else b
def dN(a b:Int):Int:=if b<=a then a else b
def jf(a b:Int):yQ false (.int .i64 a) (.int .i64 b)=some (.int .i64 (e7 a b)):=NO
def ff(a b:Int):yQ true (.int .i64 a) (.int .i64 b)=some (.int .i64 (dN a b)):=NN
def QI(n:Int):Int:=dN (-1000000000000) (e7 n 1000000000000)
def qI(n:Int):PC prog 268 [ab n] (·=ab (QI n)):=by
 refine pB 6 Tryz.func268 ?_;exact(zV)<|(aw (bq @jf @ff))<|zo [.tmp 2]
def gy(a b:Int):Int:=QI (xL a b)
def C1(a b:Int):Int:=QI (ub a b)
def L8(a b:Int):PC prog 202 [ab a,ab b] (·=ab (gy a b)):=by
 refine pB 9 Tryz.func202 ?_;exact(zV)<|(fb @sM)<|(zK (qI _))<|(zR)<|zo [.tmp 4]
def IW(a b:Int):PC prog 353 [ab a,ab b] (·=ab (C1 a b)):=by
 refine pB 9 Tryz.func353 ?_;refine(zV)<|(fb @oe)<|(zK (qI _))<|(zR)<|(zE) ?_;exact Bf.of (rs:=[.tmp 4]) rfl rfl zl (Wk.refl rfl) zq
def Bs{f:Int->Int->Int}{r:List Int}{j:Nat}{x y:Int}(h:r[j]?=some x):(r.take (j+1)).foldl f y=f ((r.take j).foldl f y) x:=by
 rw[List.take_add_one,h,Option.toList_some,List.foldl_append];rfl
def Q9{p:Prop} (h:p:=by
  refine pB 25 vae ?_;refine(zV)<|(aw (bq @jp.{0} (show decide (((r.length+1:Nat):Int)<1)=false by simp only[wn];omega)))<|(zN)<|(aw (gm @jp.{0} @Nat.zero_lt_succ (aQ (l:=a::r) (e:=1) (enc:=aB ab) (λ_=>rfl) (show(a::r)[0]?=some a from rfl)) @aB.eq_1))<|(zV) ?_
  (repeat refine aE.seq ?_)
  refine aE.block (aE.loop (λm st=>∃j:Nat,j<=r.length/\m=r.length-j/\st=⟨[(0,an 1 (a::r) (aB ab)),(3,ab ((r.take j).foldl vaf a)),(4,ab ((j+1:Nat):Int))],25,[],[]⟩) r.length (bX (bq @List.take_zero.{0} @List.foldl_nil.{0,0})) ⟨0,Nat.zero_le _,rfl,rfl⟩ (by rintro m st ⟨j,_,_,rfl⟩;rfl) ?_);rintro m st ⟨j,hj,rfl,rfl⟩;refine(aw @jp.{0}) ?_;by_cases hlt:j<r.length;rotate_left
  ·rw[show decide (((j+1:Nat):Int)<((r.length+1:Nat):Int))=false by simp only[wn];omega]
   refine(gh)<|(zV) ?_
   obtain rfl:j=r.length:=by omega
   exact zo [.tmp 2] (hq:=by rw[List.take_length])
  rw[show decide (((j+1:Nat):Int)<((r.length+1:Nat):Int))=true by simp only[wp];omega];obtain⟨x,hx⟩:∃x,r[j]?=some x:=⟨r[j],li hlt⟩
  refine(gB)<|(aw (lM @jp.{0} (show j+1<r.length+1 by omega) (aQ (l:=a::r) (i:=j+1) (e:=1) (enc:=aB ab) (λ_=>rfl) (show(a::r)[j+1]?=some x from hx)) @aB.eq_1 @vag))<|(zs) ?_;refine aE.r0 i4 (rX (bA (((j+1:Nat):Int)) 1 i5)) ?_;exact⟨r.length-(j+1),_,by omega,(Fg.less (by (simp only[dJ,cj,fH,↓reduceIte,Nat.reduceEqDiff,Bs hx])<;>(repeat' apply And.intro)<;>first | rfl | trivial) (by (simp only[dJ,cj,or_true,true_or,Bs hx])<;>(repeat' apply And.intro)<;>first | exact .inr rfl | exact .inl rfl | trivial)),j+1,by omega,rfl,rfl⟩):p:=h
open Go.Proofs.Tryz renaming func309 -> vae in
open Go.Proofs renaming e7 -> vaf in
def Ja(a:Int)(r:List Int)(hlen:r.length<1000000):PC prog 309 [an 1 (a::r) (aB ab)] (·=ab (r.foldl e7 a)):=by
 have vag:=@jf;exact Q9
open Go.Proofs.Tryz renaming func310 -> vae in
open Go.Proofs renaming dN -> vaf in
def I9(a:Int)(r:List Int)(hlen:r.length<1000000):PC prog 310 [an 1 (a::r) (aB ab)] (·=ab (r.foldl dN a)):=by
 have vag:=@ff;exact Q9
def vQ(a:Int)(r:List Int)(hlen:r.length<1000000):PC prog 267 [an 1 (a::r) (aB ab)] (·=kS (r.foldl e7 a) (r.foldl dN a)):=by
 refine pB 8 Tryz.func267 ?_;exact(jt)<|(zK (Ja a r hlen))<|(zQ)<|(zK (I9 a r hlen))<|(zR)<|zo [.cell 2 52]
def ez(f:Int->Int->Int)(a b c d:Int):Int×Int:=
 if mG a b&&mG c d then (e7 (e7 (e7 (f a c) (f a d)) (f b c)) (f b d),dN (dN (dN (f a c) (f a d)) (f b c)) (f b d)) else (0,0)
def nZ(p:Int×Int):SV:=kS p.1 p.2
def vu(g:FuncId)(fn:Int->Int->Int)(hg:∀x y,PC prog g [ab x,ab y] (·=ab (fn x y)))(a b c d:Int):PC prog 201 [kS a b,kS c d,.fn g [] []] (·=nZ (ez fn a b c d)):=by
 refine pB 46 Tryz.func201 ?_;refine(aw @kS.eq_1)<|(zC)<|(zK (oP a b)) ?_
 cases h1:mG a b
 ·exact(zR)<|(cF)<|zo [.cell 6 52] (hq:=by rw[ez,h1];rfl)
 refine(zQ)<|(zK (oP c d)) ?_
 cases h2:mG c d
 ·exact(zR)<|(cF)<|zo [.cell 6 52] (hq:=by rw[ez,h1,h2];rfl)
 refine(zR)<|(zN)<|(zs) ?_;refine oS [0,1,0,4,0,16,0,64,3,271,831,2047] ?_;exact(zD)<|(zM)<|(zC)<|(zK (hg a c))<|(zQ)<|(zK (hg a d))<|(zQ)<|(zK (hg b c))<|(zQ)<|(zK (hg b d))<|(zQ)<|(zK (vQ (fn a c) [fn a d,fn b c,fn b d] (by show 3<1000000;omega)))<|(zR)<|zo [.cell 6 52] (hq:=by rw[ez,h1,h2];rfl)
def pN(a b c d:Int):PC prog 123 [kS a b,kS c d] (·=nZ (ez gy a b c d)):=by
 refine pB 8 Tryz.func123 ?_;exact(aw @kS.eq_1)<|(zC)<|(zK (vu 202 gy L8 a b c d))<|(cJ (bq @nZ.eq_1 @kS.eq_1))<|zo [.cell 4 52]
def IQ(a b c d:Int):PC prog 349 [kS a b,kS c d] (·=nZ (ez C1 a b c d)):=by
 refine pB 8 Tryz.func349 ?_;exact(aw @kS.eq_1)<|(zC)<|(zK (vu 353 C1 IW a b c d))<|(cJ (bq @nZ.eq_1 @kS.eq_1))<|zo [.cell 4 52]
def lV(a b c d:Int):Int×Int:=if mG a b&&mG c d then (e7 (e7 (e7 a b) c) d,dN (dN (dN a b) c) d) else (0,0)
def nG(a b c d:Int):PC prog 352 [kS a b,kS c d] (·=nZ (lV a b c d)):=by
 refine pB 24 Tryz.func352 ?_;refine(aw @kS.eq_1)<|(zC)<|(zK (oP a b)) ?_
 cases h1:mG a b
 ·exact(zR)<|(cF)<|zo [.cell 4 52] (hq:=by rw[lV,h1];rfl)
 refine(zQ)<|(zK (oP c d)) ?_
 cases h2:mG c d
 ·exact(zR)<|(cF)<|zo [.cell 4 52] (hq:=by rw[lV,h1,h2];rfl)
 exact(zR)<|(Mj)<|(zK (vQ a [b,c,d] (by show 3<1000000;omega)))<|(zR)<|zo [.cell 4 52] (hq:=by rw[lV,h1,h2];rfl)
def oH(a b n:Int):Int:=if (!mG a b)||decide (b<=n) then 0 else if n<a then 2 else 1
def qG(a b n:Int):PC prog 137 [kS a b,ab n] (·=ab (oH a b n)):=by
 refine pB 20 Tryz.func137 ?_;refine(aw @kS.eq_1)<|(zB)<|(zC)<|(zK (oP a b)) ?_
 cases h1:mG a b
 ·exact(zR)<|(cF)<|zo [.tmp 4] (hq:=by rw[oH,h1];rfl)
 cases h2:decide (b<=n);rotate_left
 ·exact(cJ h2)<|(cF)<|zo [.tmp 4] (hq:=by rw[oH,h1,h2];rfl)
 refine(cJ h2)<|(zN) ?_
 cases h3:decide (n<a)
 ·exact(aw h3)<|(kY)<|zo [.tmp 4] (hq:=by rw[oH,h1,h2,v6 (wt h3)];rfl)
 ·exact(aw h3)<|(cF)<|zo [.tmp 4] (hq:=by rw[oH,h1,h2,ut (ww h3)];rfl)
open Go.Ev Go.RowKit Go.Lib Go.Shelf
def GD(x y:Nat)(hx:x<18446744073709551616)(hy:y<18446744073709551616)(w:World):
 Calls prog 357 #[.int .u64 x,.int .u64 y] w λe w'=>e=.returned (.tuple #[.int .u64 ((x*y/18446744073709551616:Nat):Int),.int .u64 ((x*y%18446744073709551616:Nat):Int)])/\w'=w:=by
 obtain⟨bd,bt,bw,hhi⟩:=Lib.mul64_hi x y hx hy;have ba:=Lib.half_mul_le (a:=x/4294967296) (b:=y/4294967296) i5 i5;have bb:=Lib.half_mul_le (a:=x/4294967296) (b:=y%4294967296) i5 i5;have bc:=Lib.half_mul_le (a:=x%4294967296) (b:=y/4294967296) i5 i5
 have ba':x/4294967296*(y/4294967296)<18446744073709551616:=by omega
 have bb':x/4294967296*(y%4294967296)<18446744073709551616:=by omega
 have bc':x%4294967296*(y/4294967296)<18446744073709551616:=by omega
 have bh1:x/4294967296*(y/4294967296)+(x/4294967296*(y%4294967296)+x%4294967296*(y%4294967296)/4294967296)/4294967296<18446744073709551616:=by omega
 have bh:x/4294967296*(y/4294967296)+(x/4294967296*(y%4294967296)+x%4294967296*(y%4294967296)/4294967296)/4294967296+((x/4294967296*(y%4294967296)+x%4294967296*(y%4294967296)/4294967296)%4294967296+x%4294967296*(y/4294967296))/4294967296<18446744073709551616:=by omega
 go_enter func357,Tryz.ntmps357
 go_wp2
 simp only[Mul64.maskN x hx,Mul64.maskN y hy,Mul64.divN,Mul64.mulN,Mul64.addN,Mul64.wrapN _ bd,Mul64.wrapN _ bb',Mul64.wrapN _ bt,Mul64.maskN _ bt,Mul64.wrapN _ bc',Mul64.wrapN _ bw,Mul64.wrapN _ ba',Mul64.wrapN _ bh1,Mul64.wrapN _ bh,Mul64.wrapM (x*y)];rw[hhi]
 go_ret2
 exact⟨rfl,rfl⟩
def GF(x y:Nat)(hx:x<18446744073709551616)(hy:y<18446744073709551616):PC prog 357 [.a (.int .u64 x),.a (.int .u64 y)]
 (·=.cm [.a (.int .u64 ((x*y/18446744073709551616:Nat):Int)),.a (.int .u64 ((x*y%18446744073709551616:Nat):Int))]):=by
 intro ρ h avs _ hA;rw[dL] at hA;obtain⟨a,r,rfl,hA1,hA2⟩:=hA;rw[dL] at hA2;obtain⟨b,r2,rfl,hB1,hB2⟩:=hA2;rw[eP] at hB2;subst hB2;rw[GS] at hA1 hB1;subst hA1;subst hB1
 have hc:dU prog (.func 357) [.int .u64 x,.int .u64 y] h (λa h'=>a=.cm [.int .u64 ((x*y/18446744073709551616:Nat):Int),.int .u64 ((x*y%18446744073709551616:Nat):Int)]/\h'=h):=by
  intro σ w args' hv hr;obtain⟨v1,v2,rfl,k1,k2⟩:=Et hv;cases k1;cases k2;refine(AB dr func357 i4 hr (a:=.cm [.int .u64 ((x*y/18446744073709551616:Nat):Int),.int .u64 ((x*y%18446744073709551616:Nat):Int)]) (V.NQ (.cons (.int _ _) (.cons (.int _ _) .nil))) ((GD x y hx hy w).mono ?_)).mono ?_
  ·rintro e w' ⟨rfl,rfl⟩;exact⟨rfl,Below.refl _ _⟩
  ·rintro v w' ⟨a,h',hm,hg⟩;have:=t6 hm;cases this;exact⟨_,_,⟨rfl,rfl⟩,hg⟩
 refine hc.mono ?_;rintro v h' ⟨rfl,rfl⟩;refine⟨_,ρ,rfl,.refl _ _,λid ob hi=>.inl hi,?_⟩;rw[GS];exact⟨_,rfl,by rw[dL];exact⟨_,_,rfl,by rw[GS],by rw[dL];exact⟨_,_,rfl,by rw[GS],by rw[eP]⟩⟩⟩
def iN(a:Int):Nat:=(dP .u64 (dN a (Lp a))).toNat
def D9(n:Int):dP .u64 n=((dP .u64 n).toNat:Int)/\(dP .u64 n).toNat<18446744073709551616:=by
 have h:dP .u64 n=n%18446744073709551616:=by rw[gX];simp[IntKind.wrap,IntKind.bits,IntKind.signed]
 rw[h];omega
def sD(a:Int):SA .neg (.int .i64 a)=some (.int .i64 (Lp a)):=rfl
def zz(a b:Int):Int:=
 cond ((decide (a<0)) != (decide (b<0)))
  (Lp (if iN a*iN b/18446744073709551616=0/\iN a*iN b%18446744073709551616<=1000000000000 then dP .i64 ((iN a*iN b%18446744073709551616:Nat):Int) else 1000000000000))
  (if iN a*iN b/18446744073709551616=0/\iN a*iN b%18446744073709551616<=1000000000000 then dP .i64 ((iN a*iN b%18446744073709551616:Nat):Int) else 1000000000000)
def Dx(n:Int):mA prog 271 283 (.int .i64 n)=some (.int .u64 (dP .u64 n)):=by
 unfold mA;rw[show prog.underlying 271=some (.int .i64) by kernel_rfl,show prog.underlying 283=some (.int .u64) by kernel_rfl]
def Dy(n:Int):mA prog 283 271 (.int .u64 n)=some (.int .i64 (dP .i64 n)):=by
 unfold mA;rw[show prog.underlying 271=some (.int .i64) by kernel_rfl,show prog.underlying 283=some (.int .u64) by kernel_rfl]
def Uq{P:Program}{t:TypeId}(a b:Int):da P .eql t (.int .u64 a) (.int .u64 b)=some (.bool (decide (a=b))):=Cp rfl
def Sz{P:Program}{t:TypeId}(a b:Int):da P .leq t (.int .u64 a) (.int .u64 b)=some (.bool (decide (a<=b))):=Cq rfl
def Jc(a b:Int):PC prog 354 [ab a,ab b] (·=ab (zz a b)):=by
 refine pB 38 Tryz.func354 ?_;have hm:=GF (iN a) (iN b) (D9 _).2 (D9 _).2;rw[show((iN a:Nat):Int)=dP .u64 (dN a (Lp a)) from(D9 _).1.symm,show((iN b:Nat):Int)=dP .u64 (dN b (Lp b)) from(D9 _).1.symm] at hm;have ht:zz a b=cond ((decide (a<0)) != (decide (b<0))) (Lp (if iN a*iN b/18446744073709551616=0/\iN a*iN b%18446744073709551616<=1000000000000 then dP .i64 ((iN a*iN b%18446744073709551616:Nat):Int) else 1000000000000)) (if iN a*iN b/18446744073709551616=0/\iN a*iN b%18446744073709551616<=1000000000000 then dP .i64 ((iN a*iN b%18446744073709551616:Nat):Int) else 1000000000000):=rfl;generalize iN a*iN b/18446744073709551616=hi at hm ht;generalize iN a*iN b%18446744073709551616=lo at hm ht
 refine(zV)<|(fb (cG @sD @ff @Dx))<|(zK hm)<|(zR)<|(zV) ?_
 by_cases h1:hi=0/\lo<=1000000000000
 ·rw[ut h1] at ht
  refine(aw (gm @Uq @Sz (show decide ((hi:Int)=0)=true by simp;omega) (show decide ((lo:Int)<=1000000000000)=true by simp;omega)))<|(zY)<|(aw @Dy) ?_
  cases g1:decide (a<0)<;>cases g2:decide (b<0)
  ·rw[g1,g2] at ht
   exact(aw (bq g1 g2))<|(kY)<|zo [.tmp 4] (hq:=by rw[ht];rfl)
  ·rw[g1,g2] at ht
   exact(aw (bq g1 g2))<|(zY)<|(aw @sD)<|zo [.tmp 4] (hq:=by rw[ht];rfl)
  ·rw[g1,g2] at ht
   exact(aw (bq g1 g2))<|(zY)<|(aw @sD)<|zo [.tmp 4] (hq:=by rw[ht];rfl)
  ·rw[g1,g2] at ht
   exact(aw (bq g1 g2))<|(kY)<|zo [.tmp 4] (hq:=by rw[ht];rfl)
 ·rw[v6 h1] at ht;by_cases h2:hi=0
  ·refine(aw (gm @Uq @Sz (show decide ((hi:Int)=0)=true by simp;omega) (show decide ((lo:Int)<=1000000000000)=false by simp;omega)))<|(zN) ?_
   cases g1:decide (a<0)<;>cases g2:decide (b<0)
   ·rw[g1,g2] at ht
    exact(aw (bq g1 g2))<|(kY)<|zo [.tmp 4] (hq:=by rw[ht];rfl)
   ·rw[g1,g2] at ht
    exact(aw (bq g1 g2))<|(zY)<|(aw @sD)<|zo [.tmp 4] (hq:=by rw[ht];rfl)
   ·rw[g1,g2] at ht
    exact(aw (bq g1 g2))<|(zY)<|(aw @sD)<|zo [.tmp 4] (hq:=by rw[ht];rfl)
   ·rw[g1,g2] at ht
    exact(aw (bq g1 g2))<|(kY)<|zo [.tmp 4] (hq:=by rw[ht];rfl)
  ·refine(aw (cG @Uq @Sz (show decide ((hi:Int)=0)=false by simp;omega)))<|(zN) ?_
   cases g1:decide (a<0)<;>cases g2:decide (b<0)
   ·rw[g1,g2] at ht
    exact(aw (bq g1 g2))<|(kY)<|zo [.tmp 4] (hq:=by rw[ht];rfl)
   ·rw[g1,g2] at ht
    exact(aw (bq g1 g2))<|(zY)<|(aw @sD)<|zo [.tmp 4] (hq:=by rw[ht];rfl)
   ·rw[g1,g2] at ht
    exact(aw (bq g1 g2))<|(zY)<|(aw @sD)<|zo [.tmp 4] (hq:=by rw[ht];rfl)
   ·rw[g1,g2] at ht
    exact(aw (bq g1 g2))<|(kY)<|zo [.tmp 4] (hq:=by rw[ht];rfl)
def IP(a b c d:Int):PC prog 350 [kS a b,kS c d] (·=nZ (ez zz a b c d)):=by
 refine pB 8 Tryz.func350 ?_;exact(aw @kS.eq_1)<|(zC)<|(zK (vu 354 zz Jc a b c d))<|(cJ (bq @nZ.eq_1 @kS.eq_1))<|zo [.cell 4 52]
def P4(a b:Int):Int:=dP .i64 (a*b)
def F0(a b:Int):Int:=dP .i64 (a.tdiv b)
def pZ{P:Program}{t:TypeId}(a b:Int):da P .mul t (.int .i64 a) (.int .i64 b)=some (.int .i64 (P4 a b)):=rfl
def MI{P:Program}{t:TypeId}{a b:Int}(h:¬b=0):da P .quo t (.int .i64 a) (.int .i64 b)=some (.int .i64 (F0 a b)):=by
 have:R0 b=false:=by
  cases b with
  | ofNat n=>
   cases n with
   | zero=>exact un rfl h
   | succ n=>rfl
  | negSucc n=>rfl
 unfold da;simp only[this];rfl
def qk(a b:Int):Int:=if b=0 then 0 else if (!(decide (P4 (F0 a b) b=a)))&&((decide (a<0)) != (decide (b<0))) then ub (F0 a b) 1 else F0 a b
def gV(a b:Int):PC prog 356 [ab a,ab b] (·=ab (qk a b)):=by
 refine pB 26 Tryz.func356 ?_;refine(zV) ?_;cases h0:decide (b=0);rotate_left
 ·exact(aw h0)<|(cF)<|zo [.tmp 4] (hq:=by rw[qk,ut (ww h0)])
 have h0':=wt h0
 refine(aw h0)<|(zN)<|(zs) ?_;refine aE.r0 i4 (by simp only[dJ,cj,an,aJ,m8,m7,↓reduceIte,aa,ad,af,ac,aj,ar,az,bT,MI h0'];first | done | rfl) ?_
 have hf:qk a b=if (!(decide (P4 (F0 a b) b=a)))&&((decide (a<0)) != (decide (b<0))) then ub (F0 a b) 1 else F0 a b:=by rw[qk,v6 h0']
 cases h1:decide (P4 (F0 a b) b=a);rotate_left
 ·rw[h1] at hf;refine(zs) ?_;refine aE.r0 i4 (rX (bq @pZ h1)) ?_;refine(zs) ?_;refine aE.no rfl ?_;(try (refine aE.skip ?_;try change aE _ _ _ _ _));refine(zs) ?_;refine aE.r0 i4 zl ?_;refine(zE) ?_;exact Bf.of (rs:=[.tmp 4]) rfl rfl zl (Wk.refl rfl) (by (try simp only[ew,bH]);first | done | (rw[hf];rfl))
 cases g1:decide (a<0)<;>cases g2:decide (b<0)<;>rw[h1,g1,g2] at hf
 ·refine(zs) ?_;refine aE.r0 i4 (rX (gm @pZ h1 g1 g2)) ?_;exact(kY)<|zo [.tmp 4] (hq:=by rw[hf];rfl)
 ·exact(aw (gm @pZ h1 g1 g2))<|(zY)<|(aw @oe)<|(zV)<|zo [.tmp 4] (hq:=by rw[hf];rfl)
 ·exact(aw (gm @pZ h1 g1 g2))<|(zY)<|(aw @oe)<|(zV)<|zo [.tmp 4] (hq:=by rw[hf];rfl)
 ·exact(aw (gm @pZ h1 g1 g2))<|(kY)<|zo [.tmp 4] (hq:=by rw[hf];rfl)
abbrev bG:SV:=.a (.slice none 0 0 (some 0))
def TL{n k:Nat}{c:Option Nat}{q:IntKind}(h:k<=n):cK n c none (some (.int q (k:Int))) none=some (0,k,c):=by
 unfold cK ou pQ;simp only[oF,m8,eY h,es,ar]
def KI{n k:Nat}{c:Option Nat}{q:IntKind}(h:k<=n):cK n c (some (.int q (k:Int))) none none=some (k,n,c):=by
 unfold cK ou;simp only[oF,m8,eY h,ar]
def N4(l:List (List Nat)):(l.flatMap (aB ah)).all e9=true:=by
 induction l with
 | nil=>rfl
 | cons a l ih=>rw[fm,List.all_append,ih];rfl
def CT(l:List (List Nat)):(l.flatMap (aB ah)).length=l.length:=by
 induction l with
 | nil=>rfl
 | cons a l ih=>rw[fm,md,ih,jp];show 1+_=_;omega
open Go.Ev Go.RowKit
def pW(k:List Nat):List AV:=[.str k]
def zb(ks:List (List Nat)):∀r∈ks.map pW,r.length=1:=by intro r hr;obtain⟨t,_,rfl⟩:=List.mem_map.1 hr;rfl
def gr(day fr:Int):Int:=if day<=fr then 0 else day-(if day-1000000000000<=fr then fr else day-1000000000000)
def qT(ks:List (List Nat)):Prop:=ks.Pairwise λa b=>fe b a=false
open Go.Shelf
def wT:Go.Shelf.Ren:=⟨λ| 6=>56 | 8=>127 | 9=>126 | 19=>212 | 20=>213 | 21=>203 | 22=>204 | 23=>205 | 24=>206 | 25=>207 | 26=>208 | 27=>209 | 28=>210 | 29=>211 | 36=>269 | 31=>270 | 32=>271 | 37=>272 | 38=>273 | 39=>159 | 41=>311 | n=>n,λ| 27=>66 | 29=>9 | 3=>3 | 32=>210 | 26=>66 | 0=>0 | 44=>281 | 46=>283 | 4=>4 | 36=>274 | 35=>273 | 41=>122 | 5=>5 | 9=>9 | 53=>318 | 57=>322 | 63=>344 | 64=>345 | n=>n,λ| n=>n⟩
def wh:Go.Proofs.SlLaysM.n6 prog wT:={
 mixed:=by kernel_rfl
 f6:=⟨Tryz.f56.name,by decide,func56.trans (rg some zW)⟩
 f8:=Tryz.func127.trans (rg some zW)
 f9:=⟨Tryz.f126.name,by decide,Tryz.func126.trans (rg some zW)⟩
 f19:=Tryz.func212.trans (rg some zW)
 f20:=Tryz.func213.trans (rg some zW)
 f21:=⟨Tryz.f203.name,by decide,Tryz.func203.trans (rg some zW)⟩
 f22:=⟨Tryz.f204.name,by decide,Tryz.func204.trans (rg some zW)⟩
 f23:=⟨Tryz.f205.name,by decide,Tryz.func205.trans (rg some zW)⟩
 f24:=⟨Tryz.f206.name,by decide,Tryz.func206.trans (rg some zW)⟩
 f25:=⟨Tryz.f207.name,by decide,Tryz.func207.trans (rg some zW)⟩
 f26:=⟨Tryz.f208.name,by decide,Tryz.func208.trans (rg some zW)⟩
 f27:=⟨Tryz.f209.name,by decide,Tryz.func209.trans (rg some zW)⟩
 f28:=⟨Tryz.f210.name,by decide,Tryz.func210.trans (rg some zW)⟩
 f29:=⟨Tryz.f211.name,by decide,Tryz.func211.trans (rg some zW)⟩
 f31:=Tryz.func270.trans (rg some zW)
 f32:=Tryz.func271.trans (rg some zW)
 f36:=⟨Tryz.f269.name,by decide,Tryz.func269.trans (rg some zW)⟩
 f37:=⟨Tryz.f272.name,by decide,Tryz.func272.trans (rg some zW)⟩
 f38:=⟨Tryz.f273.name,by decide,Tryz.func273.trans (rg some zW)⟩
 f39:=⟨Tryz.f159.name,by decide,Tryz.func159.trans (rg some zW)⟩
 f41:=⟨Tryz.f311.name,by decide,Tryz.func311.trans (rg some zW)⟩
 t0:=Tryz.underlying0
 a0:=Tryz.isAgg0
 z0:=Tryz.sizeOf0
 v0:=Tryz.zeroValue0
 t3:=Tryz.underlying3
 a3:=Tryz.isAgg3
 z3:=Tryz.sizeOf3
 v3:=Tryz.zeroValue3
 t4:=Tryz.underlying4
 a4:=Tryz.isAgg4
 z4:=Tryz.sizeOf4
 v4:=Tryz.zeroValue4
 t5:=Tryz.underlying5
 a5:=Tryz.isAgg5
 z5:=Tryz.sizeOf5
 v5:=Tryz.zeroValue5
 t9:=fC
 a9:=isAgg9
 z9:=sizeOf9
 v9:=gc
 t26:=fv
 a26:=isAgg66
 z26:=g5
 v26:=fE
 t27:=fv
 a27:=isAgg66
 z27:=g5
 v27:=fE
 t29:=fC
 a29:=isAgg9
 z29:=sizeOf9
 v29:=gc
 t32:=Tryz.underlying210
 a32:=Tryz.isAgg210
 z32:=Tryz.sizeOf210
 v32:=Tryz.zeroValue210
 t35:=Tryz.underlying273
 a35:=Tryz.isAgg273
 z35:=Tryz.sizeOf273
 v35:=Tryz.zeroValue273
 t36:=Tryz.underlying274
 a36:=Tryz.isAgg274
 z36:=Tryz.sizeOf274
 v36:=Tryz.zeroValue274
 t41:=Tryz.underlying122
 a41:=Tryz.isAgg122
 z41:=Tryz.sizeOf122
 v41:=Tryz.zeroValue122
 t44:=Tryz.underlying281
 a44:=Tryz.isAgg281
 z44:=Tryz.sizeOf281
 v44:=Tryz.zeroValue281
 t46:=Tryz.underlying283
 a46:=Tryz.isAgg283
 z46:=Tryz.sizeOf283
 v46:=Tryz.zeroValue283
 t53:=Tryz.underlying318
 a53:=Tryz.isAgg318
 z53:=Tryz.sizeOf318
 v53:=Tryz.zeroValue318
 t57:=Tryz.underlying322
 a57:=Tryz.isAgg322
 z57:=Tryz.sizeOf322
 v57:=Tryz.zeroValue322
 t63:=Tryz.underlying344
 a63:=Tryz.isAgg344
 z63:=Tryz.sizeOf344
 v63:=Tryz.zeroValue344
 t64:=Tryz.underlying345
 a64:=Tryz.isAgg345
 z64:=Tryz.sizeOf345
 v64:=Tryz.zeroValue345 }
open Go.Ev Go.RowKit Go.Shelf Go.Lib Go.Sort
def CS(x y:List UInt8):decide (x<=y)=!fe (y.map (·.toNat)) (x.map (·.toNat)):=by
 rw[oD,bytesLess_eq];by_cases h:y<x
 ·have:¬x<=y:=λh2=>h2 h;simp[h,this]
 ·have:x<=y:=h;simp[h,this]
def Vl:Option Value->ByteArray
 | some (.string s)=>s
 | _=>ByteArray.empty
def He(ss:List (List UInt8)):List (List Nat):=ss.map λs=>s.map (·.toNat)
def wg(ks:List (List Nat))(v:AV)(Z:Nat)(h:Ev.H)(hout:Mp Z h v 1 (ks.map pW))(hlen:ks.length<=1000000):
 dU prog (.func 56) [v] h (λr h'=>r=.cm []/\∃ks':List (List Nat),ks'.Perm ks/\qT ks'/\Mp Z h' v 1 (ks'.map pW)/\Over Z h h'/\∀id n e c,v=.slice (some (id,0)) n e c->h.store id 0 (ks'.map pW).flatten=some h'):=by
 intro σ w args' hv hr;obtain⟨x,rfl,hx⟩:=S3 hv;rw[dV dr func56 i4]
 rcases hout.2 with⟨e,e2⟩ | ⟨id,bO,fx,fy,hne,e2,ho,hfx,hxy,z1,z2,z3,z4,l1,l2,l3,l4⟩
 ·subst e2
  have hts:ks=[]:=by simpa using e
  subst hts
  cases hx with
  | gT hl=>
   refine Calls.mono (AnyM.slices_Sort_string_none wh none 0 w) λe w' ⟨he,hw⟩=>?_;subst hw;exact⟨_,he,.cm [],h,⟨rfl,[],.refl _,List.Pairwise.nil,hout,Over.refl _ _,λ_ _ _ _ he=>by cases he⟩,σ,V.lH,hr,.refl _ _ _⟩
 ·subst e2
  have hpos:0<ks.length:=by
   cases ks with
   | nil=>exact un rfl hne
   | cons=>exact Nat.succ_pos _
  rw[ay] at hx
  cases hx with
  | @slice _ _ _ _ _ a p c hs hl hrr hcc ha=>
  have ha:a=⟨p.b,p.d+0,none⟩:=ha.resolve_right i5;subst ha;obtain⟨q,carr,et,hq,hb,hsz,hlen',hVc⟩:=hr.cells ho;rw[hs] at hq;cases hq
  have hfl:(ks.map pW).flatten.length=ks.length*1:=by
   have:=jE (s:=1) hout.1;rw[ay] at this;exact this
  have hpl:=hr.lt ho hs
  let d:List (List UInt8):=(cp ks.length).map λi=>(Vl carr[p.d+i]?).data.toList
  have hdl0:d.length=ks.length:=by simp[d]
  have hspec:∀i,i<ks.length->∃s:ByteArray,carr[p.d+i]?=some (.string s)/\ks[i]?=some (s.data.toList.map (·.toNat))/\d[i]?=some s.data.toList:=λi hi=>by
   have hki:ks[i]?=some ks[i]:=li hi
   have hg:(ks.map pW)[i]?=some (pW ks[i]):=by rw[al,hki];rfl
   have h0:=pj hout.1 hg (k:=0) i5;obtain⟨v0,g0,V0⟩:=hVc _ _ (h0.trans (show(pW ks[i])[0]?=some (.str ks[i]) from rfl));rw[ce,eb] at g0;generalize hkk:ks[i]=kk at V0
   cases V0 with
   | @str _ s0 e0=>
    refine⟨s0,g0,by rw[hki,hkk,e0],?_⟩;show((cp ks.length).map _)[i]?=_;rw[al,dc hi,m7,g0];rfl
  have hH:Holds encStr w p.b (p.d+0) d.toArray:=by
   intro j hj
   have hj':j<ks.length:=by simpa [hdl0] using hj
   obtain⟨s,g1,g2,g3⟩:=hspec j hj';refine⟨?_,uS hb⟩;rw[cell_of hb,eb,g1];rw[getElem!_pos d.toArray j hj]
   have:d.toArray[j]=s.data.toList:=by
    have h1:=li (l:=d) (i:=j) i5;rw[g3] at h1;simpa using(Option.some.inj h1).symm
   rw[this]
  have hmain:=AnyM.slices_Sort_string wh p.b (p.d+0) c d w hH hpl (by rw[hdl0];omega);rw[hdl0] at hmain;change Calls prog 56 _ _ _ at hmain;refine Calls.mono hmain ?_;rintro e w' ⟨rfl,n,os,rfl⟩;obtain⟨d',hd'⟩:∃d',d'=d.mergeSort λx y=>decide (x<=y):=⟨_,rfl⟩;rw[<-hd']
  have hp3:d'.Perm d:=by rw[hd'];exact List.mergeSort_perm _ _
  have hp1:d'.length=ks.length:=by rw[hp3.length_eq,hdl0]
  have hsorted:d'.Pairwise λx y=>decide (x<=y)=true:=by
   rw[hd'];refine List.pairwise_mergeSort ?_ ?_ d
   ·intro a b c h1 h2;rw[CS] at *;simp only[fd] at *;cases h:fe (c.map (·.toNat)) (a.map (·.toNat))
    ·rfl
    ·rcases jK (a.map (·.toNat)) (b.map (·.toNat)) with g | g | g
     ·have:=fp h g;rw[h2] at this;cases this
     ·rw[g,h2] at h;cases h
     ·rw[h1] at g;cases g
   ·intro a b;rw[CS,CS]
    rcases jK (a.map (·.toNat)) (b.map (·.toNat)) with g | g | g
    ·rw[rj g];rfl
    ·rw[g,cS];rfl
    ·rw[rj g];simp
  have hdl:He d=ks:=by
   apply fl;intro i;unfold He;by_cases hi:i<ks.length
   ·obtain⟨s,g1,g2,g3⟩:=hspec i hi;rw[al,g3,g2];rfl
   ·rw[d9 (by simp[hdl0];omega),d9 i5]
  have hperm:(He d').Perm ks:=by rw[<-hdl];exact hp3.map _
  have hsx:qT (He d'):=by
   unfold qT He;rw[List.pairwise_map];refine hsorted.imp ?_;intro a b h1;rw[CS] at h1;simpa using h1
  have hlen2:(He d').length=ks.length:=by unfold He;rw[ay,hp1]
  have hw3:=zb (He d')
  have hb1:(putRow encStr (Sort.ahead w n) p.b (p.d+0) d'.toArray).heap[p.b]?=some (.cells (putCells encStr (p.d+0) d'.toArray carr) et (0,0)):=by
   unfold putRow mapBlock;simp only[ec,if_true];rw[show(Sort.ahead w n).heap[p.b]?=some (.cells carr et (0,0)) from hb];rfl
  have hoth:∀b,b≠p.b->(putRow encStr (Sort.ahead w n) p.b (p.d+0) d'.toArray).heap[b]?=w.heap[b]?:=λb hbb=>by
   unfold putRow mapBlock;simp only[ec];rw[v6 (λe=>hbb e.symm)];rfl
  have hVn:∀(i:Nat) (a:AV),((He d').map pW).flatten[i]?=some a->∃v,(putCells encStr (p.d+0) d'.toArray carr)[p.d+i]?=some v/\V σ a v:=by
   intro i a hia
   have hil:i<ks.length:=by
    have:=NB hia;rw[jE hw3,ay,hlen2] at this;omega
   have hj:i<d'.length:=by omega
   have hrow:((He d').map pW)[i]?=some (pW (d'[i].map (·.toNat))):=by
    unfold He;rw[al,al,li hj];rfl
   have hat:=pj hw3 hrow (k:=0) i5;rw[ce,eb,hia] at hat
   have hcl:p.d+i<carr.size:=by omega
   have hput:(putCells encStr (p.d+0) d'.toArray carr)[p.d+i]?=some (encStr d'[i]):=by
    unfold putCells;rw[Array.getElem?_mapIdx,Array.getElem?_eq_getElem hcl,m7,ut ⟨by omega,by simp;omega⟩];rw[show p.d+i-(p.d+0)=i by omega,getElem!_pos d'.toArray i (by simpa using hj)];simp
   refine⟨_,hput,?_⟩;cases hat;exact .str rfl
  obtain⟨r1,r2⟩:=hr.rewrite ho hs (cs':=((He d').map pW).flatten) (by rw[jE hw3,ay,hlen2,hfl]) hb hb1 (by unfold putCells;rw[Array.size_mapIdx]) hVn hoth (by unfold putRow mapBlock;simp[Sort.ahead]) rfl rfl rfl
  have hbel:Below (putRow encStr (Sort.ahead w n) p.b (p.d+0) d'.toArray).heap.size (putRow encStr (Sort.ahead w n) p.b (p.d+0) d'.toArray) (grow (putRow encStr (Sort.ahead w n) p.b (p.d+0) d'.toArray) os):=
   ⟨rfl,rfl,rfl,by rw[size_grow];omega,λk hk=>by unfold grow;simp only;rw[Array.getElem?_append_left hk]⟩
  have hkeep:=sa r1 hbel;obtain⟨ao1,ao2⟩:=r8 (id:=id) hfx z2 z3 z4
  have hne':(He d').map pW≠[]:=by
   intro e;have:=rg List.length e;rw[ay,hlen2] at this;simp at this;rw[this] at hpos;simp at hpos
  refine⟨_,rfl,.cm [],_,⟨rfl,He d',hperm,hsx,⟨hw3,.inr ⟨id,bO,id,id,hne',?_,?_,?_,.inl rfl,z1,z1,z1,z4,?_,?_,?_,?_⟩⟩,?_,?_⟩,σ,V.lH,hkeep.1,r2.trans hkeep.2⟩
  ·rw[ay,ay,hlen2]
  ·exact cV _ _ _
  ·exact Bg hfx
  ·show id<(h.alone id bO).next;rw[ao2];exact l1
  ·show id<(h.alone id bO).next;rw[ao2];exact l1
  ·show id<(h.alone id bO).next;rw[ao2];exact l1
  ·show bO<(h.alone id bO).next;rw[ao2];exact l4
  ·refine ao1.trans ⟨ap _,λj hj=>bp _ _ i5,λ_ _=>rfl,λhl=>vd i5⟩
  ·intro id2 n2 e2 c2 he;cases he
   have hfl2:((He d').map pW).flatten.length=(ks.map pW).flatten.length:=by rw[jE hw3,ay,hlen2,hfl]
   have hone:((He d').map pW).flatten.all jS=true:=by
    rw[all_eq_true];intro x hx;rw[List.mem_flatten] at hx;obtain⟨r,hr1,hr2⟩:=hx;obtain⟨k,_,rfl⟩:=mem_map.1 hr1;rw[t6 hr2];rfl
   unfold H.store;rw[ho];simp only;rw[hfl2,cI,eY (ap _),hone,Bool.and_self,ar,take_zero,List.nil_append,cn (ap _),append_nil]
end Go.Proofs
