/- Lemmas of this claim, each with its conditions. -/
import Derived.Test.YtjiejanfnnieaaaGreatA4
import Derived.Test.YtjiejanfnnieaaaGreatA3
import Derived.Test.YtjiejanfnnieaaaGreatA2
import Derived.Test.YtjiejanfnnieaaaGreatProg
import Derived.KernelRfl
import Derived.MapKept
import Derived.Shelf.Bits.Mul64
import Derived.Shelf.SlGeneric
import Derived.Shelf.SortM.Plain
import Derived.Shelf.SortM.SortNone
import Derived.Ground.SlgmProg
set_option linter.all false
set_option maxHeartbeats 8000000
open Go.Proofs.Tryz (prog func357 func56 isAgg66 isAgg9 sizeOf9)
open Nat (ble beq blt)
open List (mem_iff_getElem? all_eq_true append_nil take_zero mem_map)
open Nat renaming reduceEqDiff -> aa, reduceLeDiff -> ac, reduceAdd -> ad, reduceMul -> af, reduceLT -> aj, le_refl -> ap, le_of_lt -> ax, lt_succ_self -> be, not_lt_zero -> bi, exists_eq_succ_of_ne_zero -> bv, lt_trichotomy -> cc, mul_one -> ce, eq_of_beq_eq_true -> co, zero_le -> ct, le_of_not_lt -> cv, zero_add -> cM, reduceSub -> d6, add_zero -> el, le_total -> fs, zero_lt_succ -> fu, lt_trans -> g6
open List renaming getElem?_map -> al, length_map -> ay, mem_of_find?_eq_some -> aU, mem_cons_of_mem -> bs, drop_length -> ca, set_eq_take_append_cons_drop -> cd, replicate -> ci, mem_cons_self -> ck, drop_of_length_le -> cn, range -> cp, mem_of_getElem? -> c6, getElem?_range -> dc, drop_eq_getElem_cons -> dF, find?_eq_none -> d3, getElem?_cons_succ -> d5, take_of_length_le -> d8, getElem?_eq_none -> d9, length_set -> er, mem_append -> es, getElem?_take -> ey, ext_getElem? -> fl, flatMap_cons -> fm, find?_some -> gb, all_cons -> g5
open Bool renaming and_eq_true -> am, false_and -> ch, and_true -> dd, false_or -> dl, not_true -> dt, true_and -> dv, and_false -> d4, or_true -> d7, or_eq_true -> ep, true_or -> eu, not_eq_true' -> fd, decide_and -> f7
open And renaming intro -> bk
open Array renaming toList_append -> d2, getElem?_modify -> em
open Go.Proofs.Tryz renaming underlying66 -> fv, underlying9 -> fw, zeroValue66 -> f5, zeroValue9 -> gv, sizeOf66 -> g7
namespace Go.Ev
noncomputable section
section
variable {P:Program} {ro:Option Nat}
def PC.body(hng:tG P){g:FuncId}{fn:Func}{c:Code}{args:List SV}{Q:SV->Prop}(hf:P.funcs[g]?=some fn)(hb:fn.body=some c){n:Nat}(hn:args.length+(fn.ntmps-args.length)=n)
 (hw:aE P none c ⟨lA 0 args,n,[],[]⟩ (Cb P fn Q)) (hlim:n<=1000000:=by exact md rfl):PC P g args Q:=
 .tQ hng hf hb hn hlim (hw.mono λe st ⟨h1,h2,h3⟩=>⟨h1,by rw[h2];exact h3⟩)
def SC.body(hng:tG P){g:FuncId}{fn:Func}{c:Code}{args:List SV}{S0:List SO}{mv:List Nat}{Q:SV->List SO->Prop}(hf:P.funcs[g]?=some fn)(hb:fn.body=some c){n:Nat}(hn:args.length+(fn.ntmps-args.length)=n)(hlim:n<=1000000){W:Fm}(hW:W=oI S0.length)
 (hw:aE P none c ⟨lA 0 args++W,n,S0,[]⟩ (Md P fn S0.length mv Q)) (hK:S0.length<=1000000:=by exact md rfl):SC P g args S0 mv Q:=
 .tQ hng hf hb hn hlim hW hK (hw.mono λe st ⟨h1,h2,h3⟩=>⟨h1,by rw[h2];exact h3⟩)
def Jn{ol:List Oper}{L:Nat->Prop}(hb:lQ 0 ol=true)(hc:mi ol L){j:Nat}:∀(i:Nat) (o:Oper),ol[i]?=some o->(∀e∈o.after.toList,dep e=true->L e.on)->bR ((pd ol []).getD i 0) j=true->L j:=by
 intro i
 induction i using Nat.strongRecOn with
 | _ i ih=>
  intro o ho hd hj;have hlt:=λe he hde=>pM hb ho e he hde;simp only[cM] at hlt;obtain⟨e,he,hde,h | h⟩:=Jo ho hlt hj
  ·exact h▸hd e he hde
  ·have hl:=hlt e he hde;obtain⟨o',ho'⟩:∃o',ol[e.on]?=some o':=⟨_,jp (g6 hl (bx ho))⟩;exact ih e.on hl o' ho' (hc _ _ ho' (hd e he hde)) h
def Ls{α β γ:Type}(a:Option α)(g:α->Option β)(k:β->γ):(a.bind λx=>(g x).map k)=(a.bind g).map k:=by cases a<;>rfl
def Sz{f:Fm}{S S2:List SO}{op:Op}{v:SV}(hr:kQ op=true)(hh:Jh op=false)(h:dO P f S op=some (v,S,none)):dO P f S2 op=some (v,S2,none):=by
 have go:∀{α:Type} (q:Option α) (w:α->SV),q.map (λv=>(w v,S,(none:Option Nat)))=some (v,S,none)->q.map (λv=>(w v,S2,(none:Option Nat)))=some (v,S2,none):=by
  rintro _ (_ | q) w h
  ·cases h
  ·cases h;rfl
 cases op<;>first | (simp[kQ] at hr;done) | (simp[Jh] at hh;done) | (simp only[dO,Ls] at h ⊢;exact go _ _ h) | skip
 case makeFunc g first _=>
  cases g<;>first | (simp[kQ] at hr;done) | skip
  all_goals
   simp only[dO] at h ⊢
   cases ha:qt f first.toList with
   | none=>rw[ha] at h;cases h
   | some a=>
    rw[ha] at h;simp only[m7] at h ⊢
    first
    | exact go _ _ h
    | cases hb:ji a with
     | none=>rw[hb] at h;cases h
     | some b=>
      rw[hb] at h;simp only[m7,Ls] at h ⊢;exact go _ _ h
 case extract x _=>
  simp only[dO] at h ⊢
  cases hx:gf f x with
  | none=>rw[hx] at h;cases h
  | some w=>
   rw[hx] at h
   cases w<;>first | (cases h;done) | exact go _ _ h
def P3(ol:List Oper)(i:Nat)(a:Oper)(mj:Nat)(b:Oper):Bool:=
 (match b.dst with | some d=>!(decide (a.dst=some d))&&(!(jg ol a).contains d||bR mj i) | none=>true)&&(bR mj i||(match a.dst with | some d=>!(jg ol b).contains d | none=>true)&&!(uu a.op&&uu b.op))
def CS(all:List Oper)(ms:List Nat):List (Nat×Oper)->Bool
 | []=>true
 | (i,a)::rest=>(match a.dst with | some d=>!(jg all a).contains d | none=>true)&&(match a.guard with | some (j,_)=>blt j i | none=>true)&&rest.all (λq=>P3 all i a (ms.getD q.1 0) q.2)&&CS all ms rest
def P4{all:List Oper}{ms:List Nat}:∀{ol:List Oper} {i0 i:Nat} {o:Oper},CS all ms (cY i0 ol)=true->ol[i]?=some o->(∀d,o.dst=some d->d∉jg all o)/\(∀j b,o.guard=some (j,b)->j<i0+i)/\∀(k:Nat) o',i<k->ol[k]?=some o'->P3 all (i0+i) o (ms.getD (i0+k) 0) o'=true
 | [],_,_,_,_,h=>by simp at h
 | a::ol,i0,i,o,h,ho=>by
  rw[cY,CS,am,am,am] at h;obtain⟨⟨⟨h1,h2⟩,h3⟩,h4⟩:=h
  cases i with
  | zero=>
   cases ho;refine⟨λd hd=>?_,λj b hg=>?_,λk o' hk hko=>?_⟩
   ·rw[hd] at h1;simpa using h1
   ·rw[hg] at h2;exact gp h2
   ·obtain⟨k,rfl⟩:=bv (Nat.ne_of_gt hk);have:=all_eq_true.1 h3 (i0+1+k,o') (mem_iff_getElem?.2 ⟨k,by rw[kc,show ol[k]?=some o' by simpa using hko];rfl⟩);rw[show i0+(k+1)=i0+1+k by omega];exact this
  | succ i=>
   obtain⟨g1,g2,g3⟩:=P4 h4 (by simpa using ho);refine⟨g1,λj b hg=>by have:=g2 j b hg;omega,λk o' hk hko=>?_⟩;obtain⟨k,rfl⟩:=bv (show k≠0 by omega);have:=g3 k o' ii (by simpa using hko);rw[show i0+(i+1)=i0+1+i by omega,show i0+(k+1)=i0+1+k by omega];exact this
def IA{all:List Oper}{f1 f2:Fm}{o:Oper}(h:∀t∈jg all o,aP f1 t=aP f2 t):cV all f1 o.guard=cV all f2 o.guard:=by
 unfold jg at h;unfold cV;split
 ·rfl
 ·rename_i j w hg;rw[hg] at h
  cases ho:all[j]? with
  | none=>rfl
  | some o'=>
   cases hd:o'.dst with
   | none=>simp[hd]
   | some d=>
    simp only[ho,hd,m7] at h ⊢;rw[h d gc]
def Np{all:List Oper}{f1 f2:Fm}{o:Oper}(h:∀t∈jg all o,aP f1 t=aP f2 t):∀x∈o.op.operands.toList,gf f1 x=gf f2 x:=by
 intro x hx
 cases x with
 | tmp t=>simp only[gf];rw[h t (by unfold jg;exact List.mem_append_left _ (Jp (by simpa using hx)))]
 | _=>rfl
def F2{f1 f2:Fm}{c:Call}(h:∀x∈(Op.call c).operands.toList,gf f1 x=gf f2 x):ja P f1 c=ja P f2 c:=by
 obtain⟨callee,aS,ats⟩:=c
 cases callee with
 | builtin b=>rfl
 | value x=>
  rw[ja,ja];simp only;rw[h x (by simp[Op.operands,Call.operands]),gC (l:=aS.toList) λy hy=>h y (by simp only[Op.operands,Call.operands,d2,es];exact .inr hy)]
 | invoke x m=>
  rw[ja,ja];simp only;rw[h x (by simp[Op.operands,Call.operands]),gC (l:=aS.toList) λy hy=>h y (by simp only[Op.operands,Call.operands,d2,es];exact .inr hy)]
def TT{cl:Call}(h:gi (.call cl)=true):uw (.call cl)=false:=by
 obtain⟨callee,aS,ats⟩:=cl
 cases callee<;>first | rfl | (simp[gi] at h;done)
def Mc{b:Bool}(h:b=true->False):b=false:=by cases b<;>simp_all
def U4{op:Op}(h:kQ op=true):uw op=false:=by
 cases op<;>first | rfl | (simp[kQ] at h;done) | skip
 rename_i c;obtain⟨callee,aS,ats⟩:=c
 cases callee with
 | builtin b=>cases b<;>first | rfl | (simp[kQ] at h;done)
 | _=>rfl
def RH:Op->Bool
 | .alloc _ | .box _ _ | .buildSlice _ _ _ | .makeMap _ _ | .makeSlice _ _ _ | .call { callee:=.builtin .append,.. }=>true
 | _=>false
def ej(op:Op):Bool:=uw op||RH op
def Mr(ms:List Nat):List (Nat×Oper)->Bool
 | []=>true
 | (i,a)::l=>(!(ej a.op||gi a.op)||l.all λq=>!(ej q.2.op||gi q.2.op)||bR (ms.getD q.1 0) i)&&Mr ms l
def KY{ms:List Nat}:∀{ol:List Oper} {i0 i j:Nat} {a b:Oper},Mr ms (cY i0 ol)=true->ol[i]?=some a->ol[j]?=some b->i<j->(ej a.op||gi a.op)=true->(ej b.op||gi b.op)=true->bR (ms.getD (i0+j) 0) (i0+i)=true
 | [],_,_,_,_,_,_,h,_,_,_,_=>by simp at h
 | o::ol,i0,i,j,a,b,h,ha,hb,hij,h1,h2=>by
  rw[cY,Mr,am] at h;obtain⟨g1,g2⟩:=h;obtain⟨j,rfl⟩:=bv (show j≠0 by omega)
  cases i with
  | zero=>
   cases ha;rw[h1,dt,dl] at g1;have:=all_eq_true.1 g1 (i0+1+j,b) (mem_iff_getElem?.2 ⟨j,by rw[kc,show ol[j]?=some b by simpa using hb];rfl⟩);rw[h2,dt,dl] at this;rw[show i0+(j+1)=i0+1+j by omega];exact this
  | succ i=>
   have:=KY g2 (i:=i) (j:=j) (by simpa using ha) (by simpa using hb) ii h1 h2;rw[show i0+(j+1)=i0+1+j by omega,show i0+(i+1)=i0+1+i by omega];exact this
def xg{op:Op}(h:kQ op=true):ej op=false:=by
 unfold ej;rw[U4 h,dl]
 cases op<;>first | rfl | (simp[kQ] at h;done) | skip
 rename_i c;obtain⟨callee,aS,ats⟩:=c
 cases callee with
 | builtin b=>cases b<;>first | rfl | (simp[kQ] at h;done)
 | _=>rfl
def OP{cl:Call}(h:gi (.call cl)=true):ej (.call cl)=false:=by
 unfold ej;rw[TT h,dl];obtain⟨callee,aS,ats⟩:=cl
 cases callee<;>first | rfl | (simp[gi] at h;done)
def tn{S:List SO}{f1 f2:Fm}{op:Op}(hrd:(kQ op||ej op)=true)(h:∀x∈op.operands.toList,gf f1 x=gf f2 x):dO P f1 S op=dO P f2 S op:=by
 by_cases hw:(kQ op||uw op)=true
 ·exact Nn hw h
 cases op with
 | alloc e=>rfl
 | box t x=>rw[dO,dO,h x (by simp[Op.operands])]
 | buildSlice t n ps=>rw[dO,dO,qv λx hx=>h x (by simpa [Op.operands] using hx)]
 | makeMap t x=>
  cases x with
  | none=>rfl
  | some x=>rfl
 | makeSlice t l c=>rw[dO,dO,h l (by simp[Op.operands]),h c (by simp[Op.operands])]
 | call c=>
  obtain⟨callee,aS,ats⟩:=c
  cases callee with
  | builtin b=>rw[dO,dO,gC λx hx=>h x (by simp only[Op.operands,Call.operands,d2,es];exact .inr hx)]
  | _=>simp[kQ,ej,uw,RH] at hrd
 | makeFunc g first cap=>cases g<;>first | exact ul rfl hw | (simp[kQ,ej,uw,RH] at hrd;done)
 | _=>first | exact ul rfl hw | (simp[kQ,ej,uw,RH] at hrd;done)
def Lt{ol:List Oper}{ms:List Nat}(hb:lQ 0 ol=true)(hms:pd ol []=ms)(w:Nat)(o:Oper)(ho:ol[w]?=some o){i:Nat}(h:bR (ms.getD w 0) i=true):i<w:=by
 have hlt:∀{j:Nat} {o':Oper},ol[j]?=some o'->∀e∈o'.after.toList,dep e=true->e.on<j:=λho' e he hde=>by simpa using pM hb ho' e he hde
 exact Jn (L:=λj=>j<w) hb (λj o' ho' hj e he hde=>g6 (hlt ho' e he hde) hj) w o ho (λe he hde=>hlt ho e he hde) (by rw[hms];exact h)
structure NR where
 b:Bool
 hp:List Nat
 kl:List (Nat×Nat)
 f0:Fm
 f:Fm
 S:List SO
def BF(ms:List Nat)(i:Nat)(v:SV):List (Nat×Nat)->Prop
 | []=>True
 | q::l=>(bR (ms.getD i 0) q.1=true\/bf q.2 v=v)/\BF ms i v l
def q8{ms:List Nat}{i:Nat}{v:SV}:∀{l:List (Nat×Nat)},BF ms i v l->∀q∈l,bR (ms.getD i 0) q.1=true\/bf q.2 v=v
 | [],_,q,hq=>by cases hq
 | x::l,h,q,hq=>by
  rcases t6 hq with rfl | hq
  ·exact h.1
  ·exact q8 h.2 q hq
def Ma(all:List Oper)(ms:List Nat)(i:Nat):List Nat:=((cY 0 all).filter λq=>!Nat.beq q.1 i&&!bR (ms.getD i 0) q.1&&!bR (ms.getD q.1 0) i).flatMap λq=>(match q.2.dst with | some d=>d::jg all q.2 | none=>jg all q.2)
def Wb(f0 f:Fm)(k:Nat):List Nat->Prop
 | []=>True
 | t::l=>(bf k (aP f t)=aP f t/\bf k (aP f0 t)=aP f0 t)/\Wb f0 f k l
def L9{f0 f:Fm}{k:Nat}:∀{l:List Nat},Wb f0 f k l->∀t∈l,bf k (aP f t)=aP f t/\bf k (aP f0 t)=aP f0 t
 | [],_,t,h=>by cases h
 | x::l,h,t,ht=>by
  rcases t6 ht with rfl | ht
  ·exact h.1
  ·exact L9 h.2 t ht
def KO(all:List Oper)(ms:List Nat)(i:Nat):Bool:=(cY 0 all).all λq=>beq q.1 i||(blt q.1 i&&bR (ms.getD i 0) q.1)||(blt i q.1&&bR (ms.getD q.1 0) i)
inductive sR (P:Program) (ro:Option Nat) (all:List Oper) (ms:List Nat) (n:Nat) (i:Nat) (o:Oper):NR->NR->Prop
 | s {b hp kl f0 f S d}:eP all n [o]=true->o.dst=some d->cV all f o.guard=some false->ej o.op=false->sR P ro all ms n i o ⟨b,hp,kl,f0,f,S⟩ ⟨b,hp,kl,f0,(d,.a mg)::f,S⟩
 | sk {b hp kl f0 f S d}:eP all n [o]=true->o.dst=some d->cV all f o.guard=some false->ej o.op=true->hp.all (λj=>bR (ms.getD i 0) j)=true->sR P ro all ms n i o ⟨b,hp,kl,f0,f,S⟩ ⟨false,hp,kl,f0,(d,.a mg)::f,S⟩
 | r {b hp kl f0 f S d v}:eP all n [o]=true->o.dst=some d->cV all f o.guard=some true->kQ o.op=true->(∀S2,dO P f S2 o.op=some (v,S2,none))->BF ms i v kl->sR P ro all ms n i o ⟨b,hp,kl,f0,f,S⟩ ⟨b,hp,kl,f0,(d,v)::f,S⟩
 | h {hp kl f0 f S d v}:eP all n [o]=true->o.dst=some d->cV all f o.guard=some true->kQ o.op=true->dO P f S o.op=some (v,S,none)->BF ms i v kl->sR P ro all ms n i o ⟨true,hp,kl,f0,f,S⟩ ⟨true,i::hp,kl,f0,(d,v)::f,S⟩
 | k {hp kl f0 f S d cl g vs ws r}:eP all n [o]=true->o.op=.call cl->o.dst=some d->cV all f o.guard=some true->gi (.call cl)=true->uu o.op=true->ja P f cl=some (g,vs)->PC P g ws (·=r)->bm S vs ws->(∀o,bf o r=r)->(wZ r=true\/bm [] vs ws)->
  sR P ro all ms n i o ⟨true,hp,kl,f0,f,S⟩ ⟨true,hp,kl,f0,(d,r)::f,S⟩
 | e {b hp kl f0 f S v S'}:eP all n [o]=true->cV all f o.guard=some true->ej o.op=true->hp.all (λj=>bR (ms.getD i 0) j)=true->dO P f S o.op=some (v,S',none)->BF ms i v kl->sR P ro all ms n i o ⟨b,hp,kl,f0,f,S⟩ ⟨false,hp,kl,f0,tc f none o.dst v,S'⟩
 | a {b hp kl f0 f S v S' k}:eP all n [o]=true->cV all f o.guard=some true->ej o.op=true->hp.all (λj=>bR (ms.getD i 0) j)=true->dO P f S o.op=some (v,S',some k)->BF ms i v kl->(∀t∈Ma all ms i,bf k (aP f t)=aP f t/\bf k (aP f0 t)=aP f0 t)->sR P ro all ms n i o ⟨b,hp,kl,f0,f,S⟩ ⟨false,hp,(i,k)::kl,f0,tc f (some k) o.dst v,S'⟩
 | Re {b hp kl f0 f S f' S'}:KO all ms i=true->ej o.op=false->(∀ds K,K ⟨f',n,S',ds⟩->aR P ro (all.take (i+1)) [o] ⟨f,n,S,ds⟩ K)->sR P ro all ms n i o ⟨b,hp,kl,f0,f,S⟩ ⟨true,[],[],f',f',S'⟩
inductive TD (P:Program) (ro:Option Nat) (all:List Oper) (ms:List Nat) (n:Nat):List (Nat×Oper)->NR->NR->Prop
 | nil {x}:TD P ro all ms n [] x x
 | cons {i o l x y z}:sR P ro all ms n i o x y->TD P ro all ms n l y z->TD P ro all ms n ((i,o)::l) x z
def rI(P:Program)(ro:Option Nat)(all:List Oper)(ms:List Nat)(n:Nat)(f0:Fm)(kl:List (Nat×Nat))(b:Bool)(hp:List Nat)(l:List (Nat×Oper))(f:Fm)(S:List SO)(K:Fm->List SO->Prop):Prop:=∃z,K z.f z.S/\TD P ro all ms n l ⟨b,hp,kl,f0,f,S⟩ z
mutual
def Gj:∀{v:SV},wZ v=true->∀o,names o v=false
 | .any,_,_=>rfl
 | .a _,_,_=>rfl
 | .ag cs,h,o=>by rw[names];exact vT (by rw[wZ] at h;exact h) o
 | .cq cs,h,o=>by rw[names];exact vT (by rw[wZ] at h;exact h) o
 | .sl ..,h,_ | .im ..,h,_ | .ptr ..,h,_ | .map ..,h,_ | .buf ..,h,_ | .sub ..,h,_ | .fn ..,h,_ | .iface ..,h,_ | .ip ..,h,_ | .e0 ..,h,_=>by simp[wZ] at h
def vT:∀{l:List SV},I8 l=true->∀o,fp o l=false
 | [],_,_=>rfl
 | d::ds,h,o=>by rw[I8,am] at h;rw[fp,Gj h.1,vT h.2];rfl
end
def RJ{v:SV}(h:wZ v=true)(o:Nat):bf o v=v:=by unfold bf;rw[Gj h o];rfl
section
variable {all:List Oper} {ms:List Nat} {n:Nat} {b:Bool} {hp:List Nat} {l:List (Nat×Oper)} {f:Fm} {S:List SO} {K:Fm->List SO->Prop} {i:Nat} {o:Oper} {d:Nat} {f0:Fm} {kl:List (Nat×Nat)}
def rI.nil(h:K f S):rI P ro all ms n f0 kl b hp [] f S K:=⟨_,h,.nil⟩
theorem rI.s(hst:eP all n [o]=true)(hdst:o.dst=some d)(hw:cV all f o.guard=some false)(hwr:ej o.op=false):rI P ro all ms n f0 kl b hp l ((d,.a mg)::f) S K->rI P ro all ms n f0 kl b hp ((i,o)::l) f S K:=λ⟨z,k,t⟩=>⟨z,k,.cons (.s hst hdst hw hwr) t⟩
theorem rI.r{v:SV}{S':List SO}{kill:Option Nat}(hst:eP all n [o]=true)(hdst:o.dst=some d)(hw:cV all f o.guard=some true)(hrr:(kQ o.op&&(b||!Jh o.op))=true)(hop:dO P f S o.op=some (v,S',kill))
 (hk:rI P ro all ms n f0 kl b (_root_.cond (Jh o.op) (i::hp) hp) l ((d,v)::f) S K) (hkl:BF ms i v kl):rI P ro all ms n f0 kl b hp ((i,o)::l) f S K:=by
 rw[am] at hrr;obtain⟨h1,h2⟩:=hrr;obtain⟨rfl,rfl⟩:=Qv h1 hop;obtain⟨z,k,t⟩:=hk;cases hh:Jh o.op
 ·rw[hh] at t;exact⟨z,k,.cons (.r hst hdst hw h1 (λS2=>Sz h1 hh hop) hkl) t⟩
 ·rw[hh] at t h2
  obtain rfl:b=true:=by cases b<;>simp_all
  exact⟨z,k,.cons (.h hst hdst hw h1 hop hkl) t⟩
def rI.ri{tt:TypeId}{x:Operand}{cs0:List SV}{v:SV}(hst:eP all n [o]=true)(hdst:o.dst=some d)(hw:cV all f o.guard=some true)(hop:o.op=.load tt x)(hx:gf f x=some (.ip cs0))(hv:uH P tt cs0 0=some v)(hkl:BF ms i v kl):
 rI P ro all ms n f0 kl b hp l ((d,v)::f) S K->rI P ro all ms n f0 kl b hp ((i,o)::l) f S K:=λ⟨z,k,t⟩=>⟨z,k,.cons (.r hst hdst hw (by rw[hop];rfl) (λS2=>by rw[hop,dO,hx,m7,Av,hv];rfl) hkl) t⟩
theorem rI.k{cl:Call}{g:FuncId}{vs ws:List SV}{r:SV}(hst:eP all n [o]=true)(hop:o.op=.call cl)(hdst:o.dst=some d)(hw:cV all f o.guard=some true)(hdy:gi (.call cl)=true)(he:uu (.call cl)=true)
 (hc:ja P f cl=some (g,vs)) (hq:PC P g ws (·=r)) (hwk:bm S vs ws) (hr:wZ r=true):rI P ro all ms n f0 kl true hp l ((d,r)::f) S K->rI P ro all ms n f0 kl true hp ((i,o)::l) f S K:=λ⟨z,k,t⟩=>⟨z,k,.cons (.k hst hop hdst hw hdy (by rw[hop];exact he) hc hq hwk (RJ hr) (.inl hr)) t⟩
def rI.kg{cl:Call}{g:FuncId}{vs:List SV}{r:SV}(hst:eP all n [o]=true)(hop:o.op=.call cl)(hdst:o.dst=some d)(hw:cV all f o.guard=some true)(hdy:gi (.call cl)=true)(he:uu (.call cl)=true)
 (hc:ja P f cl=some (g,vs)) (hq:PC P g vs (·=r)) (hwk:∀S,bm S vs vs) (hr:mN r=true):rI P ro all ms n f0 kl true hp l ((d,r)::f) S K->rI P ro all ms n f0 kl true hp ((i,o)::l) f S K:=λ⟨z,k,t⟩=>⟨z,k,.cons (.k hst hop hdst hw hdy (by rw[hop];exact he) hc hq (hwk _) (λ_=>wc hr) (.inr (hwk _))) t⟩
theorem rI.e{v:SV}{S':List SO}(hst:eP all n [o]=true)(hw:cV all f o.guard=some true)(hwr:ej o.op=true)(hms:hp.all (λj=>bR (ms.getD i 0) j)=true)(hop:dO P f S o.op=some (v,S',none))(hkl:BF ms i v kl):
 rI P ro all ms n f0 kl false hp l (tc f none o.dst v) S' K->rI P ro all ms n f0 kl b hp ((i,o)::l) f S K:=λ⟨z,k,t⟩=>⟨z,k,.cons (.e hst hw hwr hms hop hkl) t⟩
theorem rI.a{f':Fm}{v:SV}{S':List SO}{k:Nat}(T:List Nat)(hst:eP all n [o]=true)(hdst:o.dst=some d)(hw:cV all f o.guard=some true)(hwr:ej o.op=true)(hms:hp.all (λj=>bR (ms.getD i 0) j)=true)(hT:((Ma all ms i).all λt=>T.contains t)=true)(hop:dO P f S o.op=some (v,S',some k))(hf:eU k f=f')(ht:Wb f0 f k T)(hkl:BF ms i v kl):
 rI P ro all ms n f0 ((i,k)::kl) false hp l ((d,v)::f') S' K->rI P ro all ms n f0 kl b hp ((i,o)::l) f S K:=λ⟨z,c,t⟩=>⟨z,c,.cons (by have:=sR.a (ro:=ro) (b:=b) hst hw hwr hms hop hkl λt h=>L9 ht t (List.contains_iff_mem.1 (all_eq_true.1 hT t h));rw[hdst] at this;rw[<-hf];exact this) t⟩
def rI.Re{f':Fm}{S':List SO}(hbr:KO all ms i=true)(hwr:ej o.op=false)(hop:∀ds K,K ⟨f',n,S',ds⟩->aR P ro (all.take (i+1)) [o] ⟨f,n,S,ds⟩ K):
 rI P ro all ms n f' [] true [] l f' S' K->rI P ro all ms n f0 kl b hp ((i,o)::l) f S K:=λ⟨z,c,t⟩=>⟨z,c,.cons (.Re hbr hwr hop) t⟩
end
def TD.get{all:List Oper}{ms:List Nat}{n:Nat}:∀{ol:List Oper} {i0:Nat} {x z:NR},TD P ro all ms n (cY i0 ol) x z->∃X:Nat->NR,X i0=x/\X (i0+ol.length)=z/\∀(k:Nat) o,ol[k]?=some o->sR P ro all ms n (i0+k) o (X (i0+k)) (X (i0+k+1))
 | [],i0,x,z,h=>by
  rw[cY] at h;cases h;exact⟨λ_=>x,rfl,rfl,λk o h=>by simp at h⟩
 | o::ol,i0,x,z,h=>by
  rw[cY] at h
  cases h with | cons h t=>?_
  obtain⟨X,h1,h2,h3⟩:=TD.get t;refine⟨λj=>if j=i0 then x else X j,un rfl,?_,?_⟩
  ·show(if _ then _ else _)=z;rw[i7,ut ii,<-h2];congr 1;omega
  ·rintro(_ | k) o' ho
   ·cases ho;show sR P ro all ms n i0 o (if _ then _ else _) (if _ then _ else _);rw[el,un rfl,ut ii,h1];exact h
   ·have:=h3 k o' (by simpa using ho);show sR P ro all ms n (i0+(k+1)) o' (if _ then _ else _) (if _ then _ else _);rw[ut ii,ut ii,show i0+(k+1)=i0+1+k by omega];exact this
structure TB (P:Program) (all:List Oper) (ms:List Nat) (n:Nat) (i:Nat) (o:Oper) (x y:NR) (κ:Option Nat):Prop where
 st:eP all n [o]=true
 fr:∀t,o.dst≠some t->aP y.f t=jX κ (aP x.f t)
 wr:ej o.op=false->κ=none
 S:ej o.op=false->y.S=x.S
 b:y.b=true->x.b=true/\ej o.op=false
 hp:∀j∈x.hp,j∈y.hp
 w:ej o.op=true->x.hp.all (λj=>bR (ms.getD i 0) j)=true
 k1:∀q∈x.kl,q∈y.kl
 k2:∀k,κ=some k->(i,k)∈y.kl
 t:∀k,κ=some k->∀t∈Ma all ms i,bf k (aP x.f t)=aP x.f t/\bf k (aP x.f0 t)=aP x.f0 t
 v:∀d,o.dst=some d->∀q∈x.kl,bR (ms.getD i 0) q.1=true\/bf q.2 (aP y.f d)=aP y.f d
 op:ej o.op=true->∃v S',((cV all x.f o.guard=some true/\dO P x.f x.S o.op=some (v,S',κ))\/(cV all x.f o.guard=some false/\(∃d,o.dst=some d)/\v=.a mg/\S'=x.S/\κ=none))/\(∀d,o.dst=some d->aP y.f d=v)/\y.S=S'
 z:y.f0=x.f0
structure UF (P:Program) (ro:Option Nat) (all:List Oper) (ms:List Nat) (n:Nat) (i:Nat) (o:Oper) (x y:NR):Prop where
 ok:KO all ms i=true
 wr:ej o.op=false
 op:∀ds K,K ⟨y.f,n,y.S,ds⟩->aR P ro (all.take (i+1)) [o] ⟨x.f,n,x.S,ds⟩ K
 z:y.f0=y.f
def sR.out{all:List Oper}{ms:List Nat}{n i:Nat}{o:Oper}{x y:NR}(h:sR P ro all ms n i o x y):(∃κ,TB P all ms n i o x y κ)\/UF P ro all ms n i o x y:=by
 have put:∀{f:Fm} {d:Nat} {v:SV},o.dst=some d->∀t,o.dst≠some t->aP ((d,v)::f) t=aP f t:=λ{f d v} hd t ht=>by
  show(if d=t then v else aP f t)=_;rw[ut λe=>ht (by rw[hd,e])]
 have top:∀{d:Nat} {v:SV} {f:Fm},aP ((d,v)::f) d=v:=λ{d v f}=>un rfl
 have no2:∀{q:Prop},ej o.op=false->ej o.op=true->q:=λh h2=>by rw[h] at h2;cases h2
 have val:∀{d d':Nat} {v:SV} {f:Fm},o.dst=some d->o.dst=some d'->aP ((d,v)::f) d'=v:=λh1 h2=>by rw[h1] at h2;cases h2;exact top
 cases h with
 | s h1 h2 h3 h4=>exact .inl ⟨none,h1,put h2,λ_=>rfl,λ_=>rfl,λh=>⟨h,h4⟩,λ_ h=>h,no2 h4,λ_ h=>h,nofun,nofun,λd hd q _=>.inr (by rw[val h2 hd];rfl),no2 h4,rfl⟩
 | r h1 h2 h3 h4 _ h6=>exact .inl ⟨none,h1,put h2,λ_=>rfl,λ_=>rfl,λh=>⟨h,xg h4⟩,λ_ h=>h,no2 (xg h4),λ_ h=>h,nofun,nofun,λd hd q hq=>by rw[val h2 hd];exact q8 h6 q hq,no2 (xg h4),rfl⟩
 | h h1 h2 h3 h4 _ h6=>exact .inl ⟨none,h1,put h2,λ_=>rfl,λ_=>rfl,λh=>⟨h,xg h4⟩,λ_ h=>bs _ h,no2 (xg h4),λ_ h=>h,nofun,nofun,λd hd q hq=>by rw[val h2 hd];exact q8 h6 q hq,no2 (xg h4),rfl⟩
 | k h1 h0 h2 h3 h4 _ _ _ _ h9 _=>
  have hk:ej o.op=false:=by rw[h0];exact OP h4
  exact .inl ⟨none,h1,put h2,λ_=>rfl,λ_=>rfl,λh=>⟨h,hk⟩,λ_ h=>h,no2 hk,λ_ h=>h,nofun,nofun,λd hd q _=>.inr (by rw[val h2 hd];exact h9 _),no2 hk,rfl⟩
 | sk h1 h2 h3 h4 h5=>exact .inl ⟨none,h1,put h2,λ_=>rfl,λ_=>rfl,λh=>(by cases h),λ_ h=>h,λ_=>h5,λ_ h=>h,nofun,nofun,λd hd q _=>.inr (by rw[val h2 hd];rfl),λ_=>⟨.a mg,_,.inr ⟨h3,⟨_,h2⟩,rfl,rfl,rfl⟩,λd hd=>val h2 hd,rfl⟩,rfl⟩
 | e h1 h3 h5 h6 h7 h8=>
  refine .inl ⟨none,h1,λt ht=>?_,λ_=>rfl,λh=>(by rw[h] at h5;cases h5),λh=>(by cases h),λ_ h=>h,λ_=>h6,λ_ h=>h,nofun,nofun,λd hd q hq=>?_,λ_=>⟨_,_,.inl ⟨h3,h7⟩,λd hd=>(by rw[hd];exact top),rfl⟩,rfl⟩
  ·cases hd:o.dst with
   | none=>rfl
   | some d=>exact put hd t ht
  ·refine(q8 h8 q hq).imp id λh=>?_;rw[hd];simp only[tc,top];exact h
 | a h1 h3 h5 h6 h7 h8 h9=>
  rename_i k;refine .inl ⟨some k,h1,λt ht=>?_,λh=>(by rw[h] at h5;cases h5),λh=>(by rw[h] at h5;cases h5),λh=>(by cases h),λ_ h=>h,λ_=>h6,λ_ h=>bs _ h,λk' e=>(by cases e;exact ck),λk' e=>(by cases e;exact h9),λd hd q hq=>?_,λ_=>⟨_,_,.inl ⟨h3,h7⟩,λd hd=>(by rw[hd];exact top),rfl⟩,rfl⟩
  ·cases hd:o.dst with
   | none=>exact iN _ _ _
   | some d=>exact(put (f:=eU k _) hd t ht).trans (iN _ _ _)
  ·refine(q8 h8 q hq).imp id λh=>?_;rw[hd];simp only[tc,top];exact h
 | Re h1 h2 h3=>exact .inr ⟨h1,h2,h3,rfl⟩
def dU(κ:Nat->Option Nat)(b:Nat):Nat->SV->SV
 | 0,v=>v
 | m+1,v=>if m<b then v else jX (κ m) (dU κ b m v)
def GF(k:Option Nat)(v:SV):jX k v=v\/jX k v=.any:=by
 cases k with
 | none=>exact .inl rfl
 | some k=>unfold jX bf;simp only;cases names k v;exact .inl rfl;exact .inr rfl
def CC(k:Option Nat):jX k .any=.any:=by rcases GF k .any with h | h<;>exact h
section
variable {κ:Nat->Option Nat} {b m:Nat} {v:SV}
def GG:dU κ b m v=v\/dU κ b m v=.any:=by
 induction m with
 | zero=>exact .inl rfl
 | succ m ih=>
  rw[dU];split
  ·exact .inl rfl
  ·rcases ih with h | h
   ·rw[h];exact GF _ _
   ·rw[h,CC];exact .inr rfl
def jY(h:m<=b):dU κ b m v=v:=by
 cases m with
 | zero=>rfl
 | succ m=>rw[dU,un ii]
def ti(h:b<=m):dU κ b (m+1) v=jX (κ m) (dU κ b m v):=by rw[dU,ut ii]
def oX{c:Nat}(hbc:m<=c)(h:∀w,b<=w->m<=w->w<c->jX (κ w) (dU κ b w v)=dU κ b w v):dU κ b c v=dU κ b m v:=by
 induction hbc with
 | refl=>rfl
 | step hbc ih=>
  rename_i c;have:=ih λw h1 h2 h3=>h w h1 h2 (Nat.lt_succ_of_lt h3);by_cases hb:b<=c
  ·rw[ti hb,h c hb hbc (be c),this]
  ·rw[jY ii,<-this,jY ii]
end
def pS(g:Nat->SV)(φ:SV->SV)(f:Fm):List Oper->Fm
 | []=>f.map λq=>(q.1,φ q.2)
 | o::l=>match o.dst with
  | some d=>(d,g d)::pS g φ f l
  | none=>pS g φ f l
def F3{g:Nat->SV}{φ:SV->SV}{f:Fm}(hφ:φ .any=.any){t:Nat}:∀{l:List Oper},(aP (pS g φ f l) t=g t/\∃o∈l,o.dst=some t)\/(aP (pS g φ f l) t=φ (aP f t)/\∀o∈l,o.dst≠some t)
 | []=>by
  refine .inr ⟨?_,λo h=>by cases h⟩;rw[pS]
  induction f with
  | nil=>exact hφ.symm
  | cons q f ih=>
   show(if q.1=t then φ q.2 else _)=φ (if q.1=t then q.2 else _);split
   ·rfl
   ·exact ih
 | o::l=>by
  have ih:=F3 (g:=g) (φ:=φ) (f:=f) hφ (t:=t) (l:=l);rw[pS]
  cases hd:o.dst with
  | none=>exact ih.imp (λ⟨a,o',b,c⟩=>⟨a,o',bs _ b,c⟩) λ⟨a,b⟩=>⟨a,λo' ho'=>by rcases t6 ho' with rfl | h ;(rw[hd];nofun);exact b o' h⟩
  | some d=>
   by_cases e:d=t
   ·subst e;exact .inl ⟨un rfl,o,ck,hd⟩
   ·have h1:aP ((d,g d)::pS g φ f l) t=aP (pS g φ f l) t:=ut e;simp only[h1];exact ih.imp (λ⟨a,o',b,c⟩=>⟨a,o',bs _ b,c⟩) λ⟨a,b⟩=>⟨a,λo' ho'=>by rcases t6 ho' with rfl | h ;(rw[hd];exact λh=>e (Option.some.inj h));exact b o' h⟩
def aE.TS{id:Nat}{ops:Array Oper}{st:eR}{Q:Ex->eR->Prop}{ol:List Oper}{ms:List Nat}(hol:ops.toList=ol)(hms:pd ol []=ms)(hok:((lQ 0 ol&&P.follows .mixedOrders)&&(CS ol ms (cY 0 ol)&&Mr ms (cY 0 ol)))=true)
 (h:rI P ro ol ms st.n st.f [] true [] (cY 0 ol) st.f st.S λf' S'=>Q .normal ⟨f',st.n,S',st.ds⟩):aE P ro (.region id ops true) st Q:=by
 obtain⟨f,n,S,ds⟩:=st;rw[am] at hok;obtain⟨hbk,hpr⟩:=hok;rw[am] at hpr;obtain⟨hpr,hch⟩:=hpr
 have hord:∀{i j:Nat} {a b:Oper},ol[i]?=some a->ol[j]?=some b->i<j->(ej a.op||gi a.op)=true->(ej b.op||gi b.op)=true->bR (ms.getD j 0) i=true:=λh1 h2 h3 h4 h5=>by simpa using KY hch h1 h2 h3 h4 h5
 have hback:=hbk;rw[am] at hback;obtain⟨z,hz,ht⟩:=h;obtain⟨X,hX0,hXN,hX⟩:=ht.get;simp only[cM] at hXN hX;have hP:=λ{i:Nat} {o:Oper} (ho:ol[i]?=some o)=>P4 hpr ho;simp only[cM] at hP;obtain⟨B,hB0⟩:∃B:Nat->Prop,∀i,B i↔∃o,ol[i]?=some o/\UF P ro ol ms n i o (X i) (X (i+1)):=⟨_,λ_=>Iff.rfl⟩
 obtain⟨κ,hκ0⟩:∃κ:Nat->Option Nat,∀i,(B i->κ i=none)/\∀o,ol[i]?=some o->¬B i->TB P ol ms n i o (X i) (X (i+1)) (κ i):=by
  have:∀i,∃κ,(B i->κ=none)/\∀o,ol[i]?=some o->¬B i->TB P ol ms n i o (X i) (X (i+1)) κ:=by
   intro i;by_cases hb:B i
   ·exact⟨none,λ_=>rfl,λ_ _ h=>ul hb h⟩
   cases ho:ol[i]? with
   | none=>exact⟨none,λ_=>rfl,nofun⟩
   | some o=>
    rcases(hX i o ho).out with⟨κ,h⟩ | h
    ·exact⟨κ,λh=>ul h hb,λo' e _=>by cases e;exact h⟩
    ·exact ul ((hB0 i).2 ⟨o,ho,h⟩) hb
  exact⟨λi=>Classical.choose (this i),λi=>Classical.choose_spec (this i)⟩
 have hκ:=λ{i o} (ho:ol[i]?=some o) (hb:¬B i)=>(hκ0 i).2 o ho hb
 have hBw:∀{i o},B i->ol[i]?=some o->ej o.op=false/\KO ol ms i=true:=by
  intro i o hb ho;obtain⟨o',h1,h2⟩:=(hB0 i).1 hb;rw[h1] at ho;cases ho;exact⟨h2.wr,h2.ok⟩
 have hBn:∀{i o},ol[i]?=some o->ej o.op=true->¬B i:=λho hw hb=>by rw[(hBw hb ho).1] at hw;cases hw
 have hat:∀{i},i<ol.length->∃o,ol[i]?=some o:=λh=>⟨_,jp h⟩
 have hBl:∀{i},B i->i<ol.length:=λhb=>by obtain⟨o,h,_⟩:=(hB0 _).1 hb;exact bx h
 have hBo:∀{c j},B c->j<ol.length->(j<c->bR (ms.getD c 0) j=true)/\(c<j->bR (ms.getD j 0) c=true):=by
  intro c j hb hj;obtain⟨oc,hoc⟩:=hat (hBl hb);obtain⟨oj,hoj⟩:=hat hj;have h:=all_eq_true.1 (hBw hb hoc).2 (j,oj) (mem_iff_getElem?.2 ⟨j,by rw[kc,hoj];simp⟩);simp only[ep,am] at h;refine⟨λhlt=>?_,λhlt=>?_⟩
  ·rcases h with(h | h) | h
   ·have:=co h;omega
   ·exact h.2
   ·have:=gp h.1;omega
  ·rcases h with(h | h) | h
   ·have:=co h;omega
   ·have:=gp h.1;omega
   ·exact h.2
 have hF:∀(k m t:Nat),k<=m->m<=ol.length->(∀c,k<=c->c<m->¬B c)->(∀j o,k<=j->j<m->ol[j]?=some o->o.dst≠some t)->aP (X m).f t=dU κ k m (aP (X k).f t):=by
  intro k m t hkm
  induction hkm with
  | refl=>exact λ_ _ _=>(jY (ap _)).symm
  | step hkm ih=>
   rename_i m;intro hm hb hno;obtain⟨o,hoj⟩:=hat hm;rw[(hκ hoj (hb m hkm (be _))).fr t (hno m _ hkm (be _) hoj),ti hkm,ih (ax hm) (λc h1 h2=>hb c h1 ii) λj o h1 h2=>hno j o h1 ii]
 have hseg:∀{α:Type} (φ:NR->α) (k m:Nat),(∀j o,k<=j->j<m->ol[j]?=some o->φ (X (j+1))=φ (X j))->k<=m->m<=ol.length->φ (X m)=φ (X k):=by
  intro α φ k m hs hkm
  induction hkm with
  | refl=>exact λ_=>rfl
  | step hkm ih=>
   rename_i m;intro hm;obtain⟨o,hoj⟩:=hat hm;rw[hs m o hkm (be _) hoj];exact ih (λj o h1 h2=>hs j o h1 ii) (ax hm)
 have hS:∀(k m:Nat),k<=m->m<=ol.length->(∀c,k<=c->c<m->¬B c)->(∀j o,k<=j->j<m->ol[j]?=some o->ej o.op=false)->(X m).S=(X k).S:=λk m h1 h2 hb hw=>hseg NR.S k m (λj o g1 g2 g3=>(hκ g3 (hb j g1 g2)).S (hw j o g1 g2 g3)) h1 h2;have hZ:∀(k m:Nat),k<=m->m<=ol.length->(∀c,k<=c->c<m->¬B c)->(X m).f0=(X k).f0:=λk m h1 h2 hb=>hseg NR.f0 k m (λj o g1 g2 g3=>(hκ g3 (hb j g1 g2)).z) h1 h2
 have hB:∀(k m:Nat),k<=m->m<=ol.length->(∀c,k<=c->c<m->¬B c)->(X m).b=true->∀j o,k<=j->j<m->ol[j]?=some o->ej o.op=false:=by
  intro k m hkm
  induction hkm with
  | refl=>exact λ_ _ _ j o h1 h2=>by omega
  | step hkm ih=>
   rename_i m;intro hm hbr hb j o h1 hj ho;obtain⟨o',ho'⟩:=hat hm;obtain⟨h3,h2⟩:=(hκ ho' (hbr m hkm (be _))).b hb;by_cases e:j=m
   ·subst e;rw[ho'] at ho;cases ho;exact h2
   ·exact ih (ax hm) (λc h1 h2=>hbr c h1 ii) h3 j o h1 ii ho
 have hH:∀(k m j:Nat),k<=m->m<=ol.length->(∀c,k<=c->c<m->¬B c)->j∈(X k).hp->j∈(X m).hp:=by
  intro k m j hkm
  induction hkm with
  | refl=>exact λ_ _ h=>h
  | step hkm ih=>
   intro hm hb hj;obtain⟨o',ho'⟩:=hat hm;exact(hκ ho' (hb _ hkm (be _))).hp j (ih (ax hm) (λc h1 h2=>hb c h1 ii) hj)
 have hKL:∀(k m:Nat) q,k<=m->m<=ol.length->(∀c,k<=c->c<m->¬B c)->q∈(X k).kl->q∈(X m).kl:=by
  intro k m q hkm
  induction hkm with
  | refl=>exact λ_ _ h=>h
  | step hkm ih=>
   intro hm hb hj;obtain⟨o',ho'⟩:=hat hm;exact(hκ ho' (hb _ hkm (be _))).k1 q (ih (ax hm) (λc h1 h2=>hb c h1 ii) hj)
 have hu:∀{j k:Nat} {a b:Oper} {t:Nat},ol[j]?=some a->ol[k]?=some b->a.dst=some t->b.dst=some t->j=k:=by
  have one:∀{j k:Nat} {a b:Oper} {t:Nat},ol[j]?=some a->ol[k]?=some b->a.dst=some t->b.dst=some t->¬j<k:=by
   intro j k a b t hj hk ha hb hlt;have:=(hP hj).2.2 k b hlt hk;unfold P3 at this;rw[hb] at this;simp[ha] at this
  intro j k a b t hj hk ha hb;exact Nat.le_antisymm (cv (one hk hj hb ha)) (cv (one hj hk ha hb))
 have hT:∀{i w:Nat} {o:Oper} {t k:Nat},ol[i]?=some o->i≠w->bR (ms.getD w 0) i=false->bR (ms.getD i 0) w=false->w<ol.length->κ w=some k->(o.dst=some t\/t∈jg ol o)->bf k (aP (X w).f t)=aP (X w).f t/\bf k (aP (X w).f0 t)=aP (X w).f0 t:=by
  intro i w o t k ho hne h1 h2 hw hk hd;obtain⟨ow,how⟩:=hat hw
  have hnb:¬B w:=λhb=>by rw[(hκ0 w).1 hb] at hk;cases hk
  refine(hκ how hnb).t k hk t ?_;unfold Ma;refine List.mem_flatMap.2 ⟨(i,o),List.mem_filter.2 ⟨mem_iff_getElem?.2 ⟨i,by rw[kc,ho];simp⟩,?_⟩,?_⟩
  ·simp only[h1,h2,Bool.not_false,dd,fd];cases hb:beq i w
   ·rfl
   ·exact ul (co hb) hne
  ·cases hd':o.dst with
   | none=>rw[hd'] at hd;exact hd.resolve_left nofun
   | some d=>
    rw[hd'] at hd
    rcases hd with hd | hd
    ·cases hd;exact ck
    ·exact bs _ hd
 have hu0:∀q:(Nat->Prop)×Nat,∃base:Nat->Nat,(∀j o t,q.2<=j->ol[j]?=some o->o.dst=some t->q.1 j->base t=j+1)/\∀t,(∀j o,q.2<=j->ol[j]?=some o->o.dst=some t->¬q.1 j)->base t=q.2:=by
  rintro⟨L,β⟩
  have:∀t,∃b,(∀j o,β<=j->ol[j]?=some o->o.dst=some t->L j->b=j+1)/\((∀j o,β<=j->ol[j]?=some o->o.dst=some t->¬L j)->b=β):=by
   intro t;by_cases h:∃j o,β<=j/\ol[j]?=some o/\o.dst=some t/\L j
   ·obtain⟨j,o,h0,h1,h2,h3⟩:=h;exact⟨j+1,λj' o' _ g1 g2 _=>by rw[hu h1 g1 h2 g2],λg=>ul h3 (g j o h0 h1 h2)⟩
   ·exact⟨β,λj o g0 g1 g2 g3=>ul ⟨j,o,g0,g1,g2,g3⟩ h,λ_=>rfl⟩
  exact⟨λt=>Classical.choose (this t),λj o t h0 h1 h2 h3=>(Classical.choose_spec (this t)).1 j o h0 h1 h2 h3,λt h=>(Classical.choose_spec (this t)).2 h⟩
 obtain⟨base,hbase0⟩:=Classical.axiomOfChoice hu0;have hbase:=λL β=>hbase0 (L,β);simp only at hbase;obtain⟨g,hg⟩:∃g:(Nat->Prop)->Nat->Nat->Nat->SV,∀L β m t,g L β m t=dU κ (base (L,β) t) m (aP (X (base (L,β) t)).f t):=⟨_,λ_ _ _ _=>rfl⟩
 have hfr:∀L β m t,aP (pS (g L β m) (dU κ β m) (X β).f ol) t=g L β m t:=by
  intro L β m t
  rcases F3 (g:=g L β m) (φ:=dU κ β m) (f:=(X β).f) (by rcases GG (κ:=κ) (b:=β) (m:=m) (v:=.any) with h | h<;>exact h) (t:=t) (l:=ol) with⟨h,_⟩ | ⟨h,hn⟩
  ·exact h
  ·rw[h,hg,(hbase L β).2 t λj o _ hj hd=>ul hd (hn o (c6 hj))]
 have hgd:∀(i:Nat) (o:Oper),ol[i]?=some o->∀(j:Nat) (b:Bool),o.guard=some (j,b)->j<i:=λi o ho=>(hP ho).2.1;refine aE.post (aE.any hol hbk (.inr hgd) (λL x=>x.n=n/\mi ol L/\∃β m,β<=m/\m<=ol.length/\(∀j,j<β->L j)/\(X β).f0=(X β).f/\(∀c,β<=c->B c->¬L c/\m<=c)/\(∀j o,ol[j]?=some o->ej o.op=true->(L j↔j<m))/\Fg x ⟨pS (g L β m) (dU κ β m) (X β).f ol,n,(X m).S,ds⟩) ?_ (λL x h=>h.1) ?_ ?_)
 ·refine⟨rfl,λ_ _ _ h=>h.elim,0,0,ap _,ct _,λj h=>ul h (bi _),by rw[hX0],λc _ _=>⟨λh=>h,ct _⟩,λj o _ _=>⟨λh=>h.elim,λh=>ul h (bi _)⟩,?_⟩;rw[show(X 0).S=S by rw[hX0]];refine Fg.tmps λt=>.inl ?_;rw[hfr,hg,(hbase _ 0).2 t λj o _ _ _ h=>h,hX0];rfl
 ·rintro L x i o ⟨hxn,hc,β,m,hβm,hml,hβ,hβ0,hβB,hm,hx⟩ hr;have ho:=hr.gX;have hil:=bx ho;obtain⟨p1,p2,p3⟩:=hP ho;have hβi:β<=i:=cv λh=>hr.new (hβ i h)
  have hc2:mi ol (λj=>L j\/j=i):=by
   intro j o' ho' hj e he hd
   rcases hj with hj | rfl
   ·exact .inl (hc j o' ho' hj e he hd)
   ·rw[ho'] at ho;cases ho;exact .inl (hr.dep e he hd)
  have hA:∀k,bR (ms.getD i 0) k=true->L k:=λk hk=>Jn hback.1 hc i o ho hr.dep (by rw[hms];exact hk);have hA2:∀j o' k,ol[j]?=some o'->L j->bR (ms.getD j 0) k=true->L k:=λj o' k hj hl hk=>Jn hback.1 hc j o' hj (hc j o' hj hl) (by rw[hms];exact hk);have hbi:∀c,β<=c->c<i->¬B c:=λc h1 h2 hb=>(hβB c h1 hb).1 (hA c ((hBo hb hil).2 h2))
  have hbm:∀c,β<=c->c<m->¬B c:=λc h1 h2 hb=>by have:=(hβB c h1 hb).2;omega
  have hbd:∀j o',β<=j->ol[j]?=some o'->L j->∀c,β<=c->c<j+1->¬B c:=by
   intro j o' h1 hj hl c h2 h3 hb;have hn:=(hβB c h2 hb).1;by_cases e:c=j
   ·subst e;exact hn hl
   ·exact hn (hA2 j o' c hj hl ((hBo hb (bx hj)).2 ii))
  have hKm:∀w,w<ol.length->κ w≠none->(L w↔w<m):=by
   intro w hw hk;obtain⟨ow,how⟩:=hat hw;have hnb:¬B w:=λhb=>hk ((hκ0 w).1 hb);refine hm w ow how ?_;cases hh:ej ow.op
   ·exact ul ((hκ how hnb).wr hh) hk
   ·rfl
  by_cases hBi:B i
  ·
   obtain⟨o',ho',hbar⟩:=(hB0 i).1 hBi;rw[ho] at ho';cases ho'
   have hLi:∀j,j<ol.length->(L j↔j<i):=by
    intro j hj;refine⟨λhl=>?_,λh=>hA j ((hBo hBi hj).1 h)⟩
    rcases cc j i with h | rfl | h
    ·exact h
    ·exact ul hl hr.new
    ·obtain⟨oj,hoj⟩:=hat hj;exact ul (hA2 j oj i hoj hl ((hBo hBi hj).2 h)) hr.new
   have hmi:m<=i:=(hβB i hβi hBi).2
   have hkr:∀b v,dU κ b m v=dU κ b i v:=λb v=>(oX hmi λw _ h2 h3=>by
    cases hk:κ w with
    | none=>rfl
    | some k=>
     have:=(hKm w ii (by rw[hk];nofun)).1 ((hLi w ii).2 h3)
     omega).symm
   have hSi:(X i).S=(X m).S:=hS m i hmi (ax hil) (λc h1 h2=>hbi c ii h2) λj o' h1 h2 hj=>Mc λe=>by have:=(hm j o' hj e).1 ((hLi j ii).2 h2);omega
   refine aR.fg (hx.trans (Fg.tmps (f':=(X i).f) λt=>.inl ?_)) ?_
   ·rw[hfr,hg,hkr];by_cases h:∃j o,β<=j/\ol[j]?=some o/\o.dst=some t/\L j
    ·obtain⟨j,o',h0,h1,h2,h3⟩:=h;have hji:=(hLi j (bx h1)).1 h3;rw[(hbase L β).1 j o' t h0 h1 h2 h3]
     exact hF (j+1) i t hji (ax hil) (λc g1 g2=>hbi c ii g2) λk b g1 _ hk e=>by have:=hu h1 hk h2 e;omega
    ·rw[(hbase L β).2 t λj o' h0 h1 h2 h3=>h ⟨j,o',h0,h1,h2,h3⟩];exact hF β i t hβi (ax hil) hbi λk b g1 g2 hk e=>h ⟨k,b,g1,hk,e,(hLi k (bx hk)).2 g2⟩
   ·rw[<-hSi];refine hbar.op ds _ ⟨rfl,hc2,i+1,i+1,ap _,hil,λj hj=>?_,hbar.z,λc h1 hb=>⟨λh=>?_,h1⟩,λj o' hj _=>⟨λh=>?_,λh=>?_⟩,Fg.tmps λt=>.inl ?_⟩
    ·by_cases e:j=i
     ·exact .inr e
     ·exact .inl ((hLi j ii).2 ii)
    ·rcases h with h | rfl
     ·have:=(hLi c (hBl hb)).1 h;omega
     ·omega
    ·rcases h with h | rfl
     ·have:=(hLi j (bx hj)).1 h;omega
     ·omega
    ·by_cases e:j=i
     ·exact .inr e
     ·exact .inl ((hLi j (bx hj)).2 ii)
    ·rw[hfr,hg,(hbase _ (i+1)).2 t λj o' h0 h1 h2 h3=>?_,jY (ap _)]
     rcases h3 with h3 | rfl
     ·have:=(hLi j (bx h1)).1 h3;omega
     ·omega
  have hκi:=hκ ho hBi
  have hun:∀{t:Nat},(o.dst=some t\/t∈jg ol o)->∀w,β<=w->w<ol.length->w≠i->(i<w/\w<m\/m<=w/\w<i)->∀k,κ w=some k->bf k (aP (X w).f t)=aP (X w).f t/\bf k (aP (X β).f t)=aP (X β).f t:=by
   intro t hd w hbw hw hne hcase k hk;obtain⟨ow,how⟩:=hat hw;have hLw:=hKm w hw (by rw[hk];nofun)
   have b1:bR (ms.getD w 0) i=false:=by
    cases hb:bR (ms.getD w 0) i
    ·rfl
    ·rcases hcase with h | h
     ·exact ul (hA2 w ow i how (hLw.2 h.2) hb) hr.new
     ·have:=Lt hback.1 hms w ow how hb;omega
   have b2:bR (ms.getD i 0) w=false:=by
    cases hb:bR (ms.getD i 0) w
    ·rfl
    ·rcases hcase with h | h
     ·have:=Lt hback.1 hms i o ho hb;omega
     ·have:=hLw.1 (hA w hb);omega
   have:=hT ho hne.symm b1 b2 hw hk hd;rw[hZ β w hbw (ax hw) λc h1 h2=>by rcases hcase with h | h;exact hbm c h1 ii;exact hbi c h1 ii,hβ0] at this;exact this
  have hstay:∀{t b:Nat},β<=b->(o.dst=some t\/t∈jg ol o)->b<=i+1->((b=β/\κ i=none)\/∀w,i<w->w<m->w<=ol.length->aP (X w).f t=dU κ b w (aP (X b).f t))->(∀w,w<=i->b<=w->aP (X w).f t=dU κ b w (aP (X b).f t))->(m<=i\/κ i=none)->dU κ b m (aP (X b).f t)=dU κ b i (aP (X b).f t):=by
   intro t b hβb hd hbi hw1 hw2 hκi
   rcases fs m i with hmi | hmi
   ·refine(oX hmi λw h1 h2 h3=>?_).symm
    cases hk:κ w with
    | none=>rfl
    | some k=>rw[<-hw2 w ii h1];exact(hun hd w ii ii ii (.inr ⟨h2,h3⟩) k hk).1
   ·refine oX hmi λw h1 h2 h3=>?_;by_cases hwi:w=i
    ·subst hwi
     rcases hκi with h | h
     ·omega
     ·rw[h];rfl
    ·cases hk:κ w with
     | none=>rfl
     | some k=>
      have hu:=hun hd w ii ii hwi (.inl ⟨by omega,h3⟩) k hk
      rcases hw1 with⟨rfl,_⟩ | hw1
      ·rcases GG (κ:=κ) (b:=b) (m:=w) (v:=aP (X b).f t) with h | h
       ·rw[h];exact hu.2
       ·rw[h];exact CC _
      ·rw[<-hw1 w ii h3 ii];exact hu.1
  have hκw:ej o.op=false->κ i=none:=hκi.wr
  have hlook0:(m<=i\/κ i=none)->∀t∈jg ol o,g L β m t=aP (X i).f t:=by
   intro hκi t hlt
   have hbw:∀w,(w<=i\/i<w/\w<m)->∀b,β<=b->∀c,b<=c->c<w->¬B c:=λw hw b hb c h1 h2=>by rcases hw with hw | hw;exact hbi c ii ii;exact hbm c ii ii
   rw[hg];by_cases hno:∀j o,β<=j->ol[j]?=some o->o.dst≠some t
   ·rw[(hbase L β).2 t λj o' h0 hj hd=>ul hd (hno j o' h0 hj)];have hh:=λw (h:w<=i\/i<w/\w<m) (hbw':β<=w) (hw:w<=ol.length)=>hF β w t hbw' hw (hbw w h β (ap _)) λj o' h1 _ hj=>hno j o' h1 hj;rw[hh i (.inl (ap _)) hβi (ax hil)];exact hstay (ap _) (.inr hlt) ii (.inr λw h1 h2 h=>hh w (.inr ⟨h1,h2⟩) ii h) (λw h h2=>hh w (.inl h) h2 ii) hκi
   ·simp only[ne_eq,Classical.not_forall,Decidable.not_not] at hno;obtain⟨j,o',hβj,hj,hd⟩:=hno
    rcases cc j i with hji | rfl | hji
    ·have h1:=(hP hj).2.2 i o hji ho;unfold P3 at h1;rw[hd,am] at h1
     have hbit:bR (ms.getD i 0) j=true:=by
      have h2:=h1.2;rw[ep] at h2
      rcases h2 with h2 | h2
      ·exact h2
      ·simp[hlt] at h2
     rw[(hbase L β).1 j o' t hβj hj hd (hA j hbit)]
     have hh:=λw (h:w<=i\/i<w/\w<m) (h1:j+1<=w) (hw:w<=ol.length)=>hF (j+1) w t h1 hw (hbw w h (j+1) ii) λk b hik _ hk e=>by have:=hu hj hk hd e;omega
     rw[hh i (.inl (ap _)) hji (ax hil)];exact hstay ii (.inr hlt) ii (.inr λw h h3 h2=>hh w (.inr ⟨h,h3⟩) ii h2) (λw h h2=>hh w (.inl h) h2 ii) hκi
    ·rw[hj] at ho;cases ho;exact ul hlt (p1 t hd)
    ·have h1:=p3 j o' hji hj;unfold P3 at h1;rw[hd,am,am,ep] at h1;have h2:=h1.1.2.resolve_left (by simp[hlt]);rw[(hbase L β).2 t λk b _ hk e hl=>hr.new (by have:=hu hj hk hd e;subst this;exact hA2 j o' i hj hl h2)]
     have hh:=λw (hw:w<=i) (hbw':β<=w)=>hF β w t hbw' ii (hbw w (.inl hw) β (ap _)) λk b _ hki hk e=>by have:=hu hj hk hd e;omega
     rw[hh i (ap _) hβi]
     rcases hκi with hκi | hκi
     ·exact hstay (ap _) (.inr hlt) ii (.inr λw h1 h2 _=>by omega) (λw h h2=>hh w h h2) (.inl hκi)
     ·exact hstay (ap _) (.inr hlt) ii (.inl ⟨rfl,hκi⟩) (λw h h2=>hh w h h2) (.inr hκi)
  have hSS:(∀j o',ol[j]?=some o'->ej o'.op=true->(L j↔j<i))->(X m).S=(X i).S:=by
   intro hh
   rcases fs i m with him | him
   ·exact hS i m him hml (λc h1 h2=>hbm c ii h2) λj o' h1 h2 hj=>Mc λe=>by have a:=hh j o' hj e;have b:=hm j o' hj e;have:=a.1 (b.2 h2);omega
   ·exact(hS m i him (ax hil) (λc h1 h2=>hbi c ii h2) λj o' h1 h2 hj=>Mc λe=>by have a:=hh j o' hj e;have b:=hm j o' hj e;have:=b.1 (a.2 h2);omega).symm
  have hlate:(X i).b=true->(∀j o',i<j->ol[j]?=some o'->ej o'.op=true->(∀c,i<c->c<j->¬B c)->bR (ms.getD j 0) i=true)->(X m).S=(X i).S:=by
   intro hb hh;refine hSS λj o' hj hd=>⟨λhl=>?_,λhlt=>?_⟩
   ·rcases cc j i with h1 | rfl | h1
    ·exact h1
    ·exact ul hl hr.new
    ·refine ul (hA2 j o' i hj hl (hh j o' h1 hj hd λc g1 g2=>hbd j o' ii hj hl c ii ii)) hr.new
   ·by_cases hjb:j<β
    ·exact hβ j hjb
    ·exact ul hd (by rw[hB β i hβi (ax hil) hbi hb j o' ii hlt hj];simp)
  refine aR.fg hx ?_
  have hbne:∀t,o.dst≠some t->base (λj=>L j\/j=i,β) t=base (L,β) t:=by
   intro t ht;by_cases h:∃j o,β<=j/\ol[j]?=some o/\o.dst=some t/\L j
   ·obtain⟨j,o',h0,h1,h2,h3⟩:=h;rw[(hbase _ β).1 j o' t h0 h1 h2 (.inl h3),(hbase L β).1 j o' t h0 h1 h2 h3]
   ·rw[(hbase L β).2 t λj o' h0 h1 h2 h3=>h ⟨j,o',h0,h1,h2,h3⟩,(hbase _ β).2 t λj o' h0 h1 h2 h3=>?_]
    rcases h3 with h3 | rfl
    ·exact h ⟨j,o',h0,h1,h2,h3⟩
    ·rw[ho] at h1;cases h1;exact ht h2
  have hβB2:∀c,β<=c->B c->¬(L c\/c=i)/\m<=c:=λc h1 hb=>⟨λh=>h.elim (hβB c h1 hb).1 λe=>hBi (e▸hb),(hβB c h1 hb).2⟩
  have lay:∀{d:Nat} {v:SV},o.dst=some d->ej o.op=false->aP (X (i+1)).f d=v->(λx=>(λx=>x.n=n/\mi ol (λj=>L j\/j=i)/\∃β m,β<=m/\m<=ol.length/\(∀j,j<β->(L j\/j=i))/\(X β).f0=(X β).f/\(∀c,β<=c->B c->¬(L c\/c=i)/\m<=c)/\(∀j o,ol[j]?=some o->ej o.op=true->((L j\/j=i)↔j<m))/\Fg x ⟨pS (g (λj=>L j\/j=i) β m) (dU κ β m) (X β).f ol,n,(X m).S,ds⟩) x) ⟨(d,v)::pS (g L β m) (dU κ β m) (X β).f ol,n,(X m).S,ds⟩:=by
   intro d v hd hwr hv;refine⟨rfl,hc2,β,m,hβm,hml,λj h=>.inl (hβ j h),hβ0,hβB2,λj o' hj hdj=>⟨λh=>?_,λh=>.inl ((hm j o' hj hdj).2 h)⟩,Fg.tmps λt=>.inl ?_⟩
   ·rcases h with h | rfl
    ·exact(hm j o' hj hdj).1 h
    ·rw[ho] at hj;cases hj;rw[hwr] at hdj;cases hdj
   ·rw[hfr,hg]
    show _=if d=t then v else aP (pS (g L β m) (dU κ β m) (X β).f ol) t
    by_cases e:d=t
    ·subst e;rw[un rfl,(hbase _ β).1 i o d hβi ho hd (.inr rfl),hv]
     rcases fs m (i+1) with h | h
     ·exact jY h
     ·refine(oX h λw h1 h2 h3=>?_).trans (jY (ap _))
      cases hk:κ w with
      | none=>rfl
      | some k=>
       rw[<-hv,<-hF (i+1) w d h1 ii (λc g1 g2=>hbm c ii ii) λj o' g1 _ g3 e=>by have:=hu ho g3 hd e;omega];exact(hun (.inl hd) w ii ii ii (.inl ⟨by omega,h3⟩) k hk).1
    ·rw[ut e,hfr,hg,hbne t λh=>e (by rw[hd] at h;exact Option.some.inj h)]
  have hstp:=hX i o ho;have top:∀{d:Nat} {v:SV} {f:Fm},aP ((d,v)::f) d=v:=λ{d v f}=>un rfl;have hXi:∃x,X i=x:=⟨_,rfl⟩;have hXj:∃x,X (i+1)=x:=⟨_,rfl⟩;obtain⟨xi,hxi⟩:=hXi;obtain⟨xj,hxj⟩:=hXj
  have hst:eP (ol.take (i+1)) n [o]=true:=by
   have:=hκi.st;unfold eP at this ⊢;simp only[g5,List.all_nil,dd] at this ⊢
   cases hg:o.guard with
   | none=>rw[hg] at this;exact this
   | some q=>obtain⟨j,w⟩:=q;rw[hg] at this;simp only at this ⊢;rw[ey,un (by have:=p2 j w hg;omega)];exact this
  have hlook:(m<=i\/κ i=none)->(∀gd:Option (Nat×Bool),o.guard=gd->cV (ol.take (i+1)) (pS (g L β m) (dU κ β m) (X β).f ol) gd=cV ol (X i).f gd)/\∀x∈o.op.operands.toList,gf (pS (g L β m) (dU κ β m) (X β).f ol) x=gf (X i).f x:=by
   intro hκi
   have h1:∀t∈jg ol o,aP (pS (g L β m) (dU κ β m) (X β).f ol) t=aP (X i).f t:=λt ht=>by rw[hfr];exact hlook0 hκi t ht
   refine⟨λgd hgd=>?_,Np h1⟩;rw[<-hgd,<-IA h1,hgd]
   cases gd with
   | none=>rfl
   | some q=>obtain⟨j,w⟩:=q;simp only[cV];rw[ey,un (by have:=p2 j w hgd;omega)]
  rw[hxi,hxj] at hstp;by_cases hww:ej o.op=true
  ·have hb:∀j o',ol[j]?=some o'->ej o'.op=true->(L j↔j<i):=by
    intro j o' hj hdj
    rcases cc j i with h1 | rfl | h1
    ·exact⟨λ_=>h1,λ_=>hA j (hord hj ho h1 (by rw[hdj];rfl) (by rw[hww];rfl))⟩
    ·exact⟨λh=>ul h hr.new,λh=>ul h (Nat.lt_irrefl _)⟩
    ·exact⟨λhl=>ul (hA2 j o' i hj hl (hord ho hj h1 (by rw[hww];rfl) (by rw[hdj];rfl))) hr.new,λh=>ul h ii⟩
   have hmi:m<=i:=cv λh=>hr.new ((hm i o ho hww).2 h);have hl:=hlook (.inl hmi);obtain⟨v,S',k1,k3,k4⟩:=hκi.op hww
   refine aR.run (l':=[]) (f':=tc (pS (g L β m) (dU κ β m) (X β).f ol) (κ i) o.dst v) (S':=S') hst (by
    rcases k1 with⟨k1,k2⟩ | ⟨k1,⟨d,k2⟩,rfl,rfl,k5⟩
    ·rw[pw,hl.1 _ rfl,k1,tn (by rw[hww,d7]) hl.2,hSS hb,k2];simp only[pw]
    ·rw[pw,hl.1 _ rfl,k1,k5,k2,hSS hb];simp only[pw,tc,kS]) (.nil ⟨rfl,hc2,β,i+1,by omega,hil,λj h=>.inl (hβ j h),hβ0,λc h1 hb2=>⟨(hβB2 c h1 hb2).1,?_⟩,λj o' hj hdj=>⟨λh=>?_,λh=>?_⟩,?_⟩)
   ·rcases cc c i with h | rfl | h
    ·exact ul hb2 (hbi c h1 h)
    ·exact ul hb2 hBi
    ·exact h
   ·rcases h with h | rfl
    ·have:=(hb j o' hj hdj).1 h;omega
    ·omega
   ·by_cases e:j=i
    ·exact .inr e
    ·exact .inl ((hb j o' hj hdj).2 ii)
   ·rw[k4];refine Fg.tmps λt=>.inl ?_
    have hr2:aP (tc (pS (g L β m) (dU κ β m) (X β).f ol) (κ i) o.dst v) t=if o.dst=some t then v else jX (κ i) (g L β m t):=by
     have hk:aP (kS (pS (g L β m) (dU κ β m) (X β).f ol) (κ i)) t=jX (κ i) (g L β m t):=by
      rw[<-hfr L β m t]
      cases κ i with
      | none=>rfl
      | some k=>exact iN _ _ _
     cases o.dst with
     | none=>rw[ut nofun];exact hk
     | some d=>
      show(if d=t then v else _)=_;simp only[qr,hk]
    rw[hr2,hfr,hg];by_cases hd:o.dst=some t
    ·rw[un hd,(hbase _ β).1 i o t hβi ho hd (.inr rfl),jY (ap _),k3 t hd]
    ·rw[ut hd,hbne t hd,hg]
     have hmi2:dU κ (base (L,β) t) m (aP (X (base (L,β) t)).f t)=dU κ (base (L,β) t) i (aP (X (base (L,β) t)).f t):=by
      refine(oX hmi λw h1 h2 h3=>?_).symm
      cases hk:κ w with
      | none=>rfl
      | some k=>
       exfalso;have h4:=hKm w ii (by rw[hk];nofun);obtain⟨ow,how⟩:=hat (show w<ol.length by omega)
       have hnb:¬B w:=λhb=>by rw[(hκ0 w).1 hb] at hk;cases hk
       have hwo:ej ow.op=true:=by
        cases hh:ej ow.op
        ·have:=(hκ how hnb).wr hh;rw[hk] at this;cases this
        ·rfl
       have:=h4.1 ((hb w ow how hwo).2 h3);omega
     rw[hmi2];by_cases hbl:base (L,β) t<=i
     ·exact ti hbl
     ·rw[jY ii,jY ii]
      cases hk:κ i with
      | none=>rfl
      | some k=>
       refine Eq.symm ?_;by_cases h:∃j o,β<=j/\ol[j]?=some o/\o.dst=some t/\L j
       ·obtain⟨j,o',h0,h1,h2,h3⟩:=h;rw[(hbase L β).1 j o' t h0 h1 h2 h3] at hbl ⊢
        have hij:j≠i:=λe=>by subst e;rw[ho] at h1;cases h1;exact hd h2
        have hnb:=hbd j o' h0 h1 h3;have:=(hκ h1 (hnb j h0 (be _))).v t h2 (i,k) (hKL (i+1) j _ ii (ax (bx h1)) (λc g1 g2=>hnb c ii ii) (hκi.k2 k hk))
        rcases this with this | this
        ·exact ul (hA2 j o' i h1 h3 this) hr.new
        ·exact this
       ·rw[(hbase L β).2 t λj o' h0 h1 h2 h3=>h ⟨j,o',h0,h1,h2,h3⟩] at hbl;omega
  have hκn:=hκw (by simpa using hww);have hl:=hlook (.inr hκn)
  cases hstp with
  | s _ hd hw hwr=>
   refine aR.run (l':=[]) hst ?_ (.nil (lay (v:=.a mg) hd hwr (by rw[hxj];exact top)));rw[pw,hl.1 _ rfl,hxi,hw];simp only[hd,pw]
  | r _ hd hw hrd hop=>
   rename_i v _ _;refine aR.run (l':=[]) hst ?_ (.nil (lay (v:=v) hd (xg hrd) (by rw[hxj];exact top)));rw[pw,hl.1 _ rfl,hxi,hw,tn (by rw[hrd];rfl) hl.2,hxi,hop];simp only[hd,tc,kS,pw]
  | h _ hd hw hrd hop=>
   rename_i v _ _
   have e:=hlate (by rw[hxi]) λj o' hij hj hdj hnb=>by
    have h1:=(hκ hj (hBn hj hdj)).w hdj;exact all_eq_true.1 h1 i (hH (i+1) j i hij (ax (bx hj)) (λc g1 g2=>hnb c ii g2) (by rw[hxj];exact ck))
   rw[hxi] at e;refine aR.run (l':=[]) hst ?_ (.nil (lay (v:=v) hd (xg hrd) (by rw[hxj];exact top)));rw[pw,hl.1 _ rfl,hxi,hw,tn (by rw[hrd];rfl) hl.2,hxi,e,hop];simp only[hd,tc,kS,pw]
  | k _ hop hd hw hdy he hcs hq hwk _ hfl=>
   have hkw:ej o.op=false:=by rw[hop];exact OP hdy
   have e:=hlate (by rw[hxi]) λj o' hij hj hdj _=>hord ho hj hij (by rw[hop,hdy,d7]) (by rw[hdj];rfl);rw[hxi] at e;refine aR.k hst hop hd (by rw[hl.1 _ rfl,hxi];exact hw) hdy (by rw[F2 (by rw[<-hop];exact hl.2),hxi];exact hcs) hq (by rw[e];exact hwk) hfl (.nil (lay hd hkw (by rw[hxj];exact top)))
  | sk _ _ _ hwr=>exact ul hwr hww
  | e _ _ hwr=>exact ul hwr hww
  | a _ _ hwr=>exact ul hwr hww
  | Re h1 h2 h3=>exact ul ((hB0 i).2 ⟨o,ho,by rw[hxi,hxj];exact⟨h1,h2,h3,rfl⟩⟩) hBi
 ·rintro L x ⟨hxn,hc,β,m,hβm,hml,hβ,hβ0,hβB,hm,hx⟩ hall;have hnb:∀c,β<=c->¬B c:=λc h1 hb=>(hβB c h1 hb).1 (hall c (hBl hb))
  have hSe:(X m).S=z.S:=by
   rw[<-hXN];exact(hS m ol.length hml (ap _) (λc h1 _=>hnb c ii) λj o h1 h2 hj=>Mc λe=>by have:=(hm j o hj e).1 (hall j h2);omega).symm
  rw[hSe] at hx;refine⟨⟨z.f,n,z.S,ds⟩,hx.trans (Fg.tmps λt=>.inl ?_),hz⟩
  have hκm:∀b v,dU κ b m v=dU κ b ol.length v:=λb v=>(oX hml λw _ h2 h3=>by
   cases hk:κ w with
   | none=>rfl
   | some k=>
    exfalso;obtain⟨ow,how⟩:=hat h3
    have hnw:¬B w:=λhb=>by rw[(hκ0 w).1 hb] at hk;cases hk
    have hww:ej ow.op=true:=by
     cases hh:ej ow.op
     ·have:=(hκ how hnw).wr hh;rw[hk] at this;cases this
     ·rfl
    have:=(hm w ow how hww).1 (hall w h3)
    omega).symm
  rw[hfr,hg,hκm,<-hXN];by_cases hno:∃j o,β<=j/\ol[j]?=some o/\o.dst=some t
  ·obtain⟨k,o',h0,hk,hd'⟩:=hno;rw[(hbase L β).1 k o' t h0 hk hd' (hall k (bx hk))]
   exact hF (k+1) ol.length t (bx hk) (ap _) (λc h1 _=>hnb c ii) λj b h1 _ hj e=>by have:=hu hj hk e hd';omega
  ·rw[(hbase L β).2 t λj o' h0 hj hd=>ul ⟨j,o',h0,hj,hd⟩ hno];exact hF β ol.length t ii (ap _) (λc h1 _=>hnb c h1) λj o' h0 _ hj hd=>hno ⟨j,o',h0,hj,hd⟩
def SD(P:Program)(ro:Option Nat)(all:List Oper)(ms:List Nat)(n:Nat)(b:Bool)(hp:List Nat)(l:List (Nat×Oper))(f:Fm)(S:List SO)(K:Fm->List SO->Prop):Prop:=∀f0,rI P ro all ms n f0 [] b hp l f S K
def Tz{op:Op}(h:uw op=true):ej op=true:=by unfold ej;rw[h];rfl
section
variable {all:List Oper} {ms:List Nat} {n:Nat} {b:Bool} {hp:List Nat} {l:List (Nat×Oper)} {f:Fm} {S:List SO} {K:Fm->List SO->Prop} {i:Nat} {o:Oper} {d:Nat}
def SD.nil(h:K f S):SD P ro all ms n b hp [] f S K:=λ_=>.nil h
theorem SD.s(hst:eP all n [o]=true)(hdst:o.dst=some d)(hw:cV all f o.guard=some false)(hwr:ej o.op=false)(q:SD P ro all ms n b hp l ((d,.a mg)::f) S K):SD P ro all ms n b hp ((i,o)::l) f S K:=λf0=>.s hst hdst hw hwr (q f0)
theorem SD.r{v:SV}{S':List SO}{kill:Option Nat}(hst:eP all n [o]=true)(hdst:o.dst=some d)(hw:cV all f o.guard=some true)(hrr:(kQ o.op&&(b||!Jh o.op))=true)(hop:dO P f S o.op=some (v,S',kill))
 (hk:SD P ro all ms n b (_root_.cond (Jh o.op) (i::hp) hp) l ((d,v)::f) S K):SD P ro all ms n b hp ((i,o)::l) f S K:=λf0=>.r hst hdst hw hrr hop (hk f0) trivial
def SD.ri{tt:TypeId}{x:Operand}{cs0:List SV}{v:SV}(hst:eP all n [o]=true)(hdst:o.dst=some d)(hw:cV all f o.guard=some true)(hop:o.op=.load tt x)(hx:gf f x=some (.ip cs0))(hv:uH P tt cs0 0=some v)
 (q:SD P ro all ms n b hp l ((d,v)::f) S K):SD P ro all ms n b hp ((i,o)::l) f S K:=λf0=>.ri hst hdst hw hop hx hv trivial (q f0)
theorem SD.k{cl:Call}{g:FuncId}{vs ws:List SV}{r:SV}(hst:eP all n [o]=true)(hop:o.op=.call cl)(hdst:o.dst=some d)(hw:cV all f o.guard=some true)(hdy:gi (.call cl)=true)(he:uu (.call cl)=true)
 (hc:ja P f cl=some (g,vs)) (hq:PC P g ws (·=r)) (hwk:bm S vs ws) (hr:wZ r=true) (q:SD P ro all ms n true hp l ((d,r)::f) S K):SD P ro all ms n true hp ((i,o)::l) f S K:=λf0=>.k hst hop hdst hw hdy he hc hq hwk hr (q f0)
theorem SD.e{v:SV}{S':List SO}(hst:eP all n [o]=true)(hdst:o.dst=none)(hw:cV all f o.guard=some true)(he:uu o.op=true)(hwr:uw o.op=true)(hms:hp.all (λj=>bR (ms.getD i 0) j)=true)(hop:dO P f S o.op=some (v,S',none))
 (q:SD P ro all ms n false hp l f S' K):SD P ro all ms n b hp ((i,o)::l) f S K:=λf0=>.e hst hw (Tz hwr) hms hop trivial (by rw[hdst];exact q f0)
def SD.ed{v:SV}{S':List SO}(hst:eP all n [o]=true)(hdst:o.dst=some d)(hw:cV all f o.guard=some true)(he:uu o.op=true)(hwr:uw o.op=true)(hms:hp.all (λj=>bR (ms.getD i 0) j)=true)(hop:dO P f S o.op=some (v,S',none))
 (q:SD P ro all ms n false hp l ((d,v)::f) S' K):SD P ro all ms n b hp ((i,o)::l) f S K:=λf0=>.e hst hw (Tz hwr) hms hop trivial (by rw[hdst];exact q f0)
end
def aE.UR{id:Nat}{ops:Array Oper}{st:eR}{Q:Ex->eR->Prop}{ol:List Oper}{ms:List Nat}(hol:ops.toList=ol)(hms:pd ol []=ms)(hok:((lQ 0 ol&&P.follows .mixedOrders)&&(CS ol ms (cY 0 ol)&&Mr ms (cY 0 ol)))=true)
 (h:SD P ro ol ms st.n true [] (cY 0 ol) st.f st.S λf' S'=>Q .normal ⟨f',st.n,S',st.ds⟩):aE P ro (.region id ops true) st Q:=.TS hol hms hok (h _)
end
end
end Go.Ev
namespace Go.Proofs
open Go.Ev
set_option maxRecDepth 100000
def dz:tG prog:=RX (by kernel_rfl)
def It:N9 prog 322 .indexByte:=N9.indexByte λx c w=>by
 rw[run_callFunc_extern Tryz.func322 (by kernel_rfl) (by kernel_rfl) (by kernel_rfl) (e:=Extern.BytealgIndexByte.indexByte) (by kernel_rfl),Lib.run_indexByteString];rfl
def bz{a b:Prop}(x:a)(y:b):a/\b:=⟨x,y⟩
def cL{a b c:Prop}(x:a)(y:b)(z:c):a/\b/\c:=⟨x,y,z⟩
def gh{a b c d:Prop}(x:a)(y:b)(z:c)(w:d):a/\b/\c/\d:=⟨x,y,z,w⟩
def lB{a b c d e:Prop}(x:a)(y:b)(z:c)(w:d)(u:e):a/\b/\c/\d/\e:=⟨x,y,z,w,u⟩
def wS{a b c d e f:Prop}(x:a)(y:b)(z:c)(w:d)(u:e)(v:f):a/\b/\c/\d/\e/\f:=⟨x,y,z,w,u,v⟩
def F4{a b c d e f g:Prop}(a1:a)(b1:b)(c1:c)(d1:d)(e1:e)(f1:f)(g1:g):a/\b/\c/\d/\e/\f/\g:=⟨a1,b1,c1,d1,e1,f1,g1⟩
def Vv{a b c d e f g h:Prop}(a1:a)(b1:b)(c1:c)(d1:d)(e1:e)(f1:f)(g1:g)(h1:h):a/\b/\c/\d/\e/\f/\g/\h:=⟨a1,b1,c1,d1,e1,f1,g1,h1⟩
def QV{a b c d e f g h i:Prop}(a1:a)(b1:b)(c1:c)(d1:d)(e1:e)(f1:f)(g1:g)(h1:h)(i1:i):a/\b/\c/\d/\e/\f/\g/\h/\i:=⟨a1,b1,c1,d1,e1,f1,g1,h1,i1⟩
def OF{a b c d e f g h i j:Prop}(a1:a)(b1:b)(c1:c)(d1:d)(e1:e)(f1:f)(g1:g)(h1:h)(i1:i)(j1:j):a/\b/\c/\d/\e/\f/\g/\h/\i/\j:=⟨a1,b1,c1,d1,e1,f1,g1,h1,i1,j1⟩
def U5:ci 1 SO.gone=[.gone]:=rfl
def U6:ci 2 SO.gone=[.gone,.gone]:=rfl
def U7:ci 3 SO.gone=[.gone,.gone,.gone]:=rfl
def U8:ci 4 SO.gone=[.gone,.gone,.gone,.gone]:=rfl
def Su:type_of% U5/\type_of% U6/\type_of% U7/\type_of% U8:=⟨U5,U6,U7,U8⟩
def zl{p:Prop}(h:p:=by simp only[dD,bY,an,aH,m7,m6,↓reduceIte,Nat.reduceEqDiff,Nat.reduceAdd,Nat.reduceMul,Nat.reduceLeDiff,Nat.reduceLT,ar,aw,bP];first | done | rfl):p:=h
def sP{p r:Prop}(k:r)(h:r->p:=by intro k;simp only[dD,bY,an,aH,m7,m6,↓reduceIte,Nat.reduceEqDiff,Nat.reduceAdd,Nat.reduceMul,Nat.reduceLeDiff,Nat.reduceLT,ar,aw,bP,k];first | done | rfl):p:=h k
def zc{p:Prop}(h:p:=by simp only[dD,bY,an,aH,m7,m6,↓reduceIte,Nat.reduceEqDiff,Nat.reduceAdd,Nat.reduceMul,Nat.reduceLeDiff,Nat.reduceLT,ar,aw,bP,ja];first | done | rfl):p:=h
def IH{p r:Prop}(k:r)(h:r->p:=by intro k;simp only[dD,bY,an,aH,m7,m6,↓reduceIte,Nat.reduceEqDiff,Nat.reduceAdd,Nat.reduceMul,Nat.reduceLeDiff,Nat.reduceLT,ar,aw,bP,ja,k];first | done | rfl):p:=h k
def NO{p q r:Prop}(f:r)(h:r->p->q:=by intro f h;(repeat (first | refine SD.ri g9 rfl g9 rfl (sP @f) (sP @f) ?_ | refine SD.r g9 rfl g9 g9 (sP @f) ?_ | refine SD.s g9 rfl g9 g9 ?_ | fail));exact h)(k:p):q:=h f k
def qB{p q:Prop}(h:p->q:=by intro h;(repeat (first | refine SD.ri g9 rfl g9 rfl zl zl ?_ | refine SD.r g9 rfl g9 g9 zl ?_ | refine SD.s g9 rfl g9 g9 ?_ | fail));exact h)(k:p):q:=h k
def zj{p:Prop}(h:p:=by (repeat' apply And.intro)<;>first | exact .inl rfl | trivial):p:=h
def zW{p:Prop}(h:p:=by kernel_rfl):p:=h
def zV{p q:Prop}(h:p->q:=by intro h;(repeat refine aE.seq ?_);refine aE.r0 g9 zl ?_;(try change aE _ _ _ _ _);exact h)(k:p):q:=h k
def az{p q r:Prop}(f:r)(h:r->p->q:=by intro f h;(repeat refine aE.seq ?_);refine aE.r0 g9 (sP @f) ?_;(try change aE _ _ _ _ _);exact h)(k:p):q:=h f k
def zC{p q:Prop}(h:p->q:=by intro h;(repeat refine aE.seq ?_);refine aE.Tn g9 zl ?_;exact h)(k:p):q:=h k
def fC{p q r:Prop}(f:r)(h:r->p->q:=by intro f h;(repeat refine aE.seq ?_);refine aE.Tn g9 (sP @f) ?_;exact h)(k:p):q:=h f k
def zR{p q:Prop}(h:p->q:=by intro h;refine aR.r0 g9 zl ?_;(try change aE _ _ _ _ _);exact h)(k:p):q:=h k
def cH{p q r:Prop}(f:r)(h:r->p->q:=by intro f h;refine aR.r0 g9 (sP @f) ?_;(try change aE _ _ _ _ _);exact h)(k:p):q:=h f k
def zQ{p q:Prop}(h:p->q:=by intro h;refine aR.run g9 zl ?_;exact h)(k:p):q:=h k
def NV{p q r:Prop}(f:r)(h:r->p->q:=by intro f h;refine aR.run g9 (sP @f) ?_;exact h)(k:p):q:=h f k
def zY{p q:Prop}(h:p->q:=by intro h;(repeat refine aE.seq ?_);refine aE.yes rfl ?_;(try (refine aE.skip ?_;try change aE _ _ _ _ _));exact h)(k:p):q:=h k
def zN{p q:Prop}(h:p->q:=by intro h;(repeat refine aE.seq ?_);refine aE.no rfl ?_;(try (refine aE.skip ?_;try change aE _ _ _ _ _));exact h)(k:p):q:=h k
def zE{p q:Prop}(h:p->q:=by intro h;refine aE.ret ?_;(try simp only[e8,df,bW,bI]);exact h)(k:p):q:=h k
def zB{p q:Prop}(h:p->q:=by intro h;(repeat refine aE.seq ?_);refine aE.block ?_;exact h)(k:p):q:=h k
section
variable {P:Program} {ro:Option Nat} {f:Fm} {n:Nat} {S:List SO} {ds:List kr} {Q:Ex->eR->Prop}
def zK{all:List Oper}{o:Oper}{l:List Oper}{K:eR->Prop}{d:Nat}{c:Call}{g:FuncId}{vs ws:List SV}{r:SV}(hq:PC P g ws (·=r))
 (hst:eP all n [o]=true:=by rfl) (hop:o.op=.call c:=by rfl) (hdst:o.dst=some d:=by rfl) (hw:cV all f o.guard=some true:=by rfl) (hdy:gi (.call c)=true:=by rfl)
 (hc:ja P f c=some (g,vs):=by exact zc) (hwk:bm S vs ws:=by first | exact bm.refl rfl | ((repeat' (first | exact bm.nil | apply bm.cons | exact Wk.refl rfl | exact Wk.nil _ | apply Wk.ag | apply Wk.cq | apply Wk.fn | refine Wk.ptr rfl ?_ (by first | decide | (simp only[bY];omega)) | refine Wk.buf rfl ?_ (by first | decide | (simp only[bY];omega)) | refine Wk.map rfl ?_ | exact bm.refl rfl));done)) (hfl:wZ r=true\/bm [] vs ws:=by exact .inl rfl) (hk:aR P ro all l ⟨(d,r)::f,n,S,ds⟩ K):aR P ro all (o::l) ⟨f,n,S,ds⟩ K:=
 aR.k hst hop hdst hw hdy hc hq hwk hfl hk
def zO{fn:Func}{Qr:SV->Prop}{e:Ex}{vs:List SV}{r:SV}(rs:List ResultVar)(he:kM e=true:=by rfl)(hr:fn.results.toList=rs:=by rfl)(h:po P f S rs=some vs:=by exact zl)(hw:Wk S (eI vs) r:=by exact Wk.refl rfl)(hq:Qr r:=by (try simp only[eI,bG]);first | done | rfl):Cb P fn Qr e ⟨f,n,S,[]⟩:=Cb.of he hr h hw hq
def zH{f':Fm}{S':List SO}(hf:vE f f':=by (simp only[dD,bY,fQ,an,↓reduceIte,Nat.reduceEqDiff])<;>(repeat' apply And.intro)<;>first | rfl | trivial)(hs:Dt S S' 0:=by (simp only[dD,bY,an,or_true,true_or])<;>(repeat' apply And.intro)<;>first | exact .inr rfl | exact .inl rfl | trivial):Fg ⟨f,n,S,ds⟩ ⟨f',n,S',ds⟩:=Fg.less hf hs
def bN{r:Prop}{f':Fm}{S':List SO}(k:r)(hf:r->vE f f':=by intro k;(simp only[dD,bY,fQ,an,↓reduceIte,Nat.reduceEqDiff,k])<;>(repeat' apply And.intro)<;>first | rfl | trivial)(hs:r->Dt S S' 0:=by intro k;(simp only[dD,bY,an,or_true,true_or,k])<;>(repeat' apply And.intro)<;>first | exact .inr rfl | exact .inl rfl | trivial):Fg ⟨f,n,S,ds⟩ ⟨f',n,S',ds⟩:=Fg.less (hf k) (hs k)
def zG{p:Prop}(h:p:=by (simp only[yN,dD,bY,true_or,or_true,↓reduceIte,Nat.reduceEqDiff])<;>(repeat' apply And.intro)<;>first | exact .inl rfl | trivial | exact .inr (Wk.buf rfl (bm.refl rfl) (by first | decide | (simp only[bY];omega))) | exact .inr (Wk.map rfl (bm.refl rfl)) | exact .inr (Wk.ptr rfl (bm.refl rfl) (by first | decide | (simp only[bY];omega)))):p:=h
def gV{r p:Prop}(k:r)(h:r->p:=by intro k;((simp only[yN,dD,bY,true_or,or_true,↓reduceIte,Nat.reduceEqDiff,k])<;>(repeat' apply And.intro)<;>first | exact .inl rfl | trivial | exact .inr (Wk.buf rfl (bm.refl rfl) (by first | decide | (simp only[bY];omega))) | exact .inr (Wk.map rfl (bm.refl rfl)) | exact .inr (Wk.ptr rfl (bm.refl rfl) (by first | decide | (simp only[bY];omega))))):p:=h k
def zZ{c:Code}(f':Fm)(o:Nat){so:SO}(hS:S[o]?=some so)(hf:yN (mf o so) f f')(h:aE P ro c ⟨f',n,S.set o .gone,ds⟩ Q)(hg:so≠.gone:=by intro h;cases h):aE P ro c ⟨f,n,S,ds⟩ Q:=aE.fg (Fg.freeze o hS hg hf) h
def zA{c:Code}(f':Fm)(S':List SO)(hf:Fg ⟨f,n,S,ds⟩ ⟨f',n,S',ds⟩)(h:aE P ro c ⟨f',n,S',ds⟩ Q):aE P ro c ⟨f,n,S,ds⟩ Q:=aE.fg hf h
def oZ{all:List Oper}{l:List Oper}{K:eR->Prop}(f':Fm)(o:Nat){so:SO}(hS:S[o]?=some so)(hf:yN (mf o so) f f')(h:aR P ro all l ⟨f',n,S.set o .gone,ds⟩ K)(hg:so≠.gone:=by intro h;cases h):aR P ro all l ⟨f,n,S,ds⟩ K:=aR.fg (Fg.freeze o hS hg hf) h
def oA{all:List Oper}{l:List Oper}{K:eR->Prop}(f':Fm)(S':List SO)(hf:Fg ⟨f,n,S,ds⟩ ⟨f',n,S',ds⟩)(h:aR P ro all l ⟨f',n,S',ds⟩ K):aR P ro all l ⟨f,n,S,ds⟩ K:=aR.fg hf h
def zs{p q:Prop}(h:p->q:=by intro h;(repeat refine aE.seq ?_);exact h)(k:p):q:=h k
def zL{α:Type}(l:List α)(I:Nat->Prop)(fr:Nat->Fm)(T:Nat->List SO){id:Nat}{x:Code}(hf:Fg ⟨f,n,S,[]⟩ ⟨fr 0,n,T 0,[]⟩)(h0:I 0)
 (h:∀k,k<=l.length->I k->aE P ro x ⟨fr k,n,T k,[]⟩ (bW (λm st=>∃k,k<=l.length/\m=l.length-k/\I k/\st=⟨fr k,n,T k,[]⟩) (l.length-k) (e8 id Q))):aE P ro (.block id (.loop x)) ⟨f,n,S,[]⟩ Q:=
 aE.block (aE.loop (λm st=>∃k,k<=l.length/\m=l.length-k/\I k/\st=⟨fr k,n,T k,[]⟩) l.length hf ⟨0,ct _,rfl,h0,rfl⟩ (by rintro m st ⟨k,_,_,_,rfl⟩;rfl) (by rintro m st ⟨k,hk,rfl,hI,rfl⟩;exact h k hk hI))
def zX{α:Type}{l:List α}{I:Nat->Prop}{fr:Nat->Fm}{T:Nat->List SO}{k:Nat}{st:eR}(hlt:k<l.length)(hf:Fg st ⟨fr (k+1),n,T (k+1),[]⟩)(hI:I (k+1)):
 bW (λm st=>∃k,k<=l.length/\m=l.length-k/\I k/\st=⟨fr k,n,T k,[]⟩) (l.length-k) Q .normal st:=⟨l.length-(k+1),_,by omega,hf,k+1,hlt,rfl,hI,rfl⟩
def zi{k L B:Nat}(h1:k<L)(h2:L<=B)(t:TypeId)(hB:B<=9223372036854775807:=by decide):dj Tryz.prog .add t (.int .i64 (k:Int)) (.int .i64 1)=some (.int .i64 ((k:Int)+1)):=ym (T1 h1 h2 hB)
def zt{k n:Nat}(h:k<n):decide ((k:Int)<(n:Int))=true:=by simp only[wp];omega
def zS{r:Prop}{all:List Oper}{o:Oper}{l:List Oper}{K:eR->Prop}{d:Nat}{c:Call}{g:FuncId}{vs ws:List SV}{mv:List Nat}{S0 S1 S2:List SO}{r0 r2:SV}{f2:Fm}(os:List Nat)(k:r)(hq:SC P g ws S0 mv (λr S'=>r=r0/\S'=S1))
 (hk:aR P ro all l ⟨(d,r2)::f2,n,S2,ds⟩ K) (hst:eP all n [o]=true:=by rfl) (hop:o.op=.call c:=by rfl) (hdst:o.dst=some d:=by rfl) (hw:cV all f o.guard=some true:=by rfl) (hdy:gi (.call c)=true:=by rfl)
 (hc:ja P f c=some (g,vs):=by exact zc) (hvs:r->nr (km os S.length) ws=vs:=by intro k;simp only[gJ,bY,an,↓reduceIte,Nat.reduceEqDiff,Nat.reduceAdd,Nat.reduceSub,Nat.reduceMul,Nat.reduceLeDiff,Nat.reduceLT,k];first | done | rfl) (hK:os.length=S0.length:=by rfl) (hnd:os.Nodup:=by decide)
 (hos:r->DY S (km os S.length) S0 os:=by intro k;simp only[DY,gJ,bY,an,k]<;>(repeat' apply And.intro)<;>first | trivial | rfl | (intro hh;cases hh))
 (hb1:r->dG S1.length r0=true:=by intro k;simp only[C5,gJ,bY,an,Nat.reduceAdd,Nat.reduceLT,decide_true,k];first | done | rfl) (hb2:r->vK S1.length S1=true:=by intro k;simp only[C5,gJ,bY,an,Nat.reduceAdd,Nat.reduceLT,decide_true,k];first | done | rfl)
 (hr:r->fG (km os S.length) r0=r2:=by intro k;simp only[gJ,bY,an,↓reduceIte,Nat.reduceEqDiff,Nat.reduceAdd,Nat.reduceSub,Nat.reduceMul,Nat.reduceLeDiff,Nat.reduceLT,k];first | done | rfl) (hf:r->oD (dg os mv S.length (S1.length-os.length)) f=f2:=by intro k;simp only[gJ,bY,an,↓reduceIte,Nat.reduceEqDiff,Nat.reduceAdd,Nat.reduceSub,Nat.reduceMul,Nat.reduceLeDiff,Nat.reduceLT,k,eU,eC,cI,bf,dD];first | done | rfl) (hS:r->dP S os mv S1=S2:=by intro k;simp only[gJ,bY,an,↓reduceIte,Nat.reduceEqDiff,Nat.reduceAdd,Nat.reduceSub,Nat.reduceMul,Nat.reduceLeDiff,Nat.reduceLT,k,eU,eC,cI,bf,dD];first | done | rfl):aR P ro all (o::l) ⟨f,n,S,ds⟩ K:=
 aR.sk os hst hop hdst hw hdy hc hq (hvs k) hK hnd (hos k) (hb1 k) (hb2 k) (hr k) (hf k) (hS k) hk
def zP{fn:Func}{K:Nat}{mv:List Nat}{Qs:SV->List SO->Prop}{e:Ex}{vs:List SV}(rs:List ResultVar)(he:kM e=true:=by rfl)(hr:fn.results.toList=rs:=by rfl)(h:po P f S rs=some vs:=by exact zl)
 (hq:Qs (eI vs) S:=by (try simp only[eI,bG]);first | done | exact⟨rfl,rfl⟩ | exact⟨trivial,trivial⟩ | exact⟨rfl,trivial⟩ | exact⟨trivial,rfl⟩ | trivial) (hK:K<=S.length:=by first | decide | (simp only[bY];omega)) (hw:∀i,i<K->i∉mv->aP f (1000000+i)=.ptr i 0:=by intro i hi;have hi2:i<_:=hi;clear hi;simp only[i7,i5,Nat.zero_add,Nat.reduceAdd,Nat.not_lt_zero] at hi2<;>(rcases i with _ | i<;>first | (exfalso;omega) | (intro hm_;first | rfl | (exfalso;apply hm_;simp;done)) | (rcases i with _ | i<;>first | (exfalso;omega) | (intro hm_;first | rfl | (exfalso;apply hm_;simp;done)) | (rcases i with _ | i<;>first | (exfalso;omega) | (intro hm_;first | rfl | (exfalso;apply hm_;simp;done)))))):Md P fn K mv Qs e ⟨f,n,S,[]⟩:=Md.of he hr h hq hK hw
def zD{p q:Prop}(h:p->q:=by intro h;(repeat (first | refine SD.r g9 rfl g9 g9 zl ?_ | refine SD.s g9 rfl g9 g9 ?_ | fail));exact h)(k:p):q:=h k
def vD{p q r:Prop}(f:r)(h:r->p->q:=by intro f h;(repeat (first | refine SD.r g9 rfl g9 g9 (sP @f) ?_ | refine SD.s g9 rfl g9 g9 ?_ | fail));exact h)(k:p):q:=h f k
def zM{p q:Prop}(h:p->q:=by intro h;refine SD.nil ?_;(try change aE _ _ _ _ _);exact h)(k:p):q:=h k
def zp{p:Prop}(h:p:=by first | exact λi y h=>ul h (Nat.not_lt_zero _) | trivial | rfl | assumption):p:=h
def oK{id:Nat}{ops:Array Oper}{st:eR}{ol:List Oper}(ms:List Nat)(h:SD P ro ol ms st.n true [] (cY 0 ol) st.f st.S λf' S'=>Q .normal ⟨f',st.n,S',st.ds⟩)(hol:ops.toList=ol:=by rfl)(hms:pd ol []=ms:=by kernel_rfl)(hok:((lQ 0 ol&&P.follows .mixedOrders)&&(CS ol ms (cY 0 ol)&&Mr ms (cY 0 ol)))=true:=by kernel_rfl):aE P ro (.region id ops true) st Q:=aE.UR hol hms hok h
def zw{p:Prop}(h:p:=by first | exact bm.refl rfl | ((repeat' (first | exact bm.nil | apply bm.cons | exact Wk.refl rfl | exact Wk.nil _ | apply Wk.ag | apply Wk.cq | apply Wk.fn | refine Wk.ptr rfl ?_ (by first | decide | (simp only[bY];omega)) | refine Wk.buf rfl ?_ (by first | decide | (simp only[bY];omega)) | refine Wk.map rfl ?_ | exact bm.refl rfl));done)):p:=h
def zv{p:Prop}(h:p:=by (try simp only[eI,bG]);(repeat' (first | exact Wk.refl rfl | exact bm.nil | apply bm.cons | exact Wk.nil _ | apply Wk.ag | apply Wk.cq | refine Wk.ptr rfl ?_ (by first | decide | (simp only[bY];omega)) | refine Wk.buf rfl ?_ (by first | decide | (simp only[bY];omega)) | refine Wk.map rfl ?_ | exact bm.refl rfl))):p:=h
def Wh{p:Prop}(h:p:=by (simp only[dD,bY,fQ,an,↓reduceIte,Nat.reduceEqDiff])<;>(repeat' apply And.intro)<;>first | rfl | trivial):p:=h
def Wi{p r:Prop}(k:r)(h:r->p:=by intro k;(simp only[dD,bY,fQ,an,↓reduceIte,Nat.reduceEqDiff,k])<;>(repeat' apply And.intro)<;>first | rfl | trivial):p:=h k
def Wj{p r:Prop}(k:r)(h:r->p:=by intro k;(simp only[dD,bY,an,or_true,true_or,k])<;>(repeat' apply And.intro)<;>first | exact .inr rfl | exact .inl rfl | trivial):p:=h k
def zq{p:Prop}(h:p:=by (try simp only[eI,bG]);first | done | rfl):p:=h
def Xh{p:Prop}(h:p:=by (try simp only[eI,bG]);first | done | exact⟨rfl,rfl⟩ | exact⟨trivial,rfl⟩ | exact⟨rfl,trivial⟩ | exact⟨trivial,trivial⟩):p:=h
def zg{p:Prop}(h:p:=by intro i hi;have hi2:i<_:=hi;clear hi;simp only[i7,i5,Nat.zero_add,Nat.reduceAdd,Nat.not_lt_zero] at hi2<;>(rcases i with _ | i<;>first | (exfalso;omega) | (intro hm_;first | rfl | (exfalso;apply hm_;simp;done)) | (rcases i with _ | i<;>first | (exfalso;omega) | (intro hm_;first | rfl | (exfalso;apply hm_;simp;done)) | (rcases i with _ | i<;>first | (exfalso;omega) | (intro hm_;first | rfl | (exfalso;apply hm_;simp;done)))))):p:=h
def zd{p:Prop}(h:p:=by first | decide | (simp only[bY];omega)):p:=h
def Ee(k:Nat):(k:Int)+1=((k+1:Nat):Int):=rfl
def bA(a b:Int)(h : -9223372036854775808<=a+b/\a+b<=9223372036854775807)(P:Program)(t:TypeId):dj P .add t (.int .i64 a) (.int .i64 b)=some (.int .i64 (a+b)):=ym h
def bS(a b:Int)(h : -9223372036854775808<=a-b/\a-b<=9223372036854775807)(P:Program)(t:TypeId):dj P .sub t (.int .i64 a) (.int .i64 b)=some (.int .i64 (a-b)):=KT h
def NP{p r:Prop}(k:r)(h:r->p:=by intro k;(simp only[qX,gJ,bY,an,k])<;>(repeat' apply And.intro)<;>first | trivial | exact .inl rfl | exact .inr rfl | exact .inr trivial | exact .inl trivial):p:=h k
def NQ{p r:Prop}(k:r)(h:r->p:=by intro k;(simp only[dD,gJ,bY,an,k])<;>(repeat' apply And.intro)<;>first | rfl | trivial):p:=h k
def pB(n:Nat){g:FuncId}{fn:Func}{c:Code}{args:List SV}{Q:SV->Prop}(hf:Tryz.prog.funcs[g]?=some fn)(hw:aE Tryz.prog none c ⟨lA 0 args,n,[],[]⟩ (Cb Tryz.prog fn Q))(hb:fn.body=some c:=by rfl)(hn:args.length+(fn.ntmps-args.length)=n:=by rfl)(hlim:n<=1000000:=by exact md rfl):PC Tryz.prog g args Q:=PC.body dz hf hb hn hw hlim
section
variable (n:Nat) {g:FuncId} {fn:Func} {c:Code} {args:List SV} {S0:List SO} {mv:List Nat} {Q:SV->List SO->Prop}
def Nl(hf:Tryz.prog.funcs[g]?=some fn)(hw:aE Tryz.prog none c ⟨lA 0 args++[],n,S0,[]⟩ (Md Tryz.prog fn S0.length mv Q))(hb:fn.body=some c:=by rfl)(hn:args.length+(fn.ntmps-args.length)=n:=by rfl)(hlim:n<=1000000:=by exact md rfl)(hW:[]=oI S0.length:=by rfl)(hK:S0.length<=1000000:=by exact md rfl):SC Tryz.prog g args S0 mv Q:=SC.body dz hf hb hn hlim hW hw hK
def Qt(hf:Tryz.prog.funcs[g]?=some fn)(hw:aE Tryz.prog none c ⟨lA 0 args++[(1000000,.ptr 0 0)],n,S0,[]⟩ (Md Tryz.prog fn S0.length mv Q))(hb:fn.body=some c:=by rfl)(hn:args.length+(fn.ntmps-args.length)=n:=by rfl)(hlim:n<=1000000:=by exact md rfl)(hW:[(1000000,.ptr 0 0)]=oI S0.length:=by rfl)(hK:S0.length<=1000000:=by exact md rfl):SC Tryz.prog g args S0 mv Q:=SC.body dz hf hb hn hlim hW hw hK
def Tw(hf:Tryz.prog.funcs[g]?=some fn)(hw:aE Tryz.prog none c ⟨lA 0 args++[(1000000,.ptr 0 0),(1000001,.ptr 1 0)],n,S0,[]⟩ (Md Tryz.prog fn S0.length mv Q))(hb:fn.body=some c:=by rfl)(hn:args.length+(fn.ntmps-args.length)=n:=by rfl)(hlim:n<=1000000:=by exact md rfl)(hW:[(1000000,.ptr 0 0),(1000001,.ptr 1 0)]=oI S0.length:=by rfl)(hK:S0.length<=1000000:=by exact md rfl):SC Tryz.prog g args S0 mv Q:=SC.body dz hf hb hn hlim hW hw hK
def VI(hf:Tryz.prog.funcs[g]?=some fn)(hw:aE Tryz.prog none c ⟨lA 0 args++[(1000000,.ptr 0 0),(1000001,.ptr 1 0),(1000002,.ptr 2 0)],n,S0,[]⟩ (Md Tryz.prog fn S0.length mv Q))(hb:fn.body=some c:=by rfl)(hn:args.length+(fn.ntmps-args.length)=n:=by rfl)(hlim:n<=1000000:=by exact md rfl)(hW:[(1000000,.ptr 0 0),(1000001,.ptr 1 0),(1000002,.ptr 2 0)]=oI S0.length:=by rfl)(hK:S0.length<=1000000:=by exact md rfl):SC Tryz.prog g args S0 mv Q:=SC.body dz hf hb hn hlim hW hw hK
end
def cB{p q:Prop}(h:p->q:=by intro h;(repeat refine aE.seq ?_);refine aE.yes rfl ?_;(try (refine aE.skip ?_;try change aE _ _ _ _ _));(repeat refine aE.seq ?_);refine aE.r0 g9 zl ?_;(try change aE _ _ _ _ _);exact h)(k:p):q:=h k
def jM{p q:Prop}(h:p->q:=by intro h;(repeat refine aE.seq ?_);refine aE.r0 g9 zl ?_;(try change aE _ _ _ _ _);(repeat refine aE.seq ?_);refine aE.Tn g9 zl ?_;exact h)(k:p):q:=h k
def ly{p q:Prop}(h:p->q:=by intro h;(repeat refine aE.seq ?_);refine aE.no rfl ?_;(try (refine aE.skip ?_;try change aE _ _ _ _ _));(repeat refine aE.seq ?_);refine aE.r0 g9 zl ?_;(try change aE _ _ _ _ _);exact h)(k:p):q:=h k
def oL{p q:Prop}(h:p->q:=by intro h;(repeat refine aE.seq ?_);refine aE.r0 g9 zl ?_;(try change aE _ _ _ _ _);(repeat refine aE.seq ?_);refine aE.r0 g9 zl ?_;(try change aE _ _ _ _ _);exact h)(k:p):q:=h k
def NU{p q:Prop}(h:p->q:=by intro h;(repeat refine aE.seq ?_);refine aE.no rfl ?_;(try (refine aE.skip ?_;try change aE _ _ _ _ _));(repeat refine aE.seq ?_);refine aE.Tn g9 zl ?_;exact h)(k:p):q:=h k
def FA{p q:Prop}(h:p->q:=by intro h;(repeat refine aE.seq ?_);refine aE.r0 g9 zl ?_;(try change aE _ _ _ _ _);(repeat refine aE.seq ?_);refine aE.no rfl ?_;(try (refine aE.skip ?_;try change aE _ _ _ _ _));exact h)(k:p):q:=h k
def yi{p q:Prop}(h:p->q:=by intro h;(repeat refine aE.seq ?_);refine aE.r0 g9 zl ?_;(try change aE _ _ _ _ _);(repeat refine aE.seq ?_);refine aE.yes rfl ?_;(try (refine aE.skip ?_;try change aE _ _ _ _ _));exact h)(k:p):q:=h k
def FC{a b:Int}(h : -9223372036854775808<=a+b/\a+b<=9223372036854775807)(P:Program)(t:TypeId):dj P .add t (.int .i64 a) (.int .i64 b)=some (.int .i64 (a+b)):=ym h
def S6{a b:Int}(h : -9223372036854775808<=a-b/\a-b<=9223372036854775807)(P:Program)(t:TypeId):dj P .sub t (.int .i64 a) (.int .i64 b)=some (.int .i64 (a-b)):=KT h
def fH{L:Nat->Prop}{i:Nat}(h:L i)(v:SV):vo L i v=v:=cg h
def Xf{L:Nat->Prop}{i:Nat}(h:¬L i)(v:SV):vo L i v=.any:=nF h
def Wg{L:Nat->Prop}{i:Nat}(h:L i)(v:SO):wo L i v=v:=ma h
def WS{L:Nat->Prop}{i:Nat}(h:¬L i)(v:SO):wo L i v=.gone:=fz h
def VP{n k:Nat}(h:k<=n)(c:Option Nat)(q:IntKind):cO n c none (some (.int q (k:Int))) none=some (0,k,c):=by
 unfold cO oU qD;simp only[ph,m7,fj h,eu,ar]
def Rg{n k:Nat}(h:k<=n)(c:Option Nat)(q:IntKind):cO n c (some (.int q (k:Int))) none none=some (k,n,c):=by
 unfold cO oU;simp only[ph,m7,fj h,ar]
end
def gO{p q:Prop}(h:p->q:=by intro h;(repeat refine aE.seq ?_);refine aE.yes rfl ?_;(try (refine aE.skip ?_;try change aE _ _ _ _ _));(repeat refine aE.seq ?_);refine aE.block ?_;exact h)(k:p):q:=h k
def gE{p q:Prop}(h:p->q:=by intro h;(repeat refine aE.seq ?_);refine aE.no rfl ?_;(try (refine aE.skip ?_;try change aE _ _ _ _ _));refine aE.exit ?_;exact h)(k:p):q:=h k
def Xg{α:Type}{l:List α}{k:Nat}{p0 p1:Prop}(h0:k=l.length->p0)(h1:∀x,l[k]?=some x->k<l.length->p1)(hk:k<=l.length):(decide ((k:Int)<(l.length:Int))=false/\p0)\/(decide ((k:Int)<(l.length:Int))=true/\p1):=by
 by_cases hlt:k<l.length
 ·exact .inr ⟨zt hlt,h1 _ (jp hlt) hlt⟩
 ·exact .inl ⟨wd ii,h0 ii⟩
def zT{α:Type}{p0 p1 q:Prop}(l:List α)(k:Nat)(h0:k=l.length->p0)(h1:∀x,l[k]?=some x->k<l.length->p1)(h:(k=l.length->p0)->(∀x,l[k]?=some x->k<l.length->p1)->q:=by intro h0 h1;(repeat refine aE.seq ?_);refine aE.r0 g9 zl ?_;(try change aE _ _ _ _ _);rcases Xg h0 h1 (by assumption) with⟨e,h⟩ | ⟨e,h⟩;(rw[e];exact h);(rw[e];exact h)):q:=h h0 h1
section
variable {P:Program} {ro:Option Nat} {f:Fm} {n:Nat} {S:List SO} {ds:List kr} {Q:Ex->eR->Prop}
def zo{fn:Func}{Qr:SV->Prop}{v r:SV}(rs:List ResultVar)(hg:Cb P fn Qr .ret ⟨f,n,S,[]⟩->Q .ret ⟨f,n,S,[]⟩:=by intro h;(try simp only[e8,df,bW,bI]);exact h)(hr:fn.results.toList=rs:=by rfl)(h:po P f S rs=some [v]:=by exact zl)(hw:Wk S v r:=by exact Wk.refl rfl)(hq:Qr r:=by rfl):aE P ro .ret ⟨f,n,S,[]⟩ Q:=aE.ret (hg (Cb.of rfl hr h hw hq))
def kE{fn:Func}{Qr:SV->Prop}{v w r:SV}(rs:List ResultVar)(hg:Cb P fn Qr .ret ⟨f,n,S,[]⟩->Q .ret ⟨f,n,S,[]⟩:=by intro h;(try simp only[e8,df,bW,bI]);exact h)(hr:fn.results.toList=rs:=by rfl)(h:po P f S rs=some [v,w]:=by exact zl)(hw:Wk S (.cq [v,w]) r:=by exact Wk.refl rfl)(hq:Qr r:=by rfl):aE P ro .ret ⟨f,n,S,[]⟩ Q:=aE.ret (hg (Cb.of rfl hr h hw hq))
def KG{α β:Type}(l:List α)(I:Nat->β->Prop)(fr:Nat->β->Fm)(T:Nat->β->List SO)(b0:β){id:Nat}{x:Code}(hf:Fg ⟨f,n,S,[]⟩ ⟨fr 0 b0,n,T 0 b0,[]⟩)(h0:I 0 b0)
 (h:∀k b,k<=l.length->I k b->aE P ro x ⟨fr k b,n,T k b,[]⟩ (bW (λm st=>∃k b,k<=l.length/\m=l.length-k/\I k b/\st=⟨fr k b,n,T k b,[]⟩) (l.length-k) (e8 id Q))):aE P ro (.block id (.loop x)) ⟨f,n,S,[]⟩ Q:=
 aE.block (aE.loop (λm st=>∃k b,k<=l.length/\m=l.length-k/\I k b/\st=⟨fr k b,n,T k b,[]⟩) l.length hf ⟨0,b0,ct _,rfl,h0,rfl⟩ (by rintro m st ⟨k,b,_,_,_,rfl⟩;rfl) (by rintro m st ⟨k,b,hk,rfl,hI,rfl⟩;exact h k b hk hI))
def yL{α β:Type}{l:List α}{I:Nat->β->Prop}{fr:Nat->β->Fm}{T:Nat->β->List SO}{k:Nat}{st:eR}(hlt:k<l.length)(b:β)(hf:Fg st ⟨fr (k+1) b,n,T (k+1) b,[]⟩)(hI:I (k+1) b):
 bW (λm st=>∃k b,k<=l.length/\m=l.length-k/\I k b/\st=⟨fr k b,n,T k b,[]⟩) (l.length-k) Q .normal st:=⟨l.length-(k+1),_,by omega,hf,k+1,b,hlt,rfl,hI,rfl⟩
end
def sq(b:Nat):Nat:=
 bif dN b then 3 else bif ble 48 b&&ble b 57 then 4 else bif beq b 35 then 2 else bif beq b 95 then 5 else bif beq b 34 then 7 else
 bif [32,9,10].any (beq b) then 1 else bif [59,44,46,58,40,41,123,125,91,93,61,60,62,47,43,45,42].any (beq b) then 6 else 0
def IY:List AV:=(cp 256).map λb=>AV.int .u8 (Int.ofNat (sq b))
def OH:IY.length=256:=by simp[IY]
def OG(b:Nat)(h:b<256):IY[b]?=some (.int .u8 (sq b:Int)):=by
 unfold IY;rw[al,dc h];rfl
def MZ(s:List Nat)(h:cJ s=true):∀(i b:Nat),s[i]?=some b->ll b=true:=by
 intro i b hi
 cases s with
 | nil=>simp at hi
 | cons a l=>
  simp only[cJ,am] at h
  cases i with
  | zero=>simp at hi;subst hi;unfold ll;rw[h.1];rfl
  | succ i=>
   rw[d5] at hi;exact all_eq_true.1 h.2.1 b (c6 hi)
def Pz(s:List Nat)(h:∀(i b:Nat),s[i]?=some b->ll b=true)(b:Nat)(h0:s[0]?=some b):cJ s=(decide (s.length<=24)&&dN b):=by
 cases s with
 | nil=>simp at h0
 | cons a l=>
  simp at h0;subst h0
  have:l.all ll=true:=by
   rw[all_eq_true];intro x hx;obtain⟨i,hi⟩:=mem_iff_getElem?.1 hx;exact h (i+1) x (by rw[d5];exact hi)
  simp only[cJ,this,dv,i7]
  have e:ble l.length 23=decide (l.length+1<=24):=by
   by_cases hl:l.length<=23
   ·rw[fj hl];simp;omega
   ·have:ble l.length 23=false:=by
     cases hb:ble l.length 23
     ·rfl
     ·exact ul (jy hb) hl
    rw[this];simp;omega
  rw[e,Bool.and_comm]
def OI:∀b,b<256->(decide (sq b=3)=dN b)/\((decide (sq b=3)||(decide (sq b=4)||decide (sq b=5)))=ll b):=by decide +kernel
def RU(s:List Nat)(b:Nat)(h0:s[0]?=some b)(h:dN b=false):cJ s=false:=by
 cases s with
 | nil=>rfl
 | cons a l=>simp at h0;subst h0;simp only[cJ,h,ch]
abbrev QU(b:Nat):SV:=.a (.int .u8 (b:Int))
def Nz(s:List Nat)(b:Nat)(hb:b<256):PC prog 322 [ah s,QU b] (·=ab (gr b s 0)):=
 PC.of (xs:=[.str s,.int .u8 (b:Int)]) (λh=>ef.VX It (by
  show cond (blt b 256) (some (AV.int .i64 (gr b s 0),h)) none=_
  rw[show blt b 256=true from Mh hb];rfl)) λρ avs ha=>by
  rw[dS] at ha;obtain⟨a,r,rfl,h1,ha⟩:=ha;rw[dS] at ha;obtain⟨a2,r,rfl,h2,ha⟩:=ha;rw[GS] at h1 h2;rw[e7] at ha;rw[h1,h2,ha]
def Ny(s:List Nat)(b:Nat)(hb:b<256):PC prog 304 [ah s,QU b] (·=ab (gr b s 0)):=by
 refine pB 8 Tryz.func304 ?_;exact(jM)<|(zK (Nz s b hb))<|(zR)<|zo [.tmp 4]
def Da(s:List Nat)(b:Nat)(hb:b<256):PC prog 256 [ah s,QU b] (·=ab (gr b s 0)):=by
 refine pB 8 Tryz.func256 ?_;exact(jM)<|(zK (Ny s b hb))<|(zR)<|zo [.tmp 4]
def za(b:Nat):Nat:=bif dN b then 3 else bif ble 48 b&&ble b 57 then 4 else bif decide (0<=gr b [32,9,10] 0) then 1 else bif decide (0<=gr b [59,44,46,58,40,41,123,125,91,93,61,60,62,47,43,45,42] 0) then 6 else 0
def lM(k:Nat):List SV:=(cp 256).map λi=>QU (if i<k then za i else 0)
def KH:List SV:=(cp 256).map λ_=>QU 0
def uS(k:Nat):(lM k).length=256:=by simp[lM]
def Uk{k:Nat}(hk:k<256):(lM k).take k++(QU (za k)::(lM k).drop (k+1))=lM (k+1):=by
 have h:(lM k).set k (QU (za k))=lM (k+1):=by
  apply fl;intro i;by_cases hik:k=i
  ·subst hik;rw[List.getElem?_set_self (by rw[uS];exact hk)];unfold lM;rw[al,dc hk];simp
  ·rw[List.getElem?_set_ne hik];unfold lM;rw[al,al]
   cases hr:(cp 256)[i]? with
   | none=>rfl
   | some j=>
    have hj:j=i:=by
     obtain⟨h1,h2⟩:=rg hr;simpa using h2.symm
    subst hj;simp only[m6];by_cases h:j<k
    ·rw[un h,un ii]
    ·rw[ut h,ut ii]
 rw[<-h,cd,un (by rw[uS];exact hk)]
def Uj{k:Nat}(hk:k<256)(h:za k=0):lM (k+1)=lM k:=by
 unfold lM;refine List.map_congr_left λi _=>?_;by_cases hik:i<k
 ·rw[un hik,un ii]
 ·rw[ut hik];by_cases he:i=k
  ·subst he;rw[un ii,h]
  ·rw[ut ii]
def Rq{k:Nat}(hk:k<256):mZ prog 3 5 (.int .i64 (k:Int))=some (.int .u8 (k:Int)):=by
 have h1:mZ prog 3 5 (.int .i64 (k:Int))=some (.int .u8 (dE .u8 (k:Int))):=by kernel_rfl
 rw[h1]
 congr 2
 have h2:(tF 0 (k:Int)&&tF (k:Int) 255)=true:=by rw[gM,gM];simp;omega
 simp only[dE,Pq,Pe,h2,ar]
def BP:PC prog 184 [] (·=.ag (IY.map SV.a)):=by
 refine pB 50 Tryz.func184 ?_;refine(oL)<|(zV) ?_
 have hl:(cp 256).length=256:=List.length_range
 have hlen:(cp 256).length<=1000000:=by rw[hl];decide
 refine zA [(0,.ptr 0 0),(1,.ptr 1 0),(4,ab 0)] [.cells KH,.cells (lM 0)] (by exact zH)<|(zs) ?_;refine zL (cp 256) (λk=>True) (λk=>[(0,.ptr 0 0),(1,.ptr 1 0),(4,ab k)]) (λk=>[.cells KH,.cells (lM k)]) zH zp ?_;intro k hk hall
 by_cases hlt:k<(cp 256).length
 ·have hk6:k<256:=by rw[<-hl];exact hlt
  have hk7:k+1<=256:=hk6;have e1:decide ((97:Int)<=(k:Int))=ble 97 k:=rM 97 k;have e2:decide ((k:Int)<=122)=ble k 122:=rM k 122;have e3:decide ((65:Int)<=(k:Int))=ble 65 k:=rM 65 k;have e4:decide ((k:Int)<=90)=ble k 90:=rM k 90;have e5:decide ((48:Int)<=(k:Int))=ble 48 k:=rM 48 k;have e6:decide ((k:Int)<=57)=ble k 57:=rM k 57;have hset:=Uk hk6;have hrl:=uS k
  refine(az (show decide ((k:Int)<256)=true by simp only[wp];omega))<|(gO)<|(zV)<|(az (Rq hk6))<|(zB) ?_;refine aE.seq ?_;refine aE.mono (Q:=λex st=>ex=.normal/\Fg st ⟨[(0,.ptr 0 0),(1,.ptr 1 0),(2,ab k),(3,QU k),(4,ab k),(9,ak (dN k))],50,[.cells KH,.cells (lM k)],[]⟩) ?_ ?_
  ·unfold dN;cases h1:ble 97 k<;>cases h2:ble k 122<;>cases h3:ble 65 k<;>cases h4:ble k 90
   all_goals
    rw[h1] at e1;rw[h2] at e2;rw[h3] at e3;rw[h4] at e4;refine(az (bz e1 e2)) ?_
    first
     | (
      refine(zN) ?_
      refine(az (bz e3 e4)) ?_;exact⟨rfl,zH⟩)
     | (
      refine(zY) ?_
      exact⟨rfl,zH⟩)
  rintro ex st ⟨rfl,hf⟩;refine aE.fg hf ?_;clear hf
  (try change aE _ _ _ _ _)
  cases hL:dN k;rotate_left
  ·have hc:za k=3:=by unfold za;rw[hL];rfl
   rw[hc] at hset;change (lM k).take k++(SV.a (.int .u8 3)::(lM k).drop (k+1))=_ at hset
   refine(zY)<|(az (lB hk6 hk7 hrl @ce hset))<|(az (zi hlt hlen)) ?_;refine zX hlt zH trivial
  have c0:za k=bif ble 48 k&&ble k 57 then 4 else bif decide (0<=gr k [32,9,10] 0) then 1 else bif decide (0<=gr k [59,44,46,58,40,41,123,125,91,93,61,60,62,47,43,45,42] 0) then 6 else 0:=by unfold za;rw[hL];rfl
  clear hL e1 e2 e3 e4;refine(zN) ?_
  (repeat refine aE.seq ?_)
  refine aE.mono (Q:=λex st=>ex=.normal/\Fg st ⟨[(0,.ptr 0 0),(1,.ptr 1 0),(2,ab k),(3,QU k),(4,ab k),(24,ak (ble 48 k&&ble k 57))],50,[.cells KH,.cells (lM k)],[]⟩) ?_ ?_
  ·cases h5:ble 48 k<;>cases h6:ble k 57
   all_goals
    rw[h5] at e5;rw[h6] at e6;refine(az (bz e5 e6)) ?_;exact⟨rfl,zH⟩
  rintro ex st ⟨rfl,hf⟩;refine aE.fg hf ?_;clear hf e5 e6
  (try change aE _ _ _ _ _)
  cases hD:ble 48 k&&ble k 57;rotate_left
  ·rw[hD] at c0;rw[show za k=4 from c0] at hset;change (lM k).take k++(SV.a (.int .u8 4)::(lM k).drop (k+1))=_ at hset
   refine(zY)<|(az (lB hk6 hk7 hrl @ce hset))<|(az (zi hlt hlen)) ?_;refine zX hlt zH trivial
  rw[hD] at c0
  refine(NU)<|(zK (Da [32,9,10] k hk6))<|(zR) ?_
  cases hB:decide (0<=gr k [32,9,10] 0);rotate_left
  ·rw[hB] at c0;rw[show za k=1 from c0] at hset;change (lM k).take k++(SV.a (.int .u8 1)::(lM k).drop (k+1))=_ at hset
   refine(zY)<|(az (lB hk6 hk7 hrl @ce hset))<|(az (zi hlt hlen)) ?_;refine zX hlt zH trivial
  rw[hB] at c0
  refine(NU)<|(zK (Da [59,44,46,58,40,41,123,125,91,93,61,60,62,47,43,45,42] k hk6))<|(zR) ?_
  cases hS:decide (0<=gr k [59,44,46,58,40,41,123,125,91,93,61,60,62,47,43,45,42] 0);rotate_left
  ·rw[hS] at c0;rw[show za k=6 from c0] at hset;change (lM k).take k++(SV.a (.int .u8 6)::(lM k).drop (k+1))=_ at hset
   refine(zY)<|(az (lB hk6 hk7 hrl @ce hset))<|(az (zi hlt hlen)) ?_;refine zX hlt zH trivial
  rw[hS] at c0;have hs0:=Uj hk6 c0;refine(zN) ?_
  (try (refine aE.skip ?_))
  refine(az (zi hlt hlen)) ?_;refine zX hlt (bN hs0) trivial
 ·obtain rfl:k=256:=by omega
  refine(az (show decide (((256:Nat):Int)<256)=false from rfl))<|(gE) ?_
  have set_at:∀{l:List SV} {i:Nat} (v:SV),i<l.length->l.take i++(v::l.drop (i+1))=l.set i v:=λv h=>by rw[cd,un h]
  have hfin:(((lM 256).set 35 (.a (.int .u8 2))).set 95 (.a (.int .u8 5))).set 34 (.a (.int .u8 7))=IY.map SV.a:=by kernel_rfl
  have l0:=uS 256
  have hz0:KH.length=256:=by simp[KH]
  generalize lM 256=R at hfin l0 ⊢;have s1:=set_at (l:=R) (i:=35) (.a (.int .u8 2)) ii
  have l1:(R.set 35 (.a (.int .u8 2))).length=256:=by rw[er];exact l0
  generalize R.set 35 (.a (.int .u8 2))=R1 at hfin s1 l1;have s2:=set_at (l:=R1) (i:=95) (.a (.int .u8 5)) ii
  have l2:(R1.set 95 (.a (.int .u8 5))).length=256:=by rw[er];exact l1
  generalize R1.set 95 (.a (.int .u8 5))=R2 at hfin s2 l2;have s3:=set_at (l:=R2) (i:=34) (.a (.int .u8 7)) ii
  have l3:(R2.set 34 (.a (.int .u8 7))).length=256:=by rw[er];exact l2
  generalize R2.set 34 (.a (.int .u8 7))=R3 at hfin s3 l3;have t3:R3.take 256=R3:=d8 ii;have d0:KH.drop 256=[]:=cn ii;refine(az (OF (show dh (.int .i64 35)=some 35 from rfl) (show dh (.int .i64 95)=some 95 from rfl) (show dh (.int .i64 34)=some 34 from rfl) l0 l1 l2 @ce s1 s2 s3)) ?_
  have ho:R3.all fq=true:=by rw[hfin];kernel_rfl
  refine(az (QV l3 t3 ho hz0 d0 @append_nil.{0} @take_zero.{0} @List.nil_append.{0} @ap)) ?_;subst hfin;exact zo [.cell 0 241] (h:=sP (bz l3 t3))
def drop_cons{α:Type}{l:List α}{k:Nat}{x:α}(h:l[k]?=some x):l.drop k=x::l.drop (k+1):=by
 obtain⟨hlt,he⟩:=rg h;rw[dF hlt,he]
def B0(s:List Nat)(hs:s.length<=1000000)(hb:∀b∈s,b<256):PC prog 101 [ah s] (·=ak (cJ s)):=by
 refine pB 39 Tryz.func101 ?_;have hcl:=BP;obtain⟨C,hC⟩:∃C,C=IY.map SV.a:=⟨_,rfl⟩
 have ho:C.all fq=true:=by rw[hC];kernel_rfl
 have hl:C.length=256:=by rw[hC,ay,OH]
 have hg:bZ C=true:=by rw[hC];kernel_rfl
 have hfl:wZ (.ag C)=true:=by rw[hC];kernel_rfl
 have hCg:∀b,b<256->C[b]?=some (QU (sq b)):=λb h=>by rw[hC,al,OG b h];rfl
 rw[<-hC] at hcl;clear hC;have ht:C.take 256=C:=d8 ii;have hnk:=λo:Nat=>bX (o:=o) hg;have hkk:=λo:Nat=>bV (o:=o) hg
 refine(jM)<|(zK hcl (hfl:=.inl hfl)) ?_;refine aR.r0 g9 (by simp only[dD,bY,an,aH,m7,m6,↓reduceIte,aa,ad,af,ac,aj,ar,aw,bP,hl,ho,ht,hkk,hnk,ay,List.length_replicate,cn,append_nil,ap];first | done | rfl) ?_;refine zZ [(0,ah s),(3,.ip C)] 0 rfl ⟨.inl rfl,.inr (.ptr rfl (bm.refl hg) (ct _)),trivial⟩<|zA [(0,ah s),(3,.ip C)] [] zH<|(zV)<|(zs) ?_;refine zL s (λk=>((∀(i b:Nat),i<k->s[i]?=some b->ll b=true)/\(0<k->∀b,s[0]?=some b->dN b=true))) (λk=>[(0,ah s),(3,.ip C),(8,ab s.length),(9,ab k)]) (λk=>[]) zH (by exact⟨λi b h=>ul h (bi _),λh=>ul h (bi _)⟩) ?_;intro k hk hall;refine zT s k ?_ ?_;rintro rfl;rotate_left;intro b hx hlt;rotate_left
 ·refine(gE) ?_
  cases hs0:s with
  | nil=>
   exact(az (show decide (([]:List Nat)=[])=true from rfl))<|zo [.tmp 2]
  | cons b l=>
   have h0:s[0]?=some b:=by rw[hs0];rfl
   have hlt0:0<s.length:=by rw[hs0];exact fu _
   have hn:=Pz s (λi b' hb'=>hall.1 i b' (rg hb').1 hb') b h0;rw[hall.2 hlt0 b h0,dd,hs0] at hn;have c2:decide ((b::l)=[])=false:=rfl;cases c3:decide (((b::l).length:Int)<=24)
   ·have e24:decide ((b::l).length<=24)=false:=by have:=wt c3;simp only[wn];omega
    exact(az (bz c2 c3))<|zo [.tmp 2] (hq:=by rw[hn,e24])
   ·have e24:decide ((b::l).length<=24)=true:=by have:=ww c3;simp only[wp];omega
    exact(az (bz c2 c3))<|zo [.tmp 2] (hq:=by rw[hn,e24])
 have hb6:=hb b (c6 hx);obtain⟨sp1,sp2⟩:=OI b hb6;have hdr:=drop_cons (hCg b hb6)
 have hbl:b<=C.length:=by omega
 have q3:decide ((sq b:Int)=3)=dN b:=by rw[<-sp1];simp only[decide_eq_decide];omega
 have q4:decide ((sq b:Int)=4)=decide (sq b=4):=by simp only[decide_eq_decide];omega
 have q5:decide ((sq b:Int)=5)=decide (sq b=5):=by simp only[decide_eq_decide];omega
 rw[sp1] at sp2
 refine(gO)<|(zV)<|(az (wS hx (show dh (.int .u8 (Int.ofNat b))=some b from rfl) @ce hb6 hbl hdr))<|zA [(0,ah s),(3,.ip C),(4,ab k),(5,.a (.int .u8 (sq b:Int))),(8,ab s.length),(9,ab k)] [] zH ?_
 generalize (sq b:Int)=cb at q3 q4 q5 ⊢;generalize decide (sq b=4)=c4 at sp2 q4;generalize decide (sq b=5)=c5 at sp2 q5
 have m3:dj prog .neq 5 (.int .u8 cb) (.int .u8 3)=some (.bool (!dN b)):=by rw[<-q3];exact tO rfl
 have m4:dj prog .neq 5 (.int .u8 cb) (.int .u8 4)=some (.bool (!c4)):=by rw[<-q4];exact tO rfl
 have m5:dj prog .neq 5 (.int .u8 cb) (.int .u8 5)=some (.bool (!c5)):=by rw[<-q5];exact tO rfl
 clear q3 q4 q5
 have hmore:ll b=true->∀(i b':Nat),i<k+1->s[i]?=some b'->ll b'=true:=λhm i b' hi hb'=>by
  by_cases e:i=k
  ·subst e;rw[hx] at hb';cases hb';exact hm
  ·exact hall.1 i b' ii hb'
 have hfirst:(k=0->dN b=true)->0<k+1->∀b',s[0]?=some b'->dN b'=true:=λh _ b' hb'=>by
  by_cases hk0:k=0
  ·subst hk0;rw[hx] at hb';cases hb';exact h rfl
  ·exact hall.2 ii b' hb'
 cases hL:dN b;rotate_left
 ·rw[hL] at m3 sp2
  refine(az m3)<|(zN)<|(az (zi hlt hs)) ?_;refine zX hlt zH (⟨hmore sp2.symm,hfirst λ_=>hL⟩)
 rw[hL] at m3 sp2;by_cases hk0:k=0
 ·have hn:cJ s=false:=RU s b (by rw[<-hk0];exact hx) hL
  exact(az (bz m3 (show decide ((k:Int)=0)=true by simp only[wp];omega)))<|(cB)<|zo [.tmp 2] (hq:=by rw[hn])
 have k0:=show decide ((k:Int)=0)=false by simp only[wn];omega
 have hbad:ll b=false->cJ s=false:=λhm=>by
  cases hc:cJ s
  ·rfl
  ·rw[MZ s hc k b hx] at hm;cases hm
 cases c4
 ·cases c5
  ·have hn:=hbad sp2.symm
   exact(az (gh m3 m4 m5 k0))<|(cB)<|zo [.tmp 2] (hq:=by rw[hn])
  ·refine(az (gh m3 m4 m5 k0))<|(zN)<|(az (zi hlt hs)) ?_;refine zX hlt zH (⟨hmore sp2.symm,hfirst λh=>ul h hk0⟩)
 ·refine(az (cL m3 m4 k0))<|(zN)<|(az (zi hlt hs)) ?_;refine zX hlt zH (⟨hmore sp2.symm,hfirst λh=>ul h hk0⟩)
structure ku where
 name:List Nat
 kinds:List (List Nat)
 normal:Int
structure aK where
 name:List Nat
 vehicle:Bool
 bH:List ku
def bE(s:ku):List SV:=[ah s.name,an 1 s.kinds (aD ah),ab s.normal]
def aq(k:aK):List SV:=[ah k.name,ak k.vehicle,an 3 k.bH bE]
def K8{p:Prop} (h:p:=by
  refine pB 19 vaa ?_;refine(az @an.eq_1)<|(zV)<|(zs) ?_;refine zL l (λk=>∀(i:Nat) y,i<k->l[i]?=some y->p y=false) (λk=>[(0,.sl l.length vab (l.flatMap vac)),(1,.fn fid first cap),(7,ab l.length),(8,ab k)]) (λk=>[]) zH zp ?_;intro k hk hall;refine zT l k ?_ ?_;rintro rfl;rotate_left;intro x hx hlt;rotate_left
  ·exact(gE)<|(zV)<|zo [.tmp 4] (hq:=by rw[iP hall])
  ·refine(gO)<|(zV)<|(fC (cL hlt (aQ (e:=vab) (enc:=vac) (λ_=>rfl) hx) @vad))<|(zK (hp x (List.mem_iff_getElem?.2 ⟨k,hx⟩)) (hwk:=((bm.refl hg.1).app (bm.refl rfl)).app (bm.refl hg.2))) ?_;refine aR.nil ?_
   change aE _ _ _ _ _;cases hpx:p x
   ·refine(zN)<|(az (zi hlt hlen)) ?_;refine zX hlt zH ?_
    intro i y hi hy;by_cases hik:i=k
    ·subst hik;rw[hx] at hy;cases hy;exact hpx
    ·exact hall i y (by ((try simp only[vab] at *)<;>omega)) hy
   ·exact(cB)<|zo [.tmp 4] (hq:=by rw[mu hx hpx hall])):p:=h
open Go.Proofs.Tryz renaming func124 -> vaa in
open Go.Ev renaming Tj -> vab in
open Go.Proofs renaming aq -> vac in
def E0{l:List (aK)}(p:aK->Bool){fid:FuncId}{first cap:List SV}(hlen:l.length<=1000000)(hp:∀x∈l,PC prog fid ((first++[.ag (aq x)])++cap) (·=ak (p x)))(hg:bZ first=true/\bZ cap=true):PC prog 124 [an 3 l aq,.fn fid first cap] (·=ab (gu p l)):=by
 have vad:=@aq.eq_1;exact K8
open Go.Proofs.Tryz renaming func284 -> vaa in
open Go.Ev renaming Tj -> vab in
open Go.Proofs renaming bE -> vac in
def E3{l:List (ku)}(p:ku->Bool){fid:FuncId}{first cap:List SV}(hlen:l.length<=1000000)(hp:∀x∈l,PC prog fid ((first++[.ag (bE x)])++cap) (·=ak (p x)))(hg:bZ first=true/\bZ cap=true):PC prog 284 [an 3 l bE,.fn fid first cap] (·=ab (gu p l)):=by
 have vad:=@bE.eq_1;exact K8
def rA{l:List (List Nat)}(p:List Nat->Bool){fid:FuncId}{first cap:List SV}(hlen:l.length<=1000000)(hp:∀x∈l,PC prog fid ((first++[ah x])++cap) (·=ak (p x)))(hg:bZ first=true/\bZ cap=true):PC prog 262 [an 1 l (aD ah),.fn fid first cap] (·=ab (gu p l)):=by
 refine pB 19 Tryz.func262 ?_;refine(az @an.eq_1)<|(zV)<|(zs) ?_;refine zL l (λk=>∀(i:Nat) y,i<k->l[i]?=some y->p y=false) (λk=>[(0,.sl l.length 1 (l.flatMap (aD ah))),(1,.fn fid first cap),(7,ab l.length),(8,ab k)]) (λk=>[]) zH zp ?_;intro k hk hall;refine zT l k ?_ ?_;rintro rfl;rotate_left;intro x hx hlt;rotate_left
 ·exact(gE)<|(zV)<|zo [.tmp 4] (hq:=by rw[iP hall])
 ·refine(gO)<|(zV)<|(fC (cL hlt (aQ (e:=1) (enc:=(aD ah)) (λ_=>rfl) hx) @aD.eq_1))<|(zK (hp x (mem_iff_getElem?.2 ⟨k,hx⟩)) (hwk:=((bm.refl hg.1).app (bm.refl rfl)).app (bm.refl hg.2))) ?_;refine aR.nil ?_
  change aE _ _ _ _ _;cases hpx:p x
  ·refine(zN)<|(az (zi hlt hlen)) ?_;refine zX hlt zH ?_
   intro i y hi hy;by_cases hik:i=k
   ·subst hik;rw[hx] at hy;cases hy;exact hpx
   ·exact hall i y ii hy
  ·exact(cB)<|zo [.tmp 4] (hq:=by rw[mu hx hpx hall])
def BZ(s:List Nat):PC prog 54 [.ag [ah s,.any,.any]] (·=ah s):=by
 refine pB 5 Tryz.func54 ?_;exact(oL)<|zo [.tmp 2]
def B2(s:List Nat):PC prog 235 [.ag [ah s,.any,.any]] (·=ah s):=by
 refine pB 5 Tryz.func235 ?_;exact(oL)<|zo [.tmp 2]
def H0(k:aK)(s:List Nat):PC prog 125 [.ag (aq k),.ip [.fn 54 [] []],.ip [ah s]] (·=ak (decide (k.name=s))):=by
 refine pB 10 Tryz.func125 ?_;refine(az @aq.eq_1)<|(zs) ?_;refine oK [0,0,3,0,15,31] ?_;refine(zD) ?_;refine SD.k g9 rfl rfl g9 rfl rfl zc (BZ k.name) (.cons (.ag (.cons (.a _) (.cons (.any _) (.cons (.any _) .nil)))) .nil) rfl ?_;exact(zD)<|(zM)<|zo [.tmp 4]
def Ib(k:ku)(s:List Nat):PC prog 285 [.ag (bE k),.ip [.fn 235 [] []],.ip [ah s]] (·=ak (decide (k.name=s))):=by
 refine pB 10 Tryz.func285 ?_;refine(az @bE.eq_1)<|(zs) ?_;refine oK [0,0,3,0,15,31] ?_;refine(zD) ?_;refine SD.k g9 rfl rfl g9 rfl rfl zc (B2 k.name) (.cons (.ag (.cons (.a _) (.cons (.any _) (.cons (.any _) .nil)))) .nil) rfl ?_;exact(zD)<|(zM)<|zo [.tmp 4]
def E4(l:List aK)(s:List Nat)(hlen:l.length<=1000000):PC prog 53 [an 3 l aq,.fn 54 [] [],ah s] (·=ab (gu (λk=>decide (k.name=s)) l)):=by
 refine pB 10 Tryz.func53 ?_;exact(jM)<|(zK (E0 (λk=>decide (k.name=s)) (first:=[]) (cap:=[.ip [.fn 54 [] []],.ip [ah s]]) hlen (λx _=>H0 x s) ⟨rfl,rfl⟩))<|(zR)<|zo [.tmp 6]
def Fp(l:List ku)(s:List Nat)(hlen:l.length<=1000000):PC prog 234 [an 3 l bE,.fn 235 [] [],ah s] (·=ab (gu (λk=>decide (k.name=s)) l)):=by
 refine pB 10 Tryz.func234 ?_;exact(jM)<|(zK (E3 (λk=>decide (k.name=s)) (first:=[]) (cap:=[.ip [.fn 235 [] []],.ip [ah s]]) hlen (λx _=>Ib x s) ⟨rfl,rfl⟩))<|(zR)<|zo [.tmp 6]
def ur{α:Type}(p:α->Bool)(l:List α):(gu p l = -1/\l.find? p=none)\/∃(k:Nat) (x:α),gu p l=(k:Int)/\k<l.length/\l[k]?=some x/\l.find? p=some x:=by
 unfold gu
 cases hf:l.findIdx? p with
 | none=>
  rw[List.findIdx?_eq_none_iff] at hf;exact .inl ⟨rfl,by rw[d3];intro x hx;rw[hf x hx];decide⟩
 | some k=>
  obtain⟨hlt,h1,h2⟩:=List.findIdx?_eq_some_iff_getElem.1 hf;refine .inr ⟨k,l[k],rfl,hlt,jp hlt,?_⟩;rw[List.find?_eq_some_iff_getElem];exact⟨h1,k,hlt,rfl,λj hj=>by simpa using h2 j hj⟩
def aK.zero:aK:=⟨[],false,[]⟩
def ku.zero:ku:=⟨[],[],0⟩
def dH(l:List aK)(s:List Nat):Option aK:=l.find? λk=>decide (k.name=s)
def pW(l:List ku)(s:List Nat):Option ku:=l.find? λk=>decide (k.name=s)
def jn{α:Type}(enc:α->List SV)(z:α):Option α->SV
 | some x=>.cq [.ag (enc x),ak true]
 | none=>.cq [.ag (enc z),ak false]
def lf(l:List aK)(s:List Nat)(hlen:l.length<=1000000):PC prog 16 [.ag [an 3 l aq],ah s] (·=jn aq aK.zero (dH l s)):=by
 refine pB 19 Tryz.func16 ?_;refine(jM)<|(zK (E4 l s hlen))<|(zR) ?_
 rcases ur (λk:aK=>decide (k.name=s)) l with⟨h1,h2⟩ | ⟨k,x,h1,hlt,hx,h2⟩
 ·rw[h1]
  refine(yi)<|(zV)<|(zE) ?_;exact Cb.of (rs:=[.cell 4 61,.tmp 5]) (r:=.cq [.ag [ah [],ak false,.sl 0 3 []],ak false]) rfl rfl zl zv (by (try simp only[eI,bG]);first | done | (unfold dH;rw[h2];rfl))
 ·rw[h1]
  exact(az (show decide ((k:Int)<0)=false by simp))<|(zN)<|(az (cL hlt (aQ (e:=3) (enc:=aq) (λ_=>rfl) hx) @aq.eq_1))<|kE [.cell 4 61,.tmp 5] (hq:=by unfold dH;rw[h2];rfl)
def Bk(l:List aK)(kind name:List Nat)(hlen:l.length<=1000000)(hs:∀k∈l,k.bH.length<=1000000):PC prog 150 [.ag [an 3 l aq],ah kind,ah name] (·=jn bE ku.zero ((dH l kind).bind λk=>pW k.bH name)):=by
 refine pB 29 Tryz.func150 ?_
 obtain⟨q,b,h1,h2,h3⟩:∃(q:aK) (b:Bool),jn aq aK.zero (dH l kind)=.cq [.ag (aq q),ak b]/\q.bH.length<=1000000/\((dH l kind).bind λk=>pW k.bH name)=pW q.bH name:=by
  cases hf:dH l kind with
  | none=>exact⟨aK.zero,false,rfl,ct _,rfl⟩
  | some q=>exact⟨q,true,rfl,hs q (aU hf),rfl⟩
 rw[h3];have hF:=lf l kind hlen;rw[h1] at hF
 refine(jM)<|(zK hF (hfl:=.inr (bm.refl rfl)))<|(cH @aq.eq_1)<|(zC)<|(zK (Fp q.bH name h2))<|(zR) ?_
 rcases ur (λk:ku=>decide (k.name=name)) q.bH with⟨g1,g2⟩ | ⟨k,x,g1,hlt,hx,g2⟩
 ·rw[g1]
  refine(yi)<|(zV)<|(zE) ?_;exact Cb.of (rs:=[.cell 6 155,.tmp 7]) (r:=.cq [.ag [ah [],.sl 0 1 [],ab 0],ak false]) rfl rfl zl zv (by (try simp only[eI,bG]);first | done | (unfold pW;rw[g2];rfl))
 ·rw[g1]
  exact(az (show decide ((k:Int)<0)=false by simp))<|(zN)<|(az (cL hlt (aQ (e:=3) (enc:=bE) (λ_=>rfl) hx) @bE.eq_1))<|kE [.cell 6 155,.tmp 7] (hq:=by unfold pW;rw[g2];rfl)
def oH(l:List (List Nat))(s:List Nat)(hlen:l.length<=1000000):PC prog 122 [an 1 l (aD ah),ah s] (·=ab (gu (λx=>decide (s=x)) l)):=by
 refine pB 19 Tryz.func122 ?_;refine(oL)<|(zs) ?_;refine zL l (λk=>∀(i:Nat) y,i<k->l[i]?=some y->decide (s=y)=false) (λk=>[(0,.sl l.length 1 (l.flatMap (aD ah))),(1,ah s),(7,ab l.length),(8,ab k)]) (λk=>[]) zH zp ?_;intro k hk hall;refine zT l k ?_ ?_;rintro rfl;rotate_left;intro x hx hlt;rotate_left
 ·exact(gE)<|(zV)<|zo [.tmp 4] (hq:=by rw[iP hall])
 ·refine(gO)<|(zV)<|(az (cL hlt (aQ (e:=1) (enc:=aD ah) (λ_=>rfl) hx) @aD.eq_1)) ?_
  cases hpx:decide (s=x)
  ·refine(zN)<|(az (zi hlt hlen)) ?_;refine zX hlt zH ?_
   intro i y hi hy;by_cases hik:i=k
   ·subst hik;rw[hx] at hy;cases hy;exact hpx
   ·exact hall i y ii hy
  ·exact(cB)<|zo [.tmp 4] (hq:=by rw[mu hx hpx hall])
def DZ{l:List (List Nat)}{s:List Nat}:decide (0<=gu (λx=>decide (s=x)) l)=l.contains s:=by
 rcases ur (λx=>decide (s=x)) l with⟨g1,g2⟩ | ⟨k,x,g1,hlt,hx,g2⟩
 ·rw[g1];rw[d3] at g2
  have:s∉l:=λhm=>by simpa using g2 s hm
  simp[this]
 ·rw[g1];have h:=gb g2;have hm:=aU g2;simp only[wp] at h;subst h;simp[hm]
def iY(l:List (List Nat))(s:List Nat)(hlen:l.length<=1000000):PC prog 51 [an 1 l (aD ah),ah s] (·=ak (l.contains s)):=by
 refine pB 9 Tryz.func51 ?_;exact(jM)<|(zK (oH l s hlen))<|(zR)<|zo [.tmp 4] (hq:=by rw[DZ])
def l9(l:List aK)(kind name other:List Nat):Bool:=match (dH l kind).bind λk=>pW k.bH name with
 | some s=>s.kinds.contains other
 | none=>false
def xN(l:List aK)(kind name other:List Nat)(hlen:l.length<=1000000)(hs:∀k∈l,k.bH.length<=1000000/\∀s∈k.bH,s.kinds.length<=1000000):PC prog 116 [.ag [an 3 l aq],ah kind,ah name,ah other] (·=ak (l9 l kind name other)):=by
 refine pB 25 Tryz.func116 ?_;have hF:=Bk l kind name hlen λk hk=>(hs k hk).1;refine(jM) ?_;unfold Proofs.l9
 cases hf:(dH l kind).bind λk=>pW k.bH name with
 | none=>
  rw[hf] at hF
  exact(zK hF (hfl:=.inr (bm.refl rfl)))<|(cH (cL @jn.eq_1 @bE.eq_1 @ku.zero.eq_1))<|(zV)<|zo [.tmp 8]
 | some q=>
  have hq:q.kinds.length<=1000000:=by
   obtain⟨k,hk,h2⟩:=t8 hf;exact(hs k (aU hk)).2 q (aU h2)
  rw[hf] at hF
  exact(zK hF (hfl:=.inr (bm.refl rfl)))<|(cH (bz @jn.eq_1 @bE.eq_1))<|(zC)<|(zK (iY q.kinds other hq))<|(zR)<|zo [.tmp 8]
def fD(s:List Nat):Prop:=s.length<=1000000/\∀b∈s,b<256
def dZ(s:List Nat)(h:fD s):PC prog 101 [ah s] (·=ak (cJ s)):=B0 s h.1 h.2
def mE:Keys prog 9 AV.str:=Pk zW
def iI{S:List SO}{o:Nat}{l:List (List Nat×Bool)}(s:List Nat)(ok:Bool)(hS:S[o]?=some (bD AV.str ak l)):jv prog S 133 (.map o) (.a (.str s)) ok=some (cond ok (.cq [ak (getM false s l),ak (dx s l)]) (ak (getM false s l))):=
 Pr (uv:=ak) (u0:=false) (k:=s) (kt:=9) (et:=4) (z:=.bool false) (by simp only[aH]) mE (by simp only[aH]) rfl hS rfl ok
def sg{S:List SO}{o:Nat}{l:List (List Nat×Bool)}(s:List Nat)(u:Bool)(hS:S[o]?=some (bD AV.str ak l)):iR prog S 133 (.map o) (.a (.str s)) (.a (.bool u))=some (S.set o (bD AV.str ak (cu s u l))):=
 JD (uv:=ak) (kt:=9) (et:=4) (by simp only[aH]) mE hS rfl u
def lW(parts:List (List Nat×Bool)):List (List Nat×Bool)->List (List Nat)->Bool
 | _,[]=>true
 | taken,x::xs=>!(getM false x taken||!getM false x parts)&&lW parts (cu x true taken) xs
def jh(parts:List (List Nat×Bool)):List (List Nat×Bool)->List ku->Bool
 | _,[]=>true
 | seen,s::ss=>!(getM false s.name seen||(!cJ s.name||(decide (s.normal<1)||decide ((s.kinds.length:Int)<s.normal))))&&(lW parts [] s.kinds&&jh parts (cu s.name true seen) ss)
def iQ:List (List Nat×Bool)->List aK->Bool
 | _,[]=>true
 | parts,k::ks=>!(dx k.name parts||(!cJ k.name||decide (12<(k.bH.length:Int))))&&(jh parts [] k.bH&&iQ (cu k.name (!k.vehicle) parts) ks)
def ox(l:List aK):Bool:=iQ [] l&&decide ((l.length:Int)<=60)
structure mS (l:List aK):Prop where
 len:l.length<=1000000
 kind:∀k∈l,fD k.name/\k.bH.length<=1000000
 slot:∀k∈l,∀s∈k.bH,fD s.name/\s.kinds.length<=1000000
def e9{α:Type}{l:List α}{k:Nat}{x:α}(h:l[k]?=some x):l.drop k=x::l.drop (k+1):=by
 obtain⟨hlt,he⟩:=rg h;rw[dF hlt,he]
def oi(l:List aK)(hl:mS l):PC prog 42 [.ag [an 3 l aq]] (·=ak (ox l)):=by
 have hlen:=hl.len
 refine pB 108 Tryz.func42 ?_;refine(oL)<|(zV)<|(zs) ?_;refine KG l (λk (parts:List (List Nat×Bool))=>iQ [] l=iQ parts (l.drop k)) (λk parts=>[(1,.ptr 0 0),(3,.map 1),(16,an 3 l aq),(17,ab l.length),(18,ab k)]) (λk parts=>[.cells [an 3 l aq],bD AV.str ak parts]) ([]) zH g9 ?_;intro k parts hk hall;refine zT l k ?_ ?_;rintro rfl;rotate_left;intro x hx hlt;rotate_left
 ·exact(gE)<|(zV)<|zo [.tmp 2] (hq:=by rw[show ox l=decide ((l.length:Int)<=60) from by unfold ox;rw[hall,ca];rfl])
 have no:iQ parts (l.drop k)=false->ox l=false:=λh=>by unfold ox;rw[hall,h];rfl
 rw[e9 hx] at no hall;have hgx:=hl.kind x (mem_iff_getElem?.2 ⟨k,hx⟩);have hsx:=hl.slot x (mem_iff_getElem?.2 ⟨k,hx⟩)
 refine(gO)<|(az (gh hlt (aQ (e:=3) (enc:=aq) (λ_=>rfl) hx) @aq.eq_1 @q7))<|(zs) ?_;refine aE.r0 g9 (by simp only[dD,bY,an,aH,m7,m6,↓reduceIte,aa,ad,af,ac,aj,ar,aw,bP,iI (l:=parts)];first | done | rfl) ?_
 cases h1:dx x.name parts;rotate_left
 ·exact(yi)<|(zV)<|zo [.tmp 2] (hq:=by rw[no (by simp[iQ,h1])])
 refine(zC)<|(zK (dZ x.name hgx.1)) ?_
 cases h2:cJ x.name
 ·exact(zR)<|(cB)<|zo [.tmp 2] (hq:=by rw[no (by simp[iQ,h2])])
 cases h3:decide (12<(x.bH.length:Int));rotate_left
 ·exact(cH h3)<|(cB)<|zo [.tmp 2] (hq:=by rw[no (by simp only[iQ,h3,d7,dt,ch])])
 refine(cH h3)<|(zN)<|(az @q7)<|(zV) ?_
 have hq2:iQ [] l=(jh parts [] x.bH&&iQ (cu x.name (!x.vehicle) parts) (l.drop (k+1))):=by rw[hall,iQ,h1,h2,h3];rfl
 have hnx:True:=trivial
 have no2:jh parts [] x.bH=false->ox l=false:=λh=>by unfold ox;rw[hq2,h];rfl
 have hlen2:=hgx.2;refine(zs) ?_;refine KG x.bH (λk2 (seen:List (List Nat×Bool))=>jh parts [] x.bH=jh parts seen (x.bH.drop k2)) (λk2 seen=>[(1,.ptr 0 0),(3,.map 1),(16,an 3 l aq),(17,ab l.length),(18,ab k),(5,.ptr 2 0),(8,.map 3),(44,an 3 x.bH bE),(45,ab x.bH.length),(46,ab k2)]) (λk2 seen=>[.cells [an 3 l aq],bD AV.str ak parts,.cells (aq x),bD AV.str ak seen]) ([]) zH g9 ?_;intro k2 seen hk2 hall2;refine zT x.bH k2 ?_ ?_;rintro rfl;rotate_left;intro y hx2 hlt2;rotate_left
 ·refine(gE) ?_
  have hall3:iQ [] l=iQ (cu x.name (!x.vehicle) parts) (l.drop (k+1)):=by rw[hq2,hall2,ca];rfl
  refine(zs) ?_;refine aE.r0 g9 (by simp only[dD,bY,an,aH,m7,m6,↓reduceIte,aa,ad,af,ac,aj,ar,aw,bP,aq,sg (l:=parts)];first | done | rfl) ?_;refine(az (zi hlt hlen)) ?_;refine yL hlt (cu x.name (!x.vehicle) parts) zH hall3
 have no3:jh parts seen (x.bH.drop k2)=false->ox l=false:=λh=>no2 (by rw[hall2,h]);rw[e9 hx2] at no3 hall2;have hgy:=hsx y (mem_iff_getElem?.2 ⟨k2,hx2⟩)
 refine(gO)<|(az (lB hlt2 (aQ (e:=3) (enc:=bE) (λ_=>rfl) hx2) @bE.eq_1 @aq.eq_1 @q7)) ?_
 cases g1:getM false y.name seen;rotate_left
 ·refine(zs) ?_;refine aE.r0 g9 (by simp only[dD,bY,an,aH,m7,m6,↓reduceIte,aa,ad,af,ac,aj,ar,aw,bP,iI (l:=seen),g1];first | done | rfl) ?_;exact(cB)<|zo [.tmp 2] (hq:=by rw[no3 (by simp[jh,g1])])
 refine(zs) ?_;refine aE.Tn g9 (by simp only[dD,bY,an,aH,m7,m6,↓reduceIte,aa,ad,af,ac,aj,ar,aw,bP,iI (l:=seen),g1];first | done | rfl) ?_;refine(zK (dZ y.name hgy.1)) ?_;cases g2:cJ y.name
 ·exact(zR)<|(cB)<|zo [.tmp 2] (hq:=by rw[no3 (by simp[jh,g2])])
 cases g3:decide (y.normal<1);rotate_left
 ·exact(cH g3)<|(cB)<|zo [.tmp 2] (hq:=by rw[no3 (by simp only[jh,g3,d7,eu,dt,ch])])
 cases g4:decide ((y.kinds.length:Int)<y.normal);rotate_left
 ·exact(cH (bz g3 g4))<|(cB)<|zo [.tmp 2] (hq:=by rw[no3 (by simp only[jh,g4,d7,eu,dt,ch])])
 refine(cH (bz g3 g4))<|(zN)<|(zs) ?_;refine aE.r0 g9 (by simp only[dD,bY,an,aH,m7,m6,↓reduceIte,aa,ad,af,ac,aj,ar,aw,bP,sg (l:=seen)];first | done | rfl) ?_;refine(az @q7)<|(zV) ?_
 have hq3:jh parts [] x.bH=(lW parts [] y.kinds&&jh parts (cu y.name true seen) (x.bH.drop (k2+1))):=by rw[hall2,jh,g1,g2,g3,g4];rfl
 have no4:lW parts [] y.kinds=false->ox l=false:=λh=>no2 (by rw[hq3,h];rfl);have hlen3:=hgy.2;refine(zs) ?_;refine KG y.kinds (λk3 (taken:List (List Nat×Bool))=>lW parts [] y.kinds=lW parts taken (y.kinds.drop k3)) (λk3 taken=>[(1,.ptr 0 0),(3,.map 1),(16,an 3 l aq),(17,ab l.length),(18,ab k),(5,.ptr 2 0),(8,.map 3),(44,an 3 x.bH bE),(45,ab x.bH.length),(46,ab k2),(11,.map 5),(78,an 1 y.kinds (aD ah)),(79,ab y.kinds.length),(80,ab k3)]) (λk3 taken=>[.cells [an 3 l aq],bD AV.str ak parts,.cells (aq x),bD AV.str ak (cu y.name true seen),.gone,bD AV.str ak taken]) ([]) (bN (bz @aD.eq_1 @aq.eq_1)) g9 ?_;intro k3 taken hk3 hall3;refine zT y.kinds k3 ?_ ?_;rintro rfl;rotate_left;intro z hx3 hlt3;rotate_left
 ·refine(gE) ?_
  have hall4:jh parts [] x.bH=jh parts (cu y.name true seen) (x.bH.drop (k2+1)):=by rw[hq3,hall3,ca];rfl
  refine(az (zi hlt2 hlen2)) ?_;refine yL hlt2 (cu y.name true seen) (bN @aq.eq_1) hall4
 have no5:lW parts taken (y.kinds.drop k3)=false->ox l=false:=λh=>no4 (by rw[hall3,h]);rw[e9 hx3] at no5 hall3
 refine(gO)<|(az (cL hlt3 (aQ (e:=1) (enc:=aD ah) (λ_=>rfl) hx3) @aD.eq_1)) ?_
 cases f1:getM false z taken;rotate_left
 ·refine(zs) ?_;refine aE.r0 g9 (by simp only[dD,bY,an,aH,m7,m6,↓reduceIte,aa,ad,af,ac,aj,ar,aw,bP,iI (l:=taken),f1];first | done | rfl) ?_;exact(cB)<|zo [.tmp 2] (hq:=by rw[no5 (by simp[lW,f1])])
 cases f2:getM false z parts
 ·refine(zs) ?_;refine aE.r0 g9 (by simp only[dD,bY,an,aH,m7,m6,↓reduceIte,aa,ad,af,ac,aj,ar,aw,bP,iI (l:=taken),iI (l:=parts),f1,f2];first | done | rfl) ?_;exact(cB)<|zo [.tmp 2] (hq:=by rw[no5 (by simp[lW,f2])])
 refine(zs) ?_;refine aE.r0 g9 (by simp only[dD,bY,an,aH,m7,m6,↓reduceIte,aa,ad,af,ac,aj,ar,aw,bP,iI (l:=taken),iI (l:=parts),f1,f2];first | done | rfl) ?_;refine(zN) ?_
 have hall5:lW parts [] y.kinds=lW parts (cu z true taken) (y.kinds.drop (k3+1)):=by rw[hall3,lW,f1,f2];rfl
 refine(zs) ?_;refine aE.r0 g9 (by simp only[dD,bY,an,aH,m7,m6,↓reduceIte,aa,ad,af,ac,aj,ar,aw,bP,sg (l:=taken)];first | done | rfl) ?_;refine(az (zi hlt3 hlen3)) ?_;refine yL hlt3 (cu z true taken) (bN (bz @aD.eq_1 @aq.eq_1)) hall5
def nT{α:Type}{p:α->Bool}{l:List α}:decide (0<=gu p l)=l.any p:=by
 rcases ur p l with⟨g1,g2⟩ | ⟨k,x,g1,hlt,hx,g2⟩
 ·rw[g1];rw[d3] at g2
  have:l.any p=false:=by
   rw[List.any_eq_false];exact g2
  rw[this];rfl
 ·rw[g1];have:l.any p=true:=List.any_eq_true.2 ⟨x,aU g2,gb g2⟩;rw[this];simp
def HI{l:List (List Nat)}(p:List Nat->Bool){fid:FuncId}{first cap:List SV}(hlen:l.length<=1000000)(hp:∀x∈l,PC prog fid ((first++[ah x])++cap) (·=ak (p x)))(hg:bZ first=true/\bZ cap=true):PC prog 191 [an 1 l (aD ah),.fn fid first cap] (·=ak (l.any p)):=by
 refine pB 9 Tryz.func191 ?_;exact(jM)<|(zK (rA p hlen hp hg) (hwk:=.cons (Wk.sl _ _ _) (.cons (.fn (bm.refl hg.1) (bm.refl hg.2)) .nil)))<|(zR)<|zo [.tmp 4] (hq:=by rw[nT])
structure aV where
 op:Int
 day:Int
 part:List Nat
 kind:List Nat
 aJ:List Nat
 slot:List Nat
 key:List Nat
 value:List Nat
 u1:Int
 u2:Int
 u3:Int
 u4:Int
 u5:Int
 u6:Int
 deriving DecidableEq
def ao(e:aV):List SV:=[ab e.op,ab e.day,ah e.part,ah e.kind,ah e.aJ,ah e.slot,ah e.key,ah e.value,ab e.u1,ab e.u2,ab e.u3,ab e.u4,ab e.u5,ab e.u6]
def aV.av(e:aV):List AV:=[.int .i64 e.op,.int .i64 e.day,.str e.part,.str e.kind,.str e.aJ,.str e.slot,.str e.key,.str e.value,.int .i64 e.u1,.int .i64 e.u2,.int .i64 e.u3,.int .i64 e.u4,.int .i64 e.u5,.int .i64 e.u6]
def aV.zero:aV:=⟨0,0,[],[],[],[],[],[],0,0,0,0,0,0⟩
def aV.W5:List Kd:=[.i .i64,.i .i64,.s,.s,.s,.s,.s,.s,.i .i64,.i .i64,.i .i64,.i .i64,.i .i64,.i .i64]
def aV.eq(a b:aV):gn eK a.av b.av=decide (a=b):=by
 obtain⟨a1,a2,a3,a4,a5,a6,a7,a8,a9,a10,a11,a12,a13,a14⟩:=a;obtain⟨b1,b2,b3,b4,b5,b6,b7,b8,b9,b10,b11,b12,b13,b14⟩:=b;simp only[aV.av,gn,eK,BE,ta,lU,dv,dd,aV.mk.injEq,f7]
def C9(a b:aV):dj prog .eql 90 (.agg a.av) (.agg b.av)=some (.bool (decide (a=b))):=
 tN (ks:=aV.W5) zW zW (by simp only[aH,m6]) rfl rfl (aV.eq a b)
def Uz:List (List Nat):=[[],[109,97,107,101],[102,105,116],[114,101,109,111,118,101],[114,117,110],[111,118,101,114,104,97,117,108],[110,111,116,101],[115,99,114,97,112]]
def ID(op:Int):List Nat:=if op<0\/8<=op then [] else (Uz[op.toNat]?).getD []
def KA(op:Int):PC prog 189 [ab op] (·=ah (ID op)):=by
 refine pB 14 Tryz.func189 ?_;refine(oL) ?_;cases h1:decide (op<0);rotate_left
 ·exact(az h1)<|(cB)<|zo [.tmp 2] (hq:=by rw[ID,un (.inl (ww h1))])
 cases h2:decide (8<=op);rotate_left
 ·exact(az (bz h1 h2))<|(cB)<|zo [.tmp 2] (hq:=by rw[ID,un (.inr (ww h2))])
 refine(az (bz h1 h2))<|(zN) ?_
 have hop:op=0\/op=1\/op=2\/op=3\/op=4\/op=5\/op=6\/op=7:=by simp only[wn] at h1 h2;omega
 rcases hop with rfl | rfl | rfl | rfl | rfl | rfl | rfl | rfl<;>(refine(zV) ?_ ;exact zo [.tmp 2])
def Be(a b c d e f:SV):PC prog 190 [.ip [a,b,c,d,e,f]] (·=.ag [.ip [a,b,c,d,e,f],.ip [c,d,e,f],.ip [e,f]]):=by
 refine pB 13 Tryz.func190 ?_;refine(zV)<|(zs) ?_;refine oK [0,1,3,0,8,24,0,64,192,511,1023] ?_;refine(zD) ?_;refine SD.e g9 rfl g9 rfl rfl g9 zl ?_;exact(zM)<|zo [.cell 2 251]
def Fa(s:List Nat)(h:fD s):PC prog 192 [ah s] (·=ak (!cJ s)):=by
 refine pB 6 Tryz.func192 ?_;exact(jM)<|(zK (dZ s h))<|(zR)<|zo [.tmp 2]
def fb(a b:Int):Bool:=!(decide (a<0))&&(!(decide (b<a))&&!(decide (1000000<b)))
def aV.use(e:aV):Bool:=fb e.u1 e.u2&&(fb e.u3 e.u4&&fb e.u5 e.u6)
def aV.rest(e:aV):aV:=
 if e.op=1 then ⟨0,0,[],[],e.aJ,e.slot,e.key,e.value,e.u1,e.u2,e.u3,e.u4,e.u5,e.u6⟩
 else if e.op=2 then ⟨0,0,[],e.kind,[],[],e.key,e.value,e.u1,e.u2,e.u3,e.u4,e.u5,e.u6⟩
 else if e.op=6 then ⟨0,0,[],e.kind,e.aJ,e.slot,[],[],e.u1,e.u2,e.u3,e.u4,e.u5,e.u6⟩
 else if e.op=4 then ⟨0,0,[],e.kind,e.aJ,e.slot,e.key,e.value,0,0,0,0,0,0⟩
 else ⟨0,0,[],e.kind,e.aJ,e.slot,e.key,e.value,e.u1,e.u2,e.u3,e.u4,e.u5,e.u6⟩
def aV.names(e:aV):List (List Nat):=if e.op=1 then [e.kind] else if e.op=2 then [e.aJ,e.slot] else if e.op=6 then [e.key] else []
def aV.j9(e:aV):Bool:=
 if e.op=1 then true else if e.op=2 then !(decide (e.aJ=e.part)) else if e.op=6 then !(decide (e.value=[]))&&!(decide (200<(e.value.length:Int))) else if e.op=4 then e.use else true
def cQ(e:aV):Bool:=!(decide (ID e.op=[]))&&(!(decide (e.day<0))&&(!(decide (40000<e.day))&&(cJ e.part&&(e.j9&&(decide (e.rest=aV.zero)&&!(e.names.any λs=>!cJ s))))))
structure lP (e:aV):Prop where
 part:fD e.part
 kind:fD e.kind
 aJ:fD e.aJ
 slot:fD e.slot
 key:fD e.key
 value:fD e.value
def Bc(a1 a2:Int)(a3 a4 a5 a6 a7 a8:List Nat)(a9 a10 a11 a12 a13 a14:Int):dj prog .eql 90 (.agg [.int .i64 a1,.int .i64 a2,.str a3,.str a4,.str a5,.str a6,.str a7,.str a8,.int .i64 a9,.int .i64 a10,.int .i64 a11,.int .i64 a12,.int .i64 a13,.int .i64 a14]) (.agg [.int .i64 0,.int .i64 0,.str [],.str [],.str [],.str [],.str [],.str [],.int .i64 0,.int .i64 0,.int .i64 0,.int .i64 0,.int .i64 0,.int .i64 0])=some (.bool (decide ((⟨a1,a2,a3,a4,a5,a6,a7,a8,a9,a10,a11,a12,a13,a14⟩:aV)=aV.zero))):=
 C9 ⟨a1,a2,a3,a4,a5,a6,a7,a8,a9,a10,a11,a12,a13,a14⟩ aV.zero
def Ik(e:aV)(he:lP e):PC prog 108 [.ag (ao e)] (·=ak (cQ e)):=by
 refine pB 111 Tryz.func108 ?_;refine(az @ao.eq_1)<|(zC)<|(zK (KA e.op)) ?_
 cases h1:decide (ID e.op=[]);rotate_left
 ·exact(cH h1)<|(cB)<|zo [.tmp 2] (hq:=by rw[cQ,h1];rfl)
 cases h2:decide (e.day<0);rotate_left
 ·exact(cH (bz h1 h2))<|(cB)<|zo [.tmp 2] (hq:=by rw[cQ,h1,h2];rfl)
 cases h3:decide (40000<e.day);rotate_left
 ·exact(cH (cL h1 h2 h3))<|(cB)<|zo [.tmp 2] (hq:=by rw[cQ,h1,h2,h3];rfl)
 refine(NV (cL h1 h2 h3))<|(zK (dZ e.part he.part)) ?_
 cases h4:cJ e.part
 ·exact(zR)<|(cB)<|zo [.tmp 2] (hq:=by rw[cQ,h1,h2,h3,h4];rfl)
 refine(zR)<|(zN) ?_
 have hv:cQ e=(e.j9&&(decide (e.rest=aV.zero)&&!(e.names.any λs=>!cJ s))):=by rw[cQ,h1,h2,h3,h4];rfl
 clear h1 h2 h3 h4
 have hn:∀s∈e.names,fD s:=by
  intro s hs;unfold aV.names at hs;split at hs
  ·rw[rx hs];exact he.kind
  split at hs
  ·rcases t6 hs with rfl | hs
   ·exact he.aJ
   ·rw[rx hs];exact he.slot
  split at hs
  ·rw[rx hs];exact he.key
  ·cases hs
 have hnl:e.names.length<=1000000:=by
  unfold aV.names
  repeat' split
  all_goals simp
 refine(oL)<|(oL) ?_
 (repeat refine aE.seq ?_)
 refine aE.mono (Q:=λex st=>(ex=.normal/\e.j9=true/\Fg st ⟨[(3,.sl e.names.length 1 (e.names.flatMap (aD ah))),(4,.ptr 2 0)],111,[.gone,.gone,.cells (ao e.rest)],[]⟩)\/(ex=.ret/\Cb prog Tryz.f108 (·=ak (cQ e)) .ret st)) ?_ ?_;rotate_left
 ·rintro ex st (⟨rfl,hm,hf⟩ | ⟨rfl,hs⟩);rotate_left
  ·exact hs
  change aE _ _ _ _ _;refine aE.fg hf ?_;rw[hv,hm,dv];cases r:decide (e.rest=aV.zero)
  ·exact(az (cL @ao.eq_1 @Bc r))<|zo [.tmp 2]
  ·exact(fC (cL @ao.eq_1 @Bc r))<|(zK (HI (λs=>!cJ s) (l:=e.names) (first:=[]) (cap:=[]) hnl (λx hx=>Fa x (hn x hx)) ⟨rfl,rfl⟩))<|(zR)<|zo [.tmp 2]
 have hrest:∀a1 a2 a3 a4 a5 a6 a7 a8 a9 a10 a11 a12 a13 a14,e.rest=(⟨a1,a2,a3,a4,a5,a6,a7,a8,a9,a10,a11,a12,a13,a14⟩:aV)->ao e.rest=[ab a1,ab a2,ah a3,ah a4,ah a5,ah a6,ah a7,ah a8,ab a9,ab a10,ab a11,ab a12,ab a13,ab a14]:=by
  intros;simp only[*,ao]
 refine aE.block ?_;refine(zV) ?_;cases k1:decide (e.op=1);rotate_left
 ·have k1':=ww k1;refine(cB) ?_;have hr:=hrest _ _ _ _ _ _ _ _ _ _ _ _ _ _ (show e.rest=_ by unfold aV.rest;rw[un k1'])
  have hnm:e.names=[e.kind]:=by unfold aV.names;rw[un k1']
  refine .inl ⟨rfl,by unfold aV.j9;rw[un k1'],?_⟩;rw[hr,hnm];exact Fg.trans (Fg.freeze (f':=[(3,.sl 1 1 [ah e.kind]),(4,.ptr 2 0)]) 3 rfl ge zG) zH
 have n1:=wt k1;refine(ly) ?_;cases k2:decide (e.op=2);rotate_left
 ·have k2':=ww k2
  have hmid:e.j9=!(decide (e.aJ=e.part)):=by unfold aV.j9;rw[ut n1,un k2']
  refine(cB) ?_;cases j1:decide (e.aJ=e.part);rotate_left
  ·refine(cB) ?_;refine aE.ret ?_;refine .inr ⟨rfl,?_⟩;exact zO [.tmp 2] (hq:=by (try simp only[eI,bG]);first | done | (rw[hv,hmid,j1];rfl))
  refine(ly) ?_;have hr:=hrest _ _ _ _ _ _ _ _ _ _ _ _ _ _ (show e.rest=_ by unfold aV.rest;rw[ut n1,un k2'])
  have hnm:e.names=[e.aJ,e.slot]:=by unfold aV.names;rw[ut n1,un k2']
  refine .inl ⟨rfl,by rw[hmid,j1];rfl,?_⟩;rw[hr,hnm];exact Fg.trans (Fg.freeze (f':=[(3,.sl 2 1 [ah e.aJ,ah e.slot]),(4,.ptr 2 0)]) 3 rfl ge zG) zH
 have n2:=wt k2;refine(ly) ?_;cases k6:decide (e.op=6);rotate_left
 ·have k6':=ww k6
  have hmid:e.j9=(!(decide (e.value=[]))&&!(decide (200<(e.value.length:Int)))):=by unfold aV.j9;rw[ut n1,ut n2,un k6']
  refine(zY) ?_;cases j1:decide (e.value=[]);rotate_left
  ·refine(az j1)<|(cB) ?_;refine aE.ret ?_;refine .inr ⟨rfl,?_⟩;exact zO [.tmp 2] (hq:=by (try simp only[eI,bG]);first | done | (rw[hv,hmid,j1];rfl))
  cases j2:decide (200<(e.value.length:Int));rotate_left
  ·(repeat refine aE.seq ?_);refine aE.r0 g9 (sP (bz j1 j2)) ?_
   refine(cB) ?_;refine aE.ret ?_;refine .inr ⟨rfl,?_⟩;exact zO [.tmp 2] (hq:=by (try simp only[eI,bG]);first | done | (rw[hv,hmid,j1,j2];rfl))
  refine(zs) ?_;refine aE.r0 g9 (by simp only[dD,bY,an,aH,m7,m6,↓reduceIte,aa,ad,af,ac,aj,ar,aw,bP,j1,j2];first | done | rfl) ?_;refine(ly) ?_;have hr:=hrest _ _ _ _ _ _ _ _ _ _ _ _ _ _ (show e.rest=_ by unfold aV.rest;rw[ut n1,ut n2,un k6'])
  have hnm:e.names=[e.key]:=by unfold aV.names;rw[ut n1,ut n2,un k6']
  refine .inl ⟨rfl,by rw[hmid,j1,j2];rfl,?_⟩;rw[hr,hnm];exact Fg.trans (Fg.freeze (f':=[(3,.sl 1 1 [ah e.key]),(4,.ptr 2 0)]) 3 rfl ge zG) zH
 have n6:=wt k6
 have hnm:e.names=[]:=by unfold aV.names;rw[ut n1,ut n2,ut n6]
 refine(ly) ?_;cases k4:decide (e.op=4)
 ·have n4:=wt k4;refine(zN) ?_;have hr:=hrest _ _ _ _ _ _ _ _ _ _ _ _ _ _ (show e.rest=_ by unfold aV.rest;rw[ut n1,ut n2,ut n6,ut n4]);refine .inl ⟨rfl,by unfold aV.j9;rw[ut n1,ut n2,ut n6,ut n4],?_⟩;rw[hr,hnm];exact Fg.trans (Fg.freeze (f':=[(3,.sl 0 1 []),(4,.ptr 2 0)]) 1 rfl ge zG) zH
 have k4':=ww k4
 have hmid:e.j9=e.use:=by unfold aV.j9;rw[ut n1,ut n2,ut n6,un k4']
 refine(zY) ?_;refine zZ [(1,.ip (ao e)),(3,.buf 1 0 1 (some 0)),(4,.ptr 2 0)] 0 rfl (gV @ao.eq_1)<|(fC @ao.eq_1)<|(zK (Be (ab e.u1) (ab e.u2) (ab e.u3) (ab e.u4) (ab e.u5) (ab e.u6)) (hfl:=.inr (bm.refl rfl)))<|(zR) ?_
 (repeat refine aE.seq ?_)
 refine aE.block (aE.loop (λm st=>∃k:Nat,k<=3/\m=3-k/\(0<k->fb e.u1 e.u2=true)/\(1<k->fb e.u3 e.u4=true)/\(2<k->fb e.u5 e.u6=true)/\st=⟨[(3,.buf 1 0 1 (some 0)),(4,.ptr 2 0),(73,.ag [.ip [ab e.u1,ab e.u2,ab e.u3,ab e.u4,ab e.u5,ab e.u6],.ip [ab e.u3,ab e.u4,ab e.u5,ab e.u6],.ip [ab e.u5,ab e.u6]]),(74,ab k)],111,[.gone,.cells [],.cells [ab 0,ab 0,ah [],ah e.kind,ah e.aJ,ah e.slot,ah e.key,ah e.value,ab e.u1,ab e.u2,ab e.u3,ab e.u4,ab e.u5,ab e.u6]],[]⟩) 3 zH ⟨0,by omega,rfl,λh=>ul h ii,λh=>ul h ii,λh=>ul h ii,rfl⟩ (by rintro m st ⟨k,_,_,_,_,_,rfl⟩;rfl) ?_);rintro m st ⟨k,hk,rfl,u1,u2,u3,rfl⟩;refine(zV) ?_;by_cases hlt:k<3;rotate_left
 ·obtain rfl:k=3:=by omega
  refine(gE)<|(az (show dm prog 88=some (.agg [.int .i64 0,.int .i64 0,.int .i64 0,.int .i64 0,.int .i64 0,.int .i64 0]) by simp only[aH])) ?_
  have hr:=hrest _ _ _ _ _ _ _ _ _ _ _ _ _ _ (show e.rest=_ by unfold aV.rest;rw[ut n1,ut n2,ut n6,un k4']);refine .inl ⟨rfl,by rw[hmid,aV.use,u1 ii,u2 ii,u3 ii];rfl,?_⟩;rw[hr,hnm];exact Fg.trans (Fg.freeze (f':=[(3,.sl 0 1 []),(4,.ptr 2 0)]) 1 rfl ge zG) zH
 rw[show decide ((k:Int)<3)=true by simp only[wp];omega]
 obtain⟨a,b,l,hab,hno,hyes⟩:∃(a b:Int) (l:List SV),([.ip [ab e.u1,ab e.u2,ab e.u3,ab e.u4,ab e.u5,ab e.u6],.ip [ab e.u3,ab e.u4,ab e.u5,ab e.u6],.ip [ab e.u5,ab e.u6]]:List SV)[k*1]?=some (.ip (ab a::ab b::l))/\(fb a b=false->e.use=false)/\(fb a b=true->(0<k+1->fb e.u1 e.u2=true)/\(1<k+1->fb e.u3 e.u4=true)/\(2<k+1->fb e.u5 e.u6=true)):=by
  have:k=0\/k=1\/k=2:=by omega
  rcases this with rfl | rfl | rfl
  ·exact⟨_,_,_,rfl,λh=>by rw[aV.use,h];rfl,λh=>⟨λ_=>h,λh=>by omega,λh=>by omega⟩⟩
  ·exact⟨_,_,_,rfl,λh=>by rw[aV.use,h,ch,d4],λh=>⟨λ_=>u1 ii,λ_=>h,λh=>by omega⟩⟩
  ·exact⟨_,_,_,rfl,λh=>by rw[aV.use,h,d4,d4],λh=>⟨λ_=>u1 ii,λ_=>u2 ii,λ_=>h⟩⟩
 refine(gO)<|(zs) ?_;refine aE.r0 g9 (by simp only[dD,bY,an,aH,m7,m6,↓reduceIte,aa,ad,af,ac,aj,ar,aw,bP,hlt,hab];first | done | rfl) ?_
 cases c1:decide (a<0);rotate_left
 ·refine(zs) ?_;refine oK [0,1,3,7,15,31,63,127,255,511,63,1087,3135,7231,16383,32767,65535,131071,262143,524287,1048575,2097151,4194303] ?_;refine(vD c1)<|(zM)<|(cB) ?_;refine aE.ret ?_;refine .inr ⟨rfl,?_⟩;exact zO [.tmp 2] (hq:=by (try simp only[eI,bG]);first | done | (rw[hv,hmid,hno (by simp[fb,ww c1])];rfl))
 cases c2:decide (b<a);rotate_left
 ·refine(zs) ?_;refine oK [0,1,3,7,15,31,63,127,255,511,63,1087,3135,7231,16383,32767,65535,131071,262143,524287,1048575,2097151,4194303] ?_
  (repeat (first | refine SD.r g9 rfl g9 g9 (by simp only[dD,bY,an,aH,m7,m6,↓reduceIte,aa,ad,af,ac,aj,ar,aw,bP,c1,c2];first | done | rfl) ?_ | refine SD.s g9 rfl g9 g9 ?_ | fail))
  refine(zM)<|(cB) ?_;refine aE.ret ?_;refine .inr ⟨rfl,?_⟩;exact zO [.tmp 2] (hq:=by (try simp only[eI,bG]);first | done | (rw[hv,hmid,hno (by simp[fb,ww c2])];rfl))
 cases c3:decide (1000000<b);rotate_left
 ·refine(zs) ?_;refine oK [0,1,3,7,15,31,63,127,255,511,63,1087,3135,7231,16383,32767,65535,131071,262143,524287,1048575,2097151,4194303] ?_;refine(vD (cL c1 c2 c3))<|(zM)<|(cB) ?_;refine aE.ret ?_;refine .inr ⟨rfl,?_⟩;exact zO [.tmp 2] (hq:=by (try simp only[eI,bG]);first | done | (rw[hv,hmid,hno (by simp[fb,ww c3])];rfl))
 refine(zs) ?_;refine oK [0,1,3,7,15,31,63,127,255,511,63,1087,3135,7231,16383,32767,65535,131071,262143,524287,1048575,2097151,4194303] ?_;refine(vD (cL c1 c2 c3))<|(zM)<|(zN) ?_
 obtain⟨y1,y2,y3⟩:=hyes (by rw[fb,c1,c2,c3];rfl);refine(az (FC (show -9223372036854775808<=(k:Int)+1/\(k:Int)+1<=9223372036854775807 from⟨by omega,by omega⟩))) ?_;refine⟨3-(k+1),_,by omega,zH,k+1,by omega,rfl,y1,y2,y3,rfl⟩
structure bB where
 key:List Nat
 value:List Nat
structure ai where
 name:List Nat
 kind:List Nat
 aJ:List Nat
 slot:List Nat
 made:Int
 since:Int
 aY:Bool
 props:List bB
 l1:Int
 l2:Int
 l3:Int
 l4:Int
 l5:Int
 l6:Int
def aG(p:bB):List SV:=[ah p.key,ah p.value]
def ae(p:ai):List SV:=[ah p.name,ah p.kind,ah p.aJ,ah p.slot,ab p.made,ab p.since,ak p.aY,an 2 p.props aG,ab p.l1,ab p.l2,ab p.l3,ab p.l4,ab p.l5,ab p.l6]
def ai.zero:ai:=⟨[],[],[],[],0,0,false,[],0,0,0,0,0,0⟩
def dX:List (List Nat)->Bool
 | a::b::r=>fO a b&&dX (b::r)
 | _=>true
def AH:∀{l:List (List Nat)},(∀(i:Nat) a b,l[i]?=some a->l[i+1]?=some b->fO a b=true)->dX l=true
 | [],_=>rfl
 | [_],_=>rfl
 | a::b::r,h=>by
  rw[dX,h 0 a b rfl rfl,dv];exact AH λi x y h1 h2=>h (i+1) x y h1 h2
def Eo:∀{l:List (List Nat)} {i:Nat} {a b:List Nat},l[i]?=some a->l[i+1]?=some b->fO a b=false->dX l=false
 | [],i,_,_,h,_,_=>by simp at h
 | [_],i,_,_,_,h,_=>by simp at h
 | x::y::r,0,a,b,h1,h2,h3=>by cases h1;cases h2;rw[dX,h3];rfl
 | x::y::r,i+1,a,b,h1,h2,h3=>by
  rw[dX,Eo (l:=y::r) (i:=i) h1 h2 h3,d4]
def qV{α β:Type}{f:α->β}{l:List α}{i:Nat}{b:β}(h:(l.map f)[i]?=some b):∃a,l[i]?=some a/\f a=b:=by
 rw[al] at h;obtain⟨a,h1,h2⟩:=au h;exact⟨a,h1,h2⟩
def vn(s:List Nat):PC prog 261 [.ag (ah s::ci 1 .any)] (·=ah s):=by
 refine pB 5 Tryz.func261 ?_;refine(az Su)<|(zV)<|(zE) ?_;exact Cb.of (rs:=[.tmp 2]) rfl rfl zl (Wk.refl rfl) zq
def Fe(l:List bB)(hlen:l.length<=1000000):PC prog 260 [an 2 l aG,.fn 261 [] []] (·=ak (dX (l.map bB.key))):=by
 refine pB 26 Tryz.func260 ?_;refine(oL) ?_
 (repeat refine aE.seq ?_)
 refine aE.block (aE.loop (λm st=>∃k:Nat,1<=k/\m=l.length-k/\(∀(i:Nat) a b,i+1<k->l[i]?=some a->l[i+1]?=some b->fO a.key b.key=true)/\st=⟨[(0,an 2 l aG),(1,.fn 261 [] []),(5,ab k)],26,[],[]⟩) (l.length-1) zH ⟨1,by omega,rfl,λi a b h=>ul h ii,rfl⟩ (by rintro m st ⟨k,_,_,_,rfl⟩;rfl) ?_);rintro m st ⟨k,hk,rfl,hall,rfl⟩;refine(zV) ?_;by_cases hlt:k<l.length;rotate_left
 ·rw[show decide ((k:Int)<(l.length:Int))=false by simp only[wn];omega]
  refine(gE)<|(zV) ?_
  exact zo [.tmp 4] (hq:=by rw[AH λi a b h1 h2=>by
   obtain⟨x,hx,rfl⟩:=qV h1;obtain⟨y,hy,rfl⟩:=qV h2
   exact hall i x y (by have:=bx hy;omega) hx hy])
 rw[show decide ((k:Int)<(l.length:Int))=true by simp only[wp];omega];obtain⟨j,rfl⟩:∃j,k=j+1:=⟨k-1,by omega⟩;obtain⟨x,hx⟩:∃x,l[j]?=some x:=⟨l[j],jp ii⟩;obtain⟨y,hy⟩:∃y,l[j+1]?=some y:=⟨l[j+1],jp hlt⟩
 have hj:j<l.length:=by omega
 refine(gO)<|(zs) ?_;refine oK [0,0,0,4,14,30,63,0,0,0,768,1792,4095,8191] ?_
 (repeat (first | refine SD.r g9 rfl g9 g9 (sP (lB (bS (((j+1:Nat):Int)) 1 ii) (show((j+1:Nat):Int)-1=(j:Int) from by omega) hj (aQ (e:=2) (enc:=aG) (λ_=>rfl) hx) @aG.eq_1)) ?_ | refine SD.s g9 rfl g9 g9 ?_ | fail))
 refine SD.k g9 rfl rfl g9 rfl rfl zc (vn x.key) (.cons (.ag (.cons (.a _) (.cons (.any _) .nil))) .nil) rfl ?_;refine(vD (cL hlt (aQ (e:=2) (enc:=aG) (λ_=>rfl) hy) @aG.eq_1)) ?_;refine SD.k g9 rfl rfl g9 rfl rfl zc (vn y.key) (.cons (.ag (.cons (.a _) (.cons (.any _) .nil))) .nil) rfl ?_;refine(vD @yX)<|(zM) ?_
 cases g:fO x.key y.key
 ·exact(cB)<|zo [.tmp 4] (hq:=by rw[Eo (i:=j) (a:=x.key) (b:=y.key) (by rw[al,hx];rfl) (by rw[al,hy];rfl) g])
 ·refine(zN)<|(zs) ?_;refine aE.r0 g9 (sP (bA (((j+1:Nat):Int)) 1 ii)) ?_;refine⟨l.length-(j+1+1),_,by omega,zH,j+1+1,by omega,rfl,?_,rfl⟩
  intro i a b hi ha hb;by_cases hij:i=j
  ·subst hij;rw[hx] at ha;rw[hy] at hb;cases ha;cases hb;exact g
  ·exact hall i a b ii ha hb
def vm(s:List Nat):PC prog 187 [.ag (ah s::ci 13 .any)] (·=ah s):=by
 refine pB 5 Tryz.func187 ?_;refine(az Su)<|(zV)<|(zE) ?_;exact Cb.of (rs:=[.tmp 2]) rfl rfl zl (Wk.refl rfl) zq
def Fc(l:List ai)(hlen:l.length<=1000000):PC prog 186 [an 14 l ae,.fn 187 [] []] (·=ak (dX (l.map ai.name))):=by
 refine pB 26 Tryz.func186 ?_;refine(oL) ?_
 (repeat refine aE.seq ?_)
 refine aE.block (aE.loop (λm st=>∃k:Nat,1<=k/\m=l.length-k/\(∀(i:Nat) a b,i+1<k->l[i]?=some a->l[i+1]?=some b->fO a.name b.name=true)/\st=⟨[(0,an 14 l ae),(1,.fn 187 [] []),(5,ab k)],26,[],[]⟩) (l.length-1) zH ⟨1,by omega,rfl,λi a b h=>ul h ii,rfl⟩ (by rintro m st ⟨k,_,_,_,rfl⟩;rfl) ?_);rintro m st ⟨k,hk,rfl,hall,rfl⟩;refine(zV) ?_;by_cases hlt:k<l.length;rotate_left
 ·rw[show decide ((k:Int)<(l.length:Int))=false by simp only[wn];omega]
  refine(gE)<|(zV) ?_
  exact zo [.tmp 4] (hq:=by rw[AH λi a b h1 h2=>by
   obtain⟨x,hx,rfl⟩:=qV h1;obtain⟨y,hy,rfl⟩:=qV h2
   exact hall i x y (by have:=bx hy;omega) hx hy])
 rw[show decide ((k:Int)<(l.length:Int))=true by simp only[wp];omega];obtain⟨j,rfl⟩:∃j,k=j+1:=⟨k-1,by omega⟩;obtain⟨x,hx⟩:∃x,l[j]?=some x:=⟨l[j],jp ii⟩;obtain⟨y,hy⟩:∃y,l[j+1]?=some y:=⟨l[j+1],jp hlt⟩
 have hj:j<l.length:=by omega
 refine(gO)<|(zs) ?_;refine oK [0,0,0,4,14,30,63,0,0,0,768,1792,4095,8191] ?_
 (repeat (first | refine SD.r g9 rfl g9 g9 (sP (lB (bS (((j+1:Nat):Int)) 1 ii) (show((j+1:Nat):Int)-1=(j:Int) from by omega) hj (aQ (e:=14) (enc:=ae) (λ_=>rfl) hx) @ae.eq_1)) ?_ | refine SD.s g9 rfl g9 g9 ?_ | fail))
 refine SD.k g9 rfl rfl g9 rfl rfl zc (vm x.name) (.cons (.ag (.cons (.a _) (.cons (.any _) (.cons (.any _) (.cons (.any _) (.cons (.any _) (.cons (.any _) (.cons (.any _) (.cons (.any _) (.cons (.any _) (.cons (.any _) (.cons (.any _) (.cons (.any _) (.cons (.any _) (.cons (.any _) .nil))))))))))))))) .nil) rfl ?_;refine(vD (cL hlt (aQ (e:=14) (enc:=ae) (λ_=>rfl) hy) @ae.eq_1)) ?_;refine SD.k g9 rfl rfl g9 rfl rfl zc (vm y.name) (.cons (.ag (.cons (.a _) (.cons (.any _) (.cons (.any _) (.cons (.any _) (.cons (.any _) (.cons (.any _) (.cons (.any _) (.cons (.any _) (.cons (.any _) (.cons (.any _) (.cons (.any _) (.cons (.any _) (.cons (.any _) (.cons (.any _) .nil))))))))))))))) .nil) rfl ?_;refine(vD @yX)<|(zM) ?_
 cases g:fO x.name y.name
 ·exact(cB)<|zo [.tmp 4] (hq:=by rw[Eo (i:=j) (a:=x.name) (b:=y.name) (by rw[al,hx];rfl) (by rw[al,hy];rfl) g])
 ·refine(zN)<|(zs) ?_;refine aE.r0 g9 (sP (bA (((j+1:Nat):Int)) 1 ii)) ?_;refine⟨l.length-(j+1+1),_,by omega,zH,j+1+1,by omega,rfl,?_,rfl⟩
  intro i a b hi ha hb;by_cases hij:i=j
  ·subst hij;rw[hx] at ha;rw[hy] at hb;cases ha;cases hb;exact g
  ·exact hall i a b ii ha hb
def H3{S:List SO}{o:Nat}{l:List (List Nat×Int)}(s:List Nat)(ok:Bool)(hS:S[o]?=some (bD AV.str ab l)):jv prog S 118 (.map o) (.a (.str s)) ok=some (cond ok (.cq [ab (getM 0 s l),ak (dx s l)]) (ab (getM 0 s l))):=
 Pr (uv:=ab) (u0:=0) (k:=s) (kt:=9) (et:=3) (z:=.int .i64 0) (by simp only[aH]) mE (by simp only[aH]) rfl hS rfl ok
def Kp{S:List SO}{o:Nat}{l:List (List Nat×Int)}(s:List Nat)(u:Int)(hS:S[o]?=some (bD AV.str ab l)):iR prog S 118 (.map o) (.a (.str s)) (.a (.int .i64 u))=some (S.set o (bD AV.str ab (cu s u l))):=
 JD (uv:=ab) (kt:=9) (et:=3) (by simp only[aH]) mE hS rfl u
def xB{S:List SO}{l:List (List Nat×Int)}(s:List Nat)(ok:Bool):jv prog S 118 (mw AV.str ab l) (.a (.str s)) ok=some (cond ok (.cq [ab (getM 0 s l),ak (dx s l)]) (ab (getM 0 s l))):=
 Th (uv:=ab) (u0:=0) (k:=s) (kt:=9) (et:=3) (z:=.int .i64 0) (by simp only[aH]) mE (by simp only[aH]) rfl rfl ok
def mV:Nat->List (List Nat×Int)->List ai->List (List Nat×Int)
 | _,m,[]=>m
 | i,m,p::ps=>mV (i+1) (if dx p.name m=true then m else cu p.name i m) ps
def Dj(ps:List ai):SV:=.ag [an 14 ps ae,mw AV.str ab (mV 0 [] ps)]
def sf(ps:List ai)(hlen:ps.length<=1000000):PC prog 55 [.ag [an 14 ps ae]] (·=Dj ps):=by
 refine pB 37 Tryz.func55 ?_;refine(oL)<|(zV)<|(zs) ?_;refine KG ps (λk (m0:List (List Nat×Int))=>mV 0 [] ps=mV k m0 (ps.drop k)) (λk m0=>[(2,.ptr 1 0),(3,.ptr 3 0),(13,an 14 ps ae),(14,ab ps.length),(15,ab k)]) (λk m0=>[.gone,.cells [.a (.slice none 0 0 (some 0)),.a (.map none)],bD AV.str ab m0,.cells [an 14 ps ae,.map 2]]) ([]) zH g9 ?_;intro k m0 hk hall;refine zT ps k ?_ ?_;rintro rfl;rotate_left;intro x hx hlt;rotate_left
 ·exact(gE)<|(zV)<|zo [.cell 2 120] (r:=.ag [an 14 ps ae,mw AV.str ab m0]) (hw:=Wk.ag (.cons (.sl _ _ _) (.cons (mF (λ_=>rfl) rfl) .nil))) (hq:=by rw[Dj,hall,ca];rfl)
 rw[e9 hx] at hall
 refine(gO)<|(az (gh hlt (aQ (e:=14) (enc:=ae) (λ_=>rfl) hx) @ae.eq_1 @T4))<|(zs) ?_;refine aE.r0 g9 (by simp only[dD,bY,an,aH,m7,m6,↓reduceIte,aa,ad,af,ac,aj,ar,aw,bP,H3 (l:=m0)];first | done | rfl) ?_;refine(zV) ?_
 cases h1:dx x.name m0
 ·refine(zY)<|(zs) ?_;refine aE.r0 g9 (by simp only[dD,bY,an,aH,m7,m6,↓reduceIte,aa,ad,af,ac,aj,ar,aw,bP,Kp (l:=m0)];first | done | rfl) ?_;refine(az (zi hlt hlen)) ?_;refine yL hlt (cu x.name (k:Int) m0) zH (show mV 0 [] ps=mV (k+1) (cu x.name (k:Int) m0) (ps.drop (k+1)) by rw[hall,mV,h1];rfl)
 ·refine(zN)<|(az (zi hlt hlen)) ?_;refine yL hlt (m0) zH (show mV 0 [] ps=mV (k+1) m0 (ps.drop (k+1)) by rw[hall,mV,un h1])
def pZ(ps:List ai)(m:List (List Nat×Int))(name:List Nat):Option ai:=if dx name m=true then ps[(getM 0 name m).toNat]? else none
def TE(ps:List ai)(m:List (List Nat×Int)):Prop:=∀name,dx name m=true->∃k:Nat,getM 0 name m=(k:Int)/\k<ps.length
def nE(ps:List ai)(m:List (List Nat×Int))(name:List Nat)(hm:TE ps m):PC prog 113 [.ag [an 14 ps ae,mw AV.str ab m],ah name] (·=jn ae ai.zero (pZ ps m name)):=by
 refine pB 23 Tryz.func113 ?_;refine(zV)<|(az @xB)<|(zV) ?_
 cases h1:dx name m
 ·exact(cB)<|kE [.cell 4 56,.tmp 5] (r:=.cq [.ag [ah [],ah [],ah [],ah [],ab 0,ab 0,ak false,.sl 0 2 [],ab 0,ab 0,ab 0,ab 0,ab 0,ab 0],ak false]) (hw:=zv) (hq:=by rw[pZ,h1];rfl)
 obtain⟨k,hk,hlt⟩:=hm name h1;obtain⟨x,hx⟩:∃x,ps[k]?=some x:=⟨ps[k],jp hlt⟩
 exact(zN)<|(az (gh hk hlt (aQ (e:=14) (enc:=ae) (λ_=>rfl) hx) @ae.eq_1))<|kE [.cell 4 56,.tmp 5] (hq:=by rw[pZ,un h1,hk,Int.toNat_natCast,hx];rfl)
def Dz:∀{ps l:List ai} {i:Nat} {m:List (List Nat×Int)},i+ps.length=l.length->TE l m->TE l (mV i m ps)
 | [],_,_,_,_,h=>h
 | p::ps,l,i,m,hl,h=>by
  rw[mV];refine Dz (by rw[i7] at hl;omega) ?_;split
  ·exact h
  ·intro name hn;by_cases e:name=p.name
   ·subst e;exact⟨i,by rw[lF,un rfl],by rw[i7] at hl;omega⟩
   ·rw[qW,wd e,dl] at hn;rw[lF,ut e];exact h name hn
def sm(a b:Int):Bool:=decide (0<=a)&&(decide (a<=b)&&decide (b<=1000000000000))
def oa(x:bB):Bool:=cJ x.key&&(!(decide (x.value=[]))&&decide ((x.value.length:Int)<=200))
def A4(a b:Int):PC prog 258 [.ag [ab a,ab b]] (·=ak (sm a b)):=by
 refine pB 18 Tryz.func258 ?_;refine(zV) ?_;cases h1:decide (0<=a)
 ·exact(az h1)<|zo [.tmp 2] (hq:=by rw[sm,h1];rfl)
 cases h2:decide (a<=b)
 ·exact(az (bz h1 h2))<|zo [.tmp 2] (hq:=by rw[sm,h1,h2];rfl)
 ·exact(az (bz h1 h2))<|zo [.tmp 2] (hq:=by rw[sm,h1,h2];rfl)
def NJ(x:bB)(hx:fD x.key):PC prog 259 [.ag (aG x)] (·=ak (oa x)):=by
 refine pB 17 Tryz.func259 ?_;refine(az @aG.eq_1)<|(zC)<|(zK (dZ x.key hx)) ?_
 cases h1:cJ x.key
 ·exact(zR)<|zo [.tmp 2] (hq:=by rw[oa,h1];rfl)
 cases h2:decide (x.value=[]);rotate_left
 ·exact(cH h2)<|zo [.tmp 2] (hq:=by rw[oa,h1,h2];rfl)
 ·exact(cH h2)<|zo [.tmp 2] (hq:=by rw[oa,h1,h2];rfl)
structure fJ (p:ai):Prop where
 name:fD p.name
 kind:fD p.kind
 aJ:fD p.aJ
 slot:fD p.slot
 len:p.props.length<=1000000
 prop:∀x∈p.props,fD x.key/\fD x.value
def di(c:List aK)(p:ai):Bool:=(dH c p.kind).isSome&&(cJ p.name&&(!(decide (p.made<0))&&(!(decide (p.since<p.made))&&(!(decide (40000<p.since))&&(!(decide (60<(p.props.length:Int)))&&(p.props.all oa&&(dX (p.props.map bB.key)&&(sm p.l1 p.l2&&(sm p.l3 p.l4&&sm p.l5 p.l6)))))))))
def Oc{α:Type}{p:α->Bool}{l:List α}{k:Nat}{x:α}(h:l[k]?=some x):(l.drop k).all p=(p x&&(l.drop (k+1)).all p):=by rw[e9 h,List.all_cons]
def Kr(c:List aK)(p:ai)(hc:c.length<=1000000)(hp:fJ p):PC prog 188 [.ag [an 3 c aq],.ag (ae p)] (·=ak (di c p)):=by
 have hlen:=hp.len;refine pB 85 Tryz.func188 ?_
 obtain⟨q,b,h1,hb⟩:∃(q:aK) (b:Bool),jn aq aK.zero (dH c p.kind)=.cq [.ag (aq q),ak b]/\(dH c p.kind).isSome=b:=by
  cases hf:dH c p.kind with
  | none=>exact⟨aK.zero,false,rfl,rfl⟩
  | some q=>exact⟨q,true,rfl,rfl⟩
 have hF:=lf c p.kind hc;rw[h1] at hF
 refine(az @ae.eq_1)<|(oL)<|(zC)<|(zK hF (hfl:=.inr (bm.refl rfl)))<|(cH @aq.eq_1) ?_
 cases b
 ·exact(yi)<|(zV)<|zo [.tmp 4] (hq:=by rw[di,hb];rfl)
 refine(zC)<|(zK (dZ p.name hp.name)) ?_
 cases h2:cJ p.name
 ·exact(zR)<|(cB)<|zo [.tmp 4] (hq:=by rw[di,hb,h2];rfl)
 cases h3:decide (p.made<0);rotate_left
 ·exact(cH h3)<|(cB)<|zo [.tmp 4] (hq:=by rw[di,hb,h2,h3];rfl)
 cases h4:decide (p.since<p.made);rotate_left
 ·exact(cH (bz h3 h4))<|(cB)<|zo [.tmp 4] (hq:=by rw[di,hb,h2,h3,h4];rfl)
 cases h5:decide (40000<p.since);rotate_left
 ·exact(cH (cL h3 h4 h5))<|(cB)<|zo [.tmp 4] (hq:=by rw[di,hb,h2,h3,h4,h5];rfl)
 cases h6:decide (60<(p.props.length:Int));rotate_left
 ·exact(cH (gh h3 h4 h5 h6))<|(cB)<|zo [.tmp 4] (hq:=by rw[di,hb,h2,h3,h4,h5,h6];rfl)
 refine(cH (gh h3 h4 h5 h6))<|(zN) ?_
 have hv:di c p=(p.props.all oa&&(dX (p.props.map bB.key)&&(sm p.l1 p.l2&&(sm p.l3 p.l4&&sm p.l5 p.l6)))):=by rw[di,hb,h2,h3,h4,h5,h6];rfl
 refine(zV)<|(zs) ?_;refine zL p.props (λk=>p.props.all oa=(p.props.drop k).all oa) (λk=>[(3,.ptr 1 0),(5,.fn 258 [] []),(6,.fn 259 [] []),(50,an 2 p.props aG),(51,ab p.props.length),(52,ab k)]) (λk=>[.gone,.cells (ae p)]) (bN @ae.eq_1) g9 ?_;intro k hk hall;refine zT p.props k ?_ ?_;rintro rfl;rotate_left;intro x hx hlt;rotate_left
 ·refine(gE) ?_;rw[ca] at hall
  refine(fC @ae.eq_1)<|(zK (Fe p.props hlen)) ?_
  cases g1:dX (p.props.map bB.key)
  ·exact(zR)<|zo [.tmp 4] (hq:=by rw[hv,hall,g1];rfl)
  refine(zQ)<|(zK (A4 p.l1 p.l2)) ?_
  cases g2:sm p.l1 p.l2
  ·exact(zR)<|zo [.tmp 4] (hq:=by rw[hv,hall,g1,g2];rfl)
  refine(zQ)<|(zK (A4 p.l3 p.l4)) ?_
  cases g3:sm p.l3 p.l4
  ·exact(zR)<|zo [.tmp 4] (hq:=by rw[hv,hall,g1,g2,g3];rfl)
  exact(zQ)<|(zK (A4 p.l5 p.l6))<|(zR)<|zo [.tmp 4] (hq:=by rw[hv,hall,g1,g2,g3];rfl)
 rw[Oc hx] at hall
 refine(gO)<|(az (gh hlt (aQ (e:=2) (enc:=aG) (λ_=>rfl) hx) @aG.eq_1 @ae.eq_1))<|(zC)<|(zK (NJ x (hp.prop x (mem_iff_getElem?.2 ⟨k,hx⟩)).1)) ?_
 cases g1:oa x
 ·exact(zR)<|(cB)<|zo [.tmp 4] (hq:=by rw[hv,hall,g1];rfl)
 ·refine(zR)<|(zN)<|(az (zi hlt hlen)) ?_;refine zX hlt (bN @ae.eq_1) (show p.props.all oa=(p.props.drop (k+1)).all oa by rw[hall,g1];rfl)
structure gg where
 aJ:List Nat
 slot:List Nat
 deriving DecidableEq
def gg.av(s:gg):List AV:=[.str s.aJ,.str s.slot]
def AS(s:gg):AV:=.agg s.av
def gg.eq(a b:gg):gn eK a.av b.av=decide (a=b):=by
 obtain⟨a1,a2⟩:=a;obtain⟨b1,b2⟩:=b;simp only[gg.av,gn,eK,lU,dd,gg.mk.injEq,f7]
def Bg:Keys prog 248 AS:=
 wb (ks:=[.s,.s]) zW (by simp only[aH,m6]) (λ_=>rfl) gg.eq λ_=>rfl
def sN{S:List SO}{o:Nat}{l:List (gg×Bool)}(a b:List Nat)(ok:Bool)(hS:S[o]?=some (bD AS ak l)):jv prog S 245 (.map o) (.ag [ah a,ah b]) ok=some (cond ok (.cq [ak (getM false (⟨a,b⟩:gg) l),ak (dx (⟨a,b⟩:gg) l)]) (ak (getM false (⟨a,b⟩:gg) l))):=
 Pr (uv:=ak) (u0:=false) (k:=(⟨a,b⟩:gg)) (kt:=248) (et:=4) (z:=.bool false) (by simp only[aH]) Bg (by simp only[aH]) rfl hS rfl ok
def Fk{S:List SO}{o:Nat}{l:List (gg×Bool)}(a b:List Nat)(u:Bool)(hS:S[o]?=some (bD AS ak l)):iR prog S 245 (.map o) (.ag [ah a,ah b]) (.a (.bool u))=some (S.set o (bD AS ak (cu (⟨a,b⟩:gg) u l))):=
 JD (uv:=ak) (k:=(⟨a,b⟩:gg)) (kt:=248) (et:=4) (by simp only[aH]) Bg hS rfl u
def pa{n:Nat}{l:List (gg×Bool)}:cI n (bD AS ak l)=bD AS ak l:=mO λ_=>mA _
def Dd(a b:Bool):dj prog .neq 4 (.bool a) (.bool b)=some (.bool (!(a==b))):=by
 have h1:prog.eqGuardType prog.depth 4=false:=by kernel_rfl
 have h2:prog.underlying 4=some .bool:=by kernel_rfl
 have h3:lT prog 8 4 (.bool a) (.bool b)=some (a==b):=by unfold lT;rw[h2]
 show cond (prog.eqGuardType prog.depth 4) none ((lT prog 8 4 (.bool a) (.bool b)).map λb=>AV.bool (!b))=_;rw[h1,aw,h3];rfl
def sB(c:List aK)(taken:List (gg×Bool))(p:ai):Option ai->Bool
 | some h=>!(p.aY||(h.aY||(getM false ⟨p.aJ,p.slot⟩ taken||!l9 c h.kind p.slot p.kind)))
 | none=>false
def ft(c:List aK)(ps:List ai)(m:List (List Nat×Int)):List (gg×Bool)->List ai->Bool
 | _,[]=>true
 | taken,p::r=>di c p&&((decide (p.aJ=[])==decide (p.slot=[]))&&cond (decide (p.aJ=[])) (ft c ps m taken r) (sB c taken p (pZ ps m p.aJ)&&ft c ps m (cu ⟨p.aJ,p.slot⟩ true taken) r))
def cS(c:List aK)(ps:List ai):Bool:=ox c&&(!(decide (20000<(ps.length:Int)))&&(dX (ps.map ai.name)&&ft c ps (mV 0 [] ps) [] ps))
def Fz(ps:List ai):TE ps []:=λname h=>by cases h
def Il(c:List aK)(ps:List ai)(hc:mS c)(hlen:ps.length<=1000000)(hps:∀p∈ps,fJ p):PC prog 107 [.ag [an 3 c aq],.ag [an 14 ps ae]] (·=ak (Proofs.cS c ps)):=by
 have hct:∀k∈c,k.bH.length<=1000000/\∀s∈k.bH,s.kinds.length<=1000000:=λk hk=>⟨(hc.kind k hk).2,λs hs=>(hc.slot k hk s hs).2⟩;have hy:TE ps (mV 0 [] ps):=Dz ii (Fz ps)
 refine pB 94 Tryz.func107 ?_;refine(jM)<|(zK (oi c hc)) ?_
 cases h1:ox c
 ·exact(zR)<|(cB)<|zo [.tmp 4] (hq:=by rw[Proofs.cS,h1];rfl)
 cases h2:decide (20000<(ps.length:Int));rotate_left
 ·exact(cH h2)<|(cB)<|zo [.tmp 4] (hq:=by rw[Proofs.cS,h1,h2];rfl)
 refine(NV h2)<|(zK (Fc ps hlen)) ?_
 cases h3:dX (ps.map ai.name)
 ·exact(zR)<|(cB)<|zo [.tmp 4] (hq:=by rw[Proofs.cS,h1,h2,h3];rfl)
 refine(zR)<|(zN) ?_
 have hv:Proofs.cS c ps=ft c ps (mV 0 [] ps) [] ps:=by rw[Proofs.cS,h1,h2,h3];rfl
 clear h1 h2 h3
 refine(zC)<|(zK (sf ps hlen) (hfl:=.inr (bm.refl rfl))) ?_
 generalize hM:mV 0 [] ps=M at hv hy
 refine(cH (bz @Dj.eq_1 hM))<|(oL)<|(zs) ?_;refine KG ps (λk (taken:List (gg×Bool))=>ft c ps M [] ps=ft c ps M taken (ps.drop k)) (λk taken=>[(2,.ptr 0 0),(5,.ptr 2 0),(6,.map 3),(31,an 14 ps ae),(32,ab ps.length),(33,ab k)]) (λk taken=>[.cells [an 3 c aq],.gone,.cells [an 14 ps ae,mw AV.str ab M],bD AS ak taken]) ([]) zH g9 ?_;intro k taken hk hall;refine zT ps k ?_ ?_;rintro rfl;rotate_left;intro p hx hlt;rotate_left
 ·exact(gE)<|(zV)<|zo [.tmp 4] (hq:=by rw[hv,hall,ca];rfl)
 have no:ft c ps M taken (ps.drop k)=false->Proofs.cS c ps=false:=λh=>by rw[hv,hall,h]
 rw[e9 hx] at no hall;have hp:=hps p (mem_iff_getElem?.2 ⟨k,hx⟩)
 refine(gO)<|(az (gh hlt (aQ (e:=14) (enc:=ae) (λ_=>rfl) hx) @ae.eq_1 @pa))<|(zC)<|(zK (Kr c p hc.len hp)) ?_
 cases g1:di c p
 ·exact(zR)<|(cB)<|zo [.tmp 4] (hq:=by rw[no (by simp[ft,g1])])
 cases g2:(decide (p.aJ=[])==decide (p.slot=[]))
 ·exact(cH (bz @Dd g2))<|(cB)<|zo [.tmp 4] (hq:=by rw[no (by simp only[ft,g1,g2,dv,ch])])
 refine(cH (bz @Dd g2))<|(ly) ?_
 cases g3:decide (p.aJ=[]);rotate_left
 ·refine(zY) ?_;refine aE.exit ?_
  (try change aE _ _ _ _ _)
  refine(az (zi hlt hlen)) ?_;refine yL hlt (taken) zH (show ft c ps M [] ps=ft c ps M taken (ps.drop (k+1)) by rw[hall,ft,g1,g2,g3];rfl)
 refine(zN) ?_
 have hpv:∀r,ft c ps M taken (p::r)=(sB c taken p (pZ ps M p.aJ)&&ft c ps M (cu ⟨p.aJ,p.slot⟩ true taken) r):=by intro r;rw[ft,g1,g2,g3];rfl
 rw[hpv] at no hall;refine(zC) ?_;have hG:=nE ps M p.aJ hy
 cases hg:pZ ps M p.aJ with
 | none=>
  rw[hg] at hG no
  exact(zK hG (hfl:=.inr (bm.refl rfl)))<|(cH (gh @jn.eq_1 @ae.eq_1 @ai.zero.eq_1 @pa))<|(az @pa)<|(yi)<|(zV)<|zo [.tmp 4] (hq:=by rw[no rfl])
 | some h=>
  rw[hg] at hG no hall
  refine(zK hG (hfl:=.inr (bm.refl rfl)))<|(cH (cL @jn.eq_1 @ae.eq_1 @pa))<|(az @pa) ?_
  cases f1:p.aY;rotate_left
  ·exact(yi)<|(zV)<|zo [.tmp 4] (hq:=by rw[no (by simp[sB,f1])])
  cases f2:h.aY;rotate_left
  ·exact(yi)<|(zV)<|zo [.tmp 4] (hq:=by rw[no (by simp[sB,f2])])
  cases f3:getM false (⟨p.aJ,p.slot⟩:gg) taken;rotate_left
  ·refine(zs) ?_;refine aE.r0 g9 (by simp only[dD,bY,an,aH,m7,m6,↓reduceIte,aa,ad,af,ac,aj,ar,aw,bP,sN (l:=taken),f3];first | done | rfl) ?_;exact(cB)<|zo [.tmp 4] (hq:=by rw[no (by simp[sB,f3])])
  refine(zs) ?_;refine aE.Tn g9 (by simp only[dD,bY,an,aH,m7,m6,↓reduceIte,aa,ad,af,ac,aj,ar,aw,bP,sN (l:=taken),f3];first | done | rfl) ?_;refine(zK (xN c h.kind p.slot p.kind hc.len hct)) ?_;cases f4:Proofs.l9 c h.kind p.slot p.kind
  ·exact(zR)<|(cB)<|zo [.tmp 4] (hq:=by rw[no (by simp[sB,f4])])
  refine(zR)<|(zN)<|(zs) ?_;refine aE.r0 g9 (by simp only[dD,bY,an,aH,m7,m6,↓reduceIte,aa,ad,af,ac,aj,ar,aw,bP,Fk (l:=taken)];first | done | rfl) ?_;refine(az (zi hlt hlen)) ?_;refine yL hlt (cu ⟨p.aJ,p.slot⟩ true taken) zH (show ft c ps M [] ps=ft c ps M (cu ⟨p.aJ,p.slot⟩ true taken) (ps.drop (k+1)) by rw[hall,show sB c taken p (some h)=true by simp[sB,f1,f2,f3,f4]];rfl)
def vI(a b:Int):Int:=dE .i64 (a+b)
def rp(a b:Int):Int:=dE .i64 (a-b)
def Eg(a:Int):Int:=dE .i64 (0-a)
def tM{P:Program}{t:TypeId}(a b:Int):dj P .add t (.int .i64 a) (.int .i64 b)=some (.int .i64 (vI a b)):=rfl
def oN{P:Program}{t:TypeId}(a b:Int):dj P .sub t (.int .i64 a) (.int .i64 b)=some (.int .i64 (rp a b)):=rfl
def lJ(a b:Int):SV:=.ag [ab a,ab b]
def lI(a b:Int):Bool:=decide (-1000000000000<=a)&&(decide (a<=b)&&decide (b<=1000000000000))
def pC(a b:Int):PC prog 221 [lJ a b] (·=ak (lI a b)):=by
 refine pB 18 Tryz.func221 ?_;refine(az @lJ.eq_1) ?_;cases h1:decide (-1000000000000<=a)
 ·exact(az h1)<|zo [.tmp 2] (hq:=by rw[lI,h1];rfl)
 cases h2:decide (a<=b)
 ·exact(az (bz h1 h2))<|zo [.tmp 2] (hq:=by rw[lI,h1,h2];rfl)
 exact(az (bz h1 h2))<|zo [.tmp 2] (hq:=by rw[lI,h1,h2];rfl)
def cC(a b:Int):Int:=if a<=b then a else b
def bT(a b:Int):Int:=if b<=a then a else b
def jx(a b:Int):AD false (.int .i64 a) (.int .i64 b)=some (.int .i64 (cC a b)):=Pu
def fF(a b:Int):AD true (.int .i64 a) (.int .i64 b)=some (.int .i64 (bT a b)):=Pt
def nw(n:Int):Int:=bT (-1000000000000) (cC n 1000000000000)
def rB(n:Int):PC prog 268 [ab n] (·=ab (nw n)):=by
 refine pB 6 Tryz.func268 ?_;exact(zV)<|(az (bz @jx @fF))<|zo [.tmp 2]
def fV(a b:Int):Int:=nw (vI a b)
def tl(a b:Int):Int:=nw (rp a b)
def NI(a b:Int):PC prog 202 [ab a,ab b] (·=ab (fV a b)):=by
 refine pB 9 Tryz.func202 ?_;exact(zV)<|(fC @tM)<|(zK (rB _))<|(zR)<|zo [.tmp 4]
def Kh(a b:Int):PC prog 353 [ab a,ab b] (·=ab (tl a b)):=by
 refine pB 9 Tryz.func353 ?_;refine(zV)<|(fC @oN)<|(zK (rB _))<|(zR)<|(zE) ?_;exact Cb.of (rs:=[.tmp 4]) rfl rfl zl (Wk.refl rfl) zq
def Co{f:Int->Int->Int}{r:List Int}{j:Nat}{x y:Int}(h:r[j]?=some x):(r.take (j+1)).foldl f y=f ((r.take j).foldl f y) x:=by
 rw[List.take_add_one,h,Option.toList_some,List.foldl_append];rfl
def Ta{p:Prop} (h:p:=by
  refine pB 25 vae ?_;refine(zV)<|(az (bz @i7.{0} (show decide (((r.length+1:Nat):Int)<1)=false by simp only[wn];omega)))<|(zN)<|(az (gh @i7.{0} @Nat.zero_lt_succ (aQ (l:=a::r) (e:=1) (enc:=aD ab) (λ_=>rfl) (show(a::r)[0]?=some a from rfl)) @aD.eq_1))<|(zV) ?_
  (repeat refine aE.seq ?_)
  refine aE.block (aE.loop (λm st=>∃j:Nat,j<=r.length/\m=r.length-j/\st=⟨[(0,an 1 (a::r) (aD ab)),(3,ab ((r.take j).foldl vaf a)),(4,ab ((j+1:Nat):Int))],25,[],[]⟩) r.length (bN (bz @List.take_zero.{0} @List.foldl_nil.{0,0})) ⟨0,Nat.zero_le _,rfl,rfl⟩ (by rintro m st ⟨j,_,_,rfl⟩;rfl) ?_);rintro m st ⟨j,hj,rfl,rfl⟩;refine(az @i7.{0}) ?_;by_cases hlt:j<r.length;rotate_left
  ·rw[show decide (((j+1:Nat):Int)<((r.length+1:Nat):Int))=false by simp only[wn];omega]
   refine(gE)<|(zV) ?_
   obtain rfl:j=r.length:=by omega
   exact zo [.tmp 2] (hq:=by rw[List.take_length])
  rw[show decide (((j+1:Nat):Int)<((r.length+1:Nat):Int))=true by simp only[wp];omega];obtain⟨x,hx⟩:∃x,r[j]?=some x:=⟨r[j],jp hlt⟩
  refine(gO)<|(az (lB @i7.{0} (show j+1<r.length+1 by omega) (aQ (l:=a::r) (i:=j+1) (e:=1) (enc:=aD ab) (λ_=>rfl) (show(a::r)[j+1]?=some x from hx)) @aD.eq_1 @vag))<|(zs) ?_;refine aE.r0 g9 (sP (bA (((j+1:Nat):Int)) 1 ii)) ?_;exact⟨r.length-(j+1),_,by omega,(Fg.less (by (simp only[dD,bY,fQ,↓reduceIte,Nat.reduceEqDiff,Co hx])<;>(repeat' apply And.intro)<;>first | rfl | trivial) (by (simp only[dD,bY,or_true,true_or,Co hx])<;>(repeat' apply And.intro)<;>first | exact .inr rfl | exact .inl rfl | trivial)),j+1,by omega,rfl,rfl⟩):p:=h
open Go.Proofs.Tryz renaming func309 -> vae in
open Go.Proofs renaming cC -> vaf in
def Kw(a:Int)(r:List Int)(hlen:r.length<1000000):PC prog 309 [an 1 (a::r) (aD ab)] (·=ab (r.foldl cC a)):=by
 have vag:=@jx;exact Ta
open Go.Proofs.Tryz renaming func310 -> vae in
open Go.Proofs renaming bT -> vaf in
def Kv(a:Int)(r:List Int)(hlen:r.length<1000000):PC prog 310 [an 1 (a::r) (aD ab)] (·=ab (r.foldl bT a)):=by
 have vag:=@fF;exact Ta
def xo(a:Int)(r:List Int)(hlen:r.length<1000000):PC prog 267 [an 1 (a::r) (aD ab)] (·=lJ (r.foldl cC a) (r.foldl bT a)):=by
 refine pB 8 Tryz.func267 ?_;exact(jM)<|(zK (Kw a r hlen))<|(zQ)<|(zK (Kv a r hlen))<|(zR)<|zo [.cell 2 52]
def dC(f:Int->Int->Int)(a b c d:Int):Int×Int:=
 if lI a b&&lI c d then (cC (cC (cC (f a c) (f a d)) (f b c)) (f b d),bT (bT (bT (f a c) (f a d)) (f b c)) (f b d)) else (0,0)
def oJ(p:Int×Int):SV:=lJ p.1 p.2
def wM(g:FuncId)(fn:Int->Int->Int)(hg:∀x y,PC prog g [ab x,ab y] (·=ab (fn x y)))(a b c d:Int):PC prog 201 [lJ a b,lJ c d,.fn g [] []] (·=oJ (dC fn a b c d)):=by
 refine pB 46 Tryz.func201 ?_;refine(az @lJ.eq_1)<|(zC)<|(zK (pC a b)) ?_
 cases h1:lI a b
 ·exact(zR)<|(cB)<|zo [.cell 6 52] (hq:=by rw[dC,h1];rfl)
 refine(zQ)<|(zK (pC c d)) ?_
 cases h2:lI c d
 ·exact(zR)<|(cB)<|zo [.cell 6 52] (hq:=by rw[dC,h1,h2];rfl)
 refine(zR)<|(zN)<|(zs) ?_;refine oK [0,1,0,4,0,16,0,64,3,271,831,2047] ?_;exact(zD)<|(zM)<|(zC)<|(zK (hg a c))<|(zQ)<|(zK (hg a d))<|(zQ)<|(zK (hg b c))<|(zQ)<|(zK (hg b d))<|(zQ)<|(zK (xo (fn a c) [fn a d,fn b c,fn b d] (by show 3<1000000;omega)))<|(zR)<|zo [.cell 6 52] (hq:=by rw[dC,h1,h2];rfl)
def qx(a b c d:Int):PC prog 123 [lJ a b,lJ c d] (·=oJ (dC fV a b c d)):=by
 refine pB 8 Tryz.func123 ?_;exact(az @lJ.eq_1)<|(zC)<|(zK (wM 202 fV NI a b c d))<|(cH (bz @oJ.eq_1 @lJ.eq_1))<|zo [.cell 4 52]
def Kb(a b c d:Int):PC prog 349 [lJ a b,lJ c d] (·=oJ (dC tl a b c d)):=by
 refine pB 8 Tryz.func349 ?_;exact(az @lJ.eq_1)<|(zC)<|(zK (wM 353 tl Kh a b c d))<|(cH (bz @oJ.eq_1 @lJ.eq_1))<|zo [.cell 4 52]
def lq(a b c d:Int):Int×Int:=if lI a b&&lI c d then (cC (cC (cC a b) c) d,bT (bT (bT a b) c) d) else (0,0)
def og(a b c d:Int):PC prog 352 [lJ a b,lJ c d] (·=oJ (lq a b c d)):=by
 refine pB 24 Tryz.func352 ?_;refine(az @lJ.eq_1)<|(zC)<|(zK (pC a b)) ?_
 cases h1:lI a b
 ·exact(zR)<|(cB)<|zo [.cell 4 52] (hq:=by rw[lq,h1];rfl)
 refine(zQ)<|(zK (pC c d)) ?_
 cases h2:lI c d
 ·exact(zR)<|(cB)<|zo [.cell 4 52] (hq:=by rw[lq,h1,h2];rfl)
 exact(zR)<|(NU)<|(zK (xo a [b,c,d] (by show 3<1000000;omega)))<|(zR)<|zo [.cell 4 52] (hq:=by rw[lq,h1,h2];rfl)
def gS(a b n:Int):Int:=if (!lI a b)||decide (b<=n) then 0 else if n<a then 2 else 1
def rz(a b n:Int):PC prog 137 [lJ a b,ab n] (·=ab (gS a b n)):=by
 refine pB 20 Tryz.func137 ?_;refine(az @lJ.eq_1)<|(zB)<|(zC)<|(zK (pC a b)) ?_
 cases h1:lI a b
 ·exact(zR)<|(cB)<|zo [.tmp 4] (hq:=by rw[gS,h1];rfl)
 cases h2:decide (b<=n);rotate_left
 ·exact(cH h2)<|(cB)<|zo [.tmp 4] (hq:=by rw[gS,h1,h2];rfl)
 refine(cH h2)<|(zN) ?_
 cases h3:decide (n<a)
 ·exact(az h3)<|(ly)<|zo [.tmp 4] (hq:=by rw[gS,h1,h2,ut (wt h3)];rfl)
 ·exact(az h3)<|(cB)<|zo [.tmp 4] (hq:=by rw[gS,h1,h2,un (ww h3)];rfl)
open Go.Ev Go.RowKit Go.Lib Go.Shelf
def H4(x y:Nat)(hx:x<18446744073709551616)(hy:y<18446744073709551616)(w:World):
 Calls prog 357 #[.int .u64 x,.int .u64 y] w λe w'=>e=.returned (.tuple #[.int .u64 ((x*y/18446744073709551616:Nat):Int),.int .u64 ((x*y%18446744073709551616:Nat):Int)])/\w'=w:=by
 obtain⟨bd,bt,bw,hhi⟩:=Lib.mul64_hi x y hx hy;have ba:=Lib.half_mul_le (a:=x/4294967296) (b:=y/4294967296) ii ii;have bb:=Lib.half_mul_le (a:=x/4294967296) (b:=y%4294967296) ii ii;have bc:=Lib.half_mul_le (a:=x%4294967296) (b:=y/4294967296) ii ii
 have ba':x/4294967296*(y/4294967296)<18446744073709551616:=by omega
 have bb':x/4294967296*(y%4294967296)<18446744073709551616:=by omega
 have bc':x%4294967296*(y/4294967296)<18446744073709551616:=by omega
 have bh1:x/4294967296*(y/4294967296)+(x/4294967296*(y%4294967296)+x%4294967296*(y%4294967296)/4294967296)/4294967296<18446744073709551616:=by omega
 have bh:x/4294967296*(y/4294967296)+(x/4294967296*(y%4294967296)+x%4294967296*(y%4294967296)/4294967296)/4294967296+((x/4294967296*(y%4294967296)+x%4294967296*(y%4294967296)/4294967296)%4294967296+x%4294967296*(y/4294967296))/4294967296<18446744073709551616:=by omega
 go_enter func357,Tryz.ntmps357
 go_wp2
 simp only[Mul64.maskN x hx,Mul64.maskN y hy,Mul64.divN,Mul64.mulN,Mul64.addN,Mul64.wrapN _ bd,Mul64.wrapN _ bb',Mul64.wrapN _ bt,Mul64.maskN _ bt,Mul64.wrapN _ bc',Mul64.wrapN _ bw,Mul64.wrapN _ ba',Mul64.wrapN _ bh1,Mul64.wrapN _ bh,Mul64.wrapM (x*y)];rw[hhi]
 go_ret2
 exact⟨rfl,rfl⟩
def H5(x y:Nat)(hx:x<18446744073709551616)(hy:y<18446744073709551616):PC prog 357 [.a (.int .u64 x),.a (.int .u64 y)]
 (·=.cq [.a (.int .u64 ((x*y/18446744073709551616:Nat):Int)),.a (.int .u64 ((x*y%18446744073709551616:Nat):Int))]):=by
 intro ρ h avs _ hA;rw[dS] at hA;obtain⟨a,r,rfl,hA1,hA2⟩:=hA;rw[dS] at hA2;obtain⟨b,r2,rfl,hB1,hB2⟩:=hA2;rw[e7] at hB2;subst hB2;rw[GS] at hA1 hB1;subst hA1;subst hB1
 have hc:ef prog (.func 357) [.int .u64 x,.int .u64 y] h (λa h'=>a=.cq [.int .u64 ((x*y/18446744073709551616:Nat):Int),.int .u64 ((x*y%18446744073709551616:Nat):Int)]/\h'=h):=by
  intro σ w args' hv hr;obtain⟨v1,v2,rfl,k1,k2⟩:=FP hv;cases k1;cases k2;refine(BB dz func357 g9 hr (a:=.cq [.int .u64 ((x*y/18446744073709551616:Nat):Int),.int .u64 ((x*y%18446744073709551616:Nat):Int)]) (V.Pw (.cons (.int _ _) (.cons (.int _ _) .nil))) ((H4 x y hx hy w).mono ?_)).mono ?_
  ·rintro e w' ⟨rfl,rfl⟩;exact⟨rfl,Below.refl _ _⟩
  ·rintro v w' ⟨a,h',hm,hg⟩;have:=rx hm;cases this;exact⟨_,_,⟨rfl,rfl⟩,hg⟩
 refine hc.mono ?_;rintro v h' ⟨rfl,rfl⟩;refine⟨_,ρ,rfl,.refl _ _,λid ob hi=>.inl hi,?_⟩;rw[GS];exact⟨_,rfl,by rw[dS];exact⟨_,_,rfl,by rw[GS],by rw[dS];exact⟨_,_,rfl,by rw[GS],by rw[e7]⟩⟩⟩
def iK(a:Int):Nat:=(dE .u64 (bT a (Eg a))).toNat
def Fx(n:Int):dE .u64 n=((dE .u64 n).toNat:Int)/\(dE .u64 n).toNat<18446744073709551616:=by
 have h:dE .u64 n=n%18446744073709551616:=by rw[ga];simp[IntKind.wrap,IntKind.bits,IntKind.signed]
 rw[h];omega
def tD(a:Int):Uv .neg (.int .i64 a)=some (.int .i64 (Eg a)):=rfl
def rq(a b:Int):Int:=
 cond ((decide (a<0)) != (decide (b<0)))
  (Eg (if iK a*iK b/18446744073709551616=0/\iK a*iK b%18446744073709551616<=1000000000000 then dE .i64 ((iK a*iK b%18446744073709551616:Nat):Int) else 1000000000000))
  (if iK a*iK b/18446744073709551616=0/\iK a*iK b%18446744073709551616<=1000000000000 then dE .i64 ((iK a*iK b%18446744073709551616:Nat):Int) else 1000000000000)
def EP(n:Int):mZ prog 271 283 (.int .i64 n)=some (.int .u64 (dE .u64 n)):=by
 unfold mZ;rw[show prog.underlying 271=some (.int .i64) by kernel_rfl,show prog.underlying 283=some (.int .u64) by kernel_rfl]
def ES(n:Int):mZ prog 283 271 (.int .u64 n)=some (.int .i64 (dE .i64 n)):=by
 unfold mZ;rw[show prog.underlying 271=some (.int .i64) by kernel_rfl,show prog.underlying 283=some (.int .u64) by kernel_rfl]
def Wf{P:Program}{t:TypeId}(a b:Int):dj P .eql t (.int .u64 a) (.int .u64 b)=some (.bool (decide (a=b))):=DA rfl
def Uu{P:Program}{t:TypeId}(a b:Int):dj P .leq t (.int .u64 a) (.int .u64 b)=some (.bool (decide (a<=b))):=DB rfl
def Ky(a b:Int):PC prog 354 [ab a,ab b] (·=ab (rq a b)):=by
 refine pB 38 Tryz.func354 ?_;have hm:=H5 (iK a) (iK b) (Fx _).2 (Fx _).2;rw[show((iK a:Nat):Int)=dE .u64 (bT a (Eg a)) from(Fx _).1.symm,show((iK b:Nat):Int)=dE .u64 (bT b (Eg b)) from(Fx _).1.symm] at hm;have ht:rq a b=cond ((decide (a<0)) != (decide (b<0))) (Eg (if iK a*iK b/18446744073709551616=0/\iK a*iK b%18446744073709551616<=1000000000000 then dE .i64 ((iK a*iK b%18446744073709551616:Nat):Int) else 1000000000000)) (if iK a*iK b/18446744073709551616=0/\iK a*iK b%18446744073709551616<=1000000000000 then dE .i64 ((iK a*iK b%18446744073709551616:Nat):Int) else 1000000000000):=rfl;generalize iK a*iK b/18446744073709551616=hi at hm ht;generalize iK a*iK b%18446744073709551616=lo at hm ht
 refine(zV)<|(fC (cL @tD @fF @EP))<|(zK hm)<|(zR)<|(zV) ?_
 by_cases h1:hi=0/\lo<=1000000000000
 ·rw[un h1] at ht
  refine(az (gh @Wf @Uu (show decide ((hi:Int)=0)=true by simp;omega) (show decide ((lo:Int)<=1000000000000)=true by simp;omega)))<|(zY)<|(az @ES) ?_
  cases g1:decide (a<0)<;>cases g2:decide (b<0)
  ·rw[g1,g2] at ht
   exact(az (bz g1 g2))<|(ly)<|zo [.tmp 4] (hq:=by rw[ht];rfl)
  ·rw[g1,g2] at ht
   exact(az (bz g1 g2))<|(zY)<|(az @tD)<|zo [.tmp 4] (hq:=by rw[ht];rfl)
  ·rw[g1,g2] at ht
   exact(az (bz g1 g2))<|(zY)<|(az @tD)<|zo [.tmp 4] (hq:=by rw[ht];rfl)
  ·rw[g1,g2] at ht
   exact(az (bz g1 g2))<|(ly)<|zo [.tmp 4] (hq:=by rw[ht];rfl)
 ·rw[ut h1] at ht;by_cases h2:hi=0
  ·refine(az (gh @Wf @Uu (show decide ((hi:Int)=0)=true by simp;omega) (show decide ((lo:Int)<=1000000000000)=false by simp;omega)))<|(zN) ?_
   cases g1:decide (a<0)<;>cases g2:decide (b<0)
   ·rw[g1,g2] at ht
    exact(az (bz g1 g2))<|(ly)<|zo [.tmp 4] (hq:=by rw[ht];rfl)
   ·rw[g1,g2] at ht
    exact(az (bz g1 g2))<|(zY)<|(az @tD)<|zo [.tmp 4] (hq:=by rw[ht];rfl)
   ·rw[g1,g2] at ht
    exact(az (bz g1 g2))<|(zY)<|(az @tD)<|zo [.tmp 4] (hq:=by rw[ht];rfl)
   ·rw[g1,g2] at ht
    exact(az (bz g1 g2))<|(ly)<|zo [.tmp 4] (hq:=by rw[ht];rfl)
  ·refine(az (cL @Wf @Uu (show decide ((hi:Int)=0)=false by simp;omega)))<|(zN) ?_
   cases g1:decide (a<0)<;>cases g2:decide (b<0)
   ·rw[g1,g2] at ht
    exact(az (bz g1 g2))<|(ly)<|zo [.tmp 4] (hq:=by rw[ht];rfl)
   ·rw[g1,g2] at ht
    exact(az (bz g1 g2))<|(zY)<|(az @tD)<|zo [.tmp 4] (hq:=by rw[ht];rfl)
   ·rw[g1,g2] at ht
    exact(az (bz g1 g2))<|(zY)<|(az @tD)<|zo [.tmp 4] (hq:=by rw[ht];rfl)
   ·rw[g1,g2] at ht
    exact(az (bz g1 g2))<|(ly)<|zo [.tmp 4] (hq:=by rw[ht];rfl)
def Ka(a b c d:Int):PC prog 350 [lJ a b,lJ c d] (·=oJ (dC rq a b c d)):=by
 refine pB 8 Tryz.func350 ?_;exact(az @lJ.eq_1)<|(zC)<|(zK (wM 354 rq Ky a b c d))<|(cH (bz @oJ.eq_1 @lJ.eq_1))<|zo [.cell 4 52]
def Px(a b:Int):Int:=dE .i64 (a*b)
def Ew(a b:Int):Int:=dE .i64 (a.tdiv b)
def qL{P:Program}{t:TypeId}(a b:Int):dj P .mul t (.int .i64 a) (.int .i64 b)=some (.int .i64 (Px a b)):=rfl
def Oo{P:Program}{t:TypeId}{a b:Int}(h:¬b=0):dj P .quo t (.int .i64 a) (.int .i64 b)=some (.int .i64 (Ew a b)):=by
 have:T3 b=false:=by
  cases b with
  | ofNat n=>
   cases n with
   | zero=>exact ul rfl h
   | succ n=>rfl
  | negSucc n=>rfl
 unfold dj;simp only[this];rfl
def iu(a b:Int):Int:=if b=0 then 0 else if (!(decide (Px (Ew a b) b=a)))&&((decide (a<0)) != (decide (b<0))) then rp (Ew a b) 1 else Ew a b
def iH(a b:Int):PC prog 356 [ab a,ab b] (·=ab (iu a b)):=by
 refine pB 26 Tryz.func356 ?_;refine(zV) ?_;cases h0:decide (b=0);rotate_left
 ·exact(az h0)<|(cB)<|zo [.tmp 4] (hq:=by rw[iu,un (ww h0)])
 have h0':=wt h0
 refine(az h0)<|(zN)<|(zs) ?_;refine aE.r0 g9 (by simp only[dD,bY,an,aH,m7,m6,↓reduceIte,aa,ad,af,ac,aj,ar,aw,bP,Oo h0'];first | done | rfl) ?_
 have hf:iu a b=if (!(decide (Px (Ew a b) b=a)))&&((decide (a<0)) != (decide (b<0))) then rp (Ew a b) 1 else Ew a b:=by rw[iu,ut h0']
 cases h1:decide (Px (Ew a b) b=a);rotate_left
 ·rw[h1] at hf;refine(zs) ?_;refine aE.r0 g9 (sP (bz @qL h1)) ?_;refine(zs) ?_;refine aE.no rfl ?_;(try (refine aE.skip ?_;try change aE _ _ _ _ _));refine(zs) ?_;refine aE.r0 g9 zl ?_;refine(zE) ?_;exact Cb.of (rs:=[.tmp 4]) rfl rfl zl (Wk.refl rfl) (by (try simp only[eI,bG]);first | done | (rw[hf];rfl))
 cases g1:decide (a<0)<;>cases g2:decide (b<0)<;>rw[h1,g1,g2] at hf
 ·refine(zs) ?_;refine aE.r0 g9 (sP (gh @qL h1 g1 g2)) ?_;exact(ly)<|zo [.tmp 4] (hq:=by rw[hf];rfl)
 ·exact(az (gh @qL h1 g1 g2))<|(zY)<|(az @oN)<|(zV)<|zo [.tmp 4] (hq:=by rw[hf];rfl)
 ·exact(az (gh @qL h1 g1 g2))<|(zY)<|(az @oN)<|(zV)<|zo [.tmp 4] (hq:=by rw[hf];rfl)
 ·exact(az (gh @qL h1 g1 g2))<|(ly)<|zo [.tmp 4] (hq:=by rw[hf];rfl)
abbrev bF:SV:=.a (.slice none 0 0 (some 0))
def Vu{n k:Nat}{c:Option Nat}{q:IntKind}(h:k<=n):cO n c none (some (.int q (k:Int))) none=some (0,k,c):=by
 unfold cO oU qD;simp only[ph,m7,fj h,eu,ar]
def Mi{n k:Nat}{c:Option Nat}{q:IntKind}(h:k<=n):cO n c (some (.int q (k:Int))) none none=some (k,n,c):=by
 unfold cO oU;simp only[ph,m7,fj h,ar]
def PO(l:List (List Nat)):(l.flatMap (aD ah)).all fq=true:=by
 induction l with
 | nil=>rfl
 | cons a l ih=>rw[fm,List.all_append,ih];rfl
def D5(l:List (List Nat)):(l.flatMap (aD ah)).length=l.length:=by
 induction l with
 | nil=>rfl
 | cons a l ih=>rw[fm,li,ih,i7];show 1+_=_;omega
open Go.Ev Go.RowKit
def qI(k:List Nat):List AV:=[.str k]
def AR(ks:List (List Nat)):∀r∈ks.map qI,r.length=1:=by intro r hr;obtain⟨t,_,rfl⟩:=List.mem_map.1 hr;rfl
def gN(day fr:Int):Int:=if day<=fr then 0 else day-(if day-1000000000000<=fr then fr else day-1000000000000)
def rK(ks:List (List Nat)):Prop:=ks.Pairwise λa b=>fO b a=false
open Go.Shelf
def yg:Go.Shelf.Ren:=⟨λ| 6=>56 | 8=>127 | 9=>126 | 19=>212 | 20=>213 | 21=>203 | 22=>204 | 23=>205 | 24=>206 | 25=>207 | 26=>208 | 27=>209 | 28=>210 | 29=>211 | 36=>269 | 31=>270 | 32=>271 | 37=>272 | 38=>273 | 39=>159 | 41=>311 | n=>n,λ| 27=>66 | 29=>9 | 3=>3 | 32=>210 | 26=>66 | 0=>0 | 44=>281 | 46=>283 | 4=>4 | 36=>274 | 35=>273 | 41=>122 | 5=>5 | 9=>9 | 53=>318 | 57=>322 | 63=>344 | 64=>345 | n=>n,λ| n=>n⟩
def xL:Go.Proofs.SlLaysM.n6 prog yg:={
 mixed:=by kernel_rfl
 f6:=⟨Tryz.f56.name,by decide,func56.trans (rc some zW)⟩
 f8:=Tryz.func127.trans (rc some zW)
 f9:=⟨Tryz.f126.name,by decide,Tryz.func126.trans (rc some zW)⟩
 f19:=Tryz.func212.trans (rc some zW)
 f20:=Tryz.func213.trans (rc some zW)
 f21:=⟨Tryz.f203.name,by decide,Tryz.func203.trans (rc some zW)⟩
 f22:=⟨Tryz.f204.name,by decide,Tryz.func204.trans (rc some zW)⟩
 f23:=⟨Tryz.f205.name,by decide,Tryz.func205.trans (rc some zW)⟩
 f24:=⟨Tryz.f206.name,by decide,Tryz.func206.trans (rc some zW)⟩
 f25:=⟨Tryz.f207.name,by decide,Tryz.func207.trans (rc some zW)⟩
 f26:=⟨Tryz.f208.name,by decide,Tryz.func208.trans (rc some zW)⟩
 f27:=⟨Tryz.f209.name,by decide,Tryz.func209.trans (rc some zW)⟩
 f28:=⟨Tryz.f210.name,by decide,Tryz.func210.trans (rc some zW)⟩
 f29:=⟨Tryz.f211.name,by decide,Tryz.func211.trans (rc some zW)⟩
 f31:=Tryz.func270.trans (rc some zW)
 f32:=Tryz.func271.trans (rc some zW)
 f36:=⟨Tryz.f269.name,by decide,Tryz.func269.trans (rc some zW)⟩
 f37:=⟨Tryz.f272.name,by decide,Tryz.func272.trans (rc some zW)⟩
 f38:=⟨Tryz.f273.name,by decide,Tryz.func273.trans (rc some zW)⟩
 f39:=⟨Tryz.f159.name,by decide,Tryz.func159.trans (rc some zW)⟩
 f41:=⟨Tryz.f311.name,by decide,Tryz.func311.trans (rc some zW)⟩
 t0:=Tryz.underlying0
 a0:=Tryz.isAgg0
 z0:=Tryz.sizeOf0
 v0:=Tryz.zeroValue0
 t3:=Tryz.underlying3
 a3:=Tryz.isAgg3
 z3:=Tryz.sizeOf3
 v3:=Tryz.zeroValue3
 t4:=Tryz.underlying4
 a4:=Tryz.isAgg4
 z4:=Tryz.sizeOf4
 v4:=Tryz.zeroValue4
 t5:=Tryz.underlying5
 a5:=Tryz.isAgg5
 z5:=Tryz.sizeOf5
 v5:=Tryz.zeroValue5
 t9:=fw
 a9:=isAgg9
 z9:=sizeOf9
 v9:=gv
 t26:=fv
 a26:=isAgg66
 z26:=g7
 v26:=f5
 t27:=fv
 a27:=isAgg66
 z27:=g7
 v27:=f5
 t29:=fw
 a29:=isAgg9
 z29:=sizeOf9
 v29:=gv
 t32:=Tryz.underlying210
 a32:=Tryz.isAgg210
 z32:=Tryz.sizeOf210
 v32:=Tryz.zeroValue210
 t35:=Tryz.underlying273
 a35:=Tryz.isAgg273
 z35:=Tryz.sizeOf273
 v35:=Tryz.zeroValue273
 t36:=Tryz.underlying274
 a36:=Tryz.isAgg274
 z36:=Tryz.sizeOf274
 v36:=Tryz.zeroValue274
 t41:=Tryz.underlying122
 a41:=Tryz.isAgg122
 z41:=Tryz.sizeOf122
 v41:=Tryz.zeroValue122
 t44:=Tryz.underlying281
 a44:=Tryz.isAgg281
 z44:=Tryz.sizeOf281
 v44:=Tryz.zeroValue281
 t46:=Tryz.underlying283
 a46:=Tryz.isAgg283
 z46:=Tryz.sizeOf283
 v46:=Tryz.zeroValue283
 t53:=Tryz.underlying318
 a53:=Tryz.isAgg318
 z53:=Tryz.sizeOf318
 v53:=Tryz.zeroValue318
 t57:=Tryz.underlying322
 a57:=Tryz.isAgg322
 z57:=Tryz.sizeOf322
 v57:=Tryz.zeroValue322
 t63:=Tryz.underlying344
 a63:=Tryz.isAgg344
 z63:=Tryz.sizeOf344
 v63:=Tryz.zeroValue344
 t64:=Tryz.underlying345
 a64:=Tryz.isAgg345
 z64:=Tryz.sizeOf345
 v64:=Tryz.zeroValue345 }
open Go.Ev Go.RowKit Go.Shelf Go.Lib Go.Sort
def D4(x y:List UInt8):decide (x<=y)=!fO (y.map (·.toNat)) (x.map (·.toNat)):=by
 rw[pc,bytesLess_eq];by_cases h:y<x
 ·have:¬x<=y:=λh2=>h2 h;simp[h,this]
 ·have:x<=y:=h;simp[h,this]
def Xd:Option Value->ByteArray
 | some (.string s)=>s
 | _=>ByteArray.empty
def IG(ss:List (List UInt8)):List (List Nat):=ss.map λs=>s.map (·.toNat)
def xJ(ks:List (List Nat))(v:AV)(Z:Nat)(h:Ev.H)(hout:N1 Z h v 1 (ks.map qI))(hlen:ks.length<=1000000):
 ef prog (.func 56) [v] h (λr h'=>r=.cq []/\∃ks':List (List Nat),ks'.Perm ks/\rK ks'/\N1 Z h' v 1 (ks'.map qI)/\Over Z h h'/\∀id n e c,v=.slice (some (id,0)) n e c->h.store id 0 (ks'.map qI).flatten=some h'):=by
 intro σ w args' hv hr;obtain⟨x,rfl,hx⟩:=UN hv;rw[ei dz func56 g9]
 rcases hout.2 with⟨e,e2⟩ | ⟨id,bQ,fx,fy,hne,e2,ho,hfx,hxy,z1,z2,z3,z4,l1,l2,l3,l4⟩
 ·subst e2
  have hts:ks=[]:=by simpa using e
  subst hts
  cases hx with
  | iF hl=>
   refine Calls.mono (AnyM.slices_Sort_string_none xL none 0 w) λe w' ⟨he,hw⟩=>?_;subst hw;exact⟨_,he,.cq [],h,⟨rfl,[],.refl _,List.Pairwise.nil,hout,Over.refl _ _,λ_ _ _ _ he=>by cases he⟩,σ,V.mg,hr,.refl _ _ _⟩
 ·subst e2
  have hpos:0<ks.length:=by
   cases ks with
   | nil=>exact ul rfl hne
   | cons=>exact Nat.succ_pos _
  rw[ay] at hx
  cases hx with
  | @slice _ _ _ _ _ a p c hs hl hrr hcc ha=>
  have ha:a=⟨p.b,p.d+0,none⟩:=ha.resolve_right ii;subst ha;obtain⟨q,carr,et,hq,hb,hsz,hlen',hVc⟩:=hr.cells ho;rw[hs] at hq;cases hq
  have hfl:(ks.map qI).flatten.length=ks.length*1:=by
   have:=jU (s:=1) hout.1;rw[ay] at this;exact this
  have hpl:=hr.lt ho hs
  let d:List (List UInt8):=(cp ks.length).map λi=>(Xd carr[p.d+i]?).data.toList
  have hdl0:d.length=ks.length:=by simp[d]
  have hspec:∀i,i<ks.length->∃s:ByteArray,carr[p.d+i]?=some (.string s)/\ks[i]?=some (s.data.toList.map (·.toNat))/\d[i]?=some s.data.toList:=λi hi=>by
   have hki:ks[i]?=some ks[i]:=jp hi
   have hg:(ks.map qI)[i]?=some (qI ks[i]):=by rw[al,hki];rfl
   have h0:=pX hout.1 hg (k:=0) ii;obtain⟨v0,g0,V0⟩:=hVc _ _ (h0.trans (show(qI ks[i])[0]?=some (.str ks[i]) from rfl));rw[ce,el] at g0;generalize hkk:ks[i]=kk at V0
   cases V0 with
   | @str _ s0 e0=>
    refine⟨s0,g0,by rw[hki,hkk,e0],?_⟩;show((cp ks.length).map _)[i]?=_;rw[al,dc hi,m6,g0];rfl
  have hH:Holds encStr w p.b (p.d+0) d.toArray:=by
   intro j hj
   have hj':j<ks.length:=by simpa [hdl0] using hj
   obtain⟨s,g1,g2,g3⟩:=hspec j hj';refine⟨?_,vW hb⟩;rw[cell_of hb,el,g1];rw[getElem!_pos d.toArray j hj]
   have:d.toArray[j]=s.data.toList:=by
    have h1:=jp (l:=d) (i:=j) ii;rw[g3] at h1;simpa using(Option.some.inj h1).symm
   rw[this]
  have hmain:=AnyM.slices_Sort_string xL p.b (p.d+0) c d w hH hpl (by rw[hdl0];omega);rw[hdl0] at hmain;change Calls prog 56 _ _ _ at hmain;refine Calls.mono hmain ?_;rintro e w' ⟨rfl,n,os,rfl⟩;obtain⟨d',hd'⟩:∃d',d'=d.mergeSort λx y=>decide (x<=y):=⟨_,rfl⟩;rw[<-hd']
  have hp3:d'.Perm d:=by rw[hd'];exact List.mergeSort_perm _ _
  have hp1:d'.length=ks.length:=by rw[hp3.length_eq,hdl0]
  have hsorted:d'.Pairwise λx y=>decide (x<=y)=true:=by
   rw[hd'];refine List.pairwise_mergeSort ?_ ?_ d
   ·intro a b c h1 h2;rw[D4] at *;simp only[fd] at *;cases h:fO (c.map (·.toNat)) (a.map (·.toNat))
    ·rfl
    ·rcases j8 (a.map (·.toNat)) (b.map (·.toNat)) with g | g | g
     ·have:=fP h g;rw[h2] at this;cases this
     ·rw[g,h2] at h;cases h
     ·rw[h1] at g;cases g
   ·intro a b;rw[D4,D4]
    rcases j8 (a.map (·.toNat)) (b.map (·.toNat)) with g | g | g
    ·rw[rY g];rfl
    ·rw[g,dq];rfl
    ·rw[rY g];simp
  have hdl:IG d=ks:=by
   apply fl;intro i;unfold IG;by_cases hi:i<ks.length
   ·obtain⟨s,g1,g2,g3⟩:=hspec i hi;rw[al,g3,g2];rfl
   ·rw[d9 (by simp[hdl0];omega),d9 ii]
  have hperm:(IG d').Perm ks:=by rw[<-hdl];exact hp3.map _
  have hsx:rK (IG d'):=by
   unfold rK IG;rw[List.pairwise_map];refine hsorted.imp ?_;intro a b h1;rw[D4] at h1;simpa using h1
  have hlen2:(IG d').length=ks.length:=by unfold IG;rw[ay,hp1]
  have hw3:=AR (IG d')
  have hb1:(putRow encStr (Sort.ahead w n) p.b (p.d+0) d'.toArray).heap[p.b]?=some (.cells (putCells encStr (p.d+0) d'.toArray carr) et (0,0)):=by
   unfold putRow mapBlock;simp only[em,if_true];rw[show(Sort.ahead w n).heap[p.b]?=some (.cells carr et (0,0)) from hb];rfl
  have hoth:∀b,b≠p.b->(putRow encStr (Sort.ahead w n) p.b (p.d+0) d'.toArray).heap[b]?=w.heap[b]?:=λb hbb=>by
   unfold putRow mapBlock;simp only[em];rw[ut (λe=>hbb e.symm)];rfl
  have hVn:∀(i:Nat) (a:AV),((IG d').map qI).flatten[i]?=some a->∃v,(putCells encStr (p.d+0) d'.toArray carr)[p.d+i]?=some v/\V σ a v:=by
   intro i a hia
   have hil:i<ks.length:=by
    have:=Pg hia;rw[jU hw3,ay,hlen2] at this;omega
   have hj:i<d'.length:=by omega
   have hrow:((IG d').map qI)[i]?=some (qI (d'[i].map (·.toNat))):=by
    unfold IG;rw[al,al,jp hj];rfl
   have hat:=pX hw3 hrow (k:=0) ii;rw[ce,el,hia] at hat
   have hcl:p.d+i<carr.size:=by omega
   have hput:(putCells encStr (p.d+0) d'.toArray carr)[p.d+i]?=some (encStr d'[i]):=by
    unfold putCells;rw[Array.getElem?_mapIdx,Array.getElem?_eq_getElem hcl,m6,un ⟨by omega,by simp;omega⟩];rw[show p.d+i-(p.d+0)=i by omega,getElem!_pos d'.toArray i (by simpa using hj)];simp
   refine⟨_,hput,?_⟩;cases hat;exact .str rfl
  obtain⟨r1,r2⟩:=hr.rewrite ho hs (cs':=((IG d').map qI).flatten) (by rw[jU hw3,ay,hlen2,hfl]) hb hb1 (by unfold putCells;rw[Array.size_mapIdx]) hVn hoth (by unfold putRow mapBlock;simp[Sort.ahead]) rfl rfl rfl
  have hbel:Below (putRow encStr (Sort.ahead w n) p.b (p.d+0) d'.toArray).heap.size (putRow encStr (Sort.ahead w n) p.b (p.d+0) d'.toArray) (grow (putRow encStr (Sort.ahead w n) p.b (p.d+0) d'.toArray) os):=
   ⟨rfl,rfl,rfl,by rw[size_grow];omega,λk hk=>by unfold grow;simp only;rw[Array.getElem?_append_left hk]⟩
  have hkeep:=sU r1 hbel;obtain⟨ao1,ao2⟩:=sS (id:=id) hfx z2 z3 z4
  have hne':(IG d').map qI≠[]:=by
   intro e;have:=rc List.length e;rw[ay,hlen2] at this;simp at this;rw[this] at hpos;simp at hpos
  refine⟨_,rfl,.cq [],_,⟨rfl,IG d',hperm,hsx,⟨hw3,.inr ⟨id,bQ,id,id,hne',?_,?_,?_,.inl rfl,z1,z1,z1,z4,?_,?_,?_,?_⟩⟩,?_,?_⟩,σ,V.mg,hkeep.1,r2.trans hkeep.2⟩
  ·rw[ay,ay,hlen2]
  ·exact c7 _ _ _
  ·exact Cc hfx
  ·show id<(h.alone id bQ).next;rw[ao2];exact l1
  ·show id<(h.alone id bQ).next;rw[ao2];exact l1
  ·show id<(h.alone id bQ).next;rw[ao2];exact l1
  ·show bQ<(h.alone id bQ).next;rw[ao2];exact l4
  ·refine ao1.trans ⟨ap _,λj hj=>bq _ _ ii,λ_ _=>rfl,λhl=>wq ii⟩
  ·intro id2 n2 e2 c2 he;cases he
   have hfl2:((IG d').map qI).flatten.length=(ks.map qI).flatten.length:=by rw[jU hw3,ay,hlen2,hfl]
   have hone:((IG d').map qI).flatten.all kq=true:=by
    rw[all_eq_true];intro x hx;rw[List.mem_flatten] at hx;obtain⟨r,hr1,hr2⟩:=hx;obtain⟨k,_,rfl⟩:=mem_map.1 hr1;rw[rx hr2];rfl
   unfold H.store;rw[ho];simp only;rw[hfl2,cM,fj (ap _),hone,Bool.and_self,ar,take_zero,List.nil_append,cn (ap _),append_nil]
end Go.Proofs
