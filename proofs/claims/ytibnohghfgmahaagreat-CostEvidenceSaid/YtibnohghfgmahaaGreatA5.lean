/- Lemmas of this claim, each with its conditions. -/
import Derived.Test.YtibnohghfgmahaaGreatA4
import Derived.Test.YtibnohghfgmahaaGreatA3
import Derived.Test.YtibnohghfgmahaaGreatA2
import Derived.Test.YtibnohghfgmahaaGreatProg
import Derived.KernelRfl
import Derived.MapKept
import Derived.Shelf.Bits.Mul64
set_option linter.all false
set_option maxHeartbeats 8000000
open Go.Proofs.Tryz (prog func242)
open Nat (ble beq blt)
open List (mem_iff_getElem? length_cons all_eq_true mem_cons mem_singleton length_nil)
open Nat renaming reduceEqDiff -> ac, reduceLeDiff -> ad, reduceAdd -> af, reduceMul -> aj, reduceLT -> ap, le_of_ble_eq_true -> aD, le_refl -> a0, le_of_lt -> bi, lt_succ_self -> bs, not_lt_zero -> ca, exists_eq_succ_of_ne_zero -> cd, reduceSub -> ce, lt_trichotomy -> cf, eq_of_beq_eq_true -> cp, zero_le -> ct, le_of_not_lt -> cv, mul_one -> dd, zero_add -> d4, le_total -> ey, zero_lt_succ -> eB, lt_trans -> fs
open Option renaming bind_some -> al, map_some -> ax
open List renaming getElem?_eq_getElem -> ay, getElem?_map -> be, mem_of_find?_eq_some -> bk, drop_length -> bW, mem_cons_of_mem -> cc, set_eq_take_append_cons_drop -> ch, replicate -> cn, mem_cons_self -> co, mem_of_getElem? -> dc, drop_eq_getElem_cons -> d2, range -> d3, find?_eq_none -> d6, getElem?_cons_succ -> d8, drop_of_length_le -> eb, take_of_length_le -> eg, length_set -> ej, mem_append -> el, getElem?_range -> em, getElem?_take -> er, find?_some -> fl, length_map -> fm, all_cons -> fo
open Bool renaming and_eq_true -> aX, false_and -> ci, and_true -> dl, false_or -> dt, not_true -> dv, true_and -> dD, and_false -> d7, or_true -> d9, or_eq_true -> ei, true_or -> eF, decide_and -> fd
open And renaming intro -> bv
open Array renaming toList_append -> d5
namespace Go.Ev
noncomputable section
section
variable {P:Program} {ro:Option Nat}
def PC.body(hng:kV P){g:FuncId}{fn:Func}{c:Code}{args:List SV}{Q:SV->Prop}(hf:P.funcs[g]?=some fn)(hb:fn.body=some c){n:Nat}(hn:args.length+(fn.ntmps-args.length)=n)
 (hw:ak P none c ⟨fa 0 args,n,[],[]⟩ (kr P fn Q)) (hlim:n<=1000000:=by exact Nat.le_of_ble_eq_true rfl):PC P g args Q:=
 .kh hng hf hb hn hlim (hw.mono λe st ⟨h1,h2,h3⟩=>⟨h1,by rw[h2];exact h3⟩)
def SC.body(hng:kV P){g:FuncId}{fn:Func}{c:Code}{args:List SV}{S0:List SO}{mv:List Nat}{Q:SV->List SO->Prop}(hf:P.funcs[g]?=some fn)(hb:fn.body=some c){n:Nat}(hn:args.length+(fn.ntmps-args.length)=n)(hlim:n<=1000000){W:Fm}(hW:W=ij S0.length)
 (hw:ak P none c ⟨fa 0 args++W,n,S0,[]⟩ (Bi P fn S0.length mv Q)) (hK:S0.length<=1000000:=by exact Nat.le_of_ble_eq_true rfl):SC P g args S0 mv Q:=
 .kh hng hf hb hn hlim hW hK (hw.mono λe st ⟨h1,h2,h3⟩=>⟨h1,by rw[h2];exact h3⟩)
def xG{ol:List Oper}{L:Nat->Prop}(hb:fX 0 ol=true)(hc:gg ol L){j:Nat}:∀(i:Nat) (o:Oper),ol[i]?=some o->(∀e∈o.after.toList,dep e=true->L e.on)->aY ((iD ol []).getD i 0) j=true->L j:=by
 intro i
 induction i using Nat.strongRecOn with
 | _ i ih=>
  intro o ho hd hj;have hlt:=λe he hde=>iO hb ho e he hde;simp only[d4] at hlt;obtain⟨e,he,hde,h | h⟩:=xH ho hlt hj
  ·exact h▸hd e he hde
  ·have hl:=hlt e he hde;obtain⟨o',ho'⟩:∃o',ol[e.on]?=some o':=⟨_,ay (fs hl (aE ho))⟩;exact ih e.on hl o' ho' (hc _ _ ho' (hd e he hde)) h
def zF{α β γ:Type}(a:Option α)(g:α->Option β)(k:β->γ):(a.bind λx=>(g x).map k)=(a.bind g).map k:=by cases a<;>rfl
def Ds{f:Fm}{S S2:List SO}{op:Op}{v:SV}(hr:fp op=true)(hh:xC op=false)(h:sOp P f S op=some (v,S,none)):sOp P f S2 op=some (v,S2,none):=by
 have go:∀{α:Type} (q:Option α) (w:α->SV),q.map (λv=>(w v,S,(none:Option Nat)))=some (v,S,none)->q.map (λv=>(w v,S2,(none:Option Nat)))=some (v,S2,none):=by
  rintro _ (_ | q) w h
  ·cases h
  ·cases h;rfl
 cases op<;>first | (simp[fp] at hr;done) | (simp[xC] at hh;done) | (simp only[sOp,zF] at h ⊢;exact go _ _ h) | skip
 case makeFunc g first _=>
  cases g<;>first | (simp[fp] at hr;done) | skip
  all_goals
   simp only[sOp] at h ⊢
   cases ha:gF f first.toList with
   | none=>rw[ha] at h;cases h
   | some a=>
    rw[ha] at h;simp only[al] at h ⊢
    first
    | exact go _ _ h
    | cases hb:fc a with
     | none=>rw[hb] at h;cases h
     | some b=>
      rw[hb] at h;simp only[al,zF] at h ⊢;exact go _ _ h
 case extract x _=>
  simp only[sOp] at h ⊢
  cases hx:cT f x with
  | none=>rw[hx] at h;cases h
  | some w=>
   rw[hx] at h
   cases w<;>first | (cases h;done) | exact go _ _ h
def Ce(ol:List Oper)(i:Nat)(a:Oper)(mj:Nat)(b:Oper):Bool:=
 (match b.dst with | some d=>!(decide (a.dst=some d))&&(!(ea ol a).contains d||aY mj i) | none=>true)&&(aY mj i||(match a.dst with | some d=>!(ea ol b).contains d | none=>true)&&!(ng a.op&&ng b.op))
def rM(all:List Oper)(ms:List Nat):List (Nat×Oper)->Bool
 | []=>true
 | (i,a)::rest=>(match a.dst with | some d=>!(ea all a).contains d | none=>true)&&(match a.guard with | some (j,_)=>blt j i | none=>true)&&rest.all (λq=>Ce all i a (ms.getD q.1 0) q.2)&&rM all ms rest
def Cf{all:List Oper}{ms:List Nat}:∀{ol:List Oper} {i0 i:Nat} {o:Oper},rM all ms (bF i0 ol)=true->ol[i]?=some o->(∀d,o.dst=some d->d∉ea all o)/\(∀j b,o.guard=some (j,b)->j<i0+i)/\∀(k:Nat) o',i<k->ol[k]?=some o'->Ce all (i0+i) o (ms.getD (i0+k) 0) o'=true
 | [],_,_,_,_,h=>by simp at h
 | a::ol,i0,i,o,h,ho=>by
  rw[bF,rM,aX,aX,aX] at h;obtain⟨⟨⟨h1,h2⟩,h3⟩,h4⟩:=h
  cases i with
  | zero=>
   cases ho;refine⟨λd hd=>?_,λj b hg=>?_,λk o' hk hko=>?_⟩
   ·rw[hd] at h1;simpa using h1
   ·rw[hg] at h2;exact df h2
   ·obtain⟨k,rfl⟩:=cd (Nat.ne_of_gt hk);have:=all_eq_true.1 h3 (i0+1+k,o') (mem_iff_getElem?.2 ⟨k,by rw[eW,show ol[k]?=some o' by simpa using hko];rfl⟩);rw[show i0+(k+1)=i0+1+k by omega];exact this
  | succ i=>
   obtain⟨g1,g2,g3⟩:=Cf h4 (by simpa using ho);refine⟨g1,λj b hg=>by have:=g2 j b hg;omega,λk o' hk hko=>?_⟩;obtain⟨k,rfl⟩:=cd (show k≠0 by omega);have:=g3 k o' (by omega) (by simpa using hko);rw[show i0+(i+1)=i0+1+i by omega,show i0+(k+1)=i0+1+k by omega];exact this
def w6{all:List Oper}{f1 f2:Fm}{o:Oper}(h:∀t∈ea all o,aC f1 t=aC f2 t):bB all f1 o.guard=bB all f2 o.guard:=by
 unfold ea at h;unfold bB;split
 ·rfl
 ·rename_i j w hg;rw[hg] at h
  cases ho:all[j]? with
  | none=>rfl
  | some o'=>
   cases hd:o'.dst with
   | none=>simp[hd]
   | some d=>
    simp only[ho,hd,al] at h ⊢;rw[h d (by simp)]
def A1{all:List Oper}{f1 f2:Fm}{o:Oper}(h:∀t∈ea all o,aC f1 t=aC f2 t):∀x∈o.op.operands.toList,cT f1 x=cT f2 x:=by
 intro x hx
 cases x with
 | tmp t=>simp only[cT];rw[h t (by unfold ea;exact List.mem_append_left _ (xI (by simpa using hx)))]
 | _=>rfl
def uu{f1 f2:Fm}{c:Call}(h:∀x∈(Op.call c).operands.toList,cT f1 x=cT f2 x):callS P f1 c=callS P f2 c:=by
 obtain⟨callee,aS,ats⟩:=c
 cases callee with
 | builtin b=>rfl
 | value x=>
  rw[callS,callS];simp only;rw[h x (by simp[Op.operands,Call.operands]),dq (l:=aS.toList) λy hy=>h y (by simp only[Op.operands,Call.operands,d5,el];exact .inr hy)]
 | invoke x m=>
  rw[callS,callS];simp only;rw[h x (by simp[Op.operands,Call.operands]),dq (l:=aS.toList) λy hy=>h y (by simp only[Op.operands,Call.operands,d5,el];exact .inr hy)]
def Eb{cl:Call}(h:dg (.call cl)=true):lD (.call cl)=false:=by
 obtain⟨callee,aS,ats⟩:=cl
 cases callee<;>first | rfl | (simp[dg] at h;done)
def Aw{b:Bool}(h:b=true->False):b=false:=by cases b<;>simp_all
def EW{op:Op}(h:fp op=true):lD op=false:=by
 cases op<;>first | rfl | (simp[fp] at h;done) | skip
 rename_i c;obtain⟨callee,aS,ats⟩:=c
 cases callee with
 | builtin b=>cases b<;>first | rfl | (simp[fp] at h;done)
 | _=>rfl
def C1:Op->Bool
 | .alloc _ | .box _ _ | .buildSlice _ _ _ | .makeMap _ _ | .makeSlice _ _ _ | .call { callee:=.builtin .append,.. }=>true
 | _=>false
def cD(op:Op):Bool:=lD op||C1 op
def AD(ms:List Nat):List (Nat×Oper)->Bool
 | []=>true
 | (i,a)::l=>(!(cD a.op||dg a.op)||l.all λq=>!(cD q.2.op||dg q.2.op)||aY (ms.getD q.1 0) i)&&AD ms l
def zb{ms:List Nat}:∀{ol:List Oper} {i0 i j:Nat} {a b:Oper},AD ms (bF i0 ol)=true->ol[i]?=some a->ol[j]?=some b->i<j->(cD a.op||dg a.op)=true->(cD b.op||dg b.op)=true->aY (ms.getD (i0+j) 0) (i0+i)=true
 | [],_,_,_,_,_,_,h,_,_,_,_=>by simp at h
 | o::ol,i0,i,j,a,b,h,ha,hb,hij,h1,h2=>by
  rw[bF,AD,aX] at h;obtain⟨g1,g2⟩:=h;obtain⟨j,rfl⟩:=cd (show j≠0 by omega)
  cases i with
  | zero=>
   cases ha;rw[h1,dv,dt] at g1;have:=all_eq_true.1 g1 (i0+1+j,b) (mem_iff_getElem?.2 ⟨j,by rw[eW,show ol[j]?=some b by simpa using hb];rfl⟩);rw[h2,dv,dt] at this;rw[show i0+(j+1)=i0+1+j by omega];exact this
  | succ i=>
   have:=zb g2 (i:=i) (j:=j) (by simpa using ha) (by simpa using hb) (by omega) h1 h2;rw[show i0+(j+1)=i0+1+j by omega,show i0+(i+1)=i0+1+i by omega];exact this
def nj{op:Op}(h:fp op=true):cD op=false:=by
 unfold cD;rw[EW h,dt]
 cases op<;>first | rfl | (simp[fp] at h;done) | skip
 rename_i c;obtain⟨callee,aS,ats⟩:=c
 cases callee with
 | builtin b=>cases b<;>first | rfl | (simp[fp] at h;done)
 | _=>rfl
def BH{cl:Call}(h:dg (.call cl)=true):cD (.call cl)=false:=by
 unfold cD;rw[Eb h,dt];obtain⟨callee,aS,ats⟩:=cl
 cases callee<;>first | rfl | (simp[dg] at h;done)
def kK{S:List SO}{f1 f2:Fm}{op:Op}(hrd:(fp op||cD op)=true)(h:∀x∈op.operands.toList,cT f1 x=cT f2 x):sOp P f1 S op=sOp P f2 S op:=by
 by_cases hw:(fp op||lD op)=true
 ·exact AZ hw h
 cases op with
 | alloc e=>rfl
 | box t x=>rw[sOp,sOp,h x (by simp[Op.operands])]
 | buildSlice t n ps=>rw[sOp,sOp,jf λx hx=>h x (by simpa [Op.operands] using hx)]
 | makeMap t x=>
  cases x with
  | none=>rfl
  | some x=>rfl
 | makeSlice t l c=>rw[sOp,sOp,h l (by simp[Op.operands]),h c (by simp[Op.operands])]
 | call c=>
  obtain⟨callee,aS,ats⟩:=c
  cases callee with
  | builtin b=>rw[sOp,sOp,dq λx hx=>h x (by simp only[Op.operands,Call.operands,d5,el];exact .inr hx)]
  | _=>simp[fp,cD,lD,C1] at hrd
 | makeFunc g first cap=>cases g<;>first | exact t7 rfl hw | (simp[fp,cD,lD,C1] at hrd;done)
 | _=>first | exact t7 rfl hw | (simp[fp,cD,lD,C1] at hrd;done)
def zI{ol:List Oper}{ms:List Nat}(hb:fX 0 ol=true)(hms:iD ol []=ms)(w:Nat)(o:Oper)(ho:ol[w]?=some o){i:Nat}(h:aY (ms.getD w 0) i=true):i<w:=by
 have hlt:∀{j:Nat} {o':Oper},ol[j]?=some o'->∀e∈o'.after.toList,dep e=true->e.on<j:=λho' e he hde=>by simpa using iO hb ho' e he hde
 exact xG (L:=λj=>j<w) hb (λj o' ho' hj e he hde=>fs (hlt ho' e he hde) hj) w o ho (λe he hde=>hlt ho e he hde) (by rw[hms];exact h)
structure Bj where
 b:Bool
 hp:List Nat
 kl:List (Nat×Nat)
 f0:Fm
 f:Fm
 S:List SO
def sG(ms:List Nat)(i:Nat)(v:SV):List (Nat×Nat)->Prop
 | []=>True
 | q::l=>(aY (ms.getD i 0) q.1=true\/aH q.2 v=v)/\sG ms i v l
def jA{ms:List Nat}{i:Nat}{v:SV}:∀{l:List (Nat×Nat)},sG ms i v l->∀q∈l,aY (ms.getD i 0) q.1=true\/aH q.2 v=v
 | [],_,q,hq=>by cases hq
 | x::l,h,q,hq=>by
  rcases mem_cons.1 hq with rfl | hq
  ·exact h.1
  ·exact jA h.2 q hq
def CC(all:List Oper)(ms:List Nat)(i:Nat):List Nat:=((bF 0 all).filter λq=>!Nat.beq q.1 i&&!aY (ms.getD i 0) q.1&&!aY (ms.getD q.1 0) i).flatMap λq=>(match q.2.dst with | some d=>d::ea all q.2 | none=>ea all q.2)
def BA(all:List Oper)(ms:List Nat)(i:Nat):Bool:=(bF 0 all).all λq=>beq q.1 i||(blt q.1 i&&aY (ms.getD i 0) q.1)||(blt i q.1&&aY (ms.getD q.1 0) i)
inductive kW (P:Program) (ro:Option Nat) (all:List Oper) (ms:List Nat) (n:Nat) (i:Nat) (o:Oper):Bj->Bj->Prop
 | s {b hp kl f0 f S d}:cN all n [o]=true->o.dst=some d->bB all f o.guard=some false->cD o.op=false->kW P ro all ms n i o ⟨b,hp,kl,f0,f,S⟩ ⟨b,hp,kl,f0,(d,.a e7)::f,S⟩
 | sk {b hp kl f0 f S d}:cN all n [o]=true->o.dst=some d->bB all f o.guard=some false->cD o.op=true->hp.all (λj=>aY (ms.getD i 0) j)=true->kW P ro all ms n i o ⟨b,hp,kl,f0,f,S⟩ ⟨false,hp,kl,f0,(d,.a e7)::f,S⟩
 | r {b hp kl f0 f S d v}:cN all n [o]=true->o.dst=some d->bB all f o.guard=some true->fp o.op=true->(∀S2,sOp P f S2 o.op=some (v,S2,none))->sG ms i v kl->kW P ro all ms n i o ⟨b,hp,kl,f0,f,S⟩ ⟨b,hp,kl,f0,(d,v)::f,S⟩
 | h {hp kl f0 f S d v}:cN all n [o]=true->o.dst=some d->bB all f o.guard=some true->fp o.op=true->sOp P f S o.op=some (v,S,none)->sG ms i v kl->kW P ro all ms n i o ⟨true,hp,kl,f0,f,S⟩ ⟨true,i::hp,kl,f0,(d,v)::f,S⟩
 | k {hp kl f0 f S d cl g vs ws r}:cN all n [o]=true->o.op=.call cl->o.dst=some d->bB all f o.guard=some true->dg (.call cl)=true->ng o.op=true->callS P f cl=some (g,vs)->PC P g ws (·=r)->aM S vs ws->nb r=true->
  kW P ro all ms n i o ⟨true,hp,kl,f0,f,S⟩ ⟨true,hp,kl,f0,(d,r)::f,S⟩
 | e {b hp kl f0 f S v S'}:cN all n [o]=true->bB all f o.guard=some true->cD o.op=true->hp.all (λj=>aY (ms.getD i 0) j)=true->sOp P f S o.op=some (v,S',none)->sG ms i v kl->kW P ro all ms n i o ⟨b,hp,kl,f0,f,S⟩ ⟨false,hp,kl,f0,j9 f none o.dst v,S'⟩
 | a {b hp kl f0 f S v S' k}:cN all n [o]=true->bB all f o.guard=some true->cD o.op=true->hp.all (λj=>aY (ms.getD i 0) j)=true->sOp P f S o.op=some (v,S',some k)->sG ms i v kl->(∀t∈CC all ms i,aH k (aC f t)=aC f t/\aH k (aC f0 t)=aC f0 t)->kW P ro all ms n i o ⟨b,hp,kl,f0,f,S⟩ ⟨false,hp,(i,k)::kl,f0,j9 f (some k) o.dst v,S'⟩
 | FC {b hp kl f0 f S f' S'}:BA all ms i=true->cD o.op=false->(∀ds K,K ⟨f',n,S',ds⟩->aB P ro (all.take (i+1)) [o] ⟨f,n,S,ds⟩ K)->kW P ro all ms n i o ⟨b,hp,kl,f0,f,S⟩ ⟨true,[],[],f',f',S'⟩
inductive D8 (P:Program) (ro:Option Nat) (all:List Oper) (ms:List Nat) (n:Nat):List (Nat×Oper)->Bj->Bj->Prop
 | nil {x}:D8 P ro all ms n [] x x
 | cons {i o l x y z}:kW P ro all ms n i o x y->D8 P ro all ms n l y z->D8 P ro all ms n ((i,o)::l) x z
def sj(P:Program)(ro:Option Nat)(all:List Oper)(ms:List Nat)(n:Nat)(f0:Fm)(kl:List (Nat×Nat))(b:Bool)(hp:List Nat)(l:List (Nat×Oper))(f:Fm)(S:List SO)(K:Fm->List SO->Prop):Prop:=∃z,K z.f z.S/\D8 P ro all ms n l ⟨b,hp,kl,f0,f,S⟩ z
mutual
def uO:∀{v:SV},nb v=true->∀o,names o v=false
 | .any,_,_=>rfl
 | .a _,_,_=>rfl
 | .ag cs,h,o=>by rw[names];exact mJ (by rw[nb] at h;exact h) o
 | .aO cs,h,o=>by rw[names];exact mJ (by rw[nb] at h;exact h) o
 | .sl ..,h,_ | .im ..,h,_ | .ptr ..,h,_ | .map ..,h,_ | .buf ..,h,_ | .sub ..,h,_ | .fn ..,h,_ | .iface ..,h,_ | .ip ..,h,_ | .e0 ..,h,_=>by simp[nb] at h
def mJ:∀{l:List SV},xw l=true->∀o,dm o l=false
 | [],_,_=>rfl
 | d::ds,h,o=>by rw[xw,aX] at h;rw[dm,uO h.1,mJ h.2];rfl
end
def C3{v:SV}(h:nb v=true)(o:Nat):aH o v=v:=by unfold aH;rw[uO h o];rfl
section
variable {all:List Oper} {ms:List Nat} {n:Nat} {b:Bool} {hp:List Nat} {l:List (Nat×Oper)} {f:Fm} {S:List SO} {K:Fm->List SO->Prop} {i:Nat} {o:Oper} {d:Nat} {f0:Fm} {kl:List (Nat×Nat)}
def sj.nil(h:K f S):sj P ro all ms n f0 kl b hp [] f S K:=⟨_,h,.nil⟩
theorem sj.s(hst:cN all n [o]=true)(hdst:o.dst=some d)(hw:bB all f o.guard=some false)(hwr:cD o.op=false):sj P ro all ms n f0 kl b hp l ((d,.a e7)::f) S K->sj P ro all ms n f0 kl b hp ((i,o)::l) f S K:=λ⟨z,k,t⟩=>⟨z,k,.cons (.s hst hdst hw hwr) t⟩
theorem sj.r{v:SV}{S':List SO}{kill:Option Nat}(hst:cN all n [o]=true)(hdst:o.dst=some d)(hw:bB all f o.guard=some true)(hrr:(fp o.op&&(b||!xC o.op))=true)(hop:sOp P f S o.op=some (v,S',kill))
 (hk:sj P ro all ms n f0 kl b (_root_.cond (xC o.op) (i::hp) hp) l ((d,v)::f) S K) (hkl:sG ms i v kl):sj P ro all ms n f0 kl b hp ((i,o)::l) f S K:=by
 rw[aX] at hrr;obtain⟨h1,h2⟩:=hrr;obtain⟨rfl,rfl⟩:=Cz h1 hop;obtain⟨z,k,t⟩:=hk;cases hh:xC o.op
 ·rw[hh] at t;exact⟨z,k,.cons (.r hst hdst hw h1 (λS2=>Ds h1 hh hop) hkl) t⟩
 ·rw[hh] at t h2
  obtain rfl:b=true:=by cases b<;>simp_all
  exact⟨z,k,.cons (.h hst hdst hw h1 hop hkl) t⟩
def sj.ri{tt:TypeId}{x:Operand}{cs0:List SV}{v:SV}(hst:cN all n [o]=true)(hdst:o.dst=some d)(hw:bB all f o.guard=some true)(hop:o.op=.load tt x)(hx:cT f x=some (.ip cs0))(hv:partS P tt cs0 0=some v)(hkl:sG ms i v kl):
 sj P ro all ms n f0 kl b hp l ((d,v)::f) S K->sj P ro all ms n f0 kl b hp ((i,o)::l) f S K:=λ⟨z,k,t⟩=>⟨z,k,.cons (.r hst hdst hw (by rw[hop];rfl) (λS2=>by rw[hop,sOp,hx,al,loadS,hv];rfl) hkl) t⟩
theorem sj.k{cl:Call}{g:FuncId}{vs ws:List SV}{r:SV}(hst:cN all n [o]=true)(hop:o.op=.call cl)(hdst:o.dst=some d)(hw:bB all f o.guard=some true)(hdy:dg (.call cl)=true)(he:ng (.call cl)=true)
 (hc:callS P f cl=some (g,vs)) (hq:PC P g ws (·=r)) (hwk:aM S vs ws) (hr:nb r=true):sj P ro all ms n f0 kl true hp l ((d,r)::f) S K->sj P ro all ms n f0 kl true hp ((i,o)::l) f S K:=λ⟨z,k,t⟩=>⟨z,k,.cons (.k hst hop hdst hw hdy (by rw[hop];exact he) hc hq hwk hr) t⟩
theorem sj.e{v:SV}{S':List SO}(hst:cN all n [o]=true)(hw:bB all f o.guard=some true)(hwr:cD o.op=true)(hms:hp.all (λj=>aY (ms.getD i 0) j)=true)(hop:sOp P f S o.op=some (v,S',none))(hkl:sG ms i v kl):
 sj P ro all ms n f0 kl false hp l (j9 f none o.dst v) S' K->sj P ro all ms n f0 kl b hp ((i,o)::l) f S K:=λ⟨z,k,t⟩=>⟨z,k,.cons (.e hst hw hwr hms hop hkl) t⟩
end
def D8.get{all:List Oper}{ms:List Nat}{n:Nat}:∀{ol:List Oper} {i0:Nat} {x z:Bj},D8 P ro all ms n (bF i0 ol) x z->∃X:Nat->Bj,X i0=x/\X (i0+ol.length)=z/\∀(k:Nat) o,ol[k]?=some o->kW P ro all ms n (i0+k) o (X (i0+k)) (X (i0+k+1))
 | [],i0,x,z,h=>by
  rw[bF] at h;cases h;exact⟨λ_=>x,rfl,rfl,λk o h=>by simp at h⟩
 | o::ol,i0,x,z,h=>by
  rw[bF] at h
  cases h with | cons h t=>?_
  obtain⟨X,h1,h2,h3⟩:=D8.get t;refine⟨λj=>if j=i0 then x else X j,t8 rfl,?_,?_⟩
  ·show(if _ then _ else _)=z;rw[length_cons,ul (by omega),<-h2];congr 1;omega
  ·rintro(_ | k) o' ho
   ·cases ho;show kW P ro all ms n i0 o (if _ then _ else _) (if _ then _ else _);rw[Nat.add_zero,t8 rfl,ul (by omega),h1];exact h
   ·have:=h3 k o' (by simpa using ho);show kW P ro all ms n (i0+(k+1)) o' (if _ then _ else _) (if _ then _ else _);rw[ul (by omega),ul (by omega),show i0+(k+1)=i0+1+k by omega];exact this
structure D6 (P:Program) (all:List Oper) (ms:List Nat) (n:Nat) (i:Nat) (o:Oper) (x y:Bj) (κ:Option Nat):Prop where
 st:cN all n [o]=true
 fr:∀t,o.dst≠some t->aC y.f t=eU κ (aC x.f t)
 wr:cD o.op=false->κ=none
 S:cD o.op=false->y.S=x.S
 b:y.b=true->x.b=true/\cD o.op=false
 hp:∀j∈x.hp,j∈y.hp
 w:cD o.op=true->x.hp.all (λj=>aY (ms.getD i 0) j)=true
 k1:∀q∈x.kl,q∈y.kl
 k2:∀k,κ=some k->(i,k)∈y.kl
 t:∀k,κ=some k->∀t∈CC all ms i,aH k (aC x.f t)=aC x.f t/\aH k (aC x.f0 t)=aC x.f0 t
 v:∀d,o.dst=some d->∀q∈x.kl,aY (ms.getD i 0) q.1=true\/aH q.2 (aC y.f d)=aC y.f d
 op:cD o.op=true->∃v S',((bB all x.f o.guard=some true/\sOp P x.f x.S o.op=some (v,S',κ))\/(bB all x.f o.guard=some false/\(∃d,o.dst=some d)/\v=.a e7/\S'=x.S/\κ=none))/\(∀d,o.dst=some d->aC y.f d=v)/\y.S=S'
 z:y.f0=x.f0
structure ED (P:Program) (ro:Option Nat) (all:List Oper) (ms:List Nat) (n:Nat) (i:Nat) (o:Oper) (x y:Bj):Prop where
 ok:BA all ms i=true
 wr:cD o.op=false
 op:∀ds K,K ⟨y.f,n,y.S,ds⟩->aB P ro (all.take (i+1)) [o] ⟨x.f,n,x.S,ds⟩ K
 z:y.f0=y.f
def kW.out{all:List Oper}{ms:List Nat}{n i:Nat}{o:Oper}{x y:Bj}(h:kW P ro all ms n i o x y):(∃κ,D6 P all ms n i o x y κ)\/ED P ro all ms n i o x y:=by
 have put:∀{f:Fm} {d:Nat} {v:SV},o.dst=some d->∀t,o.dst≠some t->aC ((d,v)::f) t=aC f t:=λ{f d v} hd t ht=>by
  show(if d=t then v else aC f t)=_;rw[ul λe=>ht (by rw[hd,e])]
 have top:∀{d:Nat} {v:SV} {f:Fm},aC ((d,v)::f) d=v:=λ{d v f}=>t8 rfl
 have no2:∀{q:Prop},cD o.op=false->cD o.op=true->q:=λh h2=>by rw[h] at h2;cases h2
 have val:∀{d d':Nat} {v:SV} {f:Fm},o.dst=some d->o.dst=some d'->aC ((d,v)::f) d'=v:=λh1 h2=>by rw[h1] at h2;cases h2;exact top
 cases h with
 | s h1 h2 h3 h4=>exact .inl ⟨none,h1,put h2,λ_=>rfl,λ_=>rfl,λh=>⟨h,h4⟩,λ_ h=>h,no2 h4,λ_ h=>h,nofun,nofun,λd hd q _=>.inr (by rw[val h2 hd];rfl),no2 h4,rfl⟩
 | r h1 h2 h3 h4 _ h6=>exact .inl ⟨none,h1,put h2,λ_=>rfl,λ_=>rfl,λh=>⟨h,nj h4⟩,λ_ h=>h,no2 (nj h4),λ_ h=>h,nofun,nofun,λd hd q hq=>by rw[val h2 hd];exact jA h6 q hq,no2 (nj h4),rfl⟩
 | h h1 h2 h3 h4 _ h6=>exact .inl ⟨none,h1,put h2,λ_=>rfl,λ_=>rfl,λh=>⟨h,nj h4⟩,λ_ h=>cc _ h,no2 (nj h4),λ_ h=>h,nofun,nofun,λd hd q hq=>by rw[val h2 hd];exact jA h6 q hq,no2 (nj h4),rfl⟩
 | k h1 h0 h2 h3 h4 _ _ _ _ h9=>
  have hk:cD o.op=false:=by rw[h0];exact BH h4
  exact .inl ⟨none,h1,put h2,λ_=>rfl,λ_=>rfl,λh=>⟨h,hk⟩,λ_ h=>h,no2 hk,λ_ h=>h,nofun,nofun,λd hd q _=>.inr (by rw[val h2 hd];exact C3 h9 _),no2 hk,rfl⟩
 | sk h1 h2 h3 h4 h5=>exact .inl ⟨none,h1,put h2,λ_=>rfl,λ_=>rfl,λh=>(by cases h),λ_ h=>h,λ_=>h5,λ_ h=>h,nofun,nofun,λd hd q _=>.inr (by rw[val h2 hd];rfl),λ_=>⟨.a e7,_,.inr ⟨h3,⟨_,h2⟩,rfl,rfl,rfl⟩,λd hd=>val h2 hd,rfl⟩,rfl⟩
 | e h1 h3 h5 h6 h7 h8=>
  refine .inl ⟨none,h1,λt ht=>?_,λ_=>rfl,λh=>(by rw[h] at h5;cases h5),λh=>(by cases h),λ_ h=>h,λ_=>h6,λ_ h=>h,nofun,nofun,λd hd q hq=>?_,λ_=>⟨_,_,.inl ⟨h3,h7⟩,λd hd=>(by rw[hd];exact top),rfl⟩,rfl⟩
  ·cases hd:o.dst with
   | none=>rfl
   | some d=>exact put hd t ht
  ·refine(jA h8 q hq).imp id λh=>?_;rw[hd];simp only[j9,top];exact h
 | a h1 h3 h5 h6 h7 h8 h9=>
  rename_i k;refine .inl ⟨some k,h1,λt ht=>?_,λh=>(by rw[h] at h5;cases h5),λh=>(by rw[h] at h5;cases h5),λh=>(by cases h),λ_ h=>h,λ_=>h6,λ_ h=>cc _ h,λk' e=>(by cases e;exact co),λk' e=>(by cases e;exact h9),λd hd q hq=>?_,λ_=>⟨_,_,.inl ⟨h3,h7⟩,λd hd=>(by rw[hd];exact top),rfl⟩,rfl⟩
  ·cases hd:o.dst with
   | none=>exact dU _ _ _
   | some d=>exact(put (f:=cm k _) hd t ht).trans (dU _ _ _)
  ·refine(jA h8 q hq).imp id λh=>?_;rw[hd];simp only[j9,top];exact h
 | FC h1 h2 h3=>exact .inr ⟨h1,h2,h3,rfl⟩
def cq(κ:Nat->Option Nat)(b:Nat):Nat->SV->SV
 | 0,v=>v
 | m+1,v=>if m<b then v else eU (κ m) (cq κ b m v)
def uX(k:Option Nat)(v:SV):eU k v=v\/eU k v=.any:=by
 cases k with
 | none=>exact .inl rfl
 | some k=>unfold eU aH;simp only;cases names k v;exact .inl rfl;exact .inr rfl
def rz(k:Option Nat):eU k .any=.any:=by rcases uX k .any with h | h<;>exact h
section
variable {κ:Nat->Option Nat} {b m:Nat} {v:SV}
def uY:cq κ b m v=v\/cq κ b m v=.any:=by
 induction m with
 | zero=>exact .inl rfl
 | succ m ih=>
  rw[cq];split
  ·exact .inl rfl
  ·rcases ih with h | h
   ·rw[h];exact uX _ _
   ·rw[h,rz];exact .inr rfl
def eV(h:m<=b):cq κ b m v=v:=by
 cases m with
 | zero=>rfl
 | succ m=>rw[cq,t8 (by omega)]
def kG(h:b<=m):cq κ b (m+1) v=eU (κ m) (cq κ b m v):=by rw[cq,ul (by omega)]
def iB{c:Nat}(hbc:m<=c)(h:∀w,b<=w->m<=w->w<c->eU (κ w) (cq κ b w v)=cq κ b w v):cq κ b c v=cq κ b m v:=by
 induction hbc with
 | refl=>rfl
 | step hbc ih=>
  rename_i c;have:=ih λw h1 h2 h3=>h w h1 h2 (Nat.lt_succ_of_lt h3);by_cases hb:b<=c
  ·rw[kG hb,h c hb hbc (bs c),this]
  ·rw[eV (by omega),<-this,eV (by omega)]
end
def iU(g:Nat->SV)(φ:SV->SV)(f:Fm):List Oper->Fm
 | []=>f.map λq=>(q.1,φ q.2)
 | o::l=>match o.dst with
  | some d=>(d,g d)::iU g φ f l
  | none=>iU g φ f l
def uw{g:Nat->SV}{φ:SV->SV}{f:Fm}(hφ:φ .any=.any){t:Nat}:∀{l:List Oper},(aC (iU g φ f l) t=g t/\∃o∈l,o.dst=some t)\/(aC (iU g φ f l) t=φ (aC f t)/\∀o∈l,o.dst≠some t)
 | []=>by
  refine .inr ⟨?_,λo h=>by cases h⟩;rw[iU]
  induction f with
  | nil=>exact hφ.symm
  | cons q f ih=>
   show(if q.1=t then φ q.2 else _)=φ (if q.1=t then q.2 else _);split
   ·rfl
   ·exact ih
 | o::l=>by
  have ih:=uw (g:=g) (φ:=φ) (f:=f) hφ (t:=t) (l:=l);rw[iU]
  cases hd:o.dst with
  | none=>exact ih.imp (λ⟨a,o',b,c⟩=>⟨a,o',cc _ b,c⟩) λ⟨a,b⟩=>⟨a,λo' ho'=>by rcases mem_cons.1 ho' with rfl | h ;(rw[hd];nofun);exact b o' h⟩
  | some d=>
   by_cases e:d=t
   ·subst e;exact .inl ⟨t8 rfl,o,co,hd⟩
   ·have h1:aC ((d,g d)::iU g φ f l) t=aC (iU g φ f l) t:=ul e;simp only[h1];exact ih.imp (λ⟨a,o',b,c⟩=>⟨a,o',cc _ b,c⟩) λ⟨a,b⟩=>⟨a,λo' ho'=>by rcases mem_cons.1 ho' with rfl | h ;(rw[hd];exact λh=>e (Option.some.inj h));exact b o' h⟩
def ak.Ea{id:Nat}{ops:Array Oper}{st:cM}{Q:Ex->cM->Prop}{ol:List Oper}{ms:List Nat}(hol:ops.toList=ol)(hms:iD ol []=ms)(hok:((fX 0 ol&&P.follows .mixedOrders)&&(rM ol ms (bF 0 ol)&&AD ms (bF 0 ol)))=true)
 (h:sj P ro ol ms st.n st.f [] true [] (bF 0 ol) st.f st.S λf' S'=>Q .normal ⟨f',st.n,S',st.ds⟩):ak P ro (.region id ops true) st Q:=by
 obtain⟨f,n,S,ds⟩:=st;rw[aX] at hok;obtain⟨hbk,hpr⟩:=hok;rw[aX] at hpr;obtain⟨hpr,hch⟩:=hpr
 have hord:∀{i j:Nat} {a b:Oper},ol[i]?=some a->ol[j]?=some b->i<j->(cD a.op||dg a.op)=true->(cD b.op||dg b.op)=true->aY (ms.getD j 0) i=true:=λh1 h2 h3 h4 h5=>by simpa using zb hch h1 h2 h3 h4 h5
 have hback:=hbk;rw[aX] at hback;obtain⟨z,hz,ht⟩:=h;obtain⟨X,hX0,hXN,hX⟩:=ht.get;simp only[d4] at hXN hX;have hP:=λ{i:Nat} {o:Oper} (ho:ol[i]?=some o)=>Cf hpr ho;simp only[d4] at hP;obtain⟨B,hB0⟩:∃B:Nat->Prop,∀i,B i↔∃o,ol[i]?=some o/\ED P ro ol ms n i o (X i) (X (i+1)):=⟨_,λ_=>Iff.rfl⟩
 obtain⟨κ,hκ0⟩:∃κ:Nat->Option Nat,∀i,(B i->κ i=none)/\∀o,ol[i]?=some o->¬B i->D6 P ol ms n i o (X i) (X (i+1)) (κ i):=by
  have:∀i,∃κ,(B i->κ=none)/\∀o,ol[i]?=some o->¬B i->D6 P ol ms n i o (X i) (X (i+1)) κ:=by
   intro i;by_cases hb:B i
   ·exact⟨none,λ_=>rfl,λ_ _ h=>t7 hb h⟩
   cases ho:ol[i]? with
   | none=>exact⟨none,λ_=>rfl,nofun⟩
   | some o=>
    rcases(hX i o ho).out with⟨κ,h⟩ | h
    ·exact⟨κ,λh=>t7 h hb,λo' e _=>by cases e;exact h⟩
    ·exact t7 ((hB0 i).2 ⟨o,ho,h⟩) hb
  exact⟨λi=>Classical.choose (this i),λi=>Classical.choose_spec (this i)⟩
 have hκ:=λ{i o} (ho:ol[i]?=some o) (hb:¬B i)=>(hκ0 i).2 o ho hb
 have hBw:∀{i o},B i->ol[i]?=some o->cD o.op=false/\BA ol ms i=true:=by
  intro i o hb ho;obtain⟨o',h1,h2⟩:=(hB0 i).1 hb;rw[h1] at ho;cases ho;exact⟨h2.wr,h2.ok⟩
 have hBn:∀{i o},ol[i]?=some o->cD o.op=true->¬B i:=λho hw hb=>by rw[(hBw hb ho).1] at hw;cases hw
 have hat:∀{i},i<ol.length->∃o,ol[i]?=some o:=λh=>⟨_,ay h⟩
 have hBl:∀{i},B i->i<ol.length:=λhb=>by obtain⟨o,h,_⟩:=(hB0 _).1 hb;exact aE h
 have hBo:∀{c j},B c->j<ol.length->(j<c->aY (ms.getD c 0) j=true)/\(c<j->aY (ms.getD j 0) c=true):=by
  intro c j hb hj;obtain⟨oc,hoc⟩:=hat (hBl hb);obtain⟨oj,hoj⟩:=hat hj;have h:=all_eq_true.1 (hBw hb hoc).2 (j,oj) (mem_iff_getElem?.2 ⟨j,by rw[eW,hoj];simp⟩);simp only[ei,aX] at h;refine⟨λhlt=>?_,λhlt=>?_⟩
  ·rcases h with(h | h) | h
   ·have:=cp h;omega
   ·exact h.2
   ·have:=df h.1;omega
  ·rcases h with(h | h) | h
   ·have:=cp h;omega
   ·have:=df h.1;omega
   ·exact h.2
 have hF:∀(k m t:Nat),k<=m->m<=ol.length->(∀c,k<=c->c<m->¬B c)->(∀j o,k<=j->j<m->ol[j]?=some o->o.dst≠some t)->aC (X m).f t=cq κ k m (aC (X k).f t):=by
  intro k m t hkm
  induction hkm with
  | refl=>exact λ_ _ _=>(eV (a0 _)).symm
  | step hkm ih=>
   rename_i m;intro hm hb hno;obtain⟨o,hoj⟩:=hat hm;rw[(hκ hoj (hb m hkm (bs _))).fr t (hno m _ hkm (bs _) hoj),kG hkm,ih (bi hm) (λc h1 h2=>hb c h1 (by omega)) λj o h1 h2=>hno j o h1 (by omega)]
 have hseg:∀{α:Type} (φ:Bj->α) (k m:Nat),(∀j o,k<=j->j<m->ol[j]?=some o->φ (X (j+1))=φ (X j))->k<=m->m<=ol.length->φ (X m)=φ (X k):=by
  intro α φ k m hs hkm
  induction hkm with
  | refl=>exact λ_=>rfl
  | step hkm ih=>
   rename_i m;intro hm;obtain⟨o,hoj⟩:=hat hm;rw[hs m o hkm (bs _) hoj];exact ih (λj o h1 h2=>hs j o h1 (by omega)) (bi hm)
 have hS:∀(k m:Nat),k<=m->m<=ol.length->(∀c,k<=c->c<m->¬B c)->(∀j o,k<=j->j<m->ol[j]?=some o->cD o.op=false)->(X m).S=(X k).S:=λk m h1 h2 hb hw=>hseg Bj.S k m (λj o g1 g2 g3=>(hκ g3 (hb j g1 g2)).S (hw j o g1 g2 g3)) h1 h2;have hZ:∀(k m:Nat),k<=m->m<=ol.length->(∀c,k<=c->c<m->¬B c)->(X m).f0=(X k).f0:=λk m h1 h2 hb=>hseg Bj.f0 k m (λj o g1 g2 g3=>(hκ g3 (hb j g1 g2)).z) h1 h2
 have hB:∀(k m:Nat),k<=m->m<=ol.length->(∀c,k<=c->c<m->¬B c)->(X m).b=true->∀j o,k<=j->j<m->ol[j]?=some o->cD o.op=false:=by
  intro k m hkm
  induction hkm with
  | refl=>exact λ_ _ _ j o h1 h2=>by omega
  | step hkm ih=>
   rename_i m;intro hm hbr hb j o h1 hj ho;obtain⟨o',ho'⟩:=hat hm;obtain⟨h3,h2⟩:=(hκ ho' (hbr m hkm (bs _))).b hb;by_cases e:j=m
   ·subst e;rw[ho'] at ho;cases ho;exact h2
   ·exact ih (bi hm) (λc h1 h2=>hbr c h1 (by omega)) h3 j o h1 (by omega) ho
 have hH:∀(k m j:Nat),k<=m->m<=ol.length->(∀c,k<=c->c<m->¬B c)->j∈(X k).hp->j∈(X m).hp:=by
  intro k m j hkm
  induction hkm with
  | refl=>exact λ_ _ h=>h
  | step hkm ih=>
   intro hm hb hj;obtain⟨o',ho'⟩:=hat hm;exact(hκ ho' (hb _ hkm (bs _))).hp j (ih (bi hm) (λc h1 h2=>hb c h1 (by omega)) hj)
 have hKL:∀(k m:Nat) q,k<=m->m<=ol.length->(∀c,k<=c->c<m->¬B c)->q∈(X k).kl->q∈(X m).kl:=by
  intro k m q hkm
  induction hkm with
  | refl=>exact λ_ _ h=>h
  | step hkm ih=>
   intro hm hb hj;obtain⟨o',ho'⟩:=hat hm;exact(hκ ho' (hb _ hkm (bs _))).k1 q (ih (bi hm) (λc h1 h2=>hb c h1 (by omega)) hj)
 have hu:∀{j k:Nat} {a b:Oper} {t:Nat},ol[j]?=some a->ol[k]?=some b->a.dst=some t->b.dst=some t->j=k:=by
  have one:∀{j k:Nat} {a b:Oper} {t:Nat},ol[j]?=some a->ol[k]?=some b->a.dst=some t->b.dst=some t->¬j<k:=by
   intro j k a b t hj hk ha hb hlt;have:=(hP hj).2.2 k b hlt hk;unfold Ce at this;rw[hb] at this;simp[ha] at this
  intro j k a b t hj hk ha hb;exact Nat.le_antisymm (cv (one hk hj hb ha)) (cv (one hj hk ha hb))
 have hT:∀{i w:Nat} {o:Oper} {t k:Nat},ol[i]?=some o->i≠w->aY (ms.getD w 0) i=false->aY (ms.getD i 0) w=false->w<ol.length->κ w=some k->(o.dst=some t\/t∈ea ol o)->aH k (aC (X w).f t)=aC (X w).f t/\aH k (aC (X w).f0 t)=aC (X w).f0 t:=by
  intro i w o t k ho hne h1 h2 hw hk hd;obtain⟨ow,how⟩:=hat hw
  have hnb:¬B w:=λhb=>by rw[(hκ0 w).1 hb] at hk;cases hk
  refine(hκ how hnb).t k hk t ?_;unfold CC;refine List.mem_flatMap.2 ⟨(i,o),List.mem_filter.2 ⟨mem_iff_getElem?.2 ⟨i,by rw[eW,ho];simp⟩,?_⟩,?_⟩
  ·simp only[h1,h2,Bool.not_false,dl,Bool.not_eq_true'];cases hb:beq i w
   ·rfl
   ·exact t7 (cp hb) hne
  ·cases hd':o.dst with
   | none=>rw[hd'] at hd;exact hd.resolve_left nofun
   | some d=>
    rw[hd'] at hd
    rcases hd with hd | hd
    ·cases hd;exact co
    ·exact cc _ hd
 have hu0:∀q:(Nat->Prop)×Nat,∃base:Nat->Nat,(∀j o t,q.2<=j->ol[j]?=some o->o.dst=some t->q.1 j->base t=j+1)/\∀t,(∀j o,q.2<=j->ol[j]?=some o->o.dst=some t->¬q.1 j)->base t=q.2:=by
  rintro⟨L,β⟩
  have:∀t,∃b,(∀j o,β<=j->ol[j]?=some o->o.dst=some t->L j->b=j+1)/\((∀j o,β<=j->ol[j]?=some o->o.dst=some t->¬L j)->b=β):=by
   intro t;by_cases h:∃j o,β<=j/\ol[j]?=some o/\o.dst=some t/\L j
   ·obtain⟨j,o,h0,h1,h2,h3⟩:=h;exact⟨j+1,λj' o' _ g1 g2 _=>by rw[hu h1 g1 h2 g2],λg=>t7 h3 (g j o h0 h1 h2)⟩
   ·exact⟨β,λj o g0 g1 g2 g3=>t7 ⟨j,o,g0,g1,g2,g3⟩ h,λ_=>rfl⟩
  exact⟨λt=>Classical.choose (this t),λj o t h0 h1 h2 h3=>(Classical.choose_spec (this t)).1 j o h0 h1 h2 h3,λt h=>(Classical.choose_spec (this t)).2 h⟩
 obtain⟨base,hbase0⟩:=Classical.axiomOfChoice hu0;have hbase:=λL β=>hbase0 (L,β);simp only at hbase;obtain⟨g,hg⟩:∃g:(Nat->Prop)->Nat->Nat->Nat->SV,∀L β m t,g L β m t=cq κ (base (L,β) t) m (aC (X (base (L,β) t)).f t):=⟨_,λ_ _ _ _=>rfl⟩
 have hfr:∀L β m t,aC (iU (g L β m) (cq κ β m) (X β).f ol) t=g L β m t:=by
  intro L β m t
  rcases uw (g:=g L β m) (φ:=cq κ β m) (f:=(X β).f) (by rcases uY (κ:=κ) (b:=β) (m:=m) (v:=.any) with h | h<;>exact h) (t:=t) (l:=ol) with⟨h,_⟩ | ⟨h,hn⟩
  ·exact h
  ·rw[h,hg,(hbase L β).2 t λj o _ hj hd=>t7 hd (hn o (dc hj))]
 have hgd:∀(i:Nat) (o:Oper),ol[i]?=some o->∀(j:Nat) (b:Bool),o.guard=some (j,b)->j<i:=λi o ho=>(hP ho).2.1;refine ak.post (ak.any hol hbk (.inr hgd) (λL x=>x.n=n/\gg ol L/\∃β m,β<=m/\m<=ol.length/\(∀j,j<β->L j)/\(X β).f0=(X β).f/\(∀c,β<=c->B c->¬L c/\m<=c)/\(∀j o,ol[j]?=some o->cD o.op=true->(L j↔j<m))/\Fg x ⟨iU (g L β m) (cq κ β m) (X β).f ol,n,(X m).S,ds⟩) ?_ (λL x h=>h.1) ?_ ?_)
 ·refine⟨rfl,λ_ _ _ h=>h.elim,0,0,a0 _,ct _,λj h=>t7 h (ca _),by rw[hX0],λc _ _=>⟨λh=>h,ct _⟩,λj o _ _=>⟨λh=>h.elim,λh=>t7 h (ca _)⟩,?_⟩;rw[show(X 0).S=S by rw[hX0]];refine Fg.tmps λt=>.inl ?_;rw[hfr,hg,(hbase _ 0).2 t λj o _ _ _ h=>h,hX0];rfl
 ·rintro L x i o ⟨hxn,hc,β,m,hβm,hml,hβ,hβ0,hβB,hm,hx⟩ hr;have ho:=hr.at';have hil:=aE ho;obtain⟨p1,p2,p3⟩:=hP ho;have hβi:β<=i:=cv λh=>hr.new (hβ i h)
  have hc2:gg ol (λj=>L j\/j=i):=by
   intro j o' ho' hj e he hd
   rcases hj with hj | rfl
   ·exact .inl (hc j o' ho' hj e he hd)
   ·rw[ho'] at ho;cases ho;exact .inl (hr.dep e he hd)
  have hA:∀k,aY (ms.getD i 0) k=true->L k:=λk hk=>xG hback.1 hc i o ho hr.dep (by rw[hms];exact hk);have hA2:∀j o' k,ol[j]?=some o'->L j->aY (ms.getD j 0) k=true->L k:=λj o' k hj hl hk=>xG hback.1 hc j o' hj (hc j o' hj hl) (by rw[hms];exact hk);have hbi:∀c,β<=c->c<i->¬B c:=λc h1 h2 hb=>(hβB c h1 hb).1 (hA c ((hBo hb hil).2 h2))
  have hbm:∀c,β<=c->c<m->¬B c:=λc h1 h2 hb=>by have:=(hβB c h1 hb).2;omega
  have hbd:∀j o',β<=j->ol[j]?=some o'->L j->∀c,β<=c->c<j+1->¬B c:=by
   intro j o' h1 hj hl c h2 h3 hb;have hn:=(hβB c h2 hb).1;by_cases e:c=j
   ·subst e;exact hn hl
   ·exact hn (hA2 j o' c hj hl ((hBo hb (aE hj)).2 (by omega)))
  have hKm:∀w,w<ol.length->κ w≠none->(L w↔w<m):=by
   intro w hw hk;obtain⟨ow,how⟩:=hat hw;have hnb:¬B w:=λhb=>hk ((hκ0 w).1 hb);refine hm w ow how ?_;cases hh:cD ow.op
   ·exact t7 ((hκ how hnb).wr hh) hk
   ·rfl
  by_cases hBi:B i
  ·
   obtain⟨o',ho',hbar⟩:=(hB0 i).1 hBi;rw[ho] at ho';cases ho'
   have hLi:∀j,j<ol.length->(L j↔j<i):=by
    intro j hj;refine⟨λhl=>?_,λh=>hA j ((hBo hBi hj).1 h)⟩
    rcases cf j i with h | rfl | h
    ·exact h
    ·exact t7 hl hr.new
    ·obtain⟨oj,hoj⟩:=hat hj;exact t7 (hA2 j oj i hoj hl ((hBo hBi hj).2 h)) hr.new
   have hmi:m<=i:=(hβB i hβi hBi).2
   have hkr:∀b v,cq κ b m v=cq κ b i v:=λb v=>(iB hmi λw _ h2 h3=>by
    cases hk:κ w with
    | none=>rfl
    | some k=>
     have:=(hKm w (by omega) (by rw[hk];nofun)).1 ((hLi w (by omega)).2 h3)
     omega).symm
   have hSi:(X i).S=(X m).S:=hS m i hmi (bi hil) (λc h1 h2=>hbi c (by omega) h2) λj o' h1 h2 hj=>Aw λe=>by have:=(hm j o' hj e).1 ((hLi j (by omega)).2 h2);omega
   refine aB.fg (hx.trans (Fg.tmps (f':=(X i).f) λt=>.inl ?_)) ?_
   ·rw[hfr,hg,hkr];by_cases h:∃j o,β<=j/\ol[j]?=some o/\o.dst=some t/\L j
    ·obtain⟨j,o',h0,h1,h2,h3⟩:=h;have hji:=(hLi j (aE h1)).1 h3;rw[(hbase L β).1 j o' t h0 h1 h2 h3]
     exact hF (j+1) i t hji (bi hil) (λc g1 g2=>hbi c (by omega) g2) λk b g1 _ hk e=>by have:=hu h1 hk h2 e;omega
    ·rw[(hbase L β).2 t λj o' h0 h1 h2 h3=>h ⟨j,o',h0,h1,h2,h3⟩];exact hF β i t hβi (bi hil) hbi λk b g1 g2 hk e=>h ⟨k,b,g1,hk,e,(hLi k (aE hk)).2 g2⟩
   ·rw[<-hSi];refine hbar.op ds _ ⟨rfl,hc2,i+1,i+1,a0 _,hil,λj hj=>?_,hbar.z,λc h1 hb=>⟨λh=>?_,h1⟩,λj o' hj _=>⟨λh=>?_,λh=>?_⟩,Fg.tmps λt=>.inl ?_⟩
    ·by_cases e:j=i
     ·exact .inr e
     ·exact .inl ((hLi j (by omega)).2 (by omega))
    ·rcases h with h | rfl
     ·have:=(hLi c (hBl hb)).1 h;omega
     ·omega
    ·rcases h with h | rfl
     ·have:=(hLi j (aE hj)).1 h;omega
     ·omega
    ·by_cases e:j=i
     ·exact .inr e
     ·exact .inl ((hLi j (aE hj)).2 (by omega))
    ·rw[hfr,hg,(hbase _ (i+1)).2 t λj o' h0 h1 h2 h3=>?_,eV (a0 _)]
     rcases h3 with h3 | rfl
     ·have:=(hLi j (aE h1)).1 h3;omega
     ·omega
  have hκi:=hκ ho hBi
  have hun:∀{t:Nat},(o.dst=some t\/t∈ea ol o)->∀w,β<=w->w<ol.length->w≠i->(i<w/\w<m\/m<=w/\w<i)->∀k,κ w=some k->aH k (aC (X w).f t)=aC (X w).f t/\aH k (aC (X β).f t)=aC (X β).f t:=by
   intro t hd w hbw hw hne hcase k hk;obtain⟨ow,how⟩:=hat hw;have hLw:=hKm w hw (by rw[hk];nofun)
   have b1:aY (ms.getD w 0) i=false:=by
    cases hb:aY (ms.getD w 0) i
    ·rfl
    ·rcases hcase with h | h
     ·exact t7 (hA2 w ow i how (hLw.2 h.2) hb) hr.new
     ·have:=zI hback.1 hms w ow how hb;omega
   have b2:aY (ms.getD i 0) w=false:=by
    cases hb:aY (ms.getD i 0) w
    ·rfl
    ·rcases hcase with h | h
     ·have:=zI hback.1 hms i o ho hb;omega
     ·have:=hLw.1 (hA w hb);omega
   have:=hT ho hne.symm b1 b2 hw hk hd;rw[hZ β w hbw (bi hw) λc h1 h2=>by rcases hcase with h | h;exact hbm c h1 (by omega);exact hbi c h1 (by omega),hβ0] at this;exact this
  have hstay:∀{t b:Nat},β<=b->(o.dst=some t\/t∈ea ol o)->b<=i+1->((b=β/\κ i=none)\/∀w,i<w->w<m->w<=ol.length->aC (X w).f t=cq κ b w (aC (X b).f t))->(∀w,w<=i->b<=w->aC (X w).f t=cq κ b w (aC (X b).f t))->(m<=i\/κ i=none)->cq κ b m (aC (X b).f t)=cq κ b i (aC (X b).f t):=by
   intro t b hβb hd hbi hw1 hw2 hκi
   rcases ey m i with hmi | hmi
   ·refine(iB hmi λw h1 h2 h3=>?_).symm
    cases hk:κ w with
    | none=>rfl
    | some k=>rw[<-hw2 w (by omega) h1];exact(hun hd w (by omega) (by omega) (by omega) (.inr ⟨h2,h3⟩) k hk).1
   ·refine iB hmi λw h1 h2 h3=>?_;by_cases hwi:w=i
    ·subst hwi
     rcases hκi with h | h
     ·omega
     ·rw[h];rfl
    ·cases hk:κ w with
     | none=>rfl
     | some k=>
      have hu:=hun hd w (by omega) (by omega) hwi (.inl ⟨by omega,h3⟩) k hk
      rcases hw1 with⟨rfl,_⟩ | hw1
      ·rcases uY (κ:=κ) (b:=b) (m:=w) (v:=aC (X b).f t) with h | h
       ·rw[h];exact hu.2
       ·rw[h];exact rz _
      ·rw[<-hw1 w (by omega) h3 (by omega)];exact hu.1
  have hκw:cD o.op=false->κ i=none:=hκi.wr
  have hlook0:(m<=i\/κ i=none)->∀t∈ea ol o,g L β m t=aC (X i).f t:=by
   intro hκi t hlt
   have hbw:∀w,(w<=i\/i<w/\w<m)->∀b,β<=b->∀c,b<=c->c<w->¬B c:=λw hw b hb c h1 h2=>by rcases hw with hw | hw;exact hbi c (by omega) (by omega);exact hbm c (by omega) (by omega)
   rw[hg];by_cases hno:∀j o,β<=j->ol[j]?=some o->o.dst≠some t
   ·rw[(hbase L β).2 t λj o' h0 hj hd=>t7 hd (hno j o' h0 hj)];have hh:=λw (h:w<=i\/i<w/\w<m) (hbw':β<=w) (hw:w<=ol.length)=>hF β w t hbw' hw (hbw w h β (a0 _)) λj o' h1 _ hj=>hno j o' h1 hj;rw[hh i (.inl (a0 _)) hβi (bi hil)];exact hstay (a0 _) (.inr hlt) (by omega) (.inr λw h1 h2 h=>hh w (.inr ⟨h1,h2⟩) (by omega) h) (λw h h2=>hh w (.inl h) h2 (by omega)) hκi
   ·simp only[ne_eq,Classical.not_forall,Decidable.not_not] at hno;obtain⟨j,o',hβj,hj,hd⟩:=hno
    rcases cf j i with hji | rfl | hji
    ·have h1:=(hP hj).2.2 i o hji ho;unfold Ce at h1;rw[hd,aX] at h1
     have hbit:aY (ms.getD i 0) j=true:=by
      have h2:=h1.2;rw[ei] at h2
      rcases h2 with h2 | h2
      ·exact h2
      ·simp[hlt] at h2
     rw[(hbase L β).1 j o' t hβj hj hd (hA j hbit)]
     have hh:=λw (h:w<=i\/i<w/\w<m) (h1:j+1<=w) (hw:w<=ol.length)=>hF (j+1) w t h1 hw (hbw w h (j+1) (by omega)) λk b hik _ hk e=>by have:=hu hj hk hd e;omega
     rw[hh i (.inl (a0 _)) hji (bi hil)];exact hstay (by omega) (.inr hlt) (by omega) (.inr λw h h3 h2=>hh w (.inr ⟨h,h3⟩) (by omega) h2) (λw h h2=>hh w (.inl h) h2 (by omega)) hκi
    ·rw[hj] at ho;cases ho;exact t7 hlt (p1 t hd)
    ·have h1:=p3 j o' hji hj;unfold Ce at h1;rw[hd,aX,aX,ei] at h1;have h2:=h1.1.2.resolve_left (by simp[hlt]);rw[(hbase L β).2 t λk b _ hk e hl=>hr.new (by have:=hu hj hk hd e;subst this;exact hA2 j o' i hj hl h2)]
     have hh:=λw (hw:w<=i) (hbw':β<=w)=>hF β w t hbw' (by omega) (hbw w (.inl hw) β (a0 _)) λk b _ hki hk e=>by have:=hu hj hk hd e;omega
     rw[hh i (a0 _) hβi]
     rcases hκi with hκi | hκi
     ·exact hstay (a0 _) (.inr hlt) (by omega) (.inr λw h1 h2 _=>by omega) (λw h h2=>hh w h h2) (.inl hκi)
     ·exact hstay (a0 _) (.inr hlt) (by omega) (.inl ⟨rfl,hκi⟩) (λw h h2=>hh w h h2) (.inr hκi)
  have hSS:(∀j o',ol[j]?=some o'->cD o'.op=true->(L j↔j<i))->(X m).S=(X i).S:=by
   intro hh
   rcases ey i m with him | him
   ·exact hS i m him hml (λc h1 h2=>hbm c (by omega) h2) λj o' h1 h2 hj=>Aw λe=>by have a:=hh j o' hj e;have b:=hm j o' hj e;have:=a.1 (b.2 h2);omega
   ·exact(hS m i him (bi hil) (λc h1 h2=>hbi c (by omega) h2) λj o' h1 h2 hj=>Aw λe=>by have a:=hh j o' hj e;have b:=hm j o' hj e;have:=b.1 (a.2 h2);omega).symm
  have hlate:(X i).b=true->(∀j o',i<j->ol[j]?=some o'->cD o'.op=true->(∀c,i<c->c<j->¬B c)->aY (ms.getD j 0) i=true)->(X m).S=(X i).S:=by
   intro hb hh;refine hSS λj o' hj hd=>⟨λhl=>?_,λhlt=>?_⟩
   ·rcases cf j i with h1 | rfl | h1
    ·exact h1
    ·exact t7 hl hr.new
    ·refine t7 (hA2 j o' i hj hl (hh j o' h1 hj hd λc g1 g2=>hbd j o' (by omega) hj hl c (by omega) (by omega))) hr.new
   ·by_cases hjb:j<β
    ·exact hβ j hjb
    ·exact t7 hd (by rw[hB β i hβi (bi hil) hbi hb j o' (by omega) hlt hj];simp)
  refine aB.fg hx ?_
  have hbne:∀t,o.dst≠some t->base (λj=>L j\/j=i,β) t=base (L,β) t:=by
   intro t ht;by_cases h:∃j o,β<=j/\ol[j]?=some o/\o.dst=some t/\L j
   ·obtain⟨j,o',h0,h1,h2,h3⟩:=h;rw[(hbase _ β).1 j o' t h0 h1 h2 (.inl h3),(hbase L β).1 j o' t h0 h1 h2 h3]
   ·rw[(hbase L β).2 t λj o' h0 h1 h2 h3=>h ⟨j,o',h0,h1,h2,h3⟩,(hbase _ β).2 t λj o' h0 h1 h2 h3=>?_]
    rcases h3 with h3 | rfl
    ·exact h ⟨j,o',h0,h1,h2,h3⟩
    ·rw[ho] at h1;cases h1;exact ht h2
  have hβB2:∀c,β<=c->B c->¬(L c\/c=i)/\m<=c:=λc h1 hb=>⟨λh=>h.elim (hβB c h1 hb).1 λe=>hBi (e▸hb),(hβB c h1 hb).2⟩
  have lay:∀{d:Nat} {v:SV},o.dst=some d->cD o.op=false->aC (X (i+1)).f d=v->(λx=>(λx=>x.n=n/\gg ol (λj=>L j\/j=i)/\∃β m,β<=m/\m<=ol.length/\(∀j,j<β->(L j\/j=i))/\(X β).f0=(X β).f/\(∀c,β<=c->B c->¬(L c\/c=i)/\m<=c)/\(∀j o,ol[j]?=some o->cD o.op=true->((L j\/j=i)↔j<m))/\Fg x ⟨iU (g (λj=>L j\/j=i) β m) (cq κ β m) (X β).f ol,n,(X m).S,ds⟩) x) ⟨(d,v)::iU (g L β m) (cq κ β m) (X β).f ol,n,(X m).S,ds⟩:=by
   intro d v hd hwr hv;refine⟨rfl,hc2,β,m,hβm,hml,λj h=>.inl (hβ j h),hβ0,hβB2,λj o' hj hdj=>⟨λh=>?_,λh=>.inl ((hm j o' hj hdj).2 h)⟩,Fg.tmps λt=>.inl ?_⟩
   ·rcases h with h | rfl
    ·exact(hm j o' hj hdj).1 h
    ·rw[ho] at hj;cases hj;rw[hwr] at hdj;cases hdj
   ·rw[hfr,hg]
    show _=if d=t then v else aC (iU (g L β m) (cq κ β m) (X β).f ol) t
    by_cases e:d=t
    ·subst e;rw[t8 rfl,(hbase _ β).1 i o d hβi ho hd (.inr rfl),hv]
     rcases ey m (i+1) with h | h
     ·exact eV h
     ·refine(iB h λw h1 h2 h3=>?_).trans (eV (a0 _))
      cases hk:κ w with
      | none=>rfl
      | some k=>
       rw[<-hv,<-hF (i+1) w d h1 (by omega) (λc g1 g2=>hbm c (by omega) (by omega)) λj o' g1 _ g3 e=>by have:=hu ho g3 hd e;omega];exact(hun (.inl hd) w (by omega) (by omega) (by omega) (.inl ⟨by omega,h3⟩) k hk).1
    ·rw[ul e,hfr,hg,hbne t λh=>e (by rw[hd] at h;exact Option.some.inj h)]
  have hstp:=hX i o ho;have top:∀{d:Nat} {v:SV} {f:Fm},aC ((d,v)::f) d=v:=λ{d v f}=>t8 rfl;have hXi:∃x,X i=x:=⟨_,rfl⟩;have hXj:∃x,X (i+1)=x:=⟨_,rfl⟩;obtain⟨xi,hxi⟩:=hXi;obtain⟨xj,hxj⟩:=hXj
  have hst:cN (ol.take (i+1)) n [o]=true:=by
   have:=hκi.st;unfold cN at this ⊢;simp only[fo,List.all_nil,dl] at this ⊢
   cases hg:o.guard with
   | none=>rw[hg] at this;exact this
   | some q=>obtain⟨j,w⟩:=q;rw[hg] at this;simp only at this ⊢;rw[er,t8 (by have:=p2 j w hg;omega)];exact this
  have hlook:(m<=i\/κ i=none)->(∀gd:Option (Nat×Bool),o.guard=gd->bB (ol.take (i+1)) (iU (g L β m) (cq κ β m) (X β).f ol) gd=bB ol (X i).f gd)/\∀x∈o.op.operands.toList,cT (iU (g L β m) (cq κ β m) (X β).f ol) x=cT (X i).f x:=by
   intro hκi
   have h1:∀t∈ea ol o,aC (iU (g L β m) (cq κ β m) (X β).f ol) t=aC (X i).f t:=λt ht=>by rw[hfr];exact hlook0 hκi t ht
   refine⟨λgd hgd=>?_,A1 h1⟩;rw[<-hgd,<-w6 h1,hgd]
   cases gd with
   | none=>rfl
   | some q=>obtain⟨j,w⟩:=q;simp only[bB];rw[er,t8 (by have:=p2 j w hgd;omega)]
  rw[hxi,hxj] at hstp;by_cases hww:cD o.op=true
  ·have hb:∀j o',ol[j]?=some o'->cD o'.op=true->(L j↔j<i):=by
    intro j o' hj hdj
    rcases cf j i with h1 | rfl | h1
    ·exact⟨λ_=>h1,λ_=>hA j (hord hj ho h1 (by rw[hdj];rfl) (by rw[hww];rfl))⟩
    ·exact⟨λh=>t7 h hr.new,λh=>t7 h (Nat.lt_irrefl _)⟩
    ·exact⟨λhl=>t7 (hA2 j o' i hj hl (hord ho hj h1 (by rw[hww];rfl) (by rw[hdj];rfl))) hr.new,λh=>t7 h (by omega)⟩
   have hmi:m<=i:=cv λh=>hr.new ((hm i o ho hww).2 h);have hl:=hlook (.inl hmi);obtain⟨v,S',k1,k3,k4⟩:=hκi.op hww
   refine aB.run (l':=[]) (f':=j9 (iU (g L β m) (cq κ β m) (X β).f ol) (κ i) o.dst v) (S':=S') hst (by
    rcases k1 with⟨k1,k2⟩ | ⟨k1,⟨d,k2⟩,rfl,rfl,k5⟩
    ·rw[sRun,hl.1 _ rfl,k1,kK (by rw[hww,d9]) hl.2,hSS hb,k2];simp only[sRun]
    ·rw[sRun,hl.1 _ rfl,k1,k5,k2,hSS hb];simp only[sRun,j9,ez]) (.nil ⟨rfl,hc2,β,i+1,by omega,hil,λj h=>.inl (hβ j h),hβ0,λc h1 hb2=>⟨(hβB2 c h1 hb2).1,?_⟩,λj o' hj hdj=>⟨λh=>?_,λh=>?_⟩,?_⟩)
   ·rcases cf c i with h | rfl | h
    ·exact t7 hb2 (hbi c h1 h)
    ·exact t7 hb2 hBi
    ·exact h
   ·rcases h with h | rfl
    ·have:=(hb j o' hj hdj).1 h;omega
    ·omega
   ·by_cases e:j=i
    ·exact .inr e
    ·exact .inl ((hb j o' hj hdj).2 (by omega))
   ·rw[k4];refine Fg.tmps λt=>.inl ?_
    have hr2:aC (j9 (iU (g L β m) (cq κ β m) (X β).f ol) (κ i) o.dst v) t=if o.dst=some t then v else eU (κ i) (g L β m t):=by
     have hk:aC (ez (iU (g L β m) (cq κ β m) (X β).f ol) (κ i)) t=eU (κ i) (g L β m t):=by
      rw[<-hfr L β m t]
      cases κ i with
      | none=>rfl
      | some k=>exact dU _ _ _
     cases o.dst with
     | none=>rw[ul nofun];exact hk
     | some d=>
      show(if d=t then v else _)=_;simp only[Option.some.injEq,hk]
    rw[hr2,hfr,hg];by_cases hd:o.dst=some t
    ·rw[t8 hd,(hbase _ β).1 i o t hβi ho hd (.inr rfl),eV (a0 _),k3 t hd]
    ·rw[ul hd,hbne t hd,hg]
     have hmi2:cq κ (base (L,β) t) m (aC (X (base (L,β) t)).f t)=cq κ (base (L,β) t) i (aC (X (base (L,β) t)).f t):=by
      refine(iB hmi λw h1 h2 h3=>?_).symm
      cases hk:κ w with
      | none=>rfl
      | some k=>
       exfalso;have h4:=hKm w (by omega) (by rw[hk];nofun);obtain⟨ow,how⟩:=hat (show w<ol.length by omega)
       have hnb:¬B w:=λhb=>by rw[(hκ0 w).1 hb] at hk;cases hk
       have hwo:cD ow.op=true:=by
        cases hh:cD ow.op
        ·have:=(hκ how hnb).wr hh;rw[hk] at this;cases this
        ·rfl
       have:=h4.1 ((hb w ow how hwo).2 h3);omega
     rw[hmi2];by_cases hbl:base (L,β) t<=i
     ·exact kG hbl
     ·rw[eV (by omega),eV (by omega)]
      cases hk:κ i with
      | none=>rfl
      | some k=>
       refine Eq.symm ?_;by_cases h:∃j o,β<=j/\ol[j]?=some o/\o.dst=some t/\L j
       ·obtain⟨j,o',h0,h1,h2,h3⟩:=h;rw[(hbase L β).1 j o' t h0 h1 h2 h3] at hbl ⊢
        have hij:j≠i:=λe=>by subst e;rw[ho] at h1;cases h1;exact hd h2
        have hnb:=hbd j o' h0 h1 h3;have:=(hκ h1 (hnb j h0 (bs _))).v t h2 (i,k) (hKL (i+1) j _ (by omega) (bi (aE h1)) (λc g1 g2=>hnb c (by omega) (by omega)) (hκi.k2 k hk))
        rcases this with this | this
        ·exact t7 (hA2 j o' i h1 h3 this) hr.new
        ·exact this
       ·rw[(hbase L β).2 t λj o' h0 h1 h2 h3=>h ⟨j,o',h0,h1,h2,h3⟩] at hbl;omega
  have hκn:=hκw (by simpa using hww);have hl:=hlook (.inr hκn)
  cases hstp with
  | s _ hd hw hwr=>
   refine aB.run (l':=[]) hst ?_ (.nil (lay (v:=.a e7) hd hwr (by rw[hxj];exact top)));rw[sRun,hl.1 _ rfl,hxi,hw];simp only[hd,sRun]
  | r _ hd hw hrd hop=>
   rename_i v _ _;refine aB.run (l':=[]) hst ?_ (.nil (lay (v:=v) hd (nj hrd) (by rw[hxj];exact top)));rw[sRun,hl.1 _ rfl,hxi,hw,kK (by rw[hrd];rfl) hl.2,hxi,hop];simp only[hd,j9,ez,sRun]
  | h _ hd hw hrd hop=>
   rename_i v _ _
   have e:=hlate (by rw[hxi]) λj o' hij hj hdj hnb=>by
    have h1:=(hκ hj (hBn hj hdj)).w hdj;exact all_eq_true.1 h1 i (hH (i+1) j i hij (bi (aE hj)) (λc g1 g2=>hnb c (by omega) g2) (by rw[hxj];exact co))
   rw[hxi] at e;refine aB.run (l':=[]) hst ?_ (.nil (lay (v:=v) hd (nj hrd) (by rw[hxj];exact top)));rw[sRun,hl.1 _ rfl,hxi,hw,kK (by rw[hrd];rfl) hl.2,hxi,e,hop];simp only[hd,j9,ez,sRun]
  | k _ hop hd hw hdy he hcs hq hwk hfl=>
   have hkw:cD o.op=false:=by rw[hop];exact BH hdy
   have e:=hlate (by rw[hxi]) λj o' hij hj hdj _=>hord ho hj hij (by rw[hop,hdy,d9]) (by rw[hdj];rfl);rw[hxi] at e;refine aB.k hst hop hd (by rw[hl.1 _ rfl,hxi];exact hw) hdy (by rw[uu (by rw[<-hop];exact hl.2),hxi];exact hcs) hq (by rw[e];exact hwk) (.inl hfl) (.nil (lay hd hkw (by rw[hxj];exact top)))
  | sk _ _ _ hwr=>exact t7 hwr hww
  | e _ _ hwr=>exact t7 hwr hww
  | a _ _ hwr=>exact t7 hwr hww
  | FC h1 h2 h3=>exact t7 ((hB0 i).2 ⟨o,ho,by rw[hxi,hxj];exact⟨h1,h2,h3,rfl⟩⟩) hBi
 ·rintro L x ⟨hxn,hc,β,m,hβm,hml,hβ,hβ0,hβB,hm,hx⟩ hall;have hnb:∀c,β<=c->¬B c:=λc h1 hb=>(hβB c h1 hb).1 (hall c (hBl hb))
  have hSe:(X m).S=z.S:=by
   rw[<-hXN];exact(hS m ol.length hml (a0 _) (λc h1 _=>hnb c (by omega)) λj o h1 h2 hj=>Aw λe=>by have:=(hm j o hj e).1 (hall j h2);omega).symm
  rw[hSe] at hx;refine⟨⟨z.f,n,z.S,ds⟩,hx.trans (Fg.tmps λt=>.inl ?_),hz⟩
  have hκm:∀b v,cq κ b m v=cq κ b ol.length v:=λb v=>(iB hml λw _ h2 h3=>by
   cases hk:κ w with
   | none=>rfl
   | some k=>
    exfalso;obtain⟨ow,how⟩:=hat h3
    have hnw:¬B w:=λhb=>by rw[(hκ0 w).1 hb] at hk;cases hk
    have hww:cD ow.op=true:=by
     cases hh:cD ow.op
     ·have:=(hκ how hnw).wr hh;rw[hk] at this;cases this
     ·rfl
    have:=(hm w ow how hww).1 (hall w h3)
    omega).symm
  rw[hfr,hg,hκm,<-hXN];by_cases hno:∃j o,β<=j/\ol[j]?=some o/\o.dst=some t
  ·obtain⟨k,o',h0,hk,hd'⟩:=hno;rw[(hbase L β).1 k o' t h0 hk hd' (hall k (aE hk))]
   exact hF (k+1) ol.length t (aE hk) (a0 _) (λc h1 _=>hnb c (by omega)) λj b h1 _ hj e=>by have:=hu hj hk e hd';omega
  ·rw[(hbase L β).2 t λj o' h0 hj hd=>t7 ⟨j,o',h0,hj,hd⟩ hno];exact hF β ol.length t (by omega) (a0 _) (λc h1 _=>hnb c h1) λj o' h0 _ hj hd=>hno ⟨j,o',h0,hj,hd⟩
def SD(P:Program)(ro:Option Nat)(all:List Oper)(ms:List Nat)(n:Nat)(b:Bool)(hp:List Nat)(l:List (Nat×Oper))(f:Fm)(S:List SO)(K:Fm->List SO->Prop):Prop:=∀f0,sj P ro all ms n f0 [] b hp l f S K
def D5{op:Op}(h:lD op=true):cD op=true:=by unfold cD;rw[h];rfl
section
variable {all:List Oper} {ms:List Nat} {n:Nat} {b:Bool} {hp:List Nat} {l:List (Nat×Oper)} {f:Fm} {S:List SO} {K:Fm->List SO->Prop} {i:Nat} {o:Oper} {d:Nat}
def SD.nil(h:K f S):SD P ro all ms n b hp [] f S K:=λ_=>.nil h
theorem SD.s(hst:cN all n [o]=true)(hdst:o.dst=some d)(hw:bB all f o.guard=some false)(hwr:cD o.op=false)(q:SD P ro all ms n b hp l ((d,.a e7)::f) S K):SD P ro all ms n b hp ((i,o)::l) f S K:=λf0=>.s hst hdst hw hwr (q f0)
theorem SD.r{v:SV}{S':List SO}{kill:Option Nat}(hst:cN all n [o]=true)(hdst:o.dst=some d)(hw:bB all f o.guard=some true)(hrr:(fp o.op&&(b||!xC o.op))=true)(hop:sOp P f S o.op=some (v,S',kill))
 (hk:SD P ro all ms n b (_root_.cond (xC o.op) (i::hp) hp) l ((d,v)::f) S K):SD P ro all ms n b hp ((i,o)::l) f S K:=λf0=>.r hst hdst hw hrr hop (hk f0) trivial
def SD.ri{tt:TypeId}{x:Operand}{cs0:List SV}{v:SV}(hst:cN all n [o]=true)(hdst:o.dst=some d)(hw:bB all f o.guard=some true)(hop:o.op=.load tt x)(hx:cT f x=some (.ip cs0))(hv:partS P tt cs0 0=some v)
 (q:SD P ro all ms n b hp l ((d,v)::f) S K):SD P ro all ms n b hp ((i,o)::l) f S K:=λf0=>.ri hst hdst hw hop hx hv trivial (q f0)
theorem SD.k{cl:Call}{g:FuncId}{vs ws:List SV}{r:SV}(hst:cN all n [o]=true)(hop:o.op=.call cl)(hdst:o.dst=some d)(hw:bB all f o.guard=some true)(hdy:dg (.call cl)=true)(he:ng (.call cl)=true)
 (hc:callS P f cl=some (g,vs)) (hq:PC P g ws (·=r)) (hwk:aM S vs ws) (hr:nb r=true) (q:SD P ro all ms n true hp l ((d,r)::f) S K):SD P ro all ms n true hp ((i,o)::l) f S K:=λf0=>.k hst hop hdst hw hdy he hc hq hwk hr (q f0)
theorem SD.e{v:SV}{S':List SO}(hst:cN all n [o]=true)(hdst:o.dst=none)(hw:bB all f o.guard=some true)(he:ng o.op=true)(hwr:lD o.op=true)(hms:hp.all (λj=>aY (ms.getD i 0) j)=true)(hop:sOp P f S o.op=some (v,S',none))
 (q:SD P ro all ms n false hp l f S' K):SD P ro all ms n b hp ((i,o)::l) f S K:=λf0=>.e hst hw (D5 hwr) hms hop trivial (by rw[hdst];exact q f0)
def SD.ed{v:SV}{S':List SO}(hst:cN all n [o]=true)(hdst:o.dst=some d)(hw:bB all f o.guard=some true)(he:ng o.op=true)(hwr:lD o.op=true)(hms:hp.all (λj=>aY (ms.getD i 0) j)=true)(hop:sOp P f S o.op=some (v,S',none))
 (q:SD P ro all ms n false hp l ((d,v)::f) S' K):SD P ro all ms n b hp ((i,o)::l) f S K:=λf0=>.e hst hw (D5 hwr) hms hop trivial (by rw[hdst];exact q f0)
end
def ak.BG{id:Nat}{ops:Array Oper}{st:cM}{Q:Ex->cM->Prop}{ol:List Oper}{ms:List Nat}(hol:ops.toList=ol)(hms:iD ol []=ms)(hok:((fX 0 ol&&P.follows .mixedOrders)&&(rM ol ms (bF 0 ol)&&AD ms (bF 0 ol)))=true)
 (h:SD P ro ol ms st.n true [] (bF 0 ol) st.f st.S λf' S'=>Q .normal ⟨f',st.n,S',st.ds⟩):ak P ro (.region id ops true) st Q:=.Ea hol hms hok (h _)
end
end
end Go.Ev
namespace Go.Proofs
open Go.Ev
set_option maxRecDepth 100000
def cw:kV prog:=C6 (by kernel_rfl)
def wV:qh prog 106 .clone:=qh.clone λt r es ck w h=>by
 rw[run_callFunc_extern Tryz.func106 (by kernel_rfl) (by kernel_rfl) (by kernel_rfl) (e:=Extern.MapsClone.clone) (by kernel_rfl)]
 have e:∃s:String,Extern.MapsClone.clone #[.iface t (.map (some r))]=(getObj r>>=λo=>match o with
  | .map entries clock=>(newObj (.map entries clock)>>=λn=>pure (.iface t (.map (some n))))
  | _=>stuck s):=⟨_,rfl⟩
 obtain⟨s,e⟩:=e;rw[e];simp[MapKept.run_getObj_map h,Result.andThen,go_sem]
def wW:qh prog 199 .indexByte:=qh.indexByte λx c w=>by
 rw[run_callFunc_extern Tryz.func199 (by kernel_rfl) (by kernel_rfl) (by kernel_rfl) (e:=Extern.BytealgIndexByte.indexByte) (by kernel_rfl),Lib.run_indexByteString];rfl
def n2{a b:Prop}(x:a)(y:b):a/\b:=⟨x,y⟩
def n3{a b c:Prop}(x:a)(y:b)(z:c):a/\b/\c:=⟨x,y,z⟩
def n4{a b c d:Prop}(x:a)(y:b)(z:c)(w:d):a/\b/\c/\d:=⟨x,y,z,w⟩
def n5{a b c d e:Prop}(x:a)(y:b)(z:c)(w:d)(u:e):a/\b/\c/\d/\e:=⟨x,y,z,w,u⟩
def n6{a b c d e f:Prop}(x:a)(y:b)(z:c)(w:d)(u:e)(v:f):a/\b/\c/\d/\e/\f:=⟨x,y,z,w,u,v⟩
def n7{a b c d e f g:Prop}(a1:a)(b1:b)(c1:c)(d1:d)(e1:e)(f1:f)(g1:g):a/\b/\c/\d/\e/\f/\g:=⟨a1,b1,c1,d1,e1,f1,g1⟩
def n8{a b c d e f g h:Prop}(a1:a)(b1:b)(c1:c)(d1:d)(e1:e)(f1:f)(g1:g)(h1:h):a/\b/\c/\d/\e/\f/\g/\h:=⟨a1,b1,c1,d1,e1,f1,g1,h1⟩
def n9{a b c d e f g h i:Prop}(a1:a)(b1:b)(c1:c)(d1:d)(e1:e)(f1:f)(g1:g)(h1:h)(i1:i):a/\b/\c/\d/\e/\f/\g/\h/\i:=⟨a1,b1,c1,d1,e1,f1,g1,h1,i1⟩
def n10{a b c d e f g h i j:Prop}(a1:a)(b1:b)(c1:c)(d1:d)(e1:e)(f1:f)(g1:g)(h1:h)(i1:i)(j1:j):a/\b/\c/\d/\e/\f/\g/\h/\i/\j:=⟨a1,b1,c1,d1,e1,f1,g1,h1,i1,j1⟩
def EX:cn 1 SO.gone=[.gone]:=rfl
def EY:cn 2 SO.gone=[.gone,.gone]:=rfl
def EZ:cn 3 SO.gone=[.gone,.gone,.gone]:=rfl
def E0:cn 4 SO.gone=[.gone,.gone,.gone,.gone]:=rfl
def reps:type_of% EX/\type_of% EY/\type_of% EZ/\type_of% E0:=⟨EX,EY,EZ,E0⟩
def zV{p q:Prop}(h:p->q:=by intro h;(repeat refine ak.seq ?_);refine ak.r0 (by rfl) (by simp only[bf,aN,slS,an,Option.bind_some,Option.map_some,↓reduceIte,Nat.reduceEqDiff,Nat.reduceAdd,Nat.reduceMul,Nat.reduceLeDiff,Nat.reduceLT,ab,ah,isSub];first | done | rfl) ?_;(try change ak _ _ _ _ _);exact h)(k:p):q:=h k
def aq{p q r:Prop}(f:r)(h:r->p->q:=by intro f h;(repeat refine ak.seq ?_);refine ak.r0 (by rfl) (by simp only[bf,aN,slS,an,Option.bind_some,Option.map_some,↓reduceIte,Nat.reduceEqDiff,Nat.reduceAdd,Nat.reduceMul,Nat.reduceLeDiff,Nat.reduceLT,ab,ah,isSub,f];first | done | rfl) ?_;(try change ak _ _ _ _ _);exact h)(k:p):q:=h f k
def zC{p q:Prop}(h:p->q:=by intro h;(repeat refine ak.seq ?_);refine ak.Dl (by rfl) (by simp only[bf,aN,slS,an,Option.bind_some,Option.map_some,↓reduceIte,Nat.reduceEqDiff,Nat.reduceAdd,Nat.reduceMul,Nat.reduceLeDiff,Nat.reduceLT,ab,ah,isSub];first | done | rfl) ?_;exact h)(k:p):q:=h k
def e8{p q r:Prop}(f:r)(h:r->p->q:=by intro f h;(repeat refine ak.seq ?_);refine ak.Dl (by rfl) (by simp only[bf,aN,slS,an,Option.bind_some,Option.map_some,↓reduceIte,Nat.reduceEqDiff,Nat.reduceAdd,Nat.reduceMul,Nat.reduceLeDiff,Nat.reduceLT,ab,ah,isSub,f];first | done | rfl) ?_;exact h)(k:p):q:=h f k
def zR{p q:Prop}(h:p->q:=by intro h;refine aB.r0 (by rfl) (by simp only[bf,aN,slS,an,Option.bind_some,Option.map_some,↓reduceIte,Nat.reduceEqDiff,Nat.reduceAdd,Nat.reduceMul,Nat.reduceLeDiff,Nat.reduceLT,ab,ah,isSub];first | done | rfl) ?_;(try change ak _ _ _ _ _);exact h)(k:p):q:=h k
def bE{p q r:Prop}(f:r)(h:r->p->q:=by intro f h;refine aB.r0 (by rfl) (by simp only[bf,aN,slS,an,Option.bind_some,Option.map_some,↓reduceIte,Nat.reduceEqDiff,Nat.reduceAdd,Nat.reduceMul,Nat.reduceLeDiff,Nat.reduceLT,ab,ah,isSub,f];first | done | rfl) ?_;(try change ak _ _ _ _ _);exact h)(k:p):q:=h f k
def zQ{p q:Prop}(h:p->q:=by intro h;refine aB.run (by rfl) (by simp only[bf,aN,slS,an,Option.bind_some,Option.map_some,↓reduceIte,Nat.reduceEqDiff,Nat.reduceAdd,Nat.reduceMul,Nat.reduceLeDiff,Nat.reduceLT,ab,ah,isSub];first | done | rfl) ?_;exact h)(k:p):q:=h k
def Et{p q r:Prop}(f:r)(h:r->p->q:=by intro f h;refine aB.run (by rfl) (by simp only[bf,aN,slS,an,Option.bind_some,Option.map_some,↓reduceIte,Nat.reduceEqDiff,Nat.reduceAdd,Nat.reduceMul,Nat.reduceLeDiff,Nat.reduceLT,ab,ah,isSub,f];first | done | rfl) ?_;exact h)(k:p):q:=h f k
def zY{p q:Prop}(h:p->q:=by intro h;(repeat refine ak.seq ?_);refine ak.yes rfl ?_;(try (refine ak.skip ?_;try change ak _ _ _ _ _));exact h)(k:p):q:=h k
def zN{p q:Prop}(h:p->q:=by intro h;(repeat refine ak.seq ?_);refine ak.no rfl ?_;(try (refine ak.skip ?_;try change ak _ _ _ _ _));exact h)(k:p):q:=h k
def zE{p q:Prop}(h:p->q:=by intro h;refine ak.ret ?_;(try simp only[dY,SThen,SRound,SNoGoto]);exact h)(k:p):q:=h k
def zB{p q:Prop}(h:p->q:=by intro h;(repeat refine ak.seq ?_);refine ak.block ?_;exact h)(k:p):q:=h k
section
variable {P:Program} {ro:Option Nat} {f:Fm} {n:Nat} {S:List SO} {ds:List eE} {Q:Ex->cM->Prop}
def zK{all:List Oper}{o:Oper}{l:List Oper}{K:cM->Prop}{d:Nat}{c:Call}{g:FuncId}{vs ws:List SV}{r:SV}(hq:PC P g ws (·=r))
 (hst:cN all n [o]=true:=by rfl) (hop:o.op=.call c:=by rfl) (hdst:o.dst=some d:=by rfl) (hw:bB all f o.guard=some true:=by rfl) (hdy:dg (.call c)=true:=by rfl)
 (hc:callS P f c=some (g,vs):=by simp only[bf,aN,slS,an,Option.bind_some,Option.map_some,↓reduceIte,Nat.reduceEqDiff,Nat.reduceAdd,Nat.reduceMul,Nat.reduceLeDiff,Nat.reduceLT,ab,ah,isSub,callS];first | done | rfl) (hwk:aM S vs ws:=by first | exact aM.refl rfl | ((repeat' (first | exact aM.nil | apply aM.cons | exact Wk.refl rfl | exact Wk.nil _ | apply Wk.ag | apply Wk.aO | apply Wk.fn | refine Wk.ptr rfl ?_ (by first | decide | (simp only[aN];omega)) | refine Wk.buf rfl ?_ (by first | decide | (simp only[aN];omega)) | refine Wk.map rfl ?_ | exact aM.refl rfl));done)) (hfl:nb r=true\/aM [] vs ws:=by exact .inl rfl) (hk:aB P ro all l ⟨(d,r)::f,n,S,ds⟩ K):aB P ro all (o::l) ⟨f,n,S,ds⟩ K:=
 aB.k hst hop hdst hw hdy hc hq hwk hfl hk
def zO{fn:Func}{Qr:SV->Prop}{e:Ex}{vs:List SV}{r:SV}(rs:List ResultVar)(he:fj e=true:=by rfl)(hr:fn.results.toList=rs:=by rfl)(h:gB P f S rs=some vs:=by simp only[bf,aN,slS,an,Option.bind_some,Option.map_some,↓reduceIte,Nat.reduceEqDiff,Nat.reduceAdd,Nat.reduceMul,Nat.reduceLeDiff,Nat.reduceLT,ab,ah,isSub];first | done | rfl)(hw:Wk S (bL vs) r:=by exact Wk.refl rfl)(hq:Qr r:=by (try simp only[bL,aF]);first | done | rfl):kr P fn Qr e ⟨f,n,S,[]⟩:=kr.of he hr h hw hq
def zH{f':Fm}{S':List SO}(hf:HasS f f':=by (simp only[bf,aN,cA,slS,↓reduceIte,Nat.reduceEqDiff])<;>(repeat' apply And.intro)<;>first | rfl | trivial)(hs:oH S S' 0:=by (simp only[bf,aN,slS,or_true,true_or])<;>(repeat' apply And.intro)<;>first | exact .inr rfl | exact .inl rfl | trivial):Fg ⟨f,n,S,ds⟩ ⟨f',n,S',ds⟩:=Fg.less hf hs
def bg{r:Prop}{f':Fm}{S':List SO}(k:r)(hf:r->HasS f f':=by intro k;(simp only[bf,aN,cA,slS,↓reduceIte,Nat.reduceEqDiff,k])<;>(repeat' apply And.intro)<;>first | rfl | trivial)(hs:r->oH S S' 0:=by intro k;(simp only[bf,aN,slS,or_true,true_or,k])<;>(repeat' apply And.intro)<;>first | exact .inr rfl | exact .inl rfl | trivial):Fg ⟨f,n,S,ds⟩ ⟨f',n,S',ds⟩:=Fg.less (hf k) (hs k)
def zG{p:Prop}(h:p:=by (simp only[HasW,bf,aN,true_or,or_true,↓reduceIte,Nat.reduceEqDiff])<;>(repeat' apply And.intro)<;>first | exact .inl rfl | trivial | exact .inr (Wk.buf rfl (aM.refl rfl) (by first | decide | (simp only[aN];omega))) | exact .inr (Wk.map rfl (aM.refl rfl)) | exact .inr (Wk.ptr rfl (aM.refl rfl) (by first | decide | (simp only[aN];omega)))):p:=h
def jM{r p:Prop}(k:r)(h:r->p:=by intro k;((simp only[HasW,bf,aN,true_or,or_true,↓reduceIte,Nat.reduceEqDiff,k])<;>(repeat' apply And.intro)<;>first | exact .inl rfl | trivial | exact .inr (Wk.buf rfl (aM.refl rfl) (by first | decide | (simp only[aN];omega))) | exact .inr (Wk.map rfl (aM.refl rfl)) | exact .inr (Wk.ptr rfl (aM.refl rfl) (by first | decide | (simp only[aN];omega))))):p:=h k
def zs{p q:Prop}(h:p->q:=by intro h;(repeat refine ak.seq ?_);exact h)(k:p):q:=h k
def zL{α:Type}(l:List α)(I:Nat->Prop)(fr:Nat->Fm)(T:Nat->List SO){id:Nat}{x:Code}(hf:Fg ⟨f,n,S,[]⟩ ⟨fr 0,n,T 0,[]⟩)(h0:I 0)
 (h:∀k,k<=l.length->I k->ak P ro x ⟨fr k,n,T k,[]⟩ (SRound (λm st=>∃k,k<=l.length/\m=l.length-k/\I k/\st=⟨fr k,n,T k,[]⟩) (l.length-k) (dY id Q))):ak P ro (.block id (.loop x)) ⟨f,n,S,[]⟩ Q:=
 ak.block (ak.loop (λm st=>∃k,k<=l.length/\m=l.length-k/\I k/\st=⟨fr k,n,T k,[]⟩) l.length hf ⟨0,ct _,rfl,h0,rfl⟩ (by rintro m st ⟨k,_,_,_,rfl⟩;rfl) (by rintro m st ⟨k,hk,rfl,hI,rfl⟩;exact h k hk hI))
def zX{α:Type}{l:List α}{I:Nat->Prop}{fr:Nat->Fm}{T:Nat->List SO}{k:Nat}{st:cM}(hlt:k<l.length)(hf:Fg st ⟨fr (k+1),n,T (k+1),[]⟩)(hI:I (k+1)):
 SRound (λm st=>∃k,k<=l.length/\m=l.length-k/\I k/\st=⟨fr k,n,T k,[]⟩) (l.length-k) Q .normal st:=⟨l.length-(k+1),_,by omega,hf,k+1,hlt,rfl,hI,rfl⟩
def zi{k L B:Nat}(h1:k<L)(h2:L<=B)(t:TypeId)(hB:B<=9223372036854775807:=by decide):bz Tryz.prog .add t (.int .i64 (k:Int)) (.int .i64 1)=some (.int .i64 ((k:Int)+1)):=iP (iW h1 h2 hB)
def zf(n:Nat):decide ((n:Int)<(n:Int))=false:=by simp
def zt{k n:Nat}(h:k<n):decide ((k:Int)<(n:Int))=true:=by simp only[wp];omega
def zx{α:Type}{l:List α}{k:Nat}(h:k<l.length):∃z,l[k]?=some z:=⟨l[k],ay h⟩
def zS{r:Prop}{all:List Oper}{o:Oper}{l:List Oper}{K:cM->Prop}{d:Nat}{c:Call}{g:FuncId}{vs ws:List SV}{mv:List Nat}{S0 S1 S2:List SO}{r0 r2:SV}{f2:Fm}(os:List Nat)(k:r)(hq:SC P g ws S0 mv (λr S'=>r=r0/\S'=S1))
 (hk:aB P ro all l ⟨(d,r2)::f2,n,S2,ds⟩ K) (hst:cN all n [o]=true:=by rfl) (hop:o.op=.call c:=by rfl) (hdst:o.dst=some d:=by rfl) (hw:bB all f o.guard=some true:=by rfl) (hdy:dg (.call c)=true:=by rfl)
 (hc:callS P f c=some (g,vs):=by simp only[bf,aN,slS,an,Option.bind_some,Option.map_some,↓reduceIte,Nat.reduceEqDiff,Nat.reduceAdd,Nat.reduceMul,Nat.reduceLeDiff,Nat.reduceLT,ab,ah,isSub,callS];first | done | rfl) (hvs:r->fV (eM os S.length) ws=vs:=by intro k;simp only[cX,aN,slS,↓reduceIte,Nat.reduceEqDiff,Nat.reduceAdd,Nat.reduceSub,Nat.reduceMul,Nat.reduceLeDiff,Nat.reduceLT,k];first | done | rfl) (hK:os.length=S0.length:=by rfl) (hnd:os.Nodup:=by decide)
 (hos:r->hosL S (eM os S.length) S0 os:=by intro k;simp only[hosL,cX,aN,slS,k]<;>(repeat' apply And.intro)<;>first | trivial | rfl | (intro hh;cases hh))
 (hb1:r->bV S1.length r0=true:=by intro k;simp only[qx,cX,aN,slS,Nat.reduceAdd,Nat.reduceLT,decide_true,k];first | done | rfl) (hb2:r->mC S1.length S1=true:=by intro k;simp only[qx,cX,aN,slS,Nat.reduceAdd,Nat.reduceLT,decide_true,k];first | done | rfl)
 (hr:r->de (eM os S.length) r0=r2:=by intro k;simp only[cX,aN,slS,↓reduceIte,Nat.reduceEqDiff,Nat.reduceAdd,Nat.reduceSub,Nat.reduceMul,Nat.reduceLeDiff,Nat.reduceLT,k];first | done | rfl) (hf:r->ic (forgot os mv S.length (S1.length-os.length)) f=f2:=by intro k;simp only[cX,aN,slS,↓reduceIte,Nat.reduceEqDiff,Nat.reduceAdd,Nat.reduceSub,Nat.reduceMul,Nat.reduceLeDiff,Nat.reduceLT,k,cm,bZ,killO,aH,bf];first | done | rfl) (hS:r->afterS S os mv S1=S2:=by intro k;simp only[cX,aN,slS,↓reduceIte,Nat.reduceEqDiff,Nat.reduceAdd,Nat.reduceSub,Nat.reduceMul,Nat.reduceLeDiff,Nat.reduceLT,k,cm,bZ,killO,aH,bf];first | done | rfl):aB P ro all (o::l) ⟨f,n,S,ds⟩ K:=
 aB.sk os hst hop hdst hw hdy hc hq (hvs k) hK hnd (hos k) (hb1 k) (hb2 k) (hr k) (hf k) (hS k) hk
def zP{fn:Func}{K:Nat}{mv:List Nat}{Qs:SV->List SO->Prop}{e:Ex}{vs:List SV}(rs:List ResultVar)(he:fj e=true:=by rfl)(hr:fn.results.toList=rs:=by rfl)(h:gB P f S rs=some vs:=by simp only[bf,aN,slS,an,Option.bind_some,Option.map_some,↓reduceIte,Nat.reduceEqDiff,Nat.reduceAdd,Nat.reduceMul,Nat.reduceLeDiff,Nat.reduceLT,ab,ah,isSub];first | done | rfl)
 (hq:Qs (bL vs) S:=by (try simp only[bL,aF]);first | done | exact⟨rfl,rfl⟩ | exact⟨trivial,trivial⟩ | exact⟨rfl,trivial⟩ | exact⟨trivial,rfl⟩ | trivial) (hK:K<=S.length:=by first | decide | (simp only[aN];omega)) (hw:∀i,i<K->i∉mv->aC f (1000000+i)=.ptr i 0:=by intro i hi;have hi2:i<_:=hi;clear hi;simp only[List.length_cons,List.length_nil,Nat.zero_add,Nat.reduceAdd,Nat.not_lt_zero] at hi2<;>(rcases i with _ | i<;>first | (exfalso;omega) | (intro hm_;first | rfl | (exfalso;apply hm_;simp;done)) | (rcases i with _ | i<;>first | (exfalso;omega) | (intro hm_;first | rfl | (exfalso;apply hm_;simp;done)) | (rcases i with _ | i<;>first | (exfalso;omega) | (intro hm_;first | rfl | (exfalso;apply hm_;simp;done)))))):Bi P fn K mv Qs e ⟨f,n,S,[]⟩:=Bi.of he hr h hq hK hw
def zD{p q:Prop}(h:p->q:=by intro h;(repeat (first | refine SD.r (by rfl) rfl (by rfl) (by rfl) (by simp only[bf,aN,slS,an,Option.bind_some,Option.map_some,↓reduceIte,Nat.reduceEqDiff,Nat.reduceAdd,Nat.reduceMul,Nat.reduceLeDiff,Nat.reduceLT,ab,ah,isSub];first | done | rfl) ?_ | refine SD.s (by rfl) rfl (by rfl) (by rfl) ?_ | fail));exact h)(k:p):q:=h k
def jL{p q r:Prop}(f:r)(h:r->p->q:=by intro f h;(repeat (first | refine SD.r (by rfl) rfl (by rfl) (by rfl) (by simp only[bf,aN,slS,an,Option.bind_some,Option.map_some,↓reduceIte,Nat.reduceEqDiff,Nat.reduceAdd,Nat.reduceMul,Nat.reduceLeDiff,Nat.reduceLT,ab,ah,isSub,f];first | done | rfl) ?_ | refine SD.s (by rfl) rfl (by rfl) (by rfl) ?_ | fail));exact h)(k:p):q:=h f k
def zM{p q:Prop}(h:p->q:=by intro h;refine SD.nil ?_;(try change ak _ _ _ _ _);exact h)(k:p):q:=h k
def zp{p:Prop}(h:p:=by first | exact λi y h=>t7 h (Nat.not_lt_zero _) | trivial | rfl | assumption):p:=h
def kU{id:Nat}{ops:Array Oper}{st:cM}{ol:List Oper}(ms:List Nat)(h:SD P ro ol ms st.n true [] (bF 0 ol) st.f st.S λf' S'=>Q .normal ⟨f',st.n,S',st.ds⟩)(hol:ops.toList=ol:=by rfl)(hms:iD ol []=ms:=by kernel_rfl)(hok:((fX 0 ol&&P.follows .mixedOrders)&&(rM ol ms (bF 0 ol)&&AD ms (bF 0 ol)))=true:=by kernel_rfl):ak P ro (.region id ops true) st Q:=ak.BG hol hms hok h
def zl{p:Prop}(h:p:=by simp only[bf,aN,slS,an,Option.bind_some,Option.map_some,↓reduceIte,Nat.reduceEqDiff,Nat.reduceAdd,Nat.reduceMul,Nat.reduceLeDiff,Nat.reduceLT,ab,ah,isSub];first | done | rfl):p:=h
def gf{p r:Prop}(k:r)(h:r->p:=by intro k;simp only[bf,aN,slS,an,Option.bind_some,Option.map_some,↓reduceIte,Nat.reduceEqDiff,Nat.reduceAdd,Nat.reduceMul,Nat.reduceLeDiff,Nat.reduceLT,ab,ah,isSub,k];first | done | rfl):p:=h k
def zc{p:Prop}(h:p:=by simp only[bf,aN,slS,an,Option.bind_some,Option.map_some,↓reduceIte,Nat.reduceEqDiff,Nat.reduceAdd,Nat.reduceMul,Nat.reduceLeDiff,Nat.reduceLT,ab,ah,isSub,callS];first | done | rfl):p:=h
def xb{p r:Prop}(k:r)(h:r->p:=by intro k;simp only[bf,aN,slS,an,Option.bind_some,Option.map_some,↓reduceIte,Nat.reduceEqDiff,Nat.reduceAdd,Nat.reduceMul,Nat.reduceLeDiff,Nat.reduceLT,ab,ah,isSub,callS,k];first | done | rfl):p:=h k
def zw{p:Prop}(h:p:=by first | exact aM.refl rfl | ((repeat' (first | exact aM.nil | apply aM.cons | exact Wk.refl rfl | exact Wk.nil _ | apply Wk.ag | apply Wk.aO | apply Wk.fn | refine Wk.ptr rfl ?_ (by first | decide | (simp only[aN];omega)) | refine Wk.buf rfl ?_ (by first | decide | (simp only[aN];omega)) | refine Wk.map rfl ?_ | exact aM.refl rfl));done)):p:=h
def zv{p:Prop}(h:p:=by (try simp only[bL,aF]);(repeat' (first | exact Wk.refl rfl | exact aM.nil | apply aM.cons | exact Wk.nil _ | apply Wk.ag | apply Wk.aO | refine Wk.ptr rfl ?_ (by first | decide | (simp only[aN];omega)) | refine Wk.buf rfl ?_ (by first | decide | (simp only[aN];omega)) | refine Wk.map rfl ?_ | exact aM.refl rfl))):p:=h
def Fj{p:Prop}(h:p:=by (simp only[bf,aN,cA,slS,↓reduceIte,Nat.reduceEqDiff])<;>(repeat' apply And.intro)<;>first | rfl | trivial):p:=h
def Eu{p r:Prop}(k:r)(h:r->p:=by intro k;(simp only[bf,aN,cA,slS,↓reduceIte,Nat.reduceEqDiff,k])<;>(repeat' apply And.intro)<;>first | rfl | trivial):p:=h k
def FM{p:Prop}(h:p:=by (simp only[bf,aN,slS,or_true,true_or])<;>(repeat' apply And.intro)<;>first | exact .inr rfl | exact .inl rfl | trivial):p:=h
def Ew{p r:Prop}(k:r)(h:r->p:=by intro k;(simp only[bf,aN,slS,or_true,true_or,k])<;>(repeat' apply And.intro)<;>first | exact .inr rfl | exact .inl rfl | trivial):p:=h k
def zq{p:Prop}(h:p:=by (try simp only[bL,aF]);first | done | rfl):p:=h
def F0{p:Prop}(h:p:=by (try simp only[bL,aF]);first | done | exact⟨rfl,rfl⟩ | exact⟨trivial,rfl⟩ | exact⟨rfl,trivial⟩ | exact⟨trivial,trivial⟩):p:=h
def zg{p:Prop}(h:p:=by intro i hi;have hi2:i<_:=hi;clear hi;simp only[List.length_cons,List.length_nil,Nat.zero_add,Nat.reduceAdd,Nat.not_lt_zero] at hi2<;>(rcases i with _ | i<;>first | (exfalso;omega) | (intro hm_;first | rfl | (exfalso;apply hm_;simp;done)) | (rcases i with _ | i<;>first | (exfalso;omega) | (intro hm_;first | rfl | (exfalso;apply hm_;simp;done)) | (rcases i with _ | i<;>first | (exfalso;omega) | (intro hm_;first | rfl | (exfalso;apply hm_;simp;done)))))):p:=h
def F8{p:Prop}(h:p:=by simp only[cX,aN,slS,↓reduceIte,Nat.reduceEqDiff,Nat.reduceAdd,Nat.reduceSub,Nat.reduceMul,Nat.reduceLeDiff,Nat.reduceLT];first | done | rfl):p:=h
def FY{p r:Prop}(k:r)(h:r->p:=by intro k;simp only[cX,aN,slS,↓reduceIte,Nat.reduceEqDiff,Nat.reduceAdd,Nat.reduceSub,Nat.reduceMul,Nat.reduceLeDiff,Nat.reduceLT,k];first | done | rfl):p:=h k
def F9{p:Prop}(h:p:=by simp only[cX,aN,slS,↓reduceIte,Nat.reduceEqDiff,Nat.reduceAdd,Nat.reduceSub,Nat.reduceMul,Nat.reduceLeDiff,Nat.reduceLT,cm,bZ,killO,aH,bf];first | done | rfl):p:=h
def FZ{p r:Prop}(k:r)(h:r->p:=by intro k;simp only[cX,aN,slS,↓reduceIte,Nat.reduceEqDiff,Nat.reduceAdd,Nat.reduceSub,Nat.reduceMul,Nat.reduceLeDiff,Nat.reduceLT,k,cm,bZ,killO,aH,bf];first | done | rfl):p:=h k
def F7{p:Prop}(h:p:=by simp only[hosL,cX,aN,slS]<;>(repeat' apply And.intro)<;>first | trivial | rfl | (intro hh;cases hh)):p:=h
def FX{p r:Prop}(k:r)(h:r->p:=by intro k;simp only[hosL,cX,aN,slS,k]<;>(repeat' apply And.intro)<;>first | trivial | rfl | (intro hh;cases hh)):p:=h k
def F6{p:Prop}(h:p:=by simp only[qx,cX,aN,slS,Nat.reduceAdd,Nat.reduceLT,decide_true];first | done | rfl):p:=h
def FW{p r:Prop}(k:r)(h:r->p:=by intro k;simp only[qx,cX,aN,slS,Nat.reduceAdd,Nat.reduceLT,decide_true,k];first | done | rfl):p:=h k
def zd{p:Prop}(h:p:=by first | decide | (simp only[aN];omega)):p:=h
def sK(k:Nat):(k:Int)+1=((k+1:Nat):Int):=rfl
def bA(a b:Int)(h : -9223372036854775808<=a+b/\a+b<=9223372036854775807)(P:Program)(t:TypeId):bz P .add t (.int .i64 a) (.int .i64 b)=some (.int .i64 (a+b)):=iP h
def bS(a b:Int)(h : -9223372036854775808<=a-b/\a-b<=9223372036854775807)(P:Program)(t:TypeId):bz P .sub t (.int .i64 a) (.int .i64 b)=some (.int .i64 (a-b)):=om h
def bM(a b:Int)(h : -9223372036854775808<=a*b/\a*b<=9223372036854775807)(P:Program)(t:TypeId):bz P .mul t (.int .i64 a) (.int .i64 b)=some (.int .i64 (a*b)):=oi h
def Ga{p:Prop}(h:p:=by (simp only[hosG,cX,aN,slS])<;>(repeat' apply And.intro)<;>first | trivial | exact .inl rfl | exact .inr rfl | exact .inr trivial | exact .inl trivial):p:=h
def yU{p r:Prop}(k:r)(h:r->p:=by intro k;(simp only[hosG,cX,aN,slS,k])<;>(repeat' apply And.intro)<;>first | trivial | exact .inl rfl | exact .inr rfl | exact .inr trivial | exact .inl trivial):p:=h k
def Gb{p:Prop}(h:p:=by (simp only[bf,cX,aN,slS])<;>(repeat' apply And.intro)<;>first | rfl | trivial):p:=h
def yV{p r:Prop}(k:r)(h:r->p:=by intro k;(simp only[bf,cX,aN,slS,k])<;>(repeat' apply And.intro)<;>first | rfl | trivial):p:=h k
def pB(n:Nat){g:FuncId}{fn:Func}{c:Code}{args:List SV}{Q:SV->Prop}(hf:Tryz.prog.funcs[g]?=some fn)(hw:ak Tryz.prog none c ⟨fa 0 args,n,[],[]⟩ (kr Tryz.prog fn Q))(hb:fn.body=some c:=by rfl)(hn:args.length+(fn.ntmps-args.length)=n:=by rfl)(hlim:n<=1000000:=by exact Nat.le_of_ble_eq_true rfl):PC Tryz.prog g args Q:=PC.body cw hf hb hn hw hlim
section
variable (n:Nat) {g:FuncId} {fn:Func} {c:Code} {args:List SV} {S0:List SO} {mv:List Nat} {Q:SV->List SO->Prop}
def Ap(hf:Tryz.prog.funcs[g]?=some fn)(hw:ak Tryz.prog none c ⟨fa 0 args++[],n,S0,[]⟩ (Bi Tryz.prog fn S0.length mv Q))(hb:fn.body=some c:=by rfl)(hn:args.length+(fn.ntmps-args.length)=n:=by rfl)(hlim:n<=1000000:=by exact Nat.le_of_ble_eq_true rfl)(hW:[]=ij S0.length:=by rfl)(hK:S0.length<=1000000:=by exact Nat.le_of_ble_eq_true rfl):SC Tryz.prog g args S0 mv Q:=SC.body cw hf hb hn hlim hW hw hK
def Aq(hf:Tryz.prog.funcs[g]?=some fn)(hw:ak Tryz.prog none c ⟨fa 0 args++[(1000000,.ptr 0 0)],n,S0,[]⟩ (Bi Tryz.prog fn S0.length mv Q))(hb:fn.body=some c:=by rfl)(hn:args.length+(fn.ntmps-args.length)=n:=by rfl)(hlim:n<=1000000:=by exact Nat.le_of_ble_eq_true rfl)(hW:[(1000000,.ptr 0 0)]=ij S0.length:=by rfl)(hK:S0.length<=1000000:=by exact Nat.le_of_ble_eq_true rfl):SC Tryz.prog g args S0 mv Q:=SC.body cw hf hb hn hlim hW hw hK
def E1(hf:Tryz.prog.funcs[g]?=some fn)(hw:ak Tryz.prog none c ⟨fa 0 args++[(1000000,.ptr 0 0),(1000001,.ptr 1 0)],n,S0,[]⟩ (Bi Tryz.prog fn S0.length mv Q))(hb:fn.body=some c:=by rfl)(hn:args.length+(fn.ntmps-args.length)=n:=by rfl)(hlim:n<=1000000:=by exact Nat.le_of_ble_eq_true rfl)(hW:[(1000000,.ptr 0 0),(1000001,.ptr 1 0)]=ij S0.length:=by rfl)(hK:S0.length<=1000000:=by exact Nat.le_of_ble_eq_true rfl):SC Tryz.prog g args S0 mv Q:=SC.body cw hf hb hn hlim hW hw hK
def E2(hf:Tryz.prog.funcs[g]?=some fn)(hw:ak Tryz.prog none c ⟨fa 0 args++[(1000000,.ptr 0 0),(1000001,.ptr 1 0),(1000002,.ptr 2 0)],n,S0,[]⟩ (Bi Tryz.prog fn S0.length mv Q))(hb:fn.body=some c:=by rfl)(hn:args.length+(fn.ntmps-args.length)=n:=by rfl)(hlim:n<=1000000:=by exact Nat.le_of_ble_eq_true rfl)(hW:[(1000000,.ptr 0 0),(1000001,.ptr 1 0),(1000002,.ptr 2 0)]=ij S0.length:=by rfl)(hK:S0.length<=1000000:=by exact Nat.le_of_ble_eq_true rfl):SC Tryz.prog g args S0 mv Q:=SC.body cw hf hb hn hlim hW hw hK
end
def bq{p q:Prop}(h:p->q:=by intro h;(repeat refine ak.seq ?_);refine ak.yes rfl ?_;(try (refine ak.skip ?_;try change ak _ _ _ _ _));(repeat refine ak.seq ?_);refine ak.r0 (by rfl) (by simp only[bf,aN,slS,an,Option.bind_some,Option.map_some,↓reduceIte,Nat.reduceEqDiff,Nat.reduceAdd,Nat.reduceMul,Nat.reduceLeDiff,Nat.reduceLT,ab,ah,isSub];first | done | rfl) ?_;(try change ak _ _ _ _ _);exact h)(k:p):q:=h k
def fe{p q:Prop}(h:p->q:=by intro h;(repeat refine ak.seq ?_);refine ak.r0 (by rfl) (by simp only[bf,aN,slS,an,Option.bind_some,Option.map_some,↓reduceIte,Nat.reduceEqDiff,Nat.reduceAdd,Nat.reduceMul,Nat.reduceLeDiff,Nat.reduceLT,ab,ah,isSub];first | done | rfl) ?_;(try change ak _ _ _ _ _);(repeat refine ak.seq ?_);refine ak.Dl (by rfl) (by simp only[bf,aN,slS,an,Option.bind_some,Option.map_some,↓reduceIte,Nat.reduceEqDiff,Nat.reduceAdd,Nat.reduceMul,Nat.reduceLeDiff,Nat.reduceLT,ab,ah,isSub];first | done | rfl) ?_;exact h)(k:p):q:=h k
def ee{p q:Prop}(h:p->q:=by intro h;(repeat refine ak.seq ?_);refine ak.no rfl ?_;(try (refine ak.skip ?_;try change ak _ _ _ _ _));(repeat refine ak.seq ?_);refine ak.r0 (by rfl) (by simp only[bf,aN,slS,an,Option.bind_some,Option.map_some,↓reduceIte,Nat.reduceEqDiff,Nat.reduceAdd,Nat.reduceMul,Nat.reduceLeDiff,Nat.reduceLT,ab,ah,isSub];first | done | rfl) ?_;(try change ak _ _ _ _ _);exact h)(k:p):q:=h k
def gi{p q:Prop}(h:p->q:=by intro h;(repeat refine ak.seq ?_);refine ak.r0 (by rfl) (by simp only[bf,aN,slS,an,Option.bind_some,Option.map_some,↓reduceIte,Nat.reduceEqDiff,Nat.reduceAdd,Nat.reduceMul,Nat.reduceLeDiff,Nat.reduceLT,ab,ah,isSub];first | done | rfl) ?_;(try change ak _ _ _ _ _);(repeat refine ak.seq ?_);refine ak.r0 (by rfl) (by simp only[bf,aN,slS,an,Option.bind_some,Option.map_some,↓reduceIte,Nat.reduceEqDiff,Nat.reduceAdd,Nat.reduceMul,Nat.reduceLeDiff,Nat.reduceLT,ab,ah,isSub];first | done | rfl) ?_;(try change ak _ _ _ _ _);exact h)(k:p):q:=h k
def DA{p q:Prop}(h:p->q:=by intro h;(repeat refine ak.seq ?_);refine ak.no rfl ?_;(try (refine ak.skip ?_;try change ak _ _ _ _ _));(repeat refine ak.seq ?_);refine ak.Dl (by rfl) (by simp only[bf,aN,slS,an,Option.bind_some,Option.map_some,↓reduceIte,Nat.reduceEqDiff,Nat.reduceAdd,Nat.reduceMul,Nat.reduceLeDiff,Nat.reduceLT,ab,ah,isSub];first | done | rfl) ?_;exact h)(k:p):q:=h k
def yT{p q:Prop}(h:p->q:=by intro h;(repeat refine ak.seq ?_);refine ak.r0 (by rfl) (by simp only[bf,aN,slS,an,Option.bind_some,Option.map_some,↓reduceIte,Nat.reduceEqDiff,Nat.reduceAdd,Nat.reduceMul,Nat.reduceLeDiff,Nat.reduceLT,ab,ah,isSub];first | done | rfl) ?_;(try change ak _ _ _ _ _);(repeat refine ak.seq ?_);refine ak.no rfl ?_;(try (refine ak.skip ?_;try change ak _ _ _ _ _));exact h)(k:p):q:=h k
def oD{p q:Prop}(h:p->q:=by intro h;(repeat refine ak.seq ?_);refine ak.r0 (by rfl) (by simp only[bf,aN,slS,an,Option.bind_some,Option.map_some,↓reduceIte,Nat.reduceEqDiff,Nat.reduceAdd,Nat.reduceMul,Nat.reduceLeDiff,Nat.reduceLT,ab,ah,isSub];first | done | rfl) ?_;(try change ak _ _ _ _ _);(repeat refine ak.seq ?_);refine ak.yes rfl ?_;(try (refine ak.skip ?_;try change ak _ _ _ _ _));exact h)(k:p):q:=h k
def nL{a b:Int}(h : -9223372036854775808<=a+b/\a+b<=9223372036854775807)(P:Program)(t:TypeId):bz P .add t (.int .i64 a) (.int .i64 b)=some (.int .i64 (a+b)):=iP h
def CO{a b:Int}(h : -9223372036854775808<=a-b/\a-b<=9223372036854775807)(P:Program)(t:TypeId):bz P .sub t (.int .i64 a) (.int .i64 b)=some (.int .i64 (a-b)):=om h
def F2{a b:Int}(h : -9223372036854775808<=a*b/\a*b<=9223372036854775807)(P:Program)(t:TypeId):bz P .mul t (.int .i64 a) (.int .i64 b)=some (.int .i64 (a*b)):=oi h
def da{L:Nat->Prop}{i:Nat}(h:L i)(v:SV):vo L i v=v:=cB h
def F3{L:Nat->Prop}{i:Nat}(h:¬L i)(v:SV):vo L i v=.any:=ji h
def F5{L:Nat->Prop}{i:Nat}(h:L i)(v:SO):wo L i v=v:=jk h
def F4{L:Nat->Prop}{i:Nat}(h:¬L i)(v:SO):wo L i v=.gone:=ec h
def Ez{n k:Nat}(h:k<=n)(c:Option Nat)(q:IntKind):br n c none (some (.int q (k:Int))) none=some (0,k,c):=by
 unfold br gT fitsA;simp only[fR,al,cP h,eF,ab]
def CR{n k:Nat}(h:k<=n)(c:Option Nat)(q:IntKind):br n c (some (.int q (k:Int))) none none=some (k,n,c):=by
 unfold br gT;simp only[fR,al,cP h,ab]
end
def dI{p q:Prop}(h:p->q:=by intro h;(repeat refine ak.seq ?_);refine ak.yes rfl ?_;(try (refine ak.skip ?_;try change ak _ _ _ _ _));(repeat refine ak.seq ?_);refine ak.block ?_;exact h)(k:p):q:=h k
def cV{p q:Prop}(h:p->q:=by intro h;(repeat refine ak.seq ?_);refine ak.no rfl ?_;(try (refine ak.skip ?_;try change ak _ _ _ _ _));refine ak.exit ?_;exact h)(k:p):q:=h k
def FV{α:Type}{l:List α}{k:Nat}{p0 p1:Prop}(h0:k=l.length->p0)(h1:∀x,l[k]?=some x->k<l.length->p1)(hk:k<=l.length):(decide ((k:Int)<(l.length:Int))=false/\p0)\/(decide ((k:Int)<(l.length:Int))=true/\p1):=by
 by_cases hlt:k<l.length
 ·exact .inr ⟨zt hlt,h1 _ (ay hlt) hlt⟩
 ·exact .inl ⟨un (by omega),h0 (by omega)⟩
def zT{α:Type}{p0 p1 q:Prop}(l:List α)(k:Nat)(h0:k=l.length->p0)(h1:∀x,l[k]?=some x->k<l.length->p1)(h:(k=l.length->p0)->(∀x,l[k]?=some x->k<l.length->p1)->q:=by intro h0 h1;(repeat refine ak.seq ?_);refine ak.r0 (by rfl) (by simp only[bf,aN,slS,an,Option.bind_some,Option.map_some,↓reduceIte,Nat.reduceEqDiff,Nat.reduceAdd,Nat.reduceMul,Nat.reduceLeDiff,Nat.reduceLT,ab,ah,isSub];first | done | rfl) ?_;(try change ak _ _ _ _ _);rcases FV h0 h1 (by assumption) with⟨e,h⟩ | ⟨e,h⟩;(rw[e];exact h);(rw[e];exact h)):q:=h h0 h1
section
variable {P:Program} {ro:Option Nat} {f:Fm} {n:Nat} {S:List SO} {ds:List eE} {Q:Ex->cM->Prop}
def zo{fn:Func}{Qr:SV->Prop}{v r:SV}(rs:List ResultVar)(hg:kr P fn Qr .ret ⟨f,n,S,[]⟩->Q .ret ⟨f,n,S,[]⟩:=by intro h;(try simp only[dY,SThen,SRound,SNoGoto]);exact h)(hr:fn.results.toList=rs:=by rfl)(h:gB P f S rs=some [v]:=by simp only[bf,aN,slS,an,Option.bind_some,Option.map_some,↓reduceIte,Nat.reduceEqDiff,Nat.reduceAdd,Nat.reduceMul,Nat.reduceLeDiff,Nat.reduceLT,ab,ah,isSub];first | done | rfl)(hw:Wk S v r:=by exact Wk.refl rfl)(hq:Qr r:=by rfl):ak P ro .ret ⟨f,n,S,[]⟩ Q:=ak.ret (hg (kr.of rfl hr h hw hq))
def eL{fn:Func}{Qr:SV->Prop}{v w r:SV}(rs:List ResultVar)(hg:kr P fn Qr .ret ⟨f,n,S,[]⟩->Q .ret ⟨f,n,S,[]⟩:=by intro h;(try simp only[dY,SThen,SRound,SNoGoto]);exact h)(hr:fn.results.toList=rs:=by rfl)(h:gB P f S rs=some [v,w]:=by simp only[bf,aN,slS,an,Option.bind_some,Option.map_some,↓reduceIte,Nat.reduceEqDiff,Nat.reduceAdd,Nat.reduceMul,Nat.reduceLeDiff,Nat.reduceLT,ab,ah,isSub];first | done | rfl)(hw:Wk S (.aO [v,w]) r:=by exact Wk.refl rfl)(hq:Qr r:=by rfl):ak P ro .ret ⟨f,n,S,[]⟩ Q:=ak.ret (hg (kr.of rfl hr h hw hq))
def Bl{α β:Type}(l:List α)(I:Nat->β->Prop)(fr:Nat->β->Fm)(T:Nat->β->List SO)(b0:β){id:Nat}{x:Code}(hf:Fg ⟨f,n,S,[]⟩ ⟨fr 0 b0,n,T 0 b0,[]⟩)(h0:I 0 b0)
 (h:∀k b,k<=l.length->I k b->ak P ro x ⟨fr k b,n,T k b,[]⟩ (SRound (λm st=>∃k b,k<=l.length/\m=l.length-k/\I k b/\st=⟨fr k b,n,T k b,[]⟩) (l.length-k) (dY id Q))):ak P ro (.block id (.loop x)) ⟨f,n,S,[]⟩ Q:=
 ak.block (ak.loop (λm st=>∃k b,k<=l.length/\m=l.length-k/\I k b/\st=⟨fr k b,n,T k b,[]⟩) l.length hf ⟨0,b0,ct _,rfl,h0,rfl⟩ (by rintro m st ⟨k,b,_,_,_,rfl⟩;rfl) (by rintro m st ⟨k,b,hk,rfl,hI,rfl⟩;exact h k b hk hI))
def xf{α β:Type}{l:List α}{I:Nat->β->Prop}{fr:Nat->β->Fm}{T:Nat->β->List SO}{k:Nat}{st:cM}(hlt:k<l.length)(b:β)(hf:Fg st ⟨fr (k+1) b,n,T (k+1) b,[]⟩)(hI:I (k+1) b):
 SRound (λm st=>∃k b,k<=l.length/\m=l.length-k/\I k b/\st=⟨fr k b,n,T k b,[]⟩) (l.length-k) Q .normal st:=⟨l.length-(k+1),_,by omega,hf,k+1,b,hlt,rfl,hI,rfl⟩
end
def clsN(b:Nat):Nat:=
 bif bJ b then 3 else bif ble 48 b&&ble b 57 then 4 else bif beq b 35 then 2 else bif beq b 95 then 5 else bif beq b 34 then 7 else
 bif [32,9,10].any (beq b) then 1 else bif [59,44,46,58,40,41,123,125,91,93,61,60,62,47,43,45,42].any (beq b) then 6 else 0
def clsL:List AV:=(d3 256).map λb=>AV.int .u8 (Int.ofNat (clsN b))
def clsL_len:clsL.length=256:=by simp[clsL]
def clsL_get(b:Nat)(h:b<256):clsL[b]?=some (.int .u8 (clsN b:Int)):=by
 unfold clsL;rw[be,em h];rfl
def nameN_all(s:List Nat)(h:nameN s=true):∀(i b:Nat),s[i]?=some b->dC b=true:=by
 intro i b hi
 cases s with
 | nil=>simp at hi
 | cons a l=>
  simp only[nameN,aX] at h
  cases i with
  | zero=>simp at hi;subst hi;unfold dC;rw[h.1];rfl
  | succ i=>
   rw[d8] at hi;exact all_eq_true.1 h.2.1 b (dc hi)
def nameN_of(s:List Nat)(h:∀(i b:Nat),s[i]?=some b->dC b=true)(b:Nat)(h0:s[0]?=some b):nameN s=(decide (s.length<=24)&&bJ b):=by
 cases s with
 | nil=>simp at h0
 | cons a l=>
  simp at h0;subst h0
  have:l.all dC=true:=by
   rw[all_eq_true];intro x hx;obtain⟨i,hi⟩:=mem_iff_getElem?.1 hx;exact h (i+1) x (by rw[d8];exact hi)
  simp only[nameN,this,dD,length_cons]
  have e:ble l.length 23=decide (l.length+1<=24):=by
   by_cases hl:l.length<=23
   ·rw[cP hl];simp;omega
   ·have:ble l.length 23=false:=by
     cases hb:ble l.length 23
     ·rfl
     ·exact t7 (eu hb) hl
    rw[this];simp;omega
  rw[e,Bool.and_comm]
def isAm(n:Int):Bool:=decide (0<=n)&&decide (n<=1000000000000)
def cls_spec:∀b,b<256->(decide (clsN b=3)=bJ b)/\((decide (clsN b=3)||(decide (clsN b=4)||decide (clsN b=5)))=dC b):=by decide +kernel
def nameN_0(s:List Nat)(b:Nat)(h0:s[0]?=some b)(h:bJ b=false):nameN s=false:=by
 cases s with
 | nil=>rfl
 | cons a l=>simp at h0;subst h0;simp only[nameN,h,ci]
structure Sh where
 pt:List Nat
 am:Int
 deriving DecidableEq
abbrev byS(b:Nat):SV:=.a (.int .u8 (b:Int))
def mc(b:Nat):PC prog 202 [byS b] (·=ao (bJ b)):=by
 have e1:decide ((97:Int)<=(b:Int))=ble 97 b:=en 97 b;have e2:decide ((b:Int)<=122)=ble b 122:=en b 122;have e3:decide ((65:Int)<=(b:Int))=ble 65 b:=en 65 b;have e4:decide ((b:Int)<=90)=ble b 90:=en b 90;refine pB 17 Tryz.func202 ?_;unfold bJ;refine(zV) ?_;cases h1:ble 97 b<;>cases h2:ble b 122<;>cases h3:ble 65 b<;>cases h4:ble b 90
 all_goals
  rw[h1] at e1;rw[h2] at e2;rw[h3] at e3;rw[h4] at e4
  exact(aq (n4 e1 e2 e3 e4))<|zo [.tmp 2]
def vS(b:Nat):PC prog 210 [byS b] (·=ao (ble 48 b&&ble b 57)):=by
 have e1:decide ((48:Int)<=(b:Int))=ble 48 b:=en 48 b;have e2:decide ((b:Int)<=57)=ble b 57:=en b 57;refine pB 9 Tryz.func210 ?_;refine(zV) ?_;cases h1:ble 48 b<;>cases h2:ble b 57
 all_goals
  rw[h1] at e1;rw[h2] at e2
  exact(aq (n2 e1 e2))<|zo [.tmp 2]
def yO(b:Nat):PC prog 201 [byS b] (·=ao (dC b)):=by
 have e1:decide ((b:Int)=95)=beq b 95:=CU b 95;refine pB 13 Tryz.func201 ?_;unfold dC
 refine(fe)<|(zK (mc b)) ?_
 cases h1:bJ b;rotate_left
 ·exact(zR)<|zo [.tmp 2]
 refine(zQ)<|(zK (vS b)) ?_
 cases h2:(ble 48 b&&ble b 57);rotate_left
 ·exact(zR)<|zo [.tmp 2]
 exact(bE e1)<|zo [.tmp 2]
def eZ(s:List Nat)(hs:s.length<=1000000):PC prog 183 [ae s] (·=ao (nameN s)):=by
 refine pB 28 Tryz.func183 ?_;refine(gi)<|(zs) ?_;refine zL s (λk=>(∀(i b:Nat),i<k->s[i]?=some b->dC b=true)) (λk=>[(0,ae s),(3,aa k)]) (λk=>[]) zH (by intro i b h;omega) ?_;intro k hk hall
 by_cases hlt:k<s.length;rotate_left
 ·obtain rfl:k=s.length:=by omega
  refine(aq (show decide ((s.length:Int)<(s.length:Int))=false by simp))<|(cV) ?_
  cases hs0:s with
  | nil=>
   exact(aq @length_nil.{0})<|zo [.tmp 2]
  | cons b l=>
   have h0:s[0]?=some b:=by rw[hs0];rfl
   have hn:=nameN_of s (λi b' hb'=>hall i b' (List.getElem?_eq_some_iff.1 hb').1 hb') b h0;rw[hs0] at hn
   have c2:decide ((0:Int)<((b::l).length:Int))=true:=by simp
   have h0':(b::l)[0]?=some b:=rfl;cases c3:decide (((b::l).length:Int)<=24)
   ·have e24:decide ((b::l).length<=24)=false:=by have:=wt c3;simp only[wd];omega
    exact(aq (n2 c2 c3))<|zo [.tmp 2] (hq:=by rw[hn,e24];rfl)
   ·have e24:decide ((b::l).length<=24)=true:=by have:=ww c3;simp only[wp];omega
    exact(e8 (n3 c2 c3 h0'))<|(zK (mc b))<|(zR)<|zo [.tmp 2] (hq:=by rw[hn,e24];rfl)
 obtain⟨b,hb⟩:∃b,s[k]?=some b:=⟨s[k],ay hlt⟩
 refine(aq (show decide ((k:Int)<(s.length:Int))=true by simp only[wp];omega))<|(dI)<|(e8 hb)<|(zK (yO b)) ?_
 cases hm:dC b
 ·have hn:nameN s=false:=by
   cases hc:nameN s
   ·rfl
   ·rw[nameN_all s hc k b hb] at hm;cases hm
  exact(zR)<|(bq)<|zo [.tmp 2] (hq:=by rw[hn])
 ·refine(zR)<|(zN) ?_
  refine(aq (zi hlt hs)) ?_;refine zX hlt zH (λi b' hi hb'=>by
   by_cases e:i=k
   ·subst e;rw[hb] at hb';cases hb';exact hm
   ·exact hall i b' (by omega) hb')
def Ba(s:List Nat)(b:Nat)(hb:b<256):PC prog 199 [ae s,byS b] (·=aa (di b s 0)):=
 PC.of (xs:=[.str s,.int .u8 (b:Int)]) (λh=>cx.ET wW (by
  show cond (blt b 256) (some (AV.int .i64 (di b s 0),h)) none=_
  rw[show blt b 256=true from Ay hb];rfl)) λρ avs ha=>by
  rw[cF] at ha;obtain⟨a,r,rfl,h1,ha⟩:=ha;rw[cF] at ha;obtain⟨a2,r,rfl,h2,ha⟩:=ha;rw[GS] at h1 h2;rw[dB] at ha;rw[h1,h2,ha]
def A9(s:List Nat)(b:Nat)(hb:b<256):PC prog 180 [ae s,byS b] (·=aa (di b s 0)):=by
 refine pB 8 Tryz.func180 ?_;exact(fe)<|(zK (Ba s b hb))<|(zR)<|zo [.tmp 4]
def rU(s:List Nat)(b:Nat)(hb:b<256):PC prog 136 [ae s,byS b] (·=aa (di b s 0)):=by
 refine pB 8 Tryz.func136 ?_;exact(fe)<|(zK (A9 s b hb))<|(zR)<|zo [.tmp 4]
def cls0(b:Nat):Nat:=bif bJ b then 3 else bif ble 48 b&&ble b 57 then 4 else bif decide (0<=di b [32,9,10] 0) then 1 else bif decide (0<=di b [59,44,46,58,40,41,123,125,91,93,61,60,62,47,43,45,42] 0) then 6 else 0
def rowC(k:Nat):List SV:=(d3 256).map λi=>byS (if i<k then cls0 i else 0)
def zrow:List SV:=(d3 256).map λ_=>byS 0
def rowC_len(k:Nat):(rowC k).length=256:=by simp[rowC]
def rowC_s{k:Nat}(hk:k<256):(rowC k).take k++(byS (cls0 k)::(rowC k).drop (k+1))=rowC (k+1):=by
 have h:(rowC k).set k (byS (cls0 k))=rowC (k+1):=by
  apply List.ext_getElem?;intro i;by_cases hik:k=i
  ·subst hik;rw[List.getElem?_set_self (by rw[rowC_len];exact hk)];unfold rowC;rw[be,em hk];simp
  ·rw[List.getElem?_set_ne hik];unfold rowC;rw[be,be]
   cases hr:(d3 256)[i]? with
   | none=>rfl
   | some j=>
    have hj:j=i:=by
     obtain⟨h1,h2⟩:=List.getElem?_eq_some_iff.1 hr;simpa using h2.symm
    subst hj;simp only[ax];by_cases h:j<k
    ·rw[t8 h,t8 (by omega)]
    ·rw[ul h,ul (by omega)]
 rw[<-h,ch,t8 (by rw[rowC_len];exact hk)]
def rowC_0{k:Nat}(hk:k<256)(h:cls0 k=0):rowC (k+1)=rowC k:=by
 unfold rowC;refine List.map_congr_left λi _=>?_;by_cases hik:i<k
 ·rw[t8 hik,t8 (by omega)]
 ·rw[ul hik];by_cases he:i=k
  ·subst he;rw[t8 (by omega),h]
  ·rw[ul (by omega)]
def conv_u8{k:Nat}(hk:k<256):fO prog 3 5 (.int .i64 (k:Int))=some (.int .u8 (k:Int)):=by
 have h1:fO prog 3 5 (.int .i64 (k:Int))=some (.int .u8 (bR .u8 (k:Int))):=by kernel_rfl
 rw[h1]
 congr 2
 have h2:(iJ 0 (k:Int)&&iJ (k:Int) 255)=true:=by rw[cL,cL];simp;omega
 simp only[bR,xe,xd,h2,ab]
def qz:PC prog 97 [] (·=.ag (clsL.map SV.a)):=by
 refine pB 50 Tryz.func97 ?_;refine(gi)<|(zV) ?_
 have hl:(d3 256).length=256:=List.length_range
 have hlen:(d3 256).length<=1000000:=by rw[hl];decide
 refine ak.fg (st':=⟨[(0,.ptr 0 0),(1,.ptr 1 0),(4,aa 0)],50,[.cells zrow,.cells (rowC 0)],[]⟩) (by exact zH) ?_
 (try change ak _ _ _ _ _)
 refine(zs) ?_;refine zL (d3 256) (λk=>True) (λk=>[(0,.ptr 0 0),(1,.ptr 1 0),(4,aa k)]) (λk=>[.cells zrow,.cells (rowC k)]) zH zp ?_;intro k hk hall;by_cases hlt:k<(d3 256).length
 ·have hk6:k<256:=by rw[<-hl];exact hlt
  have hk7:k+1<=256:=hk6;have e1:decide ((97:Int)<=(k:Int))=ble 97 k:=en 97 k;have e2:decide ((k:Int)<=122)=ble k 122:=en k 122;have e3:decide ((65:Int)<=(k:Int))=ble 65 k:=en 65 k;have e4:decide ((k:Int)<=90)=ble k 90:=en k 90;have e5:decide ((48:Int)<=(k:Int))=ble 48 k:=en 48 k;have e6:decide ((k:Int)<=57)=ble k 57:=en k 57;have hset:=rowC_s hk6;have hrl:=rowC_len k
  refine(aq (show decide ((k:Int)<256)=true by simp only[wp];omega))<|(dI)<|(zV)<|(aq (conv_u8 hk6))<|(zB) ?_;refine ak.seq ?_;refine ak.mono (Q:=λex st=>ex=.normal/\Fg st ⟨[(0,.ptr 0 0),(1,.ptr 1 0),(2,aa k),(3,byS k),(4,aa k),(9,ao (bJ k))],50,[.cells zrow,.cells (rowC k)],[]⟩) ?_ ?_
  ·unfold bJ;cases h1:ble 97 k<;>cases h2:ble k 122<;>cases h3:ble 65 k<;>cases h4:ble k 90
   all_goals
    rw[h1] at e1;rw[h2] at e2;rw[h3] at e3;rw[h4] at e4;refine(aq (n2 e1 e2)) ?_
    first
     | (
      refine(zN) ?_
      refine(aq (n2 e3 e4)) ?_;exact⟨rfl,zH⟩)
     | (
      refine(zY) ?_
      exact⟨rfl,zH⟩)
  rintro ex st ⟨rfl,hf⟩;refine ak.fg hf ?_;clear hf
  (try change ak _ _ _ _ _)
  cases hL:bJ k;rotate_left
  ·have hc:cls0 k=3:=by unfold cls0;rw[hL];rfl
   rw[hc] at hset;change (rowC k).take k++(SV.a (.int .u8 3)::(rowC k).drop (k+1))=_ at hset
   refine(zY)<|(aq (n5 hk6 hk7 hrl @dd hset))<|(aq (zi hlt hlen)) ?_;refine zX hlt zH trivial
  have c0:cls0 k=bif ble 48 k&&ble k 57 then 4 else bif decide (0<=di k [32,9,10] 0) then 1 else bif decide (0<=di k [59,44,46,58,40,41,123,125,91,93,61,60,62,47,43,45,42] 0) then 6 else 0:=by unfold cls0;rw[hL];rfl
  clear hL e1 e2 e3 e4;refine(zN) ?_
  (repeat refine ak.seq ?_)
  refine ak.mono (Q:=λex st=>ex=.normal/\Fg st ⟨[(0,.ptr 0 0),(1,.ptr 1 0),(2,aa k),(3,byS k),(4,aa k),(24,ao (ble 48 k&&ble k 57))],50,[.cells zrow,.cells (rowC k)],[]⟩) ?_ ?_
  ·cases h5:ble 48 k<;>cases h6:ble k 57
   all_goals
    rw[h5] at e5;rw[h6] at e6;refine(aq (n2 e5 e6)) ?_;exact⟨rfl,zH⟩
  rintro ex st ⟨rfl,hf⟩;refine ak.fg hf ?_;clear hf e5 e6
  (try change ak _ _ _ _ _)
  cases hD:ble 48 k&&ble k 57;rotate_left
  ·rw[hD] at c0;rw[show cls0 k=4 from c0] at hset;change (rowC k).take k++(SV.a (.int .u8 4)::(rowC k).drop (k+1))=_ at hset
   refine(zY)<|(aq (n5 hk6 hk7 hrl @dd hset))<|(aq (zi hlt hlen)) ?_;refine zX hlt zH trivial
  rw[hD] at c0
  refine(DA)<|(zK (rU [32,9,10] k hk6))<|(zR) ?_
  cases hB:decide (0<=di k [32,9,10] 0);rotate_left
  ·rw[hB] at c0;rw[show cls0 k=1 from c0] at hset;change (rowC k).take k++(SV.a (.int .u8 1)::(rowC k).drop (k+1))=_ at hset
   refine(zY)<|(aq (n5 hk6 hk7 hrl @dd hset))<|(aq (zi hlt hlen)) ?_;refine zX hlt zH trivial
  rw[hB] at c0
  refine(DA)<|(zK (rU [59,44,46,58,40,41,123,125,91,93,61,60,62,47,43,45,42] k hk6))<|(zR) ?_
  cases hS:decide (0<=di k [59,44,46,58,40,41,123,125,91,93,61,60,62,47,43,45,42] 0);rotate_left
  ·rw[hS] at c0;rw[show cls0 k=6 from c0] at hset;change (rowC k).take k++(SV.a (.int .u8 6)::(rowC k).drop (k+1))=_ at hset
   refine(zY)<|(aq (n5 hk6 hk7 hrl @dd hset))<|(aq (zi hlt hlen)) ?_;refine zX hlt zH trivial
  rw[hS] at c0;have hs0:=rowC_0 hk6 c0;refine(zN) ?_
  (try (refine ak.skip ?_))
  refine(aq (zi hlt hlen)) ?_;refine zX hlt (bg hs0) trivial
 ·obtain rfl:k=256:=by omega
  refine(aq (show decide (((256:Nat):Int)<256)=false from rfl))<|(cV) ?_
  have set_at:∀{l:List SV} {i:Nat} (v:SV),i<l.length->l.take i++(v::l.drop (i+1))=l.set i v:=λv h=>by rw[ch,t8 h]
  have hfin:(((rowC 256).set 35 (.a (.int .u8 2))).set 95 (.a (.int .u8 5))).set 34 (.a (.int .u8 7))=clsL.map SV.a:=by kernel_rfl
  have l0:=rowC_len 256
  have hz0:zrow.length=256:=by simp[zrow]
  generalize rowC 256=R at hfin l0 ⊢;have s1:=set_at (l:=R) (i:=35) (.a (.int .u8 2)) (by omega)
  have l1:(R.set 35 (.a (.int .u8 2))).length=256:=by rw[ej];exact l0
  generalize R.set 35 (.a (.int .u8 2))=R1 at hfin s1 l1;have s2:=set_at (l:=R1) (i:=95) (.a (.int .u8 5)) (by omega)
  have l2:(R1.set 95 (.a (.int .u8 5))).length=256:=by rw[ej];exact l1
  generalize R1.set 95 (.a (.int .u8 5))=R2 at hfin s2 l2;have s3:=set_at (l:=R2) (i:=34) (.a (.int .u8 7)) (by omega)
  have l3:(R2.set 34 (.a (.int .u8 7))).length=256:=by rw[ej];exact l2
  generalize R2.set 34 (.a (.int .u8 7))=R3 at hfin s3 l3;have t3:R3.take 256=R3:=eg (by omega);have d0:zrow.drop 256=[]:=eb (by omega);refine(aq (n10 (show bN (.int .i64 35)=some 35 from rfl) (show bN (.int .i64 95)=some 95 from rfl) (show bN (.int .i64 34)=some 34 from rfl) l0 l1 l2 @dd s1 s2 s3)) ?_
  have ho:R3.all cH=true:=by rw[hfin];kernel_rfl
  refine(aq (n9 l3 t3 ho hz0 d0 @List.append_nil.{0} @List.take_zero.{0} @List.nil_append.{0} @a0)) ?_;subst hfin;exact zo [.cell 0 179] (h:=gf (n2 l3 t3))
def drop_cons{α:Type}{l:List α}{k:Nat}{x:α}(h:l[k]?=some x):l.drop k=x::l.drop (k+1):=by
 obtain⟨hlt,he⟩:=List.getElem?_eq_some_iff.1 h;rw[d2 hlt,he]
def qN(s:List Nat)(hs:s.length<=1000000)(hb:∀b∈s,b<256):PC prog 49 [ae s] (·=ao (nameN s)):=by
 refine pB 39 Tryz.func49 ?_;have hcl:=qz;obtain⟨C,hC⟩:∃C,C=clsL.map SV.a:=⟨_,rfl⟩
 have ho:C.all cH=true:=by rw[hC];kernel_rfl
 have hl:C.length=256:=by rw[hC,fm,clsL_len]
 have hg:bm C=true:=by rw[hC];kernel_rfl
 have hfl:nb (.ag C)=true:=by rw[hC];kernel_rfl
 have hCg:∀b,b<256->C[b]?=some (byS (clsN b)):=λb h=>by rw[hC,be,clsL_get b h];rfl
 rw[<-hC] at hcl;clear hC;have ht:C.take 256=C:=eg (by omega);have hnk:=λo:Nat=>cu (o:=o) hg;have hkk:=λo:Nat=>aV (o:=o) hg
 refine(fe)<|(zK hcl (hfl:=.inl hfl)) ?_;refine aB.r0 (by rfl) (by simp only[bf,aN,slS,an,al,ax,↓reduceIte,ac,af,aj,ad,ap,ab,ah,isSub,hl,ho,ht,hkk,hnk,fm,List.length_replicate,eb,List.append_nil,a0];first | done | rfl) ?_;refine ak.fg (Fg.freeze (f':=[(0,ae s),(3,.ip C)]) 0 rfl (λh=>by cases h) ⟨.inl rfl,.inr (.ptr rfl (aM.refl hg) (ct _)),trivial⟩) ?_;refine ak.fg (st':=⟨[(0,ae s),(3,.ip C)],39,[],[]⟩) zH ?_
 (try change ak _ _ _ _ _)
 refine(zV)<|(zs) ?_;refine zL s (λk=>((∀(i b:Nat),i<k->s[i]?=some b->dC b=true)/\(0<k->∀b,s[0]?=some b->bJ b=true))) (λk=>[(0,ae s),(3,.ip C),(8,aa s.length),(9,aa k)]) (λk=>[]) zH (by exact⟨λi b h=>t7 h (ca _),λh=>t7 h (ca _)⟩) ?_;intro k hk hall;refine zT s k ?_ ?_;rintro rfl;rotate_left;intro b hx hlt;rotate_left
 ·refine(cV) ?_
  cases hs0:s with
  | nil=>
   exact(aq (show decide (([]:List Nat)=[])=true from rfl))<|zo [.tmp 2]
  | cons b l=>
   have h0:s[0]?=some b:=by rw[hs0];rfl
   have hlt0:0<s.length:=by rw[hs0];exact eB _
   have hn:=nameN_of s (λi b' hb'=>hall.1 i b' (List.getElem?_eq_some_iff.1 hb').1 hb') b h0;rw[hall.2 hlt0 b h0,dl,hs0] at hn;have c2:decide ((b::l)=[])=false:=rfl;cases c3:decide (((b::l).length:Int)<=24)
   ·have e24:decide ((b::l).length<=24)=false:=by have:=wt c3;simp only[wd];omega
    exact(aq (n2 c2 c3))<|zo [.tmp 2] (hq:=by rw[hn,e24])
   ·have e24:decide ((b::l).length<=24)=true:=by have:=ww c3;simp only[wp];omega
    exact(aq (n2 c2 c3))<|zo [.tmp 2] (hq:=by rw[hn,e24])
 have hb6:=hb b (dc hx);obtain⟨sp1,sp2⟩:=cls_spec b hb6;have hdr:=drop_cons (hCg b hb6)
 have hbl:b<=C.length:=by omega
 have q3:decide ((clsN b:Int)=3)=bJ b:=by rw[<-sp1];simp only[decide_eq_decide];omega
 have q4:decide ((clsN b:Int)=4)=decide (clsN b=4):=by simp only[decide_eq_decide];omega
 have q5:decide ((clsN b:Int)=5)=decide (clsN b=5):=by simp only[decide_eq_decide];omega
 rw[sp1] at sp2
 refine(dI)<|(zV)<|(aq (n6 hx (show bN (.int .u8 (Int.ofNat b))=some b from rfl) @dd hb6 hbl hdr)) ?_;refine ak.fg (st':=⟨[(0,ae s),(3,.ip C),(4,aa k),(5,.a (.int .u8 (clsN b:Int))),(8,aa s.length),(9,aa k)],39,[],[]⟩) zH ?_
 (try change ak _ _ _ _ _)
 generalize (clsN b:Int)=cb at q3 q4 q5 ⊢;generalize decide (clsN b=4)=c4 at sp2 q4;generalize decide (clsN b=5)=c5 at sp2 q5
 have m3:bz prog .neq 5 (.int .u8 cb) (.int .u8 3)=some (.bool (!bJ b)):=by rw[<-q3];exact iQ rfl
 have m4:bz prog .neq 5 (.int .u8 cb) (.int .u8 4)=some (.bool (!c4)):=by rw[<-q4];exact iQ rfl
 have m5:bz prog .neq 5 (.int .u8 cb) (.int .u8 5)=some (.bool (!c5)):=by rw[<-q5];exact iQ rfl
 clear q3 q4 q5
 have hmore:dC b=true->∀(i b':Nat),i<k+1->s[i]?=some b'->dC b'=true:=λhm i b' hi hb'=>by
  by_cases e:i=k
  ·subst e;rw[hx] at hb';cases hb';exact hm
  ·exact hall.1 i b' (by omega) hb'
 have hfirst:(k=0->bJ b=true)->0<k+1->∀b',s[0]?=some b'->bJ b'=true:=λh _ b' hb'=>by
  by_cases hk0:k=0
  ·subst hk0;rw[hx] at hb';cases hb';exact h rfl
  ·exact hall.2 (by omega) b' hb'
 cases hL:bJ b;rotate_left
 ·rw[hL] at m3 sp2
  refine(aq m3)<|(zN)<|(aq (zi hlt hs)) ?_;refine zX hlt zH (⟨hmore sp2.symm,hfirst λ_=>hL⟩)
 rw[hL] at m3 sp2;by_cases hk0:k=0
 ·have hn:nameN s=false:=nameN_0 s b (by rw[<-hk0];exact hx) hL
  exact(aq (n2 m3 (show decide ((k:Int)=0)=true by simp only[wp];omega)))<|(bq)<|zo [.tmp 2] (hq:=by rw[hn])
 have k0:=show decide ((k:Int)=0)=false by simp only[wd];omega
 have hbad:dC b=false->nameN s=false:=λhm=>by
  cases hc:nameN s
  ·rfl
  ·rw[nameN_all s hc k b hx] at hm;cases hm
 cases c4
 ·cases c5
  ·have hn:=hbad sp2.symm
   exact(aq (n4 m3 m4 m5 k0))<|(bq)<|zo [.tmp 2] (hq:=by rw[hn])
  ·refine(aq (n4 m3 m4 m5 k0))<|(zN)<|(aq (zi hlt hs)) ?_;refine zX hlt zH (⟨hmore sp2.symm,hfirst λh=>t7 h hk0⟩)
 ·refine(aq (n3 m3 m4 k0))<|(zN)<|(aq (zi hlt hs)) ?_;refine zX hlt zH (⟨hmore sp2.symm,hfirst λh=>t7 h hk0⟩)
structure KSlot where
 name:List Nat
 kinds:List (List Nat)
 normal:Int
structure KKind where
 name:List Nat
 vehicle:Bool
 slots:List KSlot
def encSlot(s:KSlot):List SV:=[ae s.name,slS 1 s.kinds (one1 ae),aa s.normal]
def encKind(k:KKind):List SV:=[ae k.name,ao k.vehicle,slS 3 k.slots encSlot]
def rh{p:Prop} (h:p:=by
  refine pB 19 vaa ?_;refine(aq @slS.eq_1)<|(zV)<|(zs) ?_;refine zL l (λk=>∀(i:Nat) y,i<k->l[i]?=some y->p y=false) (λk=>[(0,.sl l.length vab (l.flatMap vac)),(1,.fn fid first cap),(7,aa l.length),(8,aa k)]) (λk=>[]) zH zp ?_;intro k hk hall;refine zT l k ?_ ?_;rintro rfl;rotate_left;intro x hx hlt;rotate_left
  ·exact(cV)<|(zV)<|zo [.tmp 4] (hq:=by rw[mL hall])
  ·refine(dI)<|(zV)<|(e8 (n3 hlt (au (e:=vab) (enc:=vac) (λ_=>rfl) hx) @vad))<|(zK (hp x (List.mem_iff_getElem?.2 ⟨k,hx⟩)) (hwk:=((aM.refl hg.1).app (aM.refl rfl)).app (aM.refl hg.2))) ?_;refine aB.nil ?_
   change ak _ _ _ _ _;cases hpx:p x
   ·refine(zN)<|(aq (zi hlt hlen)) ?_;refine zX hlt zH ?_
    intro i y hi hy;by_cases hik:i=k
    ·subst hik;rw[hx] at hy;cases hy;exact hpx
    ·exact hall i y (by ((try simp only[vab] at *)<;>omega)) hy
   ·exact(bq)<|zo [.tmp 4] (hq:=by rw[sC hx hpx hall])):p:=h
open Go.Proofs.Tryz renaming func160 -> vaa in
open Go.Ev renaming DR -> vab in
open Go.Proofs renaming encKind -> vac in
def tp{l:List (KKind)}(p:KKind->Bool){fid:FuncId}{first cap:List SV}(hlen:l.length<=1000000)(hp:∀x∈l,PC prog fid ((first++[.ag (encKind x)])++cap) (·=ao (p x)))(hg:bm first=true/\bm cap=true):PC prog 160 [slS 3 l encKind,.fn fid first cap] (·=aa (eK p l)):=by
 have vad:=@encKind.eq_1;exact rh
open Go.Proofs.Tryz renaming func189 -> vaa in
open Go.Ev renaming DR -> vab in
open Go.Proofs renaming encSlot -> vac in
def tu{l:List (KSlot)}(p:KSlot->Bool){fid:FuncId}{first cap:List SV}(hlen:l.length<=1000000)(hp:∀x∈l,PC prog fid ((first++[.ag (encSlot x)])++cap) (·=ao (p x)))(hg:bm first=true/\bm cap=true):PC prog 189 [slS 3 l encSlot,.fn fid first cap] (·=aa (eK p l)):=by
 have vad:=@encSlot.eq_1;exact rh
def we{l:List (List Nat)}(p:List Nat->Bool){fid:FuncId}{first cap:List SV}(hlen:l.length<=1000000)(hp:∀x∈l,PC prog fid ((first++[ae x])++cap) (·=ao (p x)))(hg:bm first=true/\bm cap=true):PC prog 137 [slS 1 l (one1 ae),.fn fid first cap] (·=aa (eK p l)):=by
 refine pB 19 Tryz.func137 ?_;refine(aq @slS.eq_1)<|(zV)<|(zs) ?_;refine zL l (λk=>∀(i:Nat) y,i<k->l[i]?=some y->p y=false) (λk=>[(0,.sl l.length 1 (l.flatMap (one1 ae))),(1,.fn fid first cap),(7,aa l.length),(8,aa k)]) (λk=>[]) zH zp ?_;intro k hk hall;refine zT l k ?_ ?_;rintro rfl;rotate_left;intro x hx hlt;rotate_left
 ·exact(cV)<|(zV)<|zo [.tmp 4] (hq:=by rw[mL hall])
 ·refine(dI)<|(zV)<|(e8 (n3 hlt (au (e:=1) (enc:=(one1 ae)) (λ_=>rfl) hx) @one1.eq_1))<|(zK (hp x (mem_iff_getElem?.2 ⟨k,hx⟩)) (hwk:=((aM.refl hg.1).app (aM.refl rfl)).app (aM.refl hg.2))) ?_;refine aB.nil ?_
  change ak _ _ _ _ _;cases hpx:p x
  ·refine(zN)<|(aq (zi hlt hlen)) ?_;refine zX hlt zH ?_
   intro i y hi hy;by_cases hik:i=k
   ·subst hik;rw[hx] at hy;cases hy;exact hpx
   ·exact hall i y (by omega) hy
  ·exact(bq)<|zo [.tmp 4] (hq:=by rw[sC hx hpx hall])
def qM(s:List Nat):PC prog 125 [.ag [ae s,.any,.any]] (·=ae s):=by
 refine pB 5 Tryz.func125 ?_;exact(gi)<|zo [.tmp 2]
def qP(s:List Nat):PC prog 163 [.ag [ae s,.any,.any]] (·=ae s):=by
 refine pB 5 Tryz.func163 ?_;exact(gi)<|zo [.tmp 2]
def wi(k:KKind)(s:List Nat):PC prog 161 [.ag (encKind k),.ip [.fn 125 [] []],.ip [ae s]] (·=ao (decide (k.name=s))):=by
 refine pB 10 Tryz.func161 ?_;refine(aq @encKind.eq_1)<|(zs) ?_;refine kU [0,0,3,0,15,31] ?_;refine(zD) ?_;refine SD.k (by rfl) rfl rfl (by rfl) rfl rfl zc (qM k.name) (.cons (.ag (.cons (.a _) (.cons (.any _) (.cons (.any _) .nil)))) .nil) rfl ?_;exact(zD)<|(zM)<|zo [.tmp 4]
def wC(k:KSlot)(s:List Nat):PC prog 190 [.ag (encSlot k),.ip [.fn 163 [] []],.ip [ae s]] (·=ao (decide (k.name=s))):=by
 refine pB 10 Tryz.func190 ?_;refine(aq @encSlot.eq_1)<|(zs) ?_;refine kU [0,0,3,0,15,31] ?_;refine(zD) ?_;refine SD.k (by rfl) rfl rfl (by rfl) rfl rfl zc (qP k.name) (.cons (.ag (.cons (.a _) (.cons (.any _) (.cons (.any _) .nil)))) .nil) rfl ?_;exact(zD)<|(zM)<|zo [.tmp 4]
def tv(l:List KKind)(s:List Nat)(hlen:l.length<=1000000):PC prog 124 [slS 3 l encKind,.fn 125 [] [],ae s] (·=aa (eK (λk=>decide (k.name=s)) l)):=by
 refine pB 10 Tryz.func124 ?_;exact(fe)<|(zK (tp (λk=>decide (k.name=s)) (first:=[]) (cap:=[.ip [.fn 125 [] []],.ip [ae s]]) hlen (λx _=>wi x s) ⟨rfl,rfl⟩))<|(zR)<|zo [.tmp 6]
def tN(l:List KSlot)(s:List Nat)(hlen:l.length<=1000000):PC prog 162 [slS 3 l encSlot,.fn 163 [] [],ae s] (·=aa (eK (λk=>decide (k.name=s)) l)):=by
 refine pB 10 Tryz.func162 ?_;exact(fe)<|(zK (tu (λk=>decide (k.name=s)) (first:=[]) (cap:=[.ip [.fn 163 [] []],.ip [ae s]]) hlen (λx _=>wC x s) ⟨rfl,rfl⟩))<|(zR)<|zo [.tmp 6]
def idx_find{α:Type}(p:α->Bool)(l:List α):(eK p l = -1/\l.find? p=none)\/∃(k:Nat) (x:α),eK p l=(k:Int)/\k<l.length/\l[k]?=some x/\l.find? p=some x:=by
 unfold eK
 cases hf:l.findIdx? p with
 | none=>
  rw[List.findIdx?_eq_none_iff] at hf;exact .inl ⟨rfl,by rw[d6];intro x hx;rw[hf x hx];decide⟩
 | some k=>
  obtain⟨hlt,h1,h2⟩:=List.findIdx?_eq_some_iff_getElem.1 hf;refine .inr ⟨k,l[k],rfl,hlt,ay hlt,?_⟩;rw[List.find?_eq_some_iff_getElem];exact⟨h1,k,hlt,rfl,λj hj=>by simpa using h2 j hj⟩
def KKind.zero:KKind:=⟨[],false,[]⟩
def KSlot.zero:KSlot:=⟨[],[],0⟩
def findK8(l:List KKind)(s:List Nat):Option KKind:=l.find? λk=>decide (k.name=s)
def findS8(l:List KSlot)(s:List Nat):Option KSlot:=l.find? λk=>decide (k.name=s)
def optR{α:Type}(enc:α->List SV)(z:α):Option α->SV
 | some x=>.aO [.ag (enc x),ao true]
 | none=>.aO [.ag (enc z),ao false]
def gK(l:List KKind)(s:List Nat)(hlen:l.length<=1000000):PC prog 85 [.ag [slS 3 l encKind],ae s] (·=optR encKind KKind.zero (findK8 l s)):=by
 refine pB 19 Tryz.func85 ?_;refine(fe)<|(zK (tv l s hlen))<|(zR) ?_
 rcases idx_find (λk:KKind=>decide (k.name=s)) l with⟨h1,h2⟩ | ⟨k,x,h1,hlt,hx,h2⟩
 ·rw[h1]
  refine(oD)<|(zV)<|(zE) ?_;exact kr.of (rs:=[.cell 4 63,.tmp 5]) (r:=.aO [.ag [ae [],ao false,.sl 0 3 []],ao false]) rfl rfl zl zv (by (try simp only[bL,aF]);first | done | (unfold findK8;rw[h2];rfl))
 ·rw[h1]
  exact(aq (show decide ((k:Int)<0)=false by simp))<|(zN)<|(aq (n3 hlt (au (e:=3) (enc:=encKind) (λ_=>rfl) hx) @encKind.eq_1))<|eL [.cell 4 63,.tmp 5] (hq:=by unfold findK8;rw[h2];rfl)
def yI(l:List KKind)(kind name:List Nat)(hlen:l.length<=1000000)(hs:∀k∈l,k.slots.length<=1000000):PC prog 127 [.ag [slS 3 l encKind],ae kind,ae name] (·=optR encSlot KSlot.zero ((findK8 l kind).bind λk=>findS8 k.slots name)):=by
 refine pB 29 Tryz.func127 ?_
 obtain⟨q,b,h1,h2,h3⟩:∃(q:KKind) (b:Bool),optR encKind KKind.zero (findK8 l kind)=.aO [.ag (encKind q),ao b]/\q.slots.length<=1000000/\((findK8 l kind).bind λk=>findS8 k.slots name)=findS8 q.slots name:=by
  cases hf:findK8 l kind with
  | none=>exact⟨KKind.zero,false,rfl,ct _,rfl⟩
  | some q=>exact⟨q,true,rfl,hs q (bk hf),rfl⟩
 rw[h3];have hF:=gK l kind hlen;rw[h1] at hF
 refine(fe)<|(zK hF (hfl:=.inr (aM.refl rfl)))<|(bE @encKind.eq_1)<|(zC)<|(zK (tN q.slots name h2))<|(zR) ?_
 rcases idx_find (λk:KSlot=>decide (k.name=name)) q.slots with⟨g1,g2⟩ | ⟨k,x,g1,hlt,hx,g2⟩
 ·rw[g1]
  refine(oD)<|(zV)<|(zE) ?_;exact kr.of (rs:=[.cell 6 60,.tmp 7]) (r:=.aO [.ag [ae [],.sl 0 1 [],aa 0],ao false]) rfl rfl zl zv (by (try simp only[bL,aF]);first | done | (unfold findS8;rw[g2];rfl))
 ·rw[g1]
  exact(aq (show decide ((k:Int)<0)=false by simp))<|(zN)<|(aq (n3 hlt (au (e:=3) (enc:=encSlot) (λ_=>rfl) hx) @encSlot.eq_1))<|eL [.cell 6 60,.tmp 7] (hq:=by unfold findS8;rw[g2];rfl)
def qH(l:List (List Nat))(s:List Nat)(hlen:l.length<=1000000):PC prog 95 [slS 1 l (one1 ae),ae s] (·=aa (eK (λx=>decide (s=x)) l)):=by
 refine pB 19 Tryz.func95 ?_;refine(gi)<|(zs) ?_;refine zL l (λk=>∀(i:Nat) y,i<k->l[i]?=some y->decide (s=y)=false) (λk=>[(0,.sl l.length 1 (l.flatMap (one1 ae))),(1,ae s),(7,aa l.length),(8,aa k)]) (λk=>[]) zH zp ?_;intro k hk hall;refine zT l k ?_ ?_;rintro rfl;rotate_left;intro x hx hlt;rotate_left
 ·exact(cV)<|(zV)<|zo [.tmp 4] (hq:=by rw[mL hall])
 ·refine(dI)<|(zV)<|(aq (n3 hlt (au (e:=1) (enc:=one1 ae) (λ_=>rfl) hx) @one1.eq_1)) ?_
  cases hpx:decide (s=x)
  ·refine(zN)<|(aq (zi hlt hlen)) ?_;refine zX hlt zH ?_
   intro i y hi hy;by_cases hik:i=k
   ·subst hik;rw[hx] at hy;cases hy;exact hpx
   ·exact hall i y (by omega) hy
  ·exact(bq)<|zo [.tmp 4] (hq:=by rw[sC hx hpx hall])
def idx_contains{l:List (List Nat)}{s:List Nat}:decide (0<=eK (λx=>decide (s=x)) l)=l.contains s:=by
 rcases idx_find (λx=>decide (s=x)) l with⟨g1,g2⟩ | ⟨k,x,g1,hlt,hx,g2⟩
 ·rw[g1];rw[d6] at g2
  have:s∉l:=λhm=>by simpa using g2 s hm
  simp[this]
 ·rw[g1];have h:=fl g2;have hm:=bk g2;simp only[wp] at h;subst h;simp[hm]
def fD(l:List (List Nat))(s:List Nat)(hlen:l.length<=1000000):PC prog 45 [slS 1 l (one1 ae),ae s] (·=ao (l.contains s)):=by
 refine pB 9 Tryz.func45 ?_;exact(fe)<|(zK (qH l s hlen))<|(zR)<|zo [.tmp 4] (hq:=by rw[idx_contains])
def takes8(l:List KKind)(kind name other:List Nat):Bool:=match (findK8 l kind).bind λk=>findS8 k.slots name with
 | some s=>s.kinds.contains other
 | none=>false
def nJ(l:List KKind)(kind name other:List Nat)(hlen:l.length<=1000000)(hs:∀k∈l,k.slots.length<=1000000/\∀s∈k.slots,s.kinds.length<=1000000):PC prog 88 [.ag [slS 3 l encKind],ae kind,ae name,ae other] (·=ao (takes8 l kind name other)):=by
 refine pB 25 Tryz.func88 ?_;have hF:=yI l kind name hlen λk hk=>(hs k hk).1;refine(fe) ?_;unfold Proofs.takes8
 cases hf:(findK8 l kind).bind λk=>findS8 k.slots name with
 | none=>
  rw[hf] at hF
  exact(zK hF (hfl:=.inr (aM.refl rfl)))<|(bE (n3 @optR.eq_1 @encSlot.eq_1 @KSlot.zero.eq_1))<|(zV)<|zo [.tmp 8]
 | some q=>
  have hq:q.kinds.length<=1000000:=by
   obtain⟨k,hk,h2⟩:=Option.bind_eq_some_iff.1 hf;exact(hs k (bk hk)).2 q (bk h2)
  rw[hf] at hF
  exact(zK hF (hfl:=.inr (aM.refl rfl)))<|(bE (n2 @optR.eq_1 @encSlot.eq_1))<|(zC)<|(zK (fD q.kinds other hq))<|(zR)<|zo [.tmp 8]
def GoodS(s:List Nat):Prop:=s.length<=1000000/\∀b∈s,b<256
def cY(s:List Nat)(h:GoodS s):PC prog 49 [ae s] (·=ao (nameN s)):=qN s h.1 h.2
def c7:oE prog 9 AV.str:=BR (by kernel_rfl)
def dQ{S:List SO}{o:Nat}{l:List (List Nat×Bool)}(s:List Nat)(ok:Bool)(hS:S[o]?=some (aR AV.str ao l)):lookupS prog S 146 (.map o) (.a (.str s)) ok=some (cond ok (.aO [ao (getM false s l),ao (bl s l)]) (ao (getM false s l))):=
 rG (uv:=ao) (u0:=false) (k:=s) (kt:=9) (et:=4) (z:=.bool false) (by simp only[an]) c7 (by simp only[an]) rfl hS rfl ok
def m8{S:List SO}{o:Nat}{l:List (List Nat×Bool)}(s:List Nat)(u:Bool)(hS:S[o]?=some (aR AV.str ao l)):cZ prog S 146 (.map o) (.a (.str s)) (.a (.bool u))=some (S.set o (aR AV.str ao (bG s u l))):=
 vB (uv:=ao) (kt:=9) (et:=4) (by simp only[an]) c7 hS rfl u
def kinds8(parts:List (List Nat×Bool)):List (List Nat×Bool)->List (List Nat)->Bool
 | _,[]=>true
 | taken,x::xs=>!(getM false x taken||!getM false x parts)&&kinds8 parts (bG x true taken) xs
def slots8(parts:List (List Nat×Bool)):List (List Nat×Bool)->List KSlot->Bool
 | _,[]=>true
 | seen,s::ss=>!(getM false s.name seen||(!nameN s.name||(decide (s.normal<1)||decide ((s.kinds.length:Int)<s.normal))))&&(kinds8 parts [] s.kinds&&slots8 parts (bG s.name true seen) ss)
def kinds8V:List (List Nat×Bool)->List KKind->Bool
 | _,[]=>true
 | parts,k::ks=>!(bl k.name parts||(!nameN k.name||decide (12<(k.slots.length:Int))))&&(slots8 parts [] k.slots&&kinds8V (bG k.name (!k.vehicle) parts) ks)
def catV(l:List KKind):Bool:=kinds8V [] l&&decide ((l.length:Int)<=60)
structure CatOk (l:List KKind):Prop where
 len:l.length<=1000000
 kind:∀k∈l,GoodS k.name/\k.slots.length<=1000000
 slot:∀k∈l,∀s∈k.slots,GoodS s.name/\s.kinds.length<=1000000
def drop_at{α:Type}{l:List α}{k:Nat}{x:α}(h:l[k]?=some x):l.drop k=x::l.drop (k+1):=by
 obtain⟨hlt,he⟩:=List.getElem?_eq_some_iff.1 h;rw[d2 hlt,he]
def hY(l:List KKind)(hl:CatOk l):PC prog 35 [.ag [slS 3 l encKind]] (·=ao (catV l)):=by
 have hlen:=hl.len
 refine pB 108 Tryz.func35 ?_;refine(gi)<|(zV)<|(zs) ?_;refine Bl l (λk (parts:List (List Nat×Bool))=>kinds8V [] l=kinds8V parts (l.drop k)) (λk parts=>[(1,.ptr 0 0),(3,.map 1),(16,slS 3 l encKind),(17,aa l.length),(18,aa k)]) (λk parts=>[.cells [slS 3 l encKind],aR AV.str ao parts]) ([]) zH (by rfl) ?_;intro k parts hk hall;refine zT l k ?_ ?_;rintro rfl;rotate_left;intro x hx hlt;rotate_left
 ·exact(cV)<|(zV)<|zo [.tmp 2] (hq:=by rw[show catV l=decide ((l.length:Int)<=60) from by unfold catV;rw[hall,bW];rfl])
 have no:kinds8V parts (l.drop k)=false->catV l=false:=λh=>by unfold catV;rw[hall,h];rfl
 rw[drop_at hx] at no hall;have hgx:=hl.kind x (mem_iff_getElem?.2 ⟨k,hx⟩);have hsx:=hl.slot x (mem_iff_getElem?.2 ⟨k,hx⟩)
 refine(dI)<|(aq (n4 hlt (au (e:=3) (enc:=encKind) (λ_=>rfl) hx) @encKind.eq_1 @sE))<|(zs) ?_;refine ak.r0 (by rfl) (by simp only[bf,aN,slS,an,al,ax,↓reduceIte,ac,af,aj,ad,ap,ab,ah,isSub,dQ (l:=parts)];first | done | rfl) ?_
 cases h1:bl x.name parts;rotate_left
 ·exact(oD)<|(zV)<|zo [.tmp 2] (hq:=by rw[no (by simp[kinds8V,h1])])
 refine(zC)<|(zK (cY x.name hgx.1)) ?_
 cases h2:nameN x.name
 ·exact(zR)<|(bq)<|zo [.tmp 2] (hq:=by rw[no (by simp[kinds8V,h2])])
 cases h3:decide (12<(x.slots.length:Int));rotate_left
 ·exact(bE h3)<|(bq)<|zo [.tmp 2] (hq:=by rw[no (by simp only[kinds8V,h3,d9,dv,ci])])
 refine(bE h3)<|(zN)<|(aq @sE)<|(zV) ?_
 have hq2:kinds8V [] l=(slots8 parts [] x.slots&&kinds8V (bG x.name (!x.vehicle) parts) (l.drop (k+1))):=by rw[hall,kinds8V,h1,h2,h3];rfl
 have hnx:True:=trivial
 have no2:slots8 parts [] x.slots=false->catV l=false:=λh=>by unfold catV;rw[hq2,h];rfl
 have hlen2:=hgx.2;refine(zs) ?_;refine Bl x.slots (λk2 (seen:List (List Nat×Bool))=>slots8 parts [] x.slots=slots8 parts seen (x.slots.drop k2)) (λk2 seen=>[(1,.ptr 0 0),(3,.map 1),(16,slS 3 l encKind),(17,aa l.length),(18,aa k),(5,.ptr 2 0),(8,.map 3),(44,slS 3 x.slots encSlot),(45,aa x.slots.length),(46,aa k2)]) (λk2 seen=>[.cells [slS 3 l encKind],aR AV.str ao parts,.cells (encKind x),aR AV.str ao seen]) ([]) zH (by rfl) ?_;intro k2 seen hk2 hall2;refine zT x.slots k2 ?_ ?_;rintro rfl;rotate_left;intro y hx2 hlt2;rotate_left
 ·refine(cV) ?_
  have hall3:kinds8V [] l=kinds8V (bG x.name (!x.vehicle) parts) (l.drop (k+1)):=by rw[hq2,hall2,bW];rfl
  refine(zs) ?_;refine ak.r0 (by rfl) (by simp only[bf,aN,slS,an,al,ax,↓reduceIte,ac,af,aj,ad,ap,ab,ah,isSub,encKind,m8 (l:=parts)];first | done | rfl) ?_;refine(aq (zi hlt hlen)) ?_;refine xf hlt (bG x.name (!x.vehicle) parts) zH hall3
 have no3:slots8 parts seen (x.slots.drop k2)=false->catV l=false:=λh=>no2 (by rw[hall2,h]);rw[drop_at hx2] at no3 hall2;have hgy:=hsx y (mem_iff_getElem?.2 ⟨k2,hx2⟩)
 refine(dI)<|(aq (n5 hlt2 (au (e:=3) (enc:=encSlot) (λ_=>rfl) hx2) @encSlot.eq_1 @encKind.eq_1 @sE)) ?_
 cases g1:getM false y.name seen;rotate_left
 ·refine(zs) ?_;refine ak.r0 (by rfl) (by simp only[bf,aN,slS,an,al,ax,↓reduceIte,ac,af,aj,ad,ap,ab,ah,isSub,dQ (l:=seen),g1];first | done | rfl) ?_;exact(bq)<|zo [.tmp 2] (hq:=by rw[no3 (by simp[slots8,g1])])
 refine(zs) ?_;refine ak.Dl (by rfl) (by simp only[bf,aN,slS,an,al,ax,↓reduceIte,ac,af,aj,ad,ap,ab,ah,isSub,dQ (l:=seen),g1];first | done | rfl) ?_;refine(zK (cY y.name hgy.1)) ?_;cases g2:nameN y.name
 ·exact(zR)<|(bq)<|zo [.tmp 2] (hq:=by rw[no3 (by simp[slots8,g2])])
 cases g3:decide (y.normal<1);rotate_left
 ·exact(bE g3)<|(bq)<|zo [.tmp 2] (hq:=by rw[no3 (by simp only[slots8,g3,d9,eF,dv,ci])])
 cases g4:decide ((y.kinds.length:Int)<y.normal);rotate_left
 ·exact(bE (n2 g3 g4))<|(bq)<|zo [.tmp 2] (hq:=by rw[no3 (by simp only[slots8,g4,d9,eF,dv,ci])])
 refine(bE (n2 g3 g4))<|(zN)<|(zs) ?_;refine ak.r0 (by rfl) (by simp only[bf,aN,slS,an,al,ax,↓reduceIte,ac,af,aj,ad,ap,ab,ah,isSub,m8 (l:=seen)];first | done | rfl) ?_;refine(aq @sE)<|(zV) ?_
 have hq3:slots8 parts [] x.slots=(kinds8 parts [] y.kinds&&slots8 parts (bG y.name true seen) (x.slots.drop (k2+1))):=by rw[hall2,slots8,g1,g2,g3,g4];rfl
 have no4:kinds8 parts [] y.kinds=false->catV l=false:=λh=>no2 (by rw[hq3,h];rfl);have hlen3:=hgy.2;refine(zs) ?_;refine Bl y.kinds (λk3 (taken:List (List Nat×Bool))=>kinds8 parts [] y.kinds=kinds8 parts taken (y.kinds.drop k3)) (λk3 taken=>[(1,.ptr 0 0),(3,.map 1),(16,slS 3 l encKind),(17,aa l.length),(18,aa k),(5,.ptr 2 0),(8,.map 3),(44,slS 3 x.slots encSlot),(45,aa x.slots.length),(46,aa k2),(11,.map 5),(78,slS 1 y.kinds (one1 ae)),(79,aa y.kinds.length),(80,aa k3)]) (λk3 taken=>[.cells [slS 3 l encKind],aR AV.str ao parts,.cells (encKind x),aR AV.str ao (bG y.name true seen),.gone,aR AV.str ao taken]) ([]) (bg (n2 @one1.eq_1 @encKind.eq_1)) (by rfl) ?_;intro k3 taken hk3 hall3;refine zT y.kinds k3 ?_ ?_;rintro rfl;rotate_left;intro z hx3 hlt3;rotate_left
 ·refine(cV) ?_
  have hall4:slots8 parts [] x.slots=slots8 parts (bG y.name true seen) (x.slots.drop (k2+1)):=by rw[hq3,hall3,bW];rfl
  refine(aq (zi hlt2 hlen2)) ?_;refine xf hlt2 (bG y.name true seen) (bg @encKind.eq_1) hall4
 have no5:kinds8 parts taken (y.kinds.drop k3)=false->catV l=false:=λh=>no4 (by rw[hall3,h]);rw[drop_at hx3] at no5 hall3
 refine(dI)<|(aq (n3 hlt3 (au (e:=1) (enc:=one1 ae) (λ_=>rfl) hx3) @one1.eq_1)) ?_
 cases f1:getM false z taken;rotate_left
 ·refine(zs) ?_;refine ak.r0 (by rfl) (by simp only[bf,aN,slS,an,al,ax,↓reduceIte,ac,af,aj,ad,ap,ab,ah,isSub,dQ (l:=taken),f1];first | done | rfl) ?_;exact(bq)<|zo [.tmp 2] (hq:=by rw[no5 (by simp[kinds8,f1])])
 cases f2:getM false z parts
 ·refine(zs) ?_;refine ak.r0 (by rfl) (by simp only[bf,aN,slS,an,al,ax,↓reduceIte,ac,af,aj,ad,ap,ab,ah,isSub,dQ (l:=taken),dQ (l:=parts),f1,f2];first | done | rfl) ?_;exact(bq)<|zo [.tmp 2] (hq:=by rw[no5 (by simp[kinds8,f2])])
 refine(zs) ?_;refine ak.r0 (by rfl) (by simp only[bf,aN,slS,an,al,ax,↓reduceIte,ac,af,aj,ad,ap,ab,ah,isSub,dQ (l:=taken),dQ (l:=parts),f1,f2];first | done | rfl) ?_;refine(zN) ?_
 have hall5:kinds8 parts [] y.kinds=kinds8 parts (bG z true taken) (y.kinds.drop (k3+1)):=by rw[hall3,kinds8,f1,f2];rfl
 refine(zs) ?_;refine ak.r0 (by rfl) (by simp only[bf,aN,slS,an,al,ax,↓reduceIte,ac,af,aj,ad,ap,ab,ah,isSub,m8 (l:=taken)];first | done | rfl) ?_;refine(aq (zi hlt3 hlen3)) ?_;refine xf hlt3 (bG z true taken) (bg (n2 @one1.eq_1 @encKind.eq_1)) hall5
def idx_any{α:Type}{p:α->Bool}{l:List α}:decide (0<=eK p l)=l.any p:=by
 rcases idx_find p l with⟨g1,g2⟩ | ⟨k,x,g1,hlt,hx,g2⟩
 ·rw[g1];rw[d6] at g2
  have:l.any p=false:=by
   rw[List.any_eq_false];exact g2
  rw[this];rfl
 ·rw[g1];have:l.any p=true:=List.any_eq_true.2 ⟨x,bk g2,fl g2⟩;rw[this];simp
def vP{l:List (List Nat)}(p:List Nat->Bool){fid:FuncId}{first cap:List SV}(hlen:l.length<=1000000)(hp:∀x∈l,PC prog fid ((first++[ae x])++cap) (·=ao (p x)))(hg:bm first=true/\bm cap=true):PC prog 100 [slS 1 l (one1 ae),.fn fid first cap] (·=ao (l.any p)):=by
 refine pB 9 Tryz.func100 ?_;exact(fe)<|(zK (we p hlen hp hg) (hwk:=.cons (Wk.sl _ _ _) (.cons (.fn (aM.refl hg.1) (aM.refl hg.2)) .nil)))<|(zR)<|zo [.tmp 4] (hq:=by rw[idx_any])
structure EvM where
 op:Int
 day:Int
 part:List Nat
 kind:List Nat
 into:List Nat
 slot:List Nat
 key:List Nat
 value:List Nat
 u1:Int
 u2:Int
 u3:Int
 u4:Int
 u5:Int
 u6:Int
 deriving DecidableEq
def encEv(e:EvM):List SV:=[aa e.op,aa e.day,ae e.part,ae e.kind,ae e.into,ae e.slot,ae e.key,ae e.value,aa e.u1,aa e.u2,aa e.u3,aa e.u4,aa e.u5,aa e.u6]
def EvM.av(e:EvM):List AV:=[.int .i64 e.op,.int .i64 e.day,.str e.part,.str e.kind,.str e.into,.str e.slot,.str e.key,.str e.value,.int .i64 e.u1,.int .i64 e.u2,.int .i64 e.u3,.int .i64 e.u4,.int .i64 e.u5,.int .i64 e.u6]
def EvM.zero:EvM:=⟨0,0,[],[],[],[],[],[],0,0,0,0,0,0⟩
def EvM.kds:List Kd:=[.i .i64,.i .i64,.s,.s,.s,.s,.s,.s,.i .i64,.i .i64,.i .i64,.i .i64,.i .i64,.i .i64]
def EvM.eq(a b:EvM):dZ dL a.av b.av=decide (a=b):=by
 obtain⟨a1,a2,a3,a4,a5,a6,a7,a8,a9,a10,a11,a12,a13,a14⟩:=a;obtain⟨b1,b2,b3,b4,b5,b6,b7,b8,b9,b10,b11,b12,b13,b14⟩:=b;simp only[EvM.av,dZ,dL,pg,oW,ib,dD,dl,EvM.mk.injEq,fd]
def wh:oE prog 69 λe:EvM=>.agg e.av:=
 ry (ks:=EvM.kds) (by kernel_rfl) (by simp only[an,ax]) (λ_=>rfl) EvM.eq λ_=>rfl
def rT(a b:EvM):bz prog .eql 69 (.agg a.av) (.agg b.av)=some (.bool (decide (a=b))):=
 ug (ks:=EvM.kds) (by kernel_rfl) (by kernel_rfl) (by simp only[an,ax]) rfl rfl (EvM.eq a b)
def words9:List (List Nat):=[[],[109,97,107,101],[102,105,116],[114,101,109,111,118,101],[114,117,110],[111,118,101,114,104,97,117,108],[110,111,116,101],[115,99,114,97,112]]
def wordN(op:Int):List Nat:=if op<0\/8<=op then [] else (words9[op.toNat]?).getD []
def yN(op:Int):PC prog 98 [aa op] (·=ae (wordN op)):=by
 refine pB 14 Tryz.func98 ?_;refine(gi) ?_;cases h1:decide (op<0);rotate_left
 ·exact(aq h1)<|(bq)<|zo [.tmp 2] (hq:=by rw[wordN,t8 (.inl (ww h1))])
 cases h2:decide (8<=op);rotate_left
 ·exact(aq (n2 h1 h2))<|(bq)<|zo [.tmp 2] (hq:=by rw[wordN,t8 (.inr (ww h2))])
 refine(aq (n2 h1 h2))<|(zN) ?_
 have hop:op=0\/op=1\/op=2\/op=3\/op=4\/op=5\/op=6\/op=7:=by simp only[wd] at h1 h2;omega
 rcases hop with rfl | rfl | rfl | rfl | rfl | rfl | rfl | rfl<;>(refine(zV) ?_ ;exact zo [.tmp 2])
def pY(a b c d e f:SV):PC prog 99 [.ip [a,b,c,d,e,f]] (·=.ag [.ip [a,b,c,d,e,f],.ip [c,d,e,f],.ip [e,f]]):=by
 refine pB 13 Tryz.func99 ?_;refine(zV)<|(zs) ?_;refine kU [0,1,3,0,8,24,0,64,192,511,1023] ?_;refine(zD) ?_;refine SD.e (by rfl) rfl (by rfl) rfl rfl (by rfl) zl ?_;exact(zM)<|zo [.cell 2 183]
def tD(s:List Nat)(h:GoodS s):PC prog 101 [ae s] (·=ao (!nameN s)):=by
 refine pB 6 Tryz.func101 ?_;exact(fe)<|(zK (cY s h))<|(zR)<|zo [.tmp 2]
def iokN(a b:Int):Bool:=!(decide (a<0))&&(!(decide (b<a))&&!(decide (1000000<b)))
def EvM.use(e:EvM):Bool:=iokN e.u1 e.u2&&(iokN e.u3 e.u4&&iokN e.u5 e.u6)
def EvM.rest(e:EvM):EvM:=
 if e.op=1 then ⟨0,0,[],[],e.into,e.slot,e.key,e.value,e.u1,e.u2,e.u3,e.u4,e.u5,e.u6⟩
 else if e.op=2 then ⟨0,0,[],e.kind,[],[],e.key,e.value,e.u1,e.u2,e.u3,e.u4,e.u5,e.u6⟩
 else if e.op=6 then ⟨0,0,[],e.kind,e.into,e.slot,[],[],e.u1,e.u2,e.u3,e.u4,e.u5,e.u6⟩
 else if e.op=4 then ⟨0,0,[],e.kind,e.into,e.slot,e.key,e.value,0,0,0,0,0,0⟩
 else ⟨0,0,[],e.kind,e.into,e.slot,e.key,e.value,e.u1,e.u2,e.u3,e.u4,e.u5,e.u6⟩
def EvM.names(e:EvM):List (List Nat):=if e.op=1 then [e.kind] else if e.op=2 then [e.into,e.slot] else if e.op=6 then [e.key] else []
def EvM.mid(e:EvM):Bool:=
 if e.op=1 then true else if e.op=2 then !(decide (e.into=e.part)) else if e.op=6 then !(decide (e.value=[]))&&!(decide (200<(e.value.length:Int))) else if e.op=4 then e.use else true
def validEv(e:EvM):Bool:=!(decide (wordN e.op=[]))&&(!(decide (e.day<0))&&(!(decide (40000<e.day))&&(nameN e.part&&(e.mid&&(decide (e.rest=EvM.zero)&&!(e.names.any λs=>!nameN s))))))
structure EvOk (e:EvM):Prop where
 part:GoodS e.part
 kind:GoodS e.kind
 into:GoodS e.into
 slot:GoodS e.slot
 key:GoodS e.key
 value:GoodS e.value
def pU(a1 a2:Int)(a3 a4 a5 a6 a7 a8:List Nat)(a9 a10 a11 a12 a13 a14:Int):bz prog .eql 69 (.agg [.int .i64 a1,.int .i64 a2,.str a3,.str a4,.str a5,.str a6,.str a7,.str a8,.int .i64 a9,.int .i64 a10,.int .i64 a11,.int .i64 a12,.int .i64 a13,.int .i64 a14]) (.agg [.int .i64 0,.int .i64 0,.str [],.str [],.str [],.str [],.str [],.str [],.int .i64 0,.int .i64 0,.int .i64 0,.int .i64 0,.int .i64 0,.int .i64 0])=some (.bool (decide ((⟨a1,a2,a3,a4,a5,a6,a7,a8,a9,a10,a11,a12,a13,a14⟩:EvM)=EvM.zero))):=
 rT ⟨a1,a2,a3,a4,a5,a6,a7,a8,a9,a10,a11,a12,a13,a14⟩ EvM.zero
def jI(e:EvM)(he:EvOk e):PC prog 51 [.ag (encEv e)] (·=ao (validEv e)):=by
 refine pB 111 Tryz.func51 ?_;refine(aq @encEv.eq_1)<|(zC)<|(zK (yN e.op)) ?_
 cases h1:decide (wordN e.op=[]);rotate_left
 ·exact(bE h1)<|(bq)<|zo [.tmp 2] (hq:=by rw[validEv,h1];rfl)
 cases h2:decide (e.day<0);rotate_left
 ·exact(bE (n2 h1 h2))<|(bq)<|zo [.tmp 2] (hq:=by rw[validEv,h1,h2];rfl)
 cases h3:decide (40000<e.day);rotate_left
 ·exact(bE (n3 h1 h2 h3))<|(bq)<|zo [.tmp 2] (hq:=by rw[validEv,h1,h2,h3];rfl)
 refine(Et (n3 h1 h2 h3))<|(zK (cY e.part he.part)) ?_
 cases h4:nameN e.part
 ·exact(zR)<|(bq)<|zo [.tmp 2] (hq:=by rw[validEv,h1,h2,h3,h4];rfl)
 refine(zR)<|(zN) ?_
 have hv:validEv e=(e.mid&&(decide (e.rest=EvM.zero)&&!(e.names.any λs=>!nameN s))):=by rw[validEv,h1,h2,h3,h4];rfl
 clear h1 h2 h3 h4
 have hn:∀s∈e.names,GoodS s:=by
  intro s hs;unfold EvM.names at hs;split at hs
  ·rw[mem_singleton.1 hs];exact he.kind
  split at hs
  ·rcases mem_cons.1 hs with rfl | hs
   ·exact he.into
   ·rw[mem_singleton.1 hs];exact he.slot
  split at hs
  ·rw[mem_singleton.1 hs];exact he.key
  ·cases hs
 have hnl:e.names.length<=1000000:=by
  unfold EvM.names
  repeat' split
  all_goals simp
 refine(gi)<|(gi) ?_
 (repeat refine ak.seq ?_)
 refine ak.mono (Q:=λex st=>(ex=.normal/\e.mid=true/\Fg st ⟨[(3,.sl e.names.length 1 (e.names.flatMap (one1 ae))),(4,.ptr 2 0)],111,[.gone,.gone,.cells (encEv e.rest)],[]⟩)\/(ex=.ret/\kr prog Tryz.f51 (·=ao (validEv e)) .ret st)) ?_ ?_;rotate_left
 ·rintro ex st (⟨rfl,hm,hf⟩ | ⟨rfl,hs⟩);rotate_left
  ·exact hs
  change ak _ _ _ _ _;refine ak.fg hf ?_;rw[hv,hm,dD];cases r:decide (e.rest=EvM.zero)
  ·exact(aq (n3 @encEv.eq_1 @pU r))<|zo [.tmp 2]
  ·exact(e8 (n3 @encEv.eq_1 @pU r))<|(zK (vP (λs=>!nameN s) (l:=e.names) (first:=[]) (cap:=[]) hnl (λx hx=>tD x (hn x hx)) ⟨rfl,rfl⟩))<|(zR)<|zo [.tmp 2]
 have hrest:∀a1 a2 a3 a4 a5 a6 a7 a8 a9 a10 a11 a12 a13 a14,e.rest=(⟨a1,a2,a3,a4,a5,a6,a7,a8,a9,a10,a11,a12,a13,a14⟩:EvM)->encEv e.rest=[aa a1,aa a2,ae a3,ae a4,ae a5,ae a6,ae a7,ae a8,aa a9,aa a10,aa a11,aa a12,aa a13,aa a14]:=by
  intros;simp only[*,encEv]
 refine ak.block ?_;refine(zV) ?_;cases k1:decide (e.op=1);rotate_left
 ·have k1':=ww k1;refine(bq) ?_;have hr:=hrest _ _ _ _ _ _ _ _ _ _ _ _ _ _ (show e.rest=_ by unfold EvM.rest;rw[t8 k1'])
  have hnm:e.names=[e.kind]:=by unfold EvM.names;rw[t8 k1']
  refine .inl ⟨rfl,by unfold EvM.mid;rw[t8 k1'],?_⟩;rw[hr,hnm];exact Fg.trans (Fg.freeze (f':=[(3,.sl 1 1 [ae e.kind]),(4,.ptr 2 0)]) 3 rfl (λh=>by cases h) zG) zH
 have n1:=wt k1;refine(ee) ?_;cases k2:decide (e.op=2);rotate_left
 ·have k2':=ww k2
  have hmid:e.mid=!(decide (e.into=e.part)):=by unfold EvM.mid;rw[ul n1,t8 k2']
  refine(bq) ?_;cases j1:decide (e.into=e.part);rotate_left
  ·refine(bq) ?_;refine ak.ret ?_;refine .inr ⟨rfl,?_⟩;exact zO [.tmp 2] (hq:=by (try simp only[bL,aF]);first | done | (rw[hv,hmid,j1];rfl))
  refine(ee) ?_;have hr:=hrest _ _ _ _ _ _ _ _ _ _ _ _ _ _ (show e.rest=_ by unfold EvM.rest;rw[ul n1,t8 k2'])
  have hnm:e.names=[e.into,e.slot]:=by unfold EvM.names;rw[ul n1,t8 k2']
  refine .inl ⟨rfl,by rw[hmid,j1];rfl,?_⟩;rw[hr,hnm];exact Fg.trans (Fg.freeze (f':=[(3,.sl 2 1 [ae e.into,ae e.slot]),(4,.ptr 2 0)]) 3 rfl (λh=>by cases h) zG) zH
 have n2:=wt k2;refine(ee) ?_;cases k6:decide (e.op=6);rotate_left
 ·have k6':=ww k6
  have hmid:e.mid=(!(decide (e.value=[]))&&!(decide (200<(e.value.length:Int)))):=by unfold EvM.mid;rw[ul n1,ul n2,t8 k6']
  refine(zY) ?_;cases j1:decide (e.value=[]);rotate_left
  ·refine(aq j1)<|(bq) ?_;refine ak.ret ?_;refine .inr ⟨rfl,?_⟩;exact zO [.tmp 2] (hq:=by (try simp only[bL,aF]);first | done | (rw[hv,hmid,j1];rfl))
  cases j2:decide (200<(e.value.length:Int));rotate_left
  ·refine(zs) ?_;refine ak.r0 (by rfl) (by simp only[bf,aN,slS,an,al,ax,↓reduceIte,ac,af,aj,ad,ap,ab,ah,isSub,j1,j2];first | done | rfl) ?_;refine(bq) ?_;refine ak.ret ?_;refine .inr ⟨rfl,?_⟩;exact zO [.tmp 2] (hq:=by (try simp only[bL,aF]);first | done | (rw[hv,hmid,j1,j2];rfl))
  refine(zs) ?_;refine ak.r0 (by rfl) (by simp only[bf,aN,slS,an,al,ax,↓reduceIte,ac,af,aj,ad,ap,ab,ah,isSub,j1,j2];first | done | rfl) ?_;refine(ee) ?_;have hr:=hrest _ _ _ _ _ _ _ _ _ _ _ _ _ _ (show e.rest=_ by unfold EvM.rest;rw[ul n1,ul n2,t8 k6'])
  have hnm:e.names=[e.key]:=by unfold EvM.names;rw[ul n1,ul n2,t8 k6']
  refine .inl ⟨rfl,by rw[hmid,j1,j2];rfl,?_⟩;rw[hr,hnm];exact Fg.trans (Fg.freeze (f':=[(3,.sl 1 1 [ae e.key]),(4,.ptr 2 0)]) 3 rfl (λh=>by cases h) zG) zH
 have n6:=wt k6
 have hnm:e.names=[]:=by unfold EvM.names;rw[ul n1,ul n2,ul n6]
 refine(ee) ?_;cases k4:decide (e.op=4)
 ·have n4:=wt k4;refine(zN) ?_;have hr:=hrest _ _ _ _ _ _ _ _ _ _ _ _ _ _ (show e.rest=_ by unfold EvM.rest;rw[ul n1,ul n2,ul n6,ul n4]);refine .inl ⟨rfl,by unfold EvM.mid;rw[ul n1,ul n2,ul n6,ul n4],?_⟩;rw[hr,hnm];exact Fg.trans (Fg.freeze (f':=[(3,.sl 0 1 []),(4,.ptr 2 0)]) 1 rfl (λh=>by cases h) zG) zH
 have k4':=ww k4
 have hmid:e.mid=e.use:=by unfold EvM.mid;rw[ul n1,ul n2,ul n6,t8 k4']
 refine(zY) ?_;refine ak.fg (Fg.freeze (f':=[(1,.ip (encEv e)),(3,.buf 1 0 1 (some 0)),(4,.ptr 2 0)]) 0 rfl (λh=>by cases h) (jM @encEv.eq_1)) ?_;refine(e8 @encEv.eq_1)<|(zK (pY (aa e.u1) (aa e.u2) (aa e.u3) (aa e.u4) (aa e.u5) (aa e.u6)) (hfl:=.inr (aM.refl rfl)))<|(zR) ?_
 (repeat refine ak.seq ?_)
 refine ak.block (ak.loop (λm st=>∃k:Nat,k<=3/\m=3-k/\(0<k->iokN e.u1 e.u2=true)/\(1<k->iokN e.u3 e.u4=true)/\(2<k->iokN e.u5 e.u6=true)/\st=⟨[(3,.buf 1 0 1 (some 0)),(4,.ptr 2 0),(73,.ag [.ip [aa e.u1,aa e.u2,aa e.u3,aa e.u4,aa e.u5,aa e.u6],.ip [aa e.u3,aa e.u4,aa e.u5,aa e.u6],.ip [aa e.u5,aa e.u6]]),(74,aa k)],111,[.gone,.cells [],.cells [aa 0,aa 0,ae [],ae e.kind,ae e.into,ae e.slot,ae e.key,ae e.value,aa e.u1,aa e.u2,aa e.u3,aa e.u4,aa e.u5,aa e.u6]],[]⟩) 3 zH ⟨0,by omega,rfl,λh=>t7 h (by omega),λh=>t7 h (by omega),λh=>t7 h (by omega),rfl⟩ (by rintro m st ⟨k,_,_,_,_,_,rfl⟩;rfl) ?_);rintro m st ⟨k,hk,rfl,u1,u2,u3,rfl⟩;refine(zV) ?_;by_cases hlt:k<3;rotate_left
 ·obtain rfl:k=3:=by omega
  refine(cV)<|(aq (show bT prog 67=some (.agg [.int .i64 0,.int .i64 0,.int .i64 0,.int .i64 0,.int .i64 0,.int .i64 0]) by simp only[an])) ?_
  have hr:=hrest _ _ _ _ _ _ _ _ _ _ _ _ _ _ (show e.rest=_ by unfold EvM.rest;rw[ul n1,ul n2,ul n6,t8 k4']);refine .inl ⟨rfl,by rw[hmid,EvM.use,u1 (by omega),u2 (by omega),u3 (by omega)];rfl,?_⟩;rw[hr,hnm];exact Fg.trans (Fg.freeze (f':=[(3,.sl 0 1 []),(4,.ptr 2 0)]) 1 rfl (λh=>by cases h) zG) zH
 rw[show decide ((k:Int)<3)=true by simp only[wp];omega]
 obtain⟨a,b,l,hab,hno,hyes⟩:∃(a b:Int) (l:List SV),([.ip [aa e.u1,aa e.u2,aa e.u3,aa e.u4,aa e.u5,aa e.u6],.ip [aa e.u3,aa e.u4,aa e.u5,aa e.u6],.ip [aa e.u5,aa e.u6]]:List SV)[k*1]?=some (.ip (aa a::aa b::l))/\(iokN a b=false->e.use=false)/\(iokN a b=true->(0<k+1->iokN e.u1 e.u2=true)/\(1<k+1->iokN e.u3 e.u4=true)/\(2<k+1->iokN e.u5 e.u6=true)):=by
  have:k=0\/k=1\/k=2:=by omega
  rcases this with rfl | rfl | rfl
  ·exact⟨_,_,_,rfl,λh=>by rw[EvM.use,h];rfl,λh=>⟨λ_=>h,λh=>by omega,λh=>by omega⟩⟩
  ·exact⟨_,_,_,rfl,λh=>by rw[EvM.use,h,ci,d7],λh=>⟨λ_=>u1 (by omega),λ_=>h,λh=>by omega⟩⟩
  ·exact⟨_,_,_,rfl,λh=>by rw[EvM.use,h,d7,d7],λh=>⟨λ_=>u1 (by omega),λ_=>u2 (by omega),λ_=>h⟩⟩
 refine(dI)<|(zs) ?_;refine ak.r0 (by rfl) (by simp only[bf,aN,slS,an,al,ax,↓reduceIte,ac,af,aj,ad,ap,ab,ah,isSub,hlt,hab];first | done | rfl) ?_
 cases c1:decide (a<0);rotate_left
 ·refine(zs) ?_;refine kU [0,1,3,7,15,31,63,127,255,511,63,1087,3135,7231,16383,32767,65535,131071,262143,524287,1048575,2097151,4194303] ?_;refine(jL c1)<|(zM)<|(bq) ?_;refine ak.ret ?_;refine .inr ⟨rfl,?_⟩;exact zO [.tmp 2] (hq:=by (try simp only[bL,aF]);first | done | (rw[hv,hmid,hno (by simp[iokN,ww c1])];rfl))
 cases c2:decide (b<a);rotate_left
 ·refine(zs) ?_;refine kU [0,1,3,7,15,31,63,127,255,511,63,1087,3135,7231,16383,32767,65535,131071,262143,524287,1048575,2097151,4194303] ?_
  (repeat (first | refine SD.r (by rfl) rfl (by rfl) (by rfl) (by simp only[bf,aN,slS,an,al,ax,↓reduceIte,ac,af,aj,ad,ap,ab,ah,isSub,c1,c2];first | done | rfl) ?_ | refine SD.s (by rfl) rfl (by rfl) (by rfl) ?_ | fail))
  refine(zM)<|(bq) ?_;refine ak.ret ?_;refine .inr ⟨rfl,?_⟩;exact zO [.tmp 2] (hq:=by (try simp only[bL,aF]);first | done | (rw[hv,hmid,hno (by simp[iokN,ww c2])];rfl))
 cases c3:decide (1000000<b);rotate_left
 ·refine(zs) ?_;refine kU [0,1,3,7,15,31,63,127,255,511,63,1087,3135,7231,16383,32767,65535,131071,262143,524287,1048575,2097151,4194303] ?_;refine(jL (n3 c1 c2 c3))<|(zM)<|(bq) ?_;refine ak.ret ?_;refine .inr ⟨rfl,?_⟩;exact zO [.tmp 2] (hq:=by (try simp only[bL,aF]);first | done | (rw[hv,hmid,hno (by simp[iokN,ww c3])];rfl))
 refine(zs) ?_;refine kU [0,1,3,7,15,31,63,127,255,511,63,1087,3135,7231,16383,32767,65535,131071,262143,524287,1048575,2097151,4194303] ?_;refine(jL (n3 c1 c2 c3))<|(zM)<|(zN) ?_
 obtain⟨y1,y2,y3⟩:=hyes (by rw[iokN,c1,c2,c3];rfl);refine(aq (nL (show -9223372036854775808<=(k:Int)+1/\(k:Int)+1<=9223372036854775807 from⟨by omega,by omega⟩))) ?_;refine⟨3-(k+1),_,by omega,zH,k+1,by omega,rfl,y1,y2,y3,rfl⟩
def minStr(a b:List Nat):List Nat:=cond (db a b||my a b) a b
def maxStr(a b:List Nat):List Nat:=cond (db a b) b a
def namesEv(e:EvM):List (List Nat):=if validEv e=false then [] else if e.op=2 then [minStr e.part e.into,maxStr e.part e.into] else [e.part]
def min_str(a b:List Nat):kI false (.str a) (.str b)=some (.str (minStr a b)):=rfl
def max_str(a b:List Nat):kI true (.str a) (.str b)=some (.str (maxStr a b)):=rfl
def mf(e:EvM)(he:EvOk e):PC prog 138 [.ag (encEv e)] (·=slS 1 (Proofs.namesEv e) (one1 ae)):=by
 refine pB 25 Tryz.func138 ?_;refine(aq @encEv.eq_1)<|(zB)<|(zC)<|(zK (jI e he)) ?_
 cases h1:validEv e
 ·exact(zR)<|(bq)<|zo [.tmp 2] (r:=.sl 0 1 []) (hw:=zv) (hq:=by rw[Proofs.namesEv,t8 h1];rfl)
 refine(zR)<|(ee) ?_
 cases h2:decide (e.op=2)
 ·exact(ee)<|zo [.tmp 2] (r:=.sl 1 1 [ae e.part]) (hw:=zv) (hq:=by rw[Proofs.namesEv,ul (by rw[h1];decide),ul (wt h2)];rfl)
 ·exact(zY)<|(aq (n2 @min_str @max_str))<|zo [.tmp 2] (r:=.sl 2 1 [ae (minStr e.part e.into),ae (maxStr e.part e.into)]) (hw:=zv) (hq:=by rw[Proofs.namesEv,ul (by rw[h1];decide),t8 (ww h2)];rfl)
structure RepM where
 opts:List EvM
 doubt:Bool
def encRep(r:RepM):List SV:=[slS 14 r.opts encEv,ao r.doubt]
structure RepOk (r:RepM):Prop where
 len:r.opts.length<=1000000
 ev:∀e∈r.opts,EvOk e
def evK(e:EvM):AV:=.agg e.av
def p8{S:List SO}{o:Nat}{l:List (EvM×Bool)}(a1 a2:Int)(a3 a4 a5 a6 a7 a8:List Nat)(a9 a10 a11 a12 a13 a14:Int)(ok:Bool)(hS:S[o]?=some (aR evK ao l)):lookupS prog S 121 (.map o) (.ag [aa a1,aa a2,ae a3,ae a4,ae a5,ae a6,ae a7,ae a8,aa a9,aa a10,aa a11,aa a12,aa a13,aa a14]) ok=some (cond ok (.aO [ao (getM false (⟨a1,a2,a3,a4,a5,a6,a7,a8,a9,a10,a11,a12,a13,a14⟩:EvM) l),ao (bl (⟨a1,a2,a3,a4,a5,a6,a7,a8,a9,a10,a11,a12,a13,a14⟩:EvM) l)]) (ao (getM false (⟨a1,a2,a3,a4,a5,a6,a7,a8,a9,a10,a11,a12,a13,a14⟩:EvM) l))):=
 rG (uv:=ao) (u0:=false) (k:=(⟨a1,a2,a3,a4,a5,a6,a7,a8,a9,a10,a11,a12,a13,a14⟩:EvM)) (kt:=69) (et:=4) (z:=.bool false) (by simp only[an]) wh (by simp only[an]) rfl hS rfl ok
def Bg{S:List SO}{o:Nat}{l:List (EvM×Bool)}(a1 a2:Int)(a3 a4 a5 a6 a7 a8:List Nat)(a9 a10 a11 a12 a13 a14:Int)(u:Bool)(hS:S[o]?=some (aR evK ao l)):cZ prog S 121 (.map o) (.ag [aa a1,aa a2,ae a3,ae a4,ae a5,ae a6,ae a7,ae a8,aa a9,aa a10,aa a11,aa a12,aa a13,aa a14]) (.a (.bool u))=some (S.set o (aR evK ao (bG (⟨a1,a2,a3,a4,a5,a6,a7,a8,a9,a10,a11,a12,a13,a14⟩:EvM) u l))):=
 vB (uv:=ao) (k:=(⟨a1,a2,a3,a4,a5,a6,a7,a8,a9,a10,a11,a12,a13,a14⟩:EvM)) (kt:=69) (et:=4) (by simp only[an]) wh hS rfl u
def kill_E{n:Nat}{l:List (EvM×Bool)}:killO n (aR evK ao l)=aR evK ao l:=gl λ_=>fG _
def optsV:List (EvM×Bool)->List EvM->Bool
 | _,[]=>true
 | seen,e::es=>!(getM false e seen||!validEv e)&&optsV (bG e true seen) es
def validR(r:RepM):Bool:=!(decide ((r.opts.length:Int)=0))&&(!(decide (4<(r.opts.length:Int)))&&optsV [] r.opts)
def jK(r:RepM)(hr:RepOk r):PC prog 23 [.ag (encRep r)] (·=ao (Proofs.validR r)):=by
 have hlen:=hr.len;refine pB 35 Tryz.func23 ?_;refine(aq @encRep.eq_1) ?_;cases h1:decide ((r.opts.length:Int)=0);rotate_left
 ·exact(aq h1)<|(bq)<|zo [.tmp 2] (hq:=by rw[Proofs.validR,h1];rfl)
 cases h2:decide (4<(r.opts.length:Int));rotate_left
 ·exact(aq (n2 h1 h2))<|(bq)<|zo [.tmp 2] (hq:=by rw[Proofs.validR,h1,h2];rfl)
 refine(aq (n2 h1 h2))<|(zN) ?_
 have hv:Proofs.validR r=optsV [] r.opts:=by rw[Proofs.validR,h1,h2];rfl
 refine(gi)<|(zs) ?_;refine Bl r.opts (λk (seen:List (EvM×Bool))=>optsV [] r.opts=optsV seen (r.opts.drop k)) (λk seen=>[(3,.map 1),(18,slS 14 r.opts encEv),(19,aa r.opts.length),(20,aa k)]) (λk seen=>[.gone,aR evK ao seen]) ([]) zH (by rfl) ?_;intro k seen hk hall;refine zT r.opts k ?_ ?_;rintro rfl;rotate_left;intro e hx hlt;rotate_left
 ·exact(cV)<|(zV)<|zo [.tmp 2] (hq:=by rw[hv,hall,bW];rfl)
 have no:optsV seen (r.opts.drop k)=false->Proofs.validR r=false:=λh=>by rw[hv,hall,h]
 rw[drop_at hx] at no hall;have he:=hr.ev e (mem_iff_getElem?.2 ⟨k,hx⟩)
 refine(dI)<|(aq (n4 hlt (au (e:=14) (enc:=encEv) (λ_=>rfl) hx) @encEv.eq_1 @kill_E)) ?_
 cases g1:getM false e seen;rotate_left
 ·have g1':getM false (⟨e.op,e.day,e.part,e.kind,e.into,e.slot,e.key,e.value,e.u1,e.u2,e.u3,e.u4,e.u5,e.u6⟩:EvM) seen=true:=g1;refine(zs) ?_;refine ak.r0 (by rfl) (by simp only[bf,aN,slS,an,al,ax,↓reduceIte,ac,af,aj,ad,ap,ab,ah,isSub,p8 (l:=seen),g1'];first | done | rfl) ?_;refine(zs) ?_;refine ak.yes rfl ?_;(try (refine ak.skip ?_;try change ak _ _ _ _ _));refine(zs) ?_;refine ak.r0 (by rfl) zl ?_;refine(zE) ?_;exact kr.of (rs:=[.tmp 2]) rfl rfl zl (Wk.refl rfl) (by (try simp only[bL,aF]);first | done | (rw[no (by simp[optsV,g1])]))
 have g1':getM false (⟨e.op,e.day,e.part,e.kind,e.into,e.slot,e.key,e.value,e.u1,e.u2,e.u3,e.u4,e.u5,e.u6⟩:EvM) seen=false:=g1;refine(zs) ?_;refine ak.Dl (by rfl) (by simp only[bf,aN,slS,an,al,ax,↓reduceIte,ac,af,aj,ad,ap,ab,ah,isSub,p8 (l:=seen),g1'];first | done | rfl) ?_;refine(zK (jI e he)) ?_;cases g2:validEv e
 ·exact(zR)<|(bq)<|zo [.tmp 2] (hq:=by rw[no (by simp[optsV,g2])])
 refine(zR)<|(zN) ?_
 have hn:optsV [] r.opts=optsV (bG e true seen) (r.opts.drop (k+1)):=by rw[hall,optsV,g1,g2];rfl
 refine(zs) ?_;refine ak.r0 (by rfl) (by simp only[bf,aN,slS,an,al,ax,↓reduceIte,ac,af,aj,ad,ap,ab,ah,isSub,Bg (l:=seen)];first | done | rfl) ?_;refine(aq (zi hlt hlen)) ?_;refine xf hlt (bG e true seen) zH hn
def choicesN(r:RepM):Int:=if validR r=false then 0 else if r.doubt=true then (r.opts.length:Int)+1 else r.opts.length
def dW(r:RepM)(hr:RepOk r):PC prog 54 [.ag (encRep r)] (·=aa (choicesN r)):=by
 refine pB 17 Tryz.func54 ?_;have hlen:=hr.len
 refine(aq @encRep.eq_1)<|(zB)<|(zC)<|(zK (jK r hr)) ?_
 cases h1:Proofs.validR r
 ·exact(zR)<|(bq)<|zo [.tmp 2] (hq:=by rw[choicesN,t8 h1])
 refine(zR)<|(ee) ?_
 cases h2:r.doubt
 ·exact(ee)<|zo [.tmp 2] (hq:=by rw[choicesN,ul (by rw[h1];decide),ul (by rw[h2];decide)])
 ·refine(zY)<|(zs) ?_;refine ak.r0 (by rfl) (gf (bA (r.opts.length:Int) 1 (by omega))) ?_;exact zo [.tmp 2] (hq:=by rw[choicesN,ul (by rw[h1];decide),t8 h2])
structure PropM where
 key:List Nat
 value:List Nat
structure PartM where
 name:List Nat
 kind:List Nat
 into:List Nat
 slot:List Nat
 made:Int
 since:Int
 scrapped:Bool
 props:List PropM
 l1:Int
 l2:Int
 l3:Int
 l4:Int
 l5:Int
 l6:Int
def encProp(p:PropM):List SV:=[ae p.key,ae p.value]
def encPart(p:PartM):List SV:=[ae p.name,ae p.kind,ae p.into,ae p.slot,aa p.made,aa p.since,ao p.scrapped,slS 2 p.props encProp,aa p.l1,aa p.l2,aa p.l3,aa p.l4,aa p.l5,aa p.l6]
def PartM.zero:PartM:=⟨[],[],[],[],0,0,false,[],0,0,0,0,0,0⟩
def ordB:List (List Nat)->Bool
 | a::b::r=>db a b&&ordB (b::r)
 | _=>true
def ordB_all:∀{l:List (List Nat)},(∀(i:Nat) a b,l[i]?=some a->l[i+1]?=some b->db a b=true)->ordB l=true
 | [],_=>rfl
 | [_],_=>rfl
 | a::b::r,h=>by
  rw[ordB,h 0 a b rfl rfl,dD];exact ordB_all λi x y h1 h2=>h (i+1) x y h1 h2
def ordB_no:∀{l:List (List Nat)} {i:Nat} {a b:List Nat},l[i]?=some a->l[i+1]?=some b->db a b=false->ordB l=false
 | [],i,_,_,h,_,_=>by simp at h
 | [_],i,_,_,_,h,_=>by simp at h
 | x::y::r,0,a,b,h1,h2,h3=>by cases h1;cases h2;rw[ordB,h3];rfl
 | x::y::r,i+1,a,b,h1,h2,h3=>by
  rw[ordB,ordB_no (l:=y::r) (i:=i) h1 h2 h3,d7]
def getMap{α β:Type}{f:α->β}{l:List α}{i:Nat}{b:β}(h:(l.map f)[i]?=some b):∃a,l[i]?=some a/\f a=b:=by
 rw[be] at h;obtain⟨a,h1,h2⟩:=ai h;exact⟨a,h1,h2⟩
def ma(s:List Nat):PC prog 156 [.ag (ae s::cn 1 .any)] (·=ae s):=by
 refine pB 5 Tryz.func156 ?_;refine(aq reps)<|(zV)<|(zE) ?_;exact kr.of (rs:=[.tmp 2]) rfl rfl zl (Wk.refl rfl) zq
def tG(l:List PropM)(hlen:l.length<=1000000):PC prog 155 [slS 2 l encProp,.fn 156 [] []] (·=ao (ordB (l.map PropM.key))):=by
 refine pB 26 Tryz.func155 ?_;refine(gi) ?_
 (repeat refine ak.seq ?_)
 refine ak.block (ak.loop (λm st=>∃k:Nat,1<=k/\m=l.length-k/\(∀(i:Nat) a b,i+1<k->l[i]?=some a->l[i+1]?=some b->db a.key b.key=true)/\st=⟨[(0,slS 2 l encProp),(1,.fn 156 [] []),(5,aa k)],26,[],[]⟩) (l.length-1) zH ⟨1,by omega,rfl,λi a b h=>t7 h (by omega),rfl⟩ (by rintro m st ⟨k,_,_,_,rfl⟩;rfl) ?_);rintro m st ⟨k,hk,rfl,hall,rfl⟩;refine(zV) ?_;by_cases hlt:k<l.length;rotate_left
 ·rw[show decide ((k:Int)<(l.length:Int))=false by simp only[wd];omega]
  refine(cV)<|(zV) ?_
  exact zo [.tmp 4] (hq:=by rw[ordB_all λi a b h1 h2=>by
   obtain⟨x,hx,rfl⟩:=getMap h1;obtain⟨y,hy,rfl⟩:=getMap h2
   exact hall i x y (by have:=aE hy;omega) hx hy])
 rw[show decide ((k:Int)<(l.length:Int))=true by simp only[wp];omega];obtain⟨j,rfl⟩:∃j,k=j+1:=⟨k-1,by omega⟩;obtain⟨x,hx⟩:∃x,l[j]?=some x:=⟨l[j],ay (by omega)⟩;obtain⟨y,hy⟩:∃y,l[j+1]?=some y:=⟨l[j+1],ay hlt⟩
 have hj:j<l.length:=by omega
 refine(dI)<|(zs) ?_;refine kU [0,0,0,4,14,30,63,0,0,0,768,1792,4095,8191] ?_
 (repeat (first | refine SD.r (by rfl) rfl (by rfl) (by rfl) (gf (n5 (bS (((j+1:Nat):Int)) 1 (by omega)) (show((j+1:Nat):Int)-1=(j:Int) from by omega) hj (au (e:=2) (enc:=encProp) (λ_=>rfl) hx) @encProp.eq_1)) ?_ | refine SD.s (by rfl) rfl (by rfl) (by rfl) ?_ | fail))
 refine SD.k (by rfl) rfl rfl (by rfl) rfl rfl zc (ma x.key) (.cons (.ag (.cons (.a _) (.cons (.any _) .nil))) .nil) rfl ?_;refine(jL (n3 hlt (au (e:=2) (enc:=encProp) (λ_=>rfl) hy) @encProp.eq_1)) ?_;refine SD.k (by rfl) rfl rfl (by rfl) rfl rfl zc (ma y.key) (.cons (.ag (.cons (.a _) (.cons (.any _) .nil))) .nil) rfl ?_;refine(jL @k9)<|(zM) ?_
 cases g:db x.key y.key
 ·exact(bq)<|zo [.tmp 4] (hq:=by rw[ordB_no (i:=j) (a:=x.key) (b:=y.key) (by rw[be,hx];rfl) (by rw[be,hy];rfl) g])
 ·refine(zN)<|(zs) ?_;refine ak.r0 (by rfl) (gf (bA (((j+1:Nat):Int)) 1 (by omega))) ?_;refine⟨l.length-(j+1+1),_,by omega,zH,j+1+1,by omega,rfl,?_,rfl⟩
  intro i a b hi ha hb;by_cases hij:i=j
  ·subst hij;rw[hx] at ha;rw[hy] at hb;cases ha;cases hb;exact g
  ·exact hall i a b (by omega) ha hb
def l9(s:List Nat):PC prog 118 [.ag (ae s::cn 13 .any)] (·=ae s):=by
 refine pB 5 Tryz.func118 ?_;refine(aq reps)<|(zV)<|(zE) ?_;exact kr.of (rs:=[.tmp 2]) rfl rfl zl (Wk.refl rfl) zq
def tF(l:List PartM)(hlen:l.length<=1000000):PC prog 117 [slS 14 l encPart,.fn 118 [] []] (·=ao (ordB (l.map PartM.name))):=by
 refine pB 26 Tryz.func117 ?_;refine(gi) ?_
 (repeat refine ak.seq ?_)
 refine ak.block (ak.loop (λm st=>∃k:Nat,1<=k/\m=l.length-k/\(∀(i:Nat) a b,i+1<k->l[i]?=some a->l[i+1]?=some b->db a.name b.name=true)/\st=⟨[(0,slS 14 l encPart),(1,.fn 118 [] []),(5,aa k)],26,[],[]⟩) (l.length-1) zH ⟨1,by omega,rfl,λi a b h=>t7 h (by omega),rfl⟩ (by rintro m st ⟨k,_,_,_,rfl⟩;rfl) ?_);rintro m st ⟨k,hk,rfl,hall,rfl⟩;refine(zV) ?_;by_cases hlt:k<l.length;rotate_left
 ·rw[show decide ((k:Int)<(l.length:Int))=false by simp only[wd];omega]
  refine(cV)<|(zV) ?_
  exact zo [.tmp 4] (hq:=by rw[ordB_all λi a b h1 h2=>by
   obtain⟨x,hx,rfl⟩:=getMap h1;obtain⟨y,hy,rfl⟩:=getMap h2
   exact hall i x y (by have:=aE hy;omega) hx hy])
 rw[show decide ((k:Int)<(l.length:Int))=true by simp only[wp];omega];obtain⟨j,rfl⟩:∃j,k=j+1:=⟨k-1,by omega⟩;obtain⟨x,hx⟩:∃x,l[j]?=some x:=⟨l[j],ay (by omega)⟩;obtain⟨y,hy⟩:∃y,l[j+1]?=some y:=⟨l[j+1],ay hlt⟩
 have hj:j<l.length:=by omega
 refine(dI)<|(zs) ?_;refine kU [0,0,0,4,14,30,63,0,0,0,768,1792,4095,8191] ?_
 (repeat (first | refine SD.r (by rfl) rfl (by rfl) (by rfl) (gf (n5 (bS (((j+1:Nat):Int)) 1 (by omega)) (show((j+1:Nat):Int)-1=(j:Int) from by omega) hj (au (e:=14) (enc:=encPart) (λ_=>rfl) hx) @encPart.eq_1)) ?_ | refine SD.s (by rfl) rfl (by rfl) (by rfl) ?_ | fail))
 refine SD.k (by rfl) rfl rfl (by rfl) rfl rfl zc (l9 x.name) (.cons (.ag (.cons (.a _) (.cons (.any _) (.cons (.any _) (.cons (.any _) (.cons (.any _) (.cons (.any _) (.cons (.any _) (.cons (.any _) (.cons (.any _) (.cons (.any _) (.cons (.any _) (.cons (.any _) (.cons (.any _) (.cons (.any _) .nil))))))))))))))) .nil) rfl ?_;refine(jL (n3 hlt (au (e:=14) (enc:=encPart) (λ_=>rfl) hy) @encPart.eq_1)) ?_;refine SD.k (by rfl) rfl rfl (by rfl) rfl rfl zc (l9 y.name) (.cons (.ag (.cons (.a _) (.cons (.any _) (.cons (.any _) (.cons (.any _) (.cons (.any _) (.cons (.any _) (.cons (.any _) (.cons (.any _) (.cons (.any _) (.cons (.any _) (.cons (.any _) (.cons (.any _) (.cons (.any _) (.cons (.any _) .nil))))))))))))))) .nil) rfl ?_;refine(jL @k9)<|(zM) ?_
 cases g:db x.name y.name
 ·exact(bq)<|zo [.tmp 4] (hq:=by rw[ordB_no (i:=j) (a:=x.name) (b:=y.name) (by rw[be,hx];rfl) (by rw[be,hy];rfl) g])
 ·refine(zN)<|(zs) ?_;refine ak.r0 (by rfl) (gf (bA (((j+1:Nat):Int)) 1 (by omega))) ?_;refine⟨l.length-(j+1+1),_,by omega,zH,j+1+1,by omega,rfl,?_,rfl⟩
  intro i a b hi ha hb;by_cases hij:i=j
  ·subst hij;rw[hx] at ha;rw[hy] at hb;cases ha;cases hb;exact g
  ·exact hall i a b (by omega) ha hb
def wu{S:List SO}{o:Nat}{l:List (List Nat×Int)}(s:List Nat)(ok:Bool)(hS:S[o]?=some (aR AV.str aa l)):lookupS prog S 87 (.map o) (.a (.str s)) ok=some (cond ok (.aO [aa (getM 0 s l),ao (bl s l)]) (aa (getM 0 s l))):=
 rG (uv:=aa) (u0:=0) (k:=s) (kt:=9) (et:=3) (z:=.int .i64 0) (by simp only[an]) c7 (by simp only[an]) rfl hS rfl ok
def yB{S:List SO}{o:Nat}{l:List (List Nat×Int)}(s:List Nat)(u:Int)(hS:S[o]?=some (aR AV.str aa l)):cZ prog S 87 (.map o) (.a (.str s)) (.a (.int .i64 u))=some (S.set o (aR AV.str aa (bG s u l))):=
 vB (uv:=aa) (kt:=9) (et:=3) (by simp only[an]) c7 hS rfl u
def nC{S:List SO}{l:List (List Nat×Int)}(s:List Nat)(ok:Bool):lookupS prog S 87 (kc AV.str aa l) (.a (.str s)) ok=some (cond ok (.aO [aa (getM 0 s l),ao (bl s l)]) (aa (getM 0 s l))):=
 BW (uv:=aa) (u0:=0) (k:=s) (kt:=9) (et:=3) (z:=.int .i64 0) (by simp only[an]) c7 (by simp only[an]) rfl rfl ok
def atM:Nat->List (List Nat×Int)->List PartM->List (List Nat×Int)
 | _,m,[]=>m
 | i,m,p::ps=>atM (i+1) (if bl p.name m=true then m else bG p.name i m) ps
def yardS(ps:List PartM):SV:=.ag [slS 14 ps encPart,kc AV.str aa (atM 0 [] ps)]
def m7(ps:List PartM)(hlen:ps.length<=1000000):PC prog 79 [.ag [slS 14 ps encPart]] (·=yardS ps):=by
 refine pB 37 Tryz.func79 ?_;refine(gi)<|(zV)<|(zs) ?_;refine Bl ps (λk (m0:List (List Nat×Int))=>atM 0 [] ps=atM k m0 (ps.drop k)) (λk m0=>[(2,.ptr 1 0),(3,.ptr 3 0),(13,slS 14 ps encPart),(14,aa ps.length),(15,aa k)]) (λk m0=>[.gone,.cells [.a (.slice none 0 0 (some 0)),.a (.map none)],aR AV.str aa m0,.cells [slS 14 ps encPart,.map 2]]) ([]) zH (by rfl) ?_;intro k m0 hk hall;refine zT ps k ?_ ?_;rintro rfl;rotate_left;intro x hx hlt;rotate_left
 ·exact(cV)<|(zV)<|zo [.cell 2 154] (r:=.ag [slS 14 ps encPart,kc AV.str aa m0]) (hw:=Wk.ag (.cons (.sl _ _ _) (.cons (mw (λ_=>rfl) rfl) .nil))) (hq:=by rw[yardS,hall,bW];rfl)
 rw[drop_at hx] at hall
 refine(dI)<|(aq (n4 hlt (au (e:=14) (enc:=encPart) (λ_=>rfl) hx) @encPart.eq_1 @Eg))<|(zs) ?_;refine ak.r0 (by rfl) (by simp only[bf,aN,slS,an,al,ax,↓reduceIte,ac,af,aj,ad,ap,ab,ah,isSub,wu (l:=m0)];first | done | rfl) ?_;refine(zV) ?_
 cases h1:bl x.name m0
 ·refine(zY)<|(zs) ?_;refine ak.r0 (by rfl) (by simp only[bf,aN,slS,an,al,ax,↓reduceIte,ac,af,aj,ad,ap,ab,ah,isSub,yB (l:=m0)];first | done | rfl) ?_;refine(aq (zi hlt hlen)) ?_;refine xf hlt (bG x.name (k:Int) m0) zH (show atM 0 [] ps=atM (k+1) (bG x.name (k:Int) m0) (ps.drop (k+1)) by rw[hall,atM,h1];rfl)
 ·refine(zN)<|(aq (zi hlt hlen)) ?_;refine xf hlt (m0) zH (show atM 0 [] ps=atM (k+1) m0 (ps.drop (k+1)) by rw[hall,atM,t8 h1])
def getP(ps:List PartM)(m:List (List Nat×Int))(name:List Nat):Option PartM:=if bl name m=true then ps[(getM 0 name m).toNat]? else none
def YOk(ps:List PartM)(m:List (List Nat×Int)):Prop:=∀name,bl name m=true->∃k:Nat,getM 0 name m=(k:Int)/\k<ps.length
def jg(ps:List PartM)(m:List (List Nat×Int))(name:List Nat)(hm:YOk ps m):PC prog 84 [.ag [slS 14 ps encPart,kc AV.str aa m],ae name] (·=optR encPart PartM.zero (getP ps m name)):=by
 refine pB 23 Tryz.func84 ?_;refine(zV)<|(aq @nC)<|(zV) ?_
 cases h1:bl name m
 ·exact(bq)<|eL [.cell 4 99,.tmp 5] (r:=.aO [.ag [ae [],ae [],ae [],ae [],aa 0,aa 0,ao false,.sl 0 2 [],aa 0,aa 0,aa 0,aa 0,aa 0,aa 0],ao false]) (hw:=zv) (hq:=by rw[getP,h1];rfl)
 obtain⟨k,hk,hlt⟩:=hm name h1;obtain⟨x,hx⟩:∃x,ps[k]?=some x:=⟨ps[k],ay hlt⟩
 exact(zN)<|(aq (n4 hk hlt (au (e:=14) (enc:=encPart) (λ_=>rfl) hx) @encPart.eq_1))<|eL [.cell 4 99,.tmp 5] (hq:=by rw[getP,t8 h1,hk,Int.toNat_natCast,hx];rfl)
def atM_ok:∀{ps l:List PartM} {i:Nat} {m:List (List Nat×Int)},i+ps.length=l.length->YOk l m->YOk l (atM i m ps)
 | [],_,_,_,_,h=>h
 | p::ps,l,i,m,hl,h=>by
  rw[atM];refine atM_ok (by rw[length_cons] at hl;omega) ?_;split
  ·exact h
  ·intro name hn;by_cases e:name=p.name
   ·subst e;exact⟨i,by rw[cz,t8 rfl],by rw[length_cons] at hl;omega⟩
   ·rw[iA,un e,dt] at hn;rw[cz,ul e];exact h name hn
def amtN(a b:Int):Bool:=decide (0<=a)&&(decide (a<=b)&&decide (b<=1000000000000))
def propN(x:PropM):Bool:=nameN x.key&&(!(decide (x.value=[]))&&decide ((x.value.length:Int)<=200))
def pQ(a b:Int):PC prog 153 [.ag [aa a,aa b]] (·=ao (amtN a b)):=by
 refine pB 18 Tryz.func153 ?_;refine(zV) ?_;cases h1:decide (0<=a)
 ·exact(aq h1)<|zo [.tmp 2] (hq:=by rw[amtN,h1];rfl)
 cases h2:decide (a<=b)
 ·exact(aq (n2 h1 h2))<|zo [.tmp 2] (hq:=by rw[amtN,h1,h2];rfl)
 ·exact(aq (n2 h1 h2))<|zo [.tmp 2] (hq:=by rw[amtN,h1,h2];rfl)
def Bf(x:PropM)(hx:GoodS x.key):PC prog 154 [.ag (encProp x)] (·=ao (propN x)):=by
 refine pB 17 Tryz.func154 ?_;refine(aq @encProp.eq_1)<|(zC)<|(zK (cY x.key hx)) ?_
 cases h1:nameN x.key
 ·exact(zR)<|zo [.tmp 2] (hq:=by rw[propN,h1];rfl)
 cases h2:decide (x.value=[]);rotate_left
 ·exact(bE h2)<|zo [.tmp 2] (hq:=by rw[propN,h1,h2];rfl)
 ·exact(bE h2)<|zo [.tmp 2] (hq:=by rw[propN,h1,h2];rfl)
structure PartOk (p:PartM):Prop where
 name:GoodS p.name
 kind:GoodS p.kind
 into:GoodS p.into
 slot:GoodS p.slot
 len:p.props.length<=1000000
 prop:∀x∈p.props,GoodS x.key/\GoodS x.value
def rightN(c:List KKind)(p:PartM):Bool:=(findK8 c p.kind).isSome&&(nameN p.name&&(!(decide (p.made<0))&&(!(decide (p.since<p.made))&&(!(decide (40000<p.since))&&(!(decide (60<(p.props.length:Int)))&&(p.props.all propN&&(ordB (p.props.map PropM.key)&&(amtN p.l1 p.l2&&(amtN p.l3 p.l4&&amtN p.l5 p.l6)))))))))
def all_drop{α:Type}{p:α->Bool}{l:List α}{k:Nat}{x:α}(h:l[k]?=some x):(l.drop k).all p=(p x&&(l.drop (k+1)).all p):=by rw[drop_at h,List.all_cons]
def yE(c:List KKind)(p:PartM)(hc:c.length<=1000000)(hp:PartOk p):PC prog 119 [.ag [slS 3 c encKind],.ag (encPart p)] (·=ao (rightN c p)):=by
 have hlen:=hp.len;refine pB 85 Tryz.func119 ?_
 obtain⟨q,b,h1,hb⟩:∃(q:KKind) (b:Bool),optR encKind KKind.zero (findK8 c p.kind)=.aO [.ag (encKind q),ao b]/\(findK8 c p.kind).isSome=b:=by
  cases hf:findK8 c p.kind with
  | none=>exact⟨KKind.zero,false,rfl,rfl⟩
  | some q=>exact⟨q,true,rfl,rfl⟩
 have hF:=gK c p.kind hc;rw[h1] at hF
 refine(aq @encPart.eq_1)<|(gi)<|(zC)<|(zK hF (hfl:=.inr (aM.refl rfl)))<|(bE @encKind.eq_1) ?_
 cases b
 ·exact(oD)<|(zV)<|zo [.tmp 4] (hq:=by rw[rightN,hb];rfl)
 refine(zC)<|(zK (cY p.name hp.name)) ?_
 cases h2:nameN p.name
 ·exact(zR)<|(bq)<|zo [.tmp 4] (hq:=by rw[rightN,hb,h2];rfl)
 cases h3:decide (p.made<0);rotate_left
 ·exact(bE h3)<|(bq)<|zo [.tmp 4] (hq:=by rw[rightN,hb,h2,h3];rfl)
 cases h4:decide (p.since<p.made);rotate_left
 ·exact(bE (n2 h3 h4))<|(bq)<|zo [.tmp 4] (hq:=by rw[rightN,hb,h2,h3,h4];rfl)
 cases h5:decide (40000<p.since);rotate_left
 ·exact(bE (n3 h3 h4 h5))<|(bq)<|zo [.tmp 4] (hq:=by rw[rightN,hb,h2,h3,h4,h5];rfl)
 cases h6:decide (60<(p.props.length:Int));rotate_left
 ·exact(bE (n4 h3 h4 h5 h6))<|(bq)<|zo [.tmp 4] (hq:=by rw[rightN,hb,h2,h3,h4,h5,h6];rfl)
 refine(bE (n4 h3 h4 h5 h6))<|(zN) ?_
 have hv:rightN c p=(p.props.all propN&&(ordB (p.props.map PropM.key)&&(amtN p.l1 p.l2&&(amtN p.l3 p.l4&&amtN p.l5 p.l6)))):=by rw[rightN,hb,h2,h3,h4,h5,h6];rfl
 refine(zV)<|(zs) ?_;refine zL p.props (λk=>p.props.all propN=(p.props.drop k).all propN) (λk=>[(3,.ptr 1 0),(5,.fn 153 [] []),(6,.fn 154 [] []),(50,slS 2 p.props encProp),(51,aa p.props.length),(52,aa k)]) (λk=>[.gone,.cells (encPart p)]) (bg @encPart.eq_1) (by rfl) ?_;intro k hk hall;refine zT p.props k ?_ ?_;rintro rfl;rotate_left;intro x hx hlt;rotate_left
 ·refine(cV) ?_;rw[bW] at hall
  refine(e8 @encPart.eq_1)<|(zK (tG p.props hlen)) ?_
  cases g1:ordB (p.props.map PropM.key)
  ·exact(zR)<|zo [.tmp 4] (hq:=by rw[hv,hall,g1];rfl)
  refine(zQ)<|(zK (pQ p.l1 p.l2)) ?_
  cases g2:amtN p.l1 p.l2
  ·exact(zR)<|zo [.tmp 4] (hq:=by rw[hv,hall,g1,g2];rfl)
  refine(zQ)<|(zK (pQ p.l3 p.l4)) ?_
  cases g3:amtN p.l3 p.l4
  ·exact(zR)<|zo [.tmp 4] (hq:=by rw[hv,hall,g1,g2,g3];rfl)
  exact(zQ)<|(zK (pQ p.l5 p.l6))<|(zR)<|zo [.tmp 4] (hq:=by rw[hv,hall,g1,g2,g3];rfl)
 rw[all_drop hx] at hall
 refine(dI)<|(aq (n4 hlt (au (e:=2) (enc:=encProp) (λ_=>rfl) hx) @encProp.eq_1 @encPart.eq_1))<|(zC)<|(zK (Bf x (hp.prop x (mem_iff_getElem?.2 ⟨k,hx⟩)).1)) ?_
 cases g1:propN x
 ·exact(zR)<|(bq)<|zo [.tmp 4] (hq:=by rw[hv,hall,g1];rfl)
 ·refine(zR)<|(zN)<|(aq (zi hlt hlen)) ?_;refine zX hlt (bg @encPart.eq_1) (show p.props.all propN=(p.props.drop (k+1)).all propN by rw[hall,g1];rfl)
structure SeatM where
 into:List Nat
 slot:List Nat
 deriving DecidableEq
def SeatM.av(s:SeatM):List AV:=[.str s.into,.str s.slot]
def seatK(s:SeatM):AV:=.agg s.av
def SeatM.eq(a b:SeatM):dZ dL a.av b.av=decide (a=b):=by
 obtain⟨a1,a2⟩:=a;obtain⟨b1,b2⟩:=b;simp only[SeatM.av,dZ,dL,ib,dl,SeatM.mk.injEq,fd]
def p6:oE prog 206 seatK:=
 ry (ks:=[.s,.s]) (by kernel_rfl) (by simp only[an,ax]) (λ_=>rfl) SeatM.eq λ_=>rfl
def kq{S:List SO}{o:Nat}{l:List (SeatM×Bool)}(a b:List Nat)(ok:Bool)(hS:S[o]?=some (aR seatK ao l)):lookupS prog S 203 (.map o) (.ag [ae a,ae b]) ok=some (cond ok (.aO [ao (getM false (⟨a,b⟩:SeatM) l),ao (bl (⟨a,b⟩:SeatM) l)]) (ao (getM false (⟨a,b⟩:SeatM) l))):=
 rG (uv:=ao) (u0:=false) (k:=(⟨a,b⟩:SeatM)) (kt:=206) (et:=4) (z:=.bool false) (by simp only[an]) p6 (by simp only[an]) rfl hS rfl ok
def tL{S:List SO}{o:Nat}{l:List (SeatM×Bool)}(a b:List Nat)(u:Bool)(hS:S[o]?=some (aR seatK ao l)):cZ prog S 203 (.map o) (.ag [ae a,ae b]) (.a (.bool u))=some (S.set o (aR seatK ao (bG (⟨a,b⟩:SeatM) u l))):=
 vB (uv:=ao) (k:=(⟨a,b⟩:SeatM)) (kt:=206) (et:=4) (by simp only[an]) p6 hS rfl u
def kill_Seat{n:Nat}{l:List (SeatM×Bool)}:killO n (aR seatK ao l)=aR seatK ao l:=gl λ_=>fG _
def rY(a b:Bool):bz prog .neq 4 (.bool a) (.bool b)=some (.bool (!(a==b))):=by
 have h1:prog.eqGuardType prog.depth 4=false:=by kernel_rfl
 have h2:prog.underlying 4=some .bool:=by kernel_rfl
 have h3:fU prog 8 4 (.bool a) (.bool b)=some (a==b):=by unfold fU;rw[h2]
 show cond (prog.eqGuardType prog.depth 4) none ((fU prog 8 4 (.bool a) (.bool b)).map λb=>AV.bool (!b))=_;rw[h1,ah,h3];rfl
def hostV(c:List KKind)(taken:List (SeatM×Bool))(p:PartM):Option PartM->Bool
 | some h=>!(p.scrapped||(h.scrapped||(getM false ⟨p.into,p.slot⟩ taken||!takes8 c h.kind p.slot p.kind)))
 | none=>false
def partsV(c:List KKind)(ps:List PartM)(m:List (List Nat×Int)):List (SeatM×Bool)->List PartM->Bool
 | _,[]=>true
 | taken,p::r=>rightN c p&&((decide (p.into=[])==decide (p.slot=[]))&&cond (decide (p.into=[])) (partsV c ps m taken r) (hostV c taken p (getP ps m p.into)&&partsV c ps m (bG ⟨p.into,p.slot⟩ true taken) r))
def validF(c:List KKind)(ps:List PartM):Bool:=catV c&&(!(decide (20000<(ps.length:Int)))&&(ordB (ps.map PartM.name)&&partsV c ps (atM 0 [] ps) [] ps))
def yok_nil(ps:List PartM):YOk ps []:=λname h=>by cases h
def wS(c:List KKind)(ps:List PartM)(hc:CatOk c)(hlen:ps.length<=1000000)(hps:∀p∈ps,PartOk p):PC prog 78 [.ag [slS 3 c encKind],.ag [slS 14 ps encPart]] (·=ao (Proofs.validF c ps)):=by
 have hct:∀k∈c,k.slots.length<=1000000/\∀s∈k.slots,s.kinds.length<=1000000:=λk hk=>⟨(hc.kind k hk).2,λs hs=>(hc.slot k hk s hs).2⟩;have hy:YOk ps (atM 0 [] ps):=atM_ok (by omega) (yok_nil ps)
 refine pB 94 Tryz.func78 ?_;refine(fe)<|(zK (hY c hc)) ?_
 cases h1:catV c
 ·exact(zR)<|(bq)<|zo [.tmp 4] (hq:=by rw[Proofs.validF,h1];rfl)
 cases h2:decide (20000<(ps.length:Int));rotate_left
 ·exact(bE h2)<|(bq)<|zo [.tmp 4] (hq:=by rw[Proofs.validF,h1,h2];rfl)
 refine(Et h2)<|(zK (tF ps hlen)) ?_
 cases h3:ordB (ps.map PartM.name)
 ·exact(zR)<|(bq)<|zo [.tmp 4] (hq:=by rw[Proofs.validF,h1,h2,h3];rfl)
 refine(zR)<|(zN) ?_
 have hv:Proofs.validF c ps=partsV c ps (atM 0 [] ps) [] ps:=by rw[Proofs.validF,h1,h2,h3];rfl
 clear h1 h2 h3
 refine(zC)<|(zK (m7 ps hlen) (hfl:=.inr (aM.refl rfl))) ?_
 generalize hM:atM 0 [] ps=M at hv hy
 refine(bE (n2 @yardS.eq_1 hM))<|(gi)<|(zs) ?_;refine Bl ps (λk (taken:List (SeatM×Bool))=>partsV c ps M [] ps=partsV c ps M taken (ps.drop k)) (λk taken=>[(2,.ptr 0 0),(5,.ptr 2 0),(6,.map 3),(31,slS 14 ps encPart),(32,aa ps.length),(33,aa k)]) (λk taken=>[.cells [slS 3 c encKind],.gone,.cells [slS 14 ps encPart,kc AV.str aa M],aR seatK ao taken]) ([]) zH (by rfl) ?_;intro k taken hk hall;refine zT ps k ?_ ?_;rintro rfl;rotate_left;intro p hx hlt;rotate_left
 ·exact(cV)<|(zV)<|zo [.tmp 4] (hq:=by rw[hv,hall,bW];rfl)
 have no:partsV c ps M taken (ps.drop k)=false->Proofs.validF c ps=false:=λh=>by rw[hv,hall,h]
 rw[drop_at hx] at no hall;have hp:=hps p (mem_iff_getElem?.2 ⟨k,hx⟩)
 refine(dI)<|(aq (n4 hlt (au (e:=14) (enc:=encPart) (λ_=>rfl) hx) @encPart.eq_1 @kill_Seat))<|(zC)<|(zK (yE c p hc.len hp)) ?_
 cases g1:rightN c p
 ·exact(zR)<|(bq)<|zo [.tmp 4] (hq:=by rw[no (by simp[partsV,g1])])
 cases g2:(decide (p.into=[])==decide (p.slot=[]))
 ·exact(bE (n2 @rY g2))<|(bq)<|zo [.tmp 4] (hq:=by rw[no (by simp only[partsV,g1,g2,dD,ci])])
 refine(bE (n2 @rY g2))<|(ee) ?_
 cases g3:decide (p.into=[]);rotate_left
 ·refine(zY) ?_;refine ak.exit ?_
  (try change ak _ _ _ _ _)
  refine(aq (zi hlt hlen)) ?_;refine xf hlt (taken) zH (show partsV c ps M [] ps=partsV c ps M taken (ps.drop (k+1)) by rw[hall,partsV,g1,g2,g3];rfl)
 refine(zN) ?_
 have hpv:∀r,partsV c ps M taken (p::r)=(hostV c taken p (getP ps M p.into)&&partsV c ps M (bG ⟨p.into,p.slot⟩ true taken) r):=by intro r;rw[partsV,g1,g2,g3];rfl
 rw[hpv] at no hall;refine(zC) ?_;have hG:=jg ps M p.into hy
 cases hg:getP ps M p.into with
 | none=>
  rw[hg] at hG no
  exact(zK hG (hfl:=.inr (aM.refl rfl)))<|(bE (n4 @optR.eq_1 @encPart.eq_1 @PartM.zero.eq_1 @kill_Seat))<|(aq @kill_Seat)<|(oD)<|(zV)<|zo [.tmp 4] (hq:=by rw[no rfl])
 | some h=>
  rw[hg] at hG no hall
  refine(zK hG (hfl:=.inr (aM.refl rfl)))<|(bE (n3 @optR.eq_1 @encPart.eq_1 @kill_Seat))<|(aq @kill_Seat) ?_
  cases f1:p.scrapped;rotate_left
  ·exact(oD)<|(zV)<|zo [.tmp 4] (hq:=by rw[no (by simp[hostV,f1])])
  cases f2:h.scrapped;rotate_left
  ·exact(oD)<|(zV)<|zo [.tmp 4] (hq:=by rw[no (by simp[hostV,f2])])
  cases f3:getM false (⟨p.into,p.slot⟩:SeatM) taken;rotate_left
  ·refine(zs) ?_;refine ak.r0 (by rfl) (by simp only[bf,aN,slS,an,al,ax,↓reduceIte,ac,af,aj,ad,ap,ab,ah,isSub,kq (l:=taken),f3];first | done | rfl) ?_;exact(bq)<|zo [.tmp 4] (hq:=by rw[no (by simp[hostV,f3])])
  refine(zs) ?_;refine ak.Dl (by rfl) (by simp only[bf,aN,slS,an,al,ax,↓reduceIte,ac,af,aj,ad,ap,ab,ah,isSub,kq (l:=taken),f3];first | done | rfl) ?_;refine(zK (nJ c h.kind p.slot p.kind hc.len hct)) ?_;cases f4:Proofs.takes8 c h.kind p.slot p.kind
  ·exact(zR)<|(bq)<|zo [.tmp 4] (hq:=by rw[no (by simp[hostV,f4])])
  refine(zR)<|(zN)<|(zs) ?_;refine ak.r0 (by rfl) (by simp only[bf,aN,slS,an,al,ax,↓reduceIte,ac,af,aj,ad,ap,ab,ah,isSub,tL (l:=taken)];first | done | rfl) ?_;refine(aq (zi hlt hlen)) ?_;refine xf hlt (bG ⟨p.into,p.slot⟩ true taken) zH (show partsV c ps M [] ps=partsV c ps M (bG ⟨p.into,p.slot⟩ true taken) (ps.drop (k+1)) by rw[hall,show hostV c taken p (some h)=true by simp[hostV,f1,f2,f3,f4]];rfl)
def addW(a b:Int):Int:=bR .i64 (a+b)
def subW(a b:Int):Int:=bR .i64 (a-b)
def negW(a:Int):Int:=bR .i64 (0-a)
def bin_addW{P:Program}{t:TypeId}(a b:Int):bz P .add t (.int .i64 a) (.int .i64 b)=some (.int .i64 (addW a b)):=rfl
def bin_subW{P:Program}{t:TypeId}(a b:Int):bz P .sub t (.int .i64 a) (.int .i64 b)=some (.int .i64 (subW a b)):=rfl
def ivV(a b:Int):SV:=.ag [aa a,aa b]
def ivOkN(a b:Int):Bool:=decide (-1000000000000<=a)&&(decide (a<=b)&&decide (b<=1000000000000))
def iH(a b:Int):PC prog 177 [ivV a b] (·=ao (ivOkN a b)):=by
 refine pB 18 Tryz.func177 ?_;refine(aq @ivV.eq_1) ?_;cases h1:decide (-1000000000000<=a)
 ·exact(aq h1)<|zo [.tmp 2] (hq:=by rw[ivOkN,h1];rfl)
 cases h2:decide (a<=b)
 ·exact(aq (n2 h1 h2))<|zo [.tmp 2] (hq:=by rw[ivOkN,h1,h2];rfl)
 exact(aq (n2 h1 h2))<|zo [.tmp 2] (hq:=by rw[ivOkN,h1,h2];rfl)
def minI(a b:Int):Int:=if a<=b then a else b
def maxI(a b:Int):Int:=if b<=a then a else b
def min_int(a b:Int):kI false (.int .i64 a) (.int .i64 b)=some (.int .i64 (minI a b)):=vi
def max_int(a b:Int):kI true (.int .i64 a) (.int .i64 b)=some (.int .i64 (maxI a b)):=vg
def satN(n:Int):Int:=maxI (-1000000000000) (minI n 1000000000000)
def jH(n:Int):PC prog 179 [aa n] (·=aa (satN n)):=by
 refine pB 6 Tryz.func179 ?_;exact(zV)<|(aq (n2 @min_int @max_int))<|zo [.tmp 2]
def plusN(a b:Int):Int:=satN (addW a b)
def minusN(a b:Int):Int:=satN (subW a b)
def Be(a b:Int):PC prog 135 [aa a,aa b] (·=aa (plusN a b)):=by
 refine pB 9 Tryz.func135 ?_;exact(zV)<|(e8 @bin_addW)<|(zK (jH _))<|(zR)<|zo [.tmp 4]
def yq(a b:Int):PC prog 238 [aa a,aa b] (·=aa (minusN a b)):=by
 refine pB 9 Tryz.func238 ?_;refine(zV)<|(e8 @bin_subW)<|(zK (jH _))<|(zR)<|(zE) ?_;exact kr.of (rs:=[.tmp 4]) rfl rfl zl (Wk.refl rfl) zq
def fold_step{f:Int->Int->Int}{r:List Int}{j:Nat}{x y:Int}(h:r[j]?=some x):(r.take (j+1)).foldl f y=f ((r.take j).foldl f y) x:=by
 rw[List.take_add_one,h,Option.toList_some,List.foldl_append];rfl
def DI{p:Prop} (h:p:=by
  refine pB 25 vae ?_;refine(zV)<|(aq (n2 @List.length_cons.{0} (show decide (((r.length+1:Nat):Int)<1)=false by simp only[wd];omega)))<|(zN)<|(aq (n4 @List.length_cons.{0} @Nat.zero_lt_succ (au (l:=a::r) (e:=1) (enc:=one1 aa) (λ_=>rfl) (show(a::r)[0]?=some a from rfl)) @one1.eq_1))<|(zV) ?_
  (repeat refine ak.seq ?_)
  refine ak.block (ak.loop (λm st=>∃j:Nat,j<=r.length/\m=r.length-j/\st=⟨[(0,slS 1 (a::r) (one1 aa)),(3,aa ((r.take j).foldl vaf a)),(4,aa ((j+1:Nat):Int))],25,[],[]⟩) r.length (bg (n2 @List.take_zero.{0} @List.foldl_nil.{0,0})) ⟨0,Nat.zero_le _,rfl,rfl⟩ (by rintro m st ⟨j,_,_,rfl⟩;rfl) ?_);rintro m st ⟨j,hj,rfl,rfl⟩;refine(aq @List.length_cons.{0}) ?_;by_cases hlt:j<r.length;rotate_left
  ·rw[show decide (((j+1:Nat):Int)<((r.length+1:Nat):Int))=false by simp only[wd];omega]
   refine(cV)<|(zV) ?_
   obtain rfl:j=r.length:=by omega
   exact zo [.tmp 2] (hq:=by rw[List.take_length])
  rw[show decide (((j+1:Nat):Int)<((r.length+1:Nat):Int))=true by simp only[wp];omega];obtain⟨x,hx⟩:∃x,r[j]?=some x:=⟨r[j],List.getElem?_eq_getElem hlt⟩
  refine(dI)<|(aq (n5 @List.length_cons.{0} (show j+1<r.length+1 by omega) (au (l:=a::r) (i:=j+1) (e:=1) (enc:=one1 aa) (λ_=>rfl) (show(a::r)[j+1]?=some x from hx)) @one1.eq_1 @vag))<|(zs) ?_;refine ak.r0 (by rfl) (gf (bA (((j+1:Nat):Int)) 1 (by omega))) ?_;exact⟨r.length-(j+1),_,by omega,(Fg.less (by (simp only[bf,aN,cA,↓reduceIte,Nat.reduceEqDiff,fold_step hx])<;>(repeat' apply And.intro)<;>first | rfl | trivial) (by (simp only[bf,aN,or_true,true_or,fold_step hx])<;>(repeat' apply And.intro)<;>first | exact .inr rfl | exact .inl rfl | trivial)),j+1,by omega,rfl,rfl⟩):p:=h
open Go.Proofs.Tryz renaming func197 -> vae in
open Go.Proofs renaming minI -> vaf in
def yH(a:Int)(r:List Int)(hlen:r.length<1000000):PC prog 197 [slS 1 (a::r) (one1 aa)] (·=aa (r.foldl minI a)):=by
 have vag:=@min_int;exact DI
open Go.Proofs.Tryz renaming func198 -> vae in
open Go.Proofs renaming maxI -> vaf in
def yG(a:Int)(r:List Int)(hlen:r.length<1000000):PC prog 198 [slS 1 (a::r) (one1 aa)] (·=aa (r.foldl maxI a)):=by
 have vag:=@max_int;exact DI
def nu(a:Int)(r:List Int)(hlen:r.length<1000000):PC prog 178 [slS 1 (a::r) (one1 aa)] (·=ivV (r.foldl minI a) (r.foldl maxI a)):=by
 refine pB 8 Tryz.func178 ?_;exact(fe)<|(zK (yH a r hlen))<|(zQ)<|(zK (yG a r hlen))<|(zR)<|zo [.cell 2 65]
def bothN(f:Int->Int->Int)(a b c d:Int):Int×Int:=
 if ivOkN a b&&ivOkN c d then (minI (minI (minI (f a c) (f a d)) (f b c)) (f b d),maxI (maxI (maxI (f a c) (f a d)) (f b c)) (f b d)) else (0,0)
def ivP(p:Int×Int):SV:=ivV p.1 p.2
def mZ(g:FuncId)(fn:Int->Int->Int)(hg:∀x y,PC prog g [aa x,aa y] (·=aa (fn x y)))(a b c d:Int):PC prog 134 [ivV a b,ivV c d,.fn g [] []] (·=ivP (bothN fn a b c d)):=by
 refine pB 46 Tryz.func134 ?_;refine(aq @ivV.eq_1)<|(zC)<|(zK (iH a b)) ?_
 cases h1:ivOkN a b
 ·exact(zR)<|(bq)<|zo [.cell 6 65] (hq:=by rw[bothN,h1];rfl)
 refine(zQ)<|(zK (iH c d)) ?_
 cases h2:ivOkN c d
 ·exact(zR)<|(bq)<|zo [.cell 6 65] (hq:=by rw[bothN,h1,h2];rfl)
 refine(zR)<|(zN)<|(zs) ?_;refine kU [0,1,0,4,0,16,0,64,3,271,831,2047] ?_;exact(zD)<|(zM)<|(zC)<|(zK (hg a c))<|(zQ)<|(zK (hg a d))<|(zQ)<|(zK (hg b c))<|(zQ)<|(zK (hg b d))<|(zQ)<|(zK (nu (fn a c) [fn a d,fn b c,fn b d] (by show 3<1000000;omega)))<|(zR)<|zo [.cell 6 65] (hq:=by rw[bothN,h1,h2];rfl)
def jh(a b c d:Int):PC prog 96 [ivV a b,ivV c d] (·=ivP (bothN plusN a b c d)):=by
 refine pB 8 Tryz.func96 ?_;exact(aq @ivV.eq_1)<|(zC)<|(zK (mZ 135 plusN Be a b c d))<|(bE (n2 @ivP.eq_1 @ivV.eq_1))<|zo [.cell 4 65]
def yl(a b c d:Int):PC prog 233 [ivV a b,ivV c d] (·=ivP (bothN minusN a b c d)):=by
 refine pB 8 Tryz.func233 ?_;exact(aq @ivV.eq_1)<|(zC)<|(zK (mZ 238 minusN yq a b c d))<|(bE (n2 @ivP.eq_1 @ivV.eq_1))<|zo [.cell 4 65]
def joinIvN(a b c d:Int):Int×Int:=if ivOkN a b&&ivOkN c d then (minI (minI (minI a b) c) d,maxI (maxI (maxI a b) c) d) else (0,0)
def gZ(a b c d:Int):PC prog 237 [ivV a b,ivV c d] (·=ivP (joinIvN a b c d)):=by
 refine pB 24 Tryz.func237 ?_;refine(aq @ivV.eq_1)<|(zC)<|(zK (iH a b)) ?_
 cases h1:ivOkN a b
 ·exact(zR)<|(bq)<|zo [.cell 4 65] (hq:=by rw[joinIvN,h1];rfl)
 refine(zQ)<|(zK (iH c d)) ?_
 cases h2:ivOkN c d
 ·exact(zR)<|(bq)<|zo [.cell 4 65] (hq:=by rw[joinIvN,h1,h2];rfl)
 exact(zR)<|(DA)<|(zK (nu a [b,c,d] (by show 3<1000000;omega)))<|(zR)<|zo [.cell 4 65] (hq:=by rw[joinIvN,h1,h2];rfl)
def overN(a b n:Int):Int:=if (!ivOkN a b)||decide (b<=n) then 0 else if n<a then 2 else 1
def wa(a b n:Int):PC prog 236 [ivV a b,aa n] (·=aa (overN a b n)):=by
 refine pB 20 Tryz.func236 ?_;refine(aq @ivV.eq_1)<|(zB)<|(zC)<|(zK (iH a b)) ?_
 cases h1:ivOkN a b
 ·exact(zR)<|(bq)<|zo [.tmp 4] (hq:=by rw[overN,h1];rfl)
 cases h2:decide (b<=n);rotate_left
 ·exact(bE h2)<|(bq)<|zo [.tmp 4] (hq:=by rw[overN,h1,h2];rfl)
 refine(bE h2)<|(zN) ?_
 cases h3:decide (n<a)
 ·exact(aq h3)<|(ee)<|zo [.tmp 4] (hq:=by rw[overN,h1,h2,ul (wt h3)];rfl)
 ·exact(aq h3)<|(bq)<|zo [.tmp 4] (hq:=by rw[overN,h1,h2,t8 (ww h3)];rfl)
open Go.Ev Go.RowKit Go.Lib Go.Shelf
def wx(x y:Nat)(hx:x<18446744073709551616)(hy:y<18446744073709551616)(w:World):
 Calls prog 242 #[.int .u64 x,.int .u64 y] w λe w'=>e=.returned (.tuple #[.int .u64 ((x*y/18446744073709551616:Nat):Int),.int .u64 ((x*y%18446744073709551616:Nat):Int)])/\w'=w:=by
 obtain⟨bd,bt,bw,hhi⟩:=Lib.mul64_hi x y hx hy;have ba:=Lib.half_mul_le (a:=x/4294967296) (b:=y/4294967296) (by omega) (by omega);have bb:=Lib.half_mul_le (a:=x/4294967296) (b:=y%4294967296) (by omega) (by omega);have bc:=Lib.half_mul_le (a:=x%4294967296) (b:=y/4294967296) (by omega) (by omega)
 have ba':x/4294967296*(y/4294967296)<18446744073709551616:=by omega
 have bb':x/4294967296*(y%4294967296)<18446744073709551616:=by omega
 have bc':x%4294967296*(y/4294967296)<18446744073709551616:=by omega
 have bh1:x/4294967296*(y/4294967296)+(x/4294967296*(y%4294967296)+x%4294967296*(y%4294967296)/4294967296)/4294967296<18446744073709551616:=by omega
 have bh:x/4294967296*(y/4294967296)+(x/4294967296*(y%4294967296)+x%4294967296*(y%4294967296)/4294967296)/4294967296+((x/4294967296*(y%4294967296)+x%4294967296*(y%4294967296)/4294967296)%4294967296+x%4294967296*(y/4294967296))/4294967296<18446744073709551616:=by omega
 go_enter func242,Tryz.ntmps242
 go_wp2
 simp only[Mul64.maskN x hx,Mul64.maskN y hy,Mul64.divN,Mul64.mulN,Mul64.addN,Mul64.wrapN _ bd,Mul64.wrapN _ bb',Mul64.wrapN _ bt,Mul64.maskN _ bt,Mul64.wrapN _ bc',Mul64.wrapN _ bw,Mul64.wrapN _ ba',Mul64.wrapN _ bh1,Mul64.wrapN _ bh,Mul64.wrapM (x*y)];rw[hhi]
 go_ret2
 exact⟨rfl,rfl⟩
def wy(x y:Nat)(hx:x<18446744073709551616)(hy:y<18446744073709551616):PC prog 242 [.a (.int .u64 x),.a (.int .u64 y)]
 (·=.aO [.a (.int .u64 ((x*y/18446744073709551616:Nat):Int)),.a (.int .u64 ((x*y%18446744073709551616:Nat):Int))]):=by
 intro ρ h avs _ hA;rw[cF] at hA;obtain⟨a,r,rfl,hA1,hA2⟩:=hA;rw[cF] at hA2;obtain⟨b,r2,rfl,hB1,hB2⟩:=hA2;rw[dB] at hB2;subst hB2;rw[GS] at hA1 hB1;subst hA1;subst hB1
 have hc:cx prog (.func 242) [.int .u64 x,.int .u64 y] h (λa h'=>a=.aO [.int .u64 ((x*y/18446744073709551616:Nat):Int),.int .u64 ((x*y%18446744073709551616:Nat):Int)]/\h'=h):=by
  intro σ w args' hv hr;obtain⟨v1,v2,rfl,k1,k2⟩:=By hv;cases k1;cases k2;refine(qm cw func242 (by rfl) hr (a:=.aO [.int .u64 ((x*y/18446744073709551616:Nat):Int),.int .u64 ((x*y%18446744073709551616:Nat):Int)]) (V.BY (.cons (.int _ _) (.cons (.int _ _) .nil))) ((wx x y hx hy w).mono ?_)).mono ?_
  ·rintro e w' ⟨rfl,rfl⟩;exact⟨rfl,Below.refl _ _⟩
  ·rintro v w' ⟨a,h',hm,hg⟩;have:=mem_singleton.1 hm;cases this;exact⟨_,_,⟨rfl,rfl⟩,hg⟩
 refine hc.mono ?_;rintro v h' ⟨rfl,rfl⟩;refine⟨_,ρ,rfl,.refl _ _,λid ob hi=>.inl hi,?_⟩;rw[GS];exact⟨_,rfl,by rw[cF];exact⟨_,_,rfl,by rw[GS],by rw[cF];exact⟨_,_,rfl,by rw[GS],by rw[dB]⟩⟩⟩
def absU(a:Int):Nat:=(bR .u64 (maxI a (negW a))).toNat
def wrap_u(n:Int):bR .u64 n=((bR .u64 n).toNat:Int)/\(bR .u64 n).toNat<18446744073709551616:=by
 have h:bR .u64 n=n%18446744073709551616:=by rw[dS];simp[IntKind.wrap,IntKind.bits,IntKind.signed]
 rw[h];omega
def un_neg(a:Int):Es .neg (.int .i64 a)=some (.int .i64 (negW a)):=rfl
def timesN(a b:Int):Int:=
 cond ((decide (a<0)) != (decide (b<0)))
  (negW (if absU a*absU b/18446744073709551616=0/\absU a*absU b%18446744073709551616<=1000000000000 then bR .i64 ((absU a*absU b%18446744073709551616:Nat):Int) else 1000000000000))
  (if absU a*absU b/18446744073709551616=0/\absU a*absU b%18446744073709551616<=1000000000000 then bR .i64 ((absU a*absU b%18446744073709551616:Nat):Int) else 1000000000000)
def s8(n:Int):fO prog 231 269 (.int .i64 n)=some (.int .u64 (bR .u64 n)):=by
 unfold fO;rw[show prog.underlying 231=some (.int .i64) by kernel_rfl,show prog.underlying 269=some (.int .u64) by kernel_rfl]
def s9(n:Int):fO prog 269 231 (.int .u64 n)=some (.int .i64 (bR .i64 n)):=by
 unfold fO;rw[show prog.underlying 231=some (.int .i64) by kernel_rfl,show prog.underlying 269=some (.int .u64) by kernel_rfl]
def ueq{P:Program}{t:TypeId}(a b:Int):bz P .eql t (.int .u64 a) (.int .u64 b)=some (.bool (decide (a=b))):=k7 rfl
def uleq{P:Program}{t:TypeId}(a b:Int):bz P .leq t (.int .u64 a) (.int .u64 b)=some (.bool (decide (a<=b))):=k8 rfl
def yL(a b:Int):PC prog 239 [aa a,aa b] (·=aa (timesN a b)):=by
 refine pB 38 Tryz.func239 ?_;have hm:=wy (absU a) (absU b) (wrap_u _).2 (wrap_u _).2;rw[show((absU a:Nat):Int)=bR .u64 (maxI a (negW a)) from(wrap_u _).1.symm,show((absU b:Nat):Int)=bR .u64 (maxI b (negW b)) from(wrap_u _).1.symm] at hm;have ht:timesN a b=cond ((decide (a<0)) != (decide (b<0))) (negW (if absU a*absU b/18446744073709551616=0/\absU a*absU b%18446744073709551616<=1000000000000 then bR .i64 ((absU a*absU b%18446744073709551616:Nat):Int) else 1000000000000)) (if absU a*absU b/18446744073709551616=0/\absU a*absU b%18446744073709551616<=1000000000000 then bR .i64 ((absU a*absU b%18446744073709551616:Nat):Int) else 1000000000000):=rfl;generalize absU a*absU b/18446744073709551616=hi at hm ht;generalize absU a*absU b%18446744073709551616=lo at hm ht
 refine(zV)<|(e8 (n3 @un_neg @max_int @s8))<|(zK hm)<|(zR)<|(zV) ?_
 by_cases h1:hi=0/\lo<=1000000000000
 ·rw[t8 h1] at ht
  refine(aq (n4 @ueq @uleq (show decide ((hi:Int)=0)=true by simp;omega) (show decide ((lo:Int)<=1000000000000)=true by simp;omega)))<|(zY)<|(aq @s9) ?_
  cases g1:decide (a<0)<;>cases g2:decide (b<0)
  ·rw[g1,g2] at ht
   exact(aq (n2 g1 g2))<|(ee)<|zo [.tmp 4] (hq:=by rw[ht];rfl)
  ·rw[g1,g2] at ht
   exact(aq (n2 g1 g2))<|(zY)<|(aq @un_neg)<|zo [.tmp 4] (hq:=by rw[ht];rfl)
  ·rw[g1,g2] at ht
   exact(aq (n2 g1 g2))<|(zY)<|(aq @un_neg)<|zo [.tmp 4] (hq:=by rw[ht];rfl)
  ·rw[g1,g2] at ht
   exact(aq (n2 g1 g2))<|(ee)<|zo [.tmp 4] (hq:=by rw[ht];rfl)
 ·rw[ul h1] at ht;by_cases h2:hi=0
  ·refine(aq (n4 @ueq @uleq (show decide ((hi:Int)=0)=true by simp;omega) (show decide ((lo:Int)<=1000000000000)=false by simp;omega)))<|(zN) ?_
   cases g1:decide (a<0)<;>cases g2:decide (b<0)
   ·rw[g1,g2] at ht
    exact(aq (n2 g1 g2))<|(ee)<|zo [.tmp 4] (hq:=by rw[ht];rfl)
   ·rw[g1,g2] at ht
    exact(aq (n2 g1 g2))<|(zY)<|(aq @un_neg)<|zo [.tmp 4] (hq:=by rw[ht];rfl)
   ·rw[g1,g2] at ht
    exact(aq (n2 g1 g2))<|(zY)<|(aq @un_neg)<|zo [.tmp 4] (hq:=by rw[ht];rfl)
   ·rw[g1,g2] at ht
    exact(aq (n2 g1 g2))<|(ee)<|zo [.tmp 4] (hq:=by rw[ht];rfl)
  ·refine(aq (n3 @ueq @uleq (show decide ((hi:Int)=0)=false by simp;omega)))<|(zN) ?_
   cases g1:decide (a<0)<;>cases g2:decide (b<0)
   ·rw[g1,g2] at ht
    exact(aq (n2 g1 g2))<|(ee)<|zo [.tmp 4] (hq:=by rw[ht];rfl)
   ·rw[g1,g2] at ht
    exact(aq (n2 g1 g2))<|(zY)<|(aq @un_neg)<|zo [.tmp 4] (hq:=by rw[ht];rfl)
   ·rw[g1,g2] at ht
    exact(aq (n2 g1 g2))<|(zY)<|(aq @un_neg)<|zo [.tmp 4] (hq:=by rw[ht];rfl)
   ·rw[g1,g2] at ht
    exact(aq (n2 g1 g2))<|(ee)<|zo [.tmp 4] (hq:=by rw[ht];rfl)
def yk(a b c d:Int):PC prog 234 [ivV a b,ivV c d] (·=ivP (bothN timesN a b c d)):=by
 refine pB 8 Tryz.func234 ?_;exact(aq @ivV.eq_1)<|(zC)<|(zK (mZ 239 timesN yL a b c d))<|(bE (n2 @ivP.eq_1 @ivV.eq_1))<|zo [.cell 4 65]
def mulW(a b:Int):Int:=bR .i64 (a*b)
def quoW(a b:Int):Int:=bR .i64 (a.tdiv b)
def bin_mulW{P:Program}{t:TypeId}(a b:Int):bz P .mul t (.int .i64 a) (.int .i64 b)=some (.int .i64 (mulW a b)):=rfl
def bin_quoW{P:Program}{t:TypeId}{a b:Int}(h:¬b=0):bz P .quo t (.int .i64 a) (.int .i64 b)=some (.int .i64 (quoW a b)):=by
 have:BQ b=false:=by
  cases b with
  | ofNat n=>
   cases n with
   | zero=>exact t7 rfl h
   | succ n=>rfl
  | negSucc n=>rfl
 unfold bz;simp only[this];rfl
def floorN(a b:Int):Int:=if b=0 then 0 else if (!(decide (mulW (quoW a b) b=a)))&&((decide (a<0)) != (decide (b<0))) then subW (quoW a b) 1 else quoW a b
def dP(a b:Int):PC prog 241 [aa a,aa b] (·=aa (floorN a b)):=by
 refine pB 26 Tryz.func241 ?_;refine(zV) ?_;cases h0:decide (b=0);rotate_left
 ·exact(aq h0)<|(bq)<|zo [.tmp 4] (hq:=by rw[floorN,t8 (ww h0)])
 have h0':=wt h0
 refine(aq h0)<|(zN)<|(zs) ?_;refine ak.r0 (by rfl) (by simp only[bf,aN,slS,an,al,ax,↓reduceIte,ac,af,aj,ad,ap,ab,ah,isSub,bin_quoW h0'];first | done | rfl) ?_
 have hf:floorN a b=if (!(decide (mulW (quoW a b) b=a)))&&((decide (a<0)) != (decide (b<0))) then subW (quoW a b) 1 else quoW a b:=by rw[floorN,ul h0']
 cases h1:decide (mulW (quoW a b) b=a);rotate_left
 ·rw[h1] at hf;refine(zs) ?_;refine ak.r0 (by rfl) (gf (n2 @bin_mulW h1)) ?_;refine(zs) ?_;refine ak.no rfl ?_;(try (refine ak.skip ?_;try change ak _ _ _ _ _));refine(zs) ?_;refine ak.r0 (by rfl) zl ?_;refine(zE) ?_;exact kr.of (rs:=[.tmp 4]) rfl rfl zl (Wk.refl rfl) (by (try simp only[bL,aF]);first | done | (rw[hf];rfl))
 cases g1:decide (a<0)<;>cases g2:decide (b<0)<;>rw[h1,g1,g2] at hf
 ·refine(zs) ?_;refine ak.r0 (by rfl) (gf (n4 @bin_mulW h1 g1 g2)) ?_;exact(ee)<|zo [.tmp 4] (hq:=by rw[hf];rfl)
 ·exact(aq (n4 @bin_mulW h1 g1 g2))<|(zY)<|(aq @bin_subW)<|(zV)<|zo [.tmp 4] (hq:=by rw[hf];rfl)
 ·exact(aq (n4 @bin_mulW h1 g1 g2))<|(zY)<|(aq @bin_subW)<|(zV)<|zo [.tmp 4] (hq:=by rw[hf];rfl)
 ·exact(aq (n4 @bin_mulW h1 g1 g2))<|(ee)<|zo [.tmp 4] (hq:=by rw[hf];rfl)
end Go.Proofs
