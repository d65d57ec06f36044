/- Lemmas of this claim, each with its conditions. -/
import Derived.Test.YtchdmmkclcnmnaaGreatA4
import Derived.Test.YtchdmmkclcnmnaaGreatA3
import Derived.Test.YtchdmmkclcnmnaaGreatA2
import Derived.Test.YtchdmmkclcnmnaaGreatProg
import Derived.KernelRfl
import Derived.MapKept
set_option linter.all false
set_option maxHeartbeats 8000000
open Go.Proofs.Tryz (prog)
open Nat (ble beq blt)
open List (mem_iff_getElem? length_cons all_eq_true mem_cons length_nil)
open Int (ofNat)
open Nat renaming reduceEqDiff -> ac, reduceLeDiff -> ad, reduceAdd -> af, reduceMul -> aj, reduceLT -> ap, le_of_ble_eq_true -> aU, le_refl -> ba, le_of_lt -> bc, lt_succ_self -> be, not_lt_zero -> bk, exists_eq_succ_of_ne_zero -> bs, reduceSub -> bt, lt_trichotomy -> bv, eq_of_beq_eq_true -> cc, zero_le -> cd, le_of_not_lt -> ce, mul_one -> ch, zero_add -> cv, le_total -> d7, zero_lt_succ -> d8, lt_trans -> eB
open Option renaming bind_some -> al, map_some -> ax
open List renaming getElem?_eq_getElem -> ay, getElem?_map -> bb, mem_of_find?_eq_some -> bd, drop_length -> bi, mem_cons_of_mem -> bo, set_eq_take_append_cons_drop -> bw, replicate -> bY, mem_cons_self -> ca, mem_of_getElem? -> cf, drop_eq_getElem_cons -> cp, range -> ct, find?_eq_none -> dc, getElem?_cons_succ -> dk, drop_of_length_le -> dt, take_of_length_le -> dv, length_set -> d2, mem_append -> d3, getElem?_range -> d4, getElem?_take -> d5, take_add_one -> d6, find?_some -> em, length_map -> er, all_cons -> ey
open Bool renaming and_eq_true -> a0, false_and -> bx, and_true -> ci, false_or -> cj, not_true -> cn, true_and -> co, and_false -> dd, or_true -> dl, or_eq_true -> dB, true_or -> d9, decide_and -> el
open And renaming intro -> bh
open Array renaming toList_append -> cR
namespace Go.Ev
noncomputable section
section
variable {P:Program} {ro:Option Nat}
def PC.body(hng:tH P){g:FuncId}{fn:Func}{c:Code}{args:List SV}{Q:SV->Prop}(hf:P.funcs[g]?=some fn)(hb:fn.body=some c){n:Nat}(hn:args.length+(fn.ntmps-args.length)=n)
 (hw:aq P none c ⟨kC 0 args,n,[],[]⟩ (sP P fn Q)) (hlim:n<=1000000:=by exact Nat.le_of_ble_eq_true rfl):PC P g args Q:=
 .sA hng hf hb hn hlim (hw.mono λe st ⟨h1,h2,h3⟩=>⟨h1,by rw[h2];exact h3⟩)
def SC.body(hng:tH P){g:FuncId}{fn:Func}{c:Code}{args:List SV}{S0:List SO}{mv:List Nat}{Q:SV->List SO->Prop}(hf:P.funcs[g]?=some fn)(hb:fn.body=some c){n:Nat}(hn:args.length+(fn.ntmps-args.length)=n)(hlim:n<=1000000){W:Fm}(hW:W=oS S0.length)
 (hw:aq P none c ⟨kC 0 args++W,n,S0,[]⟩ (Of P fn S0.length mv Q)) (hK:S0.length<=1000000:=by exact Nat.le_of_ble_eq_true rfl):SC P g args S0 mv Q:=
 .sA hng hf hb hn hlim hW hK (hw.mono λe st ⟨h1,h2,h3⟩=>⟨h1,by rw[h2];exact h3⟩)
def JJ{ol:List Oper}{L:Nat->Prop}(hb:kP 0 ol=true)(hc:mf ol L){j:Nat}:∀(i:Nat) (o:Oper),ol[i]?=some o->(∀e∈o.after.toList,dep e=true->L e.on)->bR ((og ol []).getD i 0) j=true->L j:=by
 intro i
 induction i using Nat.strongRecOn with
 | _ i ih=>
  intro o ho hd hj;have hlt:=λe he hde=>pK hb ho e he hde;simp only[cv] at hlt;obtain⟨e,he,hde,h | h⟩:=JK ho hlt hj
  ·exact h▸hd e he hde
  ·have hl:=hlt e he hde;obtain⟨o',ho'⟩:∃o',ol[e.on]?=some o':=⟨_,ay (eB hl (bf ho))⟩;exact ih e.on hl o' ho' (hc _ _ ho' (hd e he hde)) h
def LJ{α β γ:Type}(a:Option α)(g:α->Option β)(k:β->γ):(a.bind λx=>(g x).map k)=(a.bind g).map k:=by cases a<;>rfl
def Sj{f:Fm}{S S2:List SO}{op:Op}{v:SV}(hr:kF op=true)(hh:JC op=false)(h:cT P f S op=some (v,S,none)):cT P f S2 op=some (v,S2,none):=by
 have go:∀{α:Type} (q:Option α) (w:α->SV),q.map (λv=>(w v,S,(none:Option Nat)))=some (v,S,none)->q.map (λv=>(w v,S2,(none:Option Nat)))=some (v,S2,none):=by
  rintro _ (_ | q) w h
  ·cases h
  ·cases h;rfl
 cases op<;>first | (simp[kF] at hr;done) | (simp[JC] at hh;done) | (simp only[cT,LJ] at h ⊢;exact go _ _ h) | skip
 case makeFunc g first _=>
  cases g<;>first | (simp[kF] at hr;done) | skip
  all_goals
   simp only[cT] at h ⊢
   cases ha:nw f first.toList with
   | none=>rw[ha] at h;cases h
   | some a=>
    rw[ha] at h;simp only[al] at h ⊢
    first
    | exact go _ _ h
    | cases hb:ia a with
     | none=>rw[hb] at h;cases h
     | some b=>
      rw[hb] at h;simp only[al,LJ] at h ⊢;exact go _ _ h
 case extract x _=>
  simp only[cT] at h ⊢
  cases hx:eI f x with
  | none=>rw[hx] at h;cases h
  | some w=>
   rw[hx] at h
   cases w<;>first | (cases h;done) | exact go _ _ h
def Qb(ol:List Oper)(i:Nat)(a:Oper)(mj:Nat)(b:Oper):Bool:=
 (match b.dst with | some d=>!(decide (a.dst=some d))&&(!(iT ol a).contains d||bR mj i) | none=>true)&&(bR mj i||(match a.dst with | some d=>!(iT ol b).contains d | none=>true)&&!(xg a.op&&xg b.op))
def AP(all:List Oper)(ms:List Nat):List (Nat×Oper)->Bool
 | []=>true
 | (i,a)::rest=>(match a.dst with | some d=>!(iT all a).contains d | none=>true)&&(match a.guard with | some (j,_)=>blt j i | none=>true)&&rest.all (λq=>Qb all i a (ms.getD q.1 0) q.2)&&AP all ms rest
def Qd{all:List Oper}{ms:List Nat}:∀{ol:List Oper} {i0 i:Nat} {o:Oper},AP all ms (cO i0 ol)=true->ol[i]?=some o->(∀d,o.dst=some d->d∉iT all o)/\(∀j b,o.guard=some (j,b)->j<i0+i)/\∀(k:Nat) o',i<k->ol[k]?=some o'->Qb all (i0+i) o (ms.getD (i0+k) 0) o'=true
 | [],_,_,_,_,h=>by simp at h
 | a::ol,i0,i,o,h,ho=>by
  rw[cO,AP,a0,a0,a0] at h;obtain⟨⟨⟨h1,h2⟩,h3⟩,h4⟩:=h
  cases i with
  | zero=>
   cases ho;refine⟨λd hd=>?_,λj b hg=>?_,λk o' hk hko=>?_⟩
   ·rw[hd] at h1;simpa using h1
   ·rw[hg] at h2;exact fz h2
   ·obtain⟨k,rfl⟩:=bs (Nat.ne_of_gt hk);have:=all_eq_true.1 h3 (i0+1+k,o') (mem_iff_getElem?.2 ⟨k,by rw[kc,show ol[k]?=some o' by simpa using hko];rfl⟩);rw[show i0+(k+1)=i0+1+k by omega];exact this
  | succ i=>
   obtain⟨g1,g2,g3⟩:=Qd h4 (by simpa using ho);refine⟨g1,λj b hg=>by have:=g2 j b hg;omega,λk o' hk hko=>?_⟩;obtain⟨k,rfl⟩:=bs (show k≠0 by omega);have:=g3 k o' (by omega) (by simpa using hko);rw[show i0+(i+1)=i0+1+i by omega,show i0+(k+1)=i0+1+k by omega];exact this
def IU{all:List Oper}{f1 f2:Fm}{o:Oper}(h:∀t∈iT all o,aO f1 t=aO f2 t):cg all f1 o.guard=cg all f2 o.guard:=by
 unfold iT at h;unfold cg;split
 ·rfl
 ·rename_i j w hg;rw[hg] at h
  cases ho:all[j]? with
  | none=>rfl
  | some o'=>
   cases hd:o'.dst with
   | none=>simp[hd]
   | some d=>
    simp only[ho,hd,al] at h ⊢;rw[h d (by simp)]
def NN{all:List Oper}{f1 f2:Fm}{o:Oper}(h:∀t∈iT all o,aO f1 t=aO f2 t):∀x∈o.op.operands.toList,eI f1 x=eI f2 x:=by
 intro x hx
 cases x with
 | tmp t=>simp only[eI];rw[h t (by unfold iT;exact List.mem_append_left _ (JM (by simpa using hx)))]
 | _=>rfl
def Gi{f1 f2:Fm}{c:Call}(h:∀x∈(Op.call c).operands.toList,eI f1 x=eI f2 x):gM P f1 c=gM P f2 c:=by
 obtain⟨callee,aS,ats⟩:=c
 cases callee with
 | builtin b=>rfl
 | value x=>
  rw[gM,gM];simp only;rw[h x (by simp[Op.operands,Call.operands]),gu (l:=aS.toList) λy hy=>h y (by simp only[Op.operands,Call.operands,cR,d3];exact .inr hy)]
 | invoke x m=>
  rw[gM,gM];simp only;rw[h x (by simp[Op.operands,Call.operands]),gu (l:=aS.toList) λy hy=>h y (by simp only[Op.operands,Call.operands,cR,d3];exact .inr hy)]
def TA{cl:Call}(h:gf (.call cl)=true):uj (.call cl)=false:=by
 obtain⟨callee,aS,ats⟩:=cl
 cases callee<;>first | rfl | (simp[gf] at h;done)
def Mx{b:Bool}(h:b=true->False):b=false:=by cases b<;>simp_all
def UT{op:Op}(h:kF op=true):uj op=false:=by
 cases op<;>first | rfl | (simp[kF] at h;done) | skip
 rename_i c;obtain⟨callee,aS,ats⟩:=c
 cases callee with
 | builtin b=>cases b<;>first | rfl | (simp[kF] at h;done)
 | _=>rfl
def RC:Op->Bool
 | .alloc _ | .box _ _ | .buildSlice _ _ _ | .makeMap _ _ | .makeSlice _ _ _ | .call { callee:=.builtin .append,.. }=>true
 | _=>false
def dQ(op:Op):Bool:=uj op||RC op
def Jh(ms:List Nat):List (Nat×Oper)->Bool
 | []=>true
 | (i,a)::l=>(!(dQ a.op||gf a.op)||l.all λq=>!(dQ q.2.op||gf q.2.op)||bR (ms.getD q.1 0) i)&&Jh ms l
def Lr{ms:List Nat}:∀{ol:List Oper} {i0 i j:Nat} {a b:Oper},Jh ms (cO i0 ol)=true->ol[i]?=some a->ol[j]?=some b->i<j->(dQ a.op||gf a.op)=true->(dQ b.op||gf b.op)=true->bR (ms.getD (i0+j) 0) (i0+i)=true
 | [],_,_,_,_,_,_,h,_,_,_,_=>by simp at h
 | o::ol,i0,i,j,a,b,h,ha,hb,hij,h1,h2=>by
  rw[cO,Jh,a0] at h;obtain⟨g1,g2⟩:=h;obtain⟨j,rfl⟩:=bs (show j≠0 by omega)
  cases i with
  | zero=>
   cases ha;rw[h1,cn,cj] at g1;have:=all_eq_true.1 g1 (i0+1+j,b) (mem_iff_getElem?.2 ⟨j,by rw[kc,show ol[j]?=some b by simpa using hb];rfl⟩);rw[h2,cn,cj] at this;rw[show i0+(j+1)=i0+1+j by omega];exact this
  | succ i=>
   have:=Lr g2 (i:=i) (j:=j) (by simpa using ha) (by simpa using hb) (by omega) h1 h2;rw[show i0+(j+1)=i0+1+j by omega,show i0+(i+1)=i0+1+i by omega];exact this
def xo{op:Op}(h:kF op=true):dQ op=false:=by
 unfold dQ;rw[UT h,cj]
 cases op<;>first | rfl | (simp[kF] at h;done) | skip
 rename_i c;obtain⟨callee,aS,ats⟩:=c
 cases callee with
 | builtin b=>cases b<;>first | rfl | (simp[kF] at h;done)
 | _=>rfl
def O2{cl:Call}(h:gf (.call cl)=true):dQ (.call cl)=false:=by
 unfold dQ;rw[TA h,cj];obtain⟨callee,aS,ats⟩:=cl
 cases callee<;>first | rfl | (simp[gf] at h;done)
def tl{S:List SO}{f1 f2:Fm}{op:Op}(hrd:(kF op||dQ op)=true)(h:∀x∈op.operands.toList,eI f1 x=eI f2 x):cT P f1 S op=cT P f2 S op:=by
 by_cases hw:(kF op||uj op)=true
 ·exact NK hw h
 cases op with
 | alloc e=>rfl
 | box t x=>rw[cT,cT,h x (by simp[Op.operands])]
 | buildSlice t n ps=>rw[cT,cT,qj λx hx=>h x (by simpa [Op.operands] using hx)]
 | makeMap t x=>
  cases x with
  | none=>rfl
  | some x=>rfl
 | makeSlice t l c=>rw[cT,cT,h l (by simp[Op.operands]),h c (by simp[Op.operands])]
 | call c=>
  obtain⟨callee,aS,ats⟩:=c
  cases callee with
  | builtin b=>rw[cT,cT,gu λx hx=>h x (by simp only[Op.operands,Call.operands,cR,d3];exact .inr hx)]
  | _=>simp[kF,dQ,uj,RC] at hrd
 | makeFunc g first cap=>cases g<;>first | exact t7 rfl hw | (simp[kF,dQ,uj,RC] at hrd;done)
 | _=>first | exact t7 rfl hw | (simp[kF,dQ,uj,RC] at hrd;done)
def LK{ol:List Oper}{ms:List Nat}(hb:kP 0 ol=true)(hms:og ol []=ms)(w:Nat)(o:Oper)(ho:ol[w]?=some o){i:Nat}(h:bR (ms.getD w 0) i=true):i<w:=by
 have hlt:∀{j:Nat} {o':Oper},ol[j]?=some o'->∀e∈o'.after.toList,dep e=true->e.on<j:=λho' e he hde=>by simpa using pK hb ho' e he hde
 exact JJ (L:=λj=>j<w) hb (λj o' ho' hj e he hde=>eB (hlt ho' e he hde) hj) w o ho (λe he hde=>hlt ho e he hde) (by rw[hms];exact h)
structure Og where
 b:Bool
 hp:List Nat
 kl:List (Nat×Nat)
 f0:Fm
 f:Fm
 S:List SO
def lH(ms:List Nat)(i:Nat)(v:SV):List (Nat×Nat)->Prop
 | []=>True
 | q::l=>(bR (ms.getD i 0) q.1=true\/aM q.2 v=v)/\lH ms i v l
def qW{ms:List Nat}{i:Nat}{v:SV}:∀{l:List (Nat×Nat)},lH ms i v l->∀q∈l,bR (ms.getD i 0) q.1=true\/aM q.2 v=v
 | [],_,q,hq=>by cases hq
 | x::l,h,q,hq=>by
  rcases mem_cons.1 hq with rfl | hq
  ·exact h.1
  ·exact qW h.2 q hq
def Du(all:List Oper)(ms:List Nat)(i:Nat):List Nat:=((cO 0 all).filter λq=>!Nat.beq q.1 i&&!bR (ms.getD i 0) q.1&&!bR (ms.getD q.1 0) i).flatMap λq=>(match q.2.dst with | some d=>d::iT all q.2 | none=>iT all q.2)
def T5(f0 f:Fm)(k:Nat):List Nat->Prop
 | []=>True
 | t::l=>(aM k (aO f t)=aO f t/\aM k (aO f0 t)=aO f0 t)/\T5 f0 f k l
def Mq{f0 f:Fm}{k:Nat}:∀{l:List Nat},T5 f0 f k l->∀t∈l,aM k (aO f t)=aO f t/\aM k (aO f0 t)=aO f0 t
 | [],_,t,h=>by cases h
 | x::l,h,t,ht=>by
  rcases mem_cons.1 ht with rfl | ht
  ·exact h.1
  ·exact Mq h.2 t ht
def Lh(all:List Oper)(ms:List Nat)(i:Nat):Bool:=(cO 0 all).all λq=>beq q.1 i||(blt q.1 i&&bR (ms.getD i 0) q.1)||(blt i q.1&&bR (ms.getD q.1 0) i)
inductive sQ (P:Program) (ro:Option Nat) (all:List Oper) (ms:List Nat) (n:Nat) (i:Nat) (o:Oper):Og->Og->Prop
 | s {b hp kl f0 f S d}:dJ all n [o]=true->o.dst=some d->cg all f o.guard=some false->dQ o.op=false->sQ P ro all ms n i o ⟨b,hp,kl,f0,f,S⟩ ⟨b,hp,kl,f0,(d,.a jG)::f,S⟩
 | sk {b hp kl f0 f S d}:dJ all n [o]=true->o.dst=some d->cg all f o.guard=some false->dQ o.op=true->hp.all (λj=>bR (ms.getD i 0) j)=true->sQ P ro all ms n i o ⟨b,hp,kl,f0,f,S⟩ ⟨false,hp,kl,f0,(d,.a jG)::f,S⟩
 | r {b hp kl f0 f S d v}:dJ all n [o]=true->o.dst=some d->cg all f o.guard=some true->kF o.op=true->(∀S2,cT P f S2 o.op=some (v,S2,none))->lH ms i v kl->sQ P ro all ms n i o ⟨b,hp,kl,f0,f,S⟩ ⟨b,hp,kl,f0,(d,v)::f,S⟩
 | h {hp kl f0 f S d v}:dJ all n [o]=true->o.dst=some d->cg all f o.guard=some true->kF o.op=true->cT P f S o.op=some (v,S,none)->lH ms i v kl->sQ P ro all ms n i o ⟨true,hp,kl,f0,f,S⟩ ⟨true,i::hp,kl,f0,(d,v)::f,S⟩
 | k {hp kl f0 f S d cl g vs ws r}:dJ all n [o]=true->o.op=.call cl->o.dst=some d->cg all f o.guard=some true->gf (.call cl)=true->xg o.op=true->gM P f cl=some (g,vs)->PC P g ws (·=r)->bl S vs ws->w6 r=true->
  sQ P ro all ms n i o ⟨true,hp,kl,f0,f,S⟩ ⟨true,hp,kl,f0,(d,r)::f,S⟩
 | e {b hp kl f0 f S v S'}:dJ all n [o]=true->cg all f o.guard=some true->dQ o.op=true->hp.all (λj=>bR (ms.getD i 0) j)=true->cT P f S o.op=some (v,S',none)->lH ms i v kl->sQ P ro all ms n i o ⟨b,hp,kl,f0,f,S⟩ ⟨false,hp,kl,f0,sn f none o.dst v,S'⟩
 | a {b hp kl f0 f S v S' k}:dJ all n [o]=true->cg all f o.guard=some true->dQ o.op=true->hp.all (λj=>bR (ms.getD i 0) j)=true->cT P f S o.op=some (v,S',some k)->lH ms i v kl->(∀t∈Du all ms i,aM k (aO f t)=aO f t/\aM k (aO f0 t)=aO f0 t)->sQ P ro all ms n i o ⟨b,hp,kl,f0,f,S⟩ ⟨false,hp,(i,k)::kl,f0,sn f (some k) o.dst v,S'⟩
 | SK {b hp kl f0 f S f' S'}:Lh all ms i=true->dQ o.op=false->(∀ds K,K ⟨f',n,S',ds⟩->aG P ro (all.take (i+1)) [o] ⟨f,n,S,ds⟩ K)->sQ P ro all ms n i o ⟨b,hp,kl,f0,f,S⟩ ⟨true,[],[],f',f',S'⟩
inductive Tv (P:Program) (ro:Option Nat) (all:List Oper) (ms:List Nat) (n:Nat):List (Nat×Oper)->Og->Og->Prop
 | nil {x}:Tv P ro all ms n [] x x
 | cons {i o l x y z}:sQ P ro all ms n i o x y->Tv P ro all ms n l y z->Tv P ro all ms n ((i,o)::l) x z
def ku(P:Program)(ro:Option Nat)(all:List Oper)(ms:List Nat)(n:Nat)(f0:Fm)(kl:List (Nat×Nat))(b:Bool)(hp:List Nat)(l:List (Nat×Oper))(f:Fm)(S:List SO)(K:Fm->List SO->Prop):Prop:=∃z,K z.f z.S/\Tv P ro all ms n l ⟨b,hp,kl,f0,f,S⟩ z
mutual
def GF:∀{v:SV},w6 v=true->∀o,names o v=false
 | .any,_,_=>rfl
 | .a _,_,_=>rfl
 | .ag cs,h,o=>by rw[names];exact vQ (by rw[w6] at h;exact h) o
 | .bC cs,h,o=>by rw[names];exact vQ (by rw[w6] at h;exact h) o
 | .sl ..,h,_ | .im ..,h,_ | .ptr ..,h,_ | .map ..,h,_ | .buf ..,h,_ | .sub ..,h,_ | .fn ..,h,_ | .iface ..,h,_ | .ip ..,h,_ | .e0 ..,h,_=>by simp[w6] at h
def vQ:∀{l:List SV},Jt l=true->∀o,gn o l=false
 | [],_,_=>rfl
 | d::ds,h,o=>by rw[Jt,a0] at h;rw[gn,GF h.1,vQ h.2];rfl
end
def RF{v:SV}(h:w6 v=true)(o:Nat):aM o v=v:=by unfold aM;rw[GF h o];rfl
section
variable {all:List Oper} {ms:List Nat} {n:Nat} {b:Bool} {hp:List Nat} {l:List (Nat×Oper)} {f:Fm} {S:List SO} {K:Fm->List SO->Prop} {i:Nat} {o:Oper} {d:Nat} {f0:Fm} {kl:List (Nat×Nat)}
def ku.nil(h:K f S):ku P ro all ms n f0 kl b hp [] f S K:=⟨_,h,.nil⟩
theorem ku.s(hst:dJ all n [o]=true)(hdst:o.dst=some d)(hw:cg all f o.guard=some false)(hwr:dQ o.op=false):ku P ro all ms n f0 kl b hp l ((d,.a jG)::f) S K->ku P ro all ms n f0 kl b hp ((i,o)::l) f S K:=λ⟨z,k,t⟩=>⟨z,k,.cons (.s hst hdst hw hwr) t⟩
theorem ku.r{v:SV}{S':List SO}{kill:Option Nat}(hst:dJ all n [o]=true)(hdst:o.dst=some d)(hw:cg all f o.guard=some true)(hrr:(kF o.op&&(b||!JC o.op))=true)(hop:cT P f S o.op=some (v,S',kill))
 (hk:ku P ro all ms n f0 kl b (_root_.cond (JC o.op) (i::hp) hp) l ((d,v)::f) S K) (hkl:lH ms i v kl):ku P ro all ms n f0 kl b hp ((i,o)::l) f S K:=by
 rw[a0] at hrr;obtain⟨h1,h2⟩:=hrr;obtain⟨rfl,rfl⟩:=QD h1 hop;obtain⟨z,k,t⟩:=hk;cases hh:JC o.op
 ·rw[hh] at t;exact⟨z,k,.cons (.r hst hdst hw h1 (λS2=>Sj h1 hh hop) hkl) t⟩
 ·rw[hh] at t h2
  obtain rfl:b=true:=by cases b<;>simp_all
  exact⟨z,k,.cons (.h hst hdst hw h1 hop hkl) t⟩
def ku.ri{tt:TypeId}{x:Operand}{cs0:List SV}{v:SV}(hst:dJ all n [o]=true)(hdst:o.dst=some d)(hw:cg all f o.guard=some true)(hop:o.op=.load tt x)(hx:eI f x=some (.ip cs0))(hv:sG P tt cs0 0=some v)(hkl:lH ms i v kl):
 ku P ro all ms n f0 kl b hp l ((d,v)::f) S K->ku P ro all ms n f0 kl b hp ((i,o)::l) f S K:=λ⟨z,k,t⟩=>⟨z,k,.cons (.r hst hdst hw (by rw[hop];rfl) (λS2=>by rw[hop,cT,hx,al,uo,hv];rfl) hkl) t⟩
def ku.rg{v:SV}(hst:dJ all n [o]=true)(hdst:o.dst=some d)(hw:cg all f o.guard=some true)(hrd:kF o.op=true)(hop:∀S2,cT P f S2 o.op=some (v,S2,none))(hkl:lH ms i v kl):
 ku P ro all ms n f0 kl b hp l ((d,v)::f) S K->ku P ro all ms n f0 kl b hp ((i,o)::l) f S K:=λ⟨z,k,t⟩=>⟨z,k,.cons (.r hst hdst hw hrd hop hkl) t⟩
theorem ku.k{cl:Call}{g:FuncId}{vs ws:List SV}{r:SV}(hst:dJ all n [o]=true)(hop:o.op=.call cl)(hdst:o.dst=some d)(hw:cg all f o.guard=some true)(hdy:gf (.call cl)=true)(he:xg (.call cl)=true)
 (hc:gM P f cl=some (g,vs)) (hq:PC P g ws (·=r)) (hwk:bl S vs ws) (hr:w6 r=true):ku P ro all ms n f0 kl true hp l ((d,r)::f) S K->ku P ro all ms n f0 kl true hp ((i,o)::l) f S K:=λ⟨z,k,t⟩=>⟨z,k,.cons (.k hst hop hdst hw hdy (by rw[hop];exact he) hc hq hwk hr) t⟩
theorem ku.e{v:SV}{S':List SO}(hst:dJ all n [o]=true)(hw:cg all f o.guard=some true)(hwr:dQ o.op=true)(hms:hp.all (λj=>bR (ms.getD i 0) j)=true)(hop:cT P f S o.op=some (v,S',none))(hkl:lH ms i v kl):
 ku P ro all ms n f0 kl false hp l (sn f none o.dst v) S' K->ku P ro all ms n f0 kl b hp ((i,o)::l) f S K:=λ⟨z,k,t⟩=>⟨z,k,.cons (.e hst hw hwr hms hop hkl) t⟩
def ku.ed{v:SV}{S':List SO}(hst:dJ all n [o]=true)(hdst:o.dst=some d)(hw:cg all f o.guard=some true)(hwr:dQ o.op=true)(hms:hp.all (λj=>bR (ms.getD i 0) j)=true)(hop:cT P f S o.op=some (v,S',none))(hkl:lH ms i v kl)
 (q:ku P ro all ms n f0 kl false hp l ((d,v)::f) S' K):ku P ro all ms n f0 kl b hp ((i,o)::l) f S K:=.e hst hw hwr hms hop hkl (by rw[hdst];exact q)
theorem ku.a{f':Fm}{v:SV}{S':List SO}{k:Nat}(T:List Nat)(hst:dJ all n [o]=true)(hdst:o.dst=some d)(hw:cg all f o.guard=some true)(hwr:dQ o.op=true)(hms:hp.all (λj=>bR (ms.getD i 0) j)=true)(hT:((Du all ms i).all λt=>T.contains t)=true)(hop:cT P f S o.op=some (v,S',some k))(hf:di k f=f')(ht:T5 f0 f k T)(hkl:lH ms i v kl):
 ku P ro all ms n f0 ((i,k)::kl) false hp l ((d,v)::f') S' K->ku P ro all ms n f0 kl b hp ((i,o)::l) f S K:=λ⟨z,c,t⟩=>⟨z,c,.cons (by have:=sQ.a (ro:=ro) (b:=b) hst hw hwr hms hop hkl λt h=>Mq ht t (List.contains_iff_mem.1 (all_eq_true.1 hT t h));rw[hdst] at this;rw[<-hf];exact this) t⟩
def ku.SK{f':Fm}{S':List SO}(hbr:Lh all ms i=true)(hwr:dQ o.op=false)(hop:∀ds K,K ⟨f',n,S',ds⟩->aG P ro (all.take (i+1)) [o] ⟨f,n,S,ds⟩ K):
 ku P ro all ms n f' [] true [] l f' S' K->ku P ro all ms n f0 kl b hp ((i,o)::l) f S K:=λ⟨z,c,t⟩=>⟨z,c,.cons (.SK hbr hwr hop) t⟩
end
def Tv.get{all:List Oper}{ms:List Nat}{n:Nat}:∀{ol:List Oper} {i0:Nat} {x z:Og},Tv P ro all ms n (cO i0 ol) x z->∃X:Nat->Og,X i0=x/\X (i0+ol.length)=z/\∀(k:Nat) o,ol[k]?=some o->sQ P ro all ms n (i0+k) o (X (i0+k)) (X (i0+k+1))
 | [],i0,x,z,h=>by
  rw[cO] at h;cases h;exact⟨λ_=>x,rfl,rfl,λk o h=>by simp at h⟩
 | o::ol,i0,x,z,h=>by
  rw[cO] at h
  cases h with | cons h t=>?_
  obtain⟨X,h1,h2,h3⟩:=Tv.get t;refine⟨λj=>if j=i0 then x else X j,t8 rfl,?_,?_⟩
  ·show(if _ then _ else _)=z;rw[length_cons,ul (by omega),<-h2];congr 1;omega
  ·rintro(_ | k) o' ho
   ·cases ho;show sQ P ro all ms n i0 o (if _ then _ else _) (if _ then _ else _);rw[Nat.add_zero,t8 rfl,ul (by omega),h1];exact h
   ·have:=h3 k o' (by simpa using ho);show sQ P ro all ms n (i0+(k+1)) o' (if _ then _ else _) (if _ then _ else _);rw[ul (by omega),ul (by omega),show i0+(k+1)=i0+1+k by omega];exact this
structure Ts (P:Program) (all:List Oper) (ms:List Nat) (n:Nat) (i:Nat) (o:Oper) (x y:Og) (κ:Option Nat):Prop where
 st:dJ all n [o]=true
 fr:∀t,o.dst≠some t->aO y.f t=jY κ (aO x.f t)
 wr:dQ o.op=false->κ=none
 S:dQ o.op=false->y.S=x.S
 b:y.b=true->x.b=true/\dQ o.op=false
 hp:∀j∈x.hp,j∈y.hp
 w:dQ o.op=true->x.hp.all (λj=>bR (ms.getD i 0) j)=true
 k1:∀q∈x.kl,q∈y.kl
 k2:∀k,κ=some k->(i,k)∈y.kl
 t:∀k,κ=some k->∀t∈Du all ms i,aM k (aO x.f t)=aO x.f t/\aM k (aO x.f0 t)=aO x.f0 t
 v:∀d,o.dst=some d->∀q∈x.kl,bR (ms.getD i 0) q.1=true\/aM q.2 (aO y.f d)=aO y.f d
 op:dQ o.op=true->∃v S',((cg all x.f o.guard=some true/\cT P x.f x.S o.op=some (v,S',κ))\/(cg all x.f o.guard=some false/\(∃d,o.dst=some d)/\v=.a jG/\S'=x.S/\κ=none))/\(∀d,o.dst=some d->aO y.f d=v)/\y.S=S'
 z:y.f0=x.f0
structure Uu (P:Program) (ro:Option Nat) (all:List Oper) (ms:List Nat) (n:Nat) (i:Nat) (o:Oper) (x y:Og):Prop where
 ok:Lh all ms i=true
 wr:dQ o.op=false
 op:∀ds K,K ⟨y.f,n,y.S,ds⟩->aG P ro (all.take (i+1)) [o] ⟨x.f,n,x.S,ds⟩ K
 z:y.f0=y.f
def sQ.out{all:List Oper}{ms:List Nat}{n i:Nat}{o:Oper}{x y:Og}(h:sQ P ro all ms n i o x y):(∃κ,Ts P all ms n i o x y κ)\/Uu P ro all ms n i o x y:=by
 have put:∀{f:Fm} {d:Nat} {v:SV},o.dst=some d->∀t,o.dst≠some t->aO ((d,v)::f) t=aO f t:=λ{f d v} hd t ht=>by
  show(if d=t then v else aO f t)=_;rw[ul λe=>ht (by rw[hd,e])]
 have top:∀{d:Nat} {v:SV} {f:Fm},aO ((d,v)::f) d=v:=λ{d v f}=>t8 rfl
 have no2:∀{q:Prop},dQ o.op=false->dQ o.op=true->q:=λh h2=>by rw[h] at h2;cases h2
 have val:∀{d d':Nat} {v:SV} {f:Fm},o.dst=some d->o.dst=some d'->aO ((d,v)::f) d'=v:=λh1 h2=>by rw[h1] at h2;cases h2;exact top
 cases h with
 | s h1 h2 h3 h4=>exact .inl ⟨none,h1,put h2,λ_=>rfl,λ_=>rfl,λh=>⟨h,h4⟩,λ_ h=>h,no2 h4,λ_ h=>h,nofun,nofun,λd hd q _=>.inr (by rw[val h2 hd];rfl),no2 h4,rfl⟩
 | r h1 h2 h3 h4 _ h6=>exact .inl ⟨none,h1,put h2,λ_=>rfl,λ_=>rfl,λh=>⟨h,xo h4⟩,λ_ h=>h,no2 (xo h4),λ_ h=>h,nofun,nofun,λd hd q hq=>by rw[val h2 hd];exact qW h6 q hq,no2 (xo h4),rfl⟩
 | h h1 h2 h3 h4 _ h6=>exact .inl ⟨none,h1,put h2,λ_=>rfl,λ_=>rfl,λh=>⟨h,xo h4⟩,λ_ h=>bo _ h,no2 (xo h4),λ_ h=>h,nofun,nofun,λd hd q hq=>by rw[val h2 hd];exact qW h6 q hq,no2 (xo h4),rfl⟩
 | k h1 h0 h2 h3 h4 _ _ _ _ h9=>
  have hk:dQ o.op=false:=by rw[h0];exact O2 h4
  exact .inl ⟨none,h1,put h2,λ_=>rfl,λ_=>rfl,λh=>⟨h,hk⟩,λ_ h=>h,no2 hk,λ_ h=>h,nofun,nofun,λd hd q _=>.inr (by rw[val h2 hd];exact RF h9 _),no2 hk,rfl⟩
 | sk h1 h2 h3 h4 h5=>exact .inl ⟨none,h1,put h2,λ_=>rfl,λ_=>rfl,λh=>(by cases h),λ_ h=>h,λ_=>h5,λ_ h=>h,nofun,nofun,λd hd q _=>.inr (by rw[val h2 hd];rfl),λ_=>⟨.a jG,_,.inr ⟨h3,⟨_,h2⟩,rfl,rfl,rfl⟩,λd hd=>val h2 hd,rfl⟩,rfl⟩
 | e h1 h3 h5 h6 h7 h8=>
  refine .inl ⟨none,h1,λt ht=>?_,λ_=>rfl,λh=>(by rw[h] at h5;cases h5),λh=>(by cases h),λ_ h=>h,λ_=>h6,λ_ h=>h,nofun,nofun,λd hd q hq=>?_,λ_=>⟨_,_,.inl ⟨h3,h7⟩,λd hd=>(by rw[hd];exact top),rfl⟩,rfl⟩
  ·cases hd:o.dst with
   | none=>rfl
   | some d=>exact put hd t ht
  ·refine(qW h8 q hq).imp id λh=>?_;rw[hd];simp only[sn,top];exact h
 | a h1 h3 h5 h6 h7 h8 h9=>
  rename_i k;refine .inl ⟨some k,h1,λt ht=>?_,λh=>(by rw[h] at h5;cases h5),λh=>(by rw[h] at h5;cases h5),λh=>(by cases h),λ_ h=>h,λ_=>h6,λ_ h=>bo _ h,λk' e=>(by cases e;exact ca),λk' e=>(by cases e;exact h9),λd hd q hq=>?_,λ_=>⟨_,_,.inl ⟨h3,h7⟩,λd hd=>(by rw[hd];exact top),rfl⟩,rfl⟩
  ·cases hd:o.dst with
   | none=>exact iF _ _ _
   | some d=>exact(put (f:=di k _) hd t ht).trans (iF _ _ _)
  ·refine(qW h8 q hq).imp id λh=>?_;rw[hd];simp only[sn,top];exact h
 | SK h1 h2 h3=>exact .inr ⟨h1,h2,h3,rfl⟩
def dY(κ:Nat->Option Nat)(b:Nat):Nat->SV->SV
 | 0,v=>v
 | m+1,v=>if m<b then v else jY (κ m) (dY κ b m v)
def GV(k:Option Nat)(v:SV):jY k v=v\/jY k v=.any:=by
 cases k with
 | none=>exact .inl rfl
 | some k=>unfold jY aM;simp only;cases names k v;exact .inl rfl;exact .inr rfl
def CO(k:Option Nat):jY k .any=.any:=by rcases GV k .any with h | h<;>exact h
section
variable {κ:Nat->Option Nat} {b m:Nat} {v:SV}
def GW:dY κ b m v=v\/dY κ b m v=.any:=by
 induction m with
 | zero=>exact .inl rfl
 | succ m ih=>
  rw[dY];split
  ·exact .inl rfl
  ·rcases ih with h | h
   ·rw[h];exact GV _ _
   ·rw[h,CO];exact .inr rfl
def jZ(h:m<=b):dY κ b m v=v:=by
 cases m with
 | zero=>rfl
 | succ m=>rw[dY,t8 (by omega)]
def td(h:b<=m):dY κ b (m+1) v=jY (κ m) (dY κ b m v):=by rw[dY,ul (by omega)]
def pe{c:Nat}(hbc:m<=c)(h:∀w,b<=w->m<=w->w<c->jY (κ w) (dY κ b w v)=dY κ b w v):dY κ b c v=dY κ b m v:=by
 induction hbc with
 | refl=>rfl
 | step hbc ih=>
  rename_i c;have:=ih λw h1 h2 h3=>h w h1 h2 (Nat.lt_succ_of_lt h3);by_cases hb:b<=c
  ·rw[td hb,h c hb hbc (be c),this]
  ·rw[jZ (by omega),<-this,jZ (by omega)]
end
def pR(g:Nat->SV)(φ:SV->SV)(f:Fm):List Oper->Fm
 | []=>f.map λq=>(q.1,φ q.2)
 | o::l=>match o.dst with
  | some d=>(d,g d)::pR g φ f l
  | none=>pR g φ f l
def Gj{g:Nat->SV}{φ:SV->SV}{f:Fm}(hφ:φ .any=.any){t:Nat}:∀{l:List Oper},(aO (pR g φ f l) t=g t/\∃o∈l,o.dst=some t)\/(aO (pR g φ f l) t=φ (aO f t)/\∀o∈l,o.dst≠some t)
 | []=>by
  refine .inr ⟨?_,λo h=>by cases h⟩;rw[pR]
  induction f with
  | nil=>exact hφ.symm
  | cons q f ih=>
   show(if q.1=t then φ q.2 else _)=φ (if q.1=t then q.2 else _);split
   ·rfl
   ·exact ih
 | o::l=>by
  have ih:=Gj (g:=g) (φ:=φ) (f:=f) hφ (t:=t) (l:=l);rw[pR]
  cases hd:o.dst with
  | none=>exact ih.imp (λ⟨a,o',b,c⟩=>⟨a,o',bo _ b,c⟩) λ⟨a,b⟩=>⟨a,λo' ho'=>by rcases mem_cons.1 ho' with rfl | h ;(rw[hd];nofun);exact b o' h⟩
  | some d=>
   by_cases e:d=t
   ·subst e;exact .inl ⟨t8 rfl,o,ca,hd⟩
   ·have h1:aO ((d,g d)::pR g φ f l) t=aO (pR g φ f l) t:=ul e;simp only[h1];exact ih.imp (λ⟨a,o',b,c⟩=>⟨a,o',bo _ b,c⟩) λ⟨a,b⟩=>⟨a,λo' ho'=>by rcases mem_cons.1 ho' with rfl | h ;(rw[hd];exact λh=>e (Option.some.inj h));exact b o' h⟩
def aq.O1{id:Nat}{ops:Array Oper}{st:ez}{Q:Ex->ez->Prop}{ol:List Oper}{ms:List Nat}(hol:ops.toList=ol)(hms:og ol []=ms)(hok:((kP 0 ol&&P.follows .mixedOrders)&&(AP ol ms (cO 0 ol)&&Jh ms (cO 0 ol)))=true)
 (h:ku P ro ol ms st.n st.f [] true [] (cO 0 ol) st.f st.S λf' S'=>Q .normal ⟨f',st.n,S',st.ds⟩):aq P ro (.region id ops true) st Q:=by
 obtain⟨f,n,S,ds⟩:=st;rw[a0] at hok;obtain⟨hbk,hpr⟩:=hok;rw[a0] at hpr;obtain⟨hpr,hch⟩:=hpr
 have hord:∀{i j:Nat} {a b:Oper},ol[i]?=some a->ol[j]?=some b->i<j->(dQ a.op||gf a.op)=true->(dQ b.op||gf b.op)=true->bR (ms.getD j 0) i=true:=λh1 h2 h3 h4 h5=>by simpa using Lr hch h1 h2 h3 h4 h5
 have hback:=hbk;rw[a0] at hback;obtain⟨z,hz,ht⟩:=h;obtain⟨X,hX0,hXN,hX⟩:=ht.get;simp only[cv] at hXN hX;have hP:=λ{i:Nat} {o:Oper} (ho:ol[i]?=some o)=>Qd hpr ho;simp only[cv] at hP;obtain⟨B,hB0⟩:∃B:Nat->Prop,∀i,B i↔∃o,ol[i]?=some o/\Uu P ro ol ms n i o (X i) (X (i+1)):=⟨_,λ_=>Iff.rfl⟩
 obtain⟨κ,hκ0⟩:∃κ:Nat->Option Nat,∀i,(B i->κ i=none)/\∀o,ol[i]?=some o->¬B i->Ts P ol ms n i o (X i) (X (i+1)) (κ i):=by
  have:∀i,∃κ,(B i->κ=none)/\∀o,ol[i]?=some o->¬B i->Ts P ol ms n i o (X i) (X (i+1)) κ:=by
   intro i;by_cases hb:B i
   ·exact⟨none,λ_=>rfl,λ_ _ h=>t7 hb h⟩
   cases ho:ol[i]? with
   | none=>exact⟨none,λ_=>rfl,nofun⟩
   | some o=>
    rcases(hX i o ho).out with⟨κ,h⟩ | h
    ·exact⟨κ,λh=>t7 h hb,λo' e _=>by cases e;exact h⟩
    ·exact t7 ((hB0 i).2 ⟨o,ho,h⟩) hb
  exact⟨λi=>Classical.choose (this i),λi=>Classical.choose_spec (this i)⟩
 have hκ:=λ{i o} (ho:ol[i]?=some o) (hb:¬B i)=>(hκ0 i).2 o ho hb
 have hBw:∀{i o},B i->ol[i]?=some o->dQ o.op=false/\Lh ol ms i=true:=by
  intro i o hb ho;obtain⟨o',h1,h2⟩:=(hB0 i).1 hb;rw[h1] at ho;cases ho;exact⟨h2.wr,h2.ok⟩
 have hBn:∀{i o},ol[i]?=some o->dQ o.op=true->¬B i:=λho hw hb=>by rw[(hBw hb ho).1] at hw;cases hw
 have hat:∀{i},i<ol.length->∃o,ol[i]?=some o:=λh=>⟨_,ay h⟩
 have hBl:∀{i},B i->i<ol.length:=λhb=>by obtain⟨o,h,_⟩:=(hB0 _).1 hb;exact bf h
 have hBo:∀{c j},B c->j<ol.length->(j<c->bR (ms.getD c 0) j=true)/\(c<j->bR (ms.getD j 0) c=true):=by
  intro c j hb hj;obtain⟨oc,hoc⟩:=hat (hBl hb);obtain⟨oj,hoj⟩:=hat hj;have h:=all_eq_true.1 (hBw hb hoc).2 (j,oj) (mem_iff_getElem?.2 ⟨j,by rw[kc,hoj];simp⟩);simp only[dB,a0] at h;refine⟨λhlt=>?_,λhlt=>?_⟩
  ·rcases h with(h | h) | h
   ·have:=cc h;omega
   ·exact h.2
   ·have:=fz h.1;omega
  ·rcases h with(h | h) | h
   ·have:=cc h;omega
   ·have:=fz h.1;omega
   ·exact h.2
 have hF:∀(k m t:Nat),k<=m->m<=ol.length->(∀c,k<=c->c<m->¬B c)->(∀j o,k<=j->j<m->ol[j]?=some o->o.dst≠some t)->aO (X m).f t=dY κ k m (aO (X k).f t):=by
  intro k m t hkm
  induction hkm with
  | refl=>exact λ_ _ _=>(jZ (ba _)).symm
  | step hkm ih=>
   rename_i m;intro hm hb hno;obtain⟨o,hoj⟩:=hat hm;rw[(hκ hoj (hb m hkm (be _))).fr t (hno m _ hkm (be _) hoj),td hkm,ih (bc hm) (λc h1 h2=>hb c h1 (by omega)) λj o h1 h2=>hno j o h1 (by omega)]
 have hseg:∀{α:Type} (φ:Og->α) (k m:Nat),(∀j o,k<=j->j<m->ol[j]?=some o->φ (X (j+1))=φ (X j))->k<=m->m<=ol.length->φ (X m)=φ (X k):=by
  intro α φ k m hs hkm
  induction hkm with
  | refl=>exact λ_=>rfl
  | step hkm ih=>
   rename_i m;intro hm;obtain⟨o,hoj⟩:=hat hm;rw[hs m o hkm (be _) hoj];exact ih (λj o h1 h2=>hs j o h1 (by omega)) (bc hm)
 have hS:∀(k m:Nat),k<=m->m<=ol.length->(∀c,k<=c->c<m->¬B c)->(∀j o,k<=j->j<m->ol[j]?=some o->dQ o.op=false)->(X m).S=(X k).S:=λk m h1 h2 hb hw=>hseg Og.S k m (λj o g1 g2 g3=>(hκ g3 (hb j g1 g2)).S (hw j o g1 g2 g3)) h1 h2;have hZ:∀(k m:Nat),k<=m->m<=ol.length->(∀c,k<=c->c<m->¬B c)->(X m).f0=(X k).f0:=λk m h1 h2 hb=>hseg Og.f0 k m (λj o g1 g2 g3=>(hκ g3 (hb j g1 g2)).z) h1 h2
 have hB:∀(k m:Nat),k<=m->m<=ol.length->(∀c,k<=c->c<m->¬B c)->(X m).b=true->∀j o,k<=j->j<m->ol[j]?=some o->dQ o.op=false:=by
  intro k m hkm
  induction hkm with
  | refl=>exact λ_ _ _ j o h1 h2=>by omega
  | step hkm ih=>
   rename_i m;intro hm hbr hb j o h1 hj ho;obtain⟨o',ho'⟩:=hat hm;obtain⟨h3,h2⟩:=(hκ ho' (hbr m hkm (be _))).b hb;by_cases e:j=m
   ·subst e;rw[ho'] at ho;cases ho;exact h2
   ·exact ih (bc hm) (λc h1 h2=>hbr c h1 (by omega)) h3 j o h1 (by omega) ho
 have hH:∀(k m j:Nat),k<=m->m<=ol.length->(∀c,k<=c->c<m->¬B c)->j∈(X k).hp->j∈(X m).hp:=by
  intro k m j hkm
  induction hkm with
  | refl=>exact λ_ _ h=>h
  | step hkm ih=>
   intro hm hb hj;obtain⟨o',ho'⟩:=hat hm;exact(hκ ho' (hb _ hkm (be _))).hp j (ih (bc hm) (λc h1 h2=>hb c h1 (by omega)) hj)
 have hKL:∀(k m:Nat) q,k<=m->m<=ol.length->(∀c,k<=c->c<m->¬B c)->q∈(X k).kl->q∈(X m).kl:=by
  intro k m q hkm
  induction hkm with
  | refl=>exact λ_ _ h=>h
  | step hkm ih=>
   intro hm hb hj;obtain⟨o',ho'⟩:=hat hm;exact(hκ ho' (hb _ hkm (be _))).k1 q (ih (bc hm) (λc h1 h2=>hb c h1 (by omega)) hj)
 have hu:∀{j k:Nat} {a b:Oper} {t:Nat},ol[j]?=some a->ol[k]?=some b->a.dst=some t->b.dst=some t->j=k:=by
  have one:∀{j k:Nat} {a b:Oper} {t:Nat},ol[j]?=some a->ol[k]?=some b->a.dst=some t->b.dst=some t->¬j<k:=by
   intro j k a b t hj hk ha hb hlt;have:=(hP hj).2.2 k b hlt hk;unfold Qb at this;rw[hb] at this;simp[ha] at this
  intro j k a b t hj hk ha hb;exact Nat.le_antisymm (ce (one hk hj hb ha)) (ce (one hj hk ha hb))
 have hT:∀{i w:Nat} {o:Oper} {t k:Nat},ol[i]?=some o->i≠w->bR (ms.getD w 0) i=false->bR (ms.getD i 0) w=false->w<ol.length->κ w=some k->(o.dst=some t\/t∈iT ol o)->aM k (aO (X w).f t)=aO (X w).f t/\aM k (aO (X w).f0 t)=aO (X w).f0 t:=by
  intro i w o t k ho hne h1 h2 hw hk hd;obtain⟨ow,how⟩:=hat hw
  have hnb:¬B w:=λhb=>by rw[(hκ0 w).1 hb] at hk;cases hk
  refine(hκ how hnb).t k hk t ?_;unfold Du;refine List.mem_flatMap.2 ⟨(i,o),List.mem_filter.2 ⟨mem_iff_getElem?.2 ⟨i,by rw[kc,ho];simp⟩,?_⟩,?_⟩
  ·simp only[h1,h2,Bool.not_false,ci,Bool.not_eq_true'];cases hb:beq i w
   ·rfl
   ·exact t7 (cc hb) hne
  ·cases hd':o.dst with
   | none=>rw[hd'] at hd;exact hd.resolve_left nofun
   | some d=>
    rw[hd'] at hd
    rcases hd with hd | hd
    ·cases hd;exact ca
    ·exact bo _ hd
 have hu0:∀q:(Nat->Prop)×Nat,∃base:Nat->Nat,(∀j o t,q.2<=j->ol[j]?=some o->o.dst=some t->q.1 j->base t=j+1)/\∀t,(∀j o,q.2<=j->ol[j]?=some o->o.dst=some t->¬q.1 j)->base t=q.2:=by
  rintro⟨L,β⟩
  have:∀t,∃b,(∀j o,β<=j->ol[j]?=some o->o.dst=some t->L j->b=j+1)/\((∀j o,β<=j->ol[j]?=some o->o.dst=some t->¬L j)->b=β):=by
   intro t;by_cases h:∃j o,β<=j/\ol[j]?=some o/\o.dst=some t/\L j
   ·obtain⟨j,o,h0,h1,h2,h3⟩:=h;exact⟨j+1,λj' o' _ g1 g2 _=>by rw[hu h1 g1 h2 g2],λg=>t7 h3 (g j o h0 h1 h2)⟩
   ·exact⟨β,λj o g0 g1 g2 g3=>t7 ⟨j,o,g0,g1,g2,g3⟩ h,λ_=>rfl⟩
  exact⟨λt=>Classical.choose (this t),λj o t h0 h1 h2 h3=>(Classical.choose_spec (this t)).1 j o h0 h1 h2 h3,λt h=>(Classical.choose_spec (this t)).2 h⟩
 obtain⟨base,hbase0⟩:=Classical.axiomOfChoice hu0;have hbase:=λL β=>hbase0 (L,β);simp only at hbase;obtain⟨g,hg⟩:∃g:(Nat->Prop)->Nat->Nat->Nat->SV,∀L β m t,g L β m t=dY κ (base (L,β) t) m (aO (X (base (L,β) t)).f t):=⟨_,λ_ _ _ _=>rfl⟩
 have hfr:∀L β m t,aO (pR (g L β m) (dY κ β m) (X β).f ol) t=g L β m t:=by
  intro L β m t
  rcases Gj (g:=g L β m) (φ:=dY κ β m) (f:=(X β).f) (by rcases GW (κ:=κ) (b:=β) (m:=m) (v:=.any) with h | h<;>exact h) (t:=t) (l:=ol) with⟨h,_⟩ | ⟨h,hn⟩
  ·exact h
  ·rw[h,hg,(hbase L β).2 t λj o _ hj hd=>t7 hd (hn o (cf hj))]
 have hgd:∀(i:Nat) (o:Oper),ol[i]?=some o->∀(j:Nat) (b:Bool),o.guard=some (j,b)->j<i:=λi o ho=>(hP ho).2.1;refine aq.post (aq.any hol hbk (.inr hgd) (λL x=>x.n=n/\mf ol L/\∃β m,β<=m/\m<=ol.length/\(∀j,j<β->L j)/\(X β).f0=(X β).f/\(∀c,β<=c->B c->¬L c/\m<=c)/\(∀j o,ol[j]?=some o->dQ o.op=true->(L j↔j<m))/\Fg x ⟨pR (g L β m) (dY κ β m) (X β).f ol,n,(X m).S,ds⟩) ?_ (λL x h=>h.1) ?_ ?_)
 ·refine⟨rfl,λ_ _ _ h=>h.elim,0,0,ba _,cd _,λj h=>t7 h (bk _),by rw[hX0],λc _ _=>⟨λh=>h,cd _⟩,λj o _ _=>⟨λh=>h.elim,λh=>t7 h (bk _)⟩,?_⟩;rw[show(X 0).S=S by rw[hX0]];refine Fg.tmps λt=>.inl ?_;rw[hfr,hg,(hbase _ 0).2 t λj o _ _ _ h=>h,hX0];rfl
 ·rintro L x i o ⟨hxn,hc,β,m,hβm,hml,hβ,hβ0,hβB,hm,hx⟩ hr;have ho:=hr.fK;have hil:=bf ho;obtain⟨p1,p2,p3⟩:=hP ho;have hβi:β<=i:=ce λh=>hr.new (hβ i h)
  have hc2:mf ol (λj=>L j\/j=i):=by
   intro j o' ho' hj e he hd
   rcases hj with hj | rfl
   ·exact .inl (hc j o' ho' hj e he hd)
   ·rw[ho'] at ho;cases ho;exact .inl (hr.dep e he hd)
  have hA:∀k,bR (ms.getD i 0) k=true->L k:=λk hk=>JJ hback.1 hc i o ho hr.dep (by rw[hms];exact hk);have hA2:∀j o' k,ol[j]?=some o'->L j->bR (ms.getD j 0) k=true->L k:=λj o' k hj hl hk=>JJ hback.1 hc j o' hj (hc j o' hj hl) (by rw[hms];exact hk);have hbi:∀c,β<=c->c<i->¬B c:=λc h1 h2 hb=>(hβB c h1 hb).1 (hA c ((hBo hb hil).2 h2))
  have hbm:∀c,β<=c->c<m->¬B c:=λc h1 h2 hb=>by have:=(hβB c h1 hb).2;omega
  have hbd:∀j o',β<=j->ol[j]?=some o'->L j->∀c,β<=c->c<j+1->¬B c:=by
   intro j o' h1 hj hl c h2 h3 hb;have hn:=(hβB c h2 hb).1;by_cases e:c=j
   ·subst e;exact hn hl
   ·exact hn (hA2 j o' c hj hl ((hBo hb (bf hj)).2 (by omega)))
  have hKm:∀w,w<ol.length->κ w≠none->(L w↔w<m):=by
   intro w hw hk;obtain⟨ow,how⟩:=hat hw;have hnb:¬B w:=λhb=>hk ((hκ0 w).1 hb);refine hm w ow how ?_;cases hh:dQ ow.op
   ·exact t7 ((hκ how hnb).wr hh) hk
   ·rfl
  by_cases hBi:B i
  ·
   obtain⟨o',ho',hbar⟩:=(hB0 i).1 hBi;rw[ho] at ho';cases ho'
   have hLi:∀j,j<ol.length->(L j↔j<i):=by
    intro j hj;refine⟨λhl=>?_,λh=>hA j ((hBo hBi hj).1 h)⟩
    rcases bv j i with h | rfl | h
    ·exact h
    ·exact t7 hl hr.new
    ·obtain⟨oj,hoj⟩:=hat hj;exact t7 (hA2 j oj i hoj hl ((hBo hBi hj).2 h)) hr.new
   have hmi:m<=i:=(hβB i hβi hBi).2
   have hkr:∀b v,dY κ b m v=dY κ b i v:=λb v=>(pe hmi λw _ h2 h3=>by
    cases hk:κ w with
    | none=>rfl
    | some k=>
     have:=(hKm w (by omega) (by rw[hk];nofun)).1 ((hLi w (by omega)).2 h3)
     omega).symm
   have hSi:(X i).S=(X m).S:=hS m i hmi (bc hil) (λc h1 h2=>hbi c (by omega) h2) λj o' h1 h2 hj=>Mx λe=>by have:=(hm j o' hj e).1 ((hLi j (by omega)).2 h2);omega
   refine aG.fg (hx.trans (Fg.tmps (f':=(X i).f) λt=>.inl ?_)) ?_
   ·rw[hfr,hg,hkr];by_cases h:∃j o,β<=j/\ol[j]?=some o/\o.dst=some t/\L j
    ·obtain⟨j,o',h0,h1,h2,h3⟩:=h;have hji:=(hLi j (bf h1)).1 h3;rw[(hbase L β).1 j o' t h0 h1 h2 h3]
     exact hF (j+1) i t hji (bc hil) (λc g1 g2=>hbi c (by omega) g2) λk b g1 _ hk e=>by have:=hu h1 hk h2 e;omega
    ·rw[(hbase L β).2 t λj o' h0 h1 h2 h3=>h ⟨j,o',h0,h1,h2,h3⟩];exact hF β i t hβi (bc hil) hbi λk b g1 g2 hk e=>h ⟨k,b,g1,hk,e,(hLi k (bf hk)).2 g2⟩
   ·rw[<-hSi];refine hbar.op ds _ ⟨rfl,hc2,i+1,i+1,ba _,hil,λj hj=>?_,hbar.z,λc h1 hb=>⟨λh=>?_,h1⟩,λj o' hj _=>⟨λh=>?_,λh=>?_⟩,Fg.tmps λt=>.inl ?_⟩
    ·by_cases e:j=i
     ·exact .inr e
     ·exact .inl ((hLi j (by omega)).2 (by omega))
    ·rcases h with h | rfl
     ·have:=(hLi c (hBl hb)).1 h;omega
     ·omega
    ·rcases h with h | rfl
     ·have:=(hLi j (bf hj)).1 h;omega
     ·omega
    ·by_cases e:j=i
     ·exact .inr e
     ·exact .inl ((hLi j (bf hj)).2 (by omega))
    ·rw[hfr,hg,(hbase _ (i+1)).2 t λj o' h0 h1 h2 h3=>?_,jZ (ba _)]
     rcases h3 with h3 | rfl
     ·have:=(hLi j (bf h1)).1 h3;omega
     ·omega
  have hκi:=hκ ho hBi
  have hun:∀{t:Nat},(o.dst=some t\/t∈iT ol o)->∀w,β<=w->w<ol.length->w≠i->(i<w/\w<m\/m<=w/\w<i)->∀k,κ w=some k->aM k (aO (X w).f t)=aO (X w).f t/\aM k (aO (X β).f t)=aO (X β).f t:=by
   intro t hd w hbw hw hne hcase k hk;obtain⟨ow,how⟩:=hat hw;have hLw:=hKm w hw (by rw[hk];nofun)
   have b1:bR (ms.getD w 0) i=false:=by
    cases hb:bR (ms.getD w 0) i
    ·rfl
    ·rcases hcase with h | h
     ·exact t7 (hA2 w ow i how (hLw.2 h.2) hb) hr.new
     ·have:=LK hback.1 hms w ow how hb;omega
   have b2:bR (ms.getD i 0) w=false:=by
    cases hb:bR (ms.getD i 0) w
    ·rfl
    ·rcases hcase with h | h
     ·have:=LK hback.1 hms i o ho hb;omega
     ·have:=hLw.1 (hA w hb);omega
   have:=hT ho hne.symm b1 b2 hw hk hd;rw[hZ β w hbw (bc hw) λc h1 h2=>by rcases hcase with h | h;exact hbm c h1 (by omega);exact hbi c h1 (by omega),hβ0] at this;exact this
  have hstay:∀{t b:Nat},β<=b->(o.dst=some t\/t∈iT ol o)->b<=i+1->((b=β/\κ i=none)\/∀w,i<w->w<m->w<=ol.length->aO (X w).f t=dY κ b w (aO (X b).f t))->(∀w,w<=i->b<=w->aO (X w).f t=dY κ b w (aO (X b).f t))->(m<=i\/κ i=none)->dY κ b m (aO (X b).f t)=dY κ b i (aO (X b).f t):=by
   intro t b hβb hd hbi hw1 hw2 hκi
   rcases d7 m i with hmi | hmi
   ·refine(pe hmi λw h1 h2 h3=>?_).symm
    cases hk:κ w with
    | none=>rfl
    | some k=>rw[<-hw2 w (by omega) h1];exact(hun hd w (by omega) (by omega) (by omega) (.inr ⟨h2,h3⟩) k hk).1
   ·refine pe hmi λw h1 h2 h3=>?_;by_cases hwi:w=i
    ·subst hwi
     rcases hκi with h | h
     ·omega
     ·rw[h];rfl
    ·cases hk:κ w with
     | none=>rfl
     | some k=>
      have hu:=hun hd w (by omega) (by omega) hwi (.inl ⟨by omega,h3⟩) k hk
      rcases hw1 with⟨rfl,_⟩ | hw1
      ·rcases GW (κ:=κ) (b:=b) (m:=w) (v:=aO (X b).f t) with h | h
       ·rw[h];exact hu.2
       ·rw[h];exact CO _
      ·rw[<-hw1 w (by omega) h3 (by omega)];exact hu.1
  have hκw:dQ o.op=false->κ i=none:=hκi.wr
  have hlook0:(m<=i\/κ i=none)->∀t∈iT ol o,g L β m t=aO (X i).f t:=by
   intro hκi t hlt
   have hbw:∀w,(w<=i\/i<w/\w<m)->∀b,β<=b->∀c,b<=c->c<w->¬B c:=λw hw b hb c h1 h2=>by rcases hw with hw | hw;exact hbi c (by omega) (by omega);exact hbm c (by omega) (by omega)
   rw[hg];by_cases hno:∀j o,β<=j->ol[j]?=some o->o.dst≠some t
   ·rw[(hbase L β).2 t λj o' h0 hj hd=>t7 hd (hno j o' h0 hj)];have hh:=λw (h:w<=i\/i<w/\w<m) (hbw':β<=w) (hw:w<=ol.length)=>hF β w t hbw' hw (hbw w h β (ba _)) λj o' h1 _ hj=>hno j o' h1 hj;rw[hh i (.inl (ba _)) hβi (bc hil)];exact hstay (ba _) (.inr hlt) (by omega) (.inr λw h1 h2 h=>hh w (.inr ⟨h1,h2⟩) (by omega) h) (λw h h2=>hh w (.inl h) h2 (by omega)) hκi
   ·simp only[ne_eq,Classical.not_forall,Decidable.not_not] at hno;obtain⟨j,o',hβj,hj,hd⟩:=hno
    rcases bv j i with hji | rfl | hji
    ·have h1:=(hP hj).2.2 i o hji ho;unfold Qb at h1;rw[hd,a0] at h1
     have hbit:bR (ms.getD i 0) j=true:=by
      have h2:=h1.2;rw[dB] at h2
      rcases h2 with h2 | h2
      ·exact h2
      ·simp[hlt] at h2
     rw[(hbase L β).1 j o' t hβj hj hd (hA j hbit)]
     have hh:=λw (h:w<=i\/i<w/\w<m) (h1:j+1<=w) (hw:w<=ol.length)=>hF (j+1) w t h1 hw (hbw w h (j+1) (by omega)) λk b hik _ hk e=>by have:=hu hj hk hd e;omega
     rw[hh i (.inl (ba _)) hji (bc hil)];exact hstay (by omega) (.inr hlt) (by omega) (.inr λw h h3 h2=>hh w (.inr ⟨h,h3⟩) (by omega) h2) (λw h h2=>hh w (.inl h) h2 (by omega)) hκi
    ·rw[hj] at ho;cases ho;exact t7 hlt (p1 t hd)
    ·have h1:=p3 j o' hji hj;unfold Qb at h1;rw[hd,a0,a0,dB] at h1;have h2:=h1.1.2.resolve_left (by simp[hlt]);rw[(hbase L β).2 t λk b _ hk e hl=>hr.new (by have:=hu hj hk hd e;subst this;exact hA2 j o' i hj hl h2)]
     have hh:=λw (hw:w<=i) (hbw':β<=w)=>hF β w t hbw' (by omega) (hbw w (.inl hw) β (ba _)) λk b _ hki hk e=>by have:=hu hj hk hd e;omega
     rw[hh i (ba _) hβi]
     rcases hκi with hκi | hκi
     ·exact hstay (ba _) (.inr hlt) (by omega) (.inr λw h1 h2 _=>by omega) (λw h h2=>hh w h h2) (.inl hκi)
     ·exact hstay (ba _) (.inr hlt) (by omega) (.inl ⟨rfl,hκi⟩) (λw h h2=>hh w h h2) (.inr hκi)
  have hSS:(∀j o',ol[j]?=some o'->dQ o'.op=true->(L j↔j<i))->(X m).S=(X i).S:=by
   intro hh
   rcases d7 i m with him | him
   ·exact hS i m him hml (λc h1 h2=>hbm c (by omega) h2) λj o' h1 h2 hj=>Mx λe=>by have a:=hh j o' hj e;have b:=hm j o' hj e;have:=a.1 (b.2 h2);omega
   ·exact(hS m i him (bc hil) (λc h1 h2=>hbi c (by omega) h2) λj o' h1 h2 hj=>Mx λe=>by have a:=hh j o' hj e;have b:=hm j o' hj e;have:=b.1 (a.2 h2);omega).symm
  have hlate:(X i).b=true->(∀j o',i<j->ol[j]?=some o'->dQ o'.op=true->(∀c,i<c->c<j->¬B c)->bR (ms.getD j 0) i=true)->(X m).S=(X i).S:=by
   intro hb hh;refine hSS λj o' hj hd=>⟨λhl=>?_,λhlt=>?_⟩
   ·rcases bv j i with h1 | rfl | h1
    ·exact h1
    ·exact t7 hl hr.new
    ·refine t7 (hA2 j o' i hj hl (hh j o' h1 hj hd λc g1 g2=>hbd j o' (by omega) hj hl c (by omega) (by omega))) hr.new
   ·by_cases hjb:j<β
    ·exact hβ j hjb
    ·exact t7 hd (by rw[hB β i hβi (bc hil) hbi hb j o' (by omega) hlt hj];simp)
  refine aG.fg hx ?_
  have hbne:∀t,o.dst≠some t->base (λj=>L j\/j=i,β) t=base (L,β) t:=by
   intro t ht;by_cases h:∃j o,β<=j/\ol[j]?=some o/\o.dst=some t/\L j
   ·obtain⟨j,o',h0,h1,h2,h3⟩:=h;rw[(hbase _ β).1 j o' t h0 h1 h2 (.inl h3),(hbase L β).1 j o' t h0 h1 h2 h3]
   ·rw[(hbase L β).2 t λj o' h0 h1 h2 h3=>h ⟨j,o',h0,h1,h2,h3⟩,(hbase _ β).2 t λj o' h0 h1 h2 h3=>?_]
    rcases h3 with h3 | rfl
    ·exact h ⟨j,o',h0,h1,h2,h3⟩
    ·rw[ho] at h1;cases h1;exact ht h2
  have hβB2:∀c,β<=c->B c->¬(L c\/c=i)/\m<=c:=λc h1 hb=>⟨λh=>h.elim (hβB c h1 hb).1 λe=>hBi (e▸hb),(hβB c h1 hb).2⟩
  have lay:∀{d:Nat} {v:SV},o.dst=some d->dQ o.op=false->aO (X (i+1)).f d=v->(λx=>(λx=>x.n=n/\mf ol (λj=>L j\/j=i)/\∃β m,β<=m/\m<=ol.length/\(∀j,j<β->(L j\/j=i))/\(X β).f0=(X β).f/\(∀c,β<=c->B c->¬(L c\/c=i)/\m<=c)/\(∀j o,ol[j]?=some o->dQ o.op=true->((L j\/j=i)↔j<m))/\Fg x ⟨pR (g (λj=>L j\/j=i) β m) (dY κ β m) (X β).f ol,n,(X m).S,ds⟩) x) ⟨(d,v)::pR (g L β m) (dY κ β m) (X β).f ol,n,(X m).S,ds⟩:=by
   intro d v hd hwr hv;refine⟨rfl,hc2,β,m,hβm,hml,λj h=>.inl (hβ j h),hβ0,hβB2,λj o' hj hdj=>⟨λh=>?_,λh=>.inl ((hm j o' hj hdj).2 h)⟩,Fg.tmps λt=>.inl ?_⟩
   ·rcases h with h | rfl
    ·exact(hm j o' hj hdj).1 h
    ·rw[ho] at hj;cases hj;rw[hwr] at hdj;cases hdj
   ·rw[hfr,hg]
    show _=if d=t then v else aO (pR (g L β m) (dY κ β m) (X β).f ol) t
    by_cases e:d=t
    ·subst e;rw[t8 rfl,(hbase _ β).1 i o d hβi ho hd (.inr rfl),hv]
     rcases d7 m (i+1) with h | h
     ·exact jZ h
     ·refine(pe h λw h1 h2 h3=>?_).trans (jZ (ba _))
      cases hk:κ w with
      | none=>rfl
      | some k=>
       rw[<-hv,<-hF (i+1) w d h1 (by omega) (λc g1 g2=>hbm c (by omega) (by omega)) λj o' g1 _ g3 e=>by have:=hu ho g3 hd e;omega];exact(hun (.inl hd) w (by omega) (by omega) (by omega) (.inl ⟨by omega,h3⟩) k hk).1
    ·rw[ul e,hfr,hg,hbne t λh=>e (by rw[hd] at h;exact Option.some.inj h)]
  have hstp:=hX i o ho;have top:∀{d:Nat} {v:SV} {f:Fm},aO ((d,v)::f) d=v:=λ{d v f}=>t8 rfl;have hXi:∃x,X i=x:=⟨_,rfl⟩;have hXj:∃x,X (i+1)=x:=⟨_,rfl⟩;obtain⟨xi,hxi⟩:=hXi;obtain⟨xj,hxj⟩:=hXj
  have hst:dJ (ol.take (i+1)) n [o]=true:=by
   have:=hκi.st;unfold dJ at this ⊢;simp only[ey,List.all_nil,ci] at this ⊢
   cases hg:o.guard with
   | none=>rw[hg] at this;exact this
   | some q=>obtain⟨j,w⟩:=q;rw[hg] at this;simp only at this ⊢;rw[d5,t8 (by have:=p2 j w hg;omega)];exact this
  have hlook:(m<=i\/κ i=none)->(∀gd:Option (Nat×Bool),o.guard=gd->cg (ol.take (i+1)) (pR (g L β m) (dY κ β m) (X β).f ol) gd=cg ol (X i).f gd)/\∀x∈o.op.operands.toList,eI (pR (g L β m) (dY κ β m) (X β).f ol) x=eI (X i).f x:=by
   intro hκi
   have h1:∀t∈iT ol o,aO (pR (g L β m) (dY κ β m) (X β).f ol) t=aO (X i).f t:=λt ht=>by rw[hfr];exact hlook0 hκi t ht
   refine⟨λgd hgd=>?_,NN h1⟩;rw[<-hgd,<-IU h1,hgd]
   cases gd with
   | none=>rfl
   | some q=>obtain⟨j,w⟩:=q;simp only[cg];rw[d5,t8 (by have:=p2 j w hgd;omega)]
  rw[hxi,hxj] at hstp;by_cases hww:dQ o.op=true
  ·have hb:∀j o',ol[j]?=some o'->dQ o'.op=true->(L j↔j<i):=by
    intro j o' hj hdj
    rcases bv j i with h1 | rfl | h1
    ·exact⟨λ_=>h1,λ_=>hA j (hord hj ho h1 (by rw[hdj];rfl) (by rw[hww];rfl))⟩
    ·exact⟨λh=>t7 h hr.new,λh=>t7 h (Nat.lt_irrefl _)⟩
    ·exact⟨λhl=>t7 (hA2 j o' i hj hl (hord ho hj h1 (by rw[hww];rfl) (by rw[hdj];rfl))) hr.new,λh=>t7 h (by omega)⟩
   have hmi:m<=i:=ce λh=>hr.new ((hm i o ho hww).2 h);have hl:=hlook (.inl hmi);obtain⟨v,S',k1,k3,k4⟩:=hκi.op hww
   refine aG.run (l':=[]) (f':=sn (pR (g L β m) (dY κ β m) (X β).f ol) (κ i) o.dst v) (S':=S') hst (by
    rcases k1 with⟨k1,k2⟩ | ⟨k1,⟨d,k2⟩,rfl,rfl,k5⟩
    ·rw[nN,hl.1 _ rfl,k1,tl (by rw[hww,dl]) hl.2,hSS hb,k2];simp only[nN]
    ·rw[nN,hl.1 _ rfl,k1,k5,k2,hSS hb];simp only[nN,sn,jw]) (.nil ⟨rfl,hc2,β,i+1,by omega,hil,λj h=>.inl (hβ j h),hβ0,λc h1 hb2=>⟨(hβB2 c h1 hb2).1,?_⟩,λj o' hj hdj=>⟨λh=>?_,λh=>?_⟩,?_⟩)
   ·rcases bv c i with h | rfl | h
    ·exact t7 hb2 (hbi c h1 h)
    ·exact t7 hb2 hBi
    ·exact h
   ·rcases h with h | rfl
    ·have:=(hb j o' hj hdj).1 h;omega
    ·omega
   ·by_cases e:j=i
    ·exact .inr e
    ·exact .inl ((hb j o' hj hdj).2 (by omega))
   ·rw[k4];refine Fg.tmps λt=>.inl ?_
    have hr2:aO (sn (pR (g L β m) (dY κ β m) (X β).f ol) (κ i) o.dst v) t=if o.dst=some t then v else jY (κ i) (g L β m t):=by
     have hk:aO (jw (pR (g L β m) (dY κ β m) (X β).f ol) (κ i)) t=jY (κ i) (g L β m t):=by
      rw[<-hfr L β m t]
      cases κ i with
      | none=>rfl
      | some k=>exact iF _ _ _
     cases o.dst with
     | none=>rw[ul nofun];exact hk
     | some d=>
      show(if d=t then v else _)=_;simp only[Option.some.injEq,hk]
    rw[hr2,hfr,hg];by_cases hd:o.dst=some t
    ·rw[t8 hd,(hbase _ β).1 i o t hβi ho hd (.inr rfl),jZ (ba _),k3 t hd]
    ·rw[ul hd,hbne t hd,hg]
     have hmi2:dY κ (base (L,β) t) m (aO (X (base (L,β) t)).f t)=dY κ (base (L,β) t) i (aO (X (base (L,β) t)).f t):=by
      refine(pe hmi λw h1 h2 h3=>?_).symm
      cases hk:κ w with
      | none=>rfl
      | some k=>
       exfalso;have h4:=hKm w (by omega) (by rw[hk];nofun);obtain⟨ow,how⟩:=hat (show w<ol.length by omega)
       have hnb:¬B w:=λhb=>by rw[(hκ0 w).1 hb] at hk;cases hk
       have hwo:dQ ow.op=true:=by
        cases hh:dQ ow.op
        ·have:=(hκ how hnb).wr hh;rw[hk] at this;cases this
        ·rfl
       have:=h4.1 ((hb w ow how hwo).2 h3);omega
     rw[hmi2];by_cases hbl:base (L,β) t<=i
     ·exact td hbl
     ·rw[jZ (by omega),jZ (by omega)]
      cases hk:κ i with
      | none=>rfl
      | some k=>
       refine Eq.symm ?_;by_cases h:∃j o,β<=j/\ol[j]?=some o/\o.dst=some t/\L j
       ·obtain⟨j,o',h0,h1,h2,h3⟩:=h;rw[(hbase L β).1 j o' t h0 h1 h2 h3] at hbl ⊢
        have hij:j≠i:=λe=>by subst e;rw[ho] at h1;cases h1;exact hd h2
        have hnb:=hbd j o' h0 h1 h3;have:=(hκ h1 (hnb j h0 (be _))).v t h2 (i,k) (hKL (i+1) j _ (by omega) (bc (bf h1)) (λc g1 g2=>hnb c (by omega) (by omega)) (hκi.k2 k hk))
        rcases this with this | this
        ·exact t7 (hA2 j o' i h1 h3 this) hr.new
        ·exact this
       ·rw[(hbase L β).2 t λj o' h0 h1 h2 h3=>h ⟨j,o',h0,h1,h2,h3⟩] at hbl;omega
  have hκn:=hκw (by simpa using hww);have hl:=hlook (.inr hκn)
  cases hstp with
  | s _ hd hw hwr=>
   refine aG.run (l':=[]) hst ?_ (.nil (lay (v:=.a jG) hd hwr (by rw[hxj];exact top)));rw[nN,hl.1 _ rfl,hxi,hw];simp only[hd,nN]
  | r _ hd hw hrd hop=>
   rename_i v _ _;refine aG.run (l':=[]) hst ?_ (.nil (lay (v:=v) hd (xo hrd) (by rw[hxj];exact top)));rw[nN,hl.1 _ rfl,hxi,hw,tl (by rw[hrd];rfl) hl.2,hxi,hop];simp only[hd,sn,jw,nN]
  | h _ hd hw hrd hop=>
   rename_i v _ _
   have e:=hlate (by rw[hxi]) λj o' hij hj hdj hnb=>by
    have h1:=(hκ hj (hBn hj hdj)).w hdj;exact all_eq_true.1 h1 i (hH (i+1) j i hij (bc (bf hj)) (λc g1 g2=>hnb c (by omega) g2) (by rw[hxj];exact ca))
   rw[hxi] at e;refine aG.run (l':=[]) hst ?_ (.nil (lay (v:=v) hd (xo hrd) (by rw[hxj];exact top)));rw[nN,hl.1 _ rfl,hxi,hw,tl (by rw[hrd];rfl) hl.2,hxi,e,hop];simp only[hd,sn,jw,nN]
  | k _ hop hd hw hdy he hcs hq hwk hfl=>
   have hkw:dQ o.op=false:=by rw[hop];exact O2 hdy
   have e:=hlate (by rw[hxi]) λj o' hij hj hdj _=>hord ho hj hij (by rw[hop,hdy,dl]) (by rw[hdj];rfl);rw[hxi] at e;refine aG.k hst hop hd (by rw[hl.1 _ rfl,hxi];exact hw) hdy (by rw[Gi (by rw[<-hop];exact hl.2),hxi];exact hcs) hq (by rw[e];exact hwk) (.inl hfl) (.nil (lay hd hkw (by rw[hxj];exact top)))
  | sk _ _ _ hwr=>exact t7 hwr hww
  | e _ _ hwr=>exact t7 hwr hww
  | a _ _ hwr=>exact t7 hwr hww
  | SK h1 h2 h3=>exact t7 ((hB0 i).2 ⟨o,ho,by rw[hxi,hxj];exact⟨h1,h2,h3,rfl⟩⟩) hBi
 ·rintro L x ⟨hxn,hc,β,m,hβm,hml,hβ,hβ0,hβB,hm,hx⟩ hall;have hnb:∀c,β<=c->¬B c:=λc h1 hb=>(hβB c h1 hb).1 (hall c (hBl hb))
  have hSe:(X m).S=z.S:=by
   rw[<-hXN];exact(hS m ol.length hml (ba _) (λc h1 _=>hnb c (by omega)) λj o h1 h2 hj=>Mx λe=>by have:=(hm j o hj e).1 (hall j h2);omega).symm
  rw[hSe] at hx;refine⟨⟨z.f,n,z.S,ds⟩,hx.trans (Fg.tmps λt=>.inl ?_),hz⟩
  have hκm:∀b v,dY κ b m v=dY κ b ol.length v:=λb v=>(pe hml λw _ h2 h3=>by
   cases hk:κ w with
   | none=>rfl
   | some k=>
    exfalso;obtain⟨ow,how⟩:=hat h3
    have hnw:¬B w:=λhb=>by rw[(hκ0 w).1 hb] at hk;cases hk
    have hww:dQ ow.op=true:=by
     cases hh:dQ ow.op
     ·have:=(hκ how hnw).wr hh;rw[hk] at this;cases this
     ·rfl
    have:=(hm w ow how hww).1 (hall w h3)
    omega).symm
  rw[hfr,hg,hκm,<-hXN];by_cases hno:∃j o,β<=j/\ol[j]?=some o/\o.dst=some t
  ·obtain⟨k,o',h0,hk,hd'⟩:=hno;rw[(hbase L β).1 k o' t h0 hk hd' (hall k (bf hk))]
   exact hF (k+1) ol.length t (bf hk) (ba _) (λc h1 _=>hnb c (by omega)) λj b h1 _ hj e=>by have:=hu hj hk e hd';omega
  ·rw[(hbase L β).2 t λj o' h0 hj hd=>t7 ⟨j,o',h0,hj,hd⟩ hno];exact hF β ol.length t (by omega) (ba _) (λc h1 _=>hnb c h1) λj o' h0 _ hj hd=>hno ⟨j,o',h0,hj,hd⟩
def SD(P:Program)(ro:Option Nat)(all:List Oper)(ms:List Nat)(n:Nat)(b:Bool)(hp:List Nat)(l:List (Nat×Oper))(f:Fm)(S:List SO)(K:Fm->List SO->Prop):Prop:=∀f0,ku P ro all ms n f0 [] b hp l f S K
def To{op:Op}(h:uj op=true):dQ op=true:=by unfold dQ;rw[h];rfl
section
variable {all:List Oper} {ms:List Nat} {n:Nat} {b:Bool} {hp:List Nat} {l:List (Nat×Oper)} {f:Fm} {S:List SO} {K:Fm->List SO->Prop} {i:Nat} {o:Oper} {d:Nat}
def SD.nil(h:K f S):SD P ro all ms n b hp [] f S K:=λ_=>.nil h
theorem SD.s(hst:dJ all n [o]=true)(hdst:o.dst=some d)(hw:cg all f o.guard=some false)(hwr:dQ o.op=false)(q:SD P ro all ms n b hp l ((d,.a jG)::f) S K):SD P ro all ms n b hp ((i,o)::l) f S K:=λf0=>.s hst hdst hw hwr (q f0)
theorem SD.r{v:SV}{S':List SO}{kill:Option Nat}(hst:dJ all n [o]=true)(hdst:o.dst=some d)(hw:cg all f o.guard=some true)(hrr:(kF o.op&&(b||!JC o.op))=true)(hop:cT P f S o.op=some (v,S',kill))
 (hk:SD P ro all ms n b (_root_.cond (JC o.op) (i::hp) hp) l ((d,v)::f) S K):SD P ro all ms n b hp ((i,o)::l) f S K:=λf0=>.r hst hdst hw hrr hop (hk f0) trivial
def SD.ri{tt:TypeId}{x:Operand}{cs0:List SV}{v:SV}(hst:dJ all n [o]=true)(hdst:o.dst=some d)(hw:cg all f o.guard=some true)(hop:o.op=.load tt x)(hx:eI f x=some (.ip cs0))(hv:sG P tt cs0 0=some v)
 (q:SD P ro all ms n b hp l ((d,v)::f) S K):SD P ro all ms n b hp ((i,o)::l) f S K:=λf0=>.ri hst hdst hw hop hx hv trivial (q f0)
theorem SD.k{cl:Call}{g:FuncId}{vs ws:List SV}{r:SV}(hst:dJ all n [o]=true)(hop:o.op=.call cl)(hdst:o.dst=some d)(hw:cg all f o.guard=some true)(hdy:gf (.call cl)=true)(he:xg (.call cl)=true)
 (hc:gM P f cl=some (g,vs)) (hq:PC P g ws (·=r)) (hwk:bl S vs ws) (hr:w6 r=true) (q:SD P ro all ms n true hp l ((d,r)::f) S K):SD P ro all ms n true hp ((i,o)::l) f S K:=λf0=>.k hst hop hdst hw hdy he hc hq hwk hr (q f0)
theorem SD.e{v:SV}{S':List SO}(hst:dJ all n [o]=true)(hdst:o.dst=none)(hw:cg all f o.guard=some true)(he:xg o.op=true)(hwr:uj o.op=true)(hms:hp.all (λj=>bR (ms.getD i 0) j)=true)(hop:cT P f S o.op=some (v,S',none))
 (q:SD P ro all ms n false hp l f S' K):SD P ro all ms n b hp ((i,o)::l) f S K:=λf0=>.e hst hw (To hwr) hms hop trivial (by rw[hdst];exact q f0)
def SD.ed{v:SV}{S':List SO}(hst:dJ all n [o]=true)(hdst:o.dst=some d)(hw:cg all f o.guard=some true)(he:xg o.op=true)(hwr:uj o.op=true)(hms:hp.all (λj=>bR (ms.getD i 0) j)=true)(hop:cT P f S o.op=some (v,S',none))
 (q:SD P ro all ms n false hp l ((d,v)::f) S' K):SD P ro all ms n b hp ((i,o)::l) f S K:=λf0=>.e hst hw (To hwr) hms hop trivial (by rw[hdst];exact q f0)
end
def aq.O0{id:Nat}{ops:Array Oper}{st:ez}{Q:Ex->ez->Prop}{ol:List Oper}{ms:List Nat}(hol:ops.toList=ol)(hms:og ol []=ms)(hok:((kP 0 ol&&P.follows .mixedOrders)&&(AP ol ms (cO 0 ol)&&Jh ms (cO 0 ol)))=true)
 (h:SD P ro ol ms st.n true [] (cO 0 ol) st.f st.S λf' S'=>Q .normal ⟨f',st.n,S',st.ds⟩):aq P ro (.region id ops true) st Q:=.O1 hol hms hok (h _)
end
end
end Go.Ev
namespace Go.Proofs
open Go.Ev
set_option maxRecDepth 100000
def dE:tH prog:=RT (by kernel_rfl)
def IN:Bz prog 151 .clone:=Bz.clone λt r es ck w h=>by
 rw[run_callFunc_extern Tryz.func151 (by kernel_rfl) (by kernel_rfl) (by kernel_rfl) (e:=Extern.MapsClone.clone) (by kernel_rfl)]
 have e:∃s:String,Extern.MapsClone.clone #[.iface t (.map (some r))]=(getObj r>>=λo=>match o with
  | .map entries clock=>(newObj (.map entries clock)>>=λn=>pure (.iface t (.map (some n))))
  | _=>stuck s):=⟨_,rfl⟩
 obtain⟨s,e⟩:=e;rw[e];simp[MapKept.run_getObj_map h,Result.andThen,go_sem]
def IP:Bz prog 217 .indexByte:=Bz.indexByte λx c w=>by
 rw[run_callFunc_extern Tryz.func217 (by kernel_rfl) (by kernel_rfl) (by kernel_rfl) (e:=Extern.BytealgIndexByte.indexByte) (by kernel_rfl),Lib.run_indexByteString];rfl
def n2{a b:Prop}(x:a)(y:b):a/\b:=⟨x,y⟩
def n3{a b c:Prop}(x:a)(y:b)(z:c):a/\b/\c:=⟨x,y,z⟩
def n4{a b c d:Prop}(x:a)(y:b)(z:c)(w:d):a/\b/\c/\d:=⟨x,y,z,w⟩
def n5{a b c d e:Prop}(x:a)(y:b)(z:c)(w:d)(u:e):a/\b/\c/\d/\e:=⟨x,y,z,w,u⟩
def n6{a b c d e f:Prop}(x:a)(y:b)(z:c)(w:d)(u:e)(v:f):a/\b/\c/\d/\e/\f:=⟨x,y,z,w,u,v⟩
def n7{a b c d e f g:Prop}(a1:a)(b1:b)(c1:c)(d1:d)(e1:e)(f1:f)(g1:g):a/\b/\c/\d/\e/\f/\g:=⟨a1,b1,c1,d1,e1,f1,g1⟩
def n8{a b c d e f g h:Prop}(a1:a)(b1:b)(c1:c)(d1:d)(e1:e)(f1:f)(g1:g)(h1:h):a/\b/\c/\d/\e/\f/\g/\h:=⟨a1,b1,c1,d1,e1,f1,g1,h1⟩
def n9{a b c d e f g h i:Prop}(a1:a)(b1:b)(c1:c)(d1:d)(e1:e)(f1:f)(g1:g)(h1:h)(i1:i):a/\b/\c/\d/\e/\f/\g/\h/\i:=⟨a1,b1,c1,d1,e1,f1,g1,h1,i1⟩
def n10{a b c d e f g h i j:Prop}(a1:a)(b1:b)(c1:c)(d1:d)(e1:e)(f1:f)(g1:g)(h1:h)(i1:i)(j1:j):a/\b/\c/\d/\e/\f/\g/\h/\i/\j:=⟨a1,b1,c1,d1,e1,f1,g1,h1,i1,j1⟩
def UU:bY 1 SO.gone=[.gone]:=rfl
def UW:bY 2 SO.gone=[.gone,.gone]:=rfl
def UX:bY 3 SO.gone=[.gone,.gone,.gone]:=rfl
def UY:bY 4 SO.gone=[.gone,.gone,.gone,.gone]:=rfl
def rh:type_of% UU/\type_of% UW/\type_of% UX/\type_of% UY:=⟨UU,UW,UX,UY⟩
def zV{p q:Prop}(h:p->q:=by intro h;(repeat refine aq.seq ?_);refine aq.r0 (by rfl) (by simp only[bI,bj,ah,an,Option.bind_some,Option.map_some,↓reduceIte,Nat.reduceEqDiff,Nat.reduceAdd,Nat.reduceMul,Nat.reduceLeDiff,Nat.reduceLT,ae,ai,aN];first | done | rfl) ?_;(try change aq _ _ _ _ _);exact h)(k:p):q:=h k
def az{p q r:Prop}(f:r)(h:r->p->q:=by intro f h;(repeat refine aq.seq ?_);refine aq.r0 (by rfl) (by simp only[bI,bj,ah,an,Option.bind_some,Option.map_some,↓reduceIte,Nat.reduceEqDiff,Nat.reduceAdd,Nat.reduceMul,Nat.reduceLeDiff,Nat.reduceLT,ae,ai,aN,f];first | done | rfl) ?_;(try change aq _ _ _ _ _);exact h)(k:p):q:=h f k
def zC{p q:Prop}(h:p->q:=by intro h;(repeat refine aq.seq ?_);refine aq.Se (by rfl) (by simp only[bI,bj,ah,an,Option.bind_some,Option.map_some,↓reduceIte,Nat.reduceEqDiff,Nat.reduceAdd,Nat.reduceMul,Nat.reduceLeDiff,Nat.reduceLT,ae,ai,aN];first | done | rfl) ?_;exact h)(k:p):q:=h k
def iC{p q r:Prop}(f:r)(h:r->p->q:=by intro f h;(repeat refine aq.seq ?_);refine aq.Se (by rfl) (by simp only[bI,bj,ah,an,Option.bind_some,Option.map_some,↓reduceIte,Nat.reduceEqDiff,Nat.reduceAdd,Nat.reduceMul,Nat.reduceLeDiff,Nat.reduceLT,ae,ai,aN,f];first | done | rfl) ?_;exact h)(k:p):q:=h f k
def zR{p q:Prop}(h:p->q:=by intro h;refine aG.r0 (by rfl) (by simp only[bI,bj,ah,an,Option.bind_some,Option.map_some,↓reduceIte,Nat.reduceEqDiff,Nat.reduceAdd,Nat.reduceMul,Nat.reduceLeDiff,Nat.reduceLT,ae,ai,aN];first | done | rfl) ?_;(try change aq _ _ _ _ _);exact h)(k:p):q:=h k
def cK{p q r:Prop}(f:r)(h:r->p->q:=by intro f h;refine aG.r0 (by rfl) (by simp only[bI,bj,ah,an,Option.bind_some,Option.map_some,↓reduceIte,Nat.reduceEqDiff,Nat.reduceAdd,Nat.reduceMul,Nat.reduceLeDiff,Nat.reduceLT,ae,ai,aN,f];first | done | rfl) ?_;(try change aq _ _ _ _ _);exact h)(k:p):q:=h f k
def zQ{p q:Prop}(h:p->q:=by intro h;refine aG.run (by rfl) (by simp only[bI,bj,ah,an,Option.bind_some,Option.map_some,↓reduceIte,Nat.reduceEqDiff,Nat.reduceAdd,Nat.reduceMul,Nat.reduceLeDiff,Nat.reduceLT,ae,ai,aN];first | done | rfl) ?_;exact h)(k:p):q:=h k
def Sy{p q r:Prop}(f:r)(h:r->p->q:=by intro f h;refine aG.run (by rfl) (by simp only[bI,bj,ah,an,Option.bind_some,Option.map_some,↓reduceIte,Nat.reduceEqDiff,Nat.reduceAdd,Nat.reduceMul,Nat.reduceLeDiff,Nat.reduceLT,ae,ai,aN,f];first | done | rfl) ?_;exact h)(k:p):q:=h f k
def zY{p q:Prop}(h:p->q:=by intro h;(repeat refine aq.seq ?_);refine aq.yes rfl ?_;(try (refine aq.skip ?_;try change aq _ _ _ _ _));exact h)(k:p):q:=h k
def zN{p q:Prop}(h:p->q:=by intro h;(repeat refine aq.seq ?_);refine aq.no rfl ?_;(try (refine aq.skip ?_;try change aq _ _ _ _ _));exact h)(k:p):q:=h k
def zE{p q:Prop}(h:p->q:=by intro h;refine aq.ret ?_;(try simp only[fG,dH,cB,bX]);exact h)(k:p):q:=h k
def zB{p q:Prop}(h:p->q:=by intro h;(repeat refine aq.seq ?_);refine aq.block ?_;exact h)(k:p):q:=h k
section
variable {P:Program} {ro:Option Nat} {f:Fm} {n:Nat} {S:List SO} {ds:List ja} {Q:Ex->ez->Prop}
def zK{all:List Oper}{o:Oper}{l:List Oper}{K:ez->Prop}{d:Nat}{c:Call}{g:FuncId}{vs ws:List SV}{r:SV}(hq:PC P g ws (·=r))
 (hst:dJ all n [o]=true:=by rfl) (hop:o.op=.call c:=by rfl) (hdst:o.dst=some d:=by rfl) (hw:cg all f o.guard=some true:=by rfl) (hdy:gf (.call c)=true:=by rfl)
 (hc:gM P f c=some (g,vs):=by simp only[bI,bj,ah,an,Option.bind_some,Option.map_some,↓reduceIte,Nat.reduceEqDiff,Nat.reduceAdd,Nat.reduceMul,Nat.reduceLeDiff,Nat.reduceLT,ae,ai,aN,gM];first | done | rfl) (hwk:bl S vs ws:=by first | exact bl.refl rfl | ((repeat' (first | exact bl.nil | apply bl.cons | exact Wk.refl rfl | exact Wk.nil _ | apply Wk.ag | apply Wk.bC | apply Wk.fn | refine Wk.ptr rfl ?_ (by first | decide | (simp only[bj];omega)) | refine Wk.buf rfl ?_ (by first | decide | (simp only[bj];omega)) | refine Wk.map rfl ?_ | exact bl.refl rfl));done)) (hfl:w6 r=true\/bl [] vs ws:=by exact .inl rfl) (hk:aG P ro all l ⟨(d,r)::f,n,S,ds⟩ K):aG P ro all (o::l) ⟨f,n,S,ds⟩ K:=
 aG.k hst hop hdst hw hdy hc hq hwk hfl hk
def zO{fn:Func}{Qr:SV->Prop}{e:Ex}{vs:List SV}{r:SV}(rs:List ResultVar)(he:kQ e=true:=by rfl)(hr:fn.results.toList=rs:=by rfl)(h:nk P f S rs=some vs:=by simp only[bI,bj,ah,an,Option.bind_some,Option.map_some,↓reduceIte,Nat.reduceEqDiff,Nat.reduceAdd,Nat.reduceMul,Nat.reduceLeDiff,Nat.reduceLT,ae,ai,aN];first | done | rfl)(hw:Wk S (df vs) r:=by exact Wk.refl rfl)(hq:Qr r:=by (try simp only[df,aX]);first | done | rfl):sP P fn Qr e ⟨f,n,S,[]⟩:=sP.of he hr h hw hq
def zH{f':Fm}{S':List SO}(hf:si f f':=by (simp only[bI,bj,dI,ah,↓reduceIte,Nat.reduceEqDiff])<;>(repeat' apply And.intro)<;>first | rfl | trivial)(hs:yP S S' 0:=by (simp only[bI,bj,ah,or_true,true_or])<;>(repeat' apply And.intro)<;>first | exact .inr rfl | exact .inl rfl | trivial):Fg ⟨f,n,S,ds⟩ ⟨f',n,S',ds⟩:=Fg.less hf hs
def bK{r:Prop}{f':Fm}{S':List SO}(k:r)(hf:r->si f f':=by intro k;(simp only[bI,bj,dI,ah,↓reduceIte,Nat.reduceEqDiff,k])<;>(repeat' apply And.intro)<;>first | rfl | trivial)(hs:r->yP S S' 0:=by intro k;(simp only[bI,bj,ah,or_true,true_or,k])<;>(repeat' apply And.intro)<;>first | exact .inr rfl | exact .inl rfl | trivial):Fg ⟨f,n,S,ds⟩ ⟨f',n,S',ds⟩:=Fg.less (hf k) (hs k)
def zG{p:Prop}(h:p:=by (simp only[DT,bI,bj,true_or,or_true,↓reduceIte,Nat.reduceEqDiff])<;>(repeat' apply And.intro)<;>first | exact .inl rfl | trivial | exact .inr (Wk.buf rfl (bl.refl rfl) (by first | decide | (simp only[bj];omega))) | exact .inr (Wk.map rfl (bl.refl rfl)) | exact .inr (Wk.ptr rfl (bl.refl rfl) (by first | decide | (simp only[bj];omega)))):p:=h
def sh{r p:Prop}(k:r)(h:r->p:=by intro k;((simp only[DT,bI,bj,true_or,or_true,↓reduceIte,Nat.reduceEqDiff,k])<;>(repeat' apply And.intro)<;>first | exact .inl rfl | trivial | exact .inr (Wk.buf rfl (bl.refl rfl) (by first | decide | (simp only[bj];omega))) | exact .inr (Wk.map rfl (bl.refl rfl)) | exact .inr (Wk.ptr rfl (bl.refl rfl) (by first | decide | (simp only[bj];omega))))):p:=h k
def zs{p q:Prop}(h:p->q:=by intro h;(repeat refine aq.seq ?_);exact h)(k:p):q:=h k
def zL{α:Type}(l:List α)(I:Nat->Prop)(fr:Nat->Fm)(T:Nat->List SO){id:Nat}{x:Code}(hf:Fg ⟨f,n,S,[]⟩ ⟨fr 0,n,T 0,[]⟩)(h0:I 0)
 (h:∀k,k<=l.length->I k->aq P ro x ⟨fr k,n,T k,[]⟩ (cB (λm st=>∃k,k<=l.length/\m=l.length-k/\I k/\st=⟨fr k,n,T k,[]⟩) (l.length-k) (fG id Q))):aq P ro (.block id (.loop x)) ⟨f,n,S,[]⟩ Q:=
 aq.block (aq.loop (λm st=>∃k,k<=l.length/\m=l.length-k/\I k/\st=⟨fr k,n,T k,[]⟩) l.length hf ⟨0,cd _,rfl,h0,rfl⟩ (by rintro m st ⟨k,_,_,_,rfl⟩;rfl) (by rintro m st ⟨k,hk,rfl,hI,rfl⟩;exact h k hk hI))
def zX{α:Type}{l:List α}{I:Nat->Prop}{fr:Nat->Fm}{T:Nat->List SO}{k:Nat}{st:ez}(hlt:k<l.length)(hf:Fg st ⟨fr (k+1),n,T (k+1),[]⟩)(hI:I (k+1)):
 cB (λm st=>∃k,k<=l.length/\m=l.length-k/\I k/\st=⟨fr k,n,T k,[]⟩) (l.length-k) Q .normal st:=⟨l.length-(k+1),_,by omega,hf,k+1,hlt,rfl,hI,rfl⟩
def zi{k L B:Nat}(h1:k<L)(h2:L<=B)(t:TypeId)(hB:B<=9223372036854775807:=by decide):cS Tryz.prog .add t (.int .i64 (k:Int)) (.int .i64 1)=some (.int .i64 ((k:Int)+1)):=rJ (oH h1 h2 hB)
def zf(n:Nat):decide ((n:Int)<(n:Int))=false:=by simp
def zt{k n:Nat}(h:k<n):decide ((k:Int)<(n:Int))=true:=by simp only[wp];omega
def zx{α:Type}{l:List α}{k:Nat}(h:k<l.length):∃z,l[k]?=some z:=⟨l[k],ay h⟩
def zS{r:Prop}{all:List Oper}{o:Oper}{l:List Oper}{K:ez->Prop}{d:Nat}{c:Call}{g:FuncId}{vs ws:List SV}{mv:List Nat}{S0 S1 S2:List SO}{r0 r2:SV}{f2:Fm}(os:List Nat)(k:r)(hq:SC P g ws S0 mv (λr S'=>r=r0/\S'=S1))
 (hk:aG P ro all l ⟨(d,r2)::f2,n,S2,ds⟩ K) (hst:dJ all n [o]=true:=by rfl) (hop:o.op=.call c:=by rfl) (hdst:o.dst=some d:=by rfl) (hw:cg all f o.guard=some true:=by rfl) (hdy:gf (.call c)=true:=by rfl)
 (hc:gM P f c=some (g,vs):=by simp only[bI,bj,ah,an,Option.bind_some,Option.map_some,↓reduceIte,Nat.reduceEqDiff,Nat.reduceAdd,Nat.reduceMul,Nat.reduceLeDiff,Nat.reduceLT,ae,ai,aN,gM];first | done | rfl) (hvs:r->lr (jH os S.length) ws=vs:=by intro k;simp only[eM,bj,ah,↓reduceIte,Nat.reduceEqDiff,Nat.reduceAdd,Nat.reduceSub,Nat.reduceMul,Nat.reduceLeDiff,Nat.reduceLT,k];first | done | rfl) (hK:os.length=S0.length:=by rfl) (hnd:os.Nodup:=by decide)
 (hos:r->vW S (jH os S.length) S0 os:=by intro k;simp only[vW,eM,bj,ah,k]<;>(repeat' apply And.intro)<;>first | trivial | rfl | (intro hh;cases hh))
 (hb1:r->dG S1.length r0=true:=by intro k;simp only[BU,eM,bj,ah,Nat.reduceAdd,Nat.reduceLT,decide_true,k];first | done | rfl) (hb2:r->vA S1.length S1=true:=by intro k;simp only[BU,eM,bj,ah,Nat.reduceAdd,Nat.reduceLT,decide_true,k];first | done | rfl)
 (hr:r->fY (jH os S.length) r0=r2:=by intro k;simp only[eM,bj,ah,↓reduceIte,Nat.reduceEqDiff,Nat.reduceAdd,Nat.reduceSub,Nat.reduceMul,Nat.reduceLeDiff,Nat.reduceLT,k];first | done | rfl) (hf:r->oL (dT os mv S.length (S1.length-os.length)) f=f2:=by intro k;simp only[eM,bj,ah,↓reduceIte,Nat.reduceEqDiff,Nat.reduceAdd,Nat.reduceSub,Nat.reduceMul,Nat.reduceLeDiff,Nat.reduceLT,k,di,dx,bO,aM,bI];first | done | rfl) (hS:r->fJ S os mv S1=S2:=by intro k;simp only[eM,bj,ah,↓reduceIte,Nat.reduceEqDiff,Nat.reduceAdd,Nat.reduceSub,Nat.reduceMul,Nat.reduceLeDiff,Nat.reduceLT,k,di,dx,bO,aM,bI];first | done | rfl):aG P ro all (o::l) ⟨f,n,S,ds⟩ K:=
 aG.sk os hst hop hdst hw hdy hc hq (hvs k) hK hnd (hos k) (hb1 k) (hb2 k) (hr k) (hf k) (hS k) hk
def zP{fn:Func}{K:Nat}{mv:List Nat}{Qs:SV->List SO->Prop}{e:Ex}{vs:List SV}(rs:List ResultVar)(he:kQ e=true:=by rfl)(hr:fn.results.toList=rs:=by rfl)(h:nk P f S rs=some vs:=by simp only[bI,bj,ah,an,Option.bind_some,Option.map_some,↓reduceIte,Nat.reduceEqDiff,Nat.reduceAdd,Nat.reduceMul,Nat.reduceLeDiff,Nat.reduceLT,ae,ai,aN];first | done | rfl)
 (hq:Qs (df vs) S:=by (try simp only[df,aX]);first | done | exact⟨rfl,rfl⟩ | exact⟨trivial,trivial⟩ | exact⟨rfl,trivial⟩ | exact⟨trivial,rfl⟩ | trivial) (hK:K<=S.length:=by first | decide | (simp only[bj];omega)) (hw:∀i,i<K->i∉mv->aO f (1000000+i)=.ptr i 0:=by intro i hi;have hi2:i<_:=hi;clear hi;simp only[List.length_cons,List.length_nil,Nat.zero_add,Nat.reduceAdd,Nat.not_lt_zero] at hi2<;>(rcases i with _ | i<;>first | (exfalso;omega) | (intro hm_;first | rfl | (exfalso;apply hm_;simp;done)) | (rcases i with _ | i<;>first | (exfalso;omega) | (intro hm_;first | rfl | (exfalso;apply hm_;simp;done)) | (rcases i with _ | i<;>first | (exfalso;omega) | (intro hm_;first | rfl | (exfalso;apply hm_;simp;done)))))):Of P fn K mv Qs e ⟨f,n,S,[]⟩:=Of.of he hr h hq hK hw
def zD{p q:Prop}(h:p->q:=by intro h;(repeat (first | refine SD.r (by rfl) rfl (by rfl) (by rfl) (by simp only[bI,bj,ah,an,Option.bind_some,Option.map_some,↓reduceIte,Nat.reduceEqDiff,Nat.reduceAdd,Nat.reduceMul,Nat.reduceLeDiff,Nat.reduceLT,ae,ai,aN];first | done | rfl) ?_ | refine SD.s (by rfl) rfl (by rfl) (by rfl) ?_ | fail));exact h)(k:p):q:=h k
def me{p q r:Prop}(f:r)(h:r->p->q:=by intro f h;(repeat (first | refine SD.r (by rfl) rfl (by rfl) (by rfl) (by simp only[bI,bj,ah,an,Option.bind_some,Option.map_some,↓reduceIte,Nat.reduceEqDiff,Nat.reduceAdd,Nat.reduceMul,Nat.reduceLeDiff,Nat.reduceLT,ae,ai,aN,f];first | done | rfl) ?_ | refine SD.s (by rfl) rfl (by rfl) (by rfl) ?_ | fail));exact h)(k:p):q:=h f k
def zM{p q:Prop}(h:p->q:=by intro h;refine SD.nil ?_;(try change aq _ _ _ _ _);exact h)(k:p):q:=h k
def zp{p:Prop}(h:p:=by first | exact λi y h=>t7 h (Nat.not_lt_zero _) | trivial | rfl | assumption):p:=h
def nQ{id:Nat}{ops:Array Oper}{st:ez}{ol:List Oper}(ms:List Nat)(h:SD P ro ol ms st.n true [] (cO 0 ol) st.f st.S λf' S'=>Q .normal ⟨f',st.n,S',st.ds⟩)(hol:ops.toList=ol:=by rfl)(hms:og ol []=ms:=by kernel_rfl)(hok:((kP 0 ol&&P.follows .mixedOrders)&&(AP ol ms (cO 0 ol)&&Jh ms (cO 0 ol)))=true:=by kernel_rfl):aq P ro (.region id ops true) st Q:=aq.O0 hol hms hok h
def zl{p:Prop}(h:p:=by simp only[bI,bj,ah,an,Option.bind_some,Option.map_some,↓reduceIte,Nat.reduceEqDiff,Nat.reduceAdd,Nat.reduceMul,Nat.reduceLeDiff,Nat.reduceLT,ae,ai,aN];first | done | rfl):p:=h
def iZ{p r:Prop}(k:r)(h:r->p:=by intro k;simp only[bI,bj,ah,an,Option.bind_some,Option.map_some,↓reduceIte,Nat.reduceEqDiff,Nat.reduceAdd,Nat.reduceMul,Nat.reduceLeDiff,Nat.reduceLT,ae,ai,aN,k];first | done | rfl):p:=h k
def zc{p:Prop}(h:p:=by simp only[bI,bj,ah,an,Option.bind_some,Option.map_some,↓reduceIte,Nat.reduceEqDiff,Nat.reduceAdd,Nat.reduceMul,Nat.reduceLeDiff,Nat.reduceLT,ae,ai,aN,gM];first | done | rfl):p:=h
def IY{p r:Prop}(k:r)(h:r->p:=by intro k;simp only[bI,bj,ah,an,Option.bind_some,Option.map_some,↓reduceIte,Nat.reduceEqDiff,Nat.reduceAdd,Nat.reduceMul,Nat.reduceLeDiff,Nat.reduceLT,ae,ai,aN,gM,k];first | done | rfl):p:=h k
def zw{p:Prop}(h:p:=by first | exact bl.refl rfl | ((repeat' (first | exact bl.nil | apply bl.cons | exact Wk.refl rfl | exact Wk.nil _ | apply Wk.ag | apply Wk.bC | apply Wk.fn | refine Wk.ptr rfl ?_ (by first | decide | (simp only[bj];omega)) | refine Wk.buf rfl ?_ (by first | decide | (simp only[bj];omega)) | refine Wk.map rfl ?_ | exact bl.refl rfl));done)):p:=h
def zv{p:Prop}(h:p:=by (try simp only[df,aX]);(repeat' (first | exact Wk.refl rfl | exact bl.nil | apply bl.cons | exact Wk.nil _ | apply Wk.ag | apply Wk.bC | refine Wk.ptr rfl ?_ (by first | decide | (simp only[bj];omega)) | refine Wk.buf rfl ?_ (by first | decide | (simp only[bj];omega)) | refine Wk.map rfl ?_ | exact bl.refl rfl))):p:=h
def Ut{p:Prop}(h:p:=by (simp only[bI,bj,dI,ah,↓reduceIte,Nat.reduceEqDiff])<;>(repeat' apply And.intro)<;>first | rfl | trivial):p:=h
def Ue{p r:Prop}(k:r)(h:r->p:=by intro k;(simp only[bI,bj,dI,ah,↓reduceIte,Nat.reduceEqDiff,k])<;>(repeat' apply And.intro)<;>first | rfl | trivial):p:=h k
def V9{p:Prop}(h:p:=by (simp only[bI,bj,ah,or_true,true_or])<;>(repeat' apply And.intro)<;>first | exact .inr rfl | exact .inl rfl | trivial):p:=h
def Uf{p r:Prop}(k:r)(h:r->p:=by intro k;(simp only[bI,bj,ah,or_true,true_or,k])<;>(repeat' apply And.intro)<;>first | exact .inr rfl | exact .inl rfl | trivial):p:=h k
def zq{p:Prop}(h:p:=by (try simp only[df,aX]);first | done | rfl):p:=h
def WW{p:Prop}(h:p:=by (try simp only[df,aX]);first | done | exact⟨rfl,rfl⟩ | exact⟨trivial,rfl⟩ | exact⟨rfl,trivial⟩ | exact⟨trivial,trivial⟩):p:=h
def zg{p:Prop}(h:p:=by intro i hi;have hi2:i<_:=hi;clear hi;simp only[List.length_cons,List.length_nil,Nat.zero_add,Nat.reduceAdd,Nat.not_lt_zero] at hi2<;>(rcases i with _ | i<;>first | (exfalso;omega) | (intro hm_;first | rfl | (exfalso;apply hm_;simp;done)) | (rcases i with _ | i<;>first | (exfalso;omega) | (intro hm_;first | rfl | (exfalso;apply hm_;simp;done)) | (rcases i with _ | i<;>first | (exfalso;omega) | (intro hm_;first | rfl | (exfalso;apply hm_;simp;done)))))):p:=h
def Xa{p:Prop}(h:p:=by simp only[eM,bj,ah,↓reduceIte,Nat.reduceEqDiff,Nat.reduceAdd,Nat.reduceSub,Nat.reduceMul,Nat.reduceLeDiff,Nat.reduceLT];first | done | rfl):p:=h
def WU{p r:Prop}(k:r)(h:r->p:=by intro k;simp only[eM,bj,ah,↓reduceIte,Nat.reduceEqDiff,Nat.reduceAdd,Nat.reduceSub,Nat.reduceMul,Nat.reduceLeDiff,Nat.reduceLT,k];first | done | rfl):p:=h k
def Xb{p:Prop}(h:p:=by simp only[eM,bj,ah,↓reduceIte,Nat.reduceEqDiff,Nat.reduceAdd,Nat.reduceSub,Nat.reduceMul,Nat.reduceLeDiff,Nat.reduceLT,di,dx,bO,aM,bI];first | done | rfl):p:=h
def WV{p r:Prop}(k:r)(h:r->p:=by intro k;simp only[eM,bj,ah,↓reduceIte,Nat.reduceEqDiff,Nat.reduceAdd,Nat.reduceSub,Nat.reduceMul,Nat.reduceLeDiff,Nat.reduceLT,k,di,dx,bO,aM,bI];first | done | rfl):p:=h k
def W9{p:Prop}(h:p:=by simp only[vW,eM,bj,ah]<;>(repeat' apply And.intro)<;>first | trivial | rfl | (intro hh;cases hh)):p:=h
def WT{p r:Prop}(k:r)(h:r->p:=by intro k;simp only[vW,eM,bj,ah,k]<;>(repeat' apply And.intro)<;>first | trivial | rfl | (intro hh;cases hh)):p:=h k
def W8{p:Prop}(h:p:=by simp only[BU,eM,bj,ah,Nat.reduceAdd,Nat.reduceLT,decide_true];first | done | rfl):p:=h
def WS{p r:Prop}(k:r)(h:r->p:=by intro k;simp only[BU,eM,bj,ah,Nat.reduceAdd,Nat.reduceLT,decide_true,k];first | done | rfl):p:=h k
def zd{p:Prop}(h:p:=by first | decide | (simp only[bj];omega)):p:=h
def q7(k:Nat):(k:Int)+1=((k+1:Nat):Int):=rfl
def bA(a b:Int)(h : -9223372036854775808<=a+b/\a+b<=9223372036854775807)(P:Program)(t:TypeId):cS P .add t (.int .i64 a) (.int .i64 b)=some (.int .i64 (a+b)):=rJ h
def bS(a b:Int)(h : -9223372036854775808<=a-b/\a-b<=9223372036854775807)(P:Program)(t:TypeId):cS P .sub t (.int .i64 a) (.int .i64 b)=some (.int .i64 (a-b)):=yp h
def bM(a b:Int)(h : -9223372036854775808<=a*b/\a*b<=9223372036854775807)(P:Program)(t:TypeId):cS P .mul t (.int .i64 a) (.int .i64 b)=some (.int .i64 (a*b)):=yo h
def WX{p:Prop}(h:p:=by (simp only[qU,eM,bj,ah])<;>(repeat' apply And.intro)<;>first | trivial | exact .inl rfl | exact .inr rfl | exact .inr trivial | exact .inl trivial):p:=h
def I0{p r:Prop}(k:r)(h:r->p:=by intro k;(simp only[qU,eM,bj,ah,k])<;>(repeat' apply And.intro)<;>first | trivial | exact .inl rfl | exact .inr rfl | exact .inr trivial | exact .inl trivial):p:=h k
def WY{p:Prop}(h:p:=by (simp only[bI,eM,bj,ah])<;>(repeat' apply And.intro)<;>first | rfl | trivial):p:=h
def I1{p r:Prop}(k:r)(h:r->p:=by intro k;(simp only[bI,eM,bj,ah,k])<;>(repeat' apply And.intro)<;>first | rfl | trivial):p:=h k
def pB(n:Nat){g:FuncId}{fn:Func}{c:Code}{args:List SV}{Q:SV->Prop}(hf:Tryz.prog.funcs[g]?=some fn)(hw:aq Tryz.prog none c ⟨kC 0 args,n,[],[]⟩ (sP Tryz.prog fn Q))(hb:fn.body=some c:=by rfl)(hn:args.length+(fn.ntmps-args.length)=n:=by rfl)(hlim:n<=1000000:=by exact Nat.le_of_ble_eq_true rfl):PC Tryz.prog g args Q:=PC.body dE hf hb hn hw hlim
section
variable (n:Nat) {g:FuncId} {fn:Func} {c:Code} {args:List SV} {S0:List SO} {mv:List Nat} {Q:SV->List SO->Prop}
def Mk(hf:Tryz.prog.funcs[g]?=some fn)(hw:aq Tryz.prog none c ⟨kC 0 args++[],n,S0,[]⟩ (Of Tryz.prog fn S0.length mv Q))(hb:fn.body=some c:=by rfl)(hn:args.length+(fn.ntmps-args.length)=n:=by rfl)(hlim:n<=1000000:=by exact Nat.le_of_ble_eq_true rfl)(hW:[]=oS S0.length:=by rfl)(hK:S0.length<=1000000:=by exact Nat.le_of_ble_eq_true rfl):SC Tryz.prog g args S0 mv Q:=SC.body dE hf hb hn hlim hW hw hK
def J6(hf:Tryz.prog.funcs[g]?=some fn)(hw:aq Tryz.prog none c ⟨kC 0 args++[(1000000,.ptr 0 0)],n,S0,[]⟩ (Of Tryz.prog fn S0.length mv Q))(hb:fn.body=some c:=by rfl)(hn:args.length+(fn.ntmps-args.length)=n:=by rfl)(hlim:n<=1000000:=by exact Nat.le_of_ble_eq_true rfl)(hW:[(1000000,.ptr 0 0)]=oS S0.length:=by rfl)(hK:S0.length<=1000000:=by exact Nat.le_of_ble_eq_true rfl):SC Tryz.prog g args S0 mv Q:=SC.body dE hf hb hn hlim hW hw hK
def UZ(hf:Tryz.prog.funcs[g]?=some fn)(hw:aq Tryz.prog none c ⟨kC 0 args++[(1000000,.ptr 0 0),(1000001,.ptr 1 0)],n,S0,[]⟩ (Of Tryz.prog fn S0.length mv Q))(hb:fn.body=some c:=by rfl)(hn:args.length+(fn.ntmps-args.length)=n:=by rfl)(hlim:n<=1000000:=by exact Nat.le_of_ble_eq_true rfl)(hW:[(1000000,.ptr 0 0),(1000001,.ptr 1 0)]=oS S0.length:=by rfl)(hK:S0.length<=1000000:=by exact Nat.le_of_ble_eq_true rfl):SC Tryz.prog g args S0 mv Q:=SC.body dE hf hb hn hlim hW hw hK
def U0(hf:Tryz.prog.funcs[g]?=some fn)(hw:aq Tryz.prog none c ⟨kC 0 args++[(1000000,.ptr 0 0),(1000001,.ptr 1 0),(1000002,.ptr 2 0)],n,S0,[]⟩ (Of Tryz.prog fn S0.length mv Q))(hb:fn.body=some c:=by rfl)(hn:args.length+(fn.ntmps-args.length)=n:=by rfl)(hlim:n<=1000000:=by exact Nat.le_of_ble_eq_true rfl)(hW:[(1000000,.ptr 0 0),(1000001,.ptr 1 0),(1000002,.ptr 2 0)]=oS S0.length:=by rfl)(hK:S0.length<=1000000:=by exact Nat.le_of_ble_eq_true rfl):SC Tryz.prog g args S0 mv Q:=SC.body dE hf hb hn hlim hW hw hK
end
def cM{p q:Prop}(h:p->q:=by intro h;(repeat refine aq.seq ?_);refine aq.yes rfl ?_;(try (refine aq.skip ?_;try change aq _ _ _ _ _));(repeat refine aq.seq ?_);refine aq.r0 (by rfl) (by simp only[bI,bj,ah,an,Option.bind_some,Option.map_some,↓reduceIte,Nat.reduceEqDiff,Nat.reduceAdd,Nat.reduceMul,Nat.reduceLeDiff,Nat.reduceLT,ae,ai,aN];first | done | rfl) ?_;(try change aq _ _ _ _ _);exact h)(k:p):q:=h k
def kK{p q:Prop}(h:p->q:=by intro h;(repeat refine aq.seq ?_);refine aq.r0 (by rfl) (by simp only[bI,bj,ah,an,Option.bind_some,Option.map_some,↓reduceIte,Nat.reduceEqDiff,Nat.reduceAdd,Nat.reduceMul,Nat.reduceLeDiff,Nat.reduceLT,ae,ai,aN];first | done | rfl) ?_;(try change aq _ _ _ _ _);(repeat refine aq.seq ?_);refine aq.Se (by rfl) (by simp only[bI,bj,ah,an,Option.bind_some,Option.map_some,↓reduceIte,Nat.reduceEqDiff,Nat.reduceAdd,Nat.reduceMul,Nat.reduceLeDiff,Nat.reduceLT,ae,ai,aN];first | done | rfl) ?_;exact h)(k:p):q:=h k
def iY{p q:Prop}(h:p->q:=by intro h;(repeat refine aq.seq ?_);refine aq.no rfl ?_;(try (refine aq.skip ?_;try change aq _ _ _ _ _));(repeat refine aq.seq ?_);refine aq.r0 (by rfl) (by simp only[bI,bj,ah,an,Option.bind_some,Option.map_some,↓reduceIte,Nat.reduceEqDiff,Nat.reduceAdd,Nat.reduceMul,Nat.reduceLeDiff,Nat.reduceLT,ae,ai,aN];first | done | rfl) ?_;(try change aq _ _ _ _ _);exact h)(k:p):q:=h k
def mO{p q:Prop}(h:p->q:=by intro h;(repeat refine aq.seq ?_);refine aq.r0 (by rfl) (by simp only[bI,bj,ah,an,Option.bind_some,Option.map_some,↓reduceIte,Nat.reduceEqDiff,Nat.reduceAdd,Nat.reduceMul,Nat.reduceLeDiff,Nat.reduceLT,ae,ai,aN];first | done | rfl) ?_;(try change aq _ _ _ _ _);(repeat refine aq.seq ?_);refine aq.r0 (by rfl) (by simp only[bI,bj,ah,an,Option.bind_some,Option.map_some,↓reduceIte,Nat.reduceEqDiff,Nat.reduceAdd,Nat.reduceMul,Nat.reduceLeDiff,Nat.reduceLT,ae,ai,aN];first | done | rfl) ?_;(try change aq _ _ _ _ _);exact h)(k:p):q:=h k
def Sx{p q:Prop}(h:p->q:=by intro h;(repeat refine aq.seq ?_);refine aq.no rfl ?_;(try (refine aq.skip ?_;try change aq _ _ _ _ _));(repeat refine aq.seq ?_);refine aq.Se (by rfl) (by simp only[bI,bj,ah,an,Option.bind_some,Option.map_some,↓reduceIte,Nat.reduceEqDiff,Nat.reduceAdd,Nat.reduceMul,Nat.reduceLeDiff,Nat.reduceLT,ae,ai,aN];first | done | rfl) ?_;exact h)(k:p):q:=h k
def I4{p q:Prop}(h:p->q:=by intro h;(repeat refine aq.seq ?_);refine aq.r0 (by rfl) (by simp only[bI,bj,ah,an,Option.bind_some,Option.map_some,↓reduceIte,Nat.reduceEqDiff,Nat.reduceAdd,Nat.reduceMul,Nat.reduceLeDiff,Nat.reduceLT,ae,ai,aN];first | done | rfl) ?_;(try change aq _ _ _ _ _);(repeat refine aq.seq ?_);refine aq.no rfl ?_;(try (refine aq.skip ?_;try change aq _ _ _ _ _));exact h)(k:p):q:=h k
def xS{p q:Prop}(h:p->q:=by intro h;(repeat refine aq.seq ?_);refine aq.r0 (by rfl) (by simp only[bI,bj,ah,an,Option.bind_some,Option.map_some,↓reduceIte,Nat.reduceEqDiff,Nat.reduceAdd,Nat.reduceMul,Nat.reduceLeDiff,Nat.reduceLT,ae,ai,aN];first | done | rfl) ?_;(try change aq _ _ _ _ _);(repeat refine aq.seq ?_);refine aq.yes rfl ?_;(try (refine aq.skip ?_;try change aq _ _ _ _ _));exact h)(k:p):q:=h k
def qA{a b:Int}(h : -9223372036854775808<=a+b/\a+b<=9223372036854775807)(P:Program)(t:TypeId):cS P .add t (.int .i64 a) (.int .i64 b)=some (.int .i64 (a+b)):=rJ h
def QV{a b:Int}(h : -9223372036854775808<=a-b/\a-b<=9223372036854775807)(P:Program)(t:TypeId):cS P .sub t (.int .i64 a) (.int .i64 b)=some (.int .i64 (a-b)):=yp h
def Wu{a b:Int}(h : -9223372036854775808<=a*b/\a*b<=9223372036854775807)(P:Program)(t:TypeId):cS P .mul t (.int .i64 a) (.int .i64 b)=some (.int .i64 (a*b)):=yo h
def dR{L:Nat->Prop}{i:Nat}(h:L i)(v:SV):vo L i v=v:=dh h
def W6{L:Nat->Prop}{i:Nat}(h:¬L i)(v:SV):vo L i v=.any:=rF h
def Wn{L:Nat->Prop}{i:Nat}(h:L i)(v:SO):wo L i v=v:=lZ h
def W7{L:Nat->Prop}{i:Nat}(h:¬L i)(v:SO):wo L i v=.gone:=gz h
def I2{n k:Nat}(h:k<=n)(c:Option Nat)(q:IntKind):cV n c none (some (.int q (k:Int))) none=some (0,k,c):=by
 unfold cV pa qo;simp only[lJ,al,eZ h,d9,ae]
def DZ{n k:Nat}(h:k<=n)(c:Option Nat)(q:IntKind):cV n c (some (.int q (k:Int))) none none=some (k,n,c):=by
 unfold cV pa;simp only[lJ,al,eZ h,ae]
end
def gh{p q:Prop}(h:p->q:=by intro h;(repeat refine aq.seq ?_);refine aq.yes rfl ?_;(try (refine aq.skip ?_;try change aq _ _ _ _ _));(repeat refine aq.seq ?_);refine aq.block ?_;exact h)(k:p):q:=h k
def eN{p q:Prop}(h:p->q:=by intro h;(repeat refine aq.seq ?_);refine aq.no rfl ?_;(try (refine aq.skip ?_;try change aq _ _ _ _ _));refine aq.exit ?_;exact h)(k:p):q:=h k
def WR{α:Type}{l:List α}{k:Nat}{p0 p1:Prop}(h0:k=l.length->p0)(h1:∀x,l[k]?=some x->k<l.length->p1)(hk:k<=l.length):(decide ((k:Int)<(l.length:Int))=false/\p0)\/(decide ((k:Int)<(l.length:Int))=true/\p1):=by
 by_cases hlt:k<l.length
 ·exact .inr ⟨zt hlt,h1 _ (ay hlt) hlt⟩
 ·exact .inl ⟨un (by omega),h0 (by omega)⟩
def zT{α:Type}{p0 p1 q:Prop}(l:List α)(k:Nat)(h0:k=l.length->p0)(h1:∀x,l[k]?=some x->k<l.length->p1)(h:(k=l.length->p0)->(∀x,l[k]?=some x->k<l.length->p1)->q:=by intro h0 h1;(repeat refine aq.seq ?_);refine aq.r0 (by rfl) (by simp only[bI,bj,ah,an,Option.bind_some,Option.map_some,↓reduceIte,Nat.reduceEqDiff,Nat.reduceAdd,Nat.reduceMul,Nat.reduceLeDiff,Nat.reduceLT,ae,ai,aN];first | done | rfl) ?_;(try change aq _ _ _ _ _);rcases WR h0 h1 (by assumption) with⟨e,h⟩ | ⟨e,h⟩;(rw[e];exact h);(rw[e];exact h)):q:=h h0 h1
section
variable {P:Program} {ro:Option Nat} {f:Fm} {n:Nat} {S:List SO} {ds:List ja} {Q:Ex->ez->Prop}
def zo{fn:Func}{Qr:SV->Prop}{v r:SV}(rs:List ResultVar)(hg:sP P fn Qr .ret ⟨f,n,S,[]⟩->Q .ret ⟨f,n,S,[]⟩:=by intro h;(try simp only[fG,dH,cB,bX]);exact h)(hr:fn.results.toList=rs:=by rfl)(h:nk P f S rs=some [v]:=by simp only[bI,bj,ah,an,Option.bind_some,Option.map_some,↓reduceIte,Nat.reduceEqDiff,Nat.reduceAdd,Nat.reduceMul,Nat.reduceLeDiff,Nat.reduceLT,ae,ai,aN];first | done | rfl)(hw:Wk S v r:=by exact Wk.refl rfl)(hq:Qr r:=by rfl):aq P ro .ret ⟨f,n,S,[]⟩ Q:=aq.ret (hg (sP.of rfl hr h hw hq))
def iP{fn:Func}{Qr:SV->Prop}{v w r:SV}(rs:List ResultVar)(hg:sP P fn Qr .ret ⟨f,n,S,[]⟩->Q .ret ⟨f,n,S,[]⟩:=by intro h;(try simp only[fG,dH,cB,bX]);exact h)(hr:fn.results.toList=rs:=by rfl)(h:nk P f S rs=some [v,w]:=by simp only[bI,bj,ah,an,Option.bind_some,Option.map_some,↓reduceIte,Nat.reduceEqDiff,Nat.reduceAdd,Nat.reduceMul,Nat.reduceLeDiff,Nat.reduceLT,ae,ai,aN];first | done | rfl)(hw:Wk S (.bC [v,w]) r:=by exact Wk.refl rfl)(hq:Qr r:=by rfl):aq P ro .ret ⟨f,n,S,[]⟩ Q:=aq.ret (hg (sP.of rfl hr h hw hq))
def Oi{α β:Type}(l:List α)(I:Nat->β->Prop)(fr:Nat->β->Fm)(T:Nat->β->List SO)(b0:β){id:Nat}{x:Code}(hf:Fg ⟨f,n,S,[]⟩ ⟨fr 0 b0,n,T 0 b0,[]⟩)(h0:I 0 b0)
 (h:∀k b,k<=l.length->I k b->aq P ro x ⟨fr k b,n,T k b,[]⟩ (cB (λm st=>∃k b,k<=l.length/\m=l.length-k/\I k b/\st=⟨fr k b,n,T k b,[]⟩) (l.length-k) (fG id Q))):aq P ro (.block id (.loop x)) ⟨f,n,S,[]⟩ Q:=
 aq.block (aq.loop (λm st=>∃k b,k<=l.length/\m=l.length-k/\I k b/\st=⟨fr k b,n,T k b,[]⟩) l.length hf ⟨0,b0,cd _,rfl,h0,rfl⟩ (by rintro m st ⟨k,b,_,_,_,rfl⟩;rfl) (by rintro m st ⟨k,b,hk,rfl,hI,rfl⟩;exact h k b hk hI))
def I5{α β:Type}{l:List α}{I:Nat->β->Prop}{fr:Nat->β->Fm}{T:Nat->β->List SO}{k:Nat}{st:ez}(hlt:k<l.length)(b:β)(hf:Fg st ⟨fr (k+1) b,n,T (k+1) b,[]⟩)(hI:I (k+1) b):
 cB (λm st=>∃k b,k<=l.length/\m=l.length-k/\I k b/\st=⟨fr k b,n,T k b,[]⟩) (l.length-k) Q .normal st:=⟨l.length-(k+1),_,by omega,hf,k+1,b,hlt,rfl,hI,rfl⟩
end
def sm(b:Nat):Nat:=
 bif db b then 3 else bif ble 48 b&&ble b 57 then 4 else bif beq b 35 then 2 else bif beq b 95 then 5 else bif beq b 34 then 7 else
 bif [32,9,10].any (beq b) then 1 else bif [59,44,46,58,40,41,123,125,91,93,61,60,62,47,43,45,42].any (beq b) then 6 else 0
def Jj:List AV:=(ct 256).map λb=>AV.int .u8 (ofNat (sm b))
def OS:Jj.length=256:=by simp[Jj]
def OQ(b:Nat)(h:b<256):Jj[b]?=some (.int .u8 (sm b:Int)):=by
 unfold Jj;rw[bb,d4 h];rfl
def C3(s:List Nat)(h:cC s=true):∀(i b:Nat),s[i]?=some b->gN b=true:=by
 intro i b hi
 cases s with
 | nil=>simp at hi
 | cons a l=>
  simp only[cC,a0] at h
  cases i with
  | zero=>simp at hi;subst hi;unfold gN;rw[h.1];rfl
  | succ i=>
   rw[dk] at hi;exact all_eq_true.1 h.2.1 b (cf hi)
def He(s:List Nat)(h:∀(i b:Nat),s[i]?=some b->gN b=true)(b:Nat)(h0:s[0]?=some b):cC s=(decide (s.length<=24)&&db b):=by
 cases s with
 | nil=>simp at h0
 | cons a l=>
  simp at h0;subst h0
  have:l.all gN=true:=by
   rw[all_eq_true];intro x hx;obtain⟨i,hi⟩:=mem_iff_getElem?.1 hx;exact h (i+1) x (by rw[dk];exact hi)
  simp only[cC,this,co,length_cons]
  have e:ble l.length 23=decide (l.length+1<=24):=by
   by_cases hl:l.length<=23
   ·rw[eZ hl];simp;omega
   ·have:ble l.length 23=false:=by
     cases hb:ble l.length 23
     ·rfl
     ·exact t7 (js hb) hl
    rw[this];simp;omega
  rw[e,Bool.and_comm]
def x4(n:Int):Bool:=decide (0<=n)&&decide (n<=1000000000000)
def OT:∀b,b<256->(decide (sm b=3)=db b)/\((decide (sm b=3)||(decide (sm b=4)||decide (sm b=5)))=gN b):=by decide +kernel
def RP(s:List Nat)(b:Nat)(h0:s[0]?=some b)(h:db b=false):cC s=false:=by
 cases s with
 | nil=>rfl
 | cons a l=>simp at h0;subst h0;simp only[cC,h,bx]
def Dt{α:Type}{l:List α}{k:Nat}{x:α}(h:l[k]?=some x):l.take (k+1)=l.take k++[x]:=by
 rw[d6,h];rfl
structure Sh where
 pt:List Nat
 am:Int
 deriving DecidableEq
abbrev MI(b:Nat):SV:=.a (.int .u8 (b:Int))
def vd(b:Nat):PC prog 60 [MI b] (·=au (db b)):=by
 have e1:decide ((97:Int)<=(b:Int))=ble 97 b:=jo 97 b;have e2:decide ((b:Int)<=122)=ble b 122:=jo b 122;have e3:decide ((65:Int)<=(b:Int))=ble 65 b:=jo 65 b;have e4:decide ((b:Int)<=90)=ble b 90:=jo b 90;refine pB 17 Tryz.func60 ?_;unfold db;refine(zV) ?_;cases h1:ble 97 b<;>cases h2:ble b 122<;>cases h3:ble 65 b<;>cases h4:ble b 90
 all_goals
  rw[h1] at e1;rw[h2] at e2;rw[h3] at e3;rw[h4] at e4
  exact(az (n4 e1 e2 e3 e4))<|zo [.tmp 2]
def H5(b:Nat):PC prog 115 [MI b] (·=au (ble 48 b&&ble b 57)):=by
 have e1:decide ((48:Int)<=(b:Int))=ble 48 b:=jo 48 b;have e2:decide ((b:Int)<=57)=ble b 57:=jo b 57;refine pB 9 Tryz.func115 ?_;refine(zV) ?_;cases h1:ble 48 b<;>cases h2:ble b 57
 all_goals
  rw[h1] at e1;rw[h2] at e2
  exact(az (n2 e1 e2))<|zo [.tmp 2]
def K4(b:Nat):PC prog 59 [MI b] (·=au (gN b)):=by
 have e1:decide ((b:Int)=95)=beq b 95:=Rr b 95;refine pB 13 Tryz.func59 ?_;unfold gN
 refine(kK)<|(zK (vd b)) ?_
 cases h1:db b;rotate_left
 ·exact(zR)<|zo [.tmp 2]
 refine(zQ)<|(zK (H5 b)) ?_
 cases h2:(ble 48 b&&ble b 57);rotate_left
 ·exact(zR)<|zo [.tmp 2]
 exact(cK e1)<|zo [.tmp 2]
def gx(s:List Nat)(hs:s.length<=1000000):PC prog 25 [ab s] (·=au (cC s)):=by
 refine pB 28 Tryz.func25 ?_;refine(mO)<|(zs) ?_;refine zL s (λk=>(∀(i b:Nat),i<k->s[i]?=some b->gN b=true)) (λk=>[(0,ab s),(3,aa k)]) (λk=>[]) zH (by intro i b h;omega) ?_;intro k hk hall
 by_cases hlt:k<s.length;rotate_left
 ·obtain rfl:k=s.length:=by omega
  refine(az (show decide ((s.length:Int)<(s.length:Int))=false by simp))<|(eN) ?_
  cases hs0:s with
  | nil=>
   exact(az @length_nil.{0})<|zo [.tmp 2]
  | cons b l=>
   have h0:s[0]?=some b:=by rw[hs0];rfl
   have hn:=He s (λi b' hb'=>hall i b' (List.getElem?_eq_some_iff.1 hb').1 hb') b h0;rw[hs0] at hn
   have c2:decide ((0:Int)<((b::l).length:Int))=true:=by simp
   have h0':(b::l)[0]?=some b:=rfl;cases c3:decide (((b::l).length:Int)<=24)
   ·have e24:decide ((b::l).length<=24)=false:=by have:=wt c3;simp only[wd];omega
    exact(az (n2 c2 c3))<|zo [.tmp 2] (hq:=by rw[hn,e24];rfl)
   ·have e24:decide ((b::l).length<=24)=true:=by have:=ww c3;simp only[wp];omega
    exact(iC (n3 c2 c3 h0'))<|(zK (vd b))<|(zR)<|zo [.tmp 2] (hq:=by rw[hn,e24];rfl)
 obtain⟨b,hb⟩:∃b,s[k]?=some b:=⟨s[k],ay hlt⟩
 refine(az (show decide ((k:Int)<(s.length:Int))=true by simp only[wp];omega))<|(gh)<|(iC hb)<|(zK (K4 b)) ?_
 cases hm:gN b
 ·have hn:cC s=false:=by
   cases hc:cC s
   ·rfl
   ·rw[C3 s hc k b hb] at hm;cases hm
  exact(zR)<|(cM)<|zo [.tmp 2] (hq:=by rw[hn])
 ·refine(zR)<|(zN) ?_
  refine(az (zi hlt hs)) ?_;refine zX hlt zH (λi b' hi hb'=>by
   by_cases e:i=k
   ·subst e;rw[hb] at hb';cases hb';exact hm
   ·exact hall i b' (by omega) hb')
def N1(s:List Nat)(b:Nat)(hb:b<256):PC prog 217 [ab s,MI b] (·=aa (gk b s 0)):=
 PC.of (xs:=[.str s,.int .u8 (b:Int)]) (λh=>dy.UO IP (by
  show cond (blt b 256) (some (AV.int .i64 (gk b s 0),h)) none=_
  rw[show blt b 256=true from MF hb];rfl)) λρ avs ha=>by
  rw[eE] at ha;obtain⟨a,r,rfl,h1,ha⟩:=ha;rw[eE] at ha;obtain⟨a2,r,rfl,h2,ha⟩:=ha;rw[GS] at h1 h2;rw[gL] at ha;rw[h1,h2,ha]
def N0(s:List Nat)(b:Nat)(hb:b<256):PC prog 171 [ab s,MI b] (·=aa (gk b s 0)):=by
 refine pB 8 Tryz.func171 ?_;exact(kK)<|(zK (N1 s b hb))<|(zR)<|zo [.tmp 4]
def Dy(s:List Nat)(b:Nat)(hb:b<256):PC prog 116 [ab s,MI b] (·=aa (gk b s 0)):=by
 refine pB 8 Tryz.func116 ?_;exact(kK)<|(zK (N0 s b hb))<|(zR)<|zo [.tmp 4]
def zh(b:Nat):Nat:=bif db b then 3 else bif ble 48 b&&ble b 57 then 4 else bif decide (0<=gk b [32,9,10] 0) then 1 else bif decide (0<=gk b [59,44,46,58,40,41,123,125,91,93,61,60,62,47,43,45,42] 0) then 6 else 0
def lL(k:Nat):List SV:=(ct 256).map λi=>MI (if i<k then zh i else 0)
def Lb:List SV:=(ct 256).map λ_=>MI 0
def uM(k:Nat):(lL k).length=256:=by simp[lL]
def T0{k:Nat}(hk:k<256):(lL k).take k++(MI (zh k)::(lL k).drop (k+1))=lL (k+1):=by
 have h:(lL k).set k (MI (zh k))=lL (k+1):=by
  apply List.ext_getElem?;intro i;by_cases hik:k=i
  ·subst hik;rw[List.getElem?_set_self (by rw[uM];exact hk)];unfold lL;rw[bb,d4 hk];simp
  ·rw[List.getElem?_set_ne hik];unfold lL;rw[bb,bb]
   cases hr:(ct 256)[i]? with
   | none=>rfl
   | some j=>
    have hj:j=i:=by
     obtain⟨h1,h2⟩:=List.getElem?_eq_some_iff.1 hr;simpa using h2.symm
    subst hj;simp only[ax];by_cases h:j<k
    ·rw[t8 h,t8 (by omega)]
    ·rw[ul h,ul (by omega)]
 rw[<-h,bw,t8 (by rw[uM];exact hk)]
def TZ{k:Nat}(hk:k<256)(h:zh k=0):lL (k+1)=lL k:=by
 unfold lL;refine List.map_congr_left λi _=>?_;by_cases hik:i<k
 ·rw[t8 hik,t8 (by omega)]
 ·rw[ul hik];by_cases he:i=k
  ·subst he;rw[t8 (by omega),h]
  ·rw[ul (by omega)]
def Rn{k:Nat}(hk:k<256):mR prog 3 5 (.int .i64 (k:Int))=some (.int .u8 (k:Int)):=by
 have h1:mR prog 3 5 (.int .i64 (k:Int))=some (.int .u8 (dO .u8 (k:Int))):=by kernel_rfl
 rw[h1]
 congr 2
 have h2:(sD 0 (k:Int)&&sD (k:Int) 255)=true:=by rw[e9,e9];simp;omega
 simp only[dO,Pz,Pm,h2,ae]
def BW:PC prog 61 [] (·=.ag (Jj.map SV.a)):=by
 refine pB 50 Tryz.func61 ?_;refine(mO)<|(zV) ?_
 have hl:(ct 256).length=256:=List.length_range
 have hlen:(ct 256).length<=1000000:=by rw[hl];decide
 refine aq.fg (st':=⟨[(0,.ptr 0 0),(1,.ptr 1 0),(4,aa 0)],50,[.cells Lb,.cells (lL 0)],[]⟩) (by exact zH) ?_
 (try change aq _ _ _ _ _)
 refine(zs) ?_;refine zL (ct 256) (λk=>True) (λk=>[(0,.ptr 0 0),(1,.ptr 1 0),(4,aa k)]) (λk=>[.cells Lb,.cells (lL k)]) zH zp ?_;intro k hk hall;by_cases hlt:k<(ct 256).length
 ·have hk6:k<256:=by rw[<-hl];exact hlt
  have hk7:k+1<=256:=hk6;have e1:decide ((97:Int)<=(k:Int))=ble 97 k:=jo 97 k;have e2:decide ((k:Int)<=122)=ble k 122:=jo k 122;have e3:decide ((65:Int)<=(k:Int))=ble 65 k:=jo 65 k;have e4:decide ((k:Int)<=90)=ble k 90:=jo k 90;have e5:decide ((48:Int)<=(k:Int))=ble 48 k:=jo 48 k;have e6:decide ((k:Int)<=57)=ble k 57:=jo k 57;have hset:=T0 hk6;have hrl:=uM k
  refine(az (show decide ((k:Int)<256)=true by simp only[wp];omega))<|(gh)<|(zV)<|(az (Rn hk6))<|(zB) ?_;refine aq.seq ?_;refine aq.mono (Q:=λex st=>ex=.normal/\Fg st ⟨[(0,.ptr 0 0),(1,.ptr 1 0),(2,aa k),(3,MI k),(4,aa k),(9,au (db k))],50,[.cells Lb,.cells (lL k)],[]⟩) ?_ ?_
  ·unfold db;cases h1:ble 97 k<;>cases h2:ble k 122<;>cases h3:ble 65 k<;>cases h4:ble k 90
   all_goals
    rw[h1] at e1;rw[h2] at e2;rw[h3] at e3;rw[h4] at e4;refine(az (n2 e1 e2)) ?_
    first
     | (
      refine(zN) ?_
      refine(az (n2 e3 e4)) ?_;exact⟨rfl,zH⟩)
     | (
      refine(zY) ?_
      exact⟨rfl,zH⟩)
  rintro ex st ⟨rfl,hf⟩;refine aq.fg hf ?_;clear hf
  (try change aq _ _ _ _ _)
  cases hL:db k;rotate_left
  ·have hc:zh k=3:=by unfold zh;rw[hL];rfl
   rw[hc] at hset;change (lL k).take k++(SV.a (.int .u8 3)::(lL k).drop (k+1))=_ at hset
   refine(zY)<|(az (n5 hk6 hk7 hrl @ch hset))<|(az (zi hlt hlen)) ?_;refine zX hlt zH trivial
  have c0:zh k=bif ble 48 k&&ble k 57 then 4 else bif decide (0<=gk k [32,9,10] 0) then 1 else bif decide (0<=gk k [59,44,46,58,40,41,123,125,91,93,61,60,62,47,43,45,42] 0) then 6 else 0:=by unfold zh;rw[hL];rfl
  clear hL e1 e2 e3 e4;refine(zN) ?_
  (repeat refine aq.seq ?_)
  refine aq.mono (Q:=λex st=>ex=.normal/\Fg st ⟨[(0,.ptr 0 0),(1,.ptr 1 0),(2,aa k),(3,MI k),(4,aa k),(24,au (ble 48 k&&ble k 57))],50,[.cells Lb,.cells (lL k)],[]⟩) ?_ ?_
  ·cases h5:ble 48 k<;>cases h6:ble k 57
   all_goals
    rw[h5] at e5;rw[h6] at e6;refine(az (n2 e5 e6)) ?_;exact⟨rfl,zH⟩
  rintro ex st ⟨rfl,hf⟩;refine aq.fg hf ?_;clear hf e5 e6
  (try change aq _ _ _ _ _)
  cases hD:ble 48 k&&ble k 57;rotate_left
  ·rw[hD] at c0;rw[show zh k=4 from c0] at hset;change (lL k).take k++(SV.a (.int .u8 4)::(lL k).drop (k+1))=_ at hset
   refine(zY)<|(az (n5 hk6 hk7 hrl @ch hset))<|(az (zi hlt hlen)) ?_;refine zX hlt zH trivial
  rw[hD] at c0
  refine(Sx)<|(zK (Dy [32,9,10] k hk6))<|(zR) ?_
  cases hB:decide (0<=gk k [32,9,10] 0);rotate_left
  ·rw[hB] at c0;rw[show zh k=1 from c0] at hset;change (lL k).take k++(SV.a (.int .u8 1)::(lL k).drop (k+1))=_ at hset
   refine(zY)<|(az (n5 hk6 hk7 hrl @ch hset))<|(az (zi hlt hlen)) ?_;refine zX hlt zH trivial
  rw[hB] at c0
  refine(Sx)<|(zK (Dy [59,44,46,58,40,41,123,125,91,93,61,60,62,47,43,45,42] k hk6))<|(zR) ?_
  cases hS:decide (0<=gk k [59,44,46,58,40,41,123,125,91,93,61,60,62,47,43,45,42] 0);rotate_left
  ·rw[hS] at c0;rw[show zh k=6 from c0] at hset;change (lL k).take k++(SV.a (.int .u8 6)::(lL k).drop (k+1))=_ at hset
   refine(zY)<|(az (n5 hk6 hk7 hrl @ch hset))<|(az (zi hlt hlen)) ?_;refine zX hlt zH trivial
  rw[hS] at c0;have hs0:=TZ hk6 c0;refine(zN) ?_
  (try (refine aq.skip ?_))
  refine(az (zi hlt hlen)) ?_;refine zX hlt (bK hs0) trivial
 ·obtain rfl:k=256:=by omega
  refine(az (show decide (((256:Nat):Int)<256)=false from rfl))<|(eN) ?_
  have set_at:∀{l:List SV} {i:Nat} (v:SV),i<l.length->l.take i++(v::l.drop (i+1))=l.set i v:=λv h=>by rw[bw,t8 h]
  have hfin:(((lL 256).set 35 (.a (.int .u8 2))).set 95 (.a (.int .u8 5))).set 34 (.a (.int .u8 7))=Jj.map SV.a:=by kernel_rfl
  have l0:=uM 256
  have hz0:Lb.length=256:=by simp[Lb]
  generalize lL 256=R at hfin l0 ⊢;have s1:=set_at (l:=R) (i:=35) (.a (.int .u8 2)) (by omega)
  have l1:(R.set 35 (.a (.int .u8 2))).length=256:=by rw[d2];exact l0
  generalize R.set 35 (.a (.int .u8 2))=R1 at hfin s1 l1;have s2:=set_at (l:=R1) (i:=95) (.a (.int .u8 5)) (by omega)
  have l2:(R1.set 95 (.a (.int .u8 5))).length=256:=by rw[d2];exact l1
  generalize R1.set 95 (.a (.int .u8 5))=R2 at hfin s2 l2;have s3:=set_at (l:=R2) (i:=34) (.a (.int .u8 7)) (by omega)
  have l3:(R2.set 34 (.a (.int .u8 7))).length=256:=by rw[d2];exact l2
  generalize R2.set 34 (.a (.int .u8 7))=R3 at hfin s3 l3;have t3:R3.take 256=R3:=dv (by omega);have d0:Lb.drop 256=[]:=dt (by omega);refine(az (n10 (show de (.int .i64 35)=some 35 from rfl) (show de (.int .i64 95)=some 95 from rfl) (show de (.int .i64 34)=some 34 from rfl) l0 l1 l2 @ch s1 s2 s3)) ?_
  have ho:R3.all ef=true:=by rw[hfin];kernel_rfl
  refine(az (n9 l3 t3 ho hz0 d0 @List.append_nil.{0} @List.take_zero.{0} @List.nil_append.{0} @ba)) ?_;subst hfin;exact zo [.cell 0 133] (h:=iZ (n2 l3 t3))
def drop_cons{α:Type}{l:List α}{k:Nat}{x:α}(h:l[k]?=some x):l.drop k=x::l.drop (k+1):=by
 obtain⟨hlt,he⟩:=List.getElem?_eq_some_iff.1 h;rw[cp hlt,he]
def oR(s:List Nat)(hs:s.length<=1000000)(hb:∀b∈s,b<256):PC prog 28 [ab s] (·=au (cC s)):=by
 refine pB 39 Tryz.func28 ?_;have hcl:=BW;obtain⟨C,hC⟩:∃C,C=Jj.map SV.a:=⟨_,rfl⟩
 have ho:C.all ef=true:=by rw[hC];kernel_rfl
 have hl:C.length=256:=by rw[hC,er,OS]
 have hg:cm C=true:=by rw[hC];kernel_rfl
 have hfl:w6 (.ag C)=true:=by rw[hC];kernel_rfl
 have hCg:∀b,b<256->C[b]?=some (MI (sm b)):=λb h=>by rw[hC,bb,OQ b h];rfl
 rw[<-hC] at hcl;clear hC;have ht:C.take 256=C:=dv (by omega);have hnk:=λo:Nat=>dL (o:=o) hg;have hkk:=λo:Nat=>bL (o:=o) hg
 refine(kK)<|(zK hcl (hfl:=.inl hfl)) ?_;refine aG.r0 (by rfl) (by simp only[bI,bj,ah,an,al,ax,↓reduceIte,ac,af,aj,ad,ap,ae,ai,aN,hl,ho,ht,hkk,hnk,er,List.length_replicate,dt,List.append_nil,ba];first | done | rfl) ?_;refine aq.fg (Fg.freeze (f':=[(0,ab s),(3,.ip C)]) 0 rfl (λh=>by cases h) ⟨.inl rfl,.inr (.ptr rfl (bl.refl hg) (cd _)),trivial⟩) ?_;refine aq.fg (st':=⟨[(0,ab s),(3,.ip C)],39,[],[]⟩) zH ?_
 (try change aq _ _ _ _ _)
 refine(zV)<|(zs) ?_;refine zL s (λk=>((∀(i b:Nat),i<k->s[i]?=some b->gN b=true)/\(0<k->∀b,s[0]?=some b->db b=true))) (λk=>[(0,ab s),(3,.ip C),(8,aa s.length),(9,aa k)]) (λk=>[]) zH (by exact⟨λi b h=>t7 h (bk _),λh=>t7 h (bk _)⟩) ?_;intro k hk hall;refine zT s k ?_ ?_;rintro rfl;rotate_left;intro b hx hlt;rotate_left
 ·refine(eN) ?_
  cases hs0:s with
  | nil=>
   exact(az (show decide (([]:List Nat)=[])=true from rfl))<|zo [.tmp 2]
  | cons b l=>
   have h0:s[0]?=some b:=by rw[hs0];rfl
   have hlt0:0<s.length:=by rw[hs0];exact d8 _
   have hn:=He s (λi b' hb'=>hall.1 i b' (List.getElem?_eq_some_iff.1 hb').1 hb') b h0;rw[hall.2 hlt0 b h0,ci,hs0] at hn;have c2:decide ((b::l)=[])=false:=rfl;cases c3:decide (((b::l).length:Int)<=24)
   ·have e24:decide ((b::l).length<=24)=false:=by have:=wt c3;simp only[wd];omega
    exact(az (n2 c2 c3))<|zo [.tmp 2] (hq:=by rw[hn,e24])
   ·have e24:decide ((b::l).length<=24)=true:=by have:=ww c3;simp only[wp];omega
    exact(az (n2 c2 c3))<|zo [.tmp 2] (hq:=by rw[hn,e24])
 have hb6:=hb b (cf hx);obtain⟨sp1,sp2⟩:=OT b hb6;have hdr:=drop_cons (hCg b hb6)
 have hbl:b<=C.length:=by omega
 have q3:decide ((sm b:Int)=3)=db b:=by rw[<-sp1];simp only[decide_eq_decide];omega
 have q4:decide ((sm b:Int)=4)=decide (sm b=4):=by simp only[decide_eq_decide];omega
 have q5:decide ((sm b:Int)=5)=decide (sm b=5):=by simp only[decide_eq_decide];omega
 rw[sp1] at sp2
 refine(gh)<|(zV)<|(az (n6 hx (show de (.int .u8 (ofNat b))=some b from rfl) @ch hb6 hbl hdr)) ?_;refine aq.fg (st':=⟨[(0,ab s),(3,.ip C),(4,aa k),(5,.a (.int .u8 (sm b:Int))),(8,aa s.length),(9,aa k)],39,[],[]⟩) zH ?_
 (try change aq _ _ _ _ _)
 generalize (sm b:Int)=cb at q3 q4 q5 ⊢;generalize decide (sm b=4)=c4 at sp2 q4;generalize decide (sm b=5)=c5 at sp2 q5
 have m3:cS prog .neq 5 (.int .u8 cb) (.int .u8 3)=some (.bool (!db b)):=by rw[<-q3];exact pN rfl
 have m4:cS prog .neq 5 (.int .u8 cb) (.int .u8 4)=some (.bool (!c4)):=by rw[<-q4];exact pN rfl
 have m5:cS prog .neq 5 (.int .u8 cb) (.int .u8 5)=some (.bool (!c5)):=by rw[<-q5];exact pN rfl
 clear q3 q4 q5
 have hmore:gN b=true->∀(i b':Nat),i<k+1->s[i]?=some b'->gN b'=true:=λhm i b' hi hb'=>by
  by_cases e:i=k
  ·subst e;rw[hx] at hb';cases hb';exact hm
  ·exact hall.1 i b' (by omega) hb'
 have hfirst:(k=0->db b=true)->0<k+1->∀b',s[0]?=some b'->db b'=true:=λh _ b' hb'=>by
  by_cases hk0:k=0
  ·subst hk0;rw[hx] at hb';cases hb';exact h rfl
  ·exact hall.2 (by omega) b' hb'
 cases hL:db b;rotate_left
 ·rw[hL] at m3 sp2
  refine(az m3)<|(zN)<|(az (zi hlt hs)) ?_;refine zX hlt zH (⟨hmore sp2.symm,hfirst λ_=>hL⟩)
 rw[hL] at m3 sp2;by_cases hk0:k=0
 ·have hn:cC s=false:=RP s b (by rw[<-hk0];exact hx) hL
  exact(az (n2 m3 (show decide ((k:Int)=0)=true by simp only[wp];omega)))<|(cM)<|zo [.tmp 2] (hq:=by rw[hn])
 have k0:=show decide ((k:Int)=0)=false by simp only[wd];omega
 have hbad:gN b=false->cC s=false:=λhm=>by
  cases hc:cC s
  ·rfl
  ·rw[C3 s hc k b hx] at hm;cases hm
 cases c4
 ·cases c5
  ·have hn:=hbad sp2.symm
   exact(az (n4 m3 m4 m5 k0))<|(cM)<|zo [.tmp 2] (hq:=by rw[hn])
  ·refine(az (n4 m3 m4 m5 k0))<|(zN)<|(az (zi hlt hs)) ?_;refine zX hlt zH (⟨hmore sp2.symm,hfirst λh=>t7 h hk0⟩)
 ·refine(az (n3 m3 m4 k0))<|(zN)<|(az (zi hlt hs)) ?_;refine zX hlt zH (⟨hmore sp2.symm,hfirst λh=>t7 h hk0⟩)
structure l8 where
 name:List Nat
 kinds:List (List Nat)
 normal:Int
structure aQ where
 name:List Nat
 gy:Bool
 bZ:List l8
def bT(s:l8):List SV:=[ab s.name,ah 1 s.kinds (aw ab),aa s.normal]
def ao(k:aQ):List SV:=[ab k.name,au k.gy,ah 3 k.bZ bT]
def zy{p:Prop} (h:p:=by
  refine pB 19 vaa ?_;refine(az @ah.eq_1)<|(zV)<|(zs) ?_;refine zL l (λk=>∀(i:Nat) y,i<k->l[i]?=some y->p y=false) (λk=>[(0,.sl l.length vab (l.flatMap vac)),(1,.fn fid first cap),(7,aa l.length),(8,aa k)]) (λk=>[]) zH zp ?_;intro k hk hall;refine zT l k ?_ ?_;rintro rfl;rotate_left;intro x hx hlt;rotate_left
  ·exact(eN)<|(zV)<|zo [.tmp 4] (hq:=by rw[vX hall])
  ·refine(gh)<|(zV)<|(iC (n3 hlt (aH (e:=vab) (enc:=vac) (λ_=>rfl) hx) @vad))<|(zK (hp x (List.mem_iff_getElem?.2 ⟨k,hx⟩)) (hwk:=((bl.refl hg.1).app (bl.refl rfl)).app (bl.refl hg.2))) ?_;refine aG.nil ?_
   change aq _ _ _ _ _;cases hpx:p x
   ·refine(zN)<|(az (zi hlt hlen)) ?_;refine zX hlt zH ?_
    intro i y hi hy;by_cases hik:i=k
    ·subst hik;rw[hx] at hy;cases hy;exact hpx
    ·exact hall i y (by ((try simp only[vab] at *)<;>omega)) hy
   ·exact(cM)<|zo [.tmp 4] (hq:=by rw[Ed hx hpx hall])):p:=h
open Go.Proofs.Tryz renaming func188 -> vaa in
open Go.Ev renaming PR -> vab in
open Go.Proofs renaming ao -> vac in
def Fh{l:List (aQ)}(p:aQ->Bool){fid:FuncId}{first cap:List SV}(hlen:l.length<=1000000)(hp:∀x∈l,PC prog fid ((first++[.ag (ao x)])++cap) (·=au (p x)))(hg:cm first=true/\cm cap=true):PC prog 188 [ah 3 l ao,.fn fid first cap] (·=aa (jv p l)):=by
 have vad:=@ao.eq_1;exact zy
open Go.Proofs.Tryz renaming func222 -> vaa in
open Go.Ev renaming PR -> vab in
open Go.Proofs renaming bT -> vac in
def Fj{l:List (l8)}(p:l8->Bool){fid:FuncId}{first cap:List SV}(hlen:l.length<=1000000)(hp:∀x∈l,PC prog fid ((first++[.ag (bT x)])++cap) (·=au (p x)))(hg:cm first=true/\cm cap=true):PC prog 222 [ah 3 l bT,.fn fid first cap] (·=aa (jv p l)):=by
 have vad:=@bT.eq_1;exact zy
def Ih{l:List (List Nat)}(p:List Nat->Bool){fid:FuncId}{first cap:List SV}(hlen:l.length<=1000000)(hp:∀x∈l,PC prog fid ((first++[ab x])++cap) (·=au (p x)))(hg:cm first=true/\cm cap=true):PC prog 142 [ah 1 l (aw ab),.fn fid first cap] (·=aa (jv p l)):=by
 refine pB 19 Tryz.func142 ?_;refine(az @ah.eq_1)<|(zV)<|(zs) ?_;refine zL l (λk=>∀(i:Nat) y,i<k->l[i]?=some y->p y=false) (λk=>[(0,.sl l.length 1 (l.flatMap (aw ab))),(1,.fn fid first cap),(7,aa l.length),(8,aa k)]) (λk=>[]) zH zp ?_;intro k hk hall;refine zT l k ?_ ?_;rintro rfl;rotate_left;intro x hx hlt;rotate_left
 ·exact(eN)<|(zV)<|zo [.tmp 4] (hq:=by rw[vX hall])
 ·refine(gh)<|(zV)<|(iC (n3 hlt (aH (e:=1) (enc:=(aw ab)) (λ_=>rfl) hx) @aw.eq_1))<|(zK (hp x (mem_iff_getElem?.2 ⟨k,hx⟩)) (hwk:=((bl.refl hg.1).app (bl.refl rfl)).app (bl.refl hg.2))) ?_;refine aG.nil ?_
  change aq _ _ _ _ _;cases hpx:p x
  ·refine(zN)<|(az (zi hlt hlen)) ?_;refine zX hlt zH ?_
   intro i y hi hy;by_cases hik:i=k
   ·subst hik;rw[hx] at hy;cases hy;exact hpx
   ·exact hall i y (by omega) hy
  ·exact(cM)<|zo [.tmp 4] (hq:=by rw[Ed hx hpx hall])
def B8(s:List Nat):PC prog 132 [.ag [ab s,.any,.any]] (·=ab s):=by
 refine pB 5 Tryz.func132 ?_;exact(mO)<|zo [.tmp 2]
def Ca(s:List Nat):PC prog 191 [.ag [ab s,.any,.any]] (·=ab s):=by
 refine pB 5 Tryz.func191 ?_;exact(mO)<|zo [.tmp 2]
def Ik(k:aQ)(s:List Nat):PC prog 189 [.ag (ao k),.ip [.fn 132 [] []],.ip [ab s]] (·=au (decide (k.name=s))):=by
 refine pB 10 Tryz.func189 ?_;refine(az @ao.eq_1)<|(zs) ?_;refine nQ [0,0,3,0,15,31] ?_;refine(zD) ?_;refine SD.k (by rfl) rfl rfl (by rfl) rfl rfl zc (B8 k.name) (.cons (.ag (.cons (.a _) (.cons (.any _) (.cons (.any _) .nil)))) .nil) rfl ?_;exact(zD)<|(zM)<|zo [.tmp 4]
def Iv(k:l8)(s:List Nat):PC prog 223 [.ag (bT k),.ip [.fn 191 [] []],.ip [ab s]] (·=au (decide (k.name=s))):=by
 refine pB 10 Tryz.func223 ?_;refine(az @bT.eq_1)<|(zs) ?_;refine nQ [0,0,3,0,15,31] ?_;refine(zD) ?_;refine SD.k (by rfl) rfl rfl (by rfl) rfl rfl zc (Ca k.name) (.cons (.ag (.cons (.a _) (.cons (.any _) (.cons (.any _) .nil)))) .nil) rfl ?_;exact(zD)<|(zM)<|zo [.tmp 4]
def Fk(l:List aQ)(s:List Nat)(hlen:l.length<=1000000):PC prog 131 [ah 3 l ao,.fn 132 [] [],ab s] (·=aa (jv (λk=>decide (k.name=s)) l)):=by
 refine pB 10 Tryz.func131 ?_;exact(kK)<|(zK (Fh (λk=>decide (k.name=s)) (first:=[]) (cap:=[.ip [.fn 132 [] []],.ip [ab s]]) hlen (λx _=>Ik x s) ⟨rfl,rfl⟩))<|(zR)<|zo [.tmp 6]
def FD(l:List l8)(s:List Nat)(hlen:l.length<=1000000):PC prog 190 [ah 3 l bT,.fn 191 [] [],ab s] (·=aa (jv (λk=>decide (k.name=s)) l)):=by
 refine pB 10 Tryz.func190 ?_;exact(kK)<|(zK (Fj (λk=>decide (k.name=s)) (first:=[]) (cap:=[.ip [.fn 191 [] []],.ip [ab s]]) hlen (λx _=>Iv x s) ⟨rfl,rfl⟩))<|(zR)<|zo [.tmp 6]
def ui{α:Type}(p:α->Bool)(l:List α):(jv p l = -1/\l.find? p=none)\/∃(k:Nat) (x:α),jv p l=(k:Int)/\k<l.length/\l[k]?=some x/\l.find? p=some x:=by
 unfold jv
 cases hf:l.findIdx? p with
 | none=>
  rw[List.findIdx?_eq_none_iff] at hf;exact .inl ⟨rfl,by rw[dc];intro x hx;rw[hf x hx];decide⟩
 | some k=>
  obtain⟨hlt,h1,h2⟩:=List.findIdx?_eq_some_iff_getElem.1 hf;refine .inr ⟨k,l[k],rfl,hlt,ay hlt,?_⟩;rw[List.find?_eq_some_iff_getElem];exact⟨h1,k,hlt,rfl,λj hj=>by simpa using h2 j hj⟩
def aQ.zero:aQ:=⟨[],false,[]⟩
def l8.zero:l8:=⟨[],[],0⟩
def e8(l:List aQ)(s:List Nat):Option aQ:=l.find? λk=>decide (k.name=s)
def sZ(l:List l8)(s:List Nat):Option l8:=l.find? λk=>decide (k.name=s)
def pw{α:Type}(enc:α->List SV)(z:α):Option α->SV
 | some x=>.bC [.ag (enc x),au true]
 | none=>.bC [.ag (enc z),au false]
def nE(l:List aQ)(s:List Nat)(hlen:l.length<=1000000):PC prog 88 [.ag [ah 3 l ao],ab s] (·=pw ao aQ.zero (e8 l s)):=by
 refine pB 19 Tryz.func88 ?_;refine(kK)<|(zK (Fk l s hlen))<|(zR) ?_
 rcases ui (λk:aQ=>decide (k.name=s)) l with⟨h1,h2⟩ | ⟨k,x,h1,hlt,hx,h2⟩
 ·rw[h1]
  refine(xS)<|(zV)<|(zE) ?_;exact sP.of (rs:=[.cell 4 52,.tmp 5]) (r:=.bC [.ag [ab [],au false,.sl 0 3 []],au false]) rfl rfl zl zv (by (try simp only[df,aX]);first | done | (unfold e8;rw[h2];rfl))
 ·rw[h1]
  exact(az (show decide ((k:Int)<0)=false by simp))<|(zN)<|(az (n3 hlt (aH (e:=3) (enc:=ao) (λ_=>rfl) hx) @ao.eq_1))<|iP [.cell 4 52,.tmp 5] (hq:=by unfold e8;rw[h2];rfl)
def KX(l:List aQ)(kind name:List Nat)(hlen:l.length<=1000000)(hs:∀k∈l,k.bZ.length<=1000000):PC prog 134 [.ag [ah 3 l ao],ab kind,ab name] (·=pw bT l8.zero ((e8 l kind).bind λk=>sZ k.bZ name)):=by
 refine pB 29 Tryz.func134 ?_
 obtain⟨q,b,h1,h2,h3⟩:∃(q:aQ) (b:Bool),pw ao aQ.zero (e8 l kind)=.bC [.ag (ao q),au b]/\q.bZ.length<=1000000/\((e8 l kind).bind λk=>sZ k.bZ name)=sZ q.bZ name:=by
  cases hf:e8 l kind with
  | none=>exact⟨aQ.zero,false,rfl,cd _,rfl⟩
  | some q=>exact⟨q,true,rfl,hs q (bd hf),rfl⟩
 rw[h3];have hF:=nE l kind hlen;rw[h1] at hF
 refine(kK)<|(zK hF (hfl:=.inr (bl.refl rfl)))<|(cK @ao.eq_1)<|(zC)<|(zK (FD q.bZ name h2))<|(zR) ?_
 rcases ui (λk:l8=>decide (k.name=name)) q.bZ with⟨g1,g2⟩ | ⟨k,x,g1,hlt,hx,g2⟩
 ·rw[g1]
  refine(xS)<|(zV)<|(zE) ?_;exact sP.of (rs:=[.cell 6 137,.tmp 7]) (r:=.bC [.ag [ab [],.sl 0 1 [],aa 0],au false]) rfl rfl zl zv (by (try simp only[df,aX]);first | done | (unfold sZ;rw[g2];rfl))
 ·rw[g1]
  exact(az (show decide ((k:Int)<0)=false by simp))<|(zN)<|(az (n3 hlt (aH (e:=3) (enc:=bT) (λ_=>rfl) hx) @bT.eq_1))<|iP [.cell 6 137,.tmp 7] (hq:=by unfold sZ;rw[g2];rfl)
def B3(l:List (List Nat))(s:List Nat)(hlen:l.length<=1000000):PC prog 98 [ah 1 l (aw ab),ab s] (·=aa (jv (λx=>decide (s=x)) l)):=by
 refine pB 19 Tryz.func98 ?_;refine(mO)<|(zs) ?_;refine zL l (λk=>∀(i:Nat) y,i<k->l[i]?=some y->decide (s=y)=false) (λk=>[(0,.sl l.length 1 (l.flatMap (aw ab))),(1,ab s),(7,aa l.length),(8,aa k)]) (λk=>[]) zH zp ?_;intro k hk hall;refine zT l k ?_ ?_;rintro rfl;rotate_left;intro x hx hlt;rotate_left
 ·exact(eN)<|(zV)<|zo [.tmp 4] (hq:=by rw[vX hall])
 ·refine(gh)<|(zV)<|(az (n3 hlt (aH (e:=1) (enc:=aw ab) (λ_=>rfl) hx) @aw.eq_1)) ?_
  cases hpx:decide (s=x)
  ·refine(zN)<|(az (zi hlt hlen)) ?_;refine zX hlt zH ?_
   intro i y hi hy;by_cases hik:i=k
   ·subst hik;rw[hx] at hy;cases hy;exact hpx
   ·exact hall i y (by omega) hy
  ·exact(cM)<|zo [.tmp 4] (hq:=by rw[Ed hx hpx hall])
def Ee{l:List (List Nat)}{s:List Nat}:decide (0<=jv (λx=>decide (s=x)) l)=l.contains s:=by
 rcases ui (λx=>decide (s=x)) l with⟨g1,g2⟩ | ⟨k,x,g1,hlt,hx,g2⟩
 ·rw[g1];rw[dc] at g2
  have:s∉l:=λhm=>by simpa using g2 s hm
  simp[this]
 ·rw[g1];have h:=em g2;have hm:=bd g2;simp only[wp] at h;subst h;simp[hm]
def lf(l:List (List Nat))(s:List Nat)(hlen:l.length<=1000000):PC prog 47 [ah 1 l (aw ab),ab s] (·=au (l.contains s)):=by
 refine pB 9 Tryz.func47 ?_;exact(kK)<|(zK (B3 l s hlen))<|(zR)<|zo [.tmp 4] (hq:=by rw[Ee])
def wL(l:List aQ)(kind name other:List Nat):Bool:=match (e8 l kind).bind λk=>sZ k.bZ name with
 | some s=>s.kinds.contains other
 | none=>false
def xQ(l:List aQ)(kind name other:List Nat)(hlen:l.length<=1000000)(hs:∀k∈l,k.bZ.length<=1000000/\∀s∈k.bZ,s.kinds.length<=1000000):PC prog 91 [.ag [ah 3 l ao],ab kind,ab name,ab other] (·=au (wL l kind name other)):=by
 refine pB 25 Tryz.func91 ?_;have hF:=KX l kind name hlen λk hk=>(hs k hk).1;refine(kK) ?_;unfold Proofs.wL
 cases hf:(e8 l kind).bind λk=>sZ k.bZ name with
 | none=>
  rw[hf] at hF
  exact(zK hF (hfl:=.inr (bl.refl rfl)))<|(cK (n3 @pw.eq_1 @bT.eq_1 @l8.zero.eq_1))<|(zV)<|zo [.tmp 8]
 | some q=>
  have hq:q.kinds.length<=1000000:=by
   obtain⟨k,hk,h2⟩:=Option.bind_eq_some_iff.1 hf;exact(hs k (bd hk)).2 q (bd h2)
  rw[hf] at hF
  exact(zK hF (hfl:=.inr (bl.refl rfl)))<|(cK (n2 @pw.eq_1 @bT.eq_1))<|(zC)<|(zK (lf q.kinds other hq))<|(zR)<|zo [.tmp 8]
def jA(s:List Nat):Prop:=s.length<=1000000/\∀b∈s,b<256
def ft(s:List Nat)(h:jA s):PC prog 28 [ab s] (·=au (cC s)):=oR s h.1 h.2
def fF:Keys prog 9 AV.str:=Pq (by kernel_rfl)
def iy{S:List SO}{o:Nat}{l:List (List Nat×Bool)}(s:List Nat)(ok:Bool)(hS:S[o]?=some (bB AV.str au l)):ec prog S 151 (.map o) (.a (.str s)) ok=some (cond ok (.bC [au (getM false s l),au (dr s l)]) (au (getM false s l))):=
 CX (uv:=au) (u0:=false) (k:=s) (kt:=9) (et:=4) (z:=.bool false) (by simp only[an]) fF (by simp only[an]) rfl hS rfl ok
def wT{S:List SO}{o:Nat}{l:List (List Nat×Bool)}(s:List Nat)(u:Bool)(hS:S[o]?=some (bB AV.str au l)):fD prog S 151 (.map o) (.a (.str s)) (.a (.bool u))=some (S.set o (bB AV.str au (cr s u l))):=
 HD (uv:=au) (kt:=9) (et:=4) (by simp only[an]) fF hS rfl u
def lV(parts:List (List Nat×Bool)):List (List Nat×Bool)->List (List Nat)->Bool
 | _,[]=>true
 | taken,x::xs=>!(getM false x taken||!getM false x parts)&&lV parts (cr x true taken) xs
def iV(parts:List (List Nat×Bool)):List (List Nat×Bool)->List l8->Bool
 | _,[]=>true
 | seen,s::ss=>!(getM false s.name seen||(!cC s.name||(decide (s.normal<1)||decide ((s.kinds.length:Int)<s.normal))))&&(lV parts [] s.kinds&&iV parts (cr s.name true seen) ss)
def iG:List (List Nat×Bool)->List aQ->Bool
 | _,[]=>true
 | parts,k::ks=>!(dr k.name parts||(!cC k.name||decide (12<(k.bZ.length:Int))))&&(iV parts [] k.bZ&&iG (cr k.name (!k.gy) parts) ks)
def mg(l:List aQ):Bool:=iG [] l&&decide ((l.length:Int)<=60)
structure jI (l:List aQ):Prop where
 len:l.length<=1000000
 kind:∀k∈l,jA k.name/\k.bZ.length<=1000000
 slot:∀k∈l,∀s∈k.bZ,jA s.name/\s.kinds.length<=1000000
def fC{α:Type}{l:List α}{k:Nat}{x:α}(h:l[k]?=some x):l.drop k=x::l.drop (k+1):=by
 obtain⟨hlt,he⟩:=List.getElem?_eq_some_iff.1 h;rw[cp hlt,he]
def oz(l:List aQ)(hl:jI l):PC prog 37 [.ag [ah 3 l ao]] (·=au (mg l)):=by
 have hlen:=hl.len
 refine pB 108 Tryz.func37 ?_;refine(mO)<|(zV)<|(zs) ?_;refine Oi l (λk (parts:List (List Nat×Bool))=>iG [] l=iG parts (l.drop k)) (λk parts=>[(1,.ptr 0 0),(3,.map 1),(16,ah 3 l ao),(17,aa l.length),(18,aa k)]) (λk parts=>[.cells [ah 3 l ao],bB AV.str au parts]) ([]) zH (by rfl) ?_;intro k parts hk hall;refine zT l k ?_ ?_;rintro rfl;rotate_left;intro x hx hlt;rotate_left
 ·exact(eN)<|(zV)<|zo [.tmp 2] (hq:=by rw[show mg l=decide ((l.length:Int)<=60) from by unfold mg;rw[hall,bi];rfl])
 have no:iG parts (l.drop k)=false->mg l=false:=λh=>by unfold mg;rw[hall,h];rfl
 rw[fC hx] at no hall;have hgx:=hl.kind x (mem_iff_getElem?.2 ⟨k,hx⟩);have hsx:=hl.slot x (mem_iff_getElem?.2 ⟨k,hx⟩)
 refine(gh)<|(az (n4 hlt (aH (e:=3) (enc:=ao) (λ_=>rfl) hx) @ao.eq_1 @Ei))<|(zs) ?_;refine aq.r0 (by rfl) (by simp only[bI,bj,ah,an,al,ax,↓reduceIte,ac,af,aj,ad,ap,ae,ai,aN,iy (l:=parts)];first | done | rfl) ?_
 cases h1:dr x.name parts;rotate_left
 ·exact(xS)<|(zV)<|zo [.tmp 2] (hq:=by rw[no (by simp[iG,h1])])
 refine(zC)<|(zK (ft x.name hgx.1)) ?_
 cases h2:cC x.name
 ·exact(zR)<|(cM)<|zo [.tmp 2] (hq:=by rw[no (by simp[iG,h2])])
 cases h3:decide (12<(x.bZ.length:Int));rotate_left
 ·exact(cK h3)<|(cM)<|zo [.tmp 2] (hq:=by rw[no (by simp only[iG,h3,dl,cn,bx])])
 refine(cK h3)<|(zN)<|(az @Ei)<|(zV) ?_
 have hq2:iG [] l=(iV parts [] x.bZ&&iG (cr x.name (!x.gy) parts) (l.drop (k+1))):=by rw[hall,iG,h1,h2,h3];rfl
 have hnx:True:=trivial
 have no2:iV parts [] x.bZ=false->mg l=false:=λh=>by unfold mg;rw[hq2,h];rfl
 have hlen2:=hgx.2;refine(zs) ?_;refine Oi x.bZ (λk2 (seen:List (List Nat×Bool))=>iV parts [] x.bZ=iV parts seen (x.bZ.drop k2)) (λk2 seen=>[(1,.ptr 0 0),(3,.map 1),(16,ah 3 l ao),(17,aa l.length),(18,aa k),(5,.ptr 2 0),(8,.map 3),(44,ah 3 x.bZ bT),(45,aa x.bZ.length),(46,aa k2)]) (λk2 seen=>[.cells [ah 3 l ao],bB AV.str au parts,.cells (ao x),bB AV.str au seen]) ([]) zH (by rfl) ?_;intro k2 seen hk2 hall2;refine zT x.bZ k2 ?_ ?_;rintro rfl;rotate_left;intro y hx2 hlt2;rotate_left
 ·refine(eN) ?_
  have hall3:iG [] l=iG (cr x.name (!x.gy) parts) (l.drop (k+1)):=by rw[hq2,hall2,bi];rfl
  refine(zs) ?_;refine aq.r0 (by rfl) (by simp only[bI,bj,ah,an,al,ax,↓reduceIte,ac,af,aj,ad,ap,ae,ai,aN,ao,wT (l:=parts)];first | done | rfl) ?_;refine(az (zi hlt hlen)) ?_;refine I5 hlt (cr x.name (!x.gy) parts) zH hall3
 have no3:iV parts seen (x.bZ.drop k2)=false->mg l=false:=λh=>no2 (by rw[hall2,h]);rw[fC hx2] at no3 hall2;have hgy:=hsx y (mem_iff_getElem?.2 ⟨k2,hx2⟩)
 refine(gh)<|(az (n5 hlt2 (aH (e:=3) (enc:=bT) (λ_=>rfl) hx2) @bT.eq_1 @ao.eq_1 @Ei)) ?_
 cases g1:getM false y.name seen;rotate_left
 ·refine(zs) ?_;refine aq.r0 (by rfl) (by simp only[bI,bj,ah,an,al,ax,↓reduceIte,ac,af,aj,ad,ap,ae,ai,aN,iy (l:=seen),g1];first | done | rfl) ?_;exact(cM)<|zo [.tmp 2] (hq:=by rw[no3 (by simp[iV,g1])])
 refine(zs) ?_;refine aq.Se (by rfl) (by simp only[bI,bj,ah,an,al,ax,↓reduceIte,ac,af,aj,ad,ap,ae,ai,aN,iy (l:=seen),g1];first | done | rfl) ?_;refine(zK (ft y.name hgy.1)) ?_;cases g2:cC y.name
 ·exact(zR)<|(cM)<|zo [.tmp 2] (hq:=by rw[no3 (by simp[iV,g2])])
 cases g3:decide (y.normal<1);rotate_left
 ·exact(cK g3)<|(cM)<|zo [.tmp 2] (hq:=by rw[no3 (by simp only[iV,g3,dl,d9,cn,bx])])
 cases g4:decide ((y.kinds.length:Int)<y.normal);rotate_left
 ·exact(cK (n2 g3 g4))<|(cM)<|zo [.tmp 2] (hq:=by rw[no3 (by simp only[iV,g4,dl,d9,cn,bx])])
 refine(cK (n2 g3 g4))<|(zN)<|(zs) ?_;refine aq.r0 (by rfl) (by simp only[bI,bj,ah,an,al,ax,↓reduceIte,ac,af,aj,ad,ap,ae,ai,aN,wT (l:=seen)];first | done | rfl) ?_;refine(az @Ei)<|(zV) ?_
 have hq3:iV parts [] x.bZ=(lV parts [] y.kinds&&iV parts (cr y.name true seen) (x.bZ.drop (k2+1))):=by rw[hall2,iV,g1,g2,g3,g4];rfl
 have no4:lV parts [] y.kinds=false->mg l=false:=λh=>no2 (by rw[hq3,h];rfl);have hlen3:=hgy.2;refine(zs) ?_;refine Oi y.kinds (λk3 (taken:List (List Nat×Bool))=>lV parts [] y.kinds=lV parts taken (y.kinds.drop k3)) (λk3 taken=>[(1,.ptr 0 0),(3,.map 1),(16,ah 3 l ao),(17,aa l.length),(18,aa k),(5,.ptr 2 0),(8,.map 3),(44,ah 3 x.bZ bT),(45,aa x.bZ.length),(46,aa k2),(11,.map 5),(78,ah 1 y.kinds (aw ab)),(79,aa y.kinds.length),(80,aa k3)]) (λk3 taken=>[.cells [ah 3 l ao],bB AV.str au parts,.cells (ao x),bB AV.str au (cr y.name true seen),.gone,bB AV.str au taken]) ([]) (bK (n2 @aw.eq_1 @ao.eq_1)) (by rfl) ?_;intro k3 taken hk3 hall3;refine zT y.kinds k3 ?_ ?_;rintro rfl;rotate_left;intro z hx3 hlt3;rotate_left
 ·refine(eN) ?_
  have hall4:iV parts [] x.bZ=iV parts (cr y.name true seen) (x.bZ.drop (k2+1)):=by rw[hq3,hall3,bi];rfl
  refine(az (zi hlt2 hlen2)) ?_;refine I5 hlt2 (cr y.name true seen) (bK @ao.eq_1) hall4
 have no5:lV parts taken (y.kinds.drop k3)=false->mg l=false:=λh=>no4 (by rw[hall3,h]);rw[fC hx3] at no5 hall3
 refine(gh)<|(az (n3 hlt3 (aH (e:=1) (enc:=aw ab) (λ_=>rfl) hx3) @aw.eq_1)) ?_
 cases f1:getM false z taken;rotate_left
 ·refine(zs) ?_;refine aq.r0 (by rfl) (by simp only[bI,bj,ah,an,al,ax,↓reduceIte,ac,af,aj,ad,ap,ae,ai,aN,iy (l:=taken),f1];first | done | rfl) ?_;exact(cM)<|zo [.tmp 2] (hq:=by rw[no5 (by simp[lV,f1])])
 cases f2:getM false z parts
 ·refine(zs) ?_;refine aq.r0 (by rfl) (by simp only[bI,bj,ah,an,al,ax,↓reduceIte,ac,af,aj,ad,ap,ae,ai,aN,iy (l:=taken),iy (l:=parts),f1,f2];first | done | rfl) ?_;exact(cM)<|zo [.tmp 2] (hq:=by rw[no5 (by simp[lV,f2])])
 refine(zs) ?_;refine aq.r0 (by rfl) (by simp only[bI,bj,ah,an,al,ax,↓reduceIte,ac,af,aj,ad,ap,ae,ai,aN,iy (l:=taken),iy (l:=parts),f1,f2];first | done | rfl) ?_;refine(zN) ?_
 have hall5:lV parts [] y.kinds=lV parts (cr z true taken) (y.kinds.drop (k3+1)):=by rw[hall3,lV,f1,f2];rfl
 refine(zs) ?_;refine aq.r0 (by rfl) (by simp only[bI,bj,ah,an,al,ax,↓reduceIte,ac,af,aj,ad,ap,ae,ai,aN,wT (l:=taken)];first | done | rfl) ?_;refine(az (zi hlt3 hlen3)) ?_;refine I5 hlt3 (cr z true taken) (bK (n2 @aw.eq_1 @ao.eq_1)) hall5
def yw{α:Type}{p:α->Bool}{l:List α}:decide (0<=jv p l)=l.any p:=by
 rcases ui p l with⟨g1,g2⟩ | ⟨k,x,g1,hlt,hx,g2⟩
 ·rw[g1];rw[dc] at g2
  have:l.any p=false:=by
   rw[List.any_eq_false];exact g2
  rw[this];rfl
 ·rw[g1];have:l.any p=true:=List.any_eq_true.2 ⟨x,bd g2,em g2⟩;rw[this];simp
def H2{l:List (List Nat)}(p:List Nat->Bool){fid:FuncId}{first cap:List SV}(hlen:l.length<=1000000)(hp:∀x∈l,PC prog fid ((first++[ab x])++cap) (·=au (p x)))(hg:cm first=true/\cm cap=true):PC prog 102 [ah 1 l (aw ab),.fn fid first cap] (·=au (l.any p)):=by
 refine pB 9 Tryz.func102 ?_;exact(kK)<|(zK (Ih p hlen hp hg) (hwk:=.cons (Wk.sl _ _ _) (.cons (.fn (bl.refl hg.1) (bl.refl hg.2)) .nil)))<|(zR)<|zo [.tmp 4] (hq:=by rw[yw])
structure bH where
 op:Int
 day:Int
 part:List Nat
 kind:List Nat
 bG:List Nat
 slot:List Nat
 key:List Nat
 value:List Nat
 u1:Int
 u2:Int
 u3:Int
 u4:Int
 u5:Int
 u6:Int
 deriving DecidableEq
def aF(e:bH):List SV:=[aa e.op,aa e.day,ab e.part,ab e.kind,ab e.bG,ab e.slot,ab e.key,ab e.value,aa e.u1,aa e.u2,aa e.u3,aa e.u4,aa e.u5,aa e.u6]
def bH.av(e:bH):List AV:=[.int .i64 e.op,.int .i64 e.day,.str e.part,.str e.kind,.str e.bG,.str e.slot,.str e.key,.str e.value,.int .i64 e.u1,.int .i64 e.u2,.int .i64 e.u3,.int .i64 e.u4,.int .i64 e.u5,.int .i64 e.u6]
def bH.zero:bH:=⟨0,0,[],[],[],[],[],[],0,0,0,0,0,0⟩
def bH.Wg:List Kd:=[.i .i64,.i .i64,.s,.s,.s,.s,.s,.s,.i .i64,.i .i64,.i .i64,.i .i64,.i .i64,.i .i64]
def bH.eq(a b:bH):gW gj a.av b.av=decide (a=b):=by
 obtain⟨a1,a2,a3,a4,a5,a6,a7,a8,a9,a10,a11,a12,a13,a14⟩:=a;obtain⟨b1,b2,b3,b4,b5,b6,b7,b8,b9,b10,b11,b12,b13,b14⟩:=b;simp only[bH.av,gW,gj,Aj,zu,mS,co,ci,bH.mk.injEq,el]
def Ij:Keys prog 58 λe:bH=>.agg e.av:=
 wa (ks:=bH.Wg) (by kernel_rfl) (by simp only[an,ax]) (λ_=>rfl) bH.eq λ_=>rfl
def Dx(a b:bH):cS prog .eql 58 (.agg a.av) (.agg b.av)=some (.bool (decide (a=b))):=
 F7 (ks:=bH.Wg) (by kernel_rfl) (by kernel_rfl) (by simp only[an,ax]) rfl rfl (bH.eq a b)
def Ub:List (List Nat):=[[],[109,97,107,101],[102,105,116],[114,101,109,111,118,101],[114,117,110],[111,118,101,114,104,97,117,108],[110,111,116,101],[115,99,114,97,112]]
def IW(op:Int):List Nat:=if op<0\/8<=op then [] else (Ub[op.toNat]?).getD []
def K3(op:Int):PC prog 100 [aa op] (·=ab (IW op)):=by
 refine pB 14 Tryz.func100 ?_;refine(mO) ?_;cases h1:decide (op<0);rotate_left
 ·exact(az h1)<|(cM)<|zo [.tmp 2] (hq:=by rw[IW,t8 (.inl (ww h1))])
 cases h2:decide (8<=op);rotate_left
 ·exact(az (n2 h1 h2))<|(cM)<|zo [.tmp 2] (hq:=by rw[IW,t8 (.inr (ww h2))])
 refine(az (n2 h1 h2))<|(zN) ?_
 have hop:op=0\/op=1\/op=2\/op=3\/op=4\/op=5\/op=6\/op=7:=by simp only[wd] at h1 h2;omega
 rcases hop with rfl | rfl | rfl | rfl | rfl | rfl | rfl | rfl<;>(refine(zV) ?_ ;exact zo [.tmp 2])
def Bn(a b c d e f:SV):PC prog 101 [.ip [a,b,c,d,e,f]] (·=.ag [.ip [a,b,c,d,e,f],.ip [c,d,e,f],.ip [e,f]]):=by
 refine pB 13 Tryz.func101 ?_;refine(zV)<|(zs) ?_;refine nQ [0,1,3,0,8,24,0,64,192,511,1023] ?_;refine(zD) ?_;refine SD.e (by rfl) rfl (by rfl) rfl rfl (by rfl) zl ?_;exact(zM)<|zo [.cell 2 187]
def Fs(s:List Nat)(h:jA s):PC prog 103 [ab s] (·=au (!cC s)):=by
 refine pB 6 Tryz.func103 ?_;exact(kK)<|(zK (ft s h))<|(zR)<|zo [.tmp 2]
def jW(a b:Int):Bool:=!(decide (a<0))&&(!(decide (b<a))&&!(decide (1000000<b)))
def bH.use(e:bH):Bool:=jW e.u1 e.u2&&(jW e.u3 e.u4&&jW e.u5 e.u6)
def bH.rest(e:bH):bH:=
 if e.op=1 then ⟨0,0,[],[],e.bG,e.slot,e.key,e.value,e.u1,e.u2,e.u3,e.u4,e.u5,e.u6⟩
 else if e.op=2 then ⟨0,0,[],e.kind,[],[],e.key,e.value,e.u1,e.u2,e.u3,e.u4,e.u5,e.u6⟩
 else if e.op=6 then ⟨0,0,[],e.kind,e.bG,e.slot,[],[],e.u1,e.u2,e.u3,e.u4,e.u5,e.u6⟩
 else if e.op=4 then ⟨0,0,[],e.kind,e.bG,e.slot,e.key,e.value,0,0,0,0,0,0⟩
 else ⟨0,0,[],e.kind,e.bG,e.slot,e.key,e.value,e.u1,e.u2,e.u3,e.u4,e.u5,e.u6⟩
def bH.names(e:bH):List (List Nat):=if e.op=1 then [e.kind] else if e.op=2 then [e.bG,e.slot] else if e.op=6 then [e.key] else []
def bH.lq(e:bH):Bool:=
 if e.op=1 then true else if e.op=2 then !(decide (e.bG=e.part)) else if e.op=6 then !(decide (e.value=[]))&&!(decide (200<(e.value.length:Int))) else if e.op=4 then e.use else true
def gQ(e:bH):Bool:=!(decide (IW e.op=[]))&&(!(decide (e.day<0))&&(!(decide (40000<e.day))&&(cC e.part&&(e.lq&&(decide (e.rest=bH.zero)&&!(e.names.any λs=>!cC s))))))
structure qC (e:bH):Prop where
 part:jA e.part
 kind:jA e.kind
 bG:jA e.bG
 slot:jA e.slot
 key:jA e.key
 value:jA e.value
def Bh(a1 a2:Int)(a3 a4 a5 a6 a7 a8:List Nat)(a9 a10 a11 a12 a13 a14:Int):cS prog .eql 58 (.agg [.int .i64 a1,.int .i64 a2,.str a3,.str a4,.str a5,.str a6,.str a7,.str a8,.int .i64 a9,.int .i64 a10,.int .i64 a11,.int .i64 a12,.int .i64 a13,.int .i64 a14]) (.agg [.int .i64 0,.int .i64 0,.str [],.str [],.str [],.str [],.str [],.str [],.int .i64 0,.int .i64 0,.int .i64 0,.int .i64 0,.int .i64 0,.int .i64 0])=some (.bool (decide ((⟨a1,a2,a3,a4,a5,a6,a7,a8,a9,a10,a11,a12,a13,a14⟩:bH)=bH.zero))):=
 Dx ⟨a1,a2,a3,a4,a5,a6,a7,a8,a9,a10,a11,a12,a13,a14⟩ bH.zero
def rz(e:bH)(he:qC e):PC prog 50 [.ag (aF e)] (·=au (gQ e)):=by
 refine pB 111 Tryz.func50 ?_;refine(az @aF.eq_1)<|(zC)<|(zK (K3 e.op)) ?_
 cases h1:decide (IW e.op=[]);rotate_left
 ·exact(cK h1)<|(cM)<|zo [.tmp 2] (hq:=by rw[gQ,h1];rfl)
 cases h2:decide (e.day<0);rotate_left
 ·exact(cK (n2 h1 h2))<|(cM)<|zo [.tmp 2] (hq:=by rw[gQ,h1,h2];rfl)
 cases h3:decide (40000<e.day);rotate_left
 ·exact(cK (n3 h1 h2 h3))<|(cM)<|zo [.tmp 2] (hq:=by rw[gQ,h1,h2,h3];rfl)
 refine(Sy (n3 h1 h2 h3))<|(zK (ft e.part he.part)) ?_
 cases h4:cC e.part
 ·exact(zR)<|(cM)<|zo [.tmp 2] (hq:=by rw[gQ,h1,h2,h3,h4];rfl)
 refine(zR)<|(zN) ?_
 have hv:gQ e=(e.lq&&(decide (e.rest=bH.zero)&&!(e.names.any λs=>!cC s))):=by rw[gQ,h1,h2,h3,h4];rfl
 clear h1 h2 h3 h4
 have hn:∀s∈e.names,jA s:=by
  intro s hs;unfold bH.names at hs;split at hs
  ·rw[List.mem_singleton.1 hs];exact he.kind
  split at hs
  ·rcases mem_cons.1 hs with rfl | hs
   ·exact he.bG
   ·rw[List.mem_singleton.1 hs];exact he.slot
  split at hs
  ·rw[List.mem_singleton.1 hs];exact he.key
  ·cases hs
 have hnl:e.names.length<=1000000:=by
  unfold bH.names
  repeat' split
  all_goals simp
 refine(mO)<|(mO) ?_
 (repeat refine aq.seq ?_)
 refine aq.mono (Q:=λex st=>(ex=.normal/\e.lq=true/\Fg st ⟨[(3,.sl e.names.length 1 (e.names.flatMap (aw ab))),(4,.ptr 2 0)],111,[.gone,.gone,.cells (aF e.rest)],[]⟩)\/(ex=.ret/\sP prog Tryz.f50 (·=au (gQ e)) .ret st)) ?_ ?_;rotate_left
 ·rintro ex st (⟨rfl,hm,hf⟩ | ⟨rfl,hs⟩);rotate_left
  ·exact hs
  change aq _ _ _ _ _;refine aq.fg hf ?_;rw[hv,hm,co];cases r:decide (e.rest=bH.zero)
  ·exact(az (n3 @aF.eq_1 @Bh r))<|zo [.tmp 2]
  ·exact(iC (n3 @aF.eq_1 @Bh r))<|(zK (H2 (λs=>!cC s) (l:=e.names) (first:=[]) (cap:=[]) hnl (λx hx=>Fs x (hn x hx)) ⟨rfl,rfl⟩))<|(zR)<|zo [.tmp 2]
 have hrest:∀a1 a2 a3 a4 a5 a6 a7 a8 a9 a10 a11 a12 a13 a14,e.rest=(⟨a1,a2,a3,a4,a5,a6,a7,a8,a9,a10,a11,a12,a13,a14⟩:bH)->aF e.rest=[aa a1,aa a2,ab a3,ab a4,ab a5,ab a6,ab a7,ab a8,aa a9,aa a10,aa a11,aa a12,aa a13,aa a14]:=by
  intros;simp only[*,aF]
 refine aq.block ?_;refine(zV) ?_;cases k1:decide (e.op=1);rotate_left
 ·have k1':=ww k1;refine(cM) ?_;have hr:=hrest _ _ _ _ _ _ _ _ _ _ _ _ _ _ (show e.rest=_ by unfold bH.rest;rw[t8 k1'])
  have hnm:e.names=[e.kind]:=by unfold bH.names;rw[t8 k1']
  refine .inl ⟨rfl,by unfold bH.lq;rw[t8 k1'],?_⟩;rw[hr,hnm];exact Fg.trans (Fg.freeze (f':=[(3,.sl 1 1 [ab e.kind]),(4,.ptr 2 0)]) 3 rfl (λh=>by cases h) zG) zH
 have n1:=wt k1;refine(iY) ?_;cases k2:decide (e.op=2);rotate_left
 ·have k2':=ww k2
  have hmid:e.lq=!(decide (e.bG=e.part)):=by unfold bH.lq;rw[ul n1,t8 k2']
  refine(cM) ?_;cases j1:decide (e.bG=e.part);rotate_left
  ·refine(cM) ?_;refine aq.ret ?_;refine .inr ⟨rfl,?_⟩;exact zO [.tmp 2] (hq:=by (try simp only[df,aX]);first | done | (rw[hv,hmid,j1];rfl))
  refine(iY) ?_;have hr:=hrest _ _ _ _ _ _ _ _ _ _ _ _ _ _ (show e.rest=_ by unfold bH.rest;rw[ul n1,t8 k2'])
  have hnm:e.names=[e.bG,e.slot]:=by unfold bH.names;rw[ul n1,t8 k2']
  refine .inl ⟨rfl,by rw[hmid,j1];rfl,?_⟩;rw[hr,hnm];exact Fg.trans (Fg.freeze (f':=[(3,.sl 2 1 [ab e.bG,ab e.slot]),(4,.ptr 2 0)]) 3 rfl (λh=>by cases h) zG) zH
 have n2:=wt k2;refine(iY) ?_;cases k6:decide (e.op=6);rotate_left
 ·have k6':=ww k6
  have hmid:e.lq=(!(decide (e.value=[]))&&!(decide (200<(e.value.length:Int)))):=by unfold bH.lq;rw[ul n1,ul n2,t8 k6']
  refine(zY) ?_;cases j1:decide (e.value=[]);rotate_left
  ·refine(az j1)<|(cM) ?_;refine aq.ret ?_;refine .inr ⟨rfl,?_⟩;exact zO [.tmp 2] (hq:=by (try simp only[df,aX]);first | done | (rw[hv,hmid,j1];rfl))
  cases j2:decide (200<(e.value.length:Int));rotate_left
  ·refine(zs) ?_;refine aq.r0 (by rfl) (by simp only[bI,bj,ah,an,al,ax,↓reduceIte,ac,af,aj,ad,ap,ae,ai,aN,j1,j2];first | done | rfl) ?_;refine(cM) ?_;refine aq.ret ?_;refine .inr ⟨rfl,?_⟩;exact zO [.tmp 2] (hq:=by (try simp only[df,aX]);first | done | (rw[hv,hmid,j1,j2];rfl))
  refine(zs) ?_;refine aq.r0 (by rfl) (by simp only[bI,bj,ah,an,al,ax,↓reduceIte,ac,af,aj,ad,ap,ae,ai,aN,j1,j2];first | done | rfl) ?_;refine(iY) ?_;have hr:=hrest _ _ _ _ _ _ _ _ _ _ _ _ _ _ (show e.rest=_ by unfold bH.rest;rw[ul n1,ul n2,t8 k6'])
  have hnm:e.names=[e.key]:=by unfold bH.names;rw[ul n1,ul n2,t8 k6']
  refine .inl ⟨rfl,by rw[hmid,j1,j2];rfl,?_⟩;rw[hr,hnm];exact Fg.trans (Fg.freeze (f':=[(3,.sl 1 1 [ab e.key]),(4,.ptr 2 0)]) 3 rfl (λh=>by cases h) zG) zH
 have n6:=wt k6
 have hnm:e.names=[]:=by unfold bH.names;rw[ul n1,ul n2,ul n6]
 refine(iY) ?_;cases k4:decide (e.op=4)
 ·have n4:=wt k4;refine(zN) ?_;have hr:=hrest _ _ _ _ _ _ _ _ _ _ _ _ _ _ (show e.rest=_ by unfold bH.rest;rw[ul n1,ul n2,ul n6,ul n4]);refine .inl ⟨rfl,by unfold bH.lq;rw[ul n1,ul n2,ul n6,ul n4],?_⟩;rw[hr,hnm];exact Fg.trans (Fg.freeze (f':=[(3,.sl 0 1 []),(4,.ptr 2 0)]) 1 rfl (λh=>by cases h) zG) zH
 have k4':=ww k4
 have hmid:e.lq=e.use:=by unfold bH.lq;rw[ul n1,ul n2,ul n6,t8 k4']
 refine(zY) ?_;refine aq.fg (Fg.freeze (f':=[(1,.ip (aF e)),(3,.buf 1 0 1 (some 0)),(4,.ptr 2 0)]) 0 rfl (λh=>by cases h) (sh @aF.eq_1)) ?_;refine(iC @aF.eq_1)<|(zK (Bn (aa e.u1) (aa e.u2) (aa e.u3) (aa e.u4) (aa e.u5) (aa e.u6)) (hfl:=.inr (bl.refl rfl)))<|(zR) ?_
 (repeat refine aq.seq ?_)
 refine aq.block (aq.loop (λm st=>∃k:Nat,k<=3/\m=3-k/\(0<k->jW e.u1 e.u2=true)/\(1<k->jW e.u3 e.u4=true)/\(2<k->jW e.u5 e.u6=true)/\st=⟨[(3,.buf 1 0 1 (some 0)),(4,.ptr 2 0),(73,.ag [.ip [aa e.u1,aa e.u2,aa e.u3,aa e.u4,aa e.u5,aa e.u6],.ip [aa e.u3,aa e.u4,aa e.u5,aa e.u6],.ip [aa e.u5,aa e.u6]]),(74,aa k)],111,[.gone,.cells [],.cells [aa 0,aa 0,ab [],ab e.kind,ab e.bG,ab e.slot,ab e.key,ab e.value,aa e.u1,aa e.u2,aa e.u3,aa e.u4,aa e.u5,aa e.u6]],[]⟩) 3 zH ⟨0,by omega,rfl,λh=>t7 h (by omega),λh=>t7 h (by omega),λh=>t7 h (by omega),rfl⟩ (by rintro m st ⟨k,_,_,_,_,_,rfl⟩;rfl) ?_);rintro m st ⟨k,hk,rfl,u1,u2,u3,rfl⟩;refine(zV) ?_;by_cases hlt:k<3;rotate_left
 ·obtain rfl:k=3:=by omega
  refine(eN)<|(az (show dm prog 56=some (.agg [.int .i64 0,.int .i64 0,.int .i64 0,.int .i64 0,.int .i64 0,.int .i64 0]) by simp only[an])) ?_
  have hr:=hrest _ _ _ _ _ _ _ _ _ _ _ _ _ _ (show e.rest=_ by unfold bH.rest;rw[ul n1,ul n2,ul n6,t8 k4']);refine .inl ⟨rfl,by rw[hmid,bH.use,u1 (by omega),u2 (by omega),u3 (by omega)];rfl,?_⟩;rw[hr,hnm];exact Fg.trans (Fg.freeze (f':=[(3,.sl 0 1 []),(4,.ptr 2 0)]) 1 rfl (λh=>by cases h) zG) zH
 rw[show decide ((k:Int)<3)=true by simp only[wp];omega]
 obtain⟨a,b,l,hab,hno,hyes⟩:∃(a b:Int) (l:List SV),([.ip [aa e.u1,aa e.u2,aa e.u3,aa e.u4,aa e.u5,aa e.u6],.ip [aa e.u3,aa e.u4,aa e.u5,aa e.u6],.ip [aa e.u5,aa e.u6]]:List SV)[k*1]?=some (.ip (aa a::aa b::l))/\(jW a b=false->e.use=false)/\(jW a b=true->(0<k+1->jW e.u1 e.u2=true)/\(1<k+1->jW e.u3 e.u4=true)/\(2<k+1->jW e.u5 e.u6=true)):=by
  have:k=0\/k=1\/k=2:=by omega
  rcases this with rfl | rfl | rfl
  ·exact⟨_,_,_,rfl,λh=>by rw[bH.use,h];rfl,λh=>⟨λ_=>h,λh=>by omega,λh=>by omega⟩⟩
  ·exact⟨_,_,_,rfl,λh=>by rw[bH.use,h,bx,dd],λh=>⟨λ_=>u1 (by omega),λ_=>h,λh=>by omega⟩⟩
  ·exact⟨_,_,_,rfl,λh=>by rw[bH.use,h,dd,dd],λh=>⟨λ_=>u1 (by omega),λ_=>u2 (by omega),λ_=>h⟩⟩
 refine(gh)<|(zs) ?_;refine aq.r0 (by rfl) (by simp only[bI,bj,ah,an,al,ax,↓reduceIte,ac,af,aj,ad,ap,ae,ai,aN,hlt,hab];first | done | rfl) ?_
 cases c1:decide (a<0);rotate_left
 ·refine(zs) ?_;refine nQ [0,1,3,7,15,31,63,127,255,511,63,1087,3135,7231,16383,32767,65535,131071,262143,524287,1048575,2097151,4194303] ?_;refine(me c1)<|(zM)<|(cM) ?_;refine aq.ret ?_;refine .inr ⟨rfl,?_⟩;exact zO [.tmp 2] (hq:=by (try simp only[df,aX]);first | done | (rw[hv,hmid,hno (by simp[jW,ww c1])];rfl))
 cases c2:decide (b<a);rotate_left
 ·refine(zs) ?_;refine nQ [0,1,3,7,15,31,63,127,255,511,63,1087,3135,7231,16383,32767,65535,131071,262143,524287,1048575,2097151,4194303] ?_
  (repeat (first | refine SD.r (by rfl) rfl (by rfl) (by rfl) (by simp only[bI,bj,ah,an,al,ax,↓reduceIte,ac,af,aj,ad,ap,ae,ai,aN,c1,c2];first | done | rfl) ?_ | refine SD.s (by rfl) rfl (by rfl) (by rfl) ?_ | fail))
  refine(zM)<|(cM) ?_;refine aq.ret ?_;refine .inr ⟨rfl,?_⟩;exact zO [.tmp 2] (hq:=by (try simp only[df,aX]);first | done | (rw[hv,hmid,hno (by simp[jW,ww c2])];rfl))
 cases c3:decide (1000000<b);rotate_left
 ·refine(zs) ?_;refine nQ [0,1,3,7,15,31,63,127,255,511,63,1087,3135,7231,16383,32767,65535,131071,262143,524287,1048575,2097151,4194303] ?_;refine(me (n3 c1 c2 c3))<|(zM)<|(cM) ?_;refine aq.ret ?_;refine .inr ⟨rfl,?_⟩;exact zO [.tmp 2] (hq:=by (try simp only[df,aX]);first | done | (rw[hv,hmid,hno (by simp[jW,ww c3])];rfl))
 refine(zs) ?_;refine nQ [0,1,3,7,15,31,63,127,255,511,63,1087,3135,7231,16383,32767,65535,131071,262143,524287,1048575,2097151,4194303] ?_;refine(me (n3 c1 c2 c3))<|(zM)<|(zN) ?_
 obtain⟨y1,y2,y3⟩:=hyes (by rw[jW,c1,c2,c3];rfl);refine(az (qA (show -9223372036854775808<=(k:Int)+1/\(k:Int)+1<=9223372036854775807 from⟨by omega,by omega⟩))) ?_;refine⟨3-(k+1),_,by omega,zH,k+1,by omega,rfl,y1,y2,y3,rfl⟩
def JN(a b:List Nat):List Nat:=cond (iD a b||vq a b) a b
def JL(a b:List Nat):List Nat:=cond (iD a b) b a
def cJ(e:bH):List (List Nat):=if gQ e=false then [] else if e.op=2 then [JN e.part e.bG,JL e.part e.bG] else [e.part]
def RN(a b:List Nat):tg false (.str a) (.str b)=some (.str (JN a b)):=rfl
def RJ(a b:List Nat):tg true (.str a) (.str b)=some (.str (JL a b)):=rfl
def vf(e:bH)(he:qC e):PC prog 206 [.ag (aF e)] (·=ah 1 (Proofs.cJ e) (aw ab)):=by
 refine pB 25 Tryz.func206 ?_;refine(az @aF.eq_1)<|(zB)<|(zC)<|(zK (rz e he)) ?_
 cases h1:gQ e
 ·exact(zR)<|(cM)<|zo [.tmp 2] (r:=.sl 0 1 []) (hw:=zv) (hq:=by rw[Proofs.cJ,t8 h1];rfl)
 refine(zR)<|(iY) ?_
 cases h2:decide (e.op=2)
 ·exact(iY)<|zo [.tmp 2] (r:=.sl 1 1 [ab e.part]) (hw:=zv) (hq:=by rw[Proofs.cJ,ul (by rw[h1];decide),ul (wt h2)];rfl)
 ·exact(zY)<|(az (n2 @RN @RJ))<|zo [.tmp 2] (r:=.sl 2 1 [ab (JN e.part e.bG),ab (JL e.part e.bG)]) (hw:=zv) (hq:=by rw[Proofs.cJ,ul (by rw[h1];decide),t8 (ww h2)];rfl)
structure br where
 opts:List bH
 qK:Bool
def aB(r:br):List SV:=[ah 14 r.opts aF,au r.qK]
structure eh (r:br):Prop where
 len:r.opts.length<=1000000
 ev:∀e∈r.opts,qC e
def Uj(e:bH):AV:=.agg e.av
def Br{S:List SO}{o:Nat}{l:List (bH×Bool)}(a1 a2:Int)(a3 a4 a5 a6 a7 a8:List Nat)(a9 a10 a11 a12 a13 a14:Int)(ok:Bool)(hS:S[o]?=some (bB Uj au l)):ec prog S 118 (.map o) (.ag [aa a1,aa a2,ab a3,ab a4,ab a5,ab a6,ab a7,ab a8,aa a9,aa a10,aa a11,aa a12,aa a13,aa a14]) ok=some (cond ok (.bC [au (getM false (⟨a1,a2,a3,a4,a5,a6,a7,a8,a9,a10,a11,a12,a13,a14⟩:bH) l),au (dr (⟨a1,a2,a3,a4,a5,a6,a7,a8,a9,a10,a11,a12,a13,a14⟩:bH) l)]) (au (getM false (⟨a1,a2,a3,a4,a5,a6,a7,a8,a9,a10,a11,a12,a13,a14⟩:bH) l))):=
 CX (uv:=au) (u0:=false) (k:=(⟨a1,a2,a3,a4,a5,a6,a7,a8,a9,a10,a11,a12,a13,a14⟩:bH)) (kt:=58) (et:=4) (z:=.bool false) (by simp only[an]) Ij (by simp only[an]) rfl hS rfl ok
def Oc{S:List SO}{o:Nat}{l:List (bH×Bool)}(a1 a2:Int)(a3 a4 a5 a6 a7 a8:List Nat)(a9 a10 a11 a12 a13 a14:Int)(u:Bool)(hS:S[o]?=some (bB Uj au l)):fD prog S 118 (.map o) (.ag [aa a1,aa a2,ab a3,ab a4,ab a5,ab a6,ab a7,ab a8,aa a9,aa a10,aa a11,aa a12,aa a13,aa a14]) (.a (.bool u))=some (S.set o (bB Uj au (cr (⟨a1,a2,a3,a4,a5,a6,a7,a8,a9,a10,a11,a12,a13,a14⟩:bH) u l))):=
 HD (uv:=au) (k:=(⟨a1,a2,a3,a4,a5,a6,a7,a8,a9,a10,a11,a12,a13,a14⟩:bH)) (kt:=58) (et:=4) (by simp only[an]) Ij hS rfl u
def TL{n:Nat}{l:List (bH×Bool)}:bO n (bB Uj au l)=bB Uj au l:=kU λ_=>jr _
def ra:List (bH×Bool)->List bH->Bool
 | _,[]=>true
 | seen,e::es=>!(getM false e seen||!gQ e)&&ra (cr e true seen) es
def fX(r:br):Bool:=!(decide ((r.opts.length:Int)=0))&&(!(decide (4<(r.opts.length:Int)))&&ra [] r.opts)
def oA(r:br)(hr:eh r):PC prog 20 [.ag (aB r)] (·=au (Proofs.fX r)):=by
 have hlen:=hr.len;refine pB 35 Tryz.func20 ?_;refine(az @aB.eq_1) ?_;cases h1:decide ((r.opts.length:Int)=0);rotate_left
 ·exact(az h1)<|(cM)<|zo [.tmp 2] (hq:=by rw[Proofs.fX,h1];rfl)
 cases h2:decide (4<(r.opts.length:Int));rotate_left
 ·exact(az (n2 h1 h2))<|(cM)<|zo [.tmp 2] (hq:=by rw[Proofs.fX,h1,h2];rfl)
 refine(az (n2 h1 h2))<|(zN) ?_
 have hv:Proofs.fX r=ra [] r.opts:=by rw[Proofs.fX,h1,h2];rfl
 refine(mO)<|(zs) ?_;refine Oi r.opts (λk (seen:List (bH×Bool))=>ra [] r.opts=ra seen (r.opts.drop k)) (λk seen=>[(3,.map 1),(18,ah 14 r.opts aF),(19,aa r.opts.length),(20,aa k)]) (λk seen=>[.gone,bB Uj au seen]) ([]) zH (by rfl) ?_;intro k seen hk hall;refine zT r.opts k ?_ ?_;rintro rfl;rotate_left;intro e hx hlt;rotate_left
 ·exact(eN)<|(zV)<|zo [.tmp 2] (hq:=by rw[hv,hall,bi];rfl)
 have no:ra seen (r.opts.drop k)=false->Proofs.fX r=false:=λh=>by rw[hv,hall,h]
 rw[fC hx] at no hall;have he:=hr.ev e (mem_iff_getElem?.2 ⟨k,hx⟩)
 refine(gh)<|(az (n4 hlt (aH (e:=14) (enc:=aF) (λ_=>rfl) hx) @aF.eq_1 @TL)) ?_
 cases g1:getM false e seen;rotate_left
 ·have g1':getM false (⟨e.op,e.day,e.part,e.kind,e.bG,e.slot,e.key,e.value,e.u1,e.u2,e.u3,e.u4,e.u5,e.u6⟩:bH) seen=true:=g1;refine(zs) ?_;refine aq.r0 (by rfl) (by simp only[bI,bj,ah,an,al,ax,↓reduceIte,ac,af,aj,ad,ap,ae,ai,aN,Br (l:=seen),g1'];first | done | rfl) ?_;refine(zs) ?_;refine aq.yes rfl ?_;(try (refine aq.skip ?_;try change aq _ _ _ _ _));refine(zs) ?_;refine aq.r0 (by rfl) zl ?_;refine(zE) ?_;exact sP.of (rs:=[.tmp 2]) rfl rfl zl (Wk.refl rfl) (by (try simp only[df,aX]);first | done | (rw[no (by simp[ra,g1])]))
 have g1':getM false (⟨e.op,e.day,e.part,e.kind,e.bG,e.slot,e.key,e.value,e.u1,e.u2,e.u3,e.u4,e.u5,e.u6⟩:bH) seen=false:=g1;refine(zs) ?_;refine aq.Se (by rfl) (by simp only[bI,bj,ah,an,al,ax,↓reduceIte,ac,af,aj,ad,ap,ae,ai,aN,Br (l:=seen),g1'];first | done | rfl) ?_;refine(zK (rz e he)) ?_;cases g2:gQ e
 ·exact(zR)<|(cM)<|zo [.tmp 2] (hq:=by rw[no (by simp[ra,g2])])
 refine(zR)<|(zN) ?_
 have hn:ra [] r.opts=ra (cr e true seen) (r.opts.drop (k+1)):=by rw[hall,ra,g1,g2];rfl
 refine(zs) ?_;refine aq.r0 (by rfl) (by simp only[bI,bj,ah,an,al,ax,↓reduceIte,ac,af,aj,ad,ap,ae,ai,aN,Oc (l:=seen)];first | done | rfl) ?_;refine(az (zi hlt hlen)) ?_;refine I5 hlt (cr e true seen) zH hn
def bD(r:br):Int:=if fX r=false then 0 else if r.qK=true then (r.opts.length:Int)+1 else r.opts.length
def iM(r:br)(hr:eh r):PC prog 108 [.ag (aB r)] (·=aa (bD r)):=by
 refine pB 17 Tryz.func108 ?_;have hlen:=hr.len
 refine(az @aB.eq_1)<|(zB)<|(zC)<|(zK (oA r hr)) ?_
 cases h1:Proofs.fX r
 ·exact(zR)<|(cM)<|zo [.tmp 2] (hq:=by rw[bD,t8 h1])
 refine(zR)<|(iY) ?_
 cases h2:r.qK
 ·exact(iY)<|zo [.tmp 2] (hq:=by rw[bD,ul (by rw[h1];decide),ul (by rw[h2];decide)])
 ·refine(zY)<|(zs) ?_;refine aq.r0 (by rfl) (iZ (bA (r.opts.length:Int) 1 (by omega))) ?_;exact zo [.tmp 2] (hq:=by rw[bD,ul (by rw[h1];decide),t8 h2])
structure cA where
 key:List Nat
 value:List Nat
structure aI where
 name:List Nat
 kind:List Nat
 bG:List Nat
 slot:List Nat
 made:Int
 since:Int
 eP:Bool
 props:List cA
 l1:Int
 l2:Int
 l3:Int
 l4:Int
 l5:Int
 l6:Int
def aZ(p:cA):List SV:=[ab p.key,ab p.value]
def ak(p:aI):List SV:=[ab p.name,ab p.kind,ab p.bG,ab p.slot,aa p.made,aa p.since,au p.eP,ah 2 p.props aZ,aa p.l1,aa p.l2,aa p.l3,aa p.l4,aa p.l5,aa p.l6]
def aI.zero:aI:=⟨[],[],[],[],0,0,false,[],0,0,0,0,0,0⟩
def k8:List (List Nat)->Bool
 | a::b::r=>iD a b&&k8 (b::r)
 | _=>true
def AJ:∀{l:List (List Nat)},(∀(i:Nat) a b,l[i]?=some a->l[i+1]?=some b->iD a b=true)->k8 l=true
 | [],_=>rfl
 | [_],_=>rfl
 | a::b::r,h=>by
  rw[k8,h 0 a b rfl rfl,co];exact AJ λi x y h1 h2=>h (i+1) x y h1 h2
def EI:∀{l:List (List Nat)} {i:Nat} {a b:List Nat},l[i]?=some a->l[i+1]?=some b->iD a b=false->k8 l=false
 | [],i,_,_,h,_,_=>by simp at h
 | [_],i,_,_,_,h,_=>by simp at h
 | x::y::r,0,a,b,h1,h2,h3=>by cases h1;cases h2;rw[k8,h3];rfl
 | x::y::r,i+1,a,b,h1,h2,h3=>by
  rw[k8,EI (l:=y::r) (i:=i) h1 h2 h3,dd]
def Ec{α β:Type}{f:α->β}{l:List α}{i:Nat}{b:β}(h:(l.map f)[i]?=some b):∃a,l[i]?=some a/\f a=b:=by
 rw[bb] at h;obtain⟨a,h1,h2⟩:=ar h;exact⟨a,h1,h2⟩
def vb(s:List Nat):PC prog 184 [.ag (ab s::bY 1 .any)] (·=ab s):=by
 refine pB 5 Tryz.func184 ?_;refine(az rh)<|(zV)<|(zE) ?_;exact sP.of (rs:=[.tmp 2]) rfl rfl zl (Wk.refl rfl) zq
def Fv(l:List cA)(hlen:l.length<=1000000):PC prog 183 [ah 2 l aZ,.fn 184 [] []] (·=au (k8 (l.map cA.key))):=by
 refine pB 26 Tryz.func183 ?_;refine(mO) ?_
 (repeat refine aq.seq ?_)
 refine aq.block (aq.loop (λm st=>∃k:Nat,1<=k/\m=l.length-k/\(∀(i:Nat) a b,i+1<k->l[i]?=some a->l[i+1]?=some b->iD a.key b.key=true)/\st=⟨[(0,ah 2 l aZ),(1,.fn 184 [] []),(5,aa k)],26,[],[]⟩) (l.length-1) zH ⟨1,by omega,rfl,λi a b h=>t7 h (by omega),rfl⟩ (by rintro m st ⟨k,_,_,_,rfl⟩;rfl) ?_);rintro m st ⟨k,hk,rfl,hall,rfl⟩;refine(zV) ?_;by_cases hlt:k<l.length;rotate_left
 ·rw[show decide ((k:Int)<(l.length:Int))=false by simp only[wd];omega]
  refine(eN)<|(zV) ?_
  exact zo [.tmp 4] (hq:=by rw[AJ λi a b h1 h2=>by
   obtain⟨x,hx,rfl⟩:=Ec h1;obtain⟨y,hy,rfl⟩:=Ec h2
   exact hall i x y (by have:=bf hy;omega) hx hy])
 rw[show decide ((k:Int)<(l.length:Int))=true by simp only[wp];omega];obtain⟨j,rfl⟩:∃j,k=j+1:=⟨k-1,by omega⟩;obtain⟨x,hx⟩:∃x,l[j]?=some x:=⟨l[j],ay (by omega)⟩;obtain⟨y,hy⟩:∃y,l[j+1]?=some y:=⟨l[j+1],ay hlt⟩
 have hj:j<l.length:=by omega
 refine(gh)<|(zs) ?_;refine nQ [0,0,0,4,14,30,63,0,0,0,768,1792,4095,8191] ?_
 (repeat (first | refine SD.r (by rfl) rfl (by rfl) (by rfl) (iZ (n5 (bS (((j+1:Nat):Int)) 1 (by omega)) (show((j+1:Nat):Int)-1=(j:Int) from by omega) hj (aH (e:=2) (enc:=aZ) (λ_=>rfl) hx) @aZ.eq_1)) ?_ | refine SD.s (by rfl) rfl (by rfl) (by rfl) ?_ | fail))
 refine SD.k (by rfl) rfl rfl (by rfl) rfl rfl zc (vb x.key) (.cons (.ag (.cons (.a _) (.cons (.any _) .nil))) .nil) rfl ?_;refine(me (n3 hlt (aH (e:=2) (enc:=aZ) (λ_=>rfl) hy) @aZ.eq_1)) ?_;refine SD.k (by rfl) rfl rfl (by rfl) rfl rfl zc (vb y.key) (.cons (.ag (.cons (.a _) (.cons (.any _) .nil))) .nil) rfl ?_;refine(me @tN)<|(zM) ?_
 cases g:iD x.key y.key
 ·exact(cM)<|zo [.tmp 4] (hq:=by rw[EI (i:=j) (a:=x.key) (b:=y.key) (by rw[bb,hx];rfl) (by rw[bb,hy];rfl) g])
 ·refine(zN)<|(zs) ?_;refine aq.r0 (by rfl) (iZ (bA (((j+1:Nat):Int)) 1 (by omega))) ?_;refine⟨l.length-(j+1+1),_,by omega,zH,j+1+1,by omega,rfl,?_,rfl⟩
  intro i a b hi ha hb;by_cases hij:i=j
  ·subst hij;rw[hx] at ha;rw[hy] at hb;cases ha;cases hb;exact g
  ·exact hall i a b (by omega) ha hb
def u9(s:List Nat):PC prog 125 [.ag (ab s::bY 13 .any)] (·=ab s):=by
 refine pB 5 Tryz.func125 ?_;refine(az rh)<|(zV)<|(zE) ?_;exact sP.of (rs:=[.tmp 2]) rfl rfl zl (Wk.refl rfl) zq
def Fu(l:List aI)(hlen:l.length<=1000000):PC prog 124 [ah 14 l ak,.fn 125 [] []] (·=au (k8 (l.map aI.name))):=by
 refine pB 26 Tryz.func124 ?_;refine(mO) ?_
 (repeat refine aq.seq ?_)
 refine aq.block (aq.loop (λm st=>∃k:Nat,1<=k/\m=l.length-k/\(∀(i:Nat) a b,i+1<k->l[i]?=some a->l[i+1]?=some b->iD a.name b.name=true)/\st=⟨[(0,ah 14 l ak),(1,.fn 125 [] []),(5,aa k)],26,[],[]⟩) (l.length-1) zH ⟨1,by omega,rfl,λi a b h=>t7 h (by omega),rfl⟩ (by rintro m st ⟨k,_,_,_,rfl⟩;rfl) ?_);rintro m st ⟨k,hk,rfl,hall,rfl⟩;refine(zV) ?_;by_cases hlt:k<l.length;rotate_left
 ·rw[show decide ((k:Int)<(l.length:Int))=false by simp only[wd];omega]
  refine(eN)<|(zV) ?_
  exact zo [.tmp 4] (hq:=by rw[AJ λi a b h1 h2=>by
   obtain⟨x,hx,rfl⟩:=Ec h1;obtain⟨y,hy,rfl⟩:=Ec h2
   exact hall i x y (by have:=bf hy;omega) hx hy])
 rw[show decide ((k:Int)<(l.length:Int))=true by simp only[wp];omega];obtain⟨j,rfl⟩:∃j,k=j+1:=⟨k-1,by omega⟩;obtain⟨x,hx⟩:∃x,l[j]?=some x:=⟨l[j],ay (by omega)⟩;obtain⟨y,hy⟩:∃y,l[j+1]?=some y:=⟨l[j+1],ay hlt⟩
 have hj:j<l.length:=by omega
 refine(gh)<|(zs) ?_;refine nQ [0,0,0,4,14,30,63,0,0,0,768,1792,4095,8191] ?_
 (repeat (first | refine SD.r (by rfl) rfl (by rfl) (by rfl) (iZ (n5 (bS (((j+1:Nat):Int)) 1 (by omega)) (show((j+1:Nat):Int)-1=(j:Int) from by omega) hj (aH (e:=14) (enc:=ak) (λ_=>rfl) hx) @ak.eq_1)) ?_ | refine SD.s (by rfl) rfl (by rfl) (by rfl) ?_ | fail))
 refine SD.k (by rfl) rfl rfl (by rfl) rfl rfl zc (u9 x.name) (.cons (.ag (.cons (.a _) (.cons (.any _) (.cons (.any _) (.cons (.any _) (.cons (.any _) (.cons (.any _) (.cons (.any _) (.cons (.any _) (.cons (.any _) (.cons (.any _) (.cons (.any _) (.cons (.any _) (.cons (.any _) (.cons (.any _) .nil))))))))))))))) .nil) rfl ?_;refine(me (n3 hlt (aH (e:=14) (enc:=ak) (λ_=>rfl) hy) @ak.eq_1)) ?_;refine SD.k (by rfl) rfl rfl (by rfl) rfl rfl zc (u9 y.name) (.cons (.ag (.cons (.a _) (.cons (.any _) (.cons (.any _) (.cons (.any _) (.cons (.any _) (.cons (.any _) (.cons (.any _) (.cons (.any _) (.cons (.any _) (.cons (.any _) (.cons (.any _) (.cons (.any _) (.cons (.any _) (.cons (.any _) .nil))))))))))))))) .nil) rfl ?_;refine(me @tN)<|(zM) ?_
 cases g:iD x.name y.name
 ·exact(cM)<|zo [.tmp 4] (hq:=by rw[EI (i:=j) (a:=x.name) (b:=y.name) (by rw[bb,hx];rfl) (by rw[bb,hy];rfl) g])
 ·refine(zN)<|(zs) ?_;refine aq.r0 (by rfl) (iZ (bA (((j+1:Nat):Int)) 1 (by omega))) ?_;refine⟨l.length-(j+1+1),_,by omega,zH,j+1+1,by omega,rfl,?_,rfl⟩
  intro i a b hi ha hb;by_cases hij:i=j
  ·subst hij;rw[hx] at ha;rw[hy] at hb;cases ha;cases hb;exact g
  ·exact hall i a b (by omega) ha hb
def Ip{S:List SO}{o:Nat}{l:List (List Nat×Int)}(s:List Nat)(ok:Bool)(hS:S[o]?=some (bB AV.str aa l)):ec prog S 100 (.map o) (.a (.str s)) ok=some (cond ok (.bC [aa (getM 0 s l),au (dr s l)]) (aa (getM 0 s l))):=
 CX (uv:=aa) (u0:=0) (k:=s) (kt:=9) (et:=3) (z:=.int .i64 0) (by simp only[an]) fF (by simp only[an]) rfl hS rfl ok
def KR{S:List SO}{o:Nat}{l:List (List Nat×Int)}(s:List Nat)(u:Int)(hS:S[o]?=some (bB AV.str aa l)):fD prog S 100 (.map o) (.a (.str s)) (.a (.int .i64 u))=some (S.set o (bB AV.str aa (cr s u l))):=
 HD (uv:=aa) (kt:=9) (et:=3) (by simp only[an]) fF hS rfl u
def xI{S:List SO}{l:List (List Nat×Int)}(s:List Nat)(ok:Bool):ec prog S 100 (oI AV.str aa l) (.a (.str s)) ok=some (cond ok (.bC [aa (getM 0 s l),au (dr s l)]) (aa (getM 0 s l))):=
 PA (uv:=aa) (u0:=0) (k:=s) (kt:=9) (et:=3) (z:=.int .i64 0) (by simp only[an]) fF (by simp only[an]) rfl rfl ok
def sz:Nat->List (List Nat×Int)->List aI->List (List Nat×Int)
 | _,m,[]=>m
 | i,m,p::ps=>sz (i+1) (if dr p.name m=true then m else cr p.name i m) ps
def IX(ps:List aI):SV:=.ag [ah 14 ps ak,oI AV.str aa (sz 0 [] ps)]
def wS(ps:List aI)(hlen:ps.length<=1000000):PC prog 82 [.ag [ah 14 ps ak]] (·=IX ps):=by
 refine pB 37 Tryz.func82 ?_;refine(mO)<|(zV)<|(zs) ?_;refine Oi ps (λk (m0:List (List Nat×Int))=>sz 0 [] ps=sz k m0 (ps.drop k)) (λk m0=>[(2,.ptr 1 0),(3,.ptr 3 0),(13,ah 14 ps ak),(14,aa ps.length),(15,aa k)]) (λk m0=>[.gone,.cells [.a (.slice none 0 0 (some 0)),.a (.map none)],bB AV.str aa m0,.cells [ah 14 ps ak,.map 2]]) ([]) zH (by rfl) ?_;intro k m0 hk hall;refine zT ps k ?_ ?_;rintro rfl;rotate_left;intro x hx hlt;rotate_left
 ·exact(eN)<|(zV)<|zo [.cell 2 159] (r:=.ag [ah 14 ps ak,oI AV.str aa m0]) (hw:=Wk.ag (.cons (.sl _ _ _) (.cons (oC (λ_=>rfl) rfl) .nil))) (hq:=by rw[IX,hall,bi];rfl)
 rw[fC hx] at hall
 refine(gh)<|(az (n4 hlt (aH (e:=14) (enc:=ak) (λ_=>rfl) hx) @ak.eq_1 @TM))<|(zs) ?_;refine aq.r0 (by rfl) (by simp only[bI,bj,ah,an,al,ax,↓reduceIte,ac,af,aj,ad,ap,ae,ai,aN,Ip (l:=m0)];first | done | rfl) ?_;refine(zV) ?_
 cases h1:dr x.name m0
 ·refine(zY)<|(zs) ?_;refine aq.r0 (by rfl) (by simp only[bI,bj,ah,an,al,ax,↓reduceIte,ac,af,aj,ad,ap,ae,ai,aN,KR (l:=m0)];first | done | rfl) ?_;refine(az (zi hlt hlen)) ?_;refine I5 hlt (cr x.name (k:Int) m0) zH (show sz 0 [] ps=sz (k+1) (cr x.name (k:Int) m0) (ps.drop (k+1)) by rw[hall,sz,h1];rfl)
 ·refine(zN)<|(az (zi hlt hlen)) ?_;refine I5 hlt (m0) zH (show sz 0 [] ps=sz (k+1) m0 (ps.drop (k+1)) by rw[hall,sz,t8 h1])
def qT(ps:List aI)(m:List (List Nat×Int))(name:List Nat):Option aI:=if dr name m=true then ps[(getM 0 name m).toNat]? else none
def Uh(ps:List aI)(m:List (List Nat×Int)):Prop:=∀name,dr name m=true->∃k:Nat,getM 0 name m=(k:Int)/\k<ps.length
def qk(ps:List aI)(m:List (List Nat×Int))(name:List Nat)(hm:Uh ps m):PC prog 87 [.ag [ah 14 ps ak,oI AV.str aa m],ab name] (·=pw ak aI.zero (qT ps m name)):=by
 refine pB 23 Tryz.func87 ?_;refine(zV)<|(az @xI)<|(zV) ?_
 cases h1:dr name m
 ·exact(cM)<|iP [.cell 4 73,.tmp 5] (r:=.bC [.ag [ab [],ab [],ab [],ab [],aa 0,aa 0,au false,.sl 0 2 [],aa 0,aa 0,aa 0,aa 0,aa 0,aa 0],au false]) (hw:=zv) (hq:=by rw[qT,h1];rfl)
 obtain⟨k,hk,hlt⟩:=hm name h1;obtain⟨x,hx⟩:∃x,ps[k]?=some x:=⟨ps[k],ay hlt⟩
 exact(zN)<|(az (n4 hk hlt (aH (e:=14) (enc:=ak) (λ_=>rfl) hx) @ak.eq_1))<|iP [.cell 4 73,.tmp 5] (hq:=by rw[qT,t8 h1,hk,Int.toNat_natCast,hx];rfl)
def Jd:∀{ps l:List aI} {i:Nat} {m:List (List Nat×Int)},i+ps.length=l.length->Uh l m->Uh l (sz i m ps)
 | [],_,_,_,_,h=>h
 | p::ps,l,i,m,hl,h=>by
  rw[sz];refine Jd (by rw[length_cons] at hl;omega) ?_;split
  ·exact h
  ·intro name hn;by_cases e:name=p.name
   ·subst e;exact⟨i,by rw[ic,t8 rfl],by rw[length_cons] at hl;omega⟩
   ·rw[Ac,un e,cj] at hn;rw[ic,ul e];exact h name hn
def xV(a b:Int):Bool:=decide (0<=a)&&(decide (a<=b)&&decide (b<=1000000000000))
def re(x:cA):Bool:=cC x.key&&(!(decide (x.value=[]))&&decide ((x.value.length:Int)<=200))
def Bc(a b:Int):PC prog 181 [.ag [aa a,aa b]] (·=au (xV a b)):=by
 refine pB 18 Tryz.func181 ?_;refine(zV) ?_;cases h1:decide (0<=a)
 ·exact(az h1)<|zo [.tmp 2] (hq:=by rw[xV,h1];rfl)
 cases h2:decide (a<=b)
 ·exact(az (n2 h1 h2))<|zo [.tmp 2] (hq:=by rw[xV,h1,h2];rfl)
 ·exact(az (n2 h1 h2))<|zo [.tmp 2] (hq:=by rw[xV,h1,h2];rfl)
def Ob(x:cA)(hx:jA x.key):PC prog 182 [.ag (aZ x)] (·=au (re x)):=by
 refine pB 17 Tryz.func182 ?_;refine(az @aZ.eq_1)<|(zC)<|(zK (ft x.key hx)) ?_
 cases h1:cC x.key
 ·exact(zR)<|zo [.tmp 2] (hq:=by rw[re,h1];rfl)
 cases h2:decide (x.value=[]);rotate_left
 ·exact(cK h2)<|zo [.tmp 2] (hq:=by rw[re,h1,h2];rfl)
 ·exact(cK h2)<|zo [.tmp 2] (hq:=by rw[re,h1,h2];rfl)
structure gU (p:aI):Prop where
 name:jA p.name
 kind:jA p.kind
 bG:jA p.bG
 slot:jA p.slot
 len:p.props.length<=1000000
 prop:∀x∈p.props,jA x.key/\jA x.value
def k9(c:List aQ)(p:aI):Bool:=(e8 c p.kind).isSome&&(cC p.name&&(!(decide (p.made<0))&&(!(decide (p.since<p.made))&&(!(decide (40000<p.since))&&(!(decide (60<(p.props.length:Int)))&&(p.props.all re&&(k8 (p.props.map cA.key)&&(xV p.l1 p.l2&&(xV p.l3 p.l4&&xV p.l5 p.l6)))))))))
def OA{α:Type}{p:α->Bool}{l:List α}{k:Nat}{x:α}(h:l[k]?=some x):(l.drop k).all p=(p x&&(l.drop (k+1)).all p):=by rw[fC h,List.all_cons]
def KU(c:List aQ)(p:aI)(hc:c.length<=1000000)(hp:gU p):PC prog 126 [.ag [ah 3 c ao],.ag (ak p)] (·=au (k9 c p)):=by
 have hlen:=hp.len;refine pB 85 Tryz.func126 ?_
 obtain⟨q,b,h1,hb⟩:∃(q:aQ) (b:Bool),pw ao aQ.zero (e8 c p.kind)=.bC [.ag (ao q),au b]/\(e8 c p.kind).isSome=b:=by
  cases hf:e8 c p.kind with
  | none=>exact⟨aQ.zero,false,rfl,rfl⟩
  | some q=>exact⟨q,true,rfl,rfl⟩
 have hF:=nE c p.kind hc;rw[h1] at hF
 refine(az @ak.eq_1)<|(mO)<|(zC)<|(zK hF (hfl:=.inr (bl.refl rfl)))<|(cK @ao.eq_1) ?_
 cases b
 ·exact(xS)<|(zV)<|zo [.tmp 4] (hq:=by rw[k9,hb];rfl)
 refine(zC)<|(zK (ft p.name hp.name)) ?_
 cases h2:cC p.name
 ·exact(zR)<|(cM)<|zo [.tmp 4] (hq:=by rw[k9,hb,h2];rfl)
 cases h3:decide (p.made<0);rotate_left
 ·exact(cK h3)<|(cM)<|zo [.tmp 4] (hq:=by rw[k9,hb,h2,h3];rfl)
 cases h4:decide (p.since<p.made);rotate_left
 ·exact(cK (n2 h3 h4))<|(cM)<|zo [.tmp 4] (hq:=by rw[k9,hb,h2,h3,h4];rfl)
 cases h5:decide (40000<p.since);rotate_left
 ·exact(cK (n3 h3 h4 h5))<|(cM)<|zo [.tmp 4] (hq:=by rw[k9,hb,h2,h3,h4,h5];rfl)
 cases h6:decide (60<(p.props.length:Int));rotate_left
 ·exact(cK (n4 h3 h4 h5 h6))<|(cM)<|zo [.tmp 4] (hq:=by rw[k9,hb,h2,h3,h4,h5,h6];rfl)
 refine(cK (n4 h3 h4 h5 h6))<|(zN) ?_
 have hv:k9 c p=(p.props.all re&&(k8 (p.props.map cA.key)&&(xV p.l1 p.l2&&(xV p.l3 p.l4&&xV p.l5 p.l6)))):=by rw[k9,hb,h2,h3,h4,h5,h6];rfl
 refine(zV)<|(zs) ?_;refine zL p.props (λk=>p.props.all re=(p.props.drop k).all re) (λk=>[(3,.ptr 1 0),(5,.fn 181 [] []),(6,.fn 182 [] []),(50,ah 2 p.props aZ),(51,aa p.props.length),(52,aa k)]) (λk=>[.gone,.cells (ak p)]) (bK @ak.eq_1) (by rfl) ?_;intro k hk hall;refine zT p.props k ?_ ?_;rintro rfl;rotate_left;intro x hx hlt;rotate_left
 ·refine(eN) ?_;rw[bi] at hall
  refine(iC @ak.eq_1)<|(zK (Fv p.props hlen)) ?_
  cases g1:k8 (p.props.map cA.key)
  ·exact(zR)<|zo [.tmp 4] (hq:=by rw[hv,hall,g1];rfl)
  refine(zQ)<|(zK (Bc p.l1 p.l2)) ?_
  cases g2:xV p.l1 p.l2
  ·exact(zR)<|zo [.tmp 4] (hq:=by rw[hv,hall,g1,g2];rfl)
  refine(zQ)<|(zK (Bc p.l3 p.l4)) ?_
  cases g3:xV p.l3 p.l4
  ·exact(zR)<|zo [.tmp 4] (hq:=by rw[hv,hall,g1,g2,g3];rfl)
  exact(zQ)<|(zK (Bc p.l5 p.l6))<|(zR)<|zo [.tmp 4] (hq:=by rw[hv,hall,g1,g2,g3];rfl)
 rw[OA hx] at hall
 refine(gh)<|(az (n4 hlt (aH (e:=2) (enc:=aZ) (λ_=>rfl) hx) @aZ.eq_1 @ak.eq_1))<|(zC)<|(zK (Ob x (hp.prop x (mem_iff_getElem?.2 ⟨k,hx⟩)).1)) ?_
 cases g1:re x
 ·exact(zR)<|(cM)<|zo [.tmp 4] (hq:=by rw[hv,hall,g1];rfl)
 ·refine(zR)<|(zN)<|(az (zi hlt hlen)) ?_;refine zX hlt (bK @ak.eq_1) (show p.props.all re=(p.props.drop (k+1)).all re by rw[hall,g1];rfl)
structure iN where
 bG:List Nat
 slot:List Nat
 deriving DecidableEq
def iN.av(s:iN):List AV:=[.str s.bG,.str s.slot]
def AX(s:iN):AV:=.agg s.av
def iN.eq(a b:iN):gW gj a.av b.av=decide (a=b):=by
 obtain⟨a1,a2⟩:=a;obtain⟨b1,b2⟩:=b;simp only[iN.av,gW,gj,mS,ci,iN.mk.injEq,el]
def Bp:Keys prog 224 AX:=
 wa (ks:=[.s,.s]) (by kernel_rfl) (by simp only[an,ax]) (λ_=>rfl) iN.eq λ_=>rfl
def sO{S:List SO}{o:Nat}{l:List (iN×Bool)}(a b:List Nat)(ok:Bool)(hS:S[o]?=some (bB AX au l)):ec prog S 221 (.map o) (.ag [ab a,ab b]) ok=some (cond ok (.bC [au (getM false (⟨a,b⟩:iN) l),au (dr (⟨a,b⟩:iN) l)]) (au (getM false (⟨a,b⟩:iN) l))):=
 CX (uv:=au) (u0:=false) (k:=(⟨a,b⟩:iN)) (kt:=224) (et:=4) (z:=.bool false) (by simp only[an]) Bp (by simp only[an]) rfl hS rfl ok
def FA{S:List SO}{o:Nat}{l:List (iN×Bool)}(a b:List Nat)(u:Bool)(hS:S[o]?=some (bB AX au l)):fD prog S 221 (.map o) (.ag [ab a,ab b]) (.a (.bool u))=some (S.set o (bB AX au (cr (⟨a,b⟩:iN) u l))):=
 HD (uv:=au) (k:=(⟨a,b⟩:iN)) (kt:=224) (et:=4) (by simp only[an]) Bp hS rfl u
def pg{n:Nat}{l:List (iN×Bool)}:bO n (bB AX au l)=bB AX au l:=kU λ_=>jr _
def DC(a b:Bool):cS prog .neq 4 (.bool a) (.bool b)=some (.bool (!(a==b))):=by
 have h1:prog.eqGuardType prog.depth 4=false:=by kernel_rfl
 have h2:prog.underlying 4=some .bool:=by kernel_rfl
 have h3:lM prog 8 4 (.bool a) (.bool b)=some (a==b):=by unfold lM;rw[h2]
 show cond (prog.eqGuardType prog.depth 4) none ((lM prog 8 4 (.bool a) (.bool b)).map λb=>AV.bool (!b))=_;rw[h1,ai,h3];rfl
def xd(c:List aQ)(taken:List (iN×Bool))(p:aI):Option aI->Bool
 | some h=>!(p.eP||(h.eP||(getM false ⟨p.bG,p.slot⟩ taken||!wL c h.kind p.slot p.kind)))
 | none=>false
def gp(c:List aQ)(ps:List aI)(m:List (List Nat×Int)):List (iN×Bool)->List aI->Bool
 | _,[]=>true
 | taken,p::r=>k9 c p&&((decide (p.bG=[])==decide (p.slot=[]))&&cond (decide (p.bG=[])) (gp c ps m taken r) (xd c taken p (qT ps m p.bG)&&gp c ps m (cr ⟨p.bG,p.slot⟩ true taken) r))
def lX(c:List aQ)(ps:List aI):Bool:=mg c&&(!(decide (20000<(ps.length:Int)))&&(k8 (ps.map aI.name)&&gp c ps (sz 0 [] ps) [] ps))
def Mz(ps:List aI):Uh ps []:=λname h=>by cases h
def IK(c:List aQ)(ps:List aI)(hc:jI c)(hlen:ps.length<=1000000)(hps:∀p∈ps,gU p):PC prog 81 [.ag [ah 3 c ao],.ag [ah 14 ps ak]] (·=au (Proofs.lX c ps)):=by
 have hct:∀k∈c,k.bZ.length<=1000000/\∀s∈k.bZ,s.kinds.length<=1000000:=λk hk=>⟨(hc.kind k hk).2,λs hs=>(hc.slot k hk s hs).2⟩;have hy:Uh ps (sz 0 [] ps):=Jd (by omega) (Mz ps)
 refine pB 94 Tryz.func81 ?_;refine(kK)<|(zK (oz c hc)) ?_
 cases h1:mg c
 ·exact(zR)<|(cM)<|zo [.tmp 4] (hq:=by rw[Proofs.lX,h1];rfl)
 cases h2:decide (20000<(ps.length:Int));rotate_left
 ·exact(cK h2)<|(cM)<|zo [.tmp 4] (hq:=by rw[Proofs.lX,h1,h2];rfl)
 refine(Sy h2)<|(zK (Fu ps hlen)) ?_
 cases h3:k8 (ps.map aI.name)
 ·exact(zR)<|(cM)<|zo [.tmp 4] (hq:=by rw[Proofs.lX,h1,h2,h3];rfl)
 refine(zR)<|(zN) ?_
 have hv:Proofs.lX c ps=gp c ps (sz 0 [] ps) [] ps:=by rw[Proofs.lX,h1,h2,h3];rfl
 clear h1 h2 h3
 refine(zC)<|(zK (wS ps hlen) (hfl:=.inr (bl.refl rfl))) ?_
 generalize hM:sz 0 [] ps=M at hv hy
 refine(cK (n2 @IX.eq_1 hM))<|(mO)<|(zs) ?_;refine Oi ps (λk (taken:List (iN×Bool))=>gp c ps M [] ps=gp c ps M taken (ps.drop k)) (λk taken=>[(2,.ptr 0 0),(5,.ptr 2 0),(6,.map 3),(31,ah 14 ps ak),(32,aa ps.length),(33,aa k)]) (λk taken=>[.cells [ah 3 c ao],.gone,.cells [ah 14 ps ak,oI AV.str aa M],bB AX au taken]) ([]) zH (by rfl) ?_;intro k taken hk hall;refine zT ps k ?_ ?_;rintro rfl;rotate_left;intro p hx hlt;rotate_left
 ·exact(eN)<|(zV)<|zo [.tmp 4] (hq:=by rw[hv,hall,bi];rfl)
 have no:gp c ps M taken (ps.drop k)=false->Proofs.lX c ps=false:=λh=>by rw[hv,hall,h]
 rw[fC hx] at no hall;have hp:=hps p (mem_iff_getElem?.2 ⟨k,hx⟩)
 refine(gh)<|(az (n4 hlt (aH (e:=14) (enc:=ak) (λ_=>rfl) hx) @ak.eq_1 @pg))<|(zC)<|(zK (KU c p hc.len hp)) ?_
 cases g1:k9 c p
 ·exact(zR)<|(cM)<|zo [.tmp 4] (hq:=by rw[no (by simp[gp,g1])])
 cases g2:(decide (p.bG=[])==decide (p.slot=[]))
 ·exact(cK (n2 @DC g2))<|(cM)<|zo [.tmp 4] (hq:=by rw[no (by simp only[gp,g1,g2,co,bx])])
 refine(cK (n2 @DC g2))<|(iY) ?_
 cases g3:decide (p.bG=[]);rotate_left
 ·refine(zY) ?_;refine aq.exit ?_
  (try change aq _ _ _ _ _)
  refine(az (zi hlt hlen)) ?_;refine I5 hlt (taken) zH (show gp c ps M [] ps=gp c ps M taken (ps.drop (k+1)) by rw[hall,gp,g1,g2,g3];rfl)
 refine(zN) ?_
 have hpv:∀r,gp c ps M taken (p::r)=(xd c taken p (qT ps M p.bG)&&gp c ps M (cr ⟨p.bG,p.slot⟩ true taken) r):=by intro r;rw[gp,g1,g2,g3];rfl
 rw[hpv] at no hall;refine(zC) ?_;have hG:=qk ps M p.bG hy
 cases hg:qT ps M p.bG with
 | none=>
  rw[hg] at hG no
  exact(zK hG (hfl:=.inr (bl.refl rfl)))<|(cK (n4 @pw.eq_1 @ak.eq_1 @aI.zero.eq_1 @pg))<|(az @pg)<|(xS)<|(zV)<|zo [.tmp 4] (hq:=by rw[no rfl])
 | some h=>
  rw[hg] at hG no hall
  refine(zK hG (hfl:=.inr (bl.refl rfl)))<|(cK (n3 @pw.eq_1 @ak.eq_1 @pg))<|(az @pg) ?_
  cases f1:p.eP;rotate_left
  ·exact(xS)<|(zV)<|zo [.tmp 4] (hq:=by rw[no (by simp[xd,f1])])
  cases f2:h.eP;rotate_left
  ·exact(xS)<|(zV)<|zo [.tmp 4] (hq:=by rw[no (by simp[xd,f2])])
  cases f3:getM false (⟨p.bG,p.slot⟩:iN) taken;rotate_left
  ·refine(zs) ?_;refine aq.r0 (by rfl) (by simp only[bI,bj,ah,an,al,ax,↓reduceIte,ac,af,aj,ad,ap,ae,ai,aN,sO (l:=taken),f3];first | done | rfl) ?_;exact(cM)<|zo [.tmp 4] (hq:=by rw[no (by simp[xd,f3])])
  refine(zs) ?_;refine aq.Se (by rfl) (by simp only[bI,bj,ah,an,al,ax,↓reduceIte,ac,af,aj,ad,ap,ae,ai,aN,sO (l:=taken),f3];first | done | rfl) ?_;refine(zK (xQ c h.kind p.slot p.kind hc.len hct)) ?_;cases f4:Proofs.wL c h.kind p.slot p.kind
  ·exact(zR)<|(cM)<|zo [.tmp 4] (hq:=by rw[no (by simp[xd,f4])])
  refine(zR)<|(zN)<|(zs) ?_;refine aq.r0 (by rfl) (by simp only[bI,bj,ah,an,al,ax,↓reduceIte,ac,af,aj,ad,ap,ae,ai,aN,FA (l:=taken)];first | done | rfl) ?_;refine(az (zi hlt hlen)) ?_;refine I5 hlt (cr ⟨p.bG,p.slot⟩ true taken) zH (show gp c ps M [] ps=gp c ps M (cr ⟨p.bG,p.slot⟩ true taken) (ps.drop (k+1)) by rw[hall,show xd c taken p (some h)=true by simp[xd,f1,f2,f3,f4]];rfl)
def Ja(a b:Int):Int:=dO .i64 (a+b)
def A4(a b:Int):Int:=dO .i64 (a-b)
def Ns(a:Int):Int:=dO .i64 (0-a)
def yZ{P:Program}{t:TypeId}(a b:Int):cS P .add t (.int .i64 a) (.int .i64 b)=some (.int .i64 (Ja a b)):=rfl
def qF{P:Program}{t:TypeId}(a b:Int):cS P .sub t (.int .i64 a) (.int .i64 b)=some (.int .i64 (A4 a b)):=rfl
def lF(a b:Int):SV:=.ag [aa a,aa b]
def oa(a b:Int):Bool:=decide (-1000000000000<=a)&&(decide (a<=b)&&decide (b<=1000000000000))
def pE(a b:Int):PC prog 203 [lF a b] (·=au (oa a b)):=by
 refine pB 18 Tryz.func203 ?_;refine(az @lF.eq_1) ?_;cases h1:decide (-1000000000000<=a)
 ·exact(az h1)<|zo [.tmp 2] (hq:=by rw[oa,h1];rfl)
 cases h2:decide (a<=b)
 ·exact(az (n2 h1 h2))<|zo [.tmp 2] (hq:=by rw[oa,h1,h2];rfl)
 exact(az (n2 h1 h2))<|zo [.tmp 2] (hq:=by rw[oa,h1,h2];rfl)
def eX(a b:Int):Int:=if a<=b then a else b
def ee(a b:Int):Int:=if b<=a then a else b
def iJ(a b:Int):tg false (.int .i64 a) (.int .i64 b)=some (.int .i64 (eX a b)):=Hd
def fE(a b:Int):tg true (.int .i64 a) (.int .i64 b)=some (.int .i64 (ee a b)):=Hc
def T2(n:Int):Int:=ee (-1000000000000) (eX n 1000000000000)
def ry(n:Int):PC prog 205 [aa n] (·=aa (T2 n)):=by
 refine pB 6 Tryz.func205 ?_;exact(zV)<|(az (n2 @iJ @fE))<|zo [.tmp 2]
def kh(a b:Int):Int:=T2 (Ja a b)
def Eu(a b:Int):Int:=T2 (A4 a b)
def N9(a b:Int):PC prog 141 [aa a,aa b] (·=aa (kh a b)):=by
 refine pB 9 Tryz.func141 ?_;exact(zV)<|(iC @yZ)<|(zK (ry _))<|(zR)<|zo [.tmp 4]
def KL(a b:Int):PC prog 274 [aa a,aa b] (·=aa (Eu a b)):=by
 refine pB 9 Tryz.func274 ?_;refine(zV)<|(iC @qF)<|(zK (ry _))<|(zR)<|(zE) ?_;exact sP.of (rs:=[.tmp 4]) rfl rfl zl (Wk.refl rfl) zq
def CD{f:Int->Int->Int}{r:List Int}{j:Nat}{x y:Int}(h:r[j]?=some x):(r.take (j+1)).foldl f y=f ((r.take j).foldl f y) x:=by
 rw[d6,h,Option.toList_some,List.foldl_append];rfl
def SQ{p:Prop} (h:p:=by
  refine pB 25 vae ?_;refine(zV)<|(az (n2 @List.length_cons.{0} (show decide (((r.length+1:Nat):Int)<1)=false by simp only[wd];omega)))<|(zN)<|(az (n4 @List.length_cons.{0} @Nat.zero_lt_succ (aH (l:=a::r) (e:=1) (enc:=aw aa) (λ_=>rfl) (show(a::r)[0]?=some a from rfl)) @aw.eq_1))<|(zV) ?_
  (repeat refine aq.seq ?_)
  refine aq.block (aq.loop (λm st=>∃j:Nat,j<=r.length/\m=r.length-j/\st=⟨[(0,ah 1 (a::r) (aw aa)),(3,aa ((r.take j).foldl vaf a)),(4,aa ((j+1:Nat):Int))],25,[],[]⟩) r.length (bK (n2 @List.take_zero.{0} @List.foldl_nil.{0,0})) ⟨0,Nat.zero_le _,rfl,rfl⟩ (by rintro m st ⟨j,_,_,rfl⟩;rfl) ?_);rintro m st ⟨j,hj,rfl,rfl⟩;refine(az @List.length_cons.{0}) ?_;by_cases hlt:j<r.length;rotate_left
  ·rw[show decide (((j+1:Nat):Int)<((r.length+1:Nat):Int))=false by simp only[wd];omega]
   refine(eN)<|(zV) ?_
   obtain rfl:j=r.length:=by omega
   exact zo [.tmp 2] (hq:=by rw[List.take_length])
  rw[show decide (((j+1:Nat):Int)<((r.length+1:Nat):Int))=true by simp only[wp];omega];obtain⟨x,hx⟩:∃x,r[j]?=some x:=⟨r[j],List.getElem?_eq_getElem hlt⟩
  refine(gh)<|(az (n5 @List.length_cons.{0} (show j+1<r.length+1 by omega) (aH (l:=a::r) (i:=j+1) (e:=1) (enc:=aw aa) (λ_=>rfl) (show(a::r)[j+1]?=some x from hx)) @aw.eq_1 @vag))<|(zs) ?_;refine aq.r0 (by rfl) (iZ (bA (((j+1:Nat):Int)) 1 (by omega))) ?_;exact⟨r.length-(j+1),_,by omega,(Fg.less (by (simp only[bI,bj,dI,↓reduceIte,Nat.reduceEqDiff,CD hx])<;>(repeat' apply And.intro)<;>first | rfl | trivial) (by (simp only[bI,bj,or_true,true_or,CD hx])<;>(repeat' apply And.intro)<;>first | exact .inr rfl | exact .inl rfl | trivial)),j+1,by omega,rfl,rfl⟩):p:=h
open Go.Proofs.Tryz renaming func230 -> vae in
open Go.Proofs renaming eX -> vaf in
def KW(a:Int)(r:List Int)(hlen:r.length<1000000):PC prog 230 [ah 1 (a::r) (aw aa)] (·=aa (r.foldl eX a)):=by
 have vag:=@iJ;exact SQ
open Go.Proofs.Tryz renaming func231 -> vae in
open Go.Proofs renaming ee -> vaf in
def KV(a:Int)(r:List Int)(hlen:r.length<1000000):PC prog 231 [ah 1 (a::r) (aw aa)] (·=aa (r.foldl ee a)):=by
 have vag:=@fE;exact SQ
def xz(a:Int)(r:List Int)(hlen:r.length<1000000):PC prog 204 [ah 1 (a::r) (aw aa)] (·=lF (r.foldl eX a) (r.foldl ee a)):=by
 refine pB 8 Tryz.func204 ?_;exact(kK)<|(zK (KW a r hlen))<|(zQ)<|(zK (KV a r hlen))<|(zR)<|zo [.cell 2 54]
def fv(f:Int->Int->Int)(a b c d:Int):Int×Int:=
 if oa a b&&oa c d then (eX (eX (eX (f a c) (f a d)) (f b c)) (f b d),ee (ee (ee (f a c) (f a d)) (f b c)) (f b d)) else (0,0)
def oU(p:Int×Int):SV:=lF p.1 p.2
def wP(g:FuncId)(fn:Int->Int->Int)(hg:∀x y,PC prog g [aa x,aa y] (·=aa (fn x y)))(a b c d:Int):PC prog 140 [lF a b,lF c d,.fn g [] []] (·=oU (fv fn a b c d)):=by
 refine pB 46 Tryz.func140 ?_;refine(az @lF.eq_1)<|(zC)<|(zK (pE a b)) ?_
 cases h1:oa a b
 ·exact(zR)<|(cM)<|zo [.cell 6 54] (hq:=by rw[fv,h1];rfl)
 refine(zQ)<|(zK (pE c d)) ?_
 cases h2:oa c d
 ·exact(zR)<|(cM)<|zo [.cell 6 54] (hq:=by rw[fv,h1,h2];rfl)
 refine(zR)<|(zN)<|(zs) ?_;refine nQ [0,1,0,4,0,16,0,64,3,271,831,2047] ?_;exact(zD)<|(zM)<|(zC)<|(zK (hg a c))<|(zQ)<|(zK (hg a d))<|(zQ)<|(zK (hg b c))<|(zQ)<|(zK (hg b d))<|(zQ)<|(zK (xz (fn a c) [fn a d,fn b c,fn b d] (by show 3<1000000;omega)))<|(zR)<|zo [.cell 6 54] (hq:=by rw[fv,h1,h2];rfl)
def ql(a b c d:Int):PC prog 99 [lF a b,lF c d] (·=oU (fv kh a b c d)):=by
 refine pB 8 Tryz.func99 ?_;exact(az @lF.eq_1)<|(zC)<|(zK (wP 141 kh N9 a b c d))<|(cK (n2 @oU.eq_1 @lF.eq_1))<|zo [.cell 4 54]
def KB(a b c d:Int):PC prog 269 [lF a b,lF c d] (·=oU (fv Eu a b c d)):=by
 refine pB 8 Tryz.func269 ?_;exact(az @lF.eq_1)<|(zC)<|(zK (wP 274 Eu KL a b c d))<|(cK (n2 @oU.eq_1 @lF.eq_1))<|zo [.cell 4 54]
def mw(a b c d:Int):Int×Int:=if oa a b&&oa c d then (eX (eX (eX a b) c) d,ee (ee (ee a b) c) d) else (0,0)
def oy(a b c d:Int):PC prog 273 [lF a b,lF c d] (·=oU (mw a b c d)):=by
 refine pB 24 Tryz.func273 ?_;refine(az @lF.eq_1)<|(zC)<|(zK (pE a b)) ?_
 cases h1:oa a b
 ·exact(zR)<|(cM)<|zo [.cell 4 54] (hq:=by rw[mw,h1];rfl)
 refine(zQ)<|(zK (pE c d)) ?_
 cases h2:oa c d
 ·exact(zR)<|(cM)<|zo [.cell 4 54] (hq:=by rw[mw,h1,h2];rfl)
 exact(zR)<|(Sx)<|(zK (xz a [b,c,d] (by show 3<1000000;omega)))<|(zR)<|zo [.cell 4 54] (hq:=by rw[mw,h1,h2];rfl)
def uD(a b n:Int):Int:=if (!oa a b)||decide (b<=n) then 0 else if n<a then 2 else 1
def Ie(a b n:Int):PC prog 272 [lF a b,aa n] (·=aa (uD a b n)):=by
 refine pB 20 Tryz.func272 ?_;refine(az @lF.eq_1)<|(zB)<|(zC)<|(zK (pE a b)) ?_
 cases h1:oa a b
 ·exact(zR)<|(cM)<|zo [.tmp 4] (hq:=by rw[uD,h1];rfl)
 cases h2:decide (b<=n);rotate_left
 ·exact(cK h2)<|(cM)<|zo [.tmp 4] (hq:=by rw[uD,h1,h2];rfl)
 refine(cK h2)<|(zN) ?_
 cases h3:decide (n<a)
 ·exact(az h3)<|(iY)<|zo [.tmp 4] (hq:=by rw[uD,h1,h2,ul (wt h3)];rfl)
 ·exact(az h3)<|(cM)<|zo [.tmp 4] (hq:=by rw[uD,h1,h2,t8 (ww h3)];rfl)
end Go.Proofs
