/- Lemmas of this claim, each with its conditions. -/
import Derived.Test.YtchdmmkclcnmnaaGreatA6
import Derived.OrdersIn
import Derived.Below
import Derived.Lib.Bytealg
set_option linter.all false
open Nat (lor beq blt)
open Array (ext')
open Array renaming getD_eq_getD_getElem? -> aa, getElem?_toList -> af, replicate -> bb
open List renaming getD_eq_getElem?_getD -> ac, getElem?_cons_succ -> ag, mem_cons_self -> al, mem_cons_of_mem -> ap, filter_cons -> ax, getElem?_eq_getElem -> ay, length_cons -> a4, zip_cons_cons -> a6, range'_succ -> a7, foldl_cons -> a9, length_nil -> ba, mapM_cons -> bc
open Nat renaming le_refl -> ad, sub_zero -> bd
open Bool renaming false_eq_true -> aj, or_eq_true -> a8
open Option renaming getD_some -> a5
namespace Go.Ev
def AT{ops:Array Oper}{σ:Sg}{t:Tr AV}{n:Nat}{a:Act}{o:Oper}{b:Bool}(h:uK ops.toList t n o=some b)(ht:TR σ t n a.tmps):Region.wanted o (yielded ops a.tmps)=b:=by
 unfold uK at h;unfold Region.wanted;split at h
 ·rename_i hg;rw[hg];simpa using h
 ·rename_i j want hg;rw[hg];simp only;split at h
  ·rename_i d hd;obtain⟨hlt,h2⟩:=aL h;have hlt:=fW hlt
   have hd':(ops[j]?).bind (·.dst)=some d:=by rw[<-af];exact hd
   have hsz:d<a.tmps.size:=by rw[ht.1];exact hlt
   have hv:=ht.2 d;have hget:a.tmps[d]?=some (a.tmps[d]):=Array.getElem?_eq_getElem hsz;rw[aa,hget] at hv;simp only[a5] at hv
   have hy:yielded ops a.tmps j=match a.tmps[d] with | .bool b=>some b | _=>none:=by
    unfold yielded;rw[hd'];simp only[Option.bind_some,hget];cases a.tmps[d]<;>rfl
   rw[hy];generalize a.tmps[d]=v at hv;split at h2
   ·rename_i x hx;rw[hx] at hv;simp only[a5] at hv;cases hv;simp only[Option.some.injEq] at h2;subst h2;cases x<;>cases want<;>rfl
   ·rename_i hx;rw[hx] at hv;simp only[a5] at hv;obtain⟨vs,rfl,_⟩:=hv.IS;simp only[Option.some.injEq] at h2;subst h2;rfl
   ·rename_i hx;rw[hx] at hv;obtain⟨vs,rfl,_⟩:=V.IS (cs:=[]) hv;simp only[Option.some.injEq] at h2;subst h2;rfl
   ·simp at h2
  ·simp at h
def Uu:Ex->Exit->Prop
 | .normal,e=>e=.normal
 | .ret,e=>e=.ret
 | .exit id,e=>e=.exit id
 | .goto l,e=>e=.goto l
def J2{F:Fence}{n:Nat}{P:Program}{c:Code}{Q:Exit->Act->World->Prop}{a:Act}{w:World}(h:c.wpIn F n P (λe a w=>(∀l,e≠.goto l)/\Q e a w) a w):(Code.scope c).wpIn F n P Q a w:=by
 intro b k cs hro hb hr;have st1:step P (lone (b.atR a (.code (.scope c)::k)) cs w)=.next (lone (b.atR a (.code c::.inScope c::k)) cs w):=step_lone_go (by simp[stepG,stepG.exec,Frame.atR]);have h0:(lone (b.atR a (.code (.scope c)::k)) cs w).fenced P F:=fenced_calm hb hr rfl;obtain⟨e,a₁,w₁,⟨hng,hq⟩,harr⟩:=h b (.inScope c::k) cs hro hb hr
 cases e with
 | normal=>
  have st2:step P (lone (b.atR a₁ (.inScope c::k)) cs w₁)=.next (lone (b.atR a₁ k) cs w₁):=step_lone_go (by simp[stepG,stepG.exec,Frame.atR]);exact⟨.normal,a₁,w₁,hq,.head h0 st1 (StepsIn.trans harr (.one (fenced_calm hb hr rfl) st2))⟩
 | exit id=>
  have hx:exitTo id (.inScope c::k)=exitTo id k:=rfl
  exact⟨.exit id,a₁,w₁,hq,λk' hk=>.head h0 st1 (harr.1 k' (by rw[hx];exact hk)),
   λhr' hk=>let ⟨k₁,h1,h2⟩:=harr.2 hr' (by rw[hx];exact hk);⟨k₁,h1,.head h0 st1 h2⟩⟩
 | goto l=>exact t8 rfl (hng l)
 | ret=>exact⟨_,a₁,w₁,hq,.of_steps (.one h0 st1) harr⟩
 | panic ch=>exact⟨_,a₁,w₁,hq,.of_steps (.one h0 st1) harr⟩
 | outgrown=>exact⟨_,a₁,w₁,hq,.of_steps (.one h0 st1) harr⟩
def uj{σ:Sg}{h:H}{w:World}(hr:HR σ h w){id:Nat}{st:LoopState}{p:Option Code}{t:Tr AV}{n:Nat}{ps:Array Tmp}{x y:Code}{d:Nat}(hl:h.pC id=some (st,p,t,n,ps,x,y,d)):
 h.aR.get id=some (.loop st p t n ps x y d)/\∃q,σ id=some q/\∃f tmps qd,w.heap[q.b]?=some (.loop { state:=st,pending:=p,fn:=f,tmps,params:=ps,assign:=x,body:=y,defers:=qd.b })/\σ d=some qd/\TR σ t n tmps:=by
 unfold H.pC at hl;split at hl
 ·rename_i ho;simp only[Option.some.injEq,Prod.mk.injEq] at hl;obtain⟨rfl,rfl,rfl,rfl,rfl,rfl,rfl,rfl⟩:=hl;obtain⟨q,hq,f,tmps,qd,h1,h2,h3⟩:=hr.obj id _ ho;exact⟨ho,q,hq,f,tmps,qd,h1,h2,h3⟩
 ·simp at hl
def HR.newObj{σ:Sg}{h:H}{w:World}(hr:HR σ h w){o:AO}{ob:Obj}(hc:l7 o=false)(hor:OR (up σ h.next ⟨w.heap.size,0,0⟩) o ⟨w.heap.size,0,0⟩ (some ob)):
 HR (up σ h.next ⟨w.heap.size,0,0⟩) (h.newObj o).2 { w with heap:=w.heap.push ob }/\Ext σ (up σ h.next ⟨w.heap.size,0,0⟩) h (h.newObj o).2 w { w with heap:=w.heap.push ob }:=by
 obtain⟨k1,k2⟩:=hr.new (r:=0) (o:=o) (ob:=ob) (w':={ w with heap:=w.heap.push ob }) (λcs f hf=>by subst hf;simp[l7] at hc) hor rfl rfl rfl rfl
 have he:({ h.lay h.next o with next:=h.next+1 }:H)=(h.newObj o).2:=by
  unfold H.lay H.newObj;split
  ·simp[l7] at hc
  ·rfl
 rw[he] at k1 k2;exact⟨k1,k2⟩
def sY(P:Program):Prop:=∀(f:FuncId) (fn:Func),P.funcs[f]?=some fn->fn.body.isSome=true->(fn.name== "runtime.NumGoroutine")=false
def eb{P:Program}(hng:sY P){f:FuncId}{fn:Func}(hf:P.funcs[f]?=some fn)(hb:fn.body.isSome=true)(args:Array Value)(w:World):(callFunc f args).run P w=.ok (.enter f args) w:=by
 have h1:=hng f fn hf hb
 have h2:fn.body.isNone=false:=by cases h:fn.body<;>simp_all
 simp only[callFunc,Sem.run_bind,run_program,Result.andThen_ok,hf,h1,aj,if_false,h2,Sem.run_pure]
def LF{P:Program}{σ:Sg}{ro:Option Nat}{F:Fence}(hF:C2 σ ro F){ps:Array Tmp}{assign body:Code}{st st1:St}{id:Nat}{a:Act}{w:World}(hs:SR σ st a w)(hen:Df ro ps assign body st=some (id,st1))(fn:FuncId):
 ∃(lb:Nat) (mark:List Deferred) (w1:World) (σ1:Sg) (p:sW),(Instr.enterLoop fn a.tmps ps assign body F.round).run P w=.ok (lb,mark) w1/\σ1 id=some p/\p.b=lb/\
  SR σ1 st1 { a with defers:=mark++a.defers } w1/\Ext σ σ1 st.h st1.h w w1/\st1.n=st.n:=by
 cases ro with
 | none=>
  have hF':F=Fence.wide:=hF;subst hF';simp only[Df,Option.some.injEq,Prod.mk.injEq] at hen;obtain⟨rfl,rfl⟩:=hen;obtain⟨k1,k2⟩:=hs.h.newObj (o:=.ox false) (ob:=.deferred (some [])) rfl rfl
  obtain⟨k3,k4⟩:=k1.newObj (o:=.loop .ready none st.t st.n ps assign body st.h.next) (ob:=.loop { state:=.ready,pending:=none,fn:=fn,tmps:=a.tmps,params:=ps,assign:=assign,body:=body,defers:=w.heap.size }) rfl
   ⟨fn,a.tmps,⟨w.heap.size,0,0⟩,rfl,ng (k1.fresh _ (ad _)) _ _ (ej _ _ _),(hs.t.mono k2.le).mono (ng (k1.fresh _ (ad _)))⟩
  have hle:=(k2.trans k4).le;refine⟨w.heap.size+1,[{ target:=.collected w.heap.size,args:=#[] }],_,_,⟨w.heap.size+1,0,0⟩,?_,?_,rfl,⟨hs.t.mono hle,k3,?_⟩,k2.trans k4,rfl⟩
  ·have hr:Fence.wide.round=none:=rfl;rw[hr];simp only[Instr.enterLoop,Sem.run_bind,run_newObj,Result.andThen_ok,Sem.run_pure,Array.size_push]
  ·have:(w.heap.push (.deferred (some []))).size=w.heap.size+1:=by simp
   rw[<-this];exact ej _ _ _
  ·refine⟨⟨⟨w.heap.size,0,0⟩,ng (k1.fresh _ (ad _)) _ _ (ej _ _ _),rfl⟩,hs.ds.mono hle⟩
 | some l=>
  obtain⟨pl,hpl,rfl⟩:=hF;simp only[Df] at hen;obtain⟨r,hr,he⟩:=aq hen;simp only[Prod.mk.injEq] at he;obtain⟨rfl,rfl⟩:=he;obtain⟨ls,p0,t0,n0,ps0,a0,b0,d0⟩:=r;obtain⟨ho,q,hq,f0,tm0,qd,g1,g2,g3⟩:=uj hs.h hr;rw[hpl] at hq;cases hq
  obtain⟨k3,k4⟩:=hs.h.newObj (o:=.loop .ready none st.t st.n ps assign body d0) (ob:=.loop { state:=.ready,pending:=none,fn:=fn,tmps:=a.tmps,params:=ps,assign:=assign,body:=body,defers:=qd.b }) rfl
   ⟨fn,a.tmps,qd,rfl,ng (hs.h.fresh _ (ad _)) _ _ g2,hs.t.mono (ng (hs.h.fresh _ (ad _)))⟩
  refine⟨w.heap.size,[],_,_,⟨w.heap.size,0,0⟩,?_,ej _ _ _,rfl,⟨hs.t.mono k4.le,k3,hs.ds.mono k4.le⟩,k4,rfl⟩;have hr:(Fence.wide.inRound pl.b).round=some pl.b:=rfl;rw[hr];simp only[Instr.enterLoop,Instr.getLoop,Sem.run_bind,cA g1 (by simp),run_newObj,Result.andThen_ok,Sem.run_pure]
def sh:∀(aS:List AV) (i:Nat) (t:Tr AV) (j:Nat),(yg i aS t).get j=if i<=j/\j<i+aS.length then aS[j-i]? else t.get j
 | [],i,t,j=>by simp only[yg,ba];rw[un (by omega)]
 | a::aS,i,t,j=>by
  simp only[yg,sh aS (i+1) _ j,a4];by_cases h1:i+1<=j/\j<i+1+aS.length
  ·rw[ul h1,ul (by omega),show j-i=(j-(i+1))+1 by omega,ag]
  ·rw[un h1,dH];by_cases h2:j=i
   ·subst h2;rw[ul rfl,ul (by omega)];simp
   ·rw[un h2,un (by omega)]
def NF{σ:Sg}{args:List AV}{args':Array Value}(h:VL σ args args'.toList)(nt:Nat):
 TR σ (yg 0 args .nil) (args.length+(nt-args.length)) (args'++bb (nt-args'.size) undef):=by
 have hl:args.length=args'.size:=by simpa using h.1
 refine⟨by simp;omega,?_⟩;intro i;rw[sh,aa,Array.getElem?_append];by_cases hi:i<args.length
 ·rw[ul (by omega),ul (by omega)];obtain⟨v,h1,h2⟩:=h.get (ay hi)
  have h1':args'[i]?=some v:=by rw[<-af];exact h1
  rw[h1',bd,ay hi];exact h2
 ·rw[un (by omega),un (by omega),get_nil];rw[Array.getElem?_replicate];split
  ·exact V.kn
  ·exact V.kn
def F8{P:Program}{w:World}{α:Type}{σ:Sg}{f:α->Option AV}{g:α->Sem Value}(hfg:∀x a,f x=some a->∃v,(g x).run P w=.ok v w/\V σ a v):∀(l:List α) (aS:List AV),l.mapM f=some aS->
 ∃vs:List Value,(l.mapM g).run P w=.ok vs w/\VL σ aS vs
 | [],aS,h=>by simp at h;subst h;exact⟨[],by simp,.nil⟩
 | x::l,aS,h=>by
  rw[bc] at h
  cases h1:f x with
  | none=>simp[h1] at h
  | some a=>
   cases h2:l.mapM f with
   | none=>simp[h1,h2] at h
   | some bs=>
    simp[h1,h2] at h;subst h;obtain⟨v,k1,k2⟩:=hfg x a h1;obtain⟨vs,k3,k4⟩:=F8 hfg l bs h2;refine⟨v::vs,?_,.cons k2 k4⟩;rw[bc];simp only[Sem.run_bind,k1,Result.andThen_ok,k3,Sem.run_pure]
def tZ{P:Program}{σ:Sg}{t:Tr AV}{n:Nat}{h:H}{w:World}{fn:Func}{a:Act}{r:AV}(ht:TR σ t n a.tmps)(hr:HR σ h w)(hres:tY P t h fn.results.toList=some r):
 ∃v,(results fn a.tmps).run P w=.ok v w/\V σ r v:=by
 unfold tY at hres;obtain⟨aS,h1,h2⟩:=aq hres
 have hfg:∀(x:ResultVar) (y:AV),(match x with
  | ResultVar.tmp i=>ev t (.tmp i)
  | ResultVar.cell a tt=>match ev t (.tmp a) with
   | some (.ptr (some (id,off)))=>h.load P tt id off
   | _=>none)=some y->∃v,(match x with
  | .tmp t=>pure (a.tmps.getD t undef)
  | .cell q tt=>do loadVar tt (<-asAddr (a.tmps.getD q undef)):Sem Value).run P w=.ok v w/\V σ y v:=by
  intro x y hx
  cases x with
  | tmp i=>exact⟨_,rfl,ht.ev _ _ hx⟩
  | cell q tt=>
   simp only at hx;split at hx
   ·rename_i id off hq;have hV:=ht.ev _ _ hq;have he:a.eval (.tmp q)=a.tmps.getD q undef:=rfl;rw[he] at hV;generalize hg:a.tmps.getD q undef=v at hV
    cases hV with
    | ptr hp=>
     obtain⟨z,k1,k2⟩:=hr.F6 (P:=P) hx hp;exact⟨z,by simp only[hg,asAddr,Sem.run_bind,Sem.run_pure,Result.andThen_ok];exact k1,k2⟩
   ·simp at hx
 obtain⟨vs,k1,k2⟩:=F8 (P:=P) (w:=w) hfg fn.results.toList aS h1
 have hm:(fn.results.mapM λ
  | .tmp t=>pure (a.tmps.getD t undef)
  | .cell q tt=>do loadVar tt (<-asAddr (a.tmps.getD q undef)):Sem (Array Value)).run P w=.ok vs.toArray w:=by
  have e:∀(f:ResultVar->Sem Value),fn.results.mapM f=Functor.map List.toArray (fn.results.toList.mapM f):=by
   intro f;obtain⟨l⟩:=fn.results;exact List.mapM_toArray
  rw[e,Sem.run_map,k1];rfl
 refine⟨if h:vs.toArray.size=1 then vs.toArray[0] else .tuple vs.toArray,?_,?_⟩
 ·have key:(results fn a.tmps).run P w=(Result.ok vs.toArray w:Result (Array Value)).andThen (λvs w'=>.ok (if h:vs.size=1 then vs[0] else .tuple vs) w'):=by
   rw[<-hm];simp only[results,Sem.run_bind];rfl
  exact key
 ·split at h2
  ·rename_i v;subst h2;obtain⟨x,l,rfl,e1,e2⟩:=k2.dF;have:=e2.nD;subst this;simpa using e1
  ·rename_i hne;subst h2;have hl:=k2.1;by_cases hs:vs.toArray.size=1
   ·exfalso
    have:aS.length=1:=by simp at hs;omega
    match aS,this with
    | [v],_=>exact hne v rfl
   ·rw[dif_neg hs];exact .Oi k2
def th{e:Ex}(h:kJ e=true):e=.normal\/e=.ret:=by cases e<;>simp_all [kJ]
def lower{σ σ':Sg}{h0 h':H}{w w':World}(hr0:HR σ h0 w)(hr:HR σ' h' w')(hE:Ext σ σ' { h0 with low:=h0.next } h' w w'):
 HR σ' { h' with low:=gw h0.low h'.low } w'/\Ext σ σ' h0 { h' with low:=gw h0.low h'.low } w w':=by
 have hm:=dR h0.low h'.low;refine⟨⟨hr.obj,hr.fresh,hr.sep,hr.cg,Nat.le_trans hm.2 hr.y7⟩,⟨hE.le,hE.next,hE.size,hE.os,hE.tape,hE.output,hE.Sl,hE.frame,hm.1,λid h1 h2=>hE.same id (Nat.lt_of_lt_of_le h1 hm.2) h2,hE.mB,hE.dE⟩⟩
def uh{σ:Sg}:∀(ps:List Tmp) (args:List AV) (vs:List Value) (n:Nat) (t t1:Tr AV) (tmps:Array Value),jA (ps.zip args) n t=some t1->VL σ args vs->TR σ t n tmps->
 TR σ t1 n ((ps.zip vs).foldl (λ(tmps:Array Value) (x:Tmp×Value)=>tmps.setIfInBounds x.1 x.2) tmps)
 | [],args,vs,n,t,t1,tmps,h,hv,ht=>by
  simp only[List.zip_nil_left,jA,Option.some.injEq] at h;subst h;simpa using ht
 | p::ps,[],vs,n,t,t1,tmps,h,hv,ht=>by
  have:=hv.nD;subst this;simp only[List.zip_nil_right,jA,Option.some.injEq] at h;subst h;simpa using ht
 | p::ps,a::args,vs,n,t,t1,tmps,h,hv,ht=>by
  obtain⟨v,vs,rfl,h1,h2⟩:=hv.dF;simp only[a6,jA] at h;obtain⟨c1,h⟩:=aL h;simp only[a6,a9];have:=TR.put (a:={ tmps:=tmps,defers:=[] }) ht (fW c1) h1;exact uh ps args vs n _ t1 _ h h2 this
def MU{P:Program}{w:World}{b:Nat}{r:Loop}{args:Array Value}(hw:w.heap[b]?=some (.loop r))(hs:args.size=r.params.size):
 (Instr.yield b args).run P w=.ok (.round b r.fn ((r.params.zip args).foldl (λtmps (t,a)=>tmps.setIfInBounds t a) r.tmps) r.assign r.body) w:=by
 have:(args.size≠r.params.size)=False:=by simp[hs]
 simp only[Instr.yield,Instr.getLoop,Sem.run_bind,cA hw (by simp),Result.andThen_ok,Sem.run_pure,this,if_false]
def yh{P:Program}{w:World}{b:Nat}{r:Loop}(hw:w.heap[b]?=some (.loop r))(hs:r.state=.ready):
 (Instr.beginRound b).run P w=.ok () { w with heap:=w.heap.setIfInBounds b (.loop { r with state:=.busy }) }:=by
 simp only[Instr.beginRound,Instr.getLoop,Sem.run_bind,cA hw (by simp),Result.andThen_ok,Sem.run_pure,eo hw (by simp),hs]
def De{P:Program}{w:World}{b:Nat}{r:Loop}(hw:w.heap[b]?=some (.loop r))(j:Option Code):
 (Instr.endRound b j).run P w=.ok (.bool j.isNone) { w with heap:=w.heap.setIfInBounds b (.loop { r with state:=if j.isNone then .ready else .done,pending:=j }) }:=by
 simp only[Instr.endRound,Instr.getLoop,Sem.run_bind,cA hw (by simp),Result.andThen_ok,Sem.run_pure,eo hw (by simp)]
def yN(a b j:Nat):en (lor a b) j=(en a j||en b j):=Nat.testBit_or a b j
def Iv(n j:Nat):en (bit n) j=true↔n=j:=by
 unfold en bit;rw[Nat.testBit_two_pow];simp
def FT(j:Nat):en 0 j=false:=Nat.zero_testBit j
def IE(acc:List Nat)(o:Oper):Nat:=o.after.toList.foldl (λm e=>cond (Region.binds .any e) (lor m (lor (bit e.on) (acc.getD e.on 0))) m) 0
def pD(o:Oper)(rest:List Oper)(acc:List Nat):qC (o::rest) acc=qC rest (acc++[IE acc o]):=rfl
def FK{acc:List Nat}{j:Nat}:∀(l:List Edge) (m:Nat),en (l.foldl (λm e=>cond (Region.binds .any e) (lor m (lor (bit e.on) (acc.getD e.on 0))) m) m) j=true->
 en m j=true\/∃e∈l,Region.binds .any e=true/\(e.on=j\/en (acc.getD e.on 0) j=true)
 | [],m,h=>.inl h
 | e::l,m,h=>by
  rw[a9] at h
  rcases FK l _ h with h1 | ⟨e',h1,h2⟩
  ·cases hb:Region.binds .any e
   ·rw[hb,an] at h1;exact .inl h1
   ·rw[hb,ai,yN,yN,a8,a8] at h1
    rcases h1 with h1 | h1 | h1
    ·exact .inl h1
    ·exact .inr ⟨e,al ..,hb,.inl ((Iv _ _).1 h1)⟩
    ·exact .inr ⟨e,al ..,hb,.inr h1⟩
  ·exact .inr ⟨e',ap _ h1,h2⟩
def vC:∀(rest:List Oper) (acc:List Nat) (i:Nat),i<acc.length->(qC rest acc).getD i 0=acc.getD i 0
 | [],acc,i,h=>rfl
 | o::rest,acc,i,h=>by
  rw[pD,vC rest _ i (by simp;omega)];rw[ac,ac,List.getElem?_append_left h]
def F9:∀(rest:List Oper) (acc:List Nat) (k:Nat) (o:Oper),rest[k]?=some o->
 ∃acc':List Nat,(qC rest acc).getD (acc.length+k) 0=IE acc' o/\∀j,j<acc.length+k->acc'.getD j 0=(qC rest acc).getD j 0
 | [],acc,k,o,h=>by simp at h
 | o'::rest,acc,0,o,h=>by
  simp only[List.getElem?_cons_zero,Option.some.injEq] at h;subst h;refine⟨acc,?_,λj hj=>(vC _ _ _ (by omega)).symm⟩;rw[pD,vC rest _ _ (by simp)];simp[ac]
 | o'::rest,acc,k+1,o,h=>by
  rw[ag] at h;obtain⟨acc',h1,h2⟩:=F9 rest (acc++[IE acc o']) k o h;simp only[List.length_append,List.length_singleton] at h1 h2;refine⟨acc',?_,λj hj=>?_⟩
  ·rw[pD,show acc.length+(k+1)=acc.length+1+k by omega];exact h1
  ·rw[pD];exact h2 j (by omega)
def IF{ops:List Oper}{i:Nat}{o:Oper}(ho:ops[i]?=some o)(hb:∀e∈o.after.toList,Region.binds .any e=true->e.on<i){j:Nat}(hj:en ((qC ops []).getD i 0) j=true):
 ∃e∈o.after.toList,Region.binds .any e=true/\(e.on=j\/en ((qC ops []).getD e.on 0) j=true):=by
 obtain⟨acc',h1,h2⟩:=F9 ops [] i o ho;simp only[ba,Nat.zero_add] at h1 h2;rw[h1] at hj
 rcases FK _ _ hj with h | ⟨e,he,hbind,h⟩
 ·rw[FT] at h;cases h
 ·refine⟨e,he,hbind,?_⟩;rw[<-h2 e.on (hb e he hbind)];exact h
def tO{α:Type}:∀(l:List α) (k i:Nat),(e7 k l)[i]?=(l[i]?).map λx=>(k+i,x)
 | [],k,i=>by simp[e7]
 | x::xs,k,0=>by simp[e7]
 | x::xs,k,i+1=>by
  simp only[e7,ag,tO xs (k+1) i];cases xs[i]?<;>simp;omega
def cut(a:Act)(l:List Tmp):Act:={ tmps:=Array.ofFn (n:=a.tmps.size) λj=>if j.1∈l then a.tmps[j.1] else undef,defers:=[] }
def IH{o:Oper}{t:Tmp}(h:Operand.tmp t∈o.op.operands):t∈tmpsOf o:=
 List.mem_filterMap.2 ⟨.tmp t,by simpa using h,rfl⟩
def left(listed:Array Bool)(L:Nat):Nat:=((List.range L).filter λi=>!listed.getD i false).length
def filter_lt{α:Type}{p q:α->Bool}:∀(l:List α),(∀x∈l,q x=true->p x=true)->(∃x∈l,p x=true/\q x=false)->(l.filter q).length<(l.filter p).length
 | [],_,⟨x,hx,_⟩=>by simp at hx
 | y::l,h,⟨x,hx,hp,hq⟩=>by
  have hle:∀(l:List α),(∀x∈l,q x=true->p x=true)->(l.filter q).length<=(l.filter p).length:=by
   intro l
   induction l with
   | nil=>intro _;simp
   | cons z l ih=>
    intro h;have:=ih (λx hx=>h x (ap _ hx));have hz:=h z (al ..);rw[ax,ax];cases hqz:q z
    ·cases hpz:p z<;>simp<;>omega
    ·rw[hz hqz];simp;omega
  have h':∀x∈l,q x=true->p x=true:=λx hx=>h x (ap _ hx);rw[ax,ax]
  rcases List.mem_cons.1 hx with rfl | hx
  ·rw[hp,hq];have:=hle l h';simp;omega
  ·have:=filter_lt l h' ⟨x,hx,hp,hq⟩;have hy:=h y (al ..);cases hqy:q y
   ·cases hpy:p y<;>simp<;>omega
   ·rw[hy hqy];simp;omega
open Go.RowKit
def C3.mono{P:Program}{r:Result Next}{R R':Value->World->Prop}(h:C3 P r R)(hR:∀v w,R v w->R' v w):C3 P r R':=by
 cases r with
 | halt x w=>exact h.elim
 | ok x w=>
  cases x with
  | value v=>exact hR _ _ h
  | enter f args=>exact Calls.mono h λe w' ⟨v,he,hr⟩=>⟨v,he,hR _ _ hr⟩
  | round l f tmps a b=>exact λn=>RoundIn.mono (h n) λe w' ⟨v,he,hr⟩=>⟨v,he,hR _ _ hr⟩
  | _=>exact h.elim
def hz:H:={ aR:=.nil,dE:=.nil,next:=0,low:=0 }
def o8{σ:Sg}{h:H}{w w':World}(hr:HR σ h w)(hb:Below w.heap.size w w'):HR σ h w'/\Ext σ σ h h w w':=by
 refine⟨⟨λid o ho=>?_,hr.fresh,hr.sep,hr.cg,hr.y7⟩,⟨λ_ _ h=>h,ad _,hb.size,hb.os,hb.tape,hb.output,λid o p ho hp=>.inr ⟨id,o,p,ho,hp,rfl,λh=>h⟩,λb hlt _=>hb.block b hlt,ad _,λ_ _ _=>rfl,λ_ _ h=>h,λid cs _ ho=>.inr ⟨id,cs,ho⟩⟩⟩;obtain⟨p,hp,hor⟩:=hr.obj id o ho;exact⟨p,hp,by rw[hb.block _ (hr.lt ho hp)];exact hor⟩
def AX(P:Program)(f:FuncId)(k:XK):Prop:=∀args h a h',xA k args h=some (a,h')->∀σ w (args':Array Value),VL σ args args'.toList->HR σ h w->C3 P ((callFunc f args').run P w) (Uh σ h w [(a,h')])
def Q0{σ:Sg}{a:AV}{args':Array Value}(h:VL σ [a] args'.toList):∃x,args'=#[x]/\V σ a x:=by
 obtain⟨x,l,e,h1,h2⟩:=h.dF;have:=h2.nD;subst this;exact⟨x,ext' e,h1⟩
def E5{σ:Sg}{a b:AV}{args':Array Value}(h:VL σ [a,b] args'.toList):∃x y,args'=#[x,y]/\V σ a x/\V σ b y:=by
 obtain⟨x,l,e,h1,h2⟩:=h.dF;obtain⟨y,l,rfl,h3,h4⟩:=h2.dF;have:=h4.nD;subst this;exact⟨x,y,ext' e,h1,h3⟩
def AX.clone{P:Program}{f:FuncId}(hrun:∀(t:TypeId) (r:Nat) (es:Array MapEntry) (ck:Nat) (w:World),w.heap[r]?=some (.map es ck)->(callFunc f #[.iface t (.map (some r))]).run P w=.ok (.value (.iface t (.map (some w.heap.size)))) (w.alloc (.map es ck))):AX P f .clone:=by
 intro args h a h' hx σ w args' hv hr
 have hshape:∃t id es c,args=[.iface t (.map (some id))]/\h.mapOf id=some (es,c)/\a=.iface t (.map (some h.next))/\h'={ h.lay h.next (.map es c) with next:=h.next+1 }:=by
  unfold xA at hx
  split at hx<;>first
   | (obtain⟨⟨es,c⟩,h1,h2⟩:=aq hx;cases h2;exact⟨_,_,_,_,rfl,h1,rfl,rfl⟩)
   | simp_all
 obtain⟨t,id,es,c,rfl,hm,rfl,rfl⟩:=hshape;obtain⟨x,rfl,h1⟩:=Q0 hv
 cases h1 with
 | iface h1=>
  cases h1 with
  | @map _ p hp=>
   obtain⟨ho,es',hw,hE⟩:=hr.map hm hp;rw[hrun t p.b es' c w hw]
   obtain⟨k1,k2⟩:=hr.new (r:=0) (o:=.map es c) (ob:=.map es' c) (w':=w.alloc (.map es' c)) (λcs f hf=>by cases hf)
    ⟨es',rfl,by have:=hE.1;simpa using this,λi e m he hm=>by
     obtain⟨a1,a2,a3⟩:=hE.2 i e m he (by simpa using hm)
     exact⟨a1.mono (ng (hr.fresh _ (ad _))),a2.mono (ng (hr.fresh _ (ad _))),a3⟩⟩ rfl rfl rfl rfl
   exact⟨_,_,List.mem_singleton.2 rfl,_,.iface (.map (p:=⟨w.heap.size,0,0⟩) (ej _ _ _)),k1,k2⟩
def A4{P:Program}(hng:sY P){f:FuncId}{fn:Func}(hf:P.funcs[f]?=some fn)(hb:fn.body.isSome=true){args':Array Value}{w:World}{σ:Sg}{h:H}{a:AV}{v:Value}(hr:HR σ h w)(hV:V σ a v)
 (hc:Calls P f args' w λe w'=>e=.returned v/\Below w.heap.size w w'):C3 P ((callFunc f args').run P w) (Uh σ h w [(a,h)]):=by
 rw[eb hng hf hb];refine Calls.mono hc λe w' ⟨he,hb⟩=>⟨v,he,a,h,List.mem_singleton.2 rfl,σ,hV,?_⟩;exact o8 hr hb
noncomputable section
def rv(h:H)(r:Option AV):R (Option AV×H):=r.map λx=>[(some x,h)]
def SI(fs:List Func):Bool:=fs.all λfn=>!(fn.body.isSome&&fn.name== "runtime.NumGoroutine")
def Qm{P:Program}(h:SI P.funcs.toList=true):sY P:=by
 intro f fn hf hb
 have hm:fn∈P.funcs.toList:=by
  have h1:P.funcs.toList[f]?=some fn:=by rw[af];exact hf
  exact List.mem_of_getElem? h1
 have:=List.all_eq_true.1 h fn hm;rw[hb] at this;cases hn:fn.name== "runtime.NumGoroutine"
 ·rfl
 ·rw[hn] at this;simp at this
def idx_eq(c:Nat)(hc:c<256):∀(l:List UInt8) (i:Nat),gf c (l.map (·.toNat)) i=if Lib.indexByte l c.toUInt8 = -1 then -1 else Lib.indexByte l c.toUInt8+i
 | [],i=>rfl
 | b::l,i=>by
  have ih:=idx_eq c hc l (i+1);have hge:=Lib.indexByte_ge l c.toUInt8
  have he:Lib.indexByte (b::l) c.toUInt8=if b==c.toUInt8 then 0 else if Lib.indexByte l c.toUInt8 == -1 then -1 else Lib.indexByte l c.toUInt8+1:=rfl
  generalize Lib.indexByte (b::l) c.toUInt8=z at he;simp only[List.map_cons,gf]
  have hcc:(c.toUInt8).toNat=c:=by simp[Nat.toUInt8,UInt8.toNat_ofNat];omega
  cases hb:Nat.beq b.toNat c
  ·have hne:(b==c.toUInt8)=false:=by
    cases h:b==c.toUInt8
    ·rfl
    ·have e:=eq_of_beq h
     have:b.toNat=c:=by rw[e,hcc]
     rw[M1 this] at hb;cases hb
   rw[hne] at he;simp only[Bool.false_eq_true,if_false] at he;rw[an,ih];by_cases h1:Lib.indexByte l c.toUInt8 = -1
   ·have h2:(Lib.indexByte l c.toUInt8 == -1)=true:=by simpa using h1
    rw[h2] at he;simp only[if_true] at he;rw[ul h1,ul he]
   ·have h2:(Lib.indexByte l c.toUInt8 == -1)=false:=by simpa using h1
    rw[h2] at he;simp only[Bool.false_eq_true,if_false] at he;rw[un h1,un (by omega)];omega
  ·have h:(b==c.toUInt8)=true:=by
    have e:=cU hb;have:b=c.toUInt8:=UInt8.toNat_inj.1 (by rw[hcc];exact e);rw[this];exact beq_self_eq_true _
   rw[h] at he;simp only[if_true] at he;rw[ai,he];simp
def AX.indexByte{P:Program}{f:FuncId}(hrun:∀(x:ByteArray) (c:Int) (w:World),(callFunc f #[.string x,.int .u8 c]).run P w=.ok (.value (.int .i64 (Lib.indexByte x.data.toList c.toNat.toUInt8))) w):AX P f .indexByte:=by
 intro args h a h' hx σ w args' hv hr
 have hshape:∃s c,args=[.str s,.int .u8 (.ofNat c)]/\blt c 256=true/\a=.int .i64 (gf c s 0)/\h'=h:=by
  unfold xA at hx
  split at hx<;>first
   | (obtain⟨h1,h2⟩:=aL hx;cases h2;exact⟨_,_,rfl,h1,rfl,rfl⟩)
   | simp_all
 obtain⟨s,c,rfl,hc,rfl,rfl⟩:=hshape;obtain⟨x,y,rfl,h1,h2⟩:=E5 hv
 cases h1 with
 | @str _ sx hs=>
  cases h2;rw[hrun sx _ w,<-hs,idx_eq c (fW hc)];have e:(Int.ofNat c).toNat=c:=rfl;rw[e]
  have:(if Lib.indexByte sx.data.toList c.toUInt8 = -1 then -1 else Lib.indexByte sx.data.toList c.toUInt8+((0:Nat):Int))=Lib.indexByte sx.data.toList c.toUInt8:=by
   split
   ·rename_i h;exact h.symm
   ·omega
  rw[this];exact⟨_,_,List.mem_singleton.2 rfl,σ,.int _ _,hr,.refl _ _ _⟩
def EU(σ:Sg)(h:H)(w:World)(Q:AV->H->Prop)(v:Value)(w':World):Prop:=∃a h',Q a h'/\∃σ',V σ' a v/\HR σ' h' w'/\Ext σ σ' h h' w w'
def dC(P:Program)(f:Fn)(args:List AV)(h:H)(Q:AV->H->Prop):Prop:=match f with
 | .func g=>∀σ w (args':Array Value),VL σ args args'.toList->HR σ h w->C3 P ((callFunc g args').run P w) (EU σ h w Q)
 | .yield id=>∀σ w p (args':Array Value),σ id=some p->VL σ args args'.toList->HR σ h w->C3 P ((Instr.yield p.b args').run P w) (EU σ h w Q)
 | _=>False
def EU.mono{σ:Sg}{h:H}{w:World}{Q Q':AV->H->Prop}{v:Value}{w':World}(hq:∀a h',Q a h'->Q' a h')(hg:EU σ h w Q v w'):EU σ h w Q' v w':=
 let ⟨a,h',h1,h2⟩:=hg;⟨a,h',hq _ _ h1,h2⟩
def dC.mono{P:Program}{f:Fn}{args:List AV}{h:H}{Q Q':AV->H->Prop}(hc:dC P f args h Q)(hq:∀a h',Q a h'->Q' a h'):dC P f args h Q':=by
 cases f with
 | func g=>exact λσ w args' hv hr=>(hc σ w args' hv hr).mono λv w' hg=>hg.mono hq
 | yield id=>exact λσ w p args' hp hv hr=>(hc σ w p args' hp hv hr).mono λv w' hg=>hg.mono hq
 | _=>exact hc.elim
def AU(f:Nat->AV)(d:Nat)(v:AV):Nat->AV:=λi=>_root_.cond (beq i d) v (f i)
def HP(f:Nat->AV)(d:Option Tmp)(v:AV):Nat->AV:=match d with
 | none=>f
 | some d=>AU f d v
def uJ(f:Nat->AV)(d:Nat)(v:AV):AU f d v d=v:=by simp[AU]
def rJ(f:Nat->AV){d i:Nat}(v:AV)(h:i≠d):AU f d v i=f i:=by
 unfold AU;cases hb:beq i d
 ·rfl
 ·exact t8 (cU hb) h
noncomputable def dj(f:Nat->AV):Nat->Tr AV
 | 0=>.nil
 | n+1=>(dj f n).put n (some (f n))
def nd(f:Nat->AV):∀(n i:Nat),i<n->(dj f n).get i=some (f i)
 | 0,i,h=>by omega
 | n+1,i,h=>by
  unfold dj;by_cases e:i=n
  ·subst e;rw[cX]
  ·rw[bm _ _ e];exact nd f n i (by omega)
def As(f:Nat->AV):∀(n i:Nat),n<=i->(dj f n).get i=none
 | 0,i,_=>get_nil i
 | n+1,i,h=>by
  unfold dj;rw[bm _ _ (by omega)];exact As f n i (by omega)
def Rw{f:Nat->AV}{n i:Nat}(h:i<n):ev (dj f n) (.tmp i)=some (f i):=by
 simp only[ev,nd f n i h]
def P1{t:Tr AV}{f:FuncId}:ev t (.func f)=some (.fn (.func f) [] []):=rfl
structure gq where
 f:Nat->AV
 n:Nat
 h:H
 ds:List iV
def TF(σ:Sg)(f:Nat->AV)(n:Nat)(tmps:Array Value):Prop:=tmps.size=n/\∀i,i<n->V σ (f i) (tmps.getD i undef)
structure SF (σ:Sg) (st:gq) (a:Act) (w:World):Prop where
 t:TF σ st.f st.n a.tmps
 h:HR σ st.h w
 ds:QV σ st.ds a.defers
def TF.mono{σ σ':Sg}(hle:∀id p,σ id=some p->σ' id=some p){f:Nat->AV}{n:Nat}{tmps:Array Value}(h:TF σ f n tmps):TF σ' f n tmps:=
 ⟨h.1,λi hi=>(h.2 i hi).mono hle⟩
def TF.tr{σ:Sg}{f:Nat->AV}{n:Nat}{tmps:Array Value}(h:TF σ f n tmps):TR σ (dj f n) n tmps:=by
 refine⟨h.1,λi=>?_⟩
 rcases Nat.lt_or_ge i n with hi | hi
 ·rw[nd f n i hi];exact h.2 i hi
 ·rw[As f n i hi]
  have:tmps.getD i undef=undef:=by
   rw[aa,Array.getElem?_eq_none (by rw[h.1];exact hi)];rfl
  rw[this];exact V.kn
def TF.put{σ:Sg}{f:Nat->AV}{n:Nat}{a:Act}(h:TF σ f n a.tmps){d:Option Tmp}{x:AV}{v:Value}(hd:∀k,d=some k->k<n)(hv:V σ x v):TF σ (HP f d x) n (a.put d v).tmps:=by
 cases d with
 | none=>exact h
 | some d=>
  have:=TR.put (a:=a) h.tr (hd d rfl) hv;refine⟨this.1,λi hi=>?_⟩;have h2:=this.2 i;by_cases e:i=d
  ·subst e;rw[cX] at h2;rw[show HP f (some i) x i=x from uJ _ _ _];exact h2
  ·rw[bm _ _ e,nd f n i hi] at h2;rw[show HP f (some d) x i=f i from rJ _ _ e];exact h2
def SF.sr{σ:Sg}{st:gq}{a:Act}{w:World}(h:SF σ st a w):SR σ ⟨dj st.f st.n,st.n,st.h,st.ds⟩ a w:=⟨h.t.tr,h.h,h.ds⟩
def wj(d:Option Tmp)(n:Nat):Bool:=match d with
 | none=>true
 | some d=>blt d n
def FC{d:Option Tmp}{n:Nat}(h:wj d n=true):∀k,d=some k->k<n:=by
 intro k e;subst e;exact fW h
def SF.put{σ σ':Sg}{f:Nat->AV}{n:Nat}{h h':H}{ds:List iV}{a:Act}{w w':World}(hs:SF σ ⟨f,n,h,ds⟩ a w)(hle:∀id p,σ id=some p->σ' id=some p){d:Option Tmp}(hd:wj d n=true){x:AV}{v:Value}(hv:V σ' x v)(hr:HR σ' h' w'):
 SF σ' ⟨HP f d x,n,h',ds⟩ (a.put d v) w':=
 ⟨(hs.t.mono hle).put (FC hd) hv,hr,by rw[put_defers];exact hs.ds.mono hle⟩
def ET(P:Program)(ro:Option Nat)(o:Oper)(st:gq)(K:gq->Prop):Prop:=∀(F:Fence) (n:Nat) (σ:Sg) (a:Act) (w:World) (next:Act->World->Prop) (Q:Exit->Act->World->Prop),SF σ st a w->C2 σ ro F->
 (∀st' a' w' σ',K st'->SF σ' st' a' w'->Ext σ σ' st.h st'.h w w'->st'.n=st.n->next a' w')->o.wpIn F n P a w next Q
def rz:Op->Bool
 | .defer _=>false
 | _=>true
def leaves(f:Nat->AV)(n:Nat)(ds:List iV)(d:Option Tmp)(x:Option AV×H):gq:=⟨HP f d (match x.1 with | some v=>v | none=>kn),n,x.2,ds⟩
def ET.run{P:Program}{ro:Option Nat}{o:Oper}{f:Nat->AV}{m:Nat}{h:H}{ds:List iV}{K:gq->Prop}{outs:List (Option AV×H)}(hnd:rz o.op=true)(hd:wj o.dst m=true)(ho:eg P (dj f m) h o.op=some outs)
 (hk:∀x∈outs,K (leaves f m ds o.dst x)):ET P ro o ⟨f,m,h,ds⟩ K:=by
 intro F n σ a w next Q hs hF hnext
 refine⟨λf _=>hF.fn f,?_⟩;have hρ:=hs.sr.t.ev;have hsem:o.semAt F.round a.eval=execOp a.eval o:=Oper.semAt_eq _ _ _ (λc' hc'=>by rw[hc'] at hnd;simp[rz] at hnd);rw[hsem];obtain⟨r,h',hm,σ',x,w',hrun,hres,hh',hext⟩:=Qt (P:=P) hρ hs.h ho;rw[hrun];have hkk:=hk _ hm
 cases r with
 | some av=>
  obtain⟨v,rfl,hV⟩:=hres;exact hnext _ _ w' σ' hkk (hs.put hext.le hd hV hh') hext rfl
 | none=>
  have hres:x=.skip:=hres;subst hres;exact hnext _ _ w' σ' hkk (hs.put hext.le hd V.kn hh') hext rfl
def ET.call{P:Program}{ro:Option Nat}{o:Oper}{f:Nat->AV}{m:Nat}{h:H}{ds:List iV}{K:gq->Prop}{c:Call}{g:Fn}{xs cap:List AV}{Q':AV->H->Prop}(hop:o.op=.call c)(hdy:lj (.call c)=true)(hd:wj o.dst m=true)(hc:pg P (dj f m) c=some (g,xs,cap))
 (hq:dC P g (xs++cap) h Q') (hk:∀v h',Q' v h'->K ⟨HP f o.dst v,m,h',ds⟩):ET P ro o ⟨f,m,h,ds⟩ K:=by
 intro F n σ a w next Q hs hF hnext
 refine⟨λf _=>hF.fn f,?_⟩;have hρ:=hs.sr.t.ev;have hsem:o.semAt F.round a.eval=execOp a.eval o:=Oper.semAt_eq _ _ _ (λc' hc'=>by rw[hop] at hc';cases hc');rw[hsem]
 have hexec:(execOp a.eval o).run P w=((do let d <-resolve a.eval c o.type;invoke d.target d.args):Sem Next).run P w:=by
  cases c with
  | mk callee args ats=>cases callee with
   | builtin b=>simp[lj] at hdy
   | value g=>simp only[execOp,hop]
   | invoke r m=>simp only[execOp,hop]
 have fin:∀r,C3 P r (EU σ h w Q')->o.uponIn F n P a next Q r:=by
  intro r hf;refine QR hF hf ?_;rintro v w' ⟨av,h',hm,σ',hV,hh',hext⟩;exact hnext _ _ w' σ' (hk _ _ hm) (hs.put hext.le hd hV hh') hext rfl
 rw[hexec]
 rcases Ig hc hρ o.type (w:=w) with⟨g,args',rfl,hv,he⟩ | ⟨id,p,args',rfl,hp,hv,he⟩ | ⟨h1,h2⟩
 ·rw[he];exact fin _ (hq _ _ _ hv hs.h)
 ·rw[he];exact fin _ (hq _ _ _ _ hp hv hs.h)
 ·cases g with
  | func g=>exact t8 rfl (h1 g)
  | yield id=>exact t8 rfl (h2 id)
  | _=>exact hq.elim
def iN(P:Program)(ro:Option Nat)(all l:List Oper)(st:gq)(K:gq->Prop):Prop:=∀(ops:Array Oper) (i:Nat),ops.toList=all->ops.toList.drop i=l->∀(F:Fence) (n:Nat) (σ:Sg) (a:Act) (w:World) (Q:Exit->Act->World->Prop),
 SF σ st a w->C2 σ ro F->(∀st' a' w' σ',K st'->SF σ' st' a' w'->Ext σ σ' st.h st'.h w w'->st'.n=st.n->Q .normal a' w')->wpOpsIn F n P ops Q (List.range' i l.length) a w
def iN.nil{P:Program}{ro:Option Nat}{all:List Oper}{st:gq}{K:gq->Prop}(h:K st):iN P ro all [] st K:=
 λ_ _ _ _ _ _ σ a w _ hs _ hQ=>hQ st a w σ h hs (.refl _ _ _) rfl
def BQ{ops:Array Oper}{i:Nat}{o:Oper}{l:List Oper}(hd:ops.toList.drop i=o::l):ops[i]?=some o/\ops.toList.drop (i+1)=l:=by
 refine⟨?_,?_⟩
 ·rw[<-af];have:=congrArg (λl=>l[0]?) hd;simpa using this
 ·have:=congrArg List.tail hd;simpa [List.tail_drop] using this
def ke(ops:List Oper)(f:Nat->AV)(n:Nat)(o:Oper):Option Bool:=match o.guard with
 | none=>some true
 | some (j,want)=>match (ops[j]?).bind (·.dst) with
  | some d=>_root_.cond (blt d n) (match f d with
   | .bool b=>some (b==want)
   | .bE []=>some false
   | _=>none) none
  | none=>none
def C0{ops:List Oper}{f:Nat->AV}{n:Nat}{o:Oper}{b:Bool}(h:ke ops f n o=some b):uK ops (dj f n) n o=some b:=by
 unfold ke at h;unfold uK;split at h
 ·rename_i hg;rw[hg];exact h
 ·rename_i j want hg;rw[hg];simp only;split at h
  ·rename_i d hd;obtain⟨hlt,h2⟩:=aL h;rw[hd];simp only;rw[hlt,ai,nd f n d (fW hlt)];split at h2
   ·rename_i x hx;rw[hx];exact h2
   ·rename_i hx;rw[hx];exact h2
   ·simp at h2
  ·simp at h
def iN.cons{P:Program}{ro:Option Nat}{all:List Oper}{o:Oper}{l:List Oper}{st:gq}{K:gq->Prop}(hw:ke all st.f st.n o=some true)(h:ET P ro o st (λst'=>iN P ro all l st' K)):iN P ro all (o::l) st K:=by
 intro ops i ha hdd F n σ a w Q hs hF hQ;obtain⟨hoi,hdr⟩:=BQ hdd;rw[a4,a7];simp only[wpOpsIn,hoi];have hwt:=AT (by rw[ha];exact C0 hw) hs.t.tr;rw[hwt];simp only[if_true];refine h F n σ a w _ Q hs hF ?_;intro st' a' w' σ' hK hs' hE' hn';exact hK ops (i+1) ha hdr F n σ' a' w' Q hs' (hF.mono hE'.le) λst'' a'' w'' σ'' h1 h2 h3 h4=>hQ st'' a'' w'' σ'' h1 h2 (hE'.trans h3) (h4.trans hn')
def iN.skip{P:Program}{ro:Option Nat}{all:List Oper}{o:Oper}{l:List Oper}{f:Nat->AV}{m:Nat}{h:H}{ds:List iV}{K:gq->Prop}(hw:ke all f m o=some false)(hd:wj o.dst m=true)(hk:iN P ro all l ⟨HP f o.dst kn,m,h,ds⟩ K):iN P ro all (o::l) ⟨f,m,h,ds⟩ K:=by
 intro ops i ha hdd F n σ a w Q hs hF hQ;obtain⟨hoi,hdr⟩:=BQ hdd;rw[a4,a7];simp only[wpOpsIn,hoi];have hwt:=AT (by rw[ha];exact C0 hw) hs.t.tr;rw[hwt];simp only[aj,if_false];refine⟨λf _=>hF.fn f,?_⟩;exact hk ops (i+1) ha hdr F n σ _ w Q (hs.put (λ_ _ h=>h) hd V.kn hs.h) hF λst'' a'' w'' σ'' h1 h2 h3 h4=>hQ st'' a'' w'' σ'' h1 h2 h3 h4
def BD(σ:Sg)(h:H)(w:World)(N:Nat)(Q:Ex->gq->Prop):Exit->Act->World->Prop:=λe a' w'=>
 ∃ex st',Q ex st'/\Uu ex e/\∃σ',SF σ' st' a' w'/\Ext σ σ' h st'.h w w'/\st'.n=N
def kX(P:Program)(ro:Option Nat)(c:Code)(st:gq)(Q:Ex->gq->Prop):Prop:=∀(F:Fence) (n:Nat) (σ:Sg) (a:Act) (w:World),SF σ st a w->C2 σ ro F->c.wpIn F n P (BD σ st.h w st.n Q) a w
def kX.wide{P:Program}{ro:Option Nat}{c:Code}{st:gq}{Q:Ex->gq->Prop}(h:kX P ro c st Q){F:Fence}{n:Nat}{σ σ0:Sg}{a:Act}{w w0:World}{h0:H}{N:Nat}(hs:SF σ st a w)(hF:C2 σ ro F)(hE:Ext σ0 σ h0 st.h w0 w)(hN:st.n=N):
 c.wpIn F n P (BD σ0 h0 w0 N Q) a w:=
 wpIn_mono (h F n σ a w hs hF) λ_ _ _ ⟨ex,st',h1,h2,σ',h3,h4,h5⟩=>⟨ex,st',h1,h2,σ',h3,hE.trans h4,h5.trans hN⟩
def kX.mono{P:Program}{ro:Option Nat}{c:Code}{st:gq}{Q Q':Ex->gq->Prop}(h:kX P ro c st Q)(hq:∀e x,Q e x->Q' e x):kX P ro c st Q':=
 λF n σ a w hs hF=>wpIn_mono (h F n σ a w hs hF) λ_ _ _ ⟨ex,st',h1,h2⟩=>⟨ex,st',hq _ _ h1,h2⟩
def kX.skip{P:Program}{ro:Option Nat}{st:gq}{Q:Ex->gq->Prop}(h:Q .normal st):kX P ro .skip st Q:=λ_ _ _ _ _ hs _=>wpIn_skip ⟨.normal,st,h,rfl,_,hs,.refl _ _ _,rfl⟩
def kX.label{P:Program}{ro:Option Nat}{l:Nat}{st:gq}{Q:Ex->gq->Prop}(h:Q .normal st):kX P ro (.label l) st Q:=λ_ _ _ _ _ hs _=>wpIn_label ⟨.normal,st,h,rfl,_,hs,.refl _ _ _,rfl⟩
def kX.exit{P:Program}{ro:Option Nat}{id:Nat}{st:gq}{Q:Ex->gq->Prop}(h:Q (.exit id) st):kX P ro (.exit id) st Q:=λ_ _ _ _ _ hs _=>wpIn_exit ⟨.exit id,st,h,rfl,_,hs,.refl _ _ _,rfl⟩
def kX.ret{P:Program}{ro:Option Nat}{st:gq}{Q:Ex->gq->Prop}(h:Q .ret st):kX P ro .ret st Q:=λ_ _ _ _ _ hs _=>wpIn_ret ⟨.ret,st,h,rfl,_,hs,.refl _ _ _,rfl⟩
def kX.region{P:Program}{ro:Option Nat}{id:Nat}{ops:Array Oper}{st:gq}{Q:Ex->gq->Prop}(h:iN P ro ops.toList ops.toList st (Q .normal)):kX P ro (.region id ops false) st Q:=by
 intro F n σ a w hs hF;refine wpIn_region ?_;have:=h ops 0 rfl rfl F n σ a w (BD σ st.h w st.n Q) hs hF λst' a' w' σ' h1 h2 h3 h4=>⟨.normal,st',h1,rfl,σ',h2,h3,h4⟩;rw[List.range_eq_range'];simpa using this
def TE(P:Program)(ro:Option Nat)(y:Code)(Q:Ex->gq->Prop):Ex->gq->Prop
 | .normal,st=>kX P ro y st Q
 | e,st=>Q e st
def kX.seq{P:Program}{ro:Option Nat}{x y:Code}{st:gq}{Q:Ex->gq->Prop}(h:kX P ro x st (TE P ro y Q)):kX P ro (.seq x y) st Q:=by
 intro F n σ a w hs hF;refine wpIn_seq (wpIn_mono (h F n σ a w hs hF) ?_);rintro e a' w' ⟨ex,st',hq,hex,σ',hs',hE',hn'⟩
 cases ex with
 | normal=>
  have:e=.normal:=hex;subst this;exact kX.wide (st:=st') hq hs' (hF.mono hE'.le) hE' hn'
 | ret=>
  have:e=.ret:=hex;subst this;exact⟨_,st',hq,rfl,σ',hs',hE',hn'⟩
 | exit id=>
  have:e=.exit id:=hex;subst this;exact⟨_,st',hq,rfl,σ',hs',hE',hn'⟩
 | goto l=>
  have:e=.goto l:=hex;subst this;exact⟨_,st',hq,rfl,σ',hs',hE',hn'⟩
def kX.cond{P:Program}{ro:Option Nat}{c:Operand}{x y:Code}{st:gq}{Q:Ex->gq->Prop}{b:Bool}(hc:ev (dj st.f st.n) c=some (.bool b))(h1:b=true->kX P ro x st Q)(h2:b=false->kX P ro y st Q):kX P ro (.cond c x y) st Q:=by
 intro F n σ a w hs hF;have hv:=hs.sr.t.ev _ _ hc;generalize hg:a.eval c=v at hv;cases hv;cases b
 ·exact wpIn_cond_false hg (h2 rfl F n σ a w hs hF)
 ·exact wpIn_cond_true hg (h1 rfl F n σ a w hs hF)
def M5(id:Nat)(Q:Ex->gq->Prop):Ex->gq->Prop
 | .exit i,st=>if i=id then Q .normal st else Q (.exit i) st
 | e,st=>Q e st
def kX.block{P:Program}{ro:Option Nat}{id:Nat}{x:Code}{st:gq}{Q:Ex->gq->Prop}(h:kX P ro x st (M5 id Q)):kX P ro (.block id x) st Q:=by
 intro F n σ a w hs hF;refine wpIn_block (wpIn_mono (h F n σ a w hs hF) ?_);rintro e a' w' ⟨ex,st',hq,hex,σ',hs',hE',hn'⟩
 cases ex with
 | normal=>
  have:e=.normal:=hex;subst this;exact⟨_,st',hq,rfl,σ',hs',hE',hn'⟩
 | ret=>
  have:e=.ret:=hex;subst this;exact⟨_,st',hq,rfl,σ',hs',hE',hn'⟩
 | goto l=>
  have:e=.goto l:=hex;subst this;exact⟨_,st',hq,rfl,σ',hs',hE',hn'⟩
 | exit id'=>
  have:e=.exit id':=hex;subst this;simp only[Exit.inBlock];simp only[M5] at hq;by_cases hb:id'=id
  ·rw[ul hb] at hq ⊢;exact⟨_,st',hq,rfl,σ',hs',hE',hn'⟩
  ·rw[un hb] at hq ⊢;exact⟨_,st',hq,rfl,σ',hs',hE',hn'⟩
def r8{F:Fence}{n:Nat}{P:Program}{c:Code}{Q:Exit->Act->World->Prop}:∀{k m:Nat},k<=m->∀{a:Act} {w:World},Code.roundsIn F n P c Q k a w->Code.roundsIn F n P c Q m a w
 | 0,_,_,_,_,h=>h.elim
 | k+1,0,hk,_,_,_=>by omega
 | k+1,m+1,hk,a,w,h=>by
  rw[roundsIn_succ] at h ⊢;refine wpIn_mono h λe a w hq=>?_
  cases e with
  | normal=>exact r8 (by omega) hq
  | _=>exact hq
def Round(I:Nat->gq->Prop)(m:Nat)(Q:Ex->gq->Prop):Ex->gq->Prop
 | .normal,st=>∃k,k<m/\I k st
 | e,st=>Q e st
def kX.loop{P:Program}{ro:Option Nat}{x:Code}{st:gq}{Q:Ex->gq->Prop}(I:Nat->gq->Prop)(m:Nat)(h0:I m st)(h:∀m st,I m st->kX P ro x st (Round I m Q)):kX P ro (.loop x) st Q:=by
 intro F n σ a w hs hF
 have key:∀(m:Nat) (st1:gq),I m st1->st1.n=st.n->∀(σ1:Sg) (a1:Act) (w1:World),SF σ1 st1 a1 w1->Ext σ σ1 st.h st1.h w w1->Code.roundsIn F n P x (BD σ st.h w st.n Q) (m+1) a1 w1:=by
  intro m
  induction m using Nat.strongRecOn with
  | _ m ih=>
   intro st1 hI hn1 σ1 a1 w1 hs1 hE1;rw[roundsIn_succ];refine wpIn_mono (kX.wide (h m st1 hI) hs1 (hF.mono hE1.le) hE1 hn1) ?_;rintro e a' w' ⟨ex,st',hq,hex,σ',hs',hE',hn'⟩
   cases ex with
   | normal=>
    have:e=.normal:=hex;subst this;obtain⟨k,hk,hI'⟩:=hq;exact r8 (by omega) (ih k hk st' hI' hn' σ' a' w' hs' hE')
   | ret=>
    have:e=.ret:=hex;subst this;exact⟨_,st',hq,rfl,σ',hs',hE',hn'⟩
   | goto l=>
    have:e=.goto l:=hex;subst this;exact⟨_,st',hq,rfl,σ',hs',hE',hn'⟩
   | exit id'=>
    have:e=.exit id':=hex;subst this;exact⟨_,st',hq,rfl,σ',hs',hE',hn'⟩
 exact wpIn_loop_rounds (m+1) (key m st h0 rfl σ a w hs (.refl _ _ _))
def Ro(Q:Ex->gq->Prop):Ex->gq->Prop
 | .goto _,_=>False
 | e,st=>Q e st
def kX.scope{P:Program}{ro:Option Nat}{x:Code}{st:gq}{Q:Ex->gq->Prop}(h:kX P ro x st (Ro Q)):kX P ro (.scope x) st Q:=by
 intro F n σ a w hs hF;refine J2 (wpIn_mono (h F n σ a w hs hF) ?_);rintro e a' w' ⟨ex,st',hq,hex,σ',hs',hE',hn'⟩
 cases ex with
 | normal=>
  have:e=.normal:=hex;subst this;exact⟨by simp,_,st',hq,rfl,σ',hs',hE',hn'⟩
 | ret=>
  have:e=.ret:=hex;subst this;exact⟨by simp,_,st',hq,rfl,σ',hs',hE',hn'⟩
 | goto l=>exact hq.elim
 | exit id'=>
  have:e=.exit id':=hex;subst this;exact⟨by simp,_,st',hq,rfl,σ',hs',hE',hn'⟩
def rM(args:List AV):Nat->AV:=λi=>match args[i]? with
 | some v=>v
 | none=>kn
def J7{σ:Sg}{args:List AV}{args':Array Value}(h:VL σ args args'.toList)(nt:Nat):TF σ (rM args) (args.length+(nt-args.length)) (args'++bb (nt-args'.size) undef):=by
 have ht:=NF h nt;refine⟨ht.1,λi hi=>?_⟩;have:=ht.2 i;rw[sh] at this;unfold rM;by_cases hl:i<args.length
 ·rw[ul (by omega)] at this;rw[bd] at this
  cases hx:args[i]? with
  | none=>rw[List.getElem?_eq_none_iff] at hx;omega
  | some v=>rw[hx] at this;exact this
 ·rw[un (by omega),get_nil] at this;rw[List.getElem?_eq_none (by omega)];exact this
end
end Go.Ev
