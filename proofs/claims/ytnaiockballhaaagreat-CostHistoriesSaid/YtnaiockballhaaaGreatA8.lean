/- A part of the texts of this claim: every theorem says what it proves, with its conditions. -/
import Derived.Test.YtnaiockballhaaaGreatA7
import Derived.OrdersIn
import Derived.Below
import Derived.Lib.Bytealg
set_option linter.unusedSimpArgs false
set_option linter.unusedVariables false
set_option linter.unusedSectionVars false
open Nat (le_refl lor)
open Array (getD_eq_getD_getElem? ext' getElem?_toList toList_append toList_map)
open List (filter_cons mem_cons_self)
open Option (getD_some)
namespace Go.Ev
def PI(σ:Sg)(d:jd)(d':Deferred):Prop:=match d.fn with
 | none=>∃q,σ d.Db=some q/\d'={ target:=.collected q.b,args:=#[] }
 | some f=>∃g cap',f=.func g/\d'.target=.fn (.func g) cap'/\VL σ d.args d'.args.toList/\VL σ d.cap cap'.toList
def OC(σ:Sg):List jd->List Deferred->Prop
 | [],[]=>True
 | d::ds,d'::ds'=>PI σ d d'/\OC σ ds ds'
 | _,_=>False
theorem PI.mono{σ σ':Sg}(hle:∀id p,σ id=some p->σ' id=some p){d:jd}{d':Deferred}(h:PI σ d d'):PI σ' d d':=by
 unfold PI at *
 revert h
 cases d.fn with
 | none=>intro h;obtain⟨q,h1,h2⟩:=h;exact⟨q,hle _ _ h1,h2⟩
 | some f=>intro h;obtain⟨g,cap',h1,h2,h3,h4⟩:=h;exact⟨g,cap',h1,h2,h3.mono hle,h4.mono hle⟩
theorem OC.mono{σ σ':Sg}(hle:∀id p,σ id=some p->σ' id=some p):∀{ds:List jd} {ds':List Deferred},OC σ ds ds'->OC σ' ds ds'
 | [],[],_=>trivial
 | _::_,_::_,h=>⟨h.1.mono hle,OC.mono hle h.2⟩
structure SR (σ:Sg) (st:St) (a:Act) (w:World):Prop where
 t:TR σ st.t st.n a.tmps
 h:HR σ st.h w
 ds:OC σ st.ds a.defers
theorem TR.ev{σ:Sg}{t:Tr AV}{n:Nat}{a:Act}(h:TR σ t n a.tmps):∀x y,ev t x=some y->V σ y (a.eval x):=by
 intro x y hx
 cases x with
 | tmp i=>
  simp only[Ev.ev,Option.some.injEq] at hx;have:=h.2 i;simp only[Act.eval]
  cases hg:t.get i with
  | none=>rw[hg] at hx this;subst hx;exact this
  | some v=>rw[hg] at hx this;subst hx;exact this
 | const v=>exact K4 _ _ _ hx
 | func f=>
  simp only[Ev.ev,Option.some.injEq] at hx;subst hx;exact .fn (by simp) rfl (λi a v x _=>by simp at x) rfl (λi a v x _=>by simp at x)
 | global g=>simp[Ev.ev] at hx
theorem TR.put{σ:Sg}{t:Tr AV}{n:Nat}{a:Act}(h:TR σ t n a.tmps){d:Nat}{x:AV}{v:Value}(hd:d<n)(hv:V σ x v):TR σ (t.put d (some x)) n (a.put (some d) v).tmps:=by
 refine⟨by simp[Act.put,h.1],?_⟩;intro i;rw[dw];simp only[Act.put,getD_eq_getD_getElem?,Array.getElem?_setIfInBounds];by_cases hi:i=d
 ·subst hi;rw[if_pos rfl,if_pos rfl,if_pos (by rw[h.1];exact hd)];exact hv
 ·rw[if_neg hi,if_neg (λe=>hi e.symm)];have:=h.2 i;rw[getD_eq_getD_getElem?] at this;exact this
theorem put_defers(a:Act)(d:Option Tmp)(v:Value):(a.put d v).defers=a.defers:=by cases d<;>rfl
def BD(P:Program)(r:Result Next)(R:Value->World->Prop):Prop:=match r with
 | .ok (.value v) w'=>R v w'
 | .ok (.enter f args) w'=>Calls P f args w' (λe w''=>∃v,e=.returned v/\R v w'')
 | .ok (.round l f tmps a b) w'=>∀n,RoundIn Fence.wide n P l f tmps a b w' (λe w''=>∃v,e=.returned v/\R v w'')
 | _=>False
def Q4(σ:Sg)(h:H)(w:World)(outs:List (AV×H))(v:Value)(w':World):Prop:=∃a h',(a,h')∈outs/\∃σ',V σ' a v/\HR σ' h' w'/\Ext σ σ' h h' w w'
theorem yZ{F:Fence}{n l:Nat}{P:Program}{f:FuncId}{args:Array Value}{w:World}{R:Ending->World->Prop}(h:CallsIn F n P f args w R):CallsIn (F.inRound l) n P f args w R:=h
theorem zh{F:Fence}{n l k:Nat}{P:Program}{f:FuncId}{t:Array Value}{a b:Code}{w:World}{R:Ending->World->Prop}(h:RoundIn F n P k f t a b w R):RoundIn (F.inRound l) n P k f t a b w R:=h
def BC(σ:Sg)(ro:Option Nat)(F:Fence):Prop:=match ro with
 | none=>F=Fence.wide
 | some id=>∃p,σ id=some p/\F=Fence.wide.inRound p.b
theorem BC.mono{σ σ':Sg}(hle:∀id p,σ id=some p->σ' id=some p){ro:Option Nat}{F:Fence}(h:BC σ ro F):BC σ' ro F:=by
 cases ro with
 | none=>exact h
 | some id=>obtain⟨p,h1,h2⟩:=h;exact⟨p,hle _ _ h1,h2⟩
theorem BC.fn{σ:Sg}{ro:Option Nat}{F:Fence}(h:BC σ ro F)(f:FuncId):F.fn f:=by
 cases ro with
 | none=>rw[show F=Fence.wide from h];trivial
 | some id=>obtain⟨p,_,rfl⟩:=h;trivial
theorem BC.depth{σ:Sg}{ro:Option Nat}{F:Fence}(h:BC σ ro F):F.depth=none:=by
 cases ro with
 | none=>rw[show F=Fence.wide from h];rfl
 | some id=>obtain⟨p,_,rfl⟩:=h;rfl
theorem BC.calls{σ:Sg}{ro:Option Nat}{F:Fence}(h:BC σ ro F){n:Nat}{P:Program}{f:FuncId}{args:Array Value}{w:World}{R:Ending->World->Prop}(hc:Calls P f args w R):CallsIn F n P f args w R:=by
 cases ro with
 | none=>rw[show F=Fence.wide from h];exact callsIn_wide.2 hc
 | some id=>obtain⟨p,_,rfl⟩:=h;exact yZ (callsIn_wide.2 hc)
theorem BC.rounds{σ:Sg}{ro:Option Nat}{F:Fence}(h:BC σ ro F){n k:Nat}{P:Program}{f:FuncId}{t:Array Value}{a b:Code}{w:World}{R:Ending->World->Prop}(hc:RoundIn Fence.wide n P k f t a b w R):RoundIn F n P k f t a b w R:=by
 cases ro with
 | none=>rw[show F=Fence.wide from h];exact hc
 | some id=>obtain⟨p,_,rfl⟩:=h;exact zh hc
theorem Oz{P:Program}{σ:Sg}{ro:Option Nat}{F:Fence}(hF:BC σ ro F){n:Nat}{o:Oper}{a:Act}{next:Act->World->Prop}{Q:Exit->Act->World->Prop}{r:Result Next}{R:Value->World->Prop}
 (hf:BD P r R) (hn:∀v w',R v w'->next (a.put o.dst v) w'):o.uponIn F n P a next Q r:=by
 cases r with
 | halt h w=>exact hf.elim
 | ok x w'=>
  cases x with
  | value v=>exact hn v w' hf
  | enter f args=>
   have h2:=hF.calls (n:=n-1) hf;refine⟨λh=>by rw[hF.depth] at h;simp at h,h2.1,λcs hr=>?_⟩;obtain⟨e,w'',fr,⟨v,rfl,hR⟩,h3⟩:=h2.2 cs hr;exact⟨.returned v,w'',fr,hn v w'' hR,h3⟩
  | round l f tmps aS b=>
   refine⟨λh=>by rw[hF.depth] at h;simp at h,?_⟩
   exact(hF.rounds (hf (n-1))).mono λe w'' ⟨v,he,hR⟩=>by subst he;exact hn v w'' hR
  | _=>exact hf.elim
theorem Gx{P:Program}{t:Tr AV}{c:Call}{f:Fn}{xs cap:List AV}(h:nX P t c=some (f,xs,cap)){σ:Sg}{ρ:Operand->Value}(hρ:∀x a,ev t x=some a->V σ a (ρ x))(T:TypeId){w:World}:
 (∃g args',f=.func g/\VL σ (xs++cap) args'.toList/\((do let d <-resolve ρ c T;invoke d.target d.args):Sem Next).run P w=(callFunc g args').run P w)\/
 (∃id p args',f=.yield id/\σ id=some p/\VL σ (xs++cap) args'.toList/\((do let d <-resolve ρ c T;invoke d.target d.args):Sem Next).run P w=(Instr.yield p.b args').run P w)\/
 (∀g,f≠.func g)/\(∀id,f≠.yield id):=by
 unfold nX at h;obtain⟨callee,args,ats⟩:=c;simp only at h
 cases callee with
 | builtin b=>simp at h
 | value g=>
  simp only at h;split at h
  ·rename_i fn first cp hg
   obtain⟨ys,hy,he⟩:=au h;simp only[Prod.mk.injEq] at he;obtain⟨rfl,rfl,rfl⟩:=he;have hys:=oa hρ _ _ hy;have hV:=hρ _ _ hg;generalize hgv:ρ g=v at hV
   cases hV with
   | @fn _ _ _ fs' cs' hfy h1 h2 h3 h4=>
    have hfs:VL σ first fs'.toList:=⟨by simpa using h1,λi a v x y=>h2 i a v x (by simpa using y)⟩
    have hcs:VL σ cp cs'.toList:=⟨by simpa using h3,λi a v x y=>h4 i a v x (by simpa using y)⟩
    cases fn with
    | func k=>
     refine .inl ⟨k,fs'++args.map ρ++cs',rfl,?_,?_⟩
     ·simp only[toList_append,toList_map];exact(hfs.append hys).append hcs
     ·simp only[resolve,hgv,Deferred.ofValue,Sem.run_bind,Sem.run_pure,Result.andThen_ok,invoke]
    | yield l=>exact absurd rfl (hfy l)
    | method nm=>exact .inr (.inr ⟨by simp,by simp⟩)
    | methodOf tt nm=>exact .inr (.inr ⟨by simp,by simp⟩)
    | via tt p q b=>exact .inr (.inr ⟨by simp,by simp⟩)
   | @yield id p hp=>
    refine .inr (.inl ⟨id,p,#[]++args.map ρ,rfl,hp,?_,?_⟩)
    ·simp only[toList_append,toList_map,List.nil_append,List.append_nil];exact hys
    ·simp only[resolve,hgv,Deferred.ofValue,Sem.run_bind,Sem.run_pure,Result.andThen_ok,invoke]
  ·simp at h
 | invoke r name=>
  simp only at h;split at h
  ·rename_i tt v hr;obtain⟨g,hg,h⟩:=lM h;obtain⟨ys,hy,he⟩:=au h;simp only[Prod.mk.injEq] at he;obtain⟨rfl,rfl,rfl⟩:=he;have hys:=oa hρ _ _ hy;have hV:=hρ _ _ hr;generalize hgv:ρ r=rv at hV
   cases hV with
   | @iface _ _ vv hva=>
    obtain⟨i,m,d,hi,hf,hp,hfu,hu,hd⟩:=uZ hg;refine .inl ⟨g,#[vv]++args.map ρ,rfl,?_,?_⟩
    ·simp only[toList_append,toList_map,List.append_nil];exact .cons hva hys
    ·have hpath:m.path.toList=[]:=by
      have:=hp;simpa using this
     have hm:(method (P.types.size+Made.depth) tt vv name).run P w=.ok (g,vv) w:=by
      rw[show P.types.size+Made.depth=(P.types.size+99)+1 from rfl];generalize P.types.size+99=kk;simp only[method,Sem.run_bind,cY hi,Result.andThen_ok,hf,hpath,follow,Sem.run_pure,hfu,receiverAt,aN hu]
      cases d<;>first
       | rfl
       | exact absurd rfl (hd _)
     have he0:(#[Value.iface tt vv]++args.map ρ)[0]?=some (Value.iface tt vv):=by rw[Array.getElem?_append_left (by simp)];rfl
     have he1:(#[Value.iface tt vv]++args.map ρ).extract 1 (#[Value.iface tt vv]++args.map ρ).size=args.map ρ:=by
      apply ext';simp;exact List.take_of_length_le (by simp)
     simp only[resolve,hgv,Sem.run_bind,Sem.run_pure,Result.andThen_ok,invoke,he0,he1,callMethod,run_program,hm]
  ·simp at h
theorem yP{ops:Array Oper}{σ:Sg}{t:Tr AV}{n:Nat}{a:Act}{o:Oper}{b:Bool}(h:tx ops.toList t n o=some b)(ht:TR σ t n a.tmps):Region.wanted o (yielded ops a.tmps)=b:=by
 unfold tx at h;unfold Region.wanted;split at h
 ·rename_i hg;rw[hg];simpa using h
 ·rename_i j want hg;rw[hg];simp only;split at h
  ·rename_i d hd;obtain⟨hlt,h2⟩:=aK h;have hlt:=fQ hlt
   have hd':(ops[j]?).bind (·.dst)=some d:=by rw[<-getElem?_toList];exact hd
   have hsz:d<a.tmps.size:=by rw[ht.1];exact hlt
   have hv:=ht.2 d;have hget:a.tmps[d]?=some (a.tmps[d]):=Array.getElem?_eq_getElem hsz;rw[getD_eq_getD_getElem?,hget] at hv;simp only[getD_some] at hv
   have hy:yielded ops a.tmps j=match a.tmps[d] with | .bool b=>some b | _=>none:=by
    unfold yielded;rw[hd'];simp only[Option.bind_some,hget];cases a.tmps[d]<;>rfl
   rw[hy];generalize a.tmps[d]=v at hv;split at h2
   ·rename_i x hx;rw[hx] at hv;simp only[getD_some] at hv;cases hv;simp only[Option.some.injEq] at h2;subst h2;cases x<;>cases want<;>rfl
   ·rename_i hx;rw[hx] at hv;simp only[getD_some] at hv;obtain⟨vs,rfl,_⟩:=hv.G8;simp only[Option.some.injEq] at h2;subst h2;rfl
   ·rename_i hx;rw[hx] at hv;obtain⟨vs,rfl,_⟩:=V.G8 (cs:=[]) hv;simp only[Option.some.injEq] at h2;subst h2;rfl
   ·simp at h2
  ·simp at h
def Rk:Ex->Exit->Prop
 | .normal,e=>e=.normal
 | .ret,e=>e=.ret
 | .exit id,e=>e=.exit id
 | .goto l,e=>e=.goto l
theorem Ib{F:Fence}{n:Nat}{P:Program}{c:Code}{Q:Exit->Act->World->Prop}{a:Act}{w:World}(h:c.wpIn F n P (λe a w=>(∀l,e≠.goto l)/\Q e a w) a w):(Code.scope c).wpIn F n P Q a w:=by
 intro b k cs hro hb hr;have st1:step P (lone (b.atR a (.code (.scope c)::k)) cs w)=.next (lone (b.atR a (.code c::.inScope c::k)) cs w):=step_lone_go (by simp[stepG,stepG.exec,Frame.atR]);have h0:(lone (b.atR a (.code (.scope c)::k)) cs w).fenced P F:=fenced_calm hb hr rfl;obtain⟨e,a₁,w₁,⟨hng,hq⟩,harr⟩:=h b (.inScope c::k) cs hro hb hr
 cases e with
 | normal=>
  have st2:step P (lone (b.atR a₁ (.inScope c::k)) cs w₁)=.next (lone (b.atR a₁ k) cs w₁):=step_lone_go (by simp[stepG,stepG.exec,Frame.atR]);exact⟨.normal,a₁,w₁,hq,.head h0 st1 (StepsIn.trans harr (.one (fenced_calm hb hr rfl) st2))⟩
 | exit id=>
  have hx:exitTo id (.inScope c::k)=exitTo id k:=rfl
  exact⟨.exit id,a₁,w₁,hq,λk' hk=>.head h0 st1 (harr.1 k' (by rw[hx];exact hk)),
   λhr' hk=>let ⟨k₁,h1,h2⟩:=harr.2 hr' (by rw[hx];exact hk);⟨k₁,h1,.head h0 st1 h2⟩⟩
 | goto l=>exact absurd rfl (hng l)
 | ret=>exact⟨_,a₁,w₁,hq,.of_steps (.one h0 st1) harr⟩
 | panic ch=>exact⟨_,a₁,w₁,hq,.of_steps (.one h0 st1) harr⟩
 | outgrown=>exact⟨_,a₁,w₁,hq,.of_steps (.one h0 st1) harr⟩
theorem s8{σ:Sg}{h:H}{w:World}(hr:HR σ h w){id:Nat}{st:LoopState}{p:Option Code}{t:Tr AV}{n:Nat}{ps:Array Tmp}{x y:Code}{d:Nat}(hl:h.oi id=some (st,p,t,n,ps,x,y,d)):
 h.aQ.get id=some (.loop st p t n ps x y d)/\∃q,σ id=some q/\∃f tmps qd,w.heap[q.b]?=some (.loop { state:=st,pending:=p,fn:=f,tmps,params:=ps,assign:=x,body:=y,defers:=qd.b })/\σ d=some qd/\TR σ t n tmps:=by
 unfold H.oi at hl;split at hl
 ·rename_i ho;simp only[Option.some.injEq,Prod.mk.injEq] at hl;obtain⟨rfl,rfl,rfl,rfl,rfl,rfl,rfl,rfl⟩:=hl;obtain⟨q,hq,f,tmps,qd,h1,h2,h3⟩:=hr.obj id _ ho;exact⟨ho,q,hq,f,tmps,qd,h1,h2,h3⟩
 ·simp at hl
theorem HR.newObj{σ:Sg}{h:H}{w:World}(hr:HR σ h w){o:AO}{ob:Obj}(hc:lu o=false)(hor:OR (up σ h.next ⟨w.heap.size,0,0⟩) o ⟨w.heap.size,0,0⟩ (some ob)):
 HR (up σ h.next ⟨w.heap.size,0,0⟩) (h.newObj o).2 { w with heap:=w.heap.push ob }/\Ext σ (up σ h.next ⟨w.heap.size,0,0⟩) h (h.newObj o).2 w { w with heap:=w.heap.push ob }:=by
 obtain⟨k1,k2⟩:=hr.new (r:=0) (o:=o) (ob:=ob) (w':={ w with heap:=w.heap.push ob }) (λcs f hf=>by subst hf;simp[lu] at hc) hor rfl rfl rfl rfl
 have he:({ h.lay h.next o with next:=h.next+1 }:H)=(h.newObj o).2:=by
  unfold H.lay H.newObj;split
  ·simp[lu] at hc
  ·rfl
 rw[he] at k1 k2;exact⟨k1,k2⟩
def rK(P:Program):Prop:=∀(f:FuncId) (fn:Func),P.funcs[f]?=some fn->fn.body.isSome=true->(fn.name== "runtime.NumGoroutine")=false
theorem ff{P:Program}(hng:rK P){f:FuncId}{fn:Func}(hf:P.funcs[f]?=some fn)(hb:fn.body.isSome=true)(args:Array Value)(w:World):(callFunc f args).run P w=.ok (.enter f args) w:=by
 have h1:=hng f fn hf hb
 have h2:fn.body.isNone=false:=by cases h:fn.body<;>simp_all
 simp only[callFunc,Sem.run_bind,run_program,Result.andThen_ok,hf,h1,Bool.false_eq_true,if_false,h2,Sem.run_pure]
theorem JR{P:Program}{σ:Sg}{ro:Option Nat}{F:Fence}(hF:BC σ ro F){ps:Array Tmp}{assign body:Code}{st st1:St}{id:Nat}{a:Act}{w:World}(hs:SR σ st a w)(hen:BP ro ps assign body st=some (id,st1))(fn:FuncId):
 ∃(lb:Nat) (mark:List Deferred) (w1:World) (σ1:Sg) (p:rH),(Instr.enterLoop fn a.tmps ps assign body F.round).run P w=.ok (lb,mark) w1/\σ1 id=some p/\p.b=lb/\
  SR σ1 st1 { a with defers:=mark++a.defers } w1/\Ext σ σ1 st.h st1.h w w1/\st1.n=st.n:=by
 cases ro with
 | none=>
  have hF':F=Fence.wide:=hF;subst hF';simp only[BP,Option.some.injEq,Prod.mk.injEq] at hen;obtain⟨rfl,rfl⟩:=hen;obtain⟨k1,k2⟩:=hs.h.newObj (o:=.ni false) (ob:=.deferred (some [])) rfl rfl
  obtain⟨k3,k4⟩:=k1.newObj (o:=.loop .ready none st.t st.n ps assign body st.h.next) (ob:=.loop { state:=.ready,pending:=none,fn:=fn,tmps:=a.tmps,params:=ps,assign:=assign,body:=body,defers:=w.heap.size }) rfl
   ⟨fn,a.tmps,⟨w.heap.size,0,0⟩,rfl,mn (k1.fresh _ (le_refl _)) _ _ (dW _ _ _),(hs.t.mono k2.le).mono (mn (k1.fresh _ (le_refl _)))⟩
  have hle:=(k2.trans k4).le;refine⟨w.heap.size+1,[{ target:=.collected w.heap.size,args:=#[] }],_,_,⟨w.heap.size+1,0,0⟩,?_,?_,rfl,⟨hs.t.mono hle,k3,?_⟩,k2.trans k4,rfl⟩
  ·have hr:Fence.wide.round=none:=rfl;rw[hr];simp only[Instr.enterLoop,Sem.run_bind,run_newObj,Result.andThen_ok,Sem.run_pure,Array.size_push]
  ·have:(w.heap.push (.deferred (some []))).size=w.heap.size+1:=by simp
   rw[<-this];exact dW _ _ _
  ·refine⟨⟨⟨w.heap.size,0,0⟩,mn (k1.fresh _ (le_refl _)) _ _ (dW _ _ _),rfl⟩,hs.ds.mono hle⟩
 | some l=>
  obtain⟨pl,hpl,rfl⟩:=hF;simp only[BP] at hen;obtain⟨r,hr,he⟩:=au hen;simp only[Prod.mk.injEq] at he;obtain⟨rfl,rfl⟩:=he;obtain⟨ls,p0,t0,n0,ps0,a0,b0,d0⟩:=r;obtain⟨ho,q,hq,f0,tm0,qd,g1,g2,g3⟩:=s8 hs.h hr;rw[hpl] at hq;cases hq
  obtain⟨k3,k4⟩:=hs.h.newObj (o:=.loop .ready none st.t st.n ps assign body d0) (ob:=.loop { state:=.ready,pending:=none,fn:=fn,tmps:=a.tmps,params:=ps,assign:=assign,body:=body,defers:=qd.b }) rfl
   ⟨fn,a.tmps,qd,rfl,mn (hs.h.fresh _ (le_refl _)) _ _ g2,hs.t.mono (mn (hs.h.fresh _ (le_refl _)))⟩
  refine⟨w.heap.size,[],_,_,⟨w.heap.size,0,0⟩,?_,dW _ _ _,rfl,⟨hs.t.mono k4.le,k3,hs.ds.mono k4.le⟩,k4,rfl⟩;have hr:(Fence.wide.inRound pl.b).round=some pl.b:=rfl;rw[hr];simp only[Instr.enterLoop,Instr.getLoop,Sem.run_bind,cm g1 (by simp),run_newObj,Result.andThen_ok,Sem.run_pure]
theorem qX:∀(aS:List AV) (i:Nat) (t:Tr AV) (j:Nat),(wI i aS t).get j=if i<=j/\j<i+aS.length then aS[j-i]? else t.get j
 | [],i,t,j=>by simp only[wI,List.length_nil];rw[if_neg (by omega)]
 | a::aS,i,t,j=>by
  simp only[wI,qX aS (i+1) _ j,List.length_cons];by_cases h1:i+1<=j/\j<i+1+aS.length
  ·rw[if_pos h1,if_pos (by omega),show j-i=(j-(i+1))+1 by omega,List.getElem?_cons_succ]
  ·rw[if_neg h1,dw];by_cases h2:j=i
   ·subst h2;rw[if_pos rfl,if_pos (by omega)];simp
   ·rw[if_neg h2,if_neg (by omega)]
theorem Ls{σ:Sg}{args:List AV}{args':Array Value}(h:VL σ args args'.toList)(nt:Nat):
 TR σ (wI 0 args .nil) (args.length+(nt-args.length)) (args'++Array.replicate (nt-args'.size) undef):=by
 have hl:args.length=args'.size:=by simpa using h.1
 refine⟨by simp;omega,?_⟩;intro i;rw[qX,getD_eq_getD_getElem?,Array.getElem?_append];by_cases hi:i<args.length
 ·rw[if_pos (by omega),if_pos (by omega)];obtain⟨v,h1,h2⟩:=h.get (List.getElem?_eq_getElem hi)
  have h1':args'[i]?=some v:=by rw[<-getElem?_toList];exact h1
  rw[h1',Nat.sub_zero,List.getElem?_eq_getElem hi];exact h2
 ·rw[if_neg (by omega),if_neg (by omega),get_nil];rw[Array.getElem?_replicate];split
  ·exact V.kh
  ·exact V.kh
theorem El{P:Program}{w:World}{α:Type}{σ:Sg}{f:α->Option AV}{g:α->Sem Value}(hfg:∀x a,f x=some a->∃v,(g x).run P w=.ok v w/\V σ a v):∀(l:List α) (aS:List AV),l.mapM f=some aS->
 ∃vs:List Value,(l.mapM g).run P w=.ok vs w/\VL σ aS vs
 | [],aS,h=>by simp at h;subst h;exact⟨[],by simp,.nil⟩
 | x::l,aS,h=>by
  rw[List.mapM_cons] at h
  cases h1:f x with
  | none=>simp[h1] at h
  | some a=>
   cases h2:l.mapM f with
   | none=>simp[h1,h2] at h
   | some bs=>
    simp[h1,h2] at h;subst h;obtain⟨v,k1,k2⟩:=hfg x a h1;obtain⟨vs,k3,k4⟩:=El hfg l bs h2;refine⟨v::vs,?_,.cons k2 k4⟩;rw[List.mapM_cons];simp only[Sem.run_bind,k1,Result.andThen_ok,k3,Sem.run_pure]
theorem sR{P:Program}{σ:Sg}{t:Tr AV}{n:Nat}{h:H}{w:World}{fn:Func}{a:Act}{r:AV}(ht:TR σ t n a.tmps)(hr:HR σ h w)(hres:sQ P t h fn.results.toList=some r):
 ∃v,(results fn a.tmps).run P w=.ok v w/\V σ r v:=by
 unfold sQ at hres;obtain⟨aS,h1,h2⟩:=au hres
 have hfg:∀(x:ResultVar) (y:AV),(match x with
  | ResultVar.tmp i=>ev t (.tmp i)
  | ResultVar.cell a tt=>match ev t (.tmp a) with
   | some (.ptr (some (id,off)))=>h.load P tt id off
   | _=>none)=some y->∃v,(match x with
  | .tmp t=>pure (a.tmps.getD t undef)
  | .cell q tt=>do loadVar tt (<-asAddr (a.tmps.getD q undef)):Sem Value).run P w=.ok v w/\V σ y v:=by
  intro x y hx
  cases x with
  | tmp i=>exact⟨_,rfl,ht.ev _ _ hx⟩
  | cell q tt=>
   simp only at hx;split at hx
   ·rename_i id off hq;have hV:=ht.ev _ _ hq;have he:a.eval (.tmp q)=a.tmps.getD q undef:=rfl;rw[he] at hV;generalize hg:a.tmps.getD q undef=v at hV
    cases hV with
    | ptr hp=>
     obtain⟨z,k1,k2⟩:=hr.Ej (P:=P) hx hp;exact⟨z,by simp only[hg,asAddr,Sem.run_bind,Sem.run_pure,Result.andThen_ok];exact k1,k2⟩
   ·simp at hx
 obtain⟨vs,k1,k2⟩:=El (P:=P) (w:=w) hfg fn.results.toList aS h1
 have hm:(fn.results.mapM λ
  | .tmp t=>pure (a.tmps.getD t undef)
  | .cell q tt=>do loadVar tt (<-asAddr (a.tmps.getD q undef)):Sem (Array Value)).run P w=.ok vs.toArray w:=by
  have e:∀(f:ResultVar->Sem Value),fn.results.mapM f=Functor.map List.toArray (fn.results.toList.mapM f):=by
   intro f;obtain⟨l⟩:=fn.results;exact List.mapM_toArray
  rw[e,Sem.run_map,k1];rfl
 refine⟨if h:vs.toArray.size=1 then vs.toArray[0] else .tuple vs.toArray,?_,?_⟩
 ·have key:(results fn a.tmps).run P w=(Result.ok vs.toArray w:Result (Array Value)).andThen (λvs w'=>.ok (if h:vs.size=1 then vs[0] else .tuple vs) w'):=by
   rw[<-hm];simp only[results,Sem.run_bind];rfl
  exact key
 ·split at h2
  ·rename_i v;subst h2;obtain⟨x,l,rfl,e1,e2⟩:=k2.dF;have:=e2.og;subst this;simpa using e1
  ·rename_i hne;subst h2;have hl:=k2.1;by_cases hs:vs.toArray.size=1
   ·exfalso
    have:aS.length=1:=by simp at hs;omega
    match aS,this with
    | [v],_=>exact hne v rfl
   ·rw[dif_neg hs];exact .L7 k2
theorem rT{e:Ex}(h:jU e=true):e=.normal\/e=.ret:=by cases e<;>simp_all [jU]
theorem lower{σ σ':Sg}{h0 h':H}{w w':World}(hr0:HR σ h0 w)(hr:HR σ' h' w')(hE:Ext σ σ' { h0 with low:=h0.next } h' w w'):
 HR σ' { h' with low:=gh h0.low h'.low } w'/\Ext σ σ' h0 { h' with low:=gh h0.low h'.low } w w':=by
 have hm:=dM h0.low h'.low;refine⟨⟨hr.obj,hr.fresh,hr.sep,hr.bZ,Nat.le_trans hm.2 hr.y8⟩,⟨hE.le,hE.next,hE.size,hE.os,hE.tape,hE.output,hE.PO,hE.frame,hm.1,λid h1 h2=>hE.same id (Nat.lt_of_lt_of_le h1 hm.2) h2,hE.lJ,hE.dA⟩⟩
theorem sZ{σ:Sg}:∀(ps:List Tmp) (args:List AV) (vs:List Value) (n:Nat) (t t1:Tr AV) (tmps:Array Value),ja (ps.zip args) n t=some t1->VL σ args vs->TR σ t n tmps->
 TR σ t1 n ((ps.zip vs).foldl (λ(tmps:Array Value) (x:Tmp×Value)=>tmps.setIfInBounds x.1 x.2) tmps)
 | [],args,vs,n,t,t1,tmps,h,hv,ht=>by
  simp only[List.zip_nil_left,ja,Option.some.injEq] at h;subst h;simpa using ht
 | p::ps,[],vs,n,t,t1,tmps,h,hv,ht=>by
  have:=hv.og;subst this;simp only[List.zip_nil_right,ja,Option.some.injEq] at h;subst h;simpa using ht
 | p::ps,a::args,vs,n,t,t1,tmps,h,hv,ht=>by
  obtain⟨v,vs,rfl,h1,h2⟩:=hv.dF;simp only[List.zip_cons_cons,ja] at h;obtain⟨c1,h⟩:=aK h;simp only[List.zip_cons_cons,List.foldl_cons];have:=TR.put (a:={ tmps:=tmps,defers:=[] }) ht (fQ c1) h1;exact sZ ps args vs n _ t1 _ h h2 this
theorem KN{P:Program}{w:World}{b:Nat}{r:Loop}{args:Array Value}(hw:w.heap[b]?=some (.loop r))(hs:args.size=r.params.size):
 (Instr.yield b args).run P w=.ok (.round b r.fn ((r.params.zip args).foldl (λtmps (t,a)=>tmps.setIfInBounds t a) r.tmps) r.assign r.body) w:=by
 have:(args.size≠r.params.size)=False:=by simp[hs]
 simp only[Instr.yield,Instr.getLoop,Sem.run_bind,cm hw (by simp),Result.andThen_ok,Sem.run_pure,this,if_false]
theorem wJ{P:Program}{w:World}{b:Nat}{r:Loop}(hw:w.heap[b]?=some (.loop r))(hs:r.state=.ready):
 (Instr.beginRound b).run P w=.ok () { w with heap:=w.heap.setIfInBounds b (.loop { r with state:=.busy }) }:=by
 simp only[Instr.beginRound,Instr.getLoop,Sem.run_bind,cm hw (by simp),Result.andThen_ok,Sem.run_pure,dY hw (by simp),hs]
theorem BO{P:Program}{w:World}{b:Nat}{r:Loop}(hw:w.heap[b]?=some (.loop r))(j:Option Code):
 (Instr.endRound b j).run P w=.ok (.bool j.isNone) { w with heap:=w.heap.setIfInBounds b (.loop { r with state:=if j.isNone then .ready else .done,pending:=j }) }:=by
 simp only[Instr.endRound,Instr.getLoop,Sem.run_bind,cm hw (by simp),Result.andThen_ok,Sem.run_pure,dY hw (by simp)]
theorem xv(a b j:Nat):eh (lor a b) j=(eh a j||eh b j):=Nat.testBit_or a b j
theorem GM(n j:Nat):eh (bit n) j=true↔n=j:=by
 unfold eh bit;rw[Nat.testBit_two_pow];simp
theorem D7(j:Nat):eh 0 j=false:=Nat.zero_testBit j
def GX(acc:List Nat)(o:Oper):Nat:=o.after.toList.foldl (λm e=>cond (Region.binds .any e) (lor m (lor (bit e.on) (acc.getD e.on 0))) m) 0
theorem ot(o:Oper)(rest:List Oper)(acc:List Nat):pG (o::rest) acc=pG rest (acc++[GX acc o]):=rfl
theorem D2{acc:List Nat}{j:Nat}:∀(l:List Edge) (m:Nat),eh (l.foldl (λm e=>cond (Region.binds .any e) (lor m (lor (bit e.on) (acc.getD e.on 0))) m) m) j=true->
 eh m j=true\/∃e∈l,Region.binds .any e=true/\(e.on=j\/eh (acc.getD e.on 0) j=true)
 | [],m,h=>.inl h
 | e::l,m,h=>by
  rw[List.foldl_cons] at h
  rcases D2 l _ h with h1 | ⟨e',h1,h2⟩
  ·cases hb:Region.binds .any e
   ·rw[hb,ao] at h1;exact .inl h1
   ·rw[hb,ah,xv,xv,Bool.or_eq_true,Bool.or_eq_true] at h1
    rcases h1 with h1 | h1 | h1
    ·exact .inl h1
    ·exact .inr ⟨e,mem_cons_self ..,hb,.inl ((GM _ _).1 h1)⟩
    ·exact .inr ⟨e,mem_cons_self ..,hb,.inr h1⟩
  ·exact .inr ⟨e',List.mem_cons_of_mem _ h1,h2⟩
theorem uq:∀(rest:List Oper) (acc:List Nat) (i:Nat),i<acc.length->(pG rest acc).getD i 0=acc.getD i 0
 | [],acc,i,h=>rfl
 | o::rest,acc,i,h=>by
  rw[ot,uq rest _ i (by simp;omega)];rw[List.getD_eq_getElem?_getD,List.getD_eq_getElem?_getD,List.getElem?_append_left h]
theorem Em:∀(rest:List Oper) (acc:List Nat) (k:Nat) (o:Oper),rest[k]?=some o->
 ∃acc':List Nat,(pG rest acc).getD (acc.length+k) 0=GX acc' o/\∀j,j<acc.length+k->acc'.getD j 0=(pG rest acc).getD j 0
 | [],acc,k,o,h=>by simp at h
 | o'::rest,acc,0,o,h=>by
  simp only[List.getElem?_cons_zero,Option.some.injEq] at h;subst h;refine⟨acc,?_,λj hj=>(uq _ _ _ (by omega)).symm⟩;rw[ot,uq rest _ _ (by simp)];simp[List.getD_eq_getElem?_getD]
 | o'::rest,acc,k+1,o,h=>by
  rw[List.getElem?_cons_succ] at h;obtain⟨acc',h1,h2⟩:=Em rest (acc++[GX acc o']) k o h;simp only[List.length_append,List.length_singleton] at h1 h2;refine⟨acc',?_,λj hj=>?_⟩
  ·rw[ot,show acc.length+(k+1)=acc.length+1+k by omega];exact h1
  ·rw[ot];exact h2 j (by omega)
theorem GY{ops:List Oper}{i:Nat}{o:Oper}(ho:ops[i]?=some o)(hb:∀e∈o.after.toList,Region.binds .any e=true->e.on<i){j:Nat}(hj:eh ((pG ops []).getD i 0) j=true):
 ∃e∈o.after.toList,Region.binds .any e=true/\(e.on=j\/eh ((pG ops []).getD e.on 0) j=true):=by
 obtain⟨acc',h1,h2⟩:=Em ops [] i o ho;simp only[List.length_nil,Nat.zero_add] at h1 h2;rw[h1] at hj
 rcases D2 _ _ hj with h | ⟨e,he,hbind,h⟩
 ·rw[D7] at h;cases h
 ·refine⟨e,he,hbind,?_⟩;rw[<-h2 e.on (hb e he hbind)];exact h
theorem sE{α:Type}:∀(l:List α) (k i:Nat),(eO k l)[i]?=(l[i]?).map λx=>(k+i,x)
 | [],k,i=>by simp[eO]
 | x::xs,k,0=>by simp[eO]
 | x::xs,k,i+1=>by
  simp only[eO,List.getElem?_cons_succ,sE xs (k+1) i];cases xs[i]?<;>simp;omega
def cut(a:Act)(l:List Tmp):Act:={ tmps:=Array.ofFn (n:=a.tmps.size) λj=>if j.1∈l then a.tmps[j.1] else undef,defers:=[] }
theorem xR{o:Oper}{t:Tmp}(h:Operand.tmp t∈o.op.operands):t∈tmpsOf o:=
 List.mem_filterMap.2 ⟨.tmp t,by simpa using h,rfl⟩
def left(listed:Array Bool)(L:Nat):Nat:=((List.range L).filter λi=>!listed.getD i false).length
theorem filter_lt{α:Type}{p q:α->Bool}:∀(l:List α),(∀x∈l,q x=true->p x=true)->(∃x∈l,p x=true/\q x=false)->(l.filter q).length<(l.filter p).length
 | [],_,⟨x,hx,_⟩=>by simp at hx
 | y::l,h,⟨x,hx,hp,hq⟩=>by
  have hle:∀(l:List α),(∀x∈l,q x=true->p x=true)->(l.filter q).length<=(l.filter p).length:=by
   intro l
   induction l with
   | nil=>intro _;simp
   | cons z l ih=>
    intro h;have:=ih (λx hx=>h x (List.mem_cons_of_mem _ hx));have hz:=h z (mem_cons_self ..);rw[filter_cons,filter_cons];cases hqz:q z
    ·cases hpz:p z<;>simp<;>omega
    ·rw[hz hqz];simp;omega
  have h':∀x∈l,q x=true->p x=true:=λx hx=>h x (List.mem_cons_of_mem _ hx);rw[filter_cons,filter_cons]
  rcases List.mem_cons.1 hx with rfl | hx
  ·rw[hp,hq];have:=hle l h';simp;omega
  ·have:=filter_lt l h' ⟨x,hx,hp,hq⟩;have hy:=h y (mem_cons_self ..);cases hqy:q y
   ·cases hpy:p y<;>simp<;>omega
   ·rw[hy hqy];simp;omega
open Go.RowKit
theorem BD.mono{P:Program}{r:Result Next}{R R':Value->World->Prop}(h:BD P r R)(hR:∀v w,R v w->R' v w):BD P r R':=by
 cases r with
 | halt x w=>exact h.elim
 | ok x w=>
  cases x with
  | value v=>exact hR _ _ h
  | enter f args=>exact Calls.mono h λe w' ⟨v,he,hr⟩=>⟨v,he,hR _ _ hr⟩
  | round l f tmps a b=>exact λn=>RoundIn.mono (h n) λe w' ⟨v,he,hr⟩=>⟨v,he,hR _ _ hr⟩
  | _=>exact h.elim
def hz:H:={ aQ:=.nil,dA:=.nil,next:=0,low:=0 }
theorem wK{σ:Sg}{h:H}{w w':World}(hr:HR σ h w)(hb:Below w.heap.size w w'):HR σ h w'/\Ext σ σ h h w w':=by
 refine⟨⟨λid o ho=>?_,hr.fresh,hr.sep,hr.bZ,hr.y8⟩,⟨λ_ _ h=>h,le_refl _,hb.size,hb.os,hb.tape,hb.output,λid o p ho hp=>.inr ⟨id,o,p,ho,hp,rfl,λh=>h⟩,λb hlt _=>hb.block b hlt,le_refl _,λ_ _ _=>rfl,λ_ _ h=>h,λid cs _ ho=>.inr ⟨id,cs,ho⟩⟩⟩;obtain⟨p,hp,hor⟩:=hr.obj id o ho;exact⟨p,hp,by rw[hb.block _ (hr.lt ho hp)];exact hor⟩
def yW(P:Program)(f:FuncId)(k:XK):Prop:=∀args h a h',xA k args h=some (a,h')->∀σ w (args':Array Value),VL σ args args'.toList->HR σ h w->BD P ((callFunc f args').run P w) (Q4 σ h w [(a,h')])
theorem OF{σ:Sg}{a:AV}{args':Array Value}(h:VL σ [a] args'.toList):∃x,args'=#[x]/\V σ a x:=by
 obtain⟨x,l,e,h1,h2⟩:=h.dF;have:=h2.og;subst this;exact⟨x,ext' e,h1⟩
theorem La{σ:Sg}{a b:AV}{args':Array Value}(h:VL σ [a,b] args'.toList):∃x y,args'=#[x,y]/\V σ a x/\V σ b y:=by
 obtain⟨x,l,e,h1,h2⟩:=h.dF;obtain⟨y,l,rfl,h3,h4⟩:=h2.dF;have:=h4.og;subst this;exact⟨x,y,ext' e,h1,h3⟩
theorem yW.clone{P:Program}{f:FuncId}(hrun:∀(t:TypeId) (r:Nat) (es:Array MapEntry) (ck:Nat) (w:World),w.heap[r]?=some (.map es ck)->(callFunc f #[.iface t (.map (some r))]).run P w=.ok (.value (.iface t (.map (some w.heap.size)))) (w.alloc (.map es ck))):yW P f .clone:=by
 intro args h a h' hx σ w args' hv hr
 have hshape:∃t id es c,args=[.iface t (.map (some id))]/\h.mapOf id=some (es,c)/\a=.iface t (.map (some h.next))/\h'={ h.lay h.next (.map es c) with next:=h.next+1 }:=by
  unfold xA at hx
  split at hx<;>first
   | (obtain⟨⟨es,c⟩,h1,h2⟩:=au hx;cases h2;exact⟨_,_,_,_,rfl,h1,rfl,rfl⟩)
   | simp_all
 obtain⟨t,id,es,c,rfl,hm,rfl,rfl⟩:=hshape;obtain⟨x,rfl,h1⟩:=OF hv
 cases h1 with
 | iface h1=>
  cases h1 with
  | @map _ p hp=>
   obtain⟨ho,es',hw,hE⟩:=hr.map hm hp;rw[hrun t p.b es' c w hw]
   obtain⟨k1,k2⟩:=hr.new (r:=0) (o:=.map es c) (ob:=.map es' c) (w':=w.alloc (.map es' c)) (λcs f hf=>by cases hf)
    ⟨es',rfl,by have:=hE.1;simpa using this,λi e m he hm=>by
     obtain⟨a1,a2,a3⟩:=hE.2 i e m he (by simpa using hm)
     exact⟨a1.mono (mn (hr.fresh _ (le_refl _))),a2.mono (mn (hr.fresh _ (le_refl _))),a3⟩⟩ rfl rfl rfl rfl
   exact⟨_,_,List.mem_singleton.2 rfl,_,.iface (.map (p:=⟨w.heap.size,0,0⟩) (dW _ _ _)),k1,k2⟩
theorem y5{P:Program}(hng:rK P){f:FuncId}{fn:Func}(hf:P.funcs[f]?=some fn)(hb:fn.body.isSome=true){args':Array Value}{w:World}{σ:Sg}{h:H}{a:AV}{v:Value}(hr:HR σ h w)(hV:V σ a v)
 (hc:Calls P f args' w λe w'=>e=.returned v/\Below w.heap.size w w'):BD P ((callFunc f args').run P w) (Q4 σ h w [(a,h)]):=by
 rw[ff hng hf hb];refine Calls.mono hc λe w' ⟨he,hb⟩=>⟨v,he,a,h,List.mem_singleton.2 rfl,σ,hV,?_⟩;exact wK hr hb
noncomputable section
def rv(h:H)(r:Option AV):R (Option AV×H):=r.map λx=>[(some x,h)]
def P5(fs:List Func):Bool:=fs.all λfn=>!(fn.body.isSome&&fn.name== "runtime.NumGoroutine")
theorem NZ{P:Program}(h:P5 P.funcs.toList=true):rK P:=by
 intro f fn hf hb
 have hm:fn∈P.funcs.toList:=by
  have h1:P.funcs.toList[f]?=some fn:=by rw[getElem?_toList];exact hf
  exact List.mem_of_getElem? h1
 have:=List.all_eq_true.1 h fn hm;rw[hb] at this;cases hn:fn.name== "runtime.NumGoroutine"
 ·rfl
 ·rw[hn] at this;simp at this
theorem idx_eq(c:Nat)(hc:c<256):∀(l:List UInt8) (i:Nat),fD c (l.map (·.toNat)) i=if Lib.indexByte l c.toUInt8 = -1 then -1 else Lib.indexByte l c.toUInt8+i
 | [],i=>rfl
 | b::l,i=>by
  have ih:=idx_eq c hc l (i+1);have hge:=Lib.indexByte_ge l c.toUInt8
  have he:Lib.indexByte (b::l) c.toUInt8=if b==c.toUInt8 then 0 else if Lib.indexByte l c.toUInt8 == -1 then -1 else Lib.indexByte l c.toUInt8+1:=rfl
  generalize Lib.indexByte (b::l) c.toUInt8=z at he;simp only[List.map_cons,fD]
  have hcc:(c.toUInt8).toNat=c:=by simp[Nat.toUInt8,UInt8.toNat_ofNat];omega
  cases hb:Nat.beq b.toNat c
  ·have hne:(b==c.toUInt8)=false:=by
    cases h:b==c.toUInt8
    ·rfl
    ·have e:=eq_of_beq h
     have:b.toNat=c:=by rw[e,hcc]
     rw[KV this] at hb;cases hb
   rw[hne] at he;simp only[Bool.false_eq_true,if_false] at he;rw[ao,ih];by_cases h1:Lib.indexByte l c.toUInt8 = -1
   ·have h2:(Lib.indexByte l c.toUInt8 == -1)=true:=by simpa using h1
    rw[h2] at he;simp only[if_true] at he;rw[if_pos h1,if_pos he]
   ·have h2:(Lib.indexByte l c.toUInt8 == -1)=false:=by simpa using h1
    rw[h2] at he;simp only[Bool.false_eq_true,if_false] at he;rw[if_neg h1,if_neg (by omega)];omega
  ·have h:(b==c.toUInt8)=true:=by
    have e:=cP hb;have:b=c.toUInt8:=UInt8.toNat_inj.1 (by rw[hcc];exact e);rw[this];exact beq_self_eq_true _
   rw[h] at he;simp only[if_true] at he;rw[ah,he];simp
theorem yW.indexByte{P:Program}{f:FuncId}(hrun:∀(x:ByteArray) (c:Int) (w:World),(callFunc f #[.string x,.int .u8 c]).run P w=.ok (.value (.int .i64 (Lib.indexByte x.data.toList c.toNat.toUInt8))) w):yW P f .indexByte:=by
 intro args h a h' hx σ w args' hv hr
 have hshape:∃s c,args=[.str s,.int .u8 (.ofNat c)]/\Nat.blt c 256=true/\a=.int .i64 (fD c s 0)/\h'=h:=by
  unfold xA at hx
  split at hx<;>first
   | (obtain⟨h1,h2⟩:=aK hx;cases h2;exact⟨_,_,rfl,h1,rfl,rfl⟩)
   | simp_all
 obtain⟨s,c,rfl,hc,rfl,rfl⟩:=hshape;obtain⟨x,y,rfl,h1,h2⟩:=La hv
 cases h1 with
 | @str _ sx hs=>
  cases h2;rw[hrun sx _ w,<-hs,idx_eq c (fQ hc)];have e:(Int.ofNat c).toNat=c:=rfl;rw[e]
  have:(if Lib.indexByte sx.data.toList c.toUInt8 = -1 then -1 else Lib.indexByte sx.data.toList c.toUInt8+((0:Nat):Int))=Lib.indexByte sx.data.toList c.toUInt8:=by
   split
   ·rename_i h;exact h.symm
   ·omega
  rw[this];exact⟨_,_,List.mem_singleton.2 rfl,σ,.int _ _,hr,.refl _ _ _⟩
end
end Go.Ev
