/- A part of the texts of this claim: every theorem says what it proves, with its conditions. -/
import Derived.Test.YtnaiockballhaaaGreatA10
set_option linter.unusedSimpArgs false
set_option linter.unusedVariables false
set_option linter.unusedSectionVars false
open List (drop_nil take_nil take_succ_cons take_zero set_nil)
namespace Go.Ev
open Go.RowKit
def tT:Ex->Bool
 | .normal=>true
 | _=>false
def tU:Ex->LoopState
 | .normal=>.ready
 | _=>.done
def tS:Ex->Option Code
 | .normal=>none
 | .ret=>some .ret
 | .exit i=>some (.exit i)
 | .goto l=>some (.goto l)
noncomputable def KB(t:Tr AV):Nat->AV:=λi=>(t.get i).getD kh
def O2(id:Nat)(Q:AV->H->Prop):Ex->fO->Prop:=λex st=>st.ds=[]/\∃ls p t n ps a b d,st.h.oi id=some (ls,p,t,n,ps,a,b,d)/\Q (.bool (tT ex)) (st.h.set id (.loop (tU ex) (tS ex) t n ps a b d))
def Nc(P:Program)(id:Nat)(b:Code)(Q:AV->H->Prop):Ex->fO->Prop:=λex st=>ex=.normal/\∃p t n ps a' b' d,st.h.oi id=some (.ready,p,t,n,ps,a',b',d)/\
 kj P (some id) b ⟨st.f,st.n,st.h.set id (.loop .busy p t n ps a' b' d),st.ds⟩ (O2 id Q)
theorem dT.yield{P:Program}{id:Nat}{args:List AV}{h:H}{Q:AV->H->Prop}{pend:Option Code}{t:Tr AV}{n:Nat}{ps:Array Tmp}{a b:Code}{dd:Nat}{t1:Tr AV}{f1:Nat->AV}
 (hlo:h.oi id=some (.ready,pend,t,n,ps,a,b,dd)) (hsz:ps.toList.length=args.length) (ht1:ja (ps.toList.zip args) n t=some t1) (hf1:∀i,i<n->f1 i=KB t1 i)
 (hw:kj P (some id) a ⟨f1,n,h,[]⟩ (Nc P id b Q)):dT P (.yield id) args h Q:=by
 intro σ w p args' hp hv hr;obtain⟨hob,q,hq,f,tmps,qd,hwp,hqd,hT⟩:=s8 hr hlo;rw[hp] at hq;cases hq
 have hsz':args'.size=ps.size:=by have:=hv.1;simp at this hsz;omega
 rw[KN hwp hsz'];intro m;refine roundIn_of_wpIn trivial ?_
 have hT1:TR σ t1 n ((ps.zip args').foldl (λtmps (x:Tmp×Value)=>tmps.setIfInBounds x.1 x.2) tmps):=by
  have:=sZ ps.toList args args'.toList n t t1 tmps ht1 hv hT;rw[<-Array.foldl_toList,Array.toList_zip];exact this
 have hTF:TF σ f1 n ((ps.zip args').foldl (λtmps (x:Tmp×Value)=>tmps.setIfInBounds x.1 x.2) tmps):=⟨hT1.1,λi hi=>by rw[hf1 i hi];exact hT1.2 i⟩;have hassign:=hw (Fence.wide.inRound p.b) m σ { tmps:=(ps.zip args').foldl (λtmps (x:Tmp×Value)=>tmps.setIfInBounds x.1 x.2) tmps,defers:=[] } w ⟨hTF,hr,trivial⟩ ⟨p,hp,rfl⟩;refine wpIn_mono hassign ?_;rintro e a1 w1 ⟨ex1,st1,⟨rfl,pend2,t2,n2,ps2,a2,b2,dd2,hlo2,hb2⟩,hex1,σ1,hs1,hE1,hn1⟩;have:e=.normal:=hex1;subst this;obtain⟨hob2,q2,hq2,f2,tmps2,qd2,hw2,hqd2,hT2⟩:=s8 hs1.h hlo2;rw[hE1.le _ _ hp] at hq2;cases hq2;have hbegin:=wJ (P:=P) hw2 rfl;obtain⟨s1,s2⟩:=hs1.h.jD (o':=.loop .busy pend2 t2 n2 ps2 a2 b2 dd2) (ob:=.loop { state:=.busy,pending:=pend2,fn:=f2,tmps:=tmps2,params:=ps2,assign:=a2,body:=b2,defers:=qd2.b }) hob2 rfl rfl (hE1.le _ _ hp) ⟨f2,tmps2,qd2,rfl,hqd2,hT2⟩;refine⟨_,hbegin,?_⟩;have hbody:=hb2 (Fence.wide.inRound p.b) m σ1 a1 _ ⟨hs1.t,s1,hs1.ds⟩ ⟨p,hE1.le _ _ hp,rfl⟩;refine wpIn_mono hbody ?_;rintro e3 a3 w3 ⟨ex3,st3,⟨hds3,ls4,p4,t4,n4,ps4,a4,b4,dd4,hlo4,hQ⟩,hex3,σ3,hs3,hE3,hn3⟩;have hE13:=(hE1.trans s2).trans hE3;obtain⟨hob4,q4,hq4,f4,tmps4,qd4,hw4,hqd4,hT4⟩:=s8 hs3.h hlo4;rw[hE13.le _ _ hp] at hq4;cases hq4
 have fin:∀(s:LoopState) (j:Option Code) (r:Bool),Q (.bool r) (st3.h.set id (.loop s j t4 n4 ps4 a4 b4 dd4))->r=j.isNone->s=(if j.isNone then .ready else .done)->
  ∃v w'',(Instr.endRound p.b j).run P w3=.ok v w''/\∃v',Ending.returned v=.returned v'/\De σ h w Q v' w'':=by
  intro s j r e1 e2 e3;obtain⟨u1,u2⟩:=hs3.h.jD (o':=.loop s j t4 n4 ps4 a4 b4 dd4) (ob:=.loop { state:=s,pending:=j,fn:=f4,tmps:=tmps4,params:=ps4,assign:=a4,body:=b4,defers:=qd4.b }) hob4 rfl rfl (hE13.le _ _ hp) ⟨f4,tmps4,qd4,rfl,hqd4,hT4⟩;refine⟨_,_,BO hw4 j,_,rfl,.bool r,_,e1,σ3,by rw[e2];exact .bool _,?_,?_⟩
  ·rw[<-e3];exact u1
  ·rw[<-e3];exact hE13.trans u2
 cases ex3 with
 | normal=>
  have:e3=.normal:=hex3;subst this;exact fin _ _ _ hQ rfl rfl
 | ret=>
  have:e3=.ret:=hex3;subst this;exact fin _ _ _ hQ rfl rfl
 | exit i=>
  have:e3=.exit i:=hex3;subst this;exact fin _ _ _ hQ rfl rfl
 | goto l=>
  have:e3=.goto l:=hex3;subst this;exact fin _ _ _ hQ rfl rfl
def KZ(P:Program)(ro:Option Nat)(f:Nat->AV)(n:Nat)(ds:List jd)(id:Nat)(Q:Ex->fO->Prop)(h':H):Prop:=∃ls p' t' m' ps' a' b' d',h'.oi id=some (ls,p',t',m',ps',a',b',d')/\ls≠.busy/\
 match p' with
 | none=>Q .normal ⟨f,n,h'.set id (.loop .exhausted none t' m' ps' a' b' d'),ds⟩
 | some c=>kj P ro c ⟨f,n,h'.set id (.loop .exhausted (some c) t' m' ps' a' b' d'),ds⟩ Q
theorem kj.rangeFunc{P:Program}(hng:rK P){ro:Option Nat}{g:Operand}{ps:Array Tmp}{assign body:Code}{f:Nat->AV}{n:Nat}{h:H}{ds:List jd}{Q:Ex->fO->Prop}{fid:FuncId}{fn':Func}{first cap:List AV}{id:Nat}{h1:H}{ds1:List jd}
 (hg:ev (dL f n) g=some (.fn (.func fid) first cap)) (hfn:P.funcs[fid]?=some fn') (hb:fn'.body.isSome=true) (hen:BP ro ps assign body ⟨dL f n,n,h,ds⟩=some (id,⟨dL f n,n,h1,ds1⟩)) {Q1:AV->H->Prop}
 (hc:dT P (.func fid) (first++[.fn (.yield id) [] []]++cap) h1 Q1) (hk:∀v h',Q1 v h'->KZ P ro f n ds1 id Q h'):kj P ro (.rangeFunc g ps assign body) ⟨f,n,h,ds⟩ Q:=by
 intro F m σ a w hs hF;have hgV:=hs.sr.t.ev _ _ hg;refine wpIn_rangeFunc λfn _=>?_;obtain⟨lb,mark,w1,σ1,p,e1,hp,rfl,hs1,hE1,hn1⟩:=JR (P:=P) hF hs.sr hen fn;generalize hgv:a.eval g=gv at hgV
 cases hgV with
 | @fn _ _ _ fs' cs' hfy k1 k2 k3 k4=>
  have hfs:VL σ1 first fs'.toList:=⟨by simpa using k1,λi a v x y=>(k2 i a v x (by simpa using y)).mono hE1.le⟩
  have hcs:VL σ1 cap cs'.toList:=⟨by simpa using k3,λi a v x y=>(k4 i a v x (by simpa using y)).mono hE1.le⟩
  have hargs:VL σ1 (first++[.fn (.yield id) [] []]++cap) (fs'++#[Value.func (.yield p.b) #[] #[]]++cs').toList:=by
   simp only[Array.toList_append];exact(hfs.append (.cons (.yield hp) .nil)).append hcs
  have hfine:=hc σ1 w1 _ hargs hs1.h
  have hev:#[Operand.const (Value.func (.yield p.b) #[] #[])].map a.eval=#[Value.func (.yield p.b) #[] #[]]:=by simp[Act.eval]
  have hres:(resolve a.eval (rangeCall g p.b) 0).run P w1=.ok { target:=.fn (.func fid) cs',args:=fs'++#[Value.func (.yield p.b) #[] #[]] } w1:=by
   simp only[resolve,hgv,Deferred.ofValue,Sem.run_pure,hev]
  have hcall:=ff hng hfn hb (fs'++#[Value.func (.yield p.b) #[] #[]]++cs') w1;rw[hcall] at hfine;refine⟨p.b,mark,w1,_,w1,fid,_,w1,e1,hres,λf' _=>hF.fn f',by simpa only[invoke] using hcall,λh=>by rw[hF.depth] at h;simp at h,?_⟩;have h2:=hF.calls (n:=m-1) hfine;refine⟨h2.1,λcs hr=>?_⟩;obtain⟨e,w3,fr,⟨v,rfl,av,h',hQ1,σ3,hV,hh3,hE3⟩,h3⟩:=h2.2 cs hr;refine⟨.returned v,w3,fr,?_,h3⟩;obtain⟨ls,p',t',m',ps',a',b',d',hlo,hnb,hq⟩:=hk _ _ hQ1;obtain⟨ho',q,hq',f0,tm0,qd,g1,g2,g3⟩:=s8 hh3 hlo;rw[hE3.le _ _ hp] at hq';cases hq'
  obtain⟨s1,s2⟩:=hh3.jD (o':=.loop .exhausted p' t' m' ps' a' b' d') (ob:=.loop { state:=.exhausted,pending:=p',fn:=f0,tmps:=tm0,params:=ps',assign:=a',body:=b',defers:=qd.b }) ho' rfl rfl (hE3.le _ _ hp)
   ⟨f0,tm0,qd,rfl,g2,g3⟩
  have hend:(Instr.endLoop p.b).run P w3=.ok p' { w3 with heap:=w3.heap.setIfInBounds p.b (.loop { state:=.exhausted,pending:=p',fn:=f0,tmps:=tm0,params:=ps',assign:=a',body:=b',defers:=qd.b }) }:=by
   have hbz:(ls==LoopState.busy)=false:=by cases ls<;>first | rfl | exact absurd rfl hnb
   simp only[Instr.endLoop,Instr.getLoop,Sem.run_bind,cm g1 (by simp),Result.andThen_ok,Sem.run_pure,hbz,Bool.false_eq_true,if_false,dY g1 (by simp)]
  refine⟨p',_,hend,?_⟩;have hext:=(hE1.trans hE3).trans s2
  have hsf:SF σ3 ⟨f,n,h'.set id (.loop .exhausted p' t' m' ps' a' b' d'),ds1⟩ { a with defers:=mark++a.defers } { w3 with heap:=w3.heap.setIfInBounds p.b (.loop { state:=.exhausted,pending:=p',fn:=f0,tmps:=tm0,params:=ps',assign:=a',body:=b',defers:=qd.b }) }:=
   ⟨hs.t.mono (λi q hi=>hE3.le _ _ (hE1.le _ _ hi)),s1,hs1.ds.mono hE3.le⟩
  cases p' with
  | none=>exact⟨_,_,hq,rfl,σ3,hsf,hext,rfl⟩
  | some c=>exact kj.wide (st:=⟨f,n,_,ds1⟩) hq hsf (hF.mono hext.le) hext rfl
theorem kj.sO{P:Program}(hng:rK P){g:Operand}{ps:Array Tmp}{assign body:Code}{f:Nat->AV}{n:Nat}{O:Tr AO}{F:Tr (Nat×Nat)}{N lw:Nat}{ds:List jd}{Q:Ex->fO->Prop}{fid:FuncId}{fn':Func}{first cap:List AV}
 (hg:ev (dL f n) g=some (.fn (.func fid) first cap)) (hfn:P.funcs[fid]?=some fn') (hb:fn'.body.isSome=true) {Q1:AO->AV->H->Prop}
 (hc:∀lp,lp=AO.loop .ready none (dL f n) n ps assign body N->dT P (.func fid) (first++[.fn (.yield (N+1)) [] []]++cap) ⟨(O.put N (some (.ni false))).put (N+1) (some lp),F,N+2,lw⟩ (Q1 lp))
 (hk:∀lp v h',lp=AO.loop .ready none (dL f n) n ps assign body N->Q1 lp v h'->KZ P none f n ({ fn:=none,Db:=N,args:=[],cap:=[] }::ds) (N+1) Q h'):kj P none (.rangeFunc g ps assign body) ⟨f,n,⟨O,F,N,lw⟩,ds⟩ Q:=
 kj.rangeFunc hng hg hfn hb rfl (hc _ rfl) λv h' h1=>hk _ v h' rfl h1
noncomputable section
inductive SV where
 | any
 | a (v:AV)
 | sl (n e:Nat) (cs:List SV)
 | im (ks:List AV) (vs:List SV)
 | ip (cs:List SV)
 | ptr (o off:Nat)
 | map (o:Nat)
 | buf (o n e:Nat) (c:Option Nat)
 | sub (o off n e:Nat) (c:Option Nat)
 | e0 (e:Nat)
 | ag (cs:List SV)
 | bI (vs:List SV)
 | fn (g:FuncId) (first cap:List SV)
 | iface (t:TypeId) (v:SV)
 deriving Inhabited
abbrev Fm:=List (Nat×SV)
def aR:Fm->Nat->SV
 | [],_=>.any
 | (d,v)::l,i=>if d=i then v else aR l i
structure fP where
 id:Nat
 t:Tr AV
 n:Nat
 ps:Array Tmp
 a:Code
 b:Code
 d:Nat
inductive SO where
 | cells (cs:List SV)
 | map (ks:List AV) (vs:List SV) (b:Option (List Nat×Nat))
 | iter (m:SV) (bs:List Nat) (c:Nat) (pos:List Nat)
 | rI (ks:List AV) (vs:List SV) (bs:List Nat) (c:Nat) (pos:List Nat)
 | gone
 | loop (c:fP) (ls:LoopState) (p:Option Code) (f:List (Nat×SV))
 | ni (N:Nat)
structure Loc where
 id:Nat
 bZ:Nat
 x:Nat
 y:Nat
abbrev jP:=Nat->Option AO
def mW(l:List (AV×AV×Nat))(c:Nat):Prop:=(l.map (·.2.2)).Nodup/\∀e∈l,e.2.2<c
def Ng(l:List (AV×AV×Nat))(c:Nat)(ks:List AV)(b:Option (List Nat×Nat)):Prop:=l.map (·.1)=ks/\mW l c/\∀p,b=some p->l.map (·.2.2)=p.1/\c=p.2
def oC(ρ:jP)(id:Nat):Option (List AV):=match ρ id with
 | some (.cells cs _)=>some cs
 | some (.ro cs)=>some cs
 | _=>none
mutual
def GS(ρ:jP):SV->AV->Prop
 | .any,_=>True
 | .a v,x=>x=v
 | .sl n e cs,x=>(n=0/\cs=[]/\∃o e' c,x=.slice o 0 e' c/\(o=none->c=some 0)/\(o≠none->e'=e))\/
  (∃id off cap row,x=.slice (some (id,off)) n e cap/\oC ρ id=some row/\off+n*e<=row.length/\jH ρ cs ((row.drop off).take (n*e)))
 | .im ks vs,x=>∃id l c,x=.map (some id)/\ρ id=some (.map l c)/\Ng l c ks none/\jH ρ vs (l.map (·.2.1))
 | .ip cs,x=>∃id off row r,x=.ptr (some (id,off))/\oC ρ id=some row/\off+r<=row.length/\jH ρ cs ((row.drop off).take r)
 | .ptr _ _,_=>False
 | .map _,_=>False
 | .buf _ _ _ _,_=>False
 | .sub _ _ _ _ _,_=>False
 | .e0 e,x=>∃o e',x=.slice o 0 e' (some 0)/\(o≠none->e'=e)
 | .ag cs,x=>∃aS,x=.agg aS/\jH ρ cs aS
 | .bI cs,x=>∃aS,x=.bI aS/\jH ρ cs aS
 | .fn g first cap,x=>∃xs ys,x=.fn (.func g) xs ys/\jH ρ first xs/\jH ρ cap ys
 | .iface t v,x=>∃y,x=.iface t y/\GS ρ v y
def jH(ρ:jP):List SV->List AV->Prop
 | [],aS=>aS=[]
 | d::ds,aS=>∃a r,aS=a::r/\GS ρ d a/\jH ρ ds r
end
mutual
def VS(θ:Nat->Loc)(ρ:jP):SV->AV->Prop
 | .any,_=>True
 | .a v,x=>x=v
 | .sl n e cs,x=>GS ρ (.sl n e cs) x
 | .im ks vs,x=>GS ρ (.im ks vs) x
 | .ip cs,x=>GS ρ (.ip cs) x
 | .ptr o off,x=>x=.ptr (some ((θ o).id,off))
 | .map o,x=>x=.map (some (θ o).id)
 | .buf o n e c,x=>x=.slice (some ((θ o).id,0)) n e c
 | .sub o off n e c,x=>x=.slice (some ((θ o).id,off)) n e c
 | .e0 e,x=>∃o e',x=.slice o 0 e' (some 0)/\(o≠none->e'=e)
 | .ag cs,x=>∃aS,x=.agg aS/\c8 θ ρ cs aS
 | .bI cs,x=>∃aS,x=.bI aS/\c8 θ ρ cs aS
 | .fn g first cap,x=>∃xs ys,x=.fn (.func g) xs ys/\c8 θ ρ first xs/\c8 θ ρ cap ys
 | .iface t v,x=>∃y,x=.iface t y/\VS θ ρ v y
def c8(θ:Nat->Loc)(ρ:jP):List SV->List AV->Prop
 | [],aS=>aS=[]
 | d::ds,aS=>∃a r,aS=a::r/\VS θ ρ d a/\c8 θ ρ ds r
end
section
variable {θ:Nat->Loc} {ρ:jP} {x:AV}
theorem fX{aS:List AV}:jH ρ [] aS↔aS=[]:=by rw[jH]
theorem dZ{d:SV}{ds:List SV}{aS:List AV}:jH ρ (d::ds) aS↔∃a r,aS=a::r/\GS ρ d a/\jH ρ ds r:=by rw[jH]
theorem bg{aS:List AV}:c8 θ ρ [] aS↔aS=[]:=by rw[c8]
theorem aL{d:SV}{ds:List SV}{aS:List AV}:c8 θ ρ (d::ds) aS↔∃a r,aS=a::r/\VS θ ρ d a/\c8 θ ρ ds r:=by rw[c8]
theorem jH.length:∀{ds:List SV} {aS:List AV},jH ρ ds aS->aS.length=ds.length
 | [],aS,h=>by rw[fX] at h;subst h;rfl
 | d::ds,aS,h=>by
  rw[dZ] at h;obtain⟨a,r,rfl,_,h2⟩:=h;simp[jH.length h2]
theorem c8.length:∀{ds:List SV} {aS:List AV},c8 θ ρ ds aS->aS.length=ds.length
 | [],aS,h=>by rw[bg] at h;subst h;rfl
 | d::ds,aS,h=>by
  rw[aL] at h;obtain⟨a,r,rfl,_,h2⟩:=h;simp[c8.length h2]
mutual
theorem GS.vs:∀{v:SV} {x:AV},GS ρ v x->VS θ ρ v x
 | .any,_,_=>by rw[VS];trivial
 | .a v,x,h=>by rw[VS];rw[GS] at h;exact h
 | .sl n e cs,x,h=>by rw[VS];exact h
 | .im ks vs,x,h=>by rw[VS];exact h
 | .ip cs,x,h=>by rw[VS];exact h
 | .ptr _ _,_,h=>by rw[GS] at h;exact h.elim
 | .map _,_,h=>by rw[GS] at h;exact h.elim
 | .buf _ _ _ _,_,h=>by rw[GS] at h;exact h.elim
 | .sub _ _ _ _ _,_,h=>by rw[GS] at h;exact h.elim
 | .e0 e,x,h=>by rw[GS] at h;rw[VS];exact h
 | .ag cs,x,h=>by rw[VS];rw[GS] at h;obtain⟨aS,h1,h2⟩:=h;exact⟨aS,h1,jH.vs h2⟩
 | .bI cs,x,h=>by rw[VS];rw[GS] at h;obtain⟨aS,h1,h2⟩:=h;exact⟨aS,h1,jH.vs h2⟩
 | .fn g f c,x,h=>by rw[VS];rw[GS] at h;obtain⟨xs,ys,h1,h2,h3⟩:=h;exact⟨xs,ys,h1,jH.vs h2,jH.vs h3⟩
 | .iface t v,x,h=>by rw[VS];rw[GS] at h;obtain⟨y,h1,h2⟩:=h;exact⟨y,h1,GS.vs h2⟩
theorem jH.vs:∀{ds:List SV} {aS:List AV},jH ρ ds aS->c8 θ ρ ds aS
 | [],aS,h=>by rw[bg];rw[fX] at h;exact h
 | d::ds,aS,h=>by
  rw[aL];rw[dZ] at h;obtain⟨a,r,h1,h2,h3⟩:=h;exact⟨a,r,h1,GS.vs h2,jH.vs h3⟩
end
theorem Bb{ρ':jP}(hm:∀id ob,ρ id=some ob->ρ' id=some ob){id:Nat}{row:List AV}(h:oC ρ id=some row):oC ρ' id=some row:=by
 unfold oC at h ⊢
 cases hr:ρ id with
 | none=>rw[hr] at h;cases h
 | some ob=>rw[hm id ob hr];rw[hr] at h;exact h
mutual
theorem GS.mono{ρ':jP}(hm:∀id ob,ρ id=some ob->ρ' id=some ob):∀{v:SV} {x:AV},GS ρ v x->GS ρ' v x
 | .any,_,_=>by rw[GS];trivial
 | .a v,x,h=>by rw[GS] at h ⊢;exact h
 | .sl n e cs,x,h=>by
  rw[GS] at h ⊢
  rcases h with h | ⟨id,off,cap,row,h1,h2,h3,h4⟩
  ·exact .inl h
  ·exact .inr ⟨id,off,cap,row,h1,Bb hm h2,h3,jH.mono hm h4⟩
 | .im ks vs,x,h=>by
  rw[GS] at h ⊢;obtain⟨id,l,c,h1,h2,h3,h4⟩:=h;exact⟨id,l,c,h1,hm _ _ h2,h3,jH.mono hm h4⟩
 | .ip cs,x,h=>by
  rw[GS] at h ⊢;obtain⟨id,off,row,r,h1,h2,h3,h4⟩:=h;exact⟨id,off,row,r,h1,Bb hm h2,h3,jH.mono hm h4⟩
 | .ptr _ _,_,h=>by rw[GS] at h;exact h.elim
 | .map _,_,h=>by rw[GS] at h;exact h.elim
 | .buf _ _ _ _,_,h=>by rw[GS] at h;exact h.elim
 | .sub _ _ _ _ _,_,h=>by rw[GS] at h;exact h.elim
 | .e0 e,x,h=>by rw[GS] at h ⊢;exact h
 | .ag cs,x,h=>by rw[GS] at h ⊢;obtain⟨aS,h1,h2⟩:=h;exact⟨aS,h1,jH.mono hm h2⟩
 | .bI cs,x,h=>by rw[GS] at h ⊢;obtain⟨aS,h1,h2⟩:=h;exact⟨aS,h1,jH.mono hm h2⟩
 | .fn g f c,x,h=>by rw[GS] at h ⊢;obtain⟨xs,ys,h1,h2,h3⟩:=h;exact⟨xs,ys,h1,jH.mono hm h2,jH.mono hm h3⟩
 | .iface t v,x,h=>by rw[GS] at h ⊢;obtain⟨y,h1,h2⟩:=h;exact⟨y,h1,GS.mono hm h2⟩
theorem jH.mono{ρ':jP}(hm:∀id ob,ρ id=some ob->ρ' id=some ob):∀{ds:List SV} {aS:List AV},jH ρ ds aS->jH ρ' ds aS
 | [],aS,h=>by rw[fX] at h ⊢;exact h
 | d::ds,aS,h=>by
  rw[dZ] at h ⊢;obtain⟨a,r,h1,h2,h3⟩:=h;exact⟨a,r,h1,GS.mono hm h2,jH.mono hm h3⟩
end
mutual
theorem VS.mono{ρ':jP}(hm:∀id ob,ρ id=some ob->ρ' id=some ob):∀{v:SV} {x:AV},VS θ ρ v x->VS θ ρ' v x
 | .any,_,_=>by rw[VS];trivial
 | .a v,x,h=>by rw[VS] at h ⊢;exact h
 | .sl n e cs,x,h=>by rw[VS] at h ⊢;exact h.mono hm
 | .im ks vs,x,h=>by rw[VS] at h ⊢;exact h.mono hm
 | .ip cs,x,h=>by rw[VS] at h ⊢;exact h.mono hm
 | .ptr _ _,_,h=>by rw[VS] at h ⊢;exact h
 | .map _,_,h=>by rw[VS] at h ⊢;exact h
 | .buf _ _ _ _,_,h=>by rw[VS] at h ⊢;exact h
 | .sub _ _ _ _ _,_,h=>by rw[VS] at h ⊢;exact h
 | .e0 e,x,h=>by rw[VS] at h ⊢;exact h
 | .ag cs,x,h=>by rw[VS] at h ⊢;obtain⟨aS,h1,h2⟩:=h;exact⟨aS,h1,c8.mono hm h2⟩
 | .bI cs,x,h=>by rw[VS] at h ⊢;obtain⟨aS,h1,h2⟩:=h;exact⟨aS,h1,c8.mono hm h2⟩
 | .fn g f c,x,h=>by rw[VS] at h ⊢;obtain⟨xs,ys,h1,h2,h3⟩:=h;exact⟨xs,ys,h1,c8.mono hm h2,c8.mono hm h3⟩
 | .iface t v,x,h=>by rw[VS] at h ⊢;obtain⟨y,h1,h2⟩:=h;exact⟨y,h1,VS.mono hm h2⟩
theorem c8.mono{ρ':jP}(hm:∀id ob,ρ id=some ob->ρ' id=some ob):∀{ds:List SV} {aS:List AV},c8 θ ρ ds aS->c8 θ ρ' ds aS
 | [],aS,h=>by rw[bg] at h ⊢;exact h
 | d::ds,aS,h=>by
  rw[aL] at h ⊢;obtain⟨a,r,h1,h2,h3⟩:=h;exact⟨a,r,h1,VS.mono hm h2,c8.mono hm h3⟩
end
mutual
def names(o:Nat):SV->Bool
 | .ptr p _=>decide (p=o)
 | .map p=>decide (p=o)
 | .buf p _ _ _=>decide (p=o)
 | .sub p _ _ _ _=>decide (p=o)
 | .ag cs=>fF o cs
 | .bI cs=>fF o cs
 | .fn _ f c=>fF o f||fF o c
 | .iface _ v=>names o v
 | _=>false
def fF(o:Nat):List SV->Bool
 | []=>false
 | d::ds=>names o d||fF o ds
end
mutual
theorem VS.tg{θ':Nat->Loc}{o:Nat}(hθ:∀p,p≠o->θ' p=θ p):∀{v:SV} {x:AV},names o v=false->VS θ ρ v x->VS θ' ρ v x
 | .any,_,_,_=>by rw[VS];trivial
 | .a v,x,_,h=>by rw[VS] at h ⊢;exact h
 | .sl n e cs,x,_,h=>by rw[VS] at h ⊢;exact h
 | .im ks vs,x,_,h=>by rw[VS] at h ⊢;exact h
 | .ip cs,x,_,h=>by rw[VS] at h ⊢;exact h
 | .ptr p _,_,hn,h=>by rw[VS] at h ⊢;rw[names] at hn;rw[hθ p (of_decide_eq_false hn)];exact h
 | .map p,_,hn,h=>by rw[VS] at h ⊢;rw[names] at hn;rw[hθ p (of_decide_eq_false hn)];exact h
 | .buf p _ _ _,_,hn,h=>by rw[VS] at h ⊢;rw[names] at hn;rw[hθ p (of_decide_eq_false hn)];exact h
 | .sub p _ _ _ _,_,hn,h=>by rw[VS] at h ⊢;rw[names] at hn;rw[hθ p (of_decide_eq_false hn)];exact h
 | .e0 e,x,_,h=>by rw[VS] at h ⊢;exact h
 | .ag cs,x,hn,h=>by rw[VS] at h ⊢;rw[names] at hn;obtain⟨aS,h1,h2⟩:=h;exact⟨aS,h1,c8.tg hθ hn h2⟩
 | .bI cs,x,hn,h=>by rw[VS] at h ⊢;rw[names] at hn;obtain⟨aS,h1,h2⟩:=h;exact⟨aS,h1,c8.tg hθ hn h2⟩
 | .fn g f c,x,hn,h=>by
  rw[VS] at h ⊢;rw[names,Bool.or_eq_false_iff] at hn;obtain⟨xs,ys,h1,h2,h3⟩:=h;exact⟨xs,ys,h1,c8.tg hθ hn.1 h2,c8.tg hθ hn.2 h3⟩
 | .iface t v,x,hn,h=>by rw[VS] at h ⊢;rw[names] at hn;obtain⟨y,h1,h2⟩:=h;exact⟨y,h1,VS.tg hθ hn h2⟩
theorem c8.tg{θ':Nat->Loc}{o:Nat}(hθ:∀p,p≠o->θ' p=θ p):∀{ds:List SV} {aS:List AV},fF o ds=false->c8 θ ρ ds aS->c8 θ' ρ ds aS
 | [],aS,_,h=>by rw[bg] at h ⊢;exact h
 | d::ds,aS,hn,h=>by
  rw[aL] at h ⊢;rw[fF,Bool.or_eq_false_iff] at hn;obtain⟨a,r,h1,h2,h3⟩:=h;exact⟨a,r,h1,VS.tg hθ hn.1 h2,c8.tg hθ hn.2 h3⟩
end
theorem c8.app:∀{d1 d2:List SV} {a1 a2:List AV},c8 θ ρ d1 a1->c8 θ ρ d2 a2->c8 θ ρ (d1++d2) (a1++a2)
 | [],d2,a1,a2,h1,h2=>by rw[bg] at h1;subst h1;exact h2
 | d::ds,d2,a1,a2,h1,h2=>by
  rw[aL] at h1;obtain⟨a,r,rfl,g1,g2⟩:=h1;show c8 θ ρ (d::(ds++d2)) _;rw[aL];exact⟨a,r++a2,rfl,g1,c8.app g2 h2⟩
theorem c8.drop:∀(k:Nat) {ds:List SV} {aS:List AV},c8 θ ρ ds aS->c8 θ ρ (ds.drop k) (aS.drop k)
 | 0,_,_,h=>h
 | k+1,[],aS,h=>by rw[bg] at h;subst h;rw[drop_nil,drop_nil,bg]
 | k+1,d::ds,aS,h=>by
  rw[aL] at h;obtain⟨a,r,rfl,_,h2⟩:=h;exact c8.drop k h2
theorem c8.take:∀(k:Nat) {ds:List SV} {aS:List AV},c8 θ ρ ds aS->c8 θ ρ (ds.take k) (aS.take k)
 | 0,_,_,h=>by rw[take_zero,take_zero,bg]
 | k+1,[],aS,h=>by rw[bg] at h;subst h;rw[take_nil,take_nil,bg]
 | k+1,d::ds,aS,h=>by
  rw[aL] at h;obtain⟨a,r,rfl,h1,h2⟩:=h;rw[take_succ_cons,take_succ_cons,aL];exact⟨a,_,rfl,h1,c8.take k h2⟩
theorem jH.drop:∀(k:Nat) {ds:List SV} {aS:List AV},jH ρ ds aS->jH ρ (ds.drop k) (aS.drop k)
 | 0,_,_,h=>h
 | k+1,[],aS,h=>by rw[fX] at h;subst h;rw[drop_nil,drop_nil,fX]
 | k+1,d::ds,aS,h=>by
  rw[dZ] at h;obtain⟨a,r,rfl,_,h2⟩:=h;exact jH.drop k h2
theorem jH.take:∀(k:Nat) {ds:List SV} {aS:List AV},jH ρ ds aS->jH ρ (ds.take k) (aS.take k)
 | 0,_,_,h=>by rw[take_zero,take_zero,fX]
 | k+1,[],aS,h=>by rw[fX] at h;subst h;rw[take_nil,take_nil,fX]
 | k+1,d::ds,aS,h=>by
  rw[dZ] at h;obtain⟨a,r,rfl,h1,h2⟩:=h;rw[take_succ_cons,take_succ_cons,dZ];exact⟨a,_,rfl,h1,jH.take k h2⟩
theorem c8.get:∀{ds:List SV} {aS:List AV},c8 θ ρ ds aS->∀{i:Nat} {d:SV},ds[i]?=some d->∃a,aS[i]?=some a/\VS θ ρ d a
 | [],_,_,i,d,h=>by simp at h
 | d0::ds,aS,h,i,d,hd=>by
  rw[aL] at h;obtain⟨a,r,rfl,h1,h2⟩:=h
  cases i with
  | zero=>simp only[List.getElem?_cons_zero,Option.some.injEq] at hd;subst hd;exact⟨a,rfl,h1⟩
  | succ i=>simp only[List.getElem?_cons_succ] at hd ⊢;exact c8.get h2 hd
theorem jH.get:∀{ds:List SV} {aS:List AV},jH ρ ds aS->∀{i:Nat} {d:SV},ds[i]?=some d->∃a,aS[i]?=some a/\GS ρ d a
 | [],_,_,i,d,h=>by simp at h
 | d0::ds,aS,h,i,d,hd=>by
  rw[dZ] at h;obtain⟨a,r,rfl,h1,h2⟩:=h
  cases i with
  | zero=>simp only[List.getElem?_cons_zero,Option.some.injEq] at hd;subst hd;exact⟨a,rfl,h1⟩
  | succ i=>simp only[List.getElem?_cons_succ] at hd ⊢;exact jH.get h2 hd
theorem c8.set:∀{ds:List SV} {aS:List AV},c8 θ ρ ds aS->∀(i:Nat) {d:SV} {a:AV},VS θ ρ d a->c8 θ ρ (ds.set i d) (aS.set i a)
 | [],_,h,i,d,a,_=>by rw[bg] at h;subst h;rw[set_nil,set_nil,bg]
 | d0::ds,aS,h,i,d,a,hv=>by
  rw[aL] at h;obtain⟨b,r,rfl,h1,h2⟩:=h
  cases i with
  | zero=>rw[List.set_cons_zero,List.set_cons_zero,aL];exact⟨a,r,rfl,hv,h2⟩
  | succ i=>rw[List.set_cons_succ,List.set_cons_succ,aL];exact⟨b,_,rfl,h1,c8.set h2 i hv⟩
end
def mu(θ:Nat->Loc)(ρ:jP)(h:H)(L:Loc):SO->Prop
 | .cells cs=>∃aS,h.aQ.get L.id=some (.cells aS L.bZ)/\c8 θ ρ cs aS/\h.dA.get L.bZ=some (L.x,L.y)
 | .map ks vs b=>∃l c,h.aQ.get L.id=some (.map l c)/\Ng l c ks b/\c8 θ ρ vs (l.map (·.2.1))
 | .gone=>True
 | .iter m bs c pos=>∃kn,VS θ ρ m (.map (some kn))/\h.aQ.get L.id=some (.iE (some kn) c (pos.map λj=>bs.getD j 0) c)
 | .rI ks vs bs c pos=>∃kn l,ρ kn=some (.map l c)/\Ng l c ks (some (bs,c))/\jH ρ vs (l.map (·.2.1))/\h.aQ.get L.id=some (.iE (some kn) c (pos.map λj=>bs.getD j 0) c)
 | .loop c ls p f=>L.id=c.id/\h.aQ.get L.id=some (.loop ls p c.t c.n c.ps c.a c.b c.d)/\∀i,i<c.n->VS θ ρ (aR f i) (KB c.t i)
 | .ni N=>L.id=N/\h.aQ.get L.id=some (.ni false)
structure En where
 h:H
 pr:Nat->Prop
 pf:Nat->Prop
 lo:Nat
 w:Nat->AV
structure QF (e:En):Prop where
 pr:∀j,e.pr j->j<e.h.next
 pf:∀j,e.pf j->j<e.h.next
 lo:∀j,¬e.pr j->e.lo<=j
 ln:e.lo<=e.h.next
structure Df (b:En) (n:Nat) (L:Loc):Prop where
 e:L.id=L.x\/L.id=L.y
 x:¬b.pr L.x/\L.x<n
 y:¬b.pr L.y/\L.y<n
 f:¬b.pf L.bZ/\L.bZ<n
structure wB (L M:Loc):Prop where
 xx:L.x≠M.x
 xy:L.x≠M.y
 yx:L.y≠M.x
 yy:L.y≠M.y
 f:L.bZ≠M.bZ
structure RS (θ:Nat->Loc) (ρ0 ρ:jP) (h0:En) (h:H) (S:List SO):Prop where
 ok:QF h0
 nx:h0.h.next<=h.next
 ob:∀j,h0.pr j->h.aQ.get j=h0.h.aQ.get j
 fm:∀j,h0.pf j->h.dA.get j=h0.h.dA.get j
 lw:h0.lo<=h.low
 ln:h.low<=h.next
 obj:∀o so,S[o]?=some so->so≠.gone->Df h0 h.next (θ o)/\mu θ ρ h (θ o) so
 sep:∀o o' so so',o≠o'->S[o]?=some so->so≠.gone->S[o']?=some so'->so'≠.gone->wB (θ o) (θ o')
 row:∀id ob,ρ id=some ob->id<h.next/\h.aQ.get id=some ob/\∀o so,S[o]?=some so->so≠.gone->id≠(θ o).x/\id≠(θ o).y
 lJ:∀id ob,ρ id=some ob->ρ0 id=some ob\/¬h0.pr id
structure FR (θ:Nat->Loc) (ρ:jP) (f:Nat->SV) (af:Nat->AV) (n:Nat) (w:Nat->AV):Prop where
 v:∀i,VS θ ρ (f i) (if i<n then af i else w i)
 u:∀i,i<1000000->w i=kh
theorem RS.w{θ:Nat->Loc}{ρ0 ρ:jP}{h0:En}{h:H}{S:List SO}(hR:RS θ ρ0 ρ h0 h S)(w:Nat->AV):RS θ ρ0 ρ { h0 with w:=w } h S:=
 ⟨⟨hR.ok.pr,hR.ok.pf,hR.ok.lo,hR.ok.ln⟩,hR.nx,hR.ob,hR.fm,hR.lw,hR.ln,λo so h1 h2=>by
  obtain⟨⟨k1,k2,k3,k4⟩,k5⟩:=hR.obj o so h1 h2
  exact⟨⟨k1,k2,k3,k4⟩,k5⟩,hR.sep,hR.row,hR.lJ⟩
end
end Go.Ev
