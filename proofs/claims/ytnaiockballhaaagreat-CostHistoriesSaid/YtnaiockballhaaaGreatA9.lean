/- A part of the texts of this claim: every theorem says what it proves, with its conditions. -/
import Derived.Test.YtnaiockballhaaaGreatA8
set_option linter.unusedSimpArgs false
set_option linter.unusedVariables false
set_option linter.unusedSectionVars false
open Nat (beq blt ble le_refl succ_mul)
open List (any_cons mem_cons_self range flatten_cons length_cons mem_range mapM)
namespace Go.Ev
open Go.RowKit
def De(σ:Sg)(h:H)(w:World)(Q:AV->H->Prop)(v:Value)(w':World):Prop:=∃a h',Q a h'/\∃σ',V σ' a v/\HR σ' h' w'/\Ext σ σ' h h' w w'
def dT(P:Program)(f:Fn)(args:List AV)(h:H)(Q:AV->H->Prop):Prop:=match f with
 | .func g=>∀σ w (args':Array Value),VL σ args args'.toList->HR σ h w->BD P ((callFunc g args').run P w) (De σ h w Q)
 | .yield id=>∀σ w p (args':Array Value),σ id=some p->VL σ args args'.toList->HR σ h w->BD P ((Instr.yield p.b args').run P w) (De σ h w Q)
 | _=>False
theorem De.mono{σ:Sg}{h:H}{w:World}{Q Q':AV->H->Prop}{v:Value}{w':World}(hq:∀a h',Q a h'->Q' a h')(hg:De σ h w Q v w'):De σ h w Q' v w':=
 let ⟨a,h',h1,h2⟩:=hg;⟨a,h',hq _ _ h1,h2⟩
theorem dT.mono{P:Program}{f:Fn}{args:List AV}{h:H}{Q Q':AV->H->Prop}(hc:dT P f args h Q)(hq:∀a h',Q a h'->Q' a h'):dT P f args h Q':=by
 cases f with
 | func g=>exact λσ w args' hv hr=>(hc σ w args' hv hr).mono λv w' hg=>hg.mono hq
 | yield id=>exact λσ w p args' hp hv hr=>(hc σ w p args' hp hv hr).mono λv w' hg=>hg.mono hq
 | _=>exact hc.elim
def yU(f:Nat->AV)(d:Nat)(v:AV):Nat->AV:=λi=>_root_.cond (beq i d) v (f i)
def Gb(f:Nat->AV)(d:Option Tmp)(v:AV):Nat->AV:=match d with
 | none=>f
 | some d=>yU f d v
theorem tw(f:Nat->AV)(d:Nat)(v:AV):yU f d v d=v:=by simp[yU]
theorem qB(f:Nat->AV){d i:Nat}(v:AV)(h:i≠d):yU f d v i=f i:=by
 unfold yU;cases hb:beq i d
 ·rfl
 ·exact absurd (cP hb) h
noncomputable def dL(f:Nat->AV):Nat->Tr AV
 | 0=>.nil
 | n+1=>(dL f n).put n (some (f n))
theorem mh(f:Nat->AV):∀(n i:Nat),i<n->(dL f n).get i=some (f i)
 | 0,i,h=>by omega
 | n+1,i,h=>by
  unfold dL;by_cases e:i=n
  ·subst e;rw[cR]
  ·rw[bj _ _ e];exact mh f n i (by omega)
theorem yo(f:Nat->AV):∀(n i:Nat),n<=i->(dL f n).get i=none
 | 0,i,_=>get_nil i
 | n+1,i,h=>by
  unfold dL;rw[bj _ _ (by omega)];exact yo f n i (by omega)
theorem O9{f:Nat->AV}{n i:Nat}(h:i<n):ev (dL f n) (.tmp i)=some (f i):=by
 simp only[ev,mh f n i h]
theorem ND{t:Tr AV}{f:FuncId}:ev t (.func f)=some (.fn (.func f) [] []):=rfl
structure fO where
 f:Nat->AV
 n:Nat
 h:H
 ds:List jd
def TF(σ:Sg)(f:Nat->AV)(n:Nat)(tmps:Array Value):Prop:=tmps.size=n/\∀i,i<n->V σ (f i) (tmps.getD i undef)
structure SF (σ:Sg) (st:fO) (a:Act) (w:World):Prop where
 t:TF σ st.f st.n a.tmps
 h:HR σ st.h w
 ds:OC σ st.ds a.defers
theorem TF.mono{σ σ':Sg}(hle:∀id p,σ id=some p->σ' id=some p){f:Nat->AV}{n:Nat}{tmps:Array Value}(h:TF σ f n tmps):TF σ' f n tmps:=
 ⟨h.1,λi hi=>(h.2 i hi).mono hle⟩
theorem TF.tr{σ:Sg}{f:Nat->AV}{n:Nat}{tmps:Array Value}(h:TF σ f n tmps):TR σ (dL f n) n tmps:=by
 refine⟨h.1,λi=>?_⟩
 rcases Nat.lt_or_ge i n with hi | hi
 ·rw[mh f n i hi];exact h.2 i hi
 ·rw[yo f n i hi]
  have:tmps.getD i undef=undef:=by
   rw[Array.getD_eq_getD_getElem?,Array.getElem?_eq_none (by rw[h.1];exact hi)];rfl
  rw[this];exact V.kh
theorem TF.put{σ:Sg}{f:Nat->AV}{n:Nat}{a:Act}(h:TF σ f n a.tmps){d:Option Tmp}{x:AV}{v:Value}(hd:∀k,d=some k->k<n)(hv:V σ x v):TF σ (Gb f d x) n (a.put d v).tmps:=by
 cases d with
 | none=>exact h
 | some d=>
  have:=TR.put (a:=a) h.tr (hd d rfl) hv;refine⟨this.1,λi hi=>?_⟩;have h2:=this.2 i;by_cases e:i=d
  ·subst e;rw[cR] at h2;rw[show Gb f (some i) x i=x from tw _ _ _];exact h2
  ·rw[bj _ _ e,mh f n i hi] at h2;rw[show Gb f (some d) x i=f i from qB _ _ e];exact h2
theorem SF.sr{σ:Sg}{st:fO}{a:Act}{w:World}(h:SF σ st a w):SR σ ⟨dL st.f st.n,st.n,st.h,st.ds⟩ a w:=⟨h.t.tr,h.h,h.ds⟩
def uT(d:Option Tmp)(n:Nat):Bool:=match d with
 | none=>true
 | some d=>blt d n
theorem DS{d:Option Tmp}{n:Nat}(h:uT d n=true):∀k,d=some k->k<n:=by
 intro k e;subst e;exact fQ h
theorem SF.put{σ σ':Sg}{f:Nat->AV}{n:Nat}{h h':H}{ds:List jd}{a:Act}{w w':World}(hs:SF σ ⟨f,n,h,ds⟩ a w)(hle:∀id p,σ id=some p->σ' id=some p){d:Option Tmp}(hd:uT d n=true){x:AV}{v:Value}(hv:V σ' x v)(hr:HR σ' h' w'):
 SF σ' ⟨Gb f d x,n,h',ds⟩ (a.put d v) w':=
 ⟨(hs.t.mono hle).put (DS hd) hv,hr,by rw[put_defers];exact hs.ds.mono hle⟩
def Dc(P:Program)(ro:Option Nat)(o:Oper)(st:fO)(K:fO->Prop):Prop:=∀(F:Fence) (n:Nat) (σ:Sg) (a:Act) (w:World) (next:Act->World->Prop) (Q:Exit->Act->World->Prop),SF σ st a w->BC σ ro F->
 (∀st' a' w' σ',K st'->SF σ' st' a' w'->Ext σ σ' st.h st'.h w w'->st'.n=st.n->next a' w')->o.wpIn F n P a w next Q
def sD:Op->Bool
 | .defer _=>false
 | _=>true
def leaves(f:Nat->AV)(n:Nat)(ds:List jd)(d:Option Tmp)(x:Option AV×H):fO:=⟨Gb f d (match x.1 with | some v=>v | none=>kh),n,x.2,ds⟩
theorem Dc.run{P:Program}{ro:Option Nat}{o:Oper}{f:Nat->AV}{m:Nat}{h:H}{ds:List jd}{K:fO->Prop}{outs:List (Option AV×H)}(hnd:sD o.op=true)(hd:uT o.dst m=true)(ho:ef P (dL f m) h o.op=some outs)
 (hk:∀x∈outs,K (leaves f m ds o.dst x)):Dc P ro o ⟨f,m,h,ds⟩ K:=by
 intro F n σ a w next Q hs hF hnext
 refine⟨λf _=>hF.fn f,?_⟩;have hρ:=hs.sr.t.ev;have hsem:o.semAt F.round a.eval=execOp a.eval o:=Oper.semAt_eq _ _ _ (λc' hc'=>by rw[hc'] at hnd;simp[sD] at hnd);rw[hsem];obtain⟨r,h',hm,σ',x,w',hrun,hres,hh',hext⟩:=N7 (P:=P) hρ hs.h ho;rw[hrun];have hkk:=hk _ hm
 cases r with
 | some av=>
  obtain⟨v,rfl,hV⟩:=hres;exact hnext _ _ w' σ' hkk (hs.put hext.le hd hV hh') hext rfl
 | none=>
  have hres:x=.skip:=hres;subst hres;exact hnext _ _ w' σ' hkk (hs.put hext.le hd V.kh hh') hext rfl
theorem Dc.call{P:Program}{ro:Option Nat}{o:Oper}{f:Nat->AV}{m:Nat}{h:H}{ds:List jd}{K:fO->Prop}{c:Call}{g:Fn}{xs cap:List AV}{Q':AV->H->Prop}(hop:o.op=.call c)(hdy:kH (.call c)=true)(hd:uT o.dst m=true)(hc:nX P (dL f m) c=some (g,xs,cap))
 (hq:dT P g (xs++cap) h Q') (hk:∀v h',Q' v h'->K ⟨Gb f o.dst v,m,h',ds⟩):Dc P ro o ⟨f,m,h,ds⟩ K:=by
 intro F n σ a w next Q hs hF hnext
 refine⟨λf _=>hF.fn f,?_⟩;have hρ:=hs.sr.t.ev;have hsem:o.semAt F.round a.eval=execOp a.eval o:=Oper.semAt_eq _ _ _ (λc' hc'=>by rw[hop] at hc';cases hc');rw[hsem]
 have hexec:(execOp a.eval o).run P w=((do let d <-resolve a.eval c o.type;invoke d.target d.args):Sem Next).run P w:=by
  cases c with
  | mk callee args ats=>cases callee with
   | builtin b=>simp[kH] at hdy
   | value g=>simp only[execOp,hop]
   | invoke r m=>simp only[execOp,hop]
 have fin:∀r,BD P r (De σ h w Q')->o.uponIn F n P a next Q r:=by
  intro r hf;refine Oz hF hf ?_;rintro v w' ⟨av,h',hm,σ',hV,hh',hext⟩;exact hnext _ _ w' σ' (hk _ _ hm) (hs.put hext.le hd hV hh') hext rfl
 rw[hexec]
 rcases Gx hc hρ o.type (w:=w) with⟨g,args',rfl,hv,he⟩ | ⟨id,p,args',rfl,hp,hv,he⟩ | ⟨h1,h2⟩
 ·rw[he];exact fin _ (hq _ _ _ hv hs.h)
 ·rw[he];exact fin _ (hq _ _ _ _ hp hv hs.h)
 ·cases g with
  | func g=>exact absurd rfl (h1 g)
  | yield id=>exact absurd rfl (h2 id)
  | _=>exact hq.elim
def je(P:Program)(ro:Option Nat)(all l:List Oper)(st:fO)(K:fO->Prop):Prop:=∀(ops:Array Oper) (i:Nat),ops.toList=all->ops.toList.drop i=l->∀(F:Fence) (n:Nat) (σ:Sg) (a:Act) (w:World) (Q:Exit->Act->World->Prop),
 SF σ st a w->BC σ ro F->(∀st' a' w' σ',K st'->SF σ' st' a' w'->Ext σ σ' st.h st'.h w w'->st'.n=st.n->Q .normal a' w')->wpOpsIn F n P ops Q (List.range' i l.length) a w
theorem je.nil{P:Program}{ro:Option Nat}{all:List Oper}{st:fO}{K:fO->Prop}(h:K st):je P ro all [] st K:=
 λ_ _ _ _ _ _ σ a w _ hs _ hQ=>hQ st a w σ h hs (.refl _ _ _) rfl
theorem Au{ops:Array Oper}{i:Nat}{o:Oper}{l:List Oper}(hd:ops.toList.drop i=o::l):ops[i]?=some o/\ops.toList.drop (i+1)=l:=by
 refine⟨?_,?_⟩
 ·rw[<-Array.getElem?_toList];have:=congrArg (λl=>l[0]?) hd;simpa using this
 ·have:=congrArg List.tail hd;simpa [List.tail_drop] using this
def kr(ops:List Oper)(f:Nat->AV)(n:Nat)(o:Oper):Option Bool:=match o.guard with
 | none=>some true
 | some (j,want)=>match (ops[j]?).bind (·.dst) with
  | some d=>_root_.cond (blt d n) (match f d with
   | .bool b=>some (b==want)
   | .bI []=>some false
   | _=>none) none
  | none=>none
theorem BA{ops:List Oper}{f:Nat->AV}{n:Nat}{o:Oper}{b:Bool}(h:kr ops f n o=some b):tx ops (dL f n) n o=some b:=by
 unfold kr at h;unfold tx;split at h
 ·rename_i hg;rw[hg];exact h
 ·rename_i j want hg;rw[hg];simp only;split at h
  ·rename_i d hd;obtain⟨hlt,h2⟩:=aK h;rw[hd];simp only;rw[hlt,ah,mh f n d (fQ hlt)];split at h2
   ·rename_i x hx;rw[hx];exact h2
   ·rename_i hx;rw[hx];exact h2
   ·simp at h2
  ·simp at h
theorem je.cons{P:Program}{ro:Option Nat}{all:List Oper}{o:Oper}{l:List Oper}{st:fO}{K:fO->Prop}(hw:kr all st.f st.n o=some true)(h:Dc P ro o st (λst'=>je P ro all l st' K)):je P ro all (o::l) st K:=by
 intro ops i ha hdd F n σ a w Q hs hF hQ;obtain⟨hoi,hdr⟩:=Au hdd;rw[length_cons,List.range'_succ];simp only[wpOpsIn,hoi];have hwt:=yP (by rw[ha];exact BA hw) hs.t.tr;rw[hwt];simp only[if_true];refine h F n σ a w _ Q hs hF ?_;intro st' a' w' σ' hK hs' hE' hn';exact hK ops (i+1) ha hdr F n σ' a' w' Q hs' (hF.mono hE'.le) λst'' a'' w'' σ'' h1 h2 h3 h4=>hQ st'' a'' w'' σ'' h1 h2 (hE'.trans h3) (h4.trans hn')
theorem je.skip{P:Program}{ro:Option Nat}{all:List Oper}{o:Oper}{l:List Oper}{f:Nat->AV}{m:Nat}{h:H}{ds:List jd}{K:fO->Prop}(hw:kr all f m o=some false)(hd:uT o.dst m=true)(hk:je P ro all l ⟨Gb f o.dst kh,m,h,ds⟩ K):je P ro all (o::l) ⟨f,m,h,ds⟩ K:=by
 intro ops i ha hdd F n σ a w Q hs hF hQ;obtain⟨hoi,hdr⟩:=Au hdd;rw[length_cons,List.range'_succ];simp only[wpOpsIn,hoi];have hwt:=yP (by rw[ha];exact BA hw) hs.t.tr;rw[hwt];simp only[Bool.false_eq_true,if_false];refine⟨λf _=>hF.fn f,?_⟩;exact hk ops (i+1) ha hdr F n σ _ w Q (hs.put (λ_ _ h=>h) hd V.kh hs.h) hF λst'' a'' w'' σ'' h1 h2 h3 h4=>hQ st'' a'' w'' σ'' h1 h2 h3 h4
def Ah(σ:Sg)(h:H)(w:World)(N:Nat)(Q:Ex->fO->Prop):Exit->Act->World->Prop:=λe a' w'=>
 ∃ex st',Q ex st'/\Rk ex e/\∃σ',SF σ' st' a' w'/\Ext σ σ' h st'.h w w'/\st'.n=N
def kj(P:Program)(ro:Option Nat)(c:Code)(st:fO)(Q:Ex->fO->Prop):Prop:=∀(F:Fence) (n:Nat) (σ:Sg) (a:Act) (w:World),SF σ st a w->BC σ ro F->c.wpIn F n P (Ah σ st.h w st.n Q) a w
theorem kj.wide{P:Program}{ro:Option Nat}{c:Code}{st:fO}{Q:Ex->fO->Prop}(h:kj P ro c st Q){F:Fence}{n:Nat}{σ σ0:Sg}{a:Act}{w w0:World}{h0:H}{N:Nat}(hs:SF σ st a w)(hF:BC σ ro F)(hE:Ext σ0 σ h0 st.h w0 w)(hN:st.n=N):
 c.wpIn F n P (Ah σ0 h0 w0 N Q) a w:=
 wpIn_mono (h F n σ a w hs hF) λ_ _ _ ⟨ex,st',h1,h2,σ',h3,h4,h5⟩=>⟨ex,st',h1,h2,σ',h3,hE.trans h4,h5.trans hN⟩
theorem kj.mono{P:Program}{ro:Option Nat}{c:Code}{st:fO}{Q Q':Ex->fO->Prop}(h:kj P ro c st Q)(hq:∀e x,Q e x->Q' e x):kj P ro c st Q':=
 λF n σ a w hs hF=>wpIn_mono (h F n σ a w hs hF) λ_ _ _ ⟨ex,st',h1,h2⟩=>⟨ex,st',hq _ _ h1,h2⟩
theorem kj.skip{P:Program}{ro:Option Nat}{st:fO}{Q:Ex->fO->Prop}(h:Q .normal st):kj P ro .skip st Q:=λ_ _ _ _ _ hs _=>wpIn_skip ⟨.normal,st,h,rfl,_,hs,.refl _ _ _,rfl⟩
theorem kj.label{P:Program}{ro:Option Nat}{l:Nat}{st:fO}{Q:Ex->fO->Prop}(h:Q .normal st):kj P ro (.label l) st Q:=λ_ _ _ _ _ hs _=>wpIn_label ⟨.normal,st,h,rfl,_,hs,.refl _ _ _,rfl⟩
theorem kj.exit{P:Program}{ro:Option Nat}{id:Nat}{st:fO}{Q:Ex->fO->Prop}(h:Q (.exit id) st):kj P ro (.exit id) st Q:=λ_ _ _ _ _ hs _=>wpIn_exit ⟨.exit id,st,h,rfl,_,hs,.refl _ _ _,rfl⟩
theorem kj.ret{P:Program}{ro:Option Nat}{st:fO}{Q:Ex->fO->Prop}(h:Q .ret st):kj P ro .ret st Q:=λ_ _ _ _ _ hs _=>wpIn_ret ⟨.ret,st,h,rfl,_,hs,.refl _ _ _,rfl⟩
theorem kj.region{P:Program}{ro:Option Nat}{id:Nat}{ops:Array Oper}{st:fO}{Q:Ex->fO->Prop}(h:je P ro ops.toList ops.toList st (Q .normal)):kj P ro (.region id ops false) st Q:=by
 intro F n σ a w hs hF;refine wpIn_region ?_;have:=h ops 0 rfl rfl F n σ a w (Ah σ st.h w st.n Q) hs hF λst' a' w' σ' h1 h2 h3 h4=>⟨.normal,st',h1,rfl,σ',h2,h3,h4⟩;rw[List.range_eq_range'];simpa using this
def QG(P:Program)(ro:Option Nat)(y:Code)(Q:Ex->fO->Prop):Ex->fO->Prop
 | .normal,st=>kj P ro y st Q
 | e,st=>Q e st
theorem kj.seq{P:Program}{ro:Option Nat}{x y:Code}{st:fO}{Q:Ex->fO->Prop}(h:kj P ro x st (QG P ro y Q)):kj P ro (.seq x y) st Q:=by
 intro F n σ a w hs hF;refine wpIn_seq (wpIn_mono (h F n σ a w hs hF) ?_);rintro e a' w' ⟨ex,st',hq,hex,σ',hs',hE',hn'⟩
 cases ex with
 | normal=>
  have:e=.normal:=hex;subst this;exact kj.wide (st:=st') hq hs' (hF.mono hE'.le) hE' hn'
 | ret=>
  have:e=.ret:=hex;subst this;exact⟨_,st',hq,rfl,σ',hs',hE',hn'⟩
 | exit id=>
  have:e=.exit id:=hex;subst this;exact⟨_,st',hq,rfl,σ',hs',hE',hn'⟩
 | goto l=>
  have:e=.goto l:=hex;subst this;exact⟨_,st',hq,rfl,σ',hs',hE',hn'⟩
theorem kj.cond{P:Program}{ro:Option Nat}{c:Operand}{x y:Code}{st:fO}{Q:Ex->fO->Prop}{b:Bool}(hc:ev (dL st.f st.n) c=some (.bool b))(h1:b=true->kj P ro x st Q)(h2:b=false->kj P ro y st Q):kj P ro (.cond c x y) st Q:=by
 intro F n σ a w hs hF;have hv:=hs.sr.t.ev _ _ hc;generalize hg:a.eval c=v at hv;cases hv;cases b
 ·exact wpIn_cond_false hg (h2 rfl F n σ a w hs hF)
 ·exact wpIn_cond_true hg (h1 rfl F n σ a w hs hF)
def KY(id:Nat)(Q:Ex->fO->Prop):Ex->fO->Prop
 | .exit i,st=>if i=id then Q .normal st else Q (.exit i) st
 | e,st=>Q e st
theorem kj.block{P:Program}{ro:Option Nat}{id:Nat}{x:Code}{st:fO}{Q:Ex->fO->Prop}(h:kj P ro x st (KY id Q)):kj P ro (.block id x) st Q:=by
 intro F n σ a w hs hF;refine wpIn_block (wpIn_mono (h F n σ a w hs hF) ?_);rintro e a' w' ⟨ex,st',hq,hex,σ',hs',hE',hn'⟩
 cases ex with
 | normal=>
  have:e=.normal:=hex;subst this;exact⟨_,st',hq,rfl,σ',hs',hE',hn'⟩
 | ret=>
  have:e=.ret:=hex;subst this;exact⟨_,st',hq,rfl,σ',hs',hE',hn'⟩
 | goto l=>
  have:e=.goto l:=hex;subst this;exact⟨_,st',hq,rfl,σ',hs',hE',hn'⟩
 | exit id'=>
  have:e=.exit id':=hex;subst this;simp only[Exit.inBlock];simp only[KY] at hq;by_cases hb:id'=id
  ·rw[if_pos hb] at hq ⊢;exact⟨_,st',hq,rfl,σ',hs',hE',hn'⟩
  ·rw[if_neg hb] at hq ⊢;exact⟨_,st',hq,rfl,σ',hs',hE',hn'⟩
theorem qR{F:Fence}{n:Nat}{P:Program}{c:Code}{Q:Exit->Act->World->Prop}:∀{k m:Nat},k<=m->∀{a:Act} {w:World},Code.roundsIn F n P c Q k a w->Code.roundsIn F n P c Q m a w
 | 0,_,_,_,_,h=>h.elim
 | k+1,0,hk,_,_,_=>by omega
 | k+1,m+1,hk,a,w,h=>by
  rw[roundsIn_succ] at h ⊢;refine wpIn_mono h λe a w hq=>?_
  cases e with
  | normal=>exact qR (by omega) hq
  | _=>exact hq
def Round(I:Nat->fO->Prop)(m:Nat)(Q:Ex->fO->Prop):Ex->fO->Prop
 | .normal,st=>∃k,k<m/\I k st
 | e,st=>Q e st
theorem kj.loop{P:Program}{ro:Option Nat}{x:Code}{st:fO}{Q:Ex->fO->Prop}(I:Nat->fO->Prop)(m:Nat)(h0:I m st)(h:∀m st,I m st->kj P ro x st (Round I m Q)):kj P ro (.loop x) st Q:=by
 intro F n σ a w hs hF
 have key:∀(m:Nat) (st1:fO),I m st1->st1.n=st.n->∀(σ1:Sg) (a1:Act) (w1:World),SF σ1 st1 a1 w1->Ext σ σ1 st.h st1.h w w1->Code.roundsIn F n P x (Ah σ st.h w st.n Q) (m+1) a1 w1:=by
  intro m
  induction m using Nat.strongRecOn with
  | _ m ih=>
   intro st1 hI hn1 σ1 a1 w1 hs1 hE1;rw[roundsIn_succ];refine wpIn_mono (kj.wide (h m st1 hI) hs1 (hF.mono hE1.le) hE1 hn1) ?_;rintro e a' w' ⟨ex,st',hq,hex,σ',hs',hE',hn'⟩
   cases ex with
   | normal=>
    have:e=.normal:=hex;subst this;obtain⟨k,hk,hI'⟩:=hq;exact qR (by omega) (ih k hk st' hI' hn' σ' a' w' hs' hE')
   | ret=>
    have:e=.ret:=hex;subst this;exact⟨_,st',hq,rfl,σ',hs',hE',hn'⟩
   | goto l=>
    have:e=.goto l:=hex;subst this;exact⟨_,st',hq,rfl,σ',hs',hE',hn'⟩
   | exit id'=>
    have:e=.exit id':=hex;subst this;exact⟨_,st',hq,rfl,σ',hs',hE',hn'⟩
 exact wpIn_loop_rounds (m+1) (key m st h0 rfl σ a w hs (.refl _ _ _))
def O1(Q:Ex->fO->Prop):Ex->fO->Prop
 | .goto _,_=>False
 | e,st=>Q e st
theorem kj.scope{P:Program}{ro:Option Nat}{x:Code}{st:fO}{Q:Ex->fO->Prop}(h:kj P ro x st (O1 Q)):kj P ro (.scope x) st Q:=by
 intro F n σ a w hs hF;refine Ib (wpIn_mono (h F n σ a w hs hF) ?_);rintro e a' w' ⟨ex,st',hq,hex,σ',hs',hE',hn'⟩
 cases ex with
 | normal=>
  have:e=.normal:=hex;subst this;exact⟨by simp,_,st',hq,rfl,σ',hs',hE',hn'⟩
 | ret=>
  have:e=.ret:=hex;subst this;exact⟨by simp,_,st',hq,rfl,σ',hs',hE',hn'⟩
 | goto l=>exact hq.elim
 | exit id'=>
  have:e=.exit id':=hex;subst this;exact⟨by simp,_,st',hq,rfl,σ',hs',hE',hn'⟩
def qD(args:List AV):Nat->AV:=λi=>match args[i]? with
 | some v=>v
 | none=>kh
theorem Ii{σ:Sg}{args:List AV}{args':Array Value}(h:VL σ args args'.toList)(nt:Nat):TF σ (qD args) (args.length+(nt-args.length)) (args'++Array.replicate (nt-args'.size) undef):=by
 have ht:=Ls h nt;refine⟨ht.1,λi hi=>?_⟩;have:=ht.2 i;rw[qX] at this;unfold qD;by_cases hl:i<args.length
 ·rw[if_pos (by omega)] at this;rw[Nat.sub_zero] at this
  cases hx:args[i]? with
  | none=>rw[List.getElem?_eq_none_iff] at hx;omega
  | some v=>rw[hx] at this;exact this
 ·rw[if_neg (by omega),get_nil] at this;rw[List.getElem?_eq_none (by omega)];exact this
theorem je.v{P:Program}{ro:Option Nat}{all:List Oper}{o:Oper}{l:List Oper}{f:Nat->AV}{n:Nat}{h h':H}{ds:List jd}{K:fO->Prop}{d:Nat}{op:Op}{v:AV}(hop:o.op=op)(hdst:o.dst=some d)(hw:kr all f n o=some true)(hnd:sD op=true)(hd:blt d n=true)
 (ho:ef P (dL f n) h op=some [(some v,h')]) (hk:je P ro all l ⟨yU f d v,n,h',ds⟩ K):je P ro all (o::l) ⟨f,n,h,ds⟩ K:=by
 refine .cons hw (.run (by rw[hop];exact hnd) (by rw[hdst];exact hd) (by rw[hop];exact ho) ?_);intro x hx;rw[List.mem_singleton.1 hx,hdst];exact hk
theorem je.s{P:Program}{ro:Option Nat}{all:List Oper}{o:Oper}{l:List Oper}{f:Nat->AV}{n:Nat}{h:H}{ds:List jd}{K:fO->Prop}{d:Nat}(hdst:o.dst=some d)(hw:kr all f n o=some false)(hd:blt d n=true)
 (hk:je P ro all l ⟨yU f d kh,n,h,ds⟩ K):je P ro all (o::l) ⟨f,n,h,ds⟩ K:=by
 refine .skip hw (by rw[hdst];exact hd) ?_;rw[hdst];exact hk
theorem je.c{P:Program}{ro:Option Nat}{all:List Oper}{o:Oper}{l:List Oper}{f:Nat->AV}{n:Nat}{h:H}{ds:List jd}{K:fO->Prop}{d:Nat}{c:Call}{g:Fn}{xs cap ys:List AV}{Q:AV->H->Prop}(hop:o.op=.call c)(hdst:o.dst=some d)(hw:kr all f n o=some true)(hdy:kH (.call c)=true)(hd:blt d n=true)
 (hc:nX P (dL f n) c=some (g,xs,cap)) (hys:xs++cap=ys) (hq:dT P g ys h Q) (hk:∀v h',Q v h'->je P ro all l ⟨yU f d v,n,h',ds⟩ K):je P ro all (o::l) ⟨f,n,h,ds⟩ K:=by
 subst hys;refine .cons hw (.call hop hdy (by rw[hdst];exact hd) hc hq ?_);intro v h' hv;rw[hdst];exact hk v h' hv
theorem eE(a b:Int):qP a b=decide (a<=b):=by
 unfold qP
 rcases hb:b-a with m | m
 ·have h2:b-a=(m:Int):=hb
  have:a<=b:=by omega
  simp[this]
 ·have h2:b-a = -((m:Int)+1):=by rw[hb,Int.negSucc_eq]
  have:¬a<=b:=by omega
  simp[this]
theorem not_le(a b:Int):(!decide (a<=b))=decide (b<a):=by
 by_cases h:a<=b
 ·have:¬b<a:=by omega
  simp[h,this]
 ·have:b<a:=by omega
  simp[h,this]
theorem xe(a b:Int):NC a b=decide (a=b):=by
 unfold NC;rw[eE,eE];by_cases h:a=b
 ·subst h;simp
 ·have:¬(a<=b/\b<=a):=by omega
  simp only[h,decide_false];by_cases h1:a<=b
  ·have:¬b<=a:=by omega
   simp[this]
  ·simp[h1]
theorem mY:∀(a b:List Nat),tE a b=decide (a=b)
 | [],[]=>rfl
 | [],_::_=>rfl
 | _::_,[]=>rfl
 | x::a,y::b=>by
  have:=mY a b;simp only[tE,this];by_cases h:x=y
  ·subst h;simp
  ·have:beq x y=false:=by
    cases hb:beq x y
    ·rfl
    ·exact absurd (cP hb) h
   simp[this,h]
theorem wa{P:Program}{t:TypeId}{a b:Int}{k:IntKind}(hk:xF k k=true):cM P .lss t (.int k a) (.int k b)=some (.bool (decide (a<b))):=by
 simp only[cM,hk,ah,BN,eE,not_le]
theorem rQ{P:Program}{t:TypeId}{a b:Int}{k:IntKind}(hk:xF k k=true):cM P .leq t (.int k a) (.int k b)=some (.bool (decide (a<=b))):=by
 simp only[cM,hk,ah,BN,eE]
theorem vZ{P:Program}{t:TypeId}{a b:Int}{k:IntKind}(hk:xF k k=true):cM P .gtr t (.int k a) (.int k b)=some (.bool (decide (b<a))):=by
 simp only[cM,hk,ah,BN,eE,not_le]
theorem vY{P:Program}{t:TypeId}{a b:Int}{k:IntKind}(hk:xF k k=true):cM P .geq t (.int k a) (.int k b)=some (.bool (decide (b<=a))):=by
 simp only[cM,hk,ah,BN,eE]
theorem rP{P:Program}{t:TypeId}{a b:Int}{k:IntKind}(hk:xF k k=true):cM P .eql t (.int k a) (.int k b)=some (.bool (decide (a=b))):=by
 simp only[cM,hk,ah,BN,xe]
theorem nU{P:Program}{t:TypeId}{a b:Int}{k:IntKind}(hk:xF k k=true):cM P .neq t (.int k a) (.int k b)=some (.bool (!decide (a=b))):=by
 simp only[cM,hk,ah,BN,xe]
theorem iJ{P:Program}{t:TypeId}{a b:Int}(h : -9223372036854775808<=a+b/\a+b<=9223372036854775807):cM P .add t (.int .i64 a) (.int .i64 b)=some (.int .i64 (a+b)):=by
 have h1:(qP (-9223372036854775808) (a+b)&&qP (a+b) 9223372036854775807)=true:=by
  rw[eE,eE];simp[h.1,h.2]
 simp only[cM,xF,ah,dH,LX,LJ,h1]
theorem we{P:Program}{t:TypeId}{a b:Int}(h : -9223372036854775808<=a-b/\a-b<=9223372036854775807):cM P .sub t (.int .i64 a) (.int .i64 b)=some (.int .i64 (a-b)):=by
 have h1:(qP (-9223372036854775808) (a-b)&&qP (a-b) 9223372036854775807)=true:=by
  rw[eE,eE];simp[h.1,h.2]
 simp only[cM,xF,ah,dH,LX,LJ,h1]
theorem wc{P:Program}{t:TypeId}{a b:Int}(h : -9223372036854775808<=a*b/\a*b<=9223372036854775807):cM P .mul t (.int .i64 a) (.int .i64 b)=some (.int .i64 (a*b)):=by
 have h1:(qP (-9223372036854775808) (a*b)&&qP (a*b) 9223372036854775807)=true:=by
  rw[eE,eE];simp[h.1,h.2]
 simp only[cM,xF,ah,dH,LX,LJ,h1]
theorem Dv{P:Program}{t:TypeId}{a b:List Nat}:cM P .eql t (.str a) (.str b)=some (.bool (decide (a=b))):=by
 simp only[cM,mY]
theorem Dz{P:Program}{t:TypeId}{a b:List Nat}:cM P .neq t (.str a) (.str b)=some (.bool (!decide (a=b))):=by
 simp only[cM,mY]
theorem Dy{P:Program}{t:TypeId}{a b:List Nat}:cM P .lss t (.str a) (.str b)=some (.bool (gk a b)):=rfl
theorem Dw{P:Program}{t:TypeId}{a b:List Nat}:cM P .gtr t (.str a) (.str b)=some (.bool (!(gk a b||tE a b))):=rfl
theorem o6{P:Program}{t:TypeId}{a b:List Nat}:cM P .geq t (.str a) (.str b)=some (.bool (!gk a b)):=rfl
theorem Dx{P:Program}{t:TypeId}{a b:List Nat}:cM P .leq t (.str a) (.str b)=some (.bool (gk a b||tE a b)):=rfl
theorem oP:xF .i64 .i64=true:=rfl
theorem vI:xF .u8 .u8=true:=rfl
section
variable {P:Program} {t:Tr AV} {h:H}
theorem Od{x:Operand}:ef P t h (.move x)=(ev t x).map λv=>[(some v,h)]:=rfl
theorem Ki{x:Operand}:ef P t h (.assign x)=(ev t x).map λv=>[(some v,h)]:=rfl
noncomputable def Mp(c a b:Option AV):Option AV:=match c,a,b with
 | some (.bool z),some x,some y=>some (_root_.cond z x y)
 | _,_,_=>none
theorem Oe{c a b:Operand}:ef P t h (.pick c a b)=(Mp (ev t c) (ev t a) (ev t b)).map λv=>[(some v,h)]:=by
 simp only[ef];unfold Mp;cases ha:ev t a<;>cases hb:ev t b<;>cases hc:ev t c<;>(try rfl)
 ·rename_i z;cases z<;>rfl
 ·rename_i z;cases z<;>rfl
 ·rename_i z;cases z<;>rfl
 ·rename_i z;cases z<;>(try rfl);rename_i b;cases b<;>rfl
theorem Mf{e:TypeId}:ef P t h (.alloc e)=(dm P e).map λz=>[(some (.ptr (some (h.next,0))),{ h.lay h.next (.cells z.cells h.next) with next:=h.next+1 })]:=by
 simp only[ef,nQ];cases dm P e<;>rfl
theorem Po{e:TypeId}{x:Operand}:ef P t h (.box e x)=(ev t x).map λv=>[(some (.ptr (some (h.next,0))),{ h.lay h.next (.cells v.cells h.next) with next:=h.next+1 })]:=by
 simp only[ef,nQ];cases ev t x<;>rfl
theorem Hc{tt:TypeId}:ef P t h (.makeMap tt none)=some [(some (.map (some h.next)),{ h.lay h.next (.map [] 0) with next:=h.next+1 })]:=rfl
theorem zb{tt:TypeId}{n:Nat}{ps:Array (Nat×Operand)}:ef P t h (.buildSlice tt n ps)=((k7 t ps.toList).bind λps=>(gq P tt n ps).map λq=>((.slice (some (h.next,0)) n q.1 (some n),.cells q.2 h.next):AV×AO)).map λx=>[(some x.1,{ h.lay h.next x.2 with next:=h.next+1 })]:=by
 simp only[ef,nQ]
 cases hp:k7 t ps.toList with
 | none=>rfl
 | some l=>cases hb:gq P tt n l<;>simp[hb]
theorem Mg{tt:TypeId}{ps:Array (Nat×Operand)}:ef P t h (.build tt ps)=((k7 t ps.toList).bind λps=>tO P tt ps).map λv=>[(some v,h)]:=rfl
noncomputable def B6(P:Program)(h:H)(tt:TypeId):Option AV->Option AV
 | some (.ptr (some (id,off)))=>h.load P tt id off
 | _=>none
theorem Ob{tt:TypeId}{a:Operand}:ef P t h (.load tt a)=(B6 P h tt (ev t a)).map λv=>[(some v,h)]:=by
 simp only[ef]
 cases ev t a with
 | none=>rfl
 | some v=>cases v<;>(try rfl);rename_i o;rcases o with _ | ⟨id,off⟩<;>rfl
theorem AT{tt:TypeId}{id off:Nat}:B6 P h tt (some (.ptr (some (id,off))))=h.load P tt id off:=rfl
noncomputable def Cv(P:Program)(h:H)(tt:TypeId):Option AV->Option AV->Option H
 | some (.ptr (some (id,off))),some x=>h.storeVar P tt id off x
 | _,_=>none
theorem Ml{tt:TypeId}{a x:Operand}:ef P t h (.store tt a x)=(Cv P h tt (ev t a) (ev t x)).map λh=>[(none,h)]:=by
 simp only[ef]
 cases ev t a with
 | none=>rfl
 | some v=>cases v<;>(try rfl);rename_i o;rcases o with _ | ⟨id,off⟩<;>(try rfl);cases ev t x<;>rfl
theorem Hm{tt:TypeId}{id off:Nat}{x:AV}:Cv P h tt (some (.ptr (some (id,off)))) (some x)=h.storeVar P tt id off x:=rfl
theorem G9{op:BinOp}{xt yt:TypeId}{x y:Operand}:ef P t h (.binOp op xt x y yt)=((ev t x).bind λx=>(ev t y).bind λy=>cM P op xt x y).map λv=>[(some v,h)]:=rfl
theorem P7{op:UnOp}{xt:TypeId}{x:Operand}:ef P t h (.unOp op xt x)=((ev t x).bind (PE op)).map λv=>[(some v,h)]:=rfl
theorem M3{b:Bool}:PE .not (.bool b)=some (.bool (!b)):=rfl
theorem N8{s d:TypeId}{x:Operand}:ef P t h (.convert s d x)=((ev t x).bind (lO P s d)).map λv=>[(some v,h)]:=rfl
theorem Cf{s:TypeId}{x:Operand}{f:Nat}:ef P t h (.fieldAddr s x f)=((ev t x).bind λx=>iP P s x f).map λv=>[(some v,h)]:=rfl
theorem Mh{s:TypeId}{x:Operand}{f:Nat}:ef P t h (.field s x f)=((ev t x).bind λx=>tY P s x f).map λv=>[(some v,h)]:=rfl
theorem Cg{s:TypeId}{x i:Operand}:ef P t h (.indexAddr s x i)=((ev t x).bind λx=>(ev t i).bind λi=>jW P s x i).map λv=>[(some v,h)]:=rfl
theorem Mj{s:TypeId}{x i:Operand}:ef P t h (.index s x i)=((ev t x).bind λx=>(ev t i).bind λi=>ue P s x i).map λv=>[(some v,h)]:=rfl
theorem Mk{tt:TypeId}{x:Operand}{lo hi mx:Option Operand}:ef P t h (.slice tt x lo hi mx)=((ev t x).bind λx=>(Lw t lo).bind λlo=>(Lw t hi).bind λhi=>(Lw t mx).bind λmx=>uF P h tt x lo hi mx).map λv=>[(some v,h)]:=rfl
theorem Kj{tt:TypeId}{x k:Operand}{ok:Bool}:ef P t h (.lookup tt x k ok)=((ev t x).bind λx=>(ev t k).bind λk=>qk P h tt x k ok).map λv=>[(some v,h)]:=rfl
theorem Ch{tt:TypeId}{m k x:Operand}:ef P t h (.mapUpdate tt m k x)=((ev t m).bind λm=>(ev t k).bind λk=>(ev t x).bind λx=>jZ P h tt m k x).map λh=>[(none,h)]:=rfl
theorem EI{tt:TypeId}{x:Operand}:ef P t h (.range tt x)=((ev t x).bind λx=>uC P h tt x).map λx=>[(some x.1,x.2)]:=rfl
theorem EH{x:Operand}:ef P t h (.entry x)=((ev t x).bind λx=>tV h x).map λv=>[(some v,h)]:=rfl
noncomputable def Ax(i:Nat):Option AV->Option AV
 | some (.bI vs)=>vs[i]?
 | _=>none
theorem Hb{x:Operand}{i:Nat}:ef P t h (.extract x i)=(Ax i (ev t x)).map λv=>[(some v,h)]:=by
 simp only[ef]
 cases ev t x with
 | none=>rfl
 | some v=>cases v<;>rfl
theorem Mi{xt:TypeId}{x:Operand}{d:TypeDesc}(hd:P.underlying xt=some d)(hi:(match d with | .interface _=>false | _=>true)=true):ef P t h (.makeInterface xt x)=(ev t x).map λv=>[(some (.iface xt v),h)]:=by
 simp only[ef,hd]
 cases d<;>first | (simp at hi;done) | (cases ev t x<;>rfl)
theorem N9{g:FuncId}{first cap:Array Operand}:ef P t h (.makeFunc (.func g) first cap)=((tF t first.toList).bind λa=>(tF t cap.toList).map λb=>AV.fn (.func g) a b).map λv=>[(some v,h)]:=rfl
theorem Ha{b:Builtin}{aS:Array Operand}{ats:Array TypeId}:ef P t h (.call { callee:=.builtin b,args:=aS,argTypes:=ats })=((tF t aS.toList).bind λxs=>lN P h b ats.toList xs).map λx=>[(some x.1,x.2)]:=rfl
theorem ly{tt:TypeId}(hu:P.underlying tt=some .string){s:List Nat}:Eg P h tt (.str s)=some (.int .i64 (s.length:Int)):=by
 simp only[Eg,hu,Option.map_some,Int.ofNat_eq_natCast]
end
theorem Lx(t:Tr AV)(x:Operand)(l:List Operand):tF t (x::l)=(ev t x).bind λa=>(tF t l).map λb=>a::b:=by
 simp only[tF,List.mapM_cons]
 cases ev t x with
 | none=>rfl
 | some a=>cases h:mapM (ev t) l<;>simp_all
theorem EK(t:Tr AV)(i:Nat)(x:Operand)(l:List (Nat×Operand)):k7 t ((i,x)::l)=(ev t x).bind λa=>(k7 t l).map λb=>(i,a)::b:=by
 simp only[k7,List.mapM_cons]
 cases ev t x with
 | none=>rfl
 | some a=>cases h:mapM (λp:Nat×Operand=>Option.map (λv=>(p.1,v)) (ev t p.2)) l<;>simp_all
theorem iK(a b:Nat):decide ((a:Int)<=(b:Int))=ble a b:=by
 by_cases h:a<=b
 ·have:(a:Int)<=b:=by omega
  simp[this,ek h]
 ·have h2:¬(a:Int)<=b:=by omega
  have:ble a b=false:=by
   cases hb:ble a b
   ·rfl
   ·exact absurd (iO hb) h
  simp[h2,this]
theorem Ny(a b:Nat):decide ((a:Int)=(b:Int))=beq a b:=by
 by_cases h:a=b
 ·subst h;simp
 ·have h2:¬(a:Int)=b:=by omega
  have:beq a b=false:=by
   cases hb:beq a b
   ·rfl
   ·exact absurd (cP hb) h
  simp[h2,this]
noncomputable def QD:Option AV->AV
 | some v=>v
 | none=>kh
structure Dq where
 f:Nat->AV
 c:H
 xs:List (Nat×AO)
 al:List (Nat×AO)
 m:Nat
 cs:List (Nat×Nat×H)
 rd:List (Nat×(H->R (Option AV×H))×AV)
noncomputable section
def QP:AO->Option (List AV)
 | .cells cs _=>some cs
 | .ro cs=>some cs
 | _=>none
def qK(o:Tr AO)(id:Nat):Option (List AV):=(o.get id).bind QP
def kV(cs:List AV)(off n:Nat):Option (List AV):=cond (ble (off+n) cs.length) (some ((cs.drop off).take n)) none
section
variable {P:Program} {h:H}
theorem lD{id off n:Nat}:h.chunk id off n=(qK h.aQ id).bind λcs=>kV cs off n:=by
 unfold H.chunk qK
 cases h.aQ.get id with
 | none=>rfl
 | some o=>cases o<;>rfl
end
theorem BT{s:Nat}:∀{rows:List (List AV)},(∀r∈rows,r.length=s)->∀{i:Nat} {r:List AV},rows[i]?=some r->∀{k:Nat},k<s->rows.flatten[i*s+k]?=r[k]?
 | [],_,i,r,hi,k,_=>by simp at hi
 | a::rows,hw,0,r,hi,k,hk=>by
  simp at hi;subst hi;have:=hw a (mem_cons_self ..);rw[flatten_cons,Nat.zero_mul,Nat.zero_add,List.getElem?_append_left (by omega)]
 | a::rows,hw,i+1,r,hi,k,hk=>by
  rw[List.getElem?_cons_succ] at hi;have ha:=hw a (mem_cons_self ..);have ih:=BT (λr hr=>hw r (List.mem_cons_of_mem _ hr)) hi hk;rw[flatten_cons,List.getElem?_append_right (by rw[ha,succ_mul];omega),ha];rw[show(i+1)*s+k-s=i*s+k by rw[succ_mul];omega];exact ih
theorem pk{s:Nat}:∀{rows:List (List AV)},(∀r∈rows,r.length=s)->rows.flatten.length=rows.length*s
 | [],_=>by simp
 | a::rows,hw=>by
  have ha:=hw a (mem_cons_self ..);have ih:=pk (λr hr=>hw r (List.mem_cons_of_mem _ hr));rw[flatten_cons,List.length_append,ih,ha,length_cons,succ_mul];omega
theorem Pd{α:Type}{l:List α}{i:Nat}{x:α}(h:l[i]?=some x):i<l.length:=(List.getElem?_eq_some_iff.1 h).1
theorem Av(n:Nat)(s:List Nat):gy (n+1) (.str s) (.str s)=true:=by
 simp only[gy,mY,decide_true]
theorem JT(n:Nat)(k:IntKind)(i:Int):gy (n+1) (.int k i) (.int k i)=true:=by
 simp only[gy,xe,decide_true,Bool.and_true];cases k<;>rfl
theorem GF(n:Nat)(b:Bool):gy (n+1) (.bool b) (.bool b)=true:=by
 simp only[gy,beq_self_eq_true]
theorem JS(n:Nat)(l:List AV)(h:hY (gy n) l l=true):gy (n+1) (.agg l) (.agg l)=true:=h
theorem qo{a b:Nat}(h:a<=b):gh a b=a:=by unfold gh;rw[ek h,ah]
theorem dT.P6{P:Program}{g:FuncId}{k:XK}(hx:yW P g k){args:List AV}{h:H}{a:AV}{h':H}(ha:xA k args h=some (a,h')):dT P (.func g) args h (λa' h''=>a'=a/\h''=h'):=
 λσ w args' hv hr=>(hx args h a h' ha σ w args' hv hr).mono λv w' ⟨a',h'',hm,hg⟩=>⟨a',h'',by simpa using hm,hg⟩
theorem Ap(l:List AV):AV.cells (.agg l)=l:=rfl
section
variable {K U:Type} [DecidableEq K]
def rm(k:K):List (K×U)->Nat->Option Nat
 | [],_=>none
 | e::l,j=>if k=e.1 then some j else rm k l (j+1)
def getM(u0:U)(k:K):List (K×U)->U
 | []=>u0
 | e::l=>if k=e.1 then e.2 else getM u0 k l
def dh(k:K)(l:List (K×U)):Bool:=l.any λe=>decide (k=e.1)
def dk(k:K)(v:U):List (K×U)->List (K×U)
 | []=>[(k,v)]
 | e::l=>if k=e.1 then (k,v)::l else e::dk k v l
theorem lK{k:K}:∀{l:List (K×U)} {j:Nat},rm k l j=none->dh k l=false
 | [],_,_=>rfl
 | e::l,j,h=>by
  unfold rm at h;split at h
  ·cases h
  ·rename_i hne;have:=lK h;simp only[dh,any_cons,hne,decide_false,Bool.false_or] at this ⊢;exact this
theorem j9{k:K}:∀{l:List (K×U)} {j i:Nat},rm k l j=some i->j<=i/\∃u,l[i-j]?=some (k,u)/\(∀u0,getM u0 k l=u)/\(∀v,dk k v l=l.set (i-j) (k,v))/\dh k l=true
 | [],_,_,h=>by cases h
 | e::l,j,i,h=>by
  unfold rm at h;split at h
  ·rename_i he;cases h;refine⟨Nat.le_refl _,e.2,?_,λu0=>?_,λv=>?_,?_⟩
   ·rw[Nat.sub_self,List.getElem?_cons_zero];rw[he]
   ·simp only[getM,he,if_true]
   ·rw[Nat.sub_self];simp only[dk,he,if_true,List.set_cons_zero]
   ·simp only[dh,List.any_cons,he,decide_true,Bool.true_or]
  ·rename_i hne;obtain⟨h1,u,h2,h3,h4,h5⟩:=j9 h
   have e1:i-j=(i-(j+1))+1:=by omega
   refine⟨by omega,u,?_,λu0=>?_,λv=>?_,?_⟩
   ·rw[e1,List.getElem?_cons_succ];exact h2
   ·simp only[getM,hne,if_false];exact h3 u0
   ·rw[e1];simp only[dk,hne,if_false,List.set_cons_succ];rw[h4]
   ·simp only[dh,List.any_cons] at h5 ⊢;rw[h5,Bool.or_true]
theorem sf{u0:U}{k:K}:∀{l:List (K×U)},dh k l=false->getM u0 k l=u0
 | [],_=>rfl
 | e::l,h=>by
  simp only[dh,any_cons,Bool.or_eq_false_iff,decide_eq_false_iff_not] at h;unfold getM;rw[if_neg h.1];exact sf h.2
theorem pN{k:K}{v:U}:∀{l:List (K×U)},dh k l=false->dk k v l=l++[(k,v)]
 | [],_=>rfl
 | e::l,h=>by
  simp only[dh,any_cons,Bool.or_eq_false_iff,decide_eq_false_iff_not] at h;unfold dk;rw[if_neg h.1,pN h.2];rfl
theorem pw(u0:U)(k k':K)(v:U):∀(l:List (K×U)),getM u0 k' (dk k v l)=if k'=k then v else getM u0 k' l
 | []=>by simp only[dk,getM]
 | e::l=>by
  unfold dk;by_cases h:k=e.1
  ·rw[if_pos h];unfold getM;by_cases h2:k'=k
   ·rw[if_pos h2,if_pos h2]
   ·rw[if_neg h2,if_neg h2,if_neg (by rw[<-h];exact h2)]
  ·rw[if_neg h];unfold getM;by_cases h2:k'=e.1
   ·rw[if_pos h2,if_pos h2,if_neg (λe2=>h (e2.symm.trans h2))]
   ·rw[if_neg h2,if_neg h2];exact pw u0 k k' v l
theorem xw(k k':K)(v:U):∀(l:List (K×U)),dh k' (dk k v l)=(decide (k'=k)||dh k' l)
 | []=>by simp[dk,dh]
 | e::l=>by
  have ih:=xw k k' v l;unfold dk;by_cases h:k=e.1
  ·rw[if_pos h];simp only[dh,any_cons,h,<-Bool.or_assoc,Bool.or_self]
  ·rw[if_neg h];simp only[dh,any_cons] at ih ⊢;rw[ih,<-Bool.or_assoc,<-Bool.or_assoc,Bool.or_comm (decide (k'=e.1))]
theorem sh{k:K}{l:List (K×U)}:dh k l=true↔k∈l.map (·.1):=by
 simp only[dh,List.any_eq_true,decide_eq_true_eq,List.mem_map];exact⟨λ⟨x,h1,h2⟩=>⟨x,h1,h2.symm⟩,λ⟨x,h1,h2⟩=>⟨x,h1,h2.symm⟩⟩
structure wz (P:Program) (kt:TypeId) (kv:K->AV):Prop where
 eq:∀a b,kR P 4 kt (kv a) (kv b)=some (decide (a=b))
 ck:∀a,vJ P kt (kv a)=true
 st:∀a,stays (kv a) (kv a)=true
end
end
end Go.Ev

namespace Go.Ev
noncomputable section
theorem je.n{P:Program}{ro:Option Nat}{all:List Oper}{o:Oper}{l:List Oper}{f:Nat->AV}{n:Nat}{h:H}{ds:List jd}{K:fO->Prop}{d:Nat}{op:Op}{outs:List (Option AV×H)}(hop:o.op=op)(hdst:o.dst=some d)(hw:kr all f n o=some true)(hnd:sD op=true)(hd:blt d n=true)
 (ho:ef P (dL f n) h op=some outs) (hk:∀x∈outs,je P ro all l ⟨yU f d (QD x.1),n,x.2,ds⟩ K):je P ro all (o::l) ⟨f,n,h,ds⟩ K:=by
 refine .cons hw (.run (by rw[hop];exact hnd) (by rw[hdst];exact hd) (by rw[hop];exact ho) ?_);intro x hx;have:=hk x hx;rw[hdst];obtain⟨v,h'⟩:=x;cases v<;>exact this
theorem IY{P:Program}{t:Tr AV}{h:H}{it:Operand}{s:Bool}{a:AV}(ha:ev t it=some a):ef P t h (.next it s)=(xX h a s).map λl=>l.map λx=>(some x.1,x.2):=by
 simp only[ef,ha]
section
variable {K U:Type} [DecidableEq K] {kv:K->AV} {uv:U->AV}
def bU(l:List (K×U))(seen:List Nat):List (K×U):=seen.filterMap λi=>l[i]?
omit [DecidableEq K] in
theorem ra{l:List (K×U)}{seen:List Nat}(hn:seen.Nodup)(hl:∀i∈seen,i<l.length)(ha:∀i,i<l.length->i∈seen):(bU l seen).Perm l:=by
 have hp:seen.Perm (range l.length):=by
  refine(List.perm_ext_iff_of_nodup hn List.nodup_range).2 λi=>?_;rw[mem_range];exact⟨hl i,ha i⟩
 have h2:(range l.length).filterMap (λi=>l[i]?)=l:=by
  apply List.ext_getElem?;intro j
  have:(range l.length).filterMap (λi=>l[i]?)=(range l.length).attach.map λx=>l[x.1]'(mem_range.1 x.2):=by
   have:∀(r:List Nat) (hr:∀i∈r,i<l.length),r.filterMap (λi=>l[i]?)=r.attach.map λx=>l[x.1]'(hr x.1 x.2):=by
    intro r hr
    induction r with
    | nil=>rfl
    | cons a r ih=>
     have ha:=hr a (mem_cons_self ..);rw[List.filterMap_cons,List.getElem?_eq_getElem ha];simp only[List.attach_cons,List.map_cons,List.map_map];rw[ih λi hi=>hr i (List.mem_cons_of_mem _ hi)];rfl
   exact this _ λi hi=>mem_range.1 hi
  rw[this];by_cases hj:j<l.length
  ·rw[List.getElem?_map,List.getElem?_eq_getElem (by simpa using hj),List.getElem?_eq_getElem hj];simp
  ·rw[List.getElem?_eq_none (by simp;omega),List.getElem?_eq_none (by omega)]
 unfold bU;have:=hp.filterMap λi=>l[i]?;rw[h2] at this;exact this
omit [DecidableEq K] in
theorem pA(l:List (K×U))(seen:List Nat){i:Nat}{e:K×U}(h:l[i]?=some e):bU l (seen++[i])=bU l seen++[e]:=by
 unfold bU;rw[List.filterMap_append];simp[h]
end
def KX(Z:Nat)(h:H)(v:AV)(s:Nat)(rows:List (List AV)):Prop:=
 (∀r∈rows,r.length=s)/\((rows=[]/\v=.slice none 0 0 (some 0))\/∃id bZ x y,rows≠[]/\v=.slice (some (id,0)) rows.length s none/\h.aQ.get id=some (.cells rows.flatten bZ)/\h.dA.get bZ=some (x,y)/\(id=x\/id=y)/\
  Z<=id/\Z<=x/\Z<=y/\Z<=bZ/\id<h.next/\x<h.next/\y<h.next/\bZ<h.next)
structure Over (Z:Nat) (h h':H):Prop where
 next:h.next<=h'.next
 aQ:∀j,j<Z->h'.aQ.get j=h.aQ.get j
 dA:∀f,f<Z->h'.dA.get f=h.dA.get f
 low:h.low<=Z->h'.low=h.low
theorem Over.refl(Z:Nat)(h:H):Over Z h h:=⟨le_refl _,λ_ _=>rfl,λ_ _=>rfl,λ_=>rfl⟩
theorem Over.trans{Z:Nat}{h h' h'':H}(a:Over Z h h')(b:Over Z h' h''):Over Z h h'':=
 ⟨Nat.le_trans a.next b.next,λj hj=>(b.aQ j hj).trans (a.aQ j hj),λj hj=>(b.dA j hj).trans (a.dA j hj),λhl=>(b.low (by rw[a.low hl];exact hl)).trans (a.low hl)⟩
theorem qW{Z:Nat}{h:H}{id bZ x y:Nat}(hf:h.dA.get bZ=some (x,y))(hx:Z<=x)(hy:Z<=y)(hfm:Z<=bZ):Over Z h (h.alone id bZ)/\(h.alone id bZ).next=h.next:=by
 unfold H.alone;rw[hf];simp only;cases hb:(beq x id&&beq y id)
 ·rw[ao];refine⟨⟨le_refl _,λj hj=>?_,λf hff=>?_,λhl=>?_⟩,rfl⟩
  ·simp only;cases beq y id
   ·rw[ao];cases beq x id
    ·rw[ao,bj _ _ (by omega),bj _ _ (by omega)]
    ·rw[ah,bj _ _ (by omega)]
   ·rw[ah,bj _ _ (by omega)]
  ·simp only;rw[bj _ _ (by omega)]
  ·simp only
   have:Z<=gh x y:=by unfold gh;cases ble x y<;>simp<;>assumption
   exact qo (by omega)
 ·rw[ah];exact⟨Over.refl _ _,rfl⟩
end
end Go.Ev
