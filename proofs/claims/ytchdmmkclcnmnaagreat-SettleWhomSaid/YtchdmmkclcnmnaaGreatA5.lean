/- Lemmas of this claim, each with its conditions. -/
import Derived.Test.YtchdmmkclcnmnaaGreatA4
set_option linter.all false
open Nat (beq)
open Option renaming bind_some -> aa, map_some -> ac
open Nat renaming le_refl -> ad, mul_le_mul -> ay, add_mul -> bb
open Bool renaming false_eq_true -> af, and_eq_true -> al, not_false -> bc, not_true -> bd
open List renaming eq_nil_of_length_eq_zero -> ag, getElem?_take -> ap, length_eraseIdx -> ax
open Array renaming getElem?_push -> a0
open Int renaming toNat_natCast -> a9, natCast_mul -> ba
namespace Go.Ev
def B4(n:Nat):∀(r c:Nat),c<=n+n/4+192->Builtin.growBy n r c<=n+n/4+192
 | 0,c,h=>by simpa [Builtin.growBy] using h
 | r+1,c,h=>by
  simp only[Builtin.growBy];split
  ·exact h
  ·exact B4 n r _ (by omega)
def IP{n c:Nat}(h:c<n):Builtin.nextslicecap n c<=2*n+192:=by
 unfold Builtin.nextslicecap;split
 ·omega
 ·split
  ·omega
  ·have:=B4 n 4 c (by omega);omega
def mZ{P:Program}{σ:Sg}{h:H}{w:World}(hr:HR σ h w){o:Option (Nat×Nat)}{n len es s:Nat}{cap:Option Nat}{cs:List AV}{v:Value}(hc:cJ h o n s=some cs)(hes:es=s\/n=0)(hn:n<=len)
 (hv:V σ (.slice o len es cap) v):∃vs,VL σ cs vs/\cs.length=n*s/\∀w',w'.heap=w.heap->(Builtin.firstCells s n v).run P w'=.ok vs.toArray w':=by
 unfold cJ at hc
 cases o with
 | none=>
  obtain⟨h0,hc2⟩:=aL hc;clear hc;have:=cU h0;subst this;simp only[Option.some.injEq] at hc2;subst hc2;cases hv;exact⟨[],.nil,by simp,λw' _=>by simp[Builtin.firstCells]⟩
 | some q=>
  obtain⟨id,off⟩:=q;simp only at hc;cases h0:beq n 0
  ·rw[h0,an] at hc;have hn0:=iB h0;have hes:=hes.resolve_right hn0;subst hes
   cases hv with
   | @slice _ _ _ _ _ a p c hp hl hroom hcap ha=>
    have ha:=ha.resolve_right (by omega);subst ha;obtain⟨vs,h1,h2,h3⟩:=hr.chunk hc hp;refine⟨vs,h1,h2,λw' hw'=>?_⟩
    have e:n*es=vs.length:=by rw[<-h1.1];exact h2.symm
    simp only[Builtin.firstCells];rw[e]
    exact oq λj v hv=>by rw[<-h3 j v hv];simp[World.cell?,hw']
  ·rw[h0,ai] at hc;have:=cU h0;subst this;simp only[Option.some.injEq] at hc;subst hc
   cases hv with
   | slice hp hl hroom hcap ha=>exact⟨[],.nil,by simp,λw' _=>by simp[Builtin.firstCells,loadCells,loadCellsFrom]⟩
def App(P:Program)(w:World)(e s:Nat)(xt:TypeId)(u:Value)(n:Nat)(vs:List Value):Prop:=
 ∃d,P.underlying xt=some d/\
  (
   ((∃k,d=.int k)/\∃k,u=.int k (n:Int)/\∃z,(zeroValue e).run P w=.ok z w/\(n*s≠0->Builtin.zeroCells z.cells n=vs.toArray)/\(n*s=0->vs=[]))\/
   ((∀k,d≠.int k)/\(Builtin.lenOf u).run P w=.ok n w/\(Builtin.firstCells s n u).run P w=.ok vs.toArray w))
def AZ{P:Program}{σ:Sg}{h:H}{w:World}(hr:HR σ h w){e s:Nat}{xt:TypeId}{y:AV}{u:Value}{n:Nat}{cs:List AV}(hs0:s≠0)
 (ha:mq P h e s xt y=some (n,cs)) (hu:V σ y u):∃vs,VL σ cs vs/\cs.length=n*s/\∀w',w'.heap=w.heap->App P w' e s xt u n vs:=by
 unfold mq at ha;split at ha
 ·rename_i k hd
  cases hn:di y with
  | none=>simp[hn] at ha
  | some n0=>
   cases hz:du P e with
   | none=>simp[hn,hz] at ha
   | some z=>
    simp only[hn,hz,aa] at ha;obtain⟨hc,ha2⟩:=aL ha;clear ha;simp only[al] at hc;have hzl:=cU hc.2;simp only[Option.some.injEq,Prod.mk.injEq] at ha2;obtain⟨rfl,rfl⟩:=ha2;obtain⟨zv,_,hzV,iz,hiz,hizz⟩:=iI (w:=w) (σ:=σ) hz;obtain⟨k1,rfl,hk1⟩:=kR (P:=P) (w:=w) hn hu
    have hzs:zv.cells.size=s:=by have:=hzV.cells.1;simp at this;omega
    have hrep:=DT hzV.cells (by omega) n0;rw[hzl] at hrep;refine⟨_,hrep,by rw[gj,hzl],λw' _=>⟨_,hd,.inl ⟨⟨k,rfl⟩,k1,rfl,zv,by simp[zeroValue,de hiz,hizz],?_,?_⟩⟩⟩
    ·intro _;simp only[Builtin.zeroCells,hzs]
    ·intro h0;rw[h0];simp
 ·rename_i d hnd hd;split at ha
  ·rename_i o m es cp;obtain⟨hc,ha2⟩:=aL ha;clear ha
   cases hsc:cJ h o m s with
   | none=>simp[hsc] at ha2
   | some cs0=>
    simp only[hsc,ac,Option.some.injEq,Prod.mk.injEq] at ha2;obtain⟨rfl,rfl⟩:=ha2
    have hes:es=s\/m=0:=by
     simp only[Bool.or_eq_true] at hc
     rcases hc with hc | hc
     ·exact .inl (cU hc)
     ·exact .inr (cU hc)
    obtain⟨vs,h1,h2,h3⟩:=mZ (P:=P) hr hsc hes (ad _) hu;refine⟨vs,h1,h2,λw' hw'=>⟨d,hd,.inr ⟨λk e=>hnd k e,?_,h3 w' hw'⟩⟩⟩
    cases hu with
    | ik h0=>subst h0;rfl
    | slice hp hl hroom hcap ha=>rfl
  ·simp at ha
 ·simp at ha
def jl{P:Program}{w:World}{ats:Array TypeId}{T st xt e s:TypeId}{args:Array Value}{base:Option Addr}{u:Value}{len c n:Nat}{vs:List Value}{i:TypeInfo}
 (h0:ats[0]?=some st) (h1:ats[1]?=some xt) (h2:args[0]?=some (.slice base len c)) (h3:args[1]?=some u) (hst:P.underlying st=some (.slice e)) (hi:P.info? e=some i) (his:i.size=s) (hib:i.bytes<=10000)
 (happ:App P w e s xt u n vs) (hn:n<=1000000) (hle:len+n<=c):
 (Builtin.append_ ats T args).run P w=(match base with
  | some a=>((storeCells (a.add (len*s)) vs).run P w).andThen λ_ w'=>.ok (.slice base (len+n) c) w'
  | none=>.ok (.slice base (len+n) c) w):=by
 have hsz:(sizeOf e).run P w=.ok s w:=by simp[sizeOf,de hi,his]
 obtain⟨d,hd,happ⟩:=happ
 rcases happ with⟨⟨k,rfl⟩,k2,rfl,z,hz,hz1,hz2⟩ | ⟨hk,hl,hf⟩
 ·have hw:=wrap_small n (by omega)
  have hb:¬((n:Int)*(i.bytes:Int)>2^48):=by
   have:n*i.bytes<=1000000*10000:=ay hn hib;rw[<-ba]
   have e2:((2:Int)^48)=281474976710656:=by decide
   rw[e2];omega
  have hneg:¬((n:Int)<0):=by omega
  simp only[Builtin.append_,h0,h1,h2,h3,Sem.run_bind,aN hst,Result.andThen_ok,hsz,aN hd,Sem.run_pure,if_true,asInt,asIntOf,hw,hneg,if_false,de hi,hb,a9,hle,bd,af];by_cases hz0:n*s=0
  ·simp only[hz0,if_true,Sem.run_pure,Result.andThen_ok,hz2 hz0];cases base<;>simp[storeCells]
  ·simp only[hz0,if_false,Sem.run_bind,hz,Result.andThen_ok,Sem.run_pure,hz1 hz0];cases base<;>simp
 ·simp only[Builtin.append_,h0,h1,h2,h3,Sem.run_bind,aN hst,Result.andThen_ok,hsz,aN hd,Sem.run_pure,af,if_false,hl,hle,if_true,bc,hf];cases base<;>simp
def E3{P:Program}{w:World}{ats:Array TypeId}{T st xt e s:TypeId}{args:Array Value}{base:Option Addr}{u z:Value}{len c n:Nat}{vs mB:List Value}{i:TypeInfo}
 (h0:ats[0]?=some st) (h1:ats[1]?=some xt) (h2:args[0]?=some (.slice base len c)) (h3:args[1]?=some u) (hst:P.underlying st=some (.slice e)) (hi:P.info? e=some i) (his:i.size=s) (hib:i.bytes<=10000)
 (happ:∀w',w'.heap=w.heap->App P w' e s xt u n vs) (hn:n<=1000000) (hln:len<=1000000) (hgt:c<len+n) (hzv:∀w',(zeroValue e).run P w'=.ok z w') (hold:∀w',w'.heap=w.heap->(Builtin.firstCells s len (.slice base len c)).run P w'=.ok mB.toArray w'):
 ∃(nc:Nat) (w1:World) (rest:Array Value),len+n<=nc/\w1.heap=w.heap/\w1.os=w.os/\w1.tape=w.tape/\w1.output=w.output/\
  (Builtin.append_ ats T args).run P w=.ok (.slice (some ⟨w.heap.size,0,none⟩) (len+n) nc) { w1 with heap:=w.heap.push (.cells (mB.toArray++vs.toArray++rest) e (0,0)) }/\rest.size=(nc-(len+n))*z.cells.size:=by
 have hsz:∀w',(sizeOf e).run P w'=.ok s w':=λw'=>by simp[sizeOf,de hi,his]
 have hnle:¬(len+n<=c):=by omega
 have hcap:=IP hgt
 have hroom:¬(Builtin.nextslicecap (len+n) c*i.bytes>2^48):=by
  have:Builtin.nextslicecap (len+n) c*i.bytes<=5000000*10000:=ay (by omega) hib;omega
 let w1:World:={ w with drawn:=w.drawn+1 }
 let nc:=(len+n)+(w.tape w.drawn (.appendCap (len+n) c e))%(2^63-(len+n))
 refine⟨nc,w1,Builtin.zeroCells z.cells (nc-(len+n)),Nat.le_add_right _ _,rfl,rfl,rfl,rfl,?_,by simp[Builtin.zeroCells]⟩;have hforced:(Question.appendCap (len+n) c e).forced=false:=rfl;have hcut:(Question.appendCap (len+n) c e).cut (w.tape w.drawn (.appendCap (len+n) c e))=nc:=rfl;have happ0:=happ w rfl;have happ1:=happ w1 rfl;have hold1:=hold w1 rfl;obtain⟨d,hd,happ0⟩:=happ0;obtain⟨d',hd',happ1⟩:=happ1;rw[hd] at hd';cases hd'
 have hint:∀(q:Bool),¬(((len+n:Nat):Int)>IntKind.i64.max/\q=true):=by
  intro q hq
  have e2:IntKind.i64.max=9223372036854775807:=by decide
  rw[e2] at hq;omega
 have hint':∀(q:Prop),¬(((len+n:Nat):Int)>IntKind.i64.max/\q):=by
  intro q hq
  have e2:IntKind.i64.max=9223372036854775807:=by decide
  rw[e2] at hq;omega
 rcases happ0 with⟨⟨k,rfl⟩,k2,rfl,z',hz,hz1,hz2⟩ | ⟨hk,hl,hf⟩
 ·have hzz:z'=z:=by have:=hzv w;rw[hz] at this;simpa using this
  subst hzz;have hw:=wrap_small n (by omega)
  have hb:¬((n:Int)*(i.bytes:Int)>2^48):=by
   have:n*i.bytes<=1000000*10000:=ay hn hib;rw[<-ba]
   have e2:((2:Int)^48)=281474976710656:=by decide
   rw[e2];omega
  have hneg:¬((n:Int)<0):=by omega
  simp only[Builtin.append_,h0,h1,h2,h3,Sem.run_bind,aN hst,Result.andThen_ok,hsz,aN hd,Sem.run_pure,if_true,asInt,asIntOf,hw,hneg,if_false,de hi,hb,a9,hnle,bd,af,hint',hroom,run_choose,hforced,hcut,run_askRoom];show _=_;rw[hold1];simp only[Result.andThen_ok];by_cases hz0:n*s=0
  ·simp only[hz0,if_true,Sem.run_pure,Result.andThen_ok,hz2 hz0,hzv,newRow,Sem.run_bind,run_newObj];rfl
  ·simp only[hz0,if_false,Sem.run_bind,hzv,Result.andThen_ok,Sem.run_pure,hz1 hz0,newRow,run_newObj];rfl
 ·rcases happ1 with⟨⟨k,rfl⟩,_⟩ | ⟨_,_,hf1⟩
  ·exact t8 rfl (hk k)
  simp only[Builtin.append_,h0,h1,h2,h3,Sem.run_bind,aN hst,Result.andThen_ok,hsz,aN hd,Sem.run_pure,af,if_false,hl,hnle,if_true,bc,de hi,hint',hroom,run_choose,hforced,hcut,run_askRoom];show _=_;rw[hold1];simp only[Result.andThen_ok];rw[hf1];simp only[Result.andThen_ok,Sem.run_bind,hzv,Sem.run_pure,newRow,run_newObj];rfl
def HR.fork{σ:Sg}{h:H}{w w':World}(hr:HR σ h w){id cg k:Nat}{bs cs':List AV}{p q:sW}(ho:h.aR.get id=some (.cells bs cg))(hp:σ id=some p)
 (hq:q.b=p.b\/w.heap.size<=q.b) (h1:OR σ (.cells (bs.take k) cg) p w'.heap[p.b]?) (h2:OR (up σ h.next q) (.cells cs' cg) q w'.heap[q.b]?)
 (hw:∀b,b<w.heap.size->b≠p.b->w'.heap[b]?=w.heap[b]?) (hsz:w.heap.size<=w'.heap.size) (e1:w'.os=w.os) (e2:w'.tape=w.tape) (e3:w'.output=w.output):
 HR (up σ h.next q) (h.eC id cg (bs.take k) cs') w'/\Ext σ (up σ h.next q) h (h.eC id cg (bs.take k) cs') w w':=by
 obtain⟨a1,a2,a3,a4,a5,a6,a7,a8⟩:=nu hr ho;have hnone:σ h.next=none:=hr.fresh _ (ad _);have hle:=ng (p:=q) hnone;have hidn:=hr.Uz ho
 have hget:∀j x,(h.eC id cg (bs.take k) cs').aR.get j=some x->
  (j=h.next/\x=.cells cs' cg)\/(j=id/\x=.cells (bs.take k) cg)\/(j≠id/\j≠h.next/\h.aR.get j=some x/\(∀q,σ j=some q->q.b≠p.b)/\∀cs f,x=.cells cs f->f≠cg):=by
  intro j x hx;simp only[H.eC] at hx;rw[dH,a4] at hx;split at hx
  ·rename_i e;cases hx;exact .inl ⟨e,rfl⟩
  ·rename_i hn;rw[dH] at hx;split at hx
   ·rename_i e;cases hx;exact .inr (.inl ⟨e,rfl⟩)
   ·rename_i hne;have hx':=a2 j x hx;refine .inr (.inr ⟨hne,hn,hx',?_,?_⟩)
    ·intro q' hq' hb;obtain⟨cs1,f1⟩:=(hr.sep j id x _ q' p hne hx' ho hq' hp hb).left;subst f1;exact hne (a3 j cs1 hx)
    ·intro cs f e hf;subst e;subst hf;exact hne (a3 j cs hx)
 have hup:∀j,j≠h.next->∀r,up σ h.next q j=some r->σ j=some r:=by
  intro j hj r hr';simpa [up,hj] using hr'
 refine⟨⟨?_,?_,?_,?_,?_⟩,⟨hle,by simp only[H.eC];omega,hsz,e1,e2,e3,?_,?_,?_,?_,?_,?_⟩⟩
 ·intro j x hx
  rcases hget j x hx with⟨rfl,rfl⟩ | ⟨rfl,rfl⟩ | ⟨c1,c2,c3,c4,_⟩
  ·exact⟨q,ej _ _ _,h2⟩
  ·exact⟨p,hle _ _ hp,h1.mono hle⟩
  ·obtain⟨r,r1,r2⟩:=hr.obj j x c3;exact⟨r,hle _ _ r1,by rw[hw _ (hr.lt c3 r1) (c4 r r1)];exact r2.mono hle⟩
 ·intro j hj;simp only[H.eC] at hj
  have:j≠h.next:=by omega
  simp[up,this,hr.fresh j (by omega)]
 ·intro i j x y r s hij hx hy h3 h4 hb
  rcases hget i x hx with⟨rfl,rfl⟩ | ⟨rfl,rfl⟩ | ⟨c1,c2,c3,c4,_⟩
  ·rw[ej] at h3;cases h3
   rcases hget j y hy with⟨rfl,rfl⟩ | ⟨rfl,rfl⟩ | ⟨d1,d2,d3,d4,_⟩
   ·exact t8 rfl hij
   ·exact .inl ⟨_,_,_,rfl,rfl⟩
   ·have h4':=hup j d2 s h4;have:=hr.lt d3 h4';have:=d4 s h4'
    rcases hq with hq | hq<;>omega
  ·have h3':=hup i (by omega) r h3;rw[hp] at h3';cases h3'
   rcases hget j y hy with⟨rfl,rfl⟩ | ⟨rfl,rfl⟩ | ⟨d1,d2,d3,d4,_⟩
   ·exact .inl ⟨_,_,_,rfl,rfl⟩
   ·exact t8 rfl hij
   ·exact t8 hb.symm (d4 s (hup j d2 s h4))
  ·have h3':=hup i c2 r h3
   rcases hget j y hy with⟨rfl,rfl⟩ | ⟨rfl,rfl⟩ | ⟨d1,d2,d3,d4,_⟩
   ·rw[ej] at h4;cases h4;have:=hr.lt c3 h3';have:=c4 r h3'
    rcases hq with hq | hq<;>omega
   ·have h4':=hup j (by omega) s h4;rw[hp] at h4';cases h4';exact t8 hb (c4 r h3')
   ·exact hr.sep i j x y r s hij c3 d3 h3' (hup j d2 s h4) hb
 ·intro i cs f hi;have hfn:(h.eC id cg (bs.take k) cs').next=(h.alone id cg).next+1:=rfl;have hff:(h.eC id cg (bs.take k) cs').dE=(h.alone id cg).dE.put cg (some (id,(h.alone id cg).next)):=rfl;rw[hfn,hff]
  rcases hget i _ hi with⟨rfl,hx⟩ | ⟨rfl,hx⟩ | ⟨c1,c2,c3,c4,c5⟩
  ·cases hx;have:=(hr.cg id _ _ ho).1;exact⟨by omega,_,_,cX _ _ _,.inr a4.symm⟩
  ·cases hx;have:=(hr.cg i _ _ ho).1;exact⟨by omega,_,_,cX _ _ _,.inl rfl⟩
  ·obtain⟨b1,x,y,b2,b3⟩:=hr.cg i _ _ c3;have hne:=c5 cs f rfl;exact⟨by omega,x,y,by rw[bm _ _ hne,a6 f hne];exact b2,b3⟩
 ·have:=dR (h.alone id cg).low id;simp only[H.eC];omega
 ·intro j x r hx hr'
  rcases hget j x hx with⟨rfl,rfl⟩ | ⟨rfl,rfl⟩ | ⟨c1,c2,c3,c4,_⟩
  ·rw[ej] at hr';cases hr'
   rcases hq with hq | hq
   ·exact .inr ⟨id,_,p,ho,hp,hq.symm,λ_ cs e=>by cases e⟩
   ·exact .inl hq
  ·exact .inr ⟨j,_,r,ho,hup j (by omega) r hr',rfl,λ_ cs e=>by cases e⟩
  ·exact .inr ⟨j,x,r,c3,hup j c2 r hr',rfl,λh=>h⟩
 ·intro b hb hn;exact hw b hb λe=>hn id _ p ho (λcs e=>by cases e) hp e.symm
 ·exact Nat.le_trans (dR _ _).1 a7
 ·intro j hj hjn;simp only[H.eC] at hj ⊢;have:=dR (h.alone id cg).low id;rw[bm _ _ (by omega),bm _ _ (by omega)];exact a8 j (by omega)
 ·intro j hj hn;simp only[up];rw[un (by omega)];exact hn
 ·intro j cs f hj
  rcases hget j _ hj with⟨rfl,hx⟩ | ⟨rfl,hx⟩ | ⟨c1,c2,c3,c4,c5⟩
  ·cases hx;exact .inr ⟨id,bs,ho⟩
  ·cases hx;exact .inr ⟨j,bs,ho⟩
  ·exact .inr ⟨j,cs,c3⟩
def Yields(P:Program)(σ:Sg)(h h':H)(w:World)(r:AV)(s:Sem Value):Prop:=
 ∃σ' z w',s.run P w=.ok z w'/\V σ' r z/\HR σ' h' w'/\Ext σ σ' h h' w w'
def wB(h:H)(cs:List AV):h.mP cs=(h.next,{ h.lay h.next (.cells cs h.next) with next:=h.next+1 }):=rfl
def HR.KC{σ:Sg}{h:H}{w w1:World}(hr:HR σ h w){aS:List AV}{vs:List Value}{c:Array Value}{e:TypeId}(hv:VL σ aS vs)(hc:c.toList.take vs.length=vs)
 (e1:w1.os=w.os) (e2:w1.tape=w.tape) (e3:w1.output=w.output):
 HR (up σ h.next ⟨w.heap.size,0,c.size⟩) { h.lay h.next (.cells aS h.next) with next:=h.next+1 } { w1 with heap:=w.heap.push (.cells c e (0,0)) }/\
 Ext σ (up σ h.next ⟨w.heap.size,0,c.size⟩) h { h.lay h.next (.cells aS h.next) with next:=h.next+1 } w { w1 with heap:=w.heap.push (.cells c e (0,0)) }:=
 hr.new (λcs f hf=>by cases hf;rfl) (H5 (hv.mono (ng (hr.fresh _ (ad _)))) hc) rfl e1 e2 e3
def E2{P:Program}{σ:Sg}{h h':H}{w:World}(hr:HR σ h w){ats:Array TypeId}{T st xt:TypeId}{args:Array Value}{x y r:AV}{v u:Value}(ha:sZ P h st xt x y=some (r,h'))
 (h0:ats[0]?=some st) (h1:ats[1]?=some xt) (h2:args[0]?=some v) (h3:args[1]?=some u) (hv:V σ x v) (hu:V σ y u):Yields P σ h h' w r (Builtin.append_ ats T args):=by
 unfold sZ at ha;split at ha
 ·rename_i e o len es cap hst
  cases hi:P.info? e with
  | none=>simp[hi] at ha
  | some i=>
   cases hz:du P e with
   | none=>simp[hi,hz] at ha
   | some z=>
    simp only[hi,hz,aa] at ha;obtain⟨hc,ha2⟩:=aL ha;clear ha;simp only[al] at hc;obtain⟨q1,q2,q3,q4⟩:=hc;have q1:=cU q1;have q3:=jq q3;have q4:=jq q4
    have q2:i.size≠0:=by intro e0;rw[e0] at q2;simp at q2
    cases hap:mq P h e i.size xt y with
    | none=>simp[hap] at ha2
    | some nc=>
     obtain⟨n,cs⟩:=nc;simp only[hap,aa] at ha2;obtain⟨vs,v1,v2,v3⟩:=AZ hr q2 hap hu;obtain⟨zv,_,hzV,iz,hiz,hizz⟩:=iI (w:=w) (σ:=σ) hz
     have hzr:∀w',(zeroValue e).run P w'=.ok zv w':=λw'=>by simp[zeroValue,de hiz,hizz]
     have hzs:zv.cells.size=i.size:=by have:=hzV.cells.1;simp at this;omega
     have hvl:=v1.1;cases hn0:beq n 0
     ·rw[hn0,an] at ha2;have hn0:=iB hn0;obtain⟨hn6,ha3⟩:=aL ha2;clear ha2;have hn6:=jq hn6
      have grow:∀(base:Option Addr) (c:Nat) (mB:List AV) (olds:List Value) (cg:Nat),v=.slice base len c->c<len+n->VL σ mB olds->(∀w',w'.heap=w.heap->(Builtin.firstCells i.size len (.slice base len c)).run P w'=.ok olds.toArray w')->mB.length=len*i.size->
       ∃(nc:Nat) (w1:World) (rest:Array Value),len+n<=nc/\w1.heap=w.heap/\w1.os=w.os/\w1.tape=w.tape/\w1.output=w.output/\
        (Builtin.append_ ats T args).run P w=.ok (.slice (some ⟨w.heap.size,0,none⟩) (len+n) nc) { w1 with heap:=w.heap.push (.cells (olds.toArray++vs.toArray++rest) e (0,0)) }/\
        (olds.toArray++vs.toArray++rest).size=nc*i.size/\((olds.toArray++vs.toArray++rest).toList.take (olds++vs).length=olds++vs)/\cg=cg:=by
       intro base c mB olds cg hv0 hlt hvo hold hol;subst hv0;obtain⟨nc,w1,rest,g1,g2,g3,g4,g5,g6,g7⟩:=E3 (T:=T) h0 h1 h2 h3 hst hi rfl q4 (λw' hw'=>v3 w' hw') hn6 q3 hlt hzr hold;refine⟨nc,w1,rest,g1,g2,g3,g4,g5,g6,?_,?_,rfl⟩
       ·have:=hvo.1;simp only[Array.size_append,List.size_toArray,g7,hzs]
        have e1:olds.length=len*i.size:=by omega
        have e2:vs.length=n*i.size:=by omega
        rw[e1,e2,<-bb,<-bb]
        congr 1;omega
       ·simp only[Array.toList_append];rw[List.take_left'];simp
      split at ha3
      ·simp only[wB,Option.some.injEq,Prod.mk.injEq] at ha3;obtain⟨rfl,rfl⟩:=ha3
       cases hv with
       | ik hl0=>
        subst hl0;obtain⟨nc,w1,rest,g1,g2,g3,g4,g5,g6,g7,g8,_⟩:=grow none 0 [] [] 0 rfl (by omega) .nil (λw' _=>by simp[Builtin.firstCells]) (by simp);obtain⟨k1,k2⟩:=hr.KC (w1:=w1) (e:=e) (VL.append .nil v1) g8 g3 g4 g5;refine⟨_,_,_,g6,?_,k1,k2⟩;rw[Nat.zero_add] at g1 ⊢;exact .slice (ej _ _ _) g1 (by simp only[g7];omega) (λx hx=>by cases hx) (.inl rfl)
      ·rename_i id off;obtain⟨hes,ha4⟩:=aL ha3;clear ha3;have hes:=cU hes;subst hes
       cases hv with
       | @slice _ _ _ _ _ a p c hp hl hroom hcap haddr=>
        split at ha4
        ·rename_i c0;have:=hcap c0 rfl;subst this;cases hle:Nat.ble (len+n) c0
         ·rw[hle,an] at ha4;have hlt:=xQ hle
          cases hsc:cJ h (some (id,off)) len i.size with
          | none=>simp[hsc] at ha4
          | some mB=>
           simp only[hsc,ac,wB,Option.some.injEq,Prod.mk.injEq] at ha4;obtain⟨rfl,rfl⟩:=ha4;obtain⟨olds,o1,o2,o3⟩:=mZ (P:=P) (cap:=some c0) (v:=.slice (some a) len c0) hr hsc (.inl rfl) (ad _) (.slice hp hl hroom hcap haddr);obtain⟨nc,w1,rest,g1,g2,g3,g4,g5,g6,g7,g8,_⟩:=grow (some a) c0 mB olds 0 rfl hlt o1 o3 o2;obtain⟨k1,k2⟩:=hr.KC (w1:=w1) (e:=e) (VL.append o1 v1) g8 g3 g4 g5;refine⟨_,_,_,g6,?_,k1,k2⟩;exact .slice (ej _ _ _) g1 (by simp only[g7];omega) (λx hx=>by cases hx) (.inl rfl)
         ·rw[hle,ai] at ha4;have hle:=jq hle
          cases hst2:h.store id (off+len*i.size) cs with
          | none=>simp[hst2] at ha4
          | some h9=>
           simp only[hst2,ac,Option.some.injEq,Prod.mk.injEq] at ha4;obtain⟨rfl,rfl⟩:=ha4;have haddr:=haddr.resolve_right (by omega);subst haddr;obtain⟨w',s1,s2,s3⟩:=hr.rE (P:=P) hst2 hp v1;refine⟨σ,.slice (some ⟨p.b,p.d+off,none⟩) (len+n) c0,w',?_,.slice hp hle hroom hcap (.inl rfl),s2,s3⟩;rw[jl h0 h1 h2 h3 hst hi rfl q4 (v3 w rfl) hn6 hle];simp only[gS];rw[Nat.add_assoc,s1];rfl
        ·split at ha4
         ·rename_i bs cg ho;obtain⟨hlb,ha5⟩:=aL ha4;clear ha4;have hlb:=jq hlb;obtain⟨hone,ha6⟩:=aL ha5;clear ha5;simp only[Option.some.injEq,Prod.mk.injEq] at ha6;obtain⟨rfl,rfl⟩:=ha6;obtain⟨_,_,_,a4,_⟩:=nu hr ho;obtain⟨q',carr,e',hq',b1,b2,b3,b4⟩:=hr.cells ho;rw[hp] at hq';cases hq'
          have hsc:h.chunk id off (len*i.size)=some ((bs.drop off).take (len*i.size)):=by
           simp[H.chunk,ho,eN hlb]
          obtain⟨olds,o1,o2,o3⟩:=hr.chunk hsc hp;by_cases hin:len+n<=c
          ·have haddr:=haddr.resolve_right (by omega);subst haddr;have hmul:(len+n)*i.size<=c*i.size:=Nat.mul_le_mul_right _ hin;have hmul2:(len+n)*i.size=len*i.size+n*i.size:=bb _ _ _;obtain⟨w',c',hrun,hw',hsz,hget,hoth,s1,s2,s3,s4⟩:=mX (P:=P) (o:=p.d+off+len*i.size) vs 0 w carr b1 (by omega) (v1.jZ hone)
           have hcl:∀j:Nat,j<off+len*i.size->c'[p.d+j]?=carr[p.d+j]?:=by
            intro j hj;rw[hget,un (by omega)]
           obtain⟨k1,k2⟩:=hr.fork (w':=w') (k:=off+len*i.size) (cs':=(bs.drop off).take (len*i.size)++cs) (q:=⟨p.b,p.d+off,p.r-off⟩) ho hp (.inl rfl)
            (by
             refine⟨c',e',hw',by rw[hsz];exact b2,by simp;omega,?_⟩;intro j aj haj;rw[ap] at haj;split at haj
             ·rename_i hj;obtain⟨vj,e1,e2⟩:=b4 j aj haj;exact⟨vj,by rw[hcl j hj];exact e1,e2⟩
             ·cases haj)
            (by
             refine⟨c',e',hw',by rw[hsz];simp only;omega,by simp only[List.length_append,o2,v2];omega,?_⟩;intro j aj haj;rw[List.getElem?_append,o2] at haj;have hle':=ng (p:=⟨p.b,p.d+off,p.r-off⟩) (hr.fresh h.next (ad _));split at haj
             ·rename_i hj;rw[ap,ul hj,List.getElem?_drop] at haj;obtain⟨vj,e1,e2⟩:=b4 _ aj haj;exact⟨vj,by simp only;rw[show p.d+off+j=p.d+(off+j) by omega,hcl _ (by omega)];exact e1,e2.mono hle'⟩
             ·rename_i hj;obtain⟨vj,e1,e2⟩:=v1.get haj;have hjl:=kP e1;refine⟨vj,?_,e2.mono hle'⟩;simp only;rw[hget,ul (by omega),show p.d+off+j-(p.d+off+len*i.size+0)=j-len*i.size by omega]
              exact e1)
            (λb _ hb=>hoth b hb) (by omega) s2 s3 s4
           refine⟨_,.slice (some ⟨p.b,p.d+off,none⟩) (len+n) c,w',?_,?_,k1,k2⟩
           ·rw[jl h0 h1 h2 h3 hst hi rfl q4 (v3 w rfl) hn6 hin];simp only[gS];rw[hrun];rfl
           ·rw[a4];exact .slice (ej _ _ _) hin (by simp only;omega) (λx hx=>by cases hx) (.inl (by simp))
          ·have hlt:c<len+n:=by omega
           have hfc:∀w',w'.heap=w.heap->(Builtin.firstCells i.size len (.slice (some a) len c)).run P w'=.ok olds.toArray w':=by
            intro w' hww;by_cases hl0:len=0
            ·subst hl0
             have:olds=[]:=by
              have:=o1.1;rw[o2] at this;simp at this;exact ag this.symm
             subst this;simp[Builtin.firstCells,loadCells,loadCellsFrom]
            ·have haddr:=haddr.resolve_right (by omega);subst haddr
             have el:len*i.size=olds.length:=by rw[<-o1.1];exact o2.symm
             simp only[Builtin.firstCells];rw[el]
             exact oq λj vj hj=>by rw[<-o3 j vj hj];simp[World.cell?,hww]
           obtain⟨nc,w1,rest,g1,g2,g3,g4,g5,g6,g7,g8,_⟩:=grow (some a) c _ olds 0 rfl hlt o1 hfc o2;have hor:=H5 (id:=cg) (b:=w.heap.size) (e:=e) (VL.append (o1.mono (ng (p:=⟨w.heap.size,0,(olds.toArray++vs.toArray++rest).size⟩) (hr.fresh h.next (ad _)))) (v1.mono (ng (hr.fresh h.next (ad _))))) g8;have hltp:=hr.lt ho hp
           obtain⟨k1,k2⟩:=hr.fork (w':={ w1 with heap:=w.heap.push (.cells (olds.toArray++vs.toArray++rest) e (0,0)) }) (k:=off+len*i.size) (q:=⟨w.heap.size,0,(olds.toArray++vs.toArray++rest).size⟩) ho hp (.inr (ad _))
            (by
             simp only[a0];rw[un (by omega),b1];refine⟨carr,e',rfl,b2,by simp;omega,?_⟩;intro j aj haj;rw[ap] at haj;split at haj
             ·exact b4 j aj haj
             ·cases haj)
            (by simpa using hor)
            (λb hb _=>by simp only[a0];rw[un (by omega)]) (by simp) g3 g4 g5
           refine⟨_,_,_,g6,?_,k1,k2⟩;rw[a4];exact .slice (ej _ _ _) g1 (by simp only[g7];omega) (λx hx=>by cases hx) (.inl rfl)
         ·simp at ha4
     ·rw[hn0,ai] at ha2;have:=cU hn0;subst this;simp only[Option.some.injEq,Prod.mk.injEq] at ha2;obtain⟨rfl,rfl⟩:=ha2
      have hvs:vs=[]:=by
       rw[v2] at hvl;simp at hvl;exact ag hvl.symm
      subst hvs;refine⟨σ,v,w,?_,hv,hr,.refl _ _ _⟩
      cases hv with
      | ik hl0=>
       subst hl0;rw[jl h0 h1 h2 h3 hst hi rfl q4 (v3 w rfl) (by omega) (by omega)]
      | slice hp hl hroom hcap haddr=>
       rw[jl h0 h1 h2 h3 hst hi rfl q4 (v3 w rfl) (by omega) (by omega)];simp[storeCells]
 ·simp at ha
def N7{P:Program}{σ:Sg}{h:H}{w:World}(hr:HR σ h w){ats:Array TypeId}{T t:TypeId}{args:Array Value}{x r:AV}{v:Value}(hl:F3 P h t x=some r)(h0:ats[0]?=some t)(h1:args[0]?=some v)(hv:V σ x v):
 ∃z,(Builtin.len_ ats T args).run P w=.ok z w/\V σ r z:=by
 have main:∀n:Nat,r=.int .i64 (Int.ofNat n)->(Builtin.len_ ats T args).run P w=.ok (goInt n) w->∃z,(Builtin.len_ ats T args).run P w=.ok z w/\V σ r z:=by
  intro n hn hr';subst hn;exact⟨_,hr',.int _ _⟩
 unfold F3 at hl;split at hl
 all_goals try (rename_i hu)
 all_goals try (simp only[ac,Option.some.injEq] at hl)
 ·cases hv with
  | str hs=>exact main _ hl.symm (by simp only[Builtin.len_,h0,h1,Sem.run_bind,aN hu,Result.andThen_ok,Sem.run_pure,um hs])
 ·exact main _ hl.symm (by simp only[Builtin.len_,h0,h1,Sem.run_bind,aN hu,Result.andThen_ok,Sem.run_pure])
 ·cases hv with
  | ik hl0=>subst hl0;exact main _ hl.symm (by simp only[Builtin.len_,h0,h1,Sem.run_bind,aN hu,Result.andThen_ok,Sem.run_pure])
  | slice=>exact main _ hl.symm (by simp only[Builtin.len_,h0,h1,Sem.run_bind,aN hu,Result.andThen_ok,Sem.run_pure])
 ·cases hv;exact main 0 hl.symm (by simp only[Builtin.len_,h0,h1,Sem.run_bind,aN hu,Result.andThen_ok,Sem.run_pure];rfl)
 ·rename_i id
  cases hm:h.mapOf id with
  | none=>simp[hm] at hl
  | some q=>
   obtain⟨es,c⟩:=q;simp only[hm,ac,Option.some.injEq] at hl
   cases hv with
   | map hp=>
    obtain⟨_,es',g1,g2⟩:=hr.map hm hp;refine main _ hl.symm ?_;have:=g2.1;simp only[Builtin.len_,h0,h1,Sem.run_bind,aN hu,Result.andThen_ok,cA g1 (by simp),Sem.run_pure];simp at this;rw[this]
 ·simp at hl
def Oe{P:Program}{σ:Sg}{w:World}(isMax:Bool){x y r:AV}{v u:Value}(h:sH isMax x y=some r)(hv:V σ x v)(hu:V σ y u):
 ∃z,(if isMax then Builtin.max2 v u else Builtin.min2 v u).run P w=.ok z w/\V σ r z:=by
 unfold sH at h;split at h
 ·rename_i k a k' b;simp only[Option.some.injEq] at h;subst h;cases hv;cases hu;cases isMax
  ·refine⟨.int k (if b<a then b else a),by simp[Builtin.min2],?_⟩;simp only[an,iE];by_cases hab:a<=b
   ·rw[un (by omega)];simp only[hab,decide_true,ai];exact .int _ _
   ·rw[ul (by omega)];simp only[hab,decide_false,an];exact .int _ _
  ·refine⟨.int k (if b>a then b else a),by simp[Builtin.max2],?_⟩;rw[iE];by_cases hab:b<=a
   ·rw[un (by omega)];simp only[hab,decide_true,ai];exact .int _ _
   ·rw[ul (by omega)];simp only[hab,decide_false,ai,an];exact .int _ _
 ·rename_i a b;simp only[Option.some.injEq] at h;subst h
  cases hv with
  | @str _ s1 h1=>cases hu with
   | @str _ s2 h2=>
    have e1:=re h1 h2
    have e2:gJ a b=Op.bytesLess s1.toList s2.toList:=by rw[<-h1,<-h2,ByteArray.toList_eq,ByteArray.toList_eq];exact oO _ _
    cases isMax
    ·refine⟨.string (if (Op.bytesLess s1.toList s2.toList||(s1.toList==s2.toList))=true then s1 else s2),by simp[Builtin.min2,Op.stringOp,asBool],?_⟩;rw[e1,e2];cases (Op.bytesLess s1.toList s2.toList||(s1.toList==s2.toList))
     ·exact .str h2
     ·exact .str h1
    ·refine⟨.string (if (!Op.bytesLess s1.toList s2.toList)=true then s1 else s2),by simp[Builtin.max2,Op.stringOp,asBool],?_⟩;rw[e2];cases (Op.bytesLess s1.toList s2.toList)
     ·exact .str h1
     ·exact .str h2
 ·simp at h
def qq{P:Program}{σ:Sg}{w:World}(isMax:Bool):∀(l:List AV) (x r:AV) (v:Value) (us:List Value),nB isMax x l=some r->V σ x v->VL σ l us->
 ∃z,(us.foldlM (if isMax then Builtin.max2 else Builtin.min2) v).run P w=.ok z w/\V σ r z
 | [],x,r,v,us,h,hv,hu=>by have:=hu.nD;subst this;simp[nB] at h;subst h;exact⟨v,by simp,hv⟩
 | y::l,x,r,v,us,h,hv,hu=>by
  obtain⟨u,us',rfl,h1,h2⟩:=hu.dF;simp only[nB] at h
  cases hm:sH isMax x y with
  | none=>simp[hm] at h
  | some z=>
   simp only[hm,Option.bind_some] at h;obtain⟨zv,hz,hV⟩:=Oe (P:=P) (w:=w) isMax hm hv h1;obtain⟨q,hq,hQ⟩:=qq isMax l z r zv us' h hV h2;refine⟨q,?_,hQ⟩;rw[List.foldlM_cons]
   have e:(if isMax=true then Builtin.max2 else Builtin.min2) v u=(if isMax=true then Builtin.max2 v u else Builtin.min2 v u):=by cases isMax<;>rfl
   simp only[Sem.run_bind,e,hz,Result.andThen_ok];exact hq
def Lz{P:Program}{σ:Sg}{h h':H}{w:World}(hr:HR σ h w){ats:Array TypeId}{T t:TypeId}{args:Array Value}{x y r:AV}{v u:Value}(hl:Fw P h t x y=some (r,h'))(h0:ats[0]?=some t)(h1:args[0]?=some v)(h2:args[1]?=some u)(hv:V σ x v)(hu:V σ y u):
 Yields P σ h h' w r (Builtin.copy_ ats T args):=by
 unfold Fw at hl;split at hl
 ·rename_i e o dl des dc o' sl ses sc hund
  cases hs:cI P e with
  | none=>simp[hs] at hl
  | some s=>
   simp only[hs,aa] at hl
   have hlen:(Builtin.lenOf u).run P w=.ok sl w:=by cases hu with
    | ik h0=>subst h0;rfl
    | slice=>rfl
   cases hn0:beq (Nat.min sl dl) 0
   ·rw[hn0,an] at hl;have hn0:=iB hn0;obtain⟨hes,hl2⟩:=aL hl;clear hl;simp only[al] at hes;have e1:=cU hes.1;have e2:=cU hes.2;subst e1;subst e2
    cases hsc:cJ h o' (Nat.min sl dl) ses with
    | none=>simp[hsc] at hl2
    | some cs=>
     simp only[hsc,aa] at hl2
     cases o with
     | none=>simp at hl2
     | some q=>
      obtain⟨id,off⟩:=q;simp only at hl2
      cases hst:h.store id off cs with
      | none=>simp[hst] at hl2
      | some h9=>
       simp only[hst,ac,Option.some.injEq,Prod.mk.injEq] at hl2;obtain⟨rfl,rfl⟩:=hl2;obtain⟨vs,v1,v2,v3⟩:=mZ (P:=P) hr hsc (.inl rfl) (Nat.min_le_left _ _) hu
       cases hv with
       | slice hp hl hroom hcap haddr=>
        have:Nat.min sl dl<=dl:=Nat.min_le_right _ _;have haddr:=haddr.resolve_right (by omega);subst haddr;obtain⟨w',s1,s2,s3⟩:=hr.rE (P:=P) hst hp v1;refine⟨σ,goInt (Nat.min sl dl:Nat),w',?_,.int _ _,s2,s3⟩;simp only[Builtin.copy_,h0,h1,h2,Sem.run_bind,aN hund,Result.andThen_ok,hlen,bZ hs,v3 w rfl,s1,Sem.run_pure]
   ·rw[hn0,ai] at hl;have hn0:=cU hn0;simp only[Option.some.injEq,Prod.mk.injEq] at hl;obtain⟨rfl,rfl⟩:=hl;refine⟨σ,goInt 0,w,?_,.int _ _,hr,.refl _ _ _⟩
    have hfc:(Builtin.firstCells s 0 u).run P w=.ok #[] w:=by
     cases hu with
     | ik=>simp[Builtin.firstCells]
     | slice=>simp[Builtin.firstCells,loadCells,loadCellsFrom]
    cases hv with
    | ik h00=>
     subst h00;simp only[Builtin.copy_,h0,h1,h2,Sem.run_bind,aN hund,Result.andThen_ok,hlen,bZ hs,hn0,hfc,Sem.run_pure];rfl
    | slice=>
     simp only[Builtin.copy_,h0,h1,h2,Sem.run_bind,aN hund,Result.andThen_ok,hlen,bZ hs,hn0,hfc,Sem.run_pure];simp[storeCells]
 ·simp at hl
def EL.eraseIdx{σ:Sg}{es:List (AV×AV×Nat)}{l:List MapEntry}(h:EL σ es l)(i:Nat):EL σ (es.eraseIdx i) (l.eraseIdx i):=by
 refine⟨by rw[ax,ax,h.1],?_⟩;intro j e m he hm;rw[List.getElem?_eraseIdx] at he hm;split at he
 ·rename_i hj;rw[ul hj] at hm;exact h.2 j e m he hm
 ·rename_i hj;rw[un hj] at hm;exact h.2 _ e m he hm
def sL{w:World}{b:Nat}{o:Obj}(h:w.heap[b]?=some o):({ w with heap:=w.heap.setIfInBounds b o }:World)=w:=by
 have:w.heap.setIfInBounds b o=w.heap:=by
  apply Array.ext_getElem?;intro i;rw[Array.getElem?_setIfInBounds];split
  ·rename_i e;subst e;rw[h,ul (Cf (by rw[h];simp))]
  ·rfl
 rw[this]
def FA{P:Program}{σ:Sg}{h h':H}{w:World}(hr:HR σ h w){ats:Array TypeId}{T t:TypeId}{args:Array Value}{x k r:AV}{v u:Value}(hl:tf P h t x k=some (r,h'))(h0:ats[0]?=some t)(h1:args[0]?=some v)(h2:args[1]?=some u)(hv:V σ x v)(hk:V σ k u):
 Yields P σ h h' w r (Builtin.delete_ ats T args):=by
 unfold tf at hl
 cases hm:cW P t with
 | none=>simp[hm] at hl
 | some q=>
  obtain⟨kt,et⟩:=q;simp only[hm,aa] at hl;obtain⟨hka,hl9⟩:=aL hl;clear hl;have hu:=lu hm;obtain⟨kd,hkd⟩:=Dn hka;split at hl9
  ·cases hv;simp only[Option.some.injEq,Prod.mk.injEq] at hl9;obtain⟨rfl,rfl⟩:=hl9;refine⟨σ,_,w,?_,.gg (vs:=#[]) .nil,hr,.refl _ _ _⟩;simp only[Builtin.delete_,h0,h1,h2,Sem.run_bind,aN hu,Result.andThen_ok,jR hka hk,Sem.run_pure]
  ·rename_i id
   cases hv with
   | @map _ p hp=>
    cases hmo:h.mapOf id with
    | none=>simp[hmo] at hl9
    | some q=>
     obtain⟨es,c⟩:=q;simp only[hmo,aa] at hl9;obtain⟨ho,es',g1,g2⟩:=hr.map hmo hp
     cases hf:gX P kt k es 0 with
     | none=>simp[hf] at hl9
     | some r0=>
      simp only[hf,ac,Option.some.injEq] at hl9;have hfind:=nz (w:=w) hkd hk hf g2
      cases r0 with
      | some i=>
       simp only[Prod.mk.injEq] at hl9;obtain⟨rfl,rfl⟩:=hl9;have hi:=tw es 0 i hf;obtain⟨m,hm1,hm2,hfo⟩:=yJ g2 (e:=es[i]'(by omega)) (List.getElem?_eq_getElem (by omega))
       have hel:EL σ (es.eraseIdx i) (es'.eraseIdxIfInBounds i).toList:=by
        rw[Array.toList_eraseIdxIfInBounds];exact g2.eraseIdx i
       obtain⟨k1,k2⟩:=hr.j8 ho rfl rfl hp (uQ (c:=c) (p:=p) hel);refine⟨σ,_,_,?_,.gg (vs:=#[]) .nil,k1,k2⟩;simp only[Builtin.delete_,h0,h1,h2,Sem.run_bind,aN hu,Result.andThen_ok,cA g1 (by simp),jR hka hk,hfind,hfo,eo g1 (by simp),Sem.run_pure]
      | none=>
       simp only[Prod.mk.injEq] at hl9;obtain⟨rfl,rfl⟩:=hl9;refine⟨σ,_,w,?_,.gg (vs:=#[]) .nil,hr,.refl _ _ _⟩;simp only[Builtin.delete_,h0,h1,h2,Sem.run_bind,aN hu,Result.andThen_ok,cA g1 (by simp),jR hka hk,hfind,found,eo g1 (by simp),Sem.run_pure,sL g1]
  ·simp at hl9
def Ih{P:Program}{σ:Sg}{h h':H}{w:World}(hr:HR σ h w){ats:Array TypeId}{T t:TypeId}{args:Array Value}{x r:AV}{v:Value}(hl:yq P h t x=some (r,h'))(h0:ats[0]?=some t)(h1:args[0]?=some v)(hv:V σ x v):
 Yields P σ h h' w r (Builtin.clear_ ats T args):=by
 unfold yq at hl;split at hl
 ·rename_i hu;simp only[Option.some.injEq,Prod.mk.injEq] at hl;obtain⟨rfl,rfl⟩:=hl;cases hv;refine⟨σ,_,w,?_,.gg (vs:=#[]) .nil,hr,.refl _ _ _⟩;simp only[Builtin.clear_,h0,h1,Sem.run_bind,aN hu,Result.andThen_ok,Sem.run_pure]
 ·rename_i e id off n es cap hu
  cases hs:cI P e with
  | none=>simp[hs] at hl
  | some s=>
   cases hz:du P e with
   | none=>simp[hs,hz] at hl
   | some z=>
    simp only[hs,hz,aa] at hl
    cases hv with
    | @slice _ _ _ _ _ a p c hp hlen hroom hcap haddr=>
     cases hn0:beq n 0
     ·rw[hn0,an] at hl;have hn0:=iB hn0;obtain⟨hc,hl2⟩:=aL hl;clear hl;simp only[al] at hc;have e1:=cU hc.1;subst e1;have e2:=cU hc.2
      cases hst:h.store id off (rep z.cells n) with
      | none=>simp[hst] at hl2
      | some h9=>
       simp only[hst,ac,Option.some.injEq,Prod.mk.injEq] at hl2;obtain⟨rfl,rfl⟩:=hl2;have haddr:=haddr.resolve_right (by omega);subst haddr;obtain⟨zv,hzr,hzV,_⟩:=iI (w:=w) (σ:=σ) hz
       have hzs:zv.cells.size=s:=by have:=hzV.cells.1;simp at this;omega
       have hv1:VL σ (rep z.cells n) (Builtin.zeroCells zv.cells n).toList:=by
        by_cases hs0:s=0
        ·have hr0:(rep z.cells n).length=0:=by rw[gj,e2,hs0,Nat.mul_zero]
         refine⟨by simp[gj,Builtin.zeroCells,hzs,e2],?_⟩;intro i a' v' ha';rw[List.getElem?_eq_none (by omega)] at ha';cases ha'
        ·have:=DT hzV.cells (by omega) n;rw[e2] at this;simpa only[Builtin.zeroCells,hzs] using this
       obtain⟨w',s1,s2,s3⟩:=hr.rE (P:=P) hst hp hv1;refine⟨σ,_,w',?_,.gg (vs:=#[]) .nil,s2,s3⟩
       cases n with
       | zero=>exact t8 rfl hn0
       | succ n=>
        simp only[Builtin.clear_,h0,h1,Sem.run_bind,aN hu,Result.andThen_ok,hzr,s1,Sem.run_pure]
     ·rw[hn0,ai] at hl;have hn0:=cU hn0;subst hn0;simp only[Option.some.injEq,Prod.mk.injEq] at hl;obtain⟨rfl,rfl⟩:=hl;refine⟨σ,_,w,?_,.gg (vs:=#[]) .nil,hr,.refl _ _ _⟩;simp only[Builtin.clear_,h0,h1,Sem.run_bind,aN hu,Result.andThen_ok,Sem.run_pure]
 ·simp at hl
def I0{P:Program}{σ:Sg}{h h':H}{w:World}(hr:HR σ h w){t:TypeId}{x r:AV}{v:Value}(hl:vN P h t x=some (r,h'))(hv:V σ x v):Yields P σ h h' w r (Instr.range t v):=by
 have fin:∀(o:AO) (ob:Obj),(∀cs f,o≠.cells cs f)->OR (up σ h.next ⟨w.heap.size,0,0⟩) o ⟨w.heap.size,0,0⟩ (some ob)->(Instr.range t v).run P w=.ok (.pointer (some ⟨w.heap.size,0,none⟩)) { w with heap:=w.heap.push ob }->
  (r,h')=(.ptr (some (h.next,0)),{ h with aR:=h.aR.put h.next (some o),next:=h.next+1 })->Yields P σ h h' w r (Instr.range t v):=by
  intro o ob hnc hor hrun he;simp only[Prod.mk.injEq] at he;obtain⟨rfl,rfl⟩:=he;obtain⟨k1,k2⟩:=hr.new (r:=0) (o:=o) (ob:=ob) (w':={ w with heap:=w.heap.push ob }) (λcs f hf=>t8 hf (hnc cs f)) hor rfl rfl rfl rfl
  have he:({ h.lay h.next o with next:=h.next+1 }:H)={ h with aR:=h.aR.put h.next (some o),next:=h.next+1 }:=by
   unfold H.lay;split
   ·rename_i cs f;exact t8 rfl (hnc cs f)
   ·rfl
  rw[he] at k1 k2;exact⟨_,_,_,hrun,.ptr (p:=⟨w.heap.size,0,0⟩) (ej _ _ _),k1,k2⟩
 unfold vN at hl;split at hl
 ·rename_i s hu
  cases hv with
  | @str _ bs hs=>
   refine fin (.K8 s 0) (.stringIter bs 0) (by simp) ⟨bs,rfl,hs,rfl⟩ ?_ (by simpa [H.newObj] using hl.symm);simp only[Instr.range,Sem.run_bind,aN hu,Result.andThen_ok,Sem.run_pure,run_newObj]
 ·rename_i hu;cases hv;refine fin (.jg none 0 [] 0) (.mapIter none 0 #[] 0) (by simp) ⟨none,rfl,rfl,rfl⟩ ?_ (by simpa [H.newObj] using hl.symm);simp only[Instr.range,Sem.run_bind,aN hu,Result.andThen_ok,Sem.run_pure,run_newObj]
 ·rename_i k e m hu
  cases hv with
  | @map _ p hp=>
   cases hm:h.mapOf m with
   | none=>simp[hm] at hl
   | some q=>
    obtain⟨es,c⟩:=q;obtain⟨_,es',g1,_⟩:=hr.map hm hp;refine fin (.jg (some m) c [] c) (.mapIter (some p.b) c #[] c) (by simp) ⟨some p.b,rfl,rfl,p,ng (hr.fresh _ (ad _)) _ _ hp,rfl⟩ ?_ (by simpa [H.newObj,hm] using hl.symm);simp only[Instr.range,Sem.run_bind,aN hu,Result.andThen_ok,cA g1 (by simp),Sem.run_pure,run_newObj]
 ·simp at hl
end Go.Ev
