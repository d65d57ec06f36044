/- A part of the texts of this claim: every theorem says what it proves, with its conditions. -/
import Derived.Test.YtnaiockballhaaaGreatA20
import Derived.Test.YtnaiockballhaaaGreatA19
set_option linter.unusedSimpArgs false
set_option linter.unusedVariables false
set_option linter.unusedSectionVars false
open List (getElem?_eq_getElem all_eq_true mem_range range)
open Nat (le_refl zero_le blt sub_zero)
namespace Go.Ev
noncomputable section
section
variable {P:Program} {ro:Option Nat} {S S':List SO} {n:Nat} {ds:List jd} {f f':Fm}
def Nh(W:List SO)(o:Nat):List SO->List SO->Nat->Prop
 | _,[],_=>True
 | s::S,s'::S',i=>(s'=.gone\/(i≠o/\(s'=s\/∃cs cs',s=.cells cs/\s'=.cells cs'/\bn W cs cs')))/\Nh W o S S' (i+1)
 | [],_::_,_=>False
theorem BE{W:List SO}{o:Nat}:∀{S S':List SO} {i:Nat},Nh W o S S' i->∀(p:Nat) s',S'[p]?=some s'->s'≠.gone->i+p≠o/\∃s,S[p]?=some s/\s≠.gone/\(s'=s\/∃cs cs',s=.cells cs/\s'=.cells cs'/\bn W cs cs')
 | _,[],_,_,p,s',h,_=>by simp at h
 | s::S,t::S',i,hh,0,s',h,hg=>by
  simp only[List.getElem?_cons_zero,Option.some.injEq] at h;subst h;obtain⟨h1,h2⟩:=hh.1.resolve_left hg;refine⟨h1,s,rfl,?_,h2⟩
  rcases h2 with h2 | ⟨cs,cs',h2,h3,_⟩
  ·rw[<-h2];exact hg
  ·rw[h2];exact λh=>by cases h
 | s::S,t::S',i,hh,p+1,s',h,hg=>by
  simp only[List.getElem?_cons_succ] at h ⊢;obtain⟨h1,h2⟩:=BE hh.2 p s' h hg;exact⟨by omega,h2⟩
 | [],_::_,_,hh,_,_,_,_=>hh.elim
theorem Fg.BV(o:Nat){so:SO}(hS:S[o]?=some so)(hg:so≠.gone)(hf:yV (mf o so) f f')(hO:Nh (mf o so) o S S' 0):Fg ⟨f,n,S,ds⟩ ⟨f',n,S',ds⟩:=by
 refine⟨rfl,?_⟩;rintro ρ0 h0 ⟨af,n',h,ds'⟩ ⟨rfl,rfl,θ,ρ,hR,hF⟩
 have hsub:∀(p:Nat) (s:SO),(mf o so)[p]?=some s->s≠.gone->S[p]?=some s:=by
  intro p s h1 h2;obtain⟨rfl,rfl⟩:=qw h1 h2;exact hS
 have hR1:=hR.sub hsub
 have hset:∀(p:Nat) (s:SO),S'[p]?=some s->s≠.gone->p≠o/\∃s0,S[p]?=some s0/\s0≠.gone/\(s=s0\/∃cs cs',s0=.cells cs/\s=.cells cs'/\bn (mf o so) cs cs'):=by
  intro p s h1 h2;have:=BE hO p s h1 h2
  rwa [Nat.zero_add] at this
 have hm:∀id ob,ρ id=some ob->nH θ ρ h (mf o so) id=some ob:=λid ob hi=>pO hi
 have key:∀id ob,nH θ ρ h (mf o so) id=some ob->ρ id=some ob\/id=(θ o).id:=by
  intro id ob hi;unfold nH at hi
  cases hr:ρ id with
  | some ob'=>rw[hr] at hi;exact .inl hi
  | none=>
   rw[hr] at hi;simp only at hi;split at hi
   ·rename_i hex;obtain⟨p,s,q1,q2,rfl⟩:=hex;obtain⟨rfl,_⟩:=qw q1 q2;exact .inr rfl
   ·cases hi
 refine⟨rfl,rfl,θ,nH θ ρ h (mf o so),⟨hR.ok,hR.nx,hR.ob,hR.fm,hR.lw,hR.ln,?_,?_,?_,?_⟩,λi=>?_,hF.u⟩
 ·intro p s h1 h2;obtain⟨_,s0,g1,g2,g3⟩:=hset p s h1 h2;obtain⟨k,k2⟩:=hR.obj p s0 g1 g2;refine⟨k,?_⟩
  rcases g3 with rfl | ⟨cs,cs',rfl,rfl,hw⟩
  ·exact k2.mono hm rfl rfl
  ·obtain⟨aS,q1,q2,q3⟩:=k2;exact⟨aS,q1,(hw.ok hR1 q2).vs,q3⟩
 ·intro p q s s' hpq h1 h2 h3 h4;obtain⟨_,s0,g1,g2,_⟩:=hset p s h1 h2;obtain⟨_,s1,g3,g4,_⟩:=hset q s' h3 h4;exact hR.sep p q s0 s1 hpq g1 g2 g3 g4
 ·intro id ob hi;obtain⟨r1,r2⟩:=oA hR1 id ob hi;refine⟨r1,r2,λp s h1 h2=>?_⟩;obtain⟨hp,s0,g1,g2,_⟩:=hset p s h1 h2
  rcases key id ob hi with e | e
  ·exact(hR.row id ob e).2.2 p s0 g1 g2
  ·subst e;have sp:=hR.sep p o s0 so hp g1 g2 hS hg;obtain⟨k,_⟩:=hR.obj o so hS hg
   rcases k.e with e | e<;>rw[e]
   ·exact⟨sp.xx.symm,sp.yx.symm⟩
   ·exact⟨sp.xy.symm,sp.yy.symm⟩
 ·intro id ob hi
  rcases key id ob hi with e | e
  ·exact hR.lJ id ob e
  ·subst e;obtain⟨k,_⟩:=hR.obj o so hS hg;exact .inr (by rcases k.e with e | e<;>rw[e];exact k.x.1;exact k.y.1)
 ·rcases hf.get i with e | e
  ·rw[e];exact(hF.v i).mono hm
  ·exact(e.ok hR1 (hF.v i)).vs
theorem Fg.Rj(hO:Nh [] S.length S S' 0):Fg ⟨f,n,S,ds⟩ ⟨f,n,S',ds⟩:=by
 refine⟨rfl,?_⟩;rintro ρ0 h0 ⟨af,n',h,ds'⟩ ⟨rfl,rfl,θ,ρ,hR,hF⟩
 have hset:∀(p:Nat) (s:SO),S'[p]?=some s->s≠.gone->∃s0,S[p]?=some s0/\s0≠.gone/\(s=s0\/∃cs cs',s0=.cells cs/\s=.cells cs'/\bn [] cs cs'):=by
  intro p s h1 h2;exact(BE hO p s h1 h2).2
 refine⟨rfl,rfl,θ,ρ,⟨hR.ok,hR.nx,hR.ob,hR.fm,hR.lw,hR.ln,?_,?_,?_,hR.lJ⟩,hF⟩
 ·intro p s h1 h2;obtain⟨s0,g1,g2,g3⟩:=hset p s h1 h2;obtain⟨k,k2⟩:=hR.obj p s0 g1 g2;refine⟨k,?_⟩
  rcases g3 with rfl | ⟨cs,cs',rfl,rfl,hw⟩
  ·exact k2
  ·obtain⟨aS,q1,q2,q3⟩:=k2;have:=hw.ok hR.Cc q2;rw[x9] at this;exact⟨aS,q1,this.vs,q3⟩
 ·intro p q s s' hpq h1 h2 h3 h4;obtain⟨s0,g1,g2,_⟩:=hset p s h1 h2;obtain⟨s1,g3,g4,_⟩:=hset q s' h3 h4;exact hR.sep p q s0 s1 hpq g1 g2 g3 g4
 ·intro id ob hi;obtain⟨r1,r2,r3⟩:=hR.row id ob hi;refine⟨r1,r2,λp s h1 h2=>?_⟩;obtain⟨s0,g1,g2,_⟩:=hset p s h1 h2;exact r3 p s0 g1 g2
def wo(L:Nat->Prop)(i:Nat)(so:SO):SO:=@ite _ (L i) (Classical.propDecidable _) so .gone
theorem oK{L:Nat->Prop}{i:Nat}{so:SO}(h:L i):wo L i so=so:=if_pos h
theorem ij{L:Nat->Prop}{i:Nat}{so:SO}(h:¬L i):wo L i so=.gone:=if_neg h
theorem br(L:Nat->Prop)(i k:Nat)(v:SV):vo (λj=>L j\/j=i) k v=if k=i then v else vo L k v:=by
 by_cases h:k=i
 ·rw[if_pos h];exact cT (.inr h)
 ·rw[if_neg h];by_cases hl:L k
  ·rw[cT hl];exact cT (.inl hl)
  ·rw[iU hl];exact iU λe=>e.elim hl h
theorem oL(L:Nat->Prop)(i k:Nat)(so:SO):wo (λj=>L j\/j=i) k so=if k=i then so else wo L k so:=by
 by_cases h:k=i
 ·rw[if_pos h];exact oK (.inr h)
 ·rw[if_neg h];by_cases hl:L k
  ·rw[oK hl];exact oK (.inl hl)
  ·rw[ij hl];exact ij λe=>e.elim hl h
theorem mI(o:Nat)(L:Nat->Prop)(i:Nat)(so:SO):bP o (wo L i so)=wo L i (bP o so):=by
 by_cases hl:L i
 ·rw[oK hl,oK hl]
 ·rw[ij hl,ij hl];rfl
theorem Jh(r:Nat->Nat)(L:Nat->Prop)(i:Nat)(v:SV):fv r (vo L i v)=vo L i (fv r v):=by
 by_cases hl:L i
 ·rw[cT hl,cT hl]
 ·rw[iU hl,iU hl,fv]
theorem Ji(r:Nat->Nat)(L:Nat->Prop)(i:Nat)(so:SO):nO r (wo L i so)=wo L i (nO r so):=by
 by_cases hl:L i
 ·rw[oK hl,oK hl]
 ·rw[ij hl,ij hl];rfl
theorem dj(o:Nat)(L:Nat->Prop)(i:Nat)(v:SV)(h:names o v=false):names o (vo L i v)=false:=by
 by_cases hl:L i
 ·rw[cT hl];exact h
 ·rw[iU hl];simp[names]
theorem Jw(i:Nat)(v:SV):vo (λ_=>False) i v=.any:=iU λh=>h
theorem OA(i:Nat)(so:SO):wo (λ_=>False) i so=.gone:=ij λh=>h
end
theorem Dc.defer{P:Program}{o:Oper}{f:Nat->AV}{m:Nat}{h:H}{ds:List jd}{K:fO->Prop}{c:Call}{x:Operand}{g:FuncId}{first cap xs:List AV}(hop:o.op=.defer c)(hd:uT o.dst m=true)(hcal:c.callee=.value x)(hx:ev (dL f m) x=some (.fn (.func g) first cap))(hargs:tF (dL f m) c.args.toList=some xs)
 (hk:K ⟨Gb f o.dst kh,m,h,{ fn:=some (.func g),Db:=0,args:=first++xs,cap }::ds⟩):Dc P none o ⟨f,m,h,ds⟩ K:=by
 intro F n σ a w next Q hs hF hnext
 refine⟨λf _=>hF.fn f,?_⟩;have hρ:=hs.sr.t.ev;have hF':F=Fence.wide:=hF;subst hF';have hxs:=oa hρ _ _ hargs;have hV:=hρ _ _ hx;generalize hgv:a.eval x=v at hV
 cases hV with
 | @fn _ _ _ fs' cs' hfy h1 h2 h3 h4=>
  have hfs:VL σ first fs'.toList:=⟨by simpa using h1,λi a v x y=>h2 i a v x (by simpa using y)⟩
  have hcs:VL σ cap cs'.toList:=⟨by simpa using h3,λi a v x y=>h4 i a v x (by simpa using y)⟩
  have hrun:(o.semAt none a.eval).run P w=.ok (.defer { target:=.fn (.func g) cs',args:=fs'++c.args.map a.eval }) w:=by
   simp only[Oper.semAt_none,execOp,hop,resolve,hcal,hgv,Deferred.ofValue,Sem.run_bind,Sem.run_pure,Result.andThen_ok]
  show o.uponIn Fence.wide n P a next Q ((o.semAt none a.eval).run P w)
  rw[hrun];refine hnext _ _ w σ hk ⟨?_,hs.h,?_⟩ (.refl _ _ _) rfl
  ·exact(TF.put (a:={ a with defers:=_::a.defers }) hs.t (DS hd) V.kh)
  ·rw[put_defers];refine⟨⟨g,cs',rfl,rfl,?_,hcs⟩,hs.ds⟩;simp only[Array.toList_append,Array.toList_map];exact hfs.append hxs
section
variable {θ θ':Nat->Loc} {ρ ρ0 ρ':jP} {P:Program} {h0:En} {h h1:H} {S S' S0:List SO}
theorem aM.defer{all:List Oper}{o:Oper}{l:List Oper}{K:en->Prop}{f:Fm}{n:Nat}{ds:List jd}{cl:Call}{x:Operand}{g:FuncId}{first cap vs:List SV}(hst:eH all n [o]=true)(hop:o.op=.defer cl)(hdst:o.dst=none)(hw:da all f o.guard=some true)(hn:n<=1000000)
 (hcal:cl.callee=.value x) (hx:eY f x=some (.fn g first cap)) (hargs:ma f cl.args.toList=some vs) (hlow:vK (7000000+ds.length) f=true)
 (hk:∀a:jd,a.fn=some (.func g)->aM P none all l ⟨(7000000+ds.length,.fn g (first++vs) cap)::f,n,S,a::ds⟩ K):aM P none all (o::l) ⟨f,n,S,ds⟩ K:=by
 rintro ρ0 h0 ⟨af,n',h,ds'⟩ ⟨rfl,rfl,θ,ρ,hR,hF⟩;obtain⟨a,ha,ka⟩:=bL hF hx;obtain⟨aS,has,kas⟩:=kq hF hargs;rw[VS] at ka;obtain⟨xs,ys,rfl,kx,ky⟩:=ka;refine je.cons (cX hF (ee hst hw)) (Dc.defer hop (by rw[hdst];rfl) hcal ha has ?_);rw[hdst];refine hk { fn:=some (.func g),Db:=0,args:=xs++aS,cap:=ys } rfl ρ0 h0 ⟨af,n',h,_⟩ ⟨rfl,rfl,θ,ρ,hR,?_⟩;have hF2:=hF.push { fn:=some (.func g),Db:=0,args:=xs++aS,cap:=ys } hlow;refine⟨λi=>?_,hF2.u⟩;show VS θ ρ (if 7000000+ds'.length=i then _ else aR f i) _;by_cases e:7000000+ds'.length=i
 ·subst e;have hn1:n'<=1000000:=hn;rw[if_pos rfl];show VS θ ρ _ (if 7000000+ds'.length<n' then _ else vV h0.w _ (7000000+ds'.length));rw[if_neg (by omega),vV,if_pos (by omega),Nat.add_sub_cancel_left,Iw rfl,VS];exact⟨_,_,rfl,kx.app kas,ky⟩
 ·rw[if_neg e];exact hF2.v i
def wC(P:Program)(n:Nat):List jd->Fm->List SO->(Fm->List SO->Prop)->Prop
 | [],f,S,K=>K f S
 | d::ds,f,S,K=>∃f2,qC f f2/\vK (7000000+ds.length) f2=true/\((d.fn=none/\∃o:Nat,S[o]?=some (.ni d.Db)/\wC P n ds f2 (S.set o .gone) K)\/
  ∃(g:FuncId) (first cap:List SV) (fn:Func) (c:Code) (m:Nat),d.fn=some (.func g)/\aR f (7000000+ds.length)=.fn g first cap/\P.funcs[g]?=some fn/\fn.body=some c/\(first++cap).length+(fn.ntmps-(first++cap).length)=m/\m<=1000000/\
   ai P none c ⟨jI 0 (first++cap)++Jt laid f2,m,S,[]⟩ λe st=>jU e=true/\st.ds=[]/\(∃vs,nd P st.f st.S fn.results.toList=some vs)/\wC P n ds (tD laid st.f) st.S K)
theorem H7{aS:List AV}:∀(o:Option (List AV)),o=some aS->o.map (λvs=>match vs with | [v]=>v | vs=>AV.bI vs)=some (MZ aS):=by
 rintro _ rfl
 match aS with
 | []=>rfl
 | [_]=>rfl
 | _::_::_=>rfl
theorem FR.pop{f f2:Fm}{af:Nat->AV}{n:Nat}{w:Nat->AV}{d:jd}{ds:List jd}(hF:FR θ ρ (aR f) af n (vV w (d::ds)))(hh:qC f f2)(hl:vK (7000000+ds.length) f2=true):FR θ ρ (aR f2) af n (vV w ds):=by
 refine⟨λi=>?_,λi hi=>by have:=hF.u i hi;rw[oJ _ _ (by omega)] at this ⊢;exact this⟩
 rcases hh.get i with e | e
 ·have hv:=hF.v i;rw[e];by_cases hin:i<n
  ·rw[if_pos hin] at hv ⊢;exact hv
  rw[if_neg hin] at hv ⊢;by_cases h1:i<7000000
  ·rw[oJ _ _ h1] at hv ⊢;exact hv
  ·by_cases h2:i-7000000<ds.length
   ·cases ds with
    | nil=>simp at h2
    | cons d' ds=>
     rw[vV,if_pos (by omega),DR h2] at hv;rw[vV,if_pos (by omega)];exact hv
   ·have e2:=sy hl (show 7000000+ds.length<=i by omega);rw[<-e,e2,VS];trivial
 ·rw[e,VS];trivial
theorem p7{n:Nat}{af:Nat->AV}{K:Fm->List SO->Prop}(hn:n<=1000000):∀(ds:List jd) (f:Fm) (S:List SO) (h:H) (θ:Nat->Loc) (ρ:jP),wC P n ds f S K->RS θ ρ0 ρ h0 h S->FR θ ρ (aR f) af n (vV h0.w ds)->
 Dg P ds h λh''=>∃f' S' θ' ρ',K f' S'/\RS θ' ρ0 ρ' h0 h'' S'/\FR θ' ρ' (aR f') af n h0.w
 | [],f,S,h,θ,ρ,hl,hR,hF=>⟨f,S,θ,ρ,hl,hR,hF⟩
 | d::ds,f,S,h,θ,ρ,hl,hR,hF=>by
  obtain⟨f2,hh,hlow,hl⟩:=hl;have hF2:=hF.pop hh hlow;rw[Dg]
  rcases hl with⟨hdf,o,hS,hl⟩ | ⟨g,first,cap,fn,c,m,hdf,hfv,hfn,hb,hm,hm1,hl⟩
  ·rw[hdf];obtain⟨_,hid,hob⟩:=hR.obj o _ hS (λe=>by cases e);rw[hid] at hob;refine⟨hob,p7 hn ds f2 _ _ θ ρ hl ?_ hF2⟩;rw[<-hid];exact hR.put hS (λe=>by cases e) trivial
  ·rw[hdf];have hv:=hF.v (7000000+ds.length);rw[hfv,if_neg (by omega)] at hv;rw[vV,if_pos (by omega),Nat.add_sub_cancel_left,Iw hdf,VS] at hv;obtain⟨xs,ys,e,kx,ky⟩:=hv;simp only[AV.fn.injEq,true_and] at e;obtain⟨e1,e2⟩:=e
   have kall:c8 θ ρ (first++cap) (d.args++d.cap):=by rw[e1,e2];exact kx.app ky
   have hlen:=kall.length;refine⟨fn,c,m,hfn,hb,by rw[hlen];exact hm,?_⟩
   obtain⟨w',hw'⟩:∃w':Nat->AV,w'=λi=>if laid<=i then (if i-laid<n then af (i-laid) else vV h0.w ds (i-laid)) else kh:=⟨_,rfl⟩
   have hvl:(first++cap).length<=m:=by omega
   have hst1:jk ρ0 { h0 with w:=w' } ⟨jI 0 (first++cap)++Jt laid f2,m,S,[]⟩ ⟨qD (d.args++d.cap),m,h,[]⟩:=by
    refine⟨rfl,rfl,θ,ρ,hR.w _,λi=>?_,λi hi=>?_⟩
    ·by_cases hi:i<(first++cap).length
     ·obtain⟨w,hw⟩:=wH (first++cap) 0 i (Nat.zero_le _) (by omega);show VS θ ρ (aR (jI 0 (first++cap)++Jt laid f2) i) _;rw[tX _ _ _ hw,rN,if_pos (Nat.zero_le _),Nat.sub_zero,List.getElem?_eq_getElem hi];obtain⟨a,ha,ka⟩:=kall.get (List.getElem?_eq_getElem hi)
      have hil:i<m:=by omega
      rw[if_pos hil]
      have e:qD (d.args++d.cap) i=a:=by unfold qD;rw[ha]
      show VS θ ρ (first++cap)[i] (qD (d.args++d.cap) i);rw[e];exact ka
     ·show VS θ ρ (aR (jI 0 (first++cap)++Jt laid f2) i) _;rw[r4 _ _ _ (λv=>tJ (first++cap) 0 i v (by omega)),r6];by_cases hb:laid<=i
      ·rw[if_pos hb,if_neg (show ¬i<m by unfold laid at hb;omega)];show VS θ ρ _ (w' i);rw[hw'];simp only;rw[if_pos hb];exact hF2.v (i-laid)
      ·rw[if_neg hb,VS];trivial
    ·show w' i=kh;rw[hw'];simp only;rw[if_neg (by unfold laid;omega)]
   refine(hl ρ0 _ _ hst1).mono ?_;rintro ex ⟨af2,n2,h2,ds2⟩ ⟨st,⟨he,hds,⟨vs,hres⟩,hK⟩,hn2,e3,e4,θ2,ρ2,hR2,hF3⟩;simp only at e3 e4 hR2 hF3 hn2;rw[hds] at e4;subst e4;subst e3;obtain⟨aS,k1,k2⟩:=sP hR2 hF3 hres;refine⟨he,rfl,⟨MZ aS,H7 _ k1⟩,?_⟩;refine p7 hn ds _ _ _ θ2 ρ2 hK (hR2.w h0.w) ⟨λi=>?_,hF2.u⟩;rw[r5];have:=hF3.v (laid+i);rw[if_neg (by rw[hn2];unfold laid;omega)] at this
   have e5:vV w' [] (laid+i)=if i<n then af i else vV h0.w ds i:=by
    show w' (laid+i)=_;rw[hw'];simp only;rw[if_pos (by omega),Nat.add_sub_cancel_left]
   rw[e5] at this;exact this
theorem Dg.mono{K K':H->Prop}:∀(ds:List jd) (h:H),Dg P ds h K->(∀h,K h->K' h)->Dg P ds h K'
 | [],h,hl,hk=>hk h hl
 | d::ds,h,hl,hk=>by
  rw[Dg] at hl ⊢
  cases hdf:d.fn with
  | none=>
   rw[hdf] at hl;exact⟨hl.1,Dg.mono ds _ hl.2 hk⟩
  | some f=>
   rw[hdf] at hl
   cases f with
   | func g=>
    obtain⟨fn,c,m,q1,q2,q3,q4⟩:=hl;exact⟨fn,c,m,q1,q2,q3,q4.mono λe st ⟨a1,a2,a3,a4⟩=>⟨a1,a2,a3,Dg.mono ds _ a4 hk⟩⟩
   | _=>exact hl.elim
def Jz(P:Program)(fn:Func)(Q:SV->Prop):Ex->en->Prop:=λe st=>jU e=true/\wC P st.n st.ds st.f st.S λf S=>∃vs r,nd P f S fn.results.toList=some vs/\Wk S (aC vs) r/\Q r
def PW(P:Program)(fn:Func)(K:Nat)(mv:List Nat)(Q:SV->List SO->Prop):Ex->en->Prop:=λe st=>jU e=true/\wC P st.n st.ds st.f st.S λf S=>(∃vs,nd P f S fn.results.toList=some vs/\Q (aC vs) S)/\K<=S.length/\∀i,i<K->i∉mv->aR f (1000000+i)=.ptr i 0
theorem PC.qM(hng:rK P){g:FuncId}{fn:Func}{c:Code}{args:List SV}{Q:SV->Prop}(hf:P.funcs[g]?=some fn)(hb:fn.body=some c){n:Nat}(hn:args.length+(fn.ntmps-args.length)=n)(hlim:n<=1000000)
 (hw:ai P none c ⟨jI 0 args,n,[],[]⟩ (Jz P fn Q)):PC P g args Q:=by
 intro ρ h avs hρ hA;have hlen:=hA.length;refine dT.qM (n:=n) hng hf hb (by rw[hlen];exact hn) ?_
 have hst:jk ρ ⟨{ h with low:=h.next },λj=>j<h.next,λj=>j<h.next,h.next,λ_=>kh⟩ ⟨jI 0 args,n,[],[]⟩ ⟨qD avs,n,{ h with low:=h.next },[]⟩:=by
  refine⟨rfl,rfl,λ_=>⟨0,0,0,0⟩,ρ,⟨⟨λj hj=>hj,λj hj=>hj,λj hj=>Nat.le_of_not_lt hj,le_refl _⟩,le_refl _,λ_ _=>rfl,λ_ _=>rfl,le_refl _,le_refl _,λo so h=>by simp at h,λo o' so so' _ h=>by simp at h,λid ob hi=>⟨(hρ id ob hi).1,(hρ id ob hi).2,λo so h=>by simp at h⟩,λid ob hi=>.inl hi⟩,?_,λ_ _=>rfl⟩;intro i;rw[rN,if_pos (zero_le _),sub_zero];by_cases hi:i<args.length
  ·rw[getElem?_eq_getElem hi];obtain⟨a,ha,ka⟩:=hA.get (getElem?_eq_getElem hi)
   have hil:i<n:=by omega
   rw[if_pos hil]
   have e:qD avs i=a:=by unfold qD;rw[ha]
   show VS _ _ args[i] (qD avs i);rw[e];exact ka.vs
  ·rw[List.getElem?_eq_none (by omega)];simp only;rw[VS];trivial
 refine(hw ρ _ _ hst).mono ?_;rintro e ⟨af,n',h',ds'⟩ ⟨st,⟨h1,hl⟩,h6,h7,h8,θ,ρ',hR,hF⟩;simp only at h6 h7 h8 hR hF;subst h7;rw[<-h8] at hl;refine⟨h1,?_⟩;have hlv:=p7 (by rw[h6];exact hlim) ds' st.f st.S h' θ ρ' hl hR hF;refine Dg.mono ds' h' hlv ?_;rintro h'' ⟨f',S',θ',ρ'',⟨vs,r,h3,h4,h5⟩,hR',hF'⟩;obtain⟨aS,k1,k2⟩:=sP hR' hF' h3;refine⟨MZ aS,H7 _ k1,r,nH θ' ρ'' h'' S',h5,⟨hR'.nx,λj hj=>hR'.ob j hj,λj hj=>hR'.fm j hj,λhl=>?_⟩,?_,h4.ok hR' (I6 k2)⟩
 ·have:h.next<=h''.low:=hR'.lw;show gh h.low h''.low=h.low;exact qo (Nat.le_trans hl this)
 ·intro id ob hi;have hlt:=oA hR' id ob hi;unfold nH at hi
  cases hr:ρ'' id with
  | some ob'=>
   rw[hr] at hi;cases hi
   rcases hR'.lJ id _ hr with e | e
   ·exact .inl e
   ·exact .inr ⟨Nat.le_of_not_lt e,hlt.1,hlt.2⟩
  | none=>
   rw[hr] at hi;simp only at hi;split at hi
   ·rename_i hex;obtain⟨o,so,q1,q2,rfl⟩:=hex;obtain⟨k,_⟩:=hR'.obj o so q1 q2;exact .inr ⟨Nat.le_of_not_lt (by rcases k.e with e | e<;>rw[e];exact k.x.1;exact k.y.1),hlt.1,hlt.2⟩
   ·cases hi
theorem SC.qM(hng:rK P){g:FuncId}{fn:Func}{c:Code}{args:List SV}{mv:List Nat}{Q:SV->List SO->Prop}(hf:P.funcs[g]?=some fn)(hb:fn.body=some c){n:Nat}(hn:args.length+(fn.ntmps-args.length)=n)(hlim:n<=1000000){W:Fm}(hW:W=ng S0.length)(hK:S0.length<=1000000)
 (hw:ai P none c ⟨jI 0 args++W,n,S0,[]⟩ (PW P fn S0.length mv Q)):SC P g args S0 mv Q:=by
 intro E θ ρ h avs hE hR hA;subst hW;have hlen:=hA.length;refine dT.qM (n:=n) hng hf hb (by rw[hlen];exact hn) ?_
 have hst:jk ρ { E with w:=λi=>if 1000000<=i/\i<1000000+S0.length then .ptr (some ((θ (i-1000000)).id,0)) else kh } ⟨jI 0 args++ng S0.length,n,S0,[]⟩ ⟨qD avs,n,{ h with low:=h.next },[]⟩:=by
  refine⟨rfl,rfl,θ,ρ,?_,?_,λi hi=>if_neg (λh=>by omega)⟩
  ·rw[<-hE]
   exact⟨⟨hR.ok.pr,hR.ok.pf,hR.ok.lo,hR.ok.ln⟩,hR.nx,hR.ob,hR.fm,hR.lw,hR.ln,λo so h1 h2=>by
    obtain⟨⟨k1,k2,k3,k4⟩,k5⟩:=hR.obj o so h1 h2
    exact⟨⟨k1,k2,k3,k4⟩,k5⟩,hR.sep,hR.row,hR.lJ⟩
  ·intro i;by_cases hi:i<args.length
   ·obtain⟨w,hw⟩:=wH args 0 i (zero_le _) (by omega);show VS θ ρ (aR (jI 0 args++ng S0.length) i) _;rw[tX _ _ _ hw,rN,if_pos (zero_le _),sub_zero,getElem?_eq_getElem hi];obtain⟨a,ha,ka⟩:=hA.get (getElem?_eq_getElem hi)
    have hil:i<n:=by omega
    rw[if_pos hil]
    have e:qD avs i=a:=by unfold qD;rw[ha]
    show VS θ ρ args[i] (qD avs i);rw[e];exact ka
   ·show VS θ ρ (aR (jI 0 args++ng S0.length) i) _;rw[r4 _ _ _ (λv=>tJ args 0 i v (by omega))];unfold ng;rw[DZ];by_cases hc:i≥1000000/\(i-1000000)∈range S0.length
    ·have h1:=hc.1;have h2:=mem_range.1 hc.2;rw[if_pos hc,if_neg (show ¬i<n by omega),VS];exact if_pos ⟨h1,by omega⟩
    ·rw[if_neg hc,VS];trivial
 refine(hw ρ _ _ hst).mono ?_;rintro e ⟨af,n',h',ds'⟩ ⟨st,⟨h1,hl⟩,h6,h7,h8,θ',ρ',hR',hF⟩;simp only at h7 h8 hR' hF h6;subst h7;rw[<-h8] at hl;refine⟨h1,?_⟩;have hlv:=p7 (by rw[h6];exact hlim) ds' st.f st.S h' θ' ρ' hl hR' hF;refine Dg.mono ds' h' hlv ?_;rintro h'' ⟨f',S',θ'',ρ'',⟨⟨vs,h3,h5⟩,hK2,hwt⟩,hR2,hF2⟩;obtain⟨aS,k1,k2⟩:=sP hR2 hF2 h3;refine⟨MZ aS,H7 _ k1,aC vs,S',θ'',ρ'',h'',h5,rfl,?_,I6 k2,hK2,?_⟩
 ·exact⟨hR.ok,hR2.nx,hR2.ob,hR2.fm,hR2.lw,hR2.ln,λo so h1 h2=>by
   obtain⟨⟨k1,k2,k3,k4⟩,k5⟩:=hR2.obj o so h1 h2
   exact⟨⟨k1,k2,k3,k4⟩,k5⟩,hR2.sep,hR2.row,hR2.lJ⟩
 ·intro i hi hm;have:=hF2.v (1000000+i);rw[hwt i hi hm,if_neg (show ¬1000000+i<st.n by omega),VS] at this;have e2:=this.symm.trans (if_pos ⟨by omega,by omega⟩);rw[Nat.add_sub_cancel_left] at e2;simp only[AV.ptr.injEq,Option.some.injEq,Prod.mk.injEq,and_true] at e2;exact e2
end
section
variable {P:Program} {S S':List SO}
theorem Ix{B:Nat}:∀f:Fm,tD B (Jt B f)=f
 | []=>rfl
 | (d,v)::f=>by
  show(if B<=d+B then (d+B-B,v)::tD B (Jt B f) else _)=_;rw[if_pos (Nat.le_add_left _ _),Nat.add_sub_cancel,Ix f]
def Q5(P:Program)(ro:Option Nat)(c:fP)(oo:Nat)(vs:List SV)(S:List SO)(f0:Fm)(K:Ex->List SO->Fm->Prop):Prop:=∀pend f1,S[oo]?=some (.loop c .ready pend f1)->
 ai P ro c.a ⟨Cj c.ps.toList vs (f1++Jt laid f0),c.n,S,[]⟩ λex st=>ex=.normal/\∃pend2 f2,st.S[oo]?=some (.loop c .ready pend2 f2)/\
  ai P ro c.b ⟨st.f,c.n,st.S.set oo (.loop c .busy pend2 f2),st.ds⟩ λex st=>st.ds=[]/\∃ls p3 f3,st.S[oo]?=some (.loop c ls p3 f3)/\K ex (st.S.set oo (.loop c (tU ex) (tS ex) f3)) (tD laid st.f)
theorem aM.yR{ro:Option Nat}{all:List Oper}{o:Oper}{l:List Oper}{K:en->Prop}{f f1:Fm}{n d:Nat}{ds:List jd}{cl:Call}{x:Operand}{vs:List SV}{c:fP}{pend:Option Code}(oo:Nat)(hst:eH all n [o]=true)(hop:o.op=.call cl)(hdst:o.dst=some d)(hw:da all f o.guard=some true)(hdy:kH (.call cl)=true)
 (hcal:cl.callee=.value x) (hx:eY f x=some (.a (.fn (.yield c.id) [] []))) (hargs:ma f cl.args.toList=some vs) (hS:S[oo]?=some (.loop c .ready pend f1)) (hps:c.ps.toList.length=vs.length) (hlow:vK c.n f1=true) (hn1:c.n<=1000000) (hpar:c.ps.toList.all (λk=>blt k c.n)=true)
 (hr:∀ro',Q5 P ro' c oo vs S f λex S' f'=>aM P ro all l ⟨(d,.a (.bool (tT ex)))::f',n,S',ds⟩ K):aM P ro all (o::l) ⟨f,n,S,ds⟩ K:=by
 refine aM.y hst hop hdst hw hdy hcal hx hargs hS hps hlow hn1 hpar λro'=>?_;refine ai.mono (hr ro' _ _ hS) ?_;rintro ex st ⟨rfl,p2,f2,h1,h2⟩;refine⟨rfl,oo,p2,f2,h1,ai.mono h2 ?_⟩;rintro ex st ⟨hds,ls,p3,f3,h3,h4⟩;exact⟨hds,oo,ls,p3,f3,h3,h4⟩
end
section
variable {P:Program} {ro:Option Nat}
theorem aM.mono{all l:List Oper}{st:en}{K K':en->Prop}(h:aM P ro all l st K)(hk:∀x,K x->K' x):aM P ro all l st K':=
 λρ0 h0 ast hs=>(h ρ0 h0 ast hs).mono λ_ ⟨x,k1,k2⟩=>⟨x,hk x k1,k2⟩
def Dd(P:Program)(ro:Option Nat)(ol:List Oper):Nat->List Oper->en->(en->Prop)->Prop
 | _,[],x,K=>K x
 | i,o::l,x,K=>aM P ro (ol.take (i+1)) [o] x λx'=>Dd P ro ol (i+1) l x' K
theorem ai.Bf{id:Nat}{ops:Array Oper}{st:en}{Q:Ex->en->Prop}{ol:List Oper}(m fuel:Nat)(F1:(Nat->Prop)->en)(hol:ops.toList=ol)(hok:(lL 0 ol&&P.follows .mixedOrders)=true) (hgd:(ol.zipIdx.all λp=>match p.1.guard with
 | none=>true
 | some (j,_)=>blt j p.2)=true) (hm:m<ol.length)
 (hanc:((range ol.length).all λi=>blt i m||(range i).all λk=>(PY ol fuel i).contains k)=true) (h0:Fg st (F1 λ_=>False)) (hn:∀L,(F1 L).n=st.n)
 (hpre:∀L i o,i<m->jh ol L->QA ol L i o->aM P ro (ol.take (i+1)) [o] (F1 L) λx=>Fg x (F1 λj=>L j\/j=i))
 (htail:Dd P ro ol m (ol.drop m) (F1 λj=>j<m) (Q .normal)):ai P ro (.region id ops true) st Q:=by
 have hgd2:∀(i:Nat) (o:Oper),ol[i]?=some o->∀(j:Nat) (b:Bool),o.guard=some (j,b)->j<i:=by
  intro i o ho j b hg;have:=all_eq_true.1 hgd (o,i) (List.mem_iff_getElem?.2 ⟨i,by rw[List.getElem?_zipIdx,ho];simp⟩);simp only[hg] at this;exact fQ this
 have hA:∀{L:Nat->Prop} {i k:Nat},jh ol L->(∀o,ol[i]?=some o->∀e∈o.after.toList,dep e=true->L e.on)->i<ol.length->m<=i->k<i->L k:=by
  intro L i k hc hd hi hmi hk;have h1:=all_eq_true.1 hanc i (mem_range.2 hi);rw[Bool.or_eq_true] at h1
  rcases h1 with h1 | h1
  ·have:=fQ h1;omega
  ·have:=all_eq_true.1 h1 k (mem_range.2 hk);exact BG hc hd k (List.contains_iff_mem.1 this)
 refine ai.any hol hok (.inr hgd2) (λL x=>x.n=st.n/\(∀k,L k->k<ol.length)/\jh ol L/\((¬L m/\Fg x (F1 L))\/∃t,m<t/\t<=ol.length/\(∀k,L k↔k<t)/\Dd P ro ol t (ol.drop t) x (Q .normal))) ⟨rfl,λ_ h=>h.elim,λ_ _ _ h=>h.elim,.inl ⟨λh=>h,h0⟩⟩ (λL x h=>h.1) ?_ ?_
 ·rintro L x i o ⟨hxn,hlt,hc,hx⟩ hr;have hil:i<ol.length:=bl hr.ik;have hlt2:∀k,(L k\/k=i)->k<ol.length:=λk h=>h.elim (hlt k) (λe=>e▸hil)
  have hc2:jh ol (λj=>L j\/j=i):=by
   intro j o' ho' hj e he hd
   rcases hj with hj | rfl
   ·exact .inl (hc j o' ho' hj e he hd)
   ·have:=hr.ik;rw[ho'] at this;cases this;exact .inl (hr.dep e he hd)
  have hdi:∀o',ol[i]?=some o'->∀e∈o'.after.toList,dep e=true->L e.on:=by
   intro o' ho' e he hd;have:=hr.ik;rw[ho'] at this;cases this;exact hr.dep e he hd
  have hdrop:ol.drop i=o::ol.drop (i+1):=by
   rw[List.drop_eq_getElem_cons hil]
   congr 1
   have:=hr.ik;rw[getElem?_eq_getElem hil] at this;exact Option.some.inj this
  rcases hx with⟨hnm,hfg⟩ | ⟨t,hmt,htl,hL,hch⟩
  ·refine aM.fg hfg ?_;by_cases him:i<m
   ·refine aM.mono (aM.num (hpre L i o him hc hr)) ?_;rintro x' ⟨h1,h2⟩;exact⟨by rw[h2,hn],hlt2,hc2,.inl ⟨λh=>h.elim hnm (by omega),h1⟩⟩
   ·have hie:i=m:=by
     refine Decidable.byContradiction λhne=>hnm ?_;exact hA hc hdi hil (by omega) (by omega)
    subst hie
    have hLe:L=λj=>j<i:=by
     funext k;refine propext ⟨λhk=>?_,λhk=>hA hc hdi hil (le_refl _) hk⟩;refine Decidable.byContradiction λhge=>?_;by_cases e:k=i
     ·subst e;exact hr.new hk
     ·exact hr.new (hA hc (λo' ho'=>hc k o' ho' hk) (hlt k hk) (by omega) (by omega))
    rw[hLe];rw[hdrop,Dd] at htail;refine aM.mono (aM.num htail) ?_;rintro x' ⟨h1,h2⟩;refine⟨by rw[h2,hn],λk hk=>hk.elim (λh=>by omega) (λh=>by omega),by rw[hLe] at hc2;exact hc2,.inr ⟨i+1,by omega,hil,λk=>⟨λh=>h.elim (λh=>by omega) (λh=>by omega),λh=>?_⟩,h1⟩⟩;by_cases e:k=i
    ·exact .inr e
    ·exact .inl (by show k<i;omega)
  ·have hit:i=t:=by
    have h1:¬i<t:=λh=>hr.new ((hL i).2 h);refine Decidable.byContradiction λhne=>?_;have:=(hL t).1 (hA hc hdi hil (by omega) (by omega));omega
   subst hit;rw[hdrop,Dd] at hch;refine aM.mono (aM.num hch) ?_;rintro x' ⟨h1,h2⟩;refine⟨by rw[h2,hxn],hlt2,hc2,.inr ⟨i+1,by omega,hil,λk=>⟨λh=>h.elim (λh=>by have:=(hL k).1 h;omega) (λh=>by omega),λh=>?_⟩,h1⟩⟩;by_cases e:k=i
   ·exact .inr e
   ·exact .inl ((hL k).2 (by omega))
 ·rintro L x ⟨hxn,hlt,hc,hx⟩ hall
  rcases hx with⟨hnm,_⟩ | ⟨t,hmt,htl,hL,hch⟩
  ·exact absurd (hall m hm) hnm
  ·have:t=ol.length:=by
    refine Decidable.byContradiction λhne=>?_;have:=(hL t).1 (hall t (by omega));omega
   subst this;rw[List.drop_length] at hch;exact hch
end
end
end Go.Ev
