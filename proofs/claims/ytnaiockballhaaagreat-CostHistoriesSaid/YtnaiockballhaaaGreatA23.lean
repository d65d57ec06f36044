/- A part of the texts of this claim: every theorem says what it proves, with its conditions. -/
import Derived.Test.YtnaiockballhaaaGreatA22
import Derived.Test.YtnaiockballhaaaGreatA21
import Derived.Test.YtnaiockballhaaaGreatA18
import Derived.Test.YtnaiockballhaaaGreatA16
import Derived.Test.YtnaiockballhaaaGreatA10
set_option linter.unusedSimpArgs false
set_option linter.unusedVariables false
set_option linter.unusedSectionVars false
open Nat (reduceAdd reduceEqDiff reduceLT reduceLeDiff reduceMul ble le_of_ble_eq_true reduceSub beq)
open Option (bind_some map_some)
open List (replicate length_cons length_nil)
namespace Go.Proofs
open Go.Ev
set_option maxRecDepth 100000
theorem n2{a b:Prop}(x:a)(y:b):a/\b:=⟨x,y⟩
theorem n3{a b c:Prop}(x:a)(y:b)(z:c):a/\b/\c:=⟨x,y,z⟩
theorem n4{a b c d:Prop}(x:a)(y:b)(z:c)(w:d):a/\b/\c/\d:=⟨x,y,z,w⟩
theorem n5{a b c d e:Prop}(x:a)(y:b)(z:c)(w:d)(u:e):a/\b/\c/\d/\e:=⟨x,y,z,w,u⟩
theorem n6{a b c d e f:Prop}(x:a)(y:b)(z:c)(w:d)(u:e)(v:f):a/\b/\c/\d/\e/\f:=⟨x,y,z,w,u,v⟩
theorem n7{a b c d e f g:Prop}(a1:a)(b1:b)(c1:c)(d1:d)(e1:e)(f1:f)(g1:g):a/\b/\c/\d/\e/\f/\g:=⟨a1,b1,c1,d1,e1,f1,g1⟩
theorem n8{a b c d e f g h:Prop}(a1:a)(b1:b)(c1:c)(d1:d)(e1:e)(f1:f)(g1:g)(h1:h):a/\b/\c/\d/\e/\f/\g/\h:=⟨a1,b1,c1,d1,e1,f1,g1,h1⟩
theorem n9{a b c d e f g h i:Prop}(a1:a)(b1:b)(c1:c)(d1:d)(e1:e)(f1:f)(g1:g)(h1:h)(i1:i):a/\b/\c/\d/\e/\f/\g/\h/\i:=⟨a1,b1,c1,d1,e1,f1,g1,h1,i1⟩
theorem n10{a b c d e f g h i j:Prop}(a1:a)(b1:b)(c1:c)(d1:d)(e1:e)(f1:f)(g1:g)(h1:h)(i1:i)(j1:j):a/\b/\c/\d/\e/\f/\g/\h/\i/\j:=⟨a1,b1,c1,d1,e1,f1,g1,h1,i1,j1⟩
theorem Qa:replicate 1 SO.gone=[.gone]:=rfl
theorem Qb:replicate 2 SO.gone=[.gone,.gone]:=rfl
theorem Qd:replicate 3 SO.gone=[.gone,.gone,.gone]:=rfl
theorem Qe:replicate 4 SO.gone=[.gone,.gone,.gone,.gone]:=rfl
theorem oU:type_of% Qa/\type_of% Qb/\type_of% Qd/\type_of% Qe:=⟨Qa,Qb,Qd,Qe⟩
theorem zV{p q:Prop}(k:p)(h:p->q:=by intro h;(repeat refine ai.seq ?_);refine ai.r0 (by rfl) (by simp only[bx,aX,an,aw,Option.bind_some,Option.map_some,↓reduceIte,Nat.reduceEqDiff,Nat.reduceAdd,Nat.reduceMul,Nat.reduceLeDiff,Nat.reduceLT,ah,ao,aP];first | done | rfl) ?_;(try change ai _ _ _ _ _);exact h):q:=h k
theorem aE{p q r:Prop}(f:r)(k:p)(h:r->p->q:=by intro f h;(repeat refine ai.seq ?_);refine ai.r0 (by rfl) (by simp only[bx,aX,an,aw,Option.bind_some,Option.map_some,↓reduceIte,Nat.reduceEqDiff,Nat.reduceAdd,Nat.reduceMul,Nat.reduceLeDiff,Nat.reduceLT,ah,ao,aP,f];first | done | rfl) ?_;(try change ai _ _ _ _ _);exact h):q:=h f k
theorem zC{p q:Prop}(k:p)(h:p->q:=by intro h;(repeat refine ai.seq ?_);refine ai.M8 (by rfl) (by simp only[bx,aX,an,aw,Option.bind_some,Option.map_some,↓reduceIte,Nat.reduceEqDiff,Nat.reduceAdd,Nat.reduceMul,Nat.reduceLeDiff,Nat.reduceLT,ah,ao,aP];first | done | rfl) ?_;exact h):q:=h k
theorem gl{p q r:Prop}(f:r)(k:p)(h:r->p->q:=by intro f h;(repeat refine ai.seq ?_);refine ai.M8 (by rfl) (by simp only[bx,aX,an,aw,Option.bind_some,Option.map_some,↓reduceIte,Nat.reduceEqDiff,Nat.reduceAdd,Nat.reduceMul,Nat.reduceLeDiff,Nat.reduceLT,ah,ao,aP,f];first | done | rfl) ?_;exact h):q:=h f k
theorem zR{p q:Prop}(k:p)(h:p->q:=by intro h;refine aM.r0 (by rfl) (by simp only[bx,aX,an,aw,Option.bind_some,Option.map_some,↓reduceIte,Nat.reduceEqDiff,Nat.reduceAdd,Nat.reduceMul,Nat.reduceLeDiff,Nat.reduceLT,ah,ao,aP];first | done | rfl) ?_;(try change ai _ _ _ _ _);exact h):q:=h k
theorem cS{p q r:Prop}(f:r)(k:p)(h:r->p->q:=by intro f h;refine aM.r0 (by rfl) (by simp only[bx,aX,an,aw,Option.bind_some,Option.map_some,↓reduceIte,Nat.reduceEqDiff,Nat.reduceAdd,Nat.reduceMul,Nat.reduceLeDiff,Nat.reduceLT,ah,ao,aP,f];first | done | rfl) ?_;(try change ai _ _ _ _ _);exact h):q:=h f k
theorem zQ{p q:Prop}(k:p)(h:p->q:=by intro h;refine aM.run (by rfl) (by simp only[bx,aX,an,aw,Option.bind_some,Option.map_some,↓reduceIte,Nat.reduceEqDiff,Nat.reduceAdd,Nat.reduceMul,Nat.reduceLeDiff,Nat.reduceLT,ah,ao,aP];first | done | rfl) ?_;exact h):q:=h k
theorem PH{p q r:Prop}(f:r)(k:p)(h:r->p->q:=by intro f h;refine aM.run (by rfl) (by simp only[bx,aX,an,aw,Option.bind_some,Option.map_some,↓reduceIte,Nat.reduceEqDiff,Nat.reduceAdd,Nat.reduceMul,Nat.reduceLeDiff,Nat.reduceLT,ah,ao,aP,f];first | done | rfl) ?_;exact h):q:=h f k
theorem zY{p q:Prop}(k:p)(h:p->q:=by intro h;(repeat refine ai.seq ?_);refine ai.yes rfl ?_;(try (refine ai.skip ?_;try change ai _ _ _ _ _));exact h):q:=h k
theorem zN{p q:Prop}(k:p)(h:p->q:=by intro h;(repeat refine ai.seq ?_);refine ai.no rfl ?_;(try (refine ai.skip ?_;try change ai _ _ _ _ _));exact h):q:=h k
theorem zE{p q:Prop}(k:p)(h:p->q:=by intro h;refine ai.ret ?_;(try simp only[iq,eB,df,cL]);exact h):q:=h k
theorem zB{p q:Prop}(k:p)(h:p->q:=by intro h;(repeat refine ai.seq ?_);refine ai.block ?_;exact h):q:=h k
section
variable {P:Program} {ro:Option Nat} {f:Fm} {n:Nat} {S:List SO} {ds:List jd} {Q:Ex->en->Prop}
theorem zK{all:List Oper}{o:Oper}{l:List Oper}{K:en->Prop}{d:Nat}{c:Call}{g:FuncId}{vs ws:List SV}{r:SV}(hq:PC P g ws (·=r))(hk:aM P ro all l ⟨(d,r)::f,n,S,ds⟩ K)
 (hst:eH all n [o]=true:=by rfl) (hop:o.op=.call c:=by rfl) (hdst:o.dst=some d:=by rfl) (hw:da all f o.guard=some true:=by rfl) (hdy:kH (.call c)=true:=by rfl)
 (hc:gr P f c=some (g,vs):=by simp only[bx,aX,an,aw,Option.bind_some,Option.map_some,↓reduceIte,Nat.reduceEqDiff,Nat.reduceAdd,Nat.reduceMul,Nat.reduceLeDiff,Nat.reduceLT,ah,ao,aP,gr];first | done | rfl) (hwk:bn S vs ws:=by first | exact bn.refl rfl | ((repeat' (first | exact bn.nil | apply bn.cons | exact Wk.refl rfl | exact Wk.nil _ | apply Wk.ag | apply Wk.bI | apply Wk.fn | refine Wk.ptr rfl ?_ (by first | decide | (simp only[aX];omega)) | refine Wk.buf rfl ?_ (by first | decide | (simp only[aX];omega)) | refine Wk.map rfl ?_ | exact bn.refl rfl));done)) (hfl:Az r=true\/bn [] vs ws:=by exact .inl rfl):aM P ro all (o::l) ⟨f,n,S,ds⟩ K:=
 aM.k hst hop hdst hw hdy hc hq hwk hfl hk
theorem zO{fn:Func}{Qr:SV->Prop}{e:Ex}{vs:List SV}{r:SV}(rs:List ResultVar)(he:jU e=true:=by rfl)(hr:fn.results.toList=rs:=by rfl)(h:nd P f S rs=some vs:=by simp only[bx,aX,an,aw,Option.bind_some,Option.map_some,↓reduceIte,Nat.reduceEqDiff,Nat.reduceAdd,Nat.reduceMul,Nat.reduceLeDiff,Nat.reduceLT,ah,ao,aP];first | done | rfl)(hw:Wk S (aC vs) r:=by exact Wk.refl rfl)(hq:Qr r:=by (try simp only[aC,ab]);first | done | rfl):tH P fn Qr e ⟨f,n,S,[]⟩:=tH.of he hr h hw hq
theorem zH{f':Fm}{S':List SO}(hf:qC f f':=by (simp only[bx,aX,cw,an,↓reduceIte,Nat.reduceEqDiff])<;>(repeat' apply And.intro)<;>first | rfl | trivial)(hs:wD S S' 0:=by (simp only[bx,aX,an,or_true,true_or])<;>(repeat' apply And.intro)<;>first | exact .inr rfl | exact .inl rfl | trivial):Fg ⟨f,n,S,ds⟩ ⟨f',n,S',ds⟩:=Fg.less hf hs
theorem cI{r:Prop}{f':Fm}{S':List SO}(k:r)(hf:r->qC f f':=by intro k;(simp only[bx,aX,cw,an,↓reduceIte,Nat.reduceEqDiff,k])<;>(repeat' apply And.intro)<;>first | rfl | trivial)(hs:r->wD S S' 0:=by intro k;(simp only[bx,aX,an,or_true,true_or,k])<;>(repeat' apply And.intro)<;>first | exact .inr rfl | exact .inl rfl | trivial):Fg ⟨f,n,S,ds⟩ ⟨f',n,S',ds⟩:=Fg.less (hf k) (hs k)
theorem zG{p:Prop}(h:p:=by (simp only[yV,bx,aX,true_or,or_true,↓reduceIte,Nat.reduceEqDiff])<;>(repeat' apply And.intro)<;>first | exact .inl rfl | trivial | exact .inr (Wk.buf rfl (bn.refl rfl) (by first | decide | (simp only[aX];omega))) | exact .inr (Wk.map rfl (bn.refl rfl)) | exact .inr (Wk.ptr rfl (bn.refl rfl) (by first | decide | (simp only[aX];omega)))):p:=h
theorem p6{r p:Prop}(k:r)(h:r->p:=by intro k;((simp only[yV,bx,aX,true_or,or_true,↓reduceIte,Nat.reduceEqDiff,k])<;>(repeat' apply And.intro)<;>first | exact .inl rfl | trivial | exact .inr (Wk.buf rfl (bn.refl rfl) (by first | decide | (simp only[aX];omega))) | exact .inr (Wk.map rfl (bn.refl rfl)) | exact .inr (Wk.ptr rfl (bn.refl rfl) (by first | decide | (simp only[aX];omega))))):p:=h k
theorem zs{p q:Prop}(k:p)(h:p->q:=by intro h;(repeat refine ai.seq ?_);exact h):q:=h k
theorem zL{α:Type}(l:List α)(I:Nat->Prop)(fr:Nat->Fm)(T:Nat->List SO){id:Nat}{x:Code}(hf:Fg ⟨f,n,S,[]⟩ ⟨fr 0,n,T 0,[]⟩)(h0:I 0)
 (h:∀k,k<=l.length->I k->ai P ro x ⟨fr k,n,T k,[]⟩ (df (λm st=>∃k,k<=l.length/\m=l.length-k/\I k/\st=⟨fr k,n,T k,[]⟩) (l.length-k) (iq id Q))):ai P ro (.block id (.loop x)) ⟨f,n,S,[]⟩ Q:=
 ai.block (ai.loop (λm st=>∃k,k<=l.length/\m=l.length-k/\I k/\st=⟨fr k,n,T k,[]⟩) l.length hf ⟨0,Nat.zero_le _,rfl,h0,rfl⟩ (by rintro m st ⟨k,_,_,_,rfl⟩;rfl) (by rintro m st ⟨k,hk,rfl,hI,rfl⟩;exact h k hk hI))
theorem zX{α:Type}{l:List α}{I:Nat->Prop}{fr:Nat->Fm}{T:Nat->List SO}{k:Nat}{st:en}(hlt:k<l.length)(hf:Fg st ⟨fr (k+1),n,T (k+1),[]⟩)(hI:I (k+1)):
 df (λm st=>∃k,k<=l.length/\m=l.length-k/\I k/\st=⟨fr k,n,T k,[]⟩) (l.length-k) Q .normal st:=⟨l.length-(k+1),_,by omega,hf,k+1,hlt,rfl,hI,rfl⟩
theorem zi{k L B:Nat}(h1:k<L)(h2:L<=B)(t:TypeId)(hB:B<=9223372036854775807:=by decide):cM Tryz.prog .add t (.int .i64 (k:Int)) (.int .i64 1)=some (.int .i64 ((k:Int)+1)):=iJ (dX h1 h2 hB)
theorem zf(n:Nat):decide ((n:Int)<(n:Int))=false:=by simp
theorem zt{k n:Nat}(h:k<n):decide ((k:Int)<(n:Int))=true:=by simp only[decide_eq_true_eq];omega
theorem zx{α:Type}{l:List α}{k:Nat}(h:k<l.length):∃z,l[k]?=some z:=⟨l[k],List.getElem?_eq_getElem h⟩
theorem zS{r:Prop}{all:List Oper}{o:Oper}{l:List Oper}{K:en->Prop}{d:Nat}{c:Call}{g:FuncId}{vs ws:List SV}{mv:List Nat}{S0 S1 S2:List SO}{r0 r2:SV}{f2:Fm}(os:List Nat)(k:r)(hq:SC P g ws S0 mv (λr S'=>r=r0/\S'=S1))
 (hk:aM P ro all l ⟨(d,r2)::f2,n,S2,ds⟩ K) (hst:eH all n [o]=true:=by rfl) (hop:o.op=.call c:=by rfl) (hdst:o.dst=some d:=by rfl) (hw:da all f o.guard=some true:=by rfl) (hdy:kH (.call c)=true:=by rfl)
 (hc:gr P f c=some (g,vs):=by simp only[bx,aX,an,aw,Option.bind_some,Option.map_some,↓reduceIte,Nat.reduceEqDiff,Nat.reduceAdd,Nat.reduceMul,Nat.reduceLeDiff,Nat.reduceLT,ah,ao,aP,gr];first | done | rfl) (hvs:r->jM (jg os S.length) ws=vs:=by intro k;simp only[ec,aX,an,↓reduceIte,Nat.reduceEqDiff,Nat.reduceAdd,Nat.reduceSub,Nat.reduceMul,Nat.reduceLeDiff,Nat.reduceLT,k];first | done | rfl) (hK:os.length=S0.length:=by rfl) (hnd:os.Nodup:=by decide)
 (hos:r->rb S (jg os S.length) S0 os:=by intro k;simp only[rb,ec,aX,an,k]<;>(repeat' apply And.intro)<;>first | trivial | rfl | (intro hh;cases hh))
 (hb1:r->dx S1.length r0=true:=by intro k;simp only[vN,ec,aX,an,Nat.reduceAdd,Nat.reduceLT,decide_true,k];first | done | rfl) (hb2:r->tK S1.length S1=true:=by intro k;simp only[vN,ec,aX,an,Nat.reduceAdd,Nat.reduceLT,decide_true,k];first | done | rfl)
 (hr:r->fv (jg os S.length) r0=r2:=by intro k;simp only[ec,aX,an,↓reduceIte,Nat.reduceEqDiff,Nat.reduceAdd,Nat.reduceSub,Nat.reduceMul,Nat.reduceLeDiff,Nat.reduceLT,k];first | done | rfl) (hf:r->m8 (dK os mv S.length (S1.length-os.length)) f=f2:=by intro k;simp only[ec,aX,an,↓reduceIte,Nat.reduceEqDiff,Nat.reduceAdd,Nat.reduceSub,Nat.reduceMul,Nat.reduceLeDiff,Nat.reduceLT,k,dz,dq,bP,bf,bx];first | done | rfl) (hS:r->fb S os mv S1=S2:=by intro k;simp only[ec,aX,an,↓reduceIte,Nat.reduceEqDiff,Nat.reduceAdd,Nat.reduceSub,Nat.reduceMul,Nat.reduceLeDiff,Nat.reduceLT,k,dz,dq,bP,bf,bx];first | done | rfl):aM P ro all (o::l) ⟨f,n,S,ds⟩ K:=
 aM.sk os hst hop hdst hw hdy hc hq (hvs k) hK hnd (hos k) (hb1 k) (hb2 k) (hr k) (hf k) (hS k) hk
theorem zP{fn:Func}{K:Nat}{mv:List Nat}{Qs:SV->List SO->Prop}{e:Ex}{vs:List SV}(rs:List ResultVar)(he:jU e=true:=by rfl)(hr:fn.results.toList=rs:=by rfl)(h:nd P f S rs=some vs:=by simp only[bx,aX,an,aw,Option.bind_some,Option.map_some,↓reduceIte,Nat.reduceEqDiff,Nat.reduceAdd,Nat.reduceMul,Nat.reduceLeDiff,Nat.reduceLT,ah,ao,aP];first | done | rfl)
 (hq:Qs (aC vs) S:=by (try simp only[aC,ab]);first | done | exact⟨rfl,rfl⟩ | exact⟨trivial,trivial⟩ | exact⟨rfl,trivial⟩ | exact⟨trivial,rfl⟩ | trivial) (hK:K<=S.length:=by first | decide | (simp only[aX];omega)) (hw:∀i,i<K->i∉mv->aR f (1000000+i)=.ptr i 0:=by intro i hi;have hi2:i<_:=hi;clear hi;simp only[List.length_cons,List.length_nil,Nat.zero_add,Nat.reduceAdd,Nat.not_lt_zero] at hi2<;>(rcases i with _ | i<;>first | (exfalso;omega) | (intro hm_;first | rfl | (exfalso;apply hm_;simp;done)) | (rcases i with _ | i<;>first | (exfalso;omega) | (intro hm_;first | rfl | (exfalso;apply hm_;simp;done)) | (rcases i with _ | i<;>first | (exfalso;omega) | (intro hm_;first | rfl | (exfalso;apply hm_;simp;done)))))):KO P fn K mv Qs e ⟨f,n,S,[]⟩:=KO.of he hr h hq hK hw
theorem zD{p q:Prop}(k:p)(h:p->q:=by intro h;(repeat (first | refine SD.r (by rfl) rfl (by rfl) (by rfl) (by simp only[bx,aX,an,aw,Option.bind_some,Option.map_some,↓reduceIte,Nat.reduceEqDiff,Nat.reduceAdd,Nat.reduceMul,Nat.reduceLeDiff,Nat.reduceLT,ah,ao,aP];first | done | rfl) ?_ | refine SD.s (by rfl) rfl (by rfl) (by rfl) ?_ | fail));exact h):q:=h k
theorem nL{p q r:Prop}(f:r)(k:p)(h:r->p->q:=by intro f h;(repeat (first | refine SD.r (by rfl) rfl (by rfl) (by rfl) (by simp only[bx,aX,an,aw,Option.bind_some,Option.map_some,↓reduceIte,Nat.reduceEqDiff,Nat.reduceAdd,Nat.reduceMul,Nat.reduceLeDiff,Nat.reduceLT,ah,ao,aP,f];first | done | rfl) ?_ | refine SD.s (by rfl) rfl (by rfl) (by rfl) ?_ | fail));exact h):q:=h f k
theorem zM{p q:Prop}(k:p)(h:p->q:=by intro h;refine SD.nil ?_;(try change ai _ _ _ _ _);exact h):q:=h k
theorem zp{p:Prop}(h:p:=by first | exact λi y h=>absurd h (Nat.not_lt_zero _) | trivial | rfl | assumption):p:=h
theorem oW{id:Nat}{ops:Array Oper}{st:en}{ol:List Oper}(ms:List Nat)(h:SD P ro ol ms st.n true [] (eO 0 ol) st.f st.S λf' S'=>Q .normal ⟨f',st.n,S',st.ds⟩)(hol:ops.toList=ol:=by rfl)(hms:pG ol []=ms:=by kernel_rfl)(hok:((lL 0 ol&&P.follows .mixedOrders)&&EP ol ms (eO 0 ol))=true:=by kernel_rfl):ai P ro (.region id ops true) st Q:=ai.Lp hol hms hok h
theorem zl{p:Prop}(h:p:=by simp only[bx,aX,an,aw,Option.bind_some,Option.map_some,↓reduceIte,Nat.reduceEqDiff,Nat.reduceAdd,Nat.reduceMul,Nat.reduceLeDiff,Nat.reduceLT,ah,ao,aP];first | done | rfl):p:=h
theorem gY{p r:Prop}(k:r)(h:r->p:=by intro k;simp only[bx,aX,an,aw,Option.bind_some,Option.map_some,↓reduceIte,Nat.reduceEqDiff,Nat.reduceAdd,Nat.reduceMul,Nat.reduceLeDiff,Nat.reduceLT,ah,ao,aP,k];first | done | rfl):p:=h k
theorem zc{p:Prop}(h:p:=by simp only[bx,aX,an,aw,Option.bind_some,Option.map_some,↓reduceIte,Nat.reduceEqDiff,Nat.reduceAdd,Nat.reduceMul,Nat.reduceLeDiff,Nat.reduceLT,ah,ao,aP,gr];first | done | rfl):p:=h
theorem Gh{p r:Prop}(k:r)(h:r->p:=by intro k;simp only[bx,aX,an,aw,Option.bind_some,Option.map_some,↓reduceIte,Nat.reduceEqDiff,Nat.reduceAdd,Nat.reduceMul,Nat.reduceLeDiff,Nat.reduceLT,ah,ao,aP,gr,k];first | done | rfl):p:=h k
theorem zw{p:Prop}(h:p:=by first | exact bn.refl rfl | ((repeat' (first | exact bn.nil | apply bn.cons | exact Wk.refl rfl | exact Wk.nil _ | apply Wk.ag | apply Wk.bI | apply Wk.fn | refine Wk.ptr rfl ?_ (by first | decide | (simp only[aX];omega)) | refine Wk.buf rfl ?_ (by first | decide | (simp only[aX];omega)) | refine Wk.map rfl ?_ | exact bn.refl rfl));done)):p:=h
theorem zv{p:Prop}(h:p:=by (try simp only[aC,ab]);(repeat' (first | exact Wk.refl rfl | exact bn.nil | apply bn.cons | exact Wk.nil _ | apply Wk.ag | apply Wk.bI | refine Wk.ptr rfl ?_ (by first | decide | (simp only[aX];omega)) | refine Wk.buf rfl ?_ (by first | decide | (simp only[aX];omega)) | refine Wk.map rfl ?_ | exact bn.refl rfl))):p:=h
theorem uR{p:Prop}(h:p:=by (simp only[bx,aX,cw,an,↓reduceIte,Nat.reduceEqDiff])<;>(repeat' apply And.intro)<;>first | rfl | trivial):p:=h
theorem nM{p r:Prop}(k:r)(h:r->p:=by intro k;(simp only[bx,aX,cw,an,↓reduceIte,Nat.reduceEqDiff,k])<;>(repeat' apply And.intro)<;>first | rfl | trivial):p:=h k
theorem yS{p:Prop}(h:p:=by (simp only[bx,aX,an,or_true,true_or])<;>(repeat' apply And.intro)<;>first | exact .inr rfl | exact .inl rfl | trivial):p:=h
theorem nN{p r:Prop}(k:r)(h:r->p:=by intro k;(simp only[bx,aX,an,or_true,true_or,k])<;>(repeat' apply And.intro)<;>first | exact .inr rfl | exact .inl rfl | trivial):p:=h k
theorem zq{p:Prop}(h:p:=by (try simp only[aC,ab]);first | done | rfl):p:=h
theorem RF{p:Prop}(h:p:=by (try simp only[aC,ab]);first | done | exact⟨rfl,rfl⟩ | exact⟨trivial,rfl⟩ | exact⟨rfl,trivial⟩ | exact⟨trivial,trivial⟩):p:=h
theorem zg{p:Prop}(h:p:=by intro i hi;have hi2:i<_:=hi;clear hi;simp only[List.length_cons,List.length_nil,Nat.zero_add,Nat.reduceAdd,Nat.not_lt_zero] at hi2<;>(rcases i with _ | i<;>first | (exfalso;omega) | (intro hm_;first | rfl | (exfalso;apply hm_;simp;done)) | (rcases i with _ | i<;>first | (exfalso;omega) | (intro hm_;first | rfl | (exfalso;apply hm_;simp;done)) | (rcases i with _ | i<;>first | (exfalso;omega) | (intro hm_;first | rfl | (exfalso;apply hm_;simp;done)))))):p:=h
theorem RU{p:Prop}(h:p:=by simp only[ec,aX,an,↓reduceIte,Nat.reduceEqDiff,Nat.reduceAdd,Nat.reduceSub,Nat.reduceMul,Nat.reduceLeDiff,Nat.reduceLT];first | done | rfl):p:=h
theorem RD{p r:Prop}(k:r)(h:r->p:=by intro k;simp only[ec,aX,an,↓reduceIte,Nat.reduceEqDiff,Nat.reduceAdd,Nat.reduceSub,Nat.reduceMul,Nat.reduceLeDiff,Nat.reduceLT,k];first | done | rfl):p:=h k
theorem RV{p:Prop}(h:p:=by simp only[ec,aX,an,↓reduceIte,Nat.reduceEqDiff,Nat.reduceAdd,Nat.reduceSub,Nat.reduceMul,Nat.reduceLeDiff,Nat.reduceLT,dz,dq,bP,bf,bx];first | done | rfl):p:=h
theorem RE{p r:Prop}(k:r)(h:r->p:=by intro k;simp only[ec,aX,an,↓reduceIte,Nat.reduceEqDiff,Nat.reduceAdd,Nat.reduceSub,Nat.reduceMul,Nat.reduceLeDiff,Nat.reduceLT,k,dz,dq,bP,bf,bx];first | done | rfl):p:=h k
theorem RT{p:Prop}(h:p:=by simp only[rb,ec,aX,an]<;>(repeat' apply And.intro)<;>first | trivial | rfl | (intro hh;cases hh)):p:=h
theorem RC{p r:Prop}(k:r)(h:r->p:=by intro k;simp only[rb,ec,aX,an,k]<;>(repeat' apply And.intro)<;>first | trivial | rfl | (intro hh;cases hh)):p:=h k
theorem RR{p:Prop}(h:p:=by simp only[vN,ec,aX,an,Nat.reduceAdd,Nat.reduceLT,decide_true];first | done | rfl):p:=h
theorem RB{p r:Prop}(k:r)(h:r->p:=by intro k;simp only[vN,ec,aX,an,Nat.reduceAdd,Nat.reduceLT,decide_true,k];first | done | rfl):p:=h k
theorem zd{p:Prop}(h:p:=by first | decide | (simp only[aX];omega)):p:=h
theorem pJ(k:Nat):(k:Int)+1=((k+1:Nat):Int):=rfl
theorem bA(a b:Int)(h : -9223372036854775808<=a+b/\a+b<=9223372036854775807)(P:Program)(t:TypeId):cM P .add t (.int .i64 a) (.int .i64 b)=some (.int .i64 (a+b)):=iJ h
theorem bS(a b:Int)(h : -9223372036854775808<=a-b/\a-b<=9223372036854775807)(P:Program)(t:TypeId):cM P .sub t (.int .i64 a) (.int .i64 b)=some (.int .i64 (a-b)):=we h
theorem bM(a b:Int)(h : -9223372036854775808<=a*b/\a*b<=9223372036854775807)(P:Program)(t:TypeId):cM P .mul t (.int .i64 a) (.int .i64 b)=some (.int .i64 (a*b)):=wc h
theorem RW{p:Prop}(h:p:=by (simp only[si,ec,aX,an])<;>(repeat' apply And.intro)<;>first | trivial | exact .inl rfl | exact .inr rfl | exact .inr trivial | exact .inl trivial):p:=h
theorem Ic{p r:Prop}(k:r)(h:r->p:=by intro k;(simp only[si,ec,aX,an,k])<;>(repeat' apply And.intro)<;>first | trivial | exact .inl rfl | exact .inr rfl | exact .inr trivial | exact .inl trivial):p:=h k
theorem RX{p:Prop}(h:p:=by (simp only[bx,ec,aX,an])<;>(repeat' apply And.intro)<;>first | rfl | trivial):p:=h
theorem Ie{p r:Prop}(k:r)(h:r->p:=by intro k;(simp only[bx,ec,aX,an,k])<;>(repeat' apply And.intro)<;>first | rfl | trivial):p:=h k
theorem pB(n:Nat){g:FuncId}{fn:Func}{c:Code}{args:List SV}{Q:SV->Prop}(hf:Tryz.prog.funcs[g]?=some fn)(hw:ai Tryz.prog none c ⟨jI 0 args,n,[],[]⟩ (tH Tryz.prog fn Q))(hb:fn.body=some c:=by rfl)(hn:args.length+(fn.ntmps-args.length)=n:=by rfl)(hlim:n<=1000000:=by exact Nat.le_of_ble_eq_true rfl):PC Tryz.prog g args Q:=PC.body dP hf hb hn hw hlim
section
variable (n:Nat) {g:FuncId} {fn:Func} {c:Code} {args:List SV} {S0:List SO} {mv:List Nat} {Q:SV->List SO->Prop}
theorem Jl(hf:Tryz.prog.funcs[g]?=some fn)(hw:ai Tryz.prog none c ⟨jI 0 args++[],n,S0,[]⟩ (KO Tryz.prog fn S0.length mv Q))(hb:fn.body=some c:=by rfl)(hn:args.length+(fn.ntmps-args.length)=n:=by rfl)(hlim:n<=1000000:=by exact Nat.le_of_ble_eq_true rfl)(hW:[]=ng S0.length:=by rfl)(hK:S0.length<=1000000:=by exact Nat.le_of_ble_eq_true rfl):SC Tryz.prog g args S0 mv Q:=SC.body dP hf hb hn hlim hW hw hK
theorem Gk(hf:Tryz.prog.funcs[g]?=some fn)(hw:ai Tryz.prog none c ⟨jI 0 args++[(1000000,.ptr 0 0)],n,S0,[]⟩ (KO Tryz.prog fn S0.length mv Q))(hb:fn.body=some c:=by rfl)(hn:args.length+(fn.ntmps-args.length)=n:=by rfl)(hlim:n<=1000000:=by exact Nat.le_of_ble_eq_true rfl)(hW:[(1000000,.ptr 0 0)]=ng S0.length:=by rfl)(hK:S0.length<=1000000:=by exact Nat.le_of_ble_eq_true rfl):SC Tryz.prog g args S0 mv Q:=SC.body dP hf hb hn hlim hW hw hK
theorem PQ(hf:Tryz.prog.funcs[g]?=some fn)(hw:ai Tryz.prog none c ⟨jI 0 args++[(1000000,.ptr 0 0),(1000001,.ptr 1 0)],n,S0,[]⟩ (KO Tryz.prog fn S0.length mv Q))(hb:fn.body=some c:=by rfl)(hn:args.length+(fn.ntmps-args.length)=n:=by rfl)(hlim:n<=1000000:=by exact Nat.le_of_ble_eq_true rfl)(hW:[(1000000,.ptr 0 0),(1000001,.ptr 1 0)]=ng S0.length:=by rfl)(hK:S0.length<=1000000:=by exact Nat.le_of_ble_eq_true rfl):SC Tryz.prog g args S0 mv Q:=SC.body dP hf hb hn hlim hW hw hK
theorem QE(hf:Tryz.prog.funcs[g]?=some fn)(hw:ai Tryz.prog none c ⟨jI 0 args++[(1000000,.ptr 0 0),(1000001,.ptr 1 0),(1000002,.ptr 2 0)],n,S0,[]⟩ (KO Tryz.prog fn S0.length mv Q))(hb:fn.body=some c:=by rfl)(hn:args.length+(fn.ntmps-args.length)=n:=by rfl)(hlim:n<=1000000:=by exact Nat.le_of_ble_eq_true rfl)(hW:[(1000000,.ptr 0 0),(1000001,.ptr 1 0),(1000002,.ptr 2 0)]=ng S0.length:=by rfl)(hK:S0.length<=1000000:=by exact Nat.le_of_ble_eq_true rfl):SC Tryz.prog g args S0 mv Q:=SC.body dP hf hb hn hlim hW hw hK
end
theorem cE{p q:Prop}(k:p)(h:p->q:=by intro h;(repeat refine ai.seq ?_);refine ai.yes rfl ?_;(try (refine ai.skip ?_;try change ai _ _ _ _ _));(repeat refine ai.seq ?_);refine ai.r0 (by rfl) (by simp only[bx,aX,an,aw,Option.bind_some,Option.map_some,↓reduceIte,Nat.reduceEqDiff,Nat.reduceAdd,Nat.reduceMul,Nat.reduceLeDiff,Nat.reduceLT,ah,ao,aP];first | done | rfl) ?_;(try change ai _ _ _ _ _);exact h):q:=h k
theorem ki{p q:Prop}(k:p)(h:p->q:=by intro h;(repeat refine ai.seq ?_);refine ai.r0 (by rfl) (by simp only[bx,aX,an,aw,Option.bind_some,Option.map_some,↓reduceIte,Nat.reduceEqDiff,Nat.reduceAdd,Nat.reduceMul,Nat.reduceLeDiff,Nat.reduceLT,ah,ao,aP];first | done | rfl) ?_;(try change ai _ _ _ _ _);(repeat refine ai.seq ?_);refine ai.M8 (by rfl) (by simp only[bx,aX,an,aw,Option.bind_some,Option.map_some,↓reduceIte,Nat.reduceEqDiff,Nat.reduceAdd,Nat.reduceMul,Nat.reduceLeDiff,Nat.reduceLT,ah,ao,aP];first | done | rfl) ?_;exact h):q:=h k
theorem gX{p q:Prop}(k:p)(h:p->q:=by intro h;(repeat refine ai.seq ?_);refine ai.no rfl ?_;(try (refine ai.skip ?_;try change ai _ _ _ _ _));(repeat refine ai.seq ?_);refine ai.r0 (by rfl) (by simp only[bx,aX,an,aw,Option.bind_some,Option.map_some,↓reduceIte,Nat.reduceEqDiff,Nat.reduceAdd,Nat.reduceMul,Nat.reduceLeDiff,Nat.reduceLT,ah,ao,aP];first | done | rfl) ?_;(try change ai _ _ _ _ _);exact h):q:=h k
theorem kQ{p q:Prop}(k:p)(h:p->q:=by intro h;(repeat refine ai.seq ?_);refine ai.r0 (by rfl) (by simp only[bx,aX,an,aw,Option.bind_some,Option.map_some,↓reduceIte,Nat.reduceEqDiff,Nat.reduceAdd,Nat.reduceMul,Nat.reduceLeDiff,Nat.reduceLT,ah,ao,aP];first | done | rfl) ?_;(try change ai _ _ _ _ _);(repeat refine ai.seq ?_);refine ai.r0 (by rfl) (by simp only[bx,aX,an,aw,Option.bind_some,Option.map_some,↓reduceIte,Nat.reduceEqDiff,Nat.reduceAdd,Nat.reduceMul,Nat.reduceLeDiff,Nat.reduceLT,ah,ao,aP];first | done | rfl) ?_;(try change ai _ _ _ _ _);exact h):q:=h k
theorem M9{p q:Prop}(k:p)(h:p->q:=by intro h;(repeat refine ai.seq ?_);refine ai.no rfl ?_;(try (refine ai.skip ?_;try change ai _ _ _ _ _));(repeat refine ai.seq ?_);refine ai.M8 (by rfl) (by simp only[bx,aX,an,aw,Option.bind_some,Option.map_some,↓reduceIte,Nat.reduceEqDiff,Nat.reduceAdd,Nat.reduceMul,Nat.reduceLeDiff,Nat.reduceLT,ah,ao,aP];first | done | rfl) ?_;exact h):q:=h k
theorem Gl{p q:Prop}(k:p)(h:p->q:=by intro h;(repeat refine ai.seq ?_);refine ai.r0 (by rfl) (by simp only[bx,aX,an,aw,Option.bind_some,Option.map_some,↓reduceIte,Nat.reduceEqDiff,Nat.reduceAdd,Nat.reduceMul,Nat.reduceLeDiff,Nat.reduceLT,ah,ao,aP];first | done | rfl) ?_;(try change ai _ _ _ _ _);(repeat refine ai.seq ?_);refine ai.no rfl ?_;(try (refine ai.skip ?_;try change ai _ _ _ _ _));exact h):q:=h k
theorem wy{p q:Prop}(k:p)(h:p->q:=by intro h;(repeat refine ai.seq ?_);refine ai.r0 (by rfl) (by simp only[bx,aX,an,aw,Option.bind_some,Option.map_some,↓reduceIte,Nat.reduceEqDiff,Nat.reduceAdd,Nat.reduceMul,Nat.reduceLeDiff,Nat.reduceLT,ah,ao,aP];first | done | rfl) ?_;(try change ai _ _ _ _ _);(repeat refine ai.seq ?_);refine ai.yes rfl ?_;(try (refine ai.skip ?_;try change ai _ _ _ _ _));exact h):q:=h k
theorem nh{a b:Int}(h : -9223372036854775808<=a+b/\a+b<=9223372036854775807)(P:Program)(t:TypeId):cM P .add t (.int .i64 a) (.int .i64 b)=some (.int .i64 (a+b)):=iJ h
theorem KP{a b:Int}(h : -9223372036854775808<=a-b/\a-b<=9223372036854775807)(P:Program)(t:TypeId):cM P .sub t (.int .i64 a) (.int .i64 b)=some (.int .i64 (a-b)):=we h
theorem RG{a b:Int}(h : -9223372036854775808<=a*b/\a*b<=9223372036854775807)(P:Program)(t:TypeId):cM P .mul t (.int .i64 a) (.int .i64 b)=some (.int .i64 (a*b)):=wc h
theorem ft{L:Nat->Prop}{i:Nat}(h:L i)(v:SV):vo L i v=v:=cT h
theorem RO{L:Nat->Prop}{i:Nat}(h:¬L i)(v:SV):vo L i v=.any:=iU h
theorem RQ{L:Nat->Prop}{i:Nat}(h:L i)(v:SO):wo L i v=v:=oK h
theorem RP{L:Nat->Prop}{i:Nat}(h:¬L i)(v:SO):wo L i v=.gone:=ij h
theorem Q6{n k:Nat}(h:k<=n)(c:Option Nat)(q:IntKind):cF n c none (some (.int q (k:Int))) none=some (0,k,c):=by
 unfold cF mF ny;simp only[kM,bind_some,ek h,Bool.true_or,ah]
theorem DA{n k:Nat}(h:k<=n)(c:Option Nat)(q:IntKind):cF n c (some (.int q (k:Int))) none none=some (k,n,c):=by
 unfold cF mF;simp only[kM,bind_some,ek h,ah]
end
def qE(b:Nat):Nat:=
 bif cZ b then 3 else bif ble 48 b&&ble b 57 then 4 else bif beq b 35 then 2 else bif beq b 95 then 5 else bif beq b 34 then 7 else
 bif [32,9,10].any (beq b) then 1 else bif [59,44,46,58,40,41,123,125,91,93,61,60,62,47,43,45,42].any (beq b) then 6 else 0
def GA:List AV:=(List.range 256).map λb=>AV.int .u8 (Int.ofNat (qE b))
theorem Li:GA.length=256:=by simp[GA]
theorem Lh(b:Nat)(h:b<256):GA[b]?=some (.int .u8 (qE b:Int)):=by
 unfold GA;rw[List.getElem?_map,List.getElem?_range h];rfl
theorem A0(s:List Nat)(h:cO s=true):∀(i b:Nat),s[i]?=some b->fZ b=true:=by
 intro i b hi
 cases s with
 | nil=>simp at hi
 | cons a l=>
  simp only[cO,Bool.and_eq_true] at h
  cases i with
  | zero=>simp at hi;subst hi;unfold fZ;rw[h.1];rfl
  | succ i=>
   rw[List.getElem?_cons_succ] at hi;exact List.all_eq_true.1 h.2.1 b (List.mem_of_getElem? hi)
theorem Es(s:List Nat)(h:∀(i b:Nat),s[i]?=some b->fZ b=true)(b:Nat)(h0:s[0]?=some b):cO s=(decide (s.length<=24)&&cZ b):=by
 cases s with
 | nil=>simp at h0
 | cons a l=>
  simp at h0;subst h0
  have:l.all fZ=true:=by
   rw[List.all_eq_true];intro x hx;obtain⟨i,hi⟩:=List.mem_iff_getElem?.1 hx;exact h (i+1) x (by rw[List.getElem?_cons_succ];exact hi)
  simp only[cO,this,Bool.true_and,length_cons]
  have e:ble l.length 23=decide (l.length+1<=24):=by
   by_cases hl:l.length<=23
   ·rw[ek hl];simp;omega
   ·have:ble l.length 23=false:=by
     cases hb:ble l.length 23
     ·rfl
     ·exact absurd (iO hb) hl
    rw[this];simp;omega
  rw[e,Bool.and_comm]
def B0(n:Int):Bool:=decide (0<=n)&&decide (n<=1000000000000)
theorem Lj:∀b,b<256->(decide (qE b=3)=cZ b)/\((decide (qE b=3)||(decide (qE b=4)||decide (qE b=5)))=fZ b):=by decide +kernel
theorem NW(s:List Nat)(b:Nat)(h0:s[0]?=some b)(h:cZ b=false):cO s=false:=by
 cases s with
 | nil=>rfl
 | cons a l=>simp at h0;subst h0;simp only[cO,h,Bool.false_and]
structure Sh where
 pt:List Nat
 am:Int
 deriving DecidableEq
abbrev JH(b:Nat):SV:=.a (.int .u8 (b:Int))
theorem tm(b:Nat):PC Tryz.prog 207 [JH b] (·=aA (cZ b)):=by
 have e1:decide ((97:Int)<=(b:Int))=ble 97 b:=iK 97 b;have e2:decide ((b:Int)<=122)=ble b 122:=iK b 122;have e3:decide ((65:Int)<=(b:Int))=ble 65 b:=iK 65 b;have e4:decide ((b:Int)<=90)=ble b 90:=iK b 90;refine pB 17 Tryz.func207 ?_;unfold cZ;refine zV ?_;cases h1:ble 97 b<;>cases h2:ble b 122<;>cases h3:ble 65 b<;>cases h4:ble b 90
 all_goals
  rw[h1] at e1;rw[h2] at e2;rw[h3] at e3;rw[h4] at e4;refine aE (n4 e1 e2 e3 e4) ?_;refine zE ?_;exact zO [.tmp 2]
theorem Fs(b:Nat):PC Tryz.prog 211 [JH b] (·=aA (ble 48 b&&ble b 57)):=by
 have e1:decide ((48:Int)<=(b:Int))=ble 48 b:=iK 48 b;have e2:decide ((b:Int)<=57)=ble b 57:=iK b 57;refine pB 9 Tryz.func211 ?_;refine zV ?_;cases h1:ble 48 b<;>cases h2:ble b 57
 all_goals
  rw[h1] at e1;rw[h2] at e2;refine aE (n2 e1 e2) ?_;refine zE ?_;exact zO [.tmp 2]
theorem H6(b:Nat):PC Tryz.prog 206 [JH b] (·=aA (fZ b)):=by
 have e1:decide ((b:Int)=95)=beq b 95:=Ny b 95;refine pB 13 Tryz.func206 ?_;unfold fZ;refine ki ?_;refine zK (tm b) ?_;cases h1:cZ b;rotate_left
 ·refine zR ?_;refine zE ?_;exact zO [.tmp 2]
 refine zQ ?_;refine zK (Fs b) ?_;cases h2:(ble 48 b&&ble b 57);rotate_left
 ·refine zR ?_;refine zE ?_;exact zO [.tmp 2]
 refine cS e1 ?_;refine zE ?_;exact zO [.tmp 2]
theorem jF(s:List Nat)(hs:s.length<=1000000):PC Tryz.prog 197 [ak s] (·=aA (cO s)):=by
 refine pB 28 Tryz.func197 ?_;refine kQ ?_;refine zs ?_;refine zL s (λk=>(∀(i b:Nat),i<k->s[i]?=some b->fZ b=true)) (λk=>[(0,ak s),(3,aa k)]) (λk=>[]) zH (by intro i b h;omega) ?_;intro k hk hall;by_cases hlt:k<s.length;rotate_left
 ·obtain rfl:k=s.length:=by omega
  refine aE (show decide ((s.length:Int)<(s.length:Int))=false by simp) ?_;refine zN ?_;refine ai.exit ?_
  cases hs0:s with
  | nil=>
   refine aE @length_nil.{0} ?_;refine zE ?_;exact zO [.tmp 2]
  | cons b l=>
   have h0:s[0]?=some b:=by rw[hs0];rfl
   have hn:=Es s (λi b' hb'=>hall i b' (List.getElem?_eq_some_iff.1 hb').1 hb') b h0;rw[hs0] at hn
   have c2:decide ((0:Int)<((b::l).length:Int))=true:=by simp
   have h0':(b::l)[0]?=some b:=rfl;cases c3:decide (((b::l).length:Int)<=24)
   ·have e24:decide ((b::l).length<=24)=false:=by have:=of_decide_eq_false c3;simp only[decide_eq_false_iff_not];omega
    refine aE (n2 c2 c3) ?_;refine zE ?_;exact zO [.tmp 2] (hq:=by (try simp only[aC,ab]);first | done | (rw[hn,e24];rfl))
   ·have e24:decide ((b::l).length<=24)=true:=by have:=of_decide_eq_true c3;simp only[decide_eq_true_eq];omega
    refine gl (n3 c2 c3 h0') ?_;refine zK (tm b) ?_;refine zR ?_;refine zE ?_;exact zO [.tmp 2] (hq:=by (try simp only[aC,ab]);first | done | (rw[hn,e24];rfl))
 obtain⟨b,hb⟩:∃b,s[k]?=some b:=⟨s[k],List.getElem?_eq_getElem hlt⟩;refine aE (show decide ((k:Int)<(s.length:Int))=true by simp only[decide_eq_true_eq];omega) ?_;refine zY ?_
 (repeat refine ai.seq ?_)
 refine ai.block ?_;refine gl hb ?_;refine zK (H6 b) ?_;cases hm:fZ b
 ·have hn:cO s=false:=by
   cases hc:cO s
   ·rfl
   ·rw[A0 s hc k b hb] at hm;cases hm
  refine zR ?_;refine cE ?_;refine zE ?_;exact zO [.tmp 2] (hq:=by (try simp only[aC,ab]);first | done | (rw[hn]))
 ·refine zR ?_;refine zN ?_
  refine aE (zi hlt hs) ?_;refine zX hlt zH (λi b' hi hb'=>by
   by_cases e:i=k
   ·subst e;rw[hb] at hb';cases hb';exact hm
   ·exact hall i b' (by omega) hb')
end Go.Proofs
