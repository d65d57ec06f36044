/- Lemmas of this claim, each with its conditions. -/
import Derived.Test.YtchdmmkclcnmnaaGreatA18
import Derived.Test.YtchdmmkclcnmnaaGreatA17
import Derived.Test.YtchdmmkclcnmnaaGreatA15
import Derived.Test.YtchdmmkclcnmnaaGreatA13
import Derived.Test.YtchdmmkclcnmnaaGreatA8
set_option linter.all false
open Nat (ble beq blt)
open List (length_nil)
open Int (ofNat)
open Nat renaming reduceEqDiff -> aa, reduceLeDiff -> ac, reduceAdd -> ad, reduceMul -> af, reduceLT -> aj, le_of_ble_eq_true -> ax, reduceSub -> aR, not_lt_zero -> a4, mul_one -> a5, zero_le -> bh, zero_add -> bk
open Option renaming bind_some -> al, map_some -> ap
open And renaming intro -> ay
open List renaming getElem?_map -> aS, getElem?_eq_getElem -> a0, set_eq_take_append_cons_drop -> a3, range -> a6, getElem?_cons_succ -> a7, replicate -> a8, drop_of_length_le -> a9, take_of_length_le -> ba, length_cons -> bb, length_set -> bc, mem_of_getElem? -> bd, getElem?_range -> be, length_map -> bi
namespace Go.Proofs
open Go.Ev
set_option maxRecDepth 100000
def n2{a b:Prop}(x:a)(y:b):a/\b:=⟨x,y⟩
def n3{a b c:Prop}(x:a)(y:b)(z:c):a/\b/\c:=⟨x,y,z⟩
def n4{a b c d:Prop}(x:a)(y:b)(z:c)(w:d):a/\b/\c/\d:=⟨x,y,z,w⟩
def n5{a b c d e:Prop}(x:a)(y:b)(z:c)(w:d)(u:e):a/\b/\c/\d/\e:=⟨x,y,z,w,u⟩
def n6{a b c d e f:Prop}(x:a)(y:b)(z:c)(w:d)(u:e)(v:f):a/\b/\c/\d/\e/\f:=⟨x,y,z,w,u,v⟩
def n7{a b c d e f g:Prop}(a1:a)(b1:b)(c1:c)(d1:d)(e1:e)(f1:f)(g1:g):a/\b/\c/\d/\e/\f/\g:=⟨a1,b1,c1,d1,e1,f1,g1⟩
def n8{a b c d e f g h:Prop}(a1:a)(b1:b)(c1:c)(d1:d)(e1:e)(f1:f)(g1:g)(h1:h):a/\b/\c/\d/\e/\f/\g/\h:=⟨a1,b1,c1,d1,e1,f1,g1,h1⟩
def n9{a b c d e f g h i:Prop}(a1:a)(b1:b)(c1:c)(d1:d)(e1:e)(f1:f)(g1:g)(h1:h)(i1:i):a/\b/\c/\d/\e/\f/\g/\h/\i:=⟨a1,b1,c1,d1,e1,f1,g1,h1,i1⟩
def n10{a b c d e f g h i j:Prop}(a1:a)(b1:b)(c1:c)(d1:d)(e1:e)(f1:f)(g1:g)(h1:h)(i1:i)(j1:j):a/\b/\c/\d/\e/\f/\g/\h/\i/\j:=⟨a1,b1,c1,d1,e1,f1,g1,h1,i1,j1⟩
def SX:a8 1 SO.gone=[.gone]:=rfl
def SY:a8 2 SO.gone=[.gone,.gone]:=rfl
def SZ:a8 3 SO.gone=[.gone,.gone,.gone]:=rfl
def S3:a8 4 SO.gone=[.gone,.gone,.gone,.gone]:=rfl
def qK:type_of% SX/\type_of% SY/\type_of% SZ/\type_of% S3:=⟨SX,SY,SZ,S3⟩
def zV{p q:Prop}(k:p)(h:p->q:=by intro h;(repeat refine ar.seq ?_);refine ar.r0 (by rfl) (by simp only[bP,bg,ak,aw,Option.bind_some,Option.map_some,↓reduceIte,Nat.reduceEqDiff,Nat.reduceAdd,Nat.reduceMul,Nat.reduceLeDiff,Nat.reduceLT,ai,an,aU];first | done | rfl) ?_;(try change ar _ _ _ _ _);exact h):q:=h k
def aC{p q r:Prop}(f:r)(k:p)(h:r->p->q:=by intro f h;(repeat refine ar.seq ?_);refine ar.r0 (by rfl) (by simp only[bP,bg,ak,aw,Option.bind_some,Option.map_some,↓reduceIte,Nat.reduceEqDiff,Nat.reduceAdd,Nat.reduceMul,Nat.reduceLeDiff,Nat.reduceLT,ai,an,aU,f];first | done | rfl) ?_;(try change ar _ _ _ _ _);exact h):q:=h f k
def zC{p q:Prop}(k:p)(h:p->q:=by intro h;(repeat refine ar.seq ?_);refine ar.Pz (by rfl) (by simp only[bP,bg,ak,aw,Option.bind_some,Option.map_some,↓reduceIte,Nat.reduceEqDiff,Nat.reduceAdd,Nat.reduceMul,Nat.reduceLeDiff,Nat.reduceLT,ai,an,aU];first | done | rfl) ?_;exact h):q:=h k
def gG{p q r:Prop}(f:r)(k:p)(h:r->p->q:=by intro f h;(repeat refine ar.seq ?_);refine ar.Pz (by rfl) (by simp only[bP,bg,ak,aw,Option.bind_some,Option.map_some,↓reduceIte,Nat.reduceEqDiff,Nat.reduceAdd,Nat.reduceMul,Nat.reduceLeDiff,Nat.reduceLT,ai,an,aU,f];first | done | rfl) ?_;exact h):q:=h f k
def zR{p q:Prop}(k:p)(h:p->q:=by intro h;refine aI.r0 (by rfl) (by simp only[bP,bg,ak,aw,Option.bind_some,Option.map_some,↓reduceIte,Nat.reduceEqDiff,Nat.reduceAdd,Nat.reduceMul,Nat.reduceLeDiff,Nat.reduceLT,ai,an,aU];first | done | rfl) ?_;(try change ar _ _ _ _ _);exact h):q:=h k
def cM{p q r:Prop}(f:r)(k:p)(h:r->p->q:=by intro f h;refine aI.r0 (by rfl) (by simp only[bP,bg,ak,aw,Option.bind_some,Option.map_some,↓reduceIte,Nat.reduceEqDiff,Nat.reduceAdd,Nat.reduceMul,Nat.reduceLeDiff,Nat.reduceLT,ai,an,aU,f];first | done | rfl) ?_;(try change ar _ _ _ _ _);exact h):q:=h f k
def zQ{p q:Prop}(k:p)(h:p->q:=by intro h;refine aI.run (by rfl) (by simp only[bP,bg,ak,aw,Option.bind_some,Option.map_some,↓reduceIte,Nat.reduceEqDiff,Nat.reduceAdd,Nat.reduceMul,Nat.reduceLeDiff,Nat.reduceLT,ai,an,aU];first | done | rfl) ?_;exact h):q:=h k
def QT{p q r:Prop}(f:r)(k:p)(h:r->p->q:=by intro f h;refine aI.run (by rfl) (by simp only[bP,bg,ak,aw,Option.bind_some,Option.map_some,↓reduceIte,Nat.reduceEqDiff,Nat.reduceAdd,Nat.reduceMul,Nat.reduceLeDiff,Nat.reduceLT,ai,an,aU,f];first | done | rfl) ?_;exact h):q:=h f k
def zY{p q:Prop}(k:p)(h:p->q:=by intro h;(repeat refine ar.seq ?_);refine ar.yes rfl ?_;(try (refine ar.skip ?_;try change ar _ _ _ _ _));exact h):q:=h k
def zN{p q:Prop}(k:p)(h:p->q:=by intro h;(repeat refine ar.seq ?_);refine ar.no rfl ?_;(try (refine ar.skip ?_;try change ar _ _ _ _ _));exact h):q:=h k
def zE{p q:Prop}(k:p)(h:p->q:=by intro h;refine ar.ret ?_;(try simp only[fV,dS,cE,cq]);exact h):q:=h k
def zB{p q:Prop}(k:p)(h:p->q:=by intro h;(repeat refine ar.seq ?_);refine ar.block ?_;exact h):q:=h k
section
variable {P:Program} {ro:Option Nat} {f:Fm} {n:Nat} {S:List SO} {ds:List iV} {Q:Ex->eB->Prop}
def zK{all:List Oper}{o:Oper}{l:List Oper}{K:eB->Prop}{d:Nat}{c:Call}{g:FuncId}{vs ws:List SV}{r:SV}(hq:PC P g ws (·=r))(hk:aI P ro all l ⟨(d,r)::f,n,S,ds⟩ K)
 (hst:eP all n [o]=true:=by rfl) (hop:o.op=.call c:=by rfl) (hdst:o.dst=some d:=by rfl) (hw:db all f o.guard=some true:=by rfl) (hdy:lj (.call c)=true:=by rfl)
 (hc:gV P f c=some (g,vs):=by simp only[bP,bg,ak,aw,Option.bind_some,Option.map_some,↓reduceIte,Nat.reduceEqDiff,Nat.reduceAdd,Nat.reduceMul,Nat.reduceLeDiff,Nat.reduceLT,ai,an,aU,gV];first | done | rfl) (hwk:bp S vs ws:=by first | exact bp.refl rfl | ((repeat' (first | exact bp.nil | apply bp.cons | exact Wk.refl rfl | exact Wk.nil _ | apply Wk.ag | apply Wk.bE | apply Wk.fn | refine Wk.ptr rfl ?_ (by first | decide | (simp only[bg];omega)) | refine Wk.buf rfl ?_ (by first | decide | (simp only[bg];omega)) | refine Wk.map rfl ?_ | exact bp.refl rfl));done)) (hfl:BU r=true\/bp [] vs ws:=by exact .inl rfl):aI P ro all (o::l) ⟨f,n,S,ds⟩ K:=
 aI.k hst hop hdst hw hdy hc hq hwk hfl hk
def zO{fn:Func}{Qr:SV->Prop}{e:Ex}{vs:List SV}{r:SV}(rs:List ResultVar)(he:kJ e=true:=by rfl)(hr:fn.results.toList=rs:=by rfl)(h:mT P f S rs=some vs:=by simp only[bP,bg,ak,aw,Option.bind_some,Option.map_some,↓reduceIte,Nat.reduceEqDiff,Nat.reduceAdd,Nat.reduceMul,Nat.reduceLeDiff,Nat.reduceLT,ai,an,aU];first | done | rfl)(hw:Wk S (dh vs) r:=by exact Wk.refl rfl)(hq:Qr r:=by (try simp only[dh,aW]);first | done | rfl):sf P fn Qr e ⟨f,n,S,[]⟩:=sf.of he hr h hw hq
def zH{f':Fm}{S':List SO}(hf:rL f f':=by (simp only[bP,bg,dr,ak,↓reduceIte,Nat.reduceEqDiff])<;>(repeat' apply And.intro)<;>first | rfl | trivial)(hs:yb S S' 0:=by (simp only[bP,bg,ak,or_true,true_or])<;>(repeat' apply And.intro)<;>first | exact .inr rfl | exact .inl rfl | trivial):Fg ⟨f,n,S,ds⟩ ⟨f',n,S',ds⟩:=Fg.less hf hs
def bL{r:Prop}{f':Fm}{S':List SO}(k:r)(hf:r->rL f f':=by intro k;(simp only[bP,bg,dr,ak,↓reduceIte,Nat.reduceEqDiff,k])<;>(repeat' apply And.intro)<;>first | rfl | trivial)(hs:r->yb S S' 0:=by intro k;(simp only[bP,bg,ak,or_true,true_or,k])<;>(repeat' apply And.intro)<;>first | exact .inr rfl | exact .inl rfl | trivial):Fg ⟨f,n,S,ds⟩ ⟨f',n,S',ds⟩:=Fg.less (hf k) (hs k)
def zG{p:Prop}(h:p:=by (simp only[C4,bP,bg,true_or,or_true,↓reduceIte,Nat.reduceEqDiff])<;>(repeat' apply And.intro)<;>first | exact .inl rfl | trivial | exact .inr (Wk.buf rfl (bp.refl rfl) (by first | decide | (simp only[bg];omega))) | exact .inr (Wk.map rfl (bp.refl rfl)) | exact .inr (Wk.ptr rfl (bp.refl rfl) (by first | decide | (simp only[bg];omega)))):p:=h
def rK{r p:Prop}(k:r)(h:r->p:=by intro k;((simp only[C4,bP,bg,true_or,or_true,↓reduceIte,Nat.reduceEqDiff,k])<;>(repeat' apply And.intro)<;>first | exact .inl rfl | trivial | exact .inr (Wk.buf rfl (bp.refl rfl) (by first | decide | (simp only[bg];omega))) | exact .inr (Wk.map rfl (bp.refl rfl)) | exact .inr (Wk.ptr rfl (bp.refl rfl) (by first | decide | (simp only[bg];omega))))):p:=h k
def zs{p q:Prop}(k:p)(h:p->q:=by intro h;(repeat refine ar.seq ?_);exact h):q:=h k
def zL{α:Type}(l:List α)(I:Nat->Prop)(fr:Nat->Fm)(T:Nat->List SO){id:Nat}{x:Code}(hf:Fg ⟨f,n,S,[]⟩ ⟨fr 0,n,T 0,[]⟩)(h0:I 0)
 (h:∀k,k<=l.length->I k->ar P ro x ⟨fr k,n,T k,[]⟩ (cE (λm st=>∃k,k<=l.length/\m=l.length-k/\I k/\st=⟨fr k,n,T k,[]⟩) (l.length-k) (fV id Q))):ar P ro (.block id (.loop x)) ⟨f,n,S,[]⟩ Q:=
 ar.block (ar.loop (λm st=>∃k,k<=l.length/\m=l.length-k/\I k/\st=⟨fr k,n,T k,[]⟩) l.length hf ⟨0,bh _,rfl,h0,rfl⟩ (by rintro m st ⟨k,_,_,_,rfl⟩;rfl) (by rintro m st ⟨k,hk,rfl,hI,rfl⟩;exact h k hk hI))
def zX{α:Type}{l:List α}{I:Nat->Prop}{fr:Nat->Fm}{T:Nat->List SO}{k:Nat}{st:eB}(hlt:k<l.length)(hf:Fg st ⟨fr (k+1),n,T (k+1),[]⟩)(hI:I (k+1)):
 cE (λm st=>∃k,k<=l.length/\m=l.length-k/\I k/\st=⟨fr k,n,T k,[]⟩) (l.length-k) Q .normal st:=⟨l.length-(k+1),_,by omega,hf,k+1,hlt,rfl,hI,rfl⟩
def zi{k L B:Nat}(h1:k<L)(h2:L<=B)(t:TypeId)(hB:B<=9223372036854775807:=by decide):cS Tryz.prog .add t (.int .i64 (k:Int)) (.int .i64 1)=some (.int .i64 ((k:Int)+1)):=q6 (pw h1 h2 hB)
def zf(n:Nat):decide ((n:Int)<(n:Int))=false:=by simp
def zt{k n:Nat}(h:k<n):decide ((k:Int)<(n:Int))=true:=by simp only[wr];omega
def zx{α:Type}{l:List α}{k:Nat}(h:k<l.length):∃z,l[k]?=some z:=⟨l[k],a0 h⟩
def zS{r:Prop}{all:List Oper}{o:Oper}{l:List Oper}{K:eB->Prop}{d:Nat}{c:Call}{g:FuncId}{vs ws:List SV}{mv:List Nat}{S0 S1 S2:List SO}{r0 r2:SV}{f2:Fm}(os:List Nat)(k:r)(hq:SC P g ws S0 mv (λr S'=>r=r0/\S'=S1))
 (hk:aI P ro all l ⟨(d,r2)::f2,n,S2,ds⟩ K) (hst:eP all n [o]=true:=by rfl) (hop:o.op=.call c:=by rfl) (hdst:o.dst=some d:=by rfl) (hw:db all f o.guard=some true:=by rfl) (hdy:lj (.call c)=true:=by rfl)
 (hc:gV P f c=some (g,vs):=by simp only[bP,bg,ak,aw,Option.bind_some,Option.map_some,↓reduceIte,Nat.reduceEqDiff,Nat.reduceAdd,Nat.reduceMul,Nat.reduceLeDiff,Nat.reduceLT,ai,an,aU,gV];first | done | rfl) (hvs:r->kh (jC os S.length) ws=vs:=by intro k;simp only[ef,bg,ak,↓reduceIte,Nat.reduceEqDiff,Nat.reduceAdd,Nat.reduceSub,Nat.reduceMul,Nat.reduceLeDiff,Nat.reduceLT,k];first | done | rfl) (hK:os.length=S0.length:=by rfl) (hnd:os.Nodup:=by decide)
 (hos:r->sD S (jC os S.length) S0 os:=by intro k;simp only[sD,ef,bg,ak,k]<;>(repeat' apply And.intro)<;>first | trivial | rfl | (intro hh;cases hh))
 (hb1:r->dI S1.length r0=true:=by intro k;simp only[xw,ef,bg,ak,Nat.reduceAdd,Nat.reduceLT,decide_true,k];first | done | rfl) (hb2:r->uU S1.length S1=true:=by intro k;simp only[xw,ef,bg,ak,Nat.reduceAdd,Nat.reduceLT,decide_true,k];first | done | rfl)
 (hr:r->fU (jC os S.length) r0=r2:=by intro k;simp only[ef,bg,ak,↓reduceIte,Nat.reduceEqDiff,Nat.reduceAdd,Nat.reduceSub,Nat.reduceMul,Nat.reduceLeDiff,Nat.reduceLT,k];first | done | rfl) (hf:r->oe (dQ os mv S.length (S1.length-os.length)) f=f2:=by intro k;simp only[ef,bg,ak,↓reduceIte,Nat.reduceEqDiff,Nat.reduceAdd,Nat.reduceSub,Nat.reduceMul,Nat.reduceLeDiff,Nat.reduceLT,k,dJ,dB,bQ,bf,bP];first | done | rfl) (hS:r->fD S os mv S1=S2:=by intro k;simp only[ef,bg,ak,↓reduceIte,Nat.reduceEqDiff,Nat.reduceAdd,Nat.reduceSub,Nat.reduceMul,Nat.reduceLeDiff,Nat.reduceLT,k,dJ,dB,bQ,bf,bP];first | done | rfl):aI P ro all (o::l) ⟨f,n,S,ds⟩ K:=
 aI.sk os hst hop hdst hw hdy hc hq (hvs k) hK hnd (hos k) (hb1 k) (hb2 k) (hr k) (hf k) (hS k) hk
def zP{fn:Func}{K:Nat}{mv:List Nat}{Qs:SV->List SO->Prop}{e:Ex}{vs:List SV}(rs:List ResultVar)(he:kJ e=true:=by rfl)(hr:fn.results.toList=rs:=by rfl)(h:mT P f S rs=some vs:=by simp only[bP,bg,ak,aw,Option.bind_some,Option.map_some,↓reduceIte,Nat.reduceEqDiff,Nat.reduceAdd,Nat.reduceMul,Nat.reduceLeDiff,Nat.reduceLT,ai,an,aU];first | done | rfl)
 (hq:Qs (dh vs) S:=by (try simp only[dh,aW]);first | done | exact⟨rfl,rfl⟩ | exact⟨trivial,trivial⟩ | exact⟨rfl,trivial⟩ | exact⟨trivial,rfl⟩ | trivial) (hK:K<=S.length:=by first | decide | (simp only[bg];omega)) (hw:∀i,i<K->i∉mv->aX f (1000000+i)=.ptr i 0:=by intro i hi;have hi2:i<_:=hi;clear hi;simp only[List.length_cons,List.length_nil,Nat.zero_add,Nat.reduceAdd,Nat.not_lt_zero] at hi2<;>(rcases i with _ | i<;>first | (exfalso;omega) | (intro hm_;first | rfl | (exfalso;apply hm_;simp;done)) | (rcases i with _ | i<;>first | (exfalso;omega) | (intro hm_;first | rfl | (exfalso;apply hm_;simp;done)) | (rcases i with _ | i<;>first | (exfalso;omega) | (intro hm_;first | rfl | (exfalso;apply hm_;simp;done)))))):MV P fn K mv Qs e ⟨f,n,S,[]⟩:=MV.of he hr h hq hK hw
def zD{p q:Prop}(k:p)(h:p->q:=by intro h;(repeat (first | refine SD.r (by rfl) rfl (by rfl) (by rfl) (by simp only[bP,bg,ak,aw,Option.bind_some,Option.map_some,↓reduceIte,Nat.reduceEqDiff,Nat.reduceAdd,Nat.reduceMul,Nat.reduceLeDiff,Nat.reduceLT,ai,an,aU];first | done | rfl) ?_ | refine SD.s (by rfl) rfl (by rfl) (by rfl) ?_ | fail));exact h):q:=h k
def ni{p q r:Prop}(f:r)(k:p)(h:r->p->q:=by intro f h;(repeat (first | refine SD.r (by rfl) rfl (by rfl) (by rfl) (by simp only[bP,bg,ak,aw,Option.bind_some,Option.map_some,↓reduceIte,Nat.reduceEqDiff,Nat.reduceAdd,Nat.reduceMul,Nat.reduceLeDiff,Nat.reduceLT,ai,an,aU,f];first | done | rfl) ?_ | refine SD.s (by rfl) rfl (by rfl) (by rfl) ?_ | fail));exact h):q:=h f k
def zM{p q:Prop}(k:p)(h:p->q:=by intro h;refine SD.nil ?_;(try change ar _ _ _ _ _);exact h):q:=h k
def zp{p:Prop}(h:p:=by first | exact λi y h=>t8 h (Nat.not_lt_zero _) | trivial | rfl | assumption):p:=h
def oz{id:Nat}{ops:Array Oper}{st:eB}{ol:List Oper}(ms:List Nat)(h:SD P ro ol ms st.n true [] (e7 0 ol) st.f st.S λf' S'=>Q .normal ⟨f',st.n,S',st.ds⟩)(hol:ops.toList=ol:=by rfl)(hms:qC ol []=ms:=by kernel_rfl)(hok:((nW 0 ol&&P.follows .mixedOrders)&&GA ol ms (e7 0 ol))=true:=by kernel_rfl):ar P ro (.region id ops true) st Q:=ar.NB hol hms hok h
def zl{p:Prop}(h:p:=by simp only[bP,bg,ak,aw,Option.bind_some,Option.map_some,↓reduceIte,Nat.reduceEqDiff,Nat.reduceAdd,Nat.reduceMul,Nat.reduceLeDiff,Nat.reduceLT,ai,an,aU];first | done | rfl):p:=h
def gQ{p r:Prop}(k:r)(h:r->p:=by intro k;simp only[bP,bg,ak,aw,Option.bind_some,Option.map_some,↓reduceIte,Nat.reduceEqDiff,Nat.reduceAdd,Nat.reduceMul,Nat.reduceLeDiff,Nat.reduceLT,ai,an,aU,k];first | done | rfl):p:=h k
def zc{p:Prop}(h:p:=by simp only[bP,bg,ak,aw,Option.bind_some,Option.map_some,↓reduceIte,Nat.reduceEqDiff,Nat.reduceAdd,Nat.reduceMul,Nat.reduceLeDiff,Nat.reduceLT,ai,an,aU,gV];first | done | rfl):p:=h
def J3{p r:Prop}(k:r)(h:r->p:=by intro k;simp only[bP,bg,ak,aw,Option.bind_some,Option.map_some,↓reduceIte,Nat.reduceEqDiff,Nat.reduceAdd,Nat.reduceMul,Nat.reduceLeDiff,Nat.reduceLT,ai,an,aU,gV,k];first | done | rfl):p:=h k
def zw{p:Prop}(h:p:=by first | exact bp.refl rfl | ((repeat' (first | exact bp.nil | apply bp.cons | exact Wk.refl rfl | exact Wk.nil _ | apply Wk.ag | apply Wk.bE | apply Wk.fn | refine Wk.ptr rfl ?_ (by first | decide | (simp only[bg];omega)) | refine Wk.buf rfl ?_ (by first | decide | (simp only[bg];omega)) | refine Wk.map rfl ?_ | exact bp.refl rfl));done)):p:=h
def zv{p:Prop}(h:p:=by (try simp only[dh,aW]);(repeat' (first | exact Wk.refl rfl | exact bp.nil | apply bp.cons | exact Wk.nil _ | apply Wk.ag | apply Wk.bE | refine Wk.ptr rfl ?_ (by first | decide | (simp only[bg];omega)) | refine Wk.buf rfl ?_ (by first | decide | (simp only[bg];omega)) | refine Wk.map rfl ?_ | exact bp.refl rfl))):p:=h
def Tn{p:Prop}(h:p:=by (simp only[bP,bg,dr,ak,↓reduceIte,Nat.reduceEqDiff])<;>(repeat' apply And.intro)<;>first | rfl | trivial):p:=h
def R7{p r:Prop}(k:r)(h:r->p:=by intro k;(simp only[bP,bg,dr,ak,↓reduceIte,Nat.reduceEqDiff,k])<;>(repeat' apply And.intro)<;>first | rfl | trivial):p:=h k
def Ut{p:Prop}(h:p:=by (simp only[bP,bg,ak,or_true,true_or])<;>(repeat' apply And.intro)<;>first | exact .inr rfl | exact .inl rfl | trivial):p:=h
def R8{p r:Prop}(k:r)(h:r->p:=by intro k;(simp only[bP,bg,ak,or_true,true_or,k])<;>(repeat' apply And.intro)<;>first | exact .inr rfl | exact .inl rfl | trivial):p:=h k
def zq{p:Prop}(h:p:=by (try simp only[dh,aW]);first | done | rfl):p:=h
def UW{p:Prop}(h:p:=by (try simp only[dh,aW]);first | done | exact⟨rfl,rfl⟩ | exact⟨trivial,rfl⟩ | exact⟨rfl,trivial⟩ | exact⟨trivial,trivial⟩):p:=h
def zg{p:Prop}(h:p:=by intro i hi;have hi2:i<_:=hi;clear hi;simp only[List.length_cons,List.length_nil,Nat.zero_add,Nat.reduceAdd,Nat.not_lt_zero] at hi2<;>(rcases i with _ | i<;>first | (exfalso;omega) | (intro hm_;first | rfl | (exfalso;apply hm_;simp;done)) | (rcases i with _ | i<;>first | (exfalso;omega) | (intro hm_;first | rfl | (exfalso;apply hm_;simp;done)) | (rcases i with _ | i<;>first | (exfalso;omega) | (intro hm_;first | rfl | (exfalso;apply hm_;simp;done)))))):p:=h
def Va{p:Prop}(h:p:=by simp only[ef,bg,ak,↓reduceIte,Nat.reduceEqDiff,Nat.reduceAdd,Nat.reduceSub,Nat.reduceMul,Nat.reduceLeDiff,Nat.reduceLT];first | done | rfl):p:=h
def UT{p r:Prop}(k:r)(h:r->p:=by intro k;simp only[ef,bg,ak,↓reduceIte,Nat.reduceEqDiff,Nat.reduceAdd,Nat.reduceSub,Nat.reduceMul,Nat.reduceLeDiff,Nat.reduceLT,k];first | done | rfl):p:=h k
def Vb{p:Prop}(h:p:=by simp only[ef,bg,ak,↓reduceIte,Nat.reduceEqDiff,Nat.reduceAdd,Nat.reduceSub,Nat.reduceMul,Nat.reduceLeDiff,Nat.reduceLT,dJ,dB,bQ,bf,bP];first | done | rfl):p:=h
def UU{p r:Prop}(k:r)(h:r->p:=by intro k;simp only[ef,bg,ak,↓reduceIte,Nat.reduceEqDiff,Nat.reduceAdd,Nat.reduceSub,Nat.reduceMul,Nat.reduceLeDiff,Nat.reduceLT,k,dJ,dB,bQ,bf,bP];first | done | rfl):p:=h k
def U9{p:Prop}(h:p:=by simp only[sD,ef,bg,ak]<;>(repeat' apply And.intro)<;>first | trivial | rfl | (intro hh;cases hh)):p:=h
def US{p r:Prop}(k:r)(h:r->p:=by intro k;simp only[sD,ef,bg,ak,k]<;>(repeat' apply And.intro)<;>first | trivial | rfl | (intro hh;cases hh)):p:=h k
def U8{p:Prop}(h:p:=by simp only[xw,ef,bg,ak,Nat.reduceAdd,Nat.reduceLT,decide_true];first | done | rfl):p:=h
def UR{p r:Prop}(k:r)(h:r->p:=by intro k;simp only[xw,ef,bg,ak,Nat.reduceAdd,Nat.reduceLT,decide_true,k];first | done | rfl):p:=h k
def zd{p:Prop}(h:p:=by first | decide | (simp only[bg];omega)):p:=h
def qE(k:Nat):(k:Int)+1=((k+1:Nat):Int):=rfl
def bA(a b:Int)(h : -9223372036854775808<=a+b/\a+b<=9223372036854775807)(P:Program)(t:TypeId):cS P .add t (.int .i64 a) (.int .i64 b)=some (.int .i64 (a+b)):=q6 h
def bS(a b:Int)(h : -9223372036854775808<=a-b/\a-b<=9223372036854775807)(P:Program)(t:TypeId):cS P .sub t (.int .i64 a) (.int .i64 b)=some (.int .i64 (a-b)):=xP h
def bM(a b:Int)(h : -9223372036854775808<=a*b/\a*b<=9223372036854775807)(P:Program)(t:TypeId):cS P .mul t (.int .i64 a) (.int .i64 b)=some (.int .i64 (a*b)):=xO h
def UX{p:Prop}(h:p:=by (simp only[qw,ef,bg,ak])<;>(repeat' apply And.intro)<;>first | trivial | exact .inl rfl | exact .inr rfl | exact .inr trivial | exact .inl trivial):p:=h
def HY{p r:Prop}(k:r)(h:r->p:=by intro k;(simp only[qw,ef,bg,ak,k])<;>(repeat' apply And.intro)<;>first | trivial | exact .inl rfl | exact .inr rfl | exact .inr trivial | exact .inl trivial):p:=h k
def UY{p:Prop}(h:p:=by (simp only[bP,ef,bg,ak])<;>(repeat' apply And.intro)<;>first | rfl | trivial):p:=h
def HZ{p r:Prop}(k:r)(h:r->p:=by intro k;(simp only[bP,ef,bg,ak,k])<;>(repeat' apply And.intro)<;>first | rfl | trivial):p:=h k
def pB(n:Nat){g:FuncId}{fn:Func}{c:Code}{args:List SV}{Q:SV->Prop}(hf:Tryz.prog.funcs[g]?=some fn)(hw:ar Tryz.prog none c ⟨kj 0 args,n,[],[]⟩ (sf Tryz.prog fn Q))(hb:fn.body=some c:=by rfl)(hn:args.length+(fn.ntmps-args.length)=n:=by rfl)(hlim:n<=1000000:=by exact Nat.le_of_ble_eq_true rfl):PC Tryz.prog g args Q:=PC.body dG hf hb hn hw hlim
section
variable (n:Nat) {g:FuncId} {fn:Func} {c:Code} {args:List SV} {S0:List SO} {mv:List Nat} {Q:SV->List SO->Prop}
def K6(hf:Tryz.prog.funcs[g]?=some fn)(hw:ar Tryz.prog none c ⟨kj 0 args++[],n,S0,[]⟩ (MV Tryz.prog fn S0.length mv Q))(hb:fn.body=some c:=by rfl)(hn:args.length+(fn.ntmps-args.length)=n:=by rfl)(hlim:n<=1000000:=by exact Nat.le_of_ble_eq_true rfl)(hW:[]=ov S0.length:=by rfl)(hK:S0.length<=1000000:=by exact Nat.le_of_ble_eq_true rfl):SC Tryz.prog g args S0 mv Q:=SC.body dG hf hb hn hlim hW hw hK
def GU(hf:Tryz.prog.funcs[g]?=some fn)(hw:ar Tryz.prog none c ⟨kj 0 args++[(1000000,.ptr 0 0)],n,S0,[]⟩ (MV Tryz.prog fn S0.length mv Q))(hb:fn.body=some c:=by rfl)(hn:args.length+(fn.ntmps-args.length)=n:=by rfl)(hlim:n<=1000000:=by exact Nat.le_of_ble_eq_true rfl)(hW:[(1000000,.ptr 0 0)]=ov S0.length:=by rfl)(hK:S0.length<=1000000:=by exact Nat.le_of_ble_eq_true rfl):SC Tryz.prog g args S0 mv Q:=SC.body dG hf hb hn hlim hW hw hK
def Sm(hf:Tryz.prog.funcs[g]?=some fn)(hw:ar Tryz.prog none c ⟨kj 0 args++[(1000000,.ptr 0 0),(1000001,.ptr 1 0)],n,S0,[]⟩ (MV Tryz.prog fn S0.length mv Q))(hb:fn.body=some c:=by rfl)(hn:args.length+(fn.ntmps-args.length)=n:=by rfl)(hlim:n<=1000000:=by exact Nat.le_of_ble_eq_true rfl)(hW:[(1000000,.ptr 0 0),(1000001,.ptr 1 0)]=ov S0.length:=by rfl)(hK:S0.length<=1000000:=by exact Nat.le_of_ble_eq_true rfl):SC Tryz.prog g args S0 mv Q:=SC.body dG hf hb hn hlim hW hw hK
def S4(hf:Tryz.prog.funcs[g]?=some fn)(hw:ar Tryz.prog none c ⟨kj 0 args++[(1000000,.ptr 0 0),(1000001,.ptr 1 0),(1000002,.ptr 2 0)],n,S0,[]⟩ (MV Tryz.prog fn S0.length mv Q))(hb:fn.body=some c:=by rfl)(hn:args.length+(fn.ntmps-args.length)=n:=by rfl)(hlim:n<=1000000:=by exact Nat.le_of_ble_eq_true rfl)(hW:[(1000000,.ptr 0 0),(1000001,.ptr 1 0),(1000002,.ptr 2 0)]=ov S0.length:=by rfl)(hK:S0.length<=1000000:=by exact Nat.le_of_ble_eq_true rfl):SC Tryz.prog g args S0 mv Q:=SC.body dG hf hb hn hlim hW hw hK
end
def cL{p q:Prop}(k:p)(h:p->q:=by intro h;(repeat refine ar.seq ?_);refine ar.yes rfl ?_;(try (refine ar.skip ?_;try change ar _ _ _ _ _));(repeat refine ar.seq ?_);refine ar.r0 (by rfl) (by simp only[bP,bg,ak,aw,Option.bind_some,Option.map_some,↓reduceIte,Nat.reduceEqDiff,Nat.reduceAdd,Nat.reduceMul,Nat.reduceLeDiff,Nat.reduceLT,ai,an,aU];first | done | rfl) ?_;(try change ar _ _ _ _ _);exact h):q:=h k
def kD{p q:Prop}(k:p)(h:p->q:=by intro h;(repeat refine ar.seq ?_);refine ar.r0 (by rfl) (by simp only[bP,bg,ak,aw,Option.bind_some,Option.map_some,↓reduceIte,Nat.reduceEqDiff,Nat.reduceAdd,Nat.reduceMul,Nat.reduceLeDiff,Nat.reduceLT,ai,an,aU];first | done | rfl) ?_;(try change ar _ _ _ _ _);(repeat refine ar.seq ?_);refine ar.Pz (by rfl) (by simp only[bP,bg,ak,aw,Option.bind_some,Option.map_some,↓reduceIte,Nat.reduceEqDiff,Nat.reduceAdd,Nat.reduceMul,Nat.reduceLeDiff,Nat.reduceLT,ai,an,aU];first | done | rfl) ?_;exact h):q:=h k
def iK{p q:Prop}(k:p)(h:p->q:=by intro h;(repeat refine ar.seq ?_);refine ar.no rfl ?_;(try (refine ar.skip ?_;try change ar _ _ _ _ _));(repeat refine ar.seq ?_);refine ar.r0 (by rfl) (by simp only[bP,bg,ak,aw,Option.bind_some,Option.map_some,↓reduceIte,Nat.reduceEqDiff,Nat.reduceAdd,Nat.reduceMul,Nat.reduceLeDiff,Nat.reduceLT,ai,an,aU];first | done | rfl) ?_;(try change ar _ _ _ _ _);exact h):q:=h k
def lC{p q:Prop}(k:p)(h:p->q:=by intro h;(repeat refine ar.seq ?_);refine ar.r0 (by rfl) (by simp only[bP,bg,ak,aw,Option.bind_some,Option.map_some,↓reduceIte,Nat.reduceEqDiff,Nat.reduceAdd,Nat.reduceMul,Nat.reduceLeDiff,Nat.reduceLT,ai,an,aU];first | done | rfl) ?_;(try change ar _ _ _ _ _);(repeat refine ar.seq ?_);refine ar.r0 (by rfl) (by simp only[bP,bg,ak,aw,Option.bind_some,Option.map_some,↓reduceIte,Nat.reduceEqDiff,Nat.reduceAdd,Nat.reduceMul,Nat.reduceLeDiff,Nat.reduceLT,ai,an,aU];first | done | rfl) ?_;(try change ar _ _ _ _ _);exact h):q:=h k
def QS{p q:Prop}(k:p)(h:p->q:=by intro h;(repeat refine ar.seq ?_);refine ar.no rfl ?_;(try (refine ar.skip ?_;try change ar _ _ _ _ _));(repeat refine ar.seq ?_);refine ar.Pz (by rfl) (by simp only[bP,bg,ak,aw,Option.bind_some,Option.map_some,↓reduceIte,Nat.reduceEqDiff,Nat.reduceAdd,Nat.reduceMul,Nat.reduceLeDiff,Nat.reduceLT,ai,an,aU];first | done | rfl) ?_;exact h):q:=h k
def H2{p q:Prop}(k:p)(h:p->q:=by intro h;(repeat refine ar.seq ?_);refine ar.r0 (by rfl) (by simp only[bP,bg,ak,aw,Option.bind_some,Option.map_some,↓reduceIte,Nat.reduceEqDiff,Nat.reduceAdd,Nat.reduceMul,Nat.reduceLeDiff,Nat.reduceLT,ai,an,aU];first | done | rfl) ?_;(try change ar _ _ _ _ _);(repeat refine ar.seq ?_);refine ar.no rfl ?_;(try (refine ar.skip ?_;try change ar _ _ _ _ _));exact h):q:=h k
def xd{p q:Prop}(k:p)(h:p->q:=by intro h;(repeat refine ar.seq ?_);refine ar.r0 (by rfl) (by simp only[bP,bg,ak,aw,Option.bind_some,Option.map_some,↓reduceIte,Nat.reduceEqDiff,Nat.reduceAdd,Nat.reduceMul,Nat.reduceLeDiff,Nat.reduceLT,ai,an,aU];first | done | rfl) ?_;(try change ar _ _ _ _ _);(repeat refine ar.seq ?_);refine ar.yes rfl ?_;(try (refine ar.skip ?_;try change ar _ _ _ _ _));exact h):q:=h k
def p9{a b:Int}(h : -9223372036854775808<=a+b/\a+b<=9223372036854775807)(P:Program)(t:TypeId):cS P .add t (.int .i64 a) (.int .i64 b)=some (.int .i64 (a+b)):=q6 h
def Lo{a b:Int}(h : -9223372036854775808<=a-b/\a-b<=9223372036854775807)(P:Program)(t:TypeId):cS P .sub t (.int .i64 a) (.int .i64 b)=some (.int .i64 (a-b)):=xP h
def Ux{a b:Int}(h : -9223372036854775808<=a*b/\a*b<=9223372036854775807)(P:Program)(t:TypeId):cS P .mul t (.int .i64 a) (.int .i64 b)=some (.int .i64 (a*b)):=xO h
def dP{L:Nat->Prop}{i:Nat}(h:L i)(v:SV):vo L i v=v:=dq h
def U6{L:Nat->Prop}{i:Nat}(h:¬L i)(v:SV):vo L i v=.any:=qX h
def Us{L:Nat->Prop}{i:Nat}(h:L i)(v:SO):wo L i v=v:=lO h
def U7{L:Nat->Prop}{i:Nat}(h:¬L i)(v:SO):wo L i v=.gone:=gp h
def Sx{n k:Nat}(h:k<=n)(c:Option Nat)(q:IntKind):cQ n c none (some (.int q (k:Int))) none=some (0,k,c):=by
 unfold cQ nC oH;simp only[jY,al,eN h,Bool.true_or,ai]
def Fh{n k:Nat}(h:k<=n)(c:Option Nat)(q:IntKind):cQ n c (some (.int q (k:Int))) none none=some (k,n,c):=by
 unfold cQ nC;simp only[jY,al,eN h,ai]
end
def eQ{p q:Prop}(k:p)(h:p->q:=by intro h;(repeat refine ar.seq ?_);refine ar.yes rfl ?_;(try (refine ar.skip ?_;try change ar _ _ _ _ _));(repeat refine ar.seq ?_);refine ar.block ?_;exact h):q:=h k
def dZ{p q:Prop}(k:p)(h:p->q:=by intro h;(repeat refine ar.seq ?_);refine ar.no rfl ?_;(try (refine ar.skip ?_;try change ar _ _ _ _ _));refine ar.exit ?_;exact h):q:=h k
def UQ{α:Type}{l:List α}{k:Nat}{p0 p1:Prop}(h0:k=l.length->p0)(h1:∀x,l[k]?=some x->k<l.length->p1)(hk:k<=l.length):(decide ((k:Int)<(l.length:Int))=false/\p0)\/(decide ((k:Int)<(l.length:Int))=true/\p1):=by
 by_cases hlt:k<l.length
 ·exact .inr ⟨zt hlt,h1 _ (a0 hlt) hlt⟩
 ·exact .inl ⟨ut (by omega),h0 (by omega)⟩
def zT{α:Type}{p0 p1 q:Prop}(l:List α)(k:Nat)(h0:k=l.length->p0)(h1:∀x,l[k]?=some x->k<l.length->p1)(h:(k=l.length->p0)->(∀x,l[k]?=some x->k<l.length->p1)->q:=by intro h0 h1;(repeat refine ar.seq ?_);refine ar.r0 (by rfl) (by simp only[bP,bg,ak,aw,Option.bind_some,Option.map_some,↓reduceIte,Nat.reduceEqDiff,Nat.reduceAdd,Nat.reduceMul,Nat.reduceLeDiff,Nat.reduceLT,ai,an,aU];first | done | rfl) ?_;(try change ar _ _ _ _ _);rcases UQ h0 h1 (by assumption) with⟨e,h⟩ | ⟨e,h⟩;(rw[e];exact h);(rw[e];exact h)):q:=h h0 h1
section
variable {P:Program} {ro:Option Nat} {f:Fm} {n:Nat} {S:List SO} {ds:List iV} {Q:Ex->eB->Prop}
def zo{fn:Func}{Qr:SV->Prop}{v r:SV}(rs:List ResultVar)(hg:sf P fn Qr .ret ⟨f,n,S,[]⟩->Q .ret ⟨f,n,S,[]⟩:=by intro h;(try simp only[fV,dS,cE,cq]);exact h)(hr:fn.results.toList=rs:=by rfl)(h:mT P f S rs=some [v]:=by simp only[bP,bg,ak,aw,Option.bind_some,Option.map_some,↓reduceIte,Nat.reduceEqDiff,Nat.reduceAdd,Nat.reduceMul,Nat.reduceLeDiff,Nat.reduceLT,ai,an,aU];first | done | rfl)(hw:Wk S v r:=by exact Wk.refl rfl)(hq:Qr r:=by rfl):ar P ro .ret ⟨f,n,S,[]⟩ Q:=ar.ret (hg (sf.of rfl hr h hw hq))
def iA{fn:Func}{Qr:SV->Prop}{v w r:SV}(rs:List ResultVar)(hg:sf P fn Qr .ret ⟨f,n,S,[]⟩->Q .ret ⟨f,n,S,[]⟩:=by intro h;(try simp only[fV,dS,cE,cq]);exact h)(hr:fn.results.toList=rs:=by rfl)(h:mT P f S rs=some [v,w]:=by simp only[bP,bg,ak,aw,Option.bind_some,Option.map_some,↓reduceIte,Nat.reduceEqDiff,Nat.reduceAdd,Nat.reduceMul,Nat.reduceLeDiff,Nat.reduceLT,ai,an,aU];first | done | rfl)(hw:Wk S (.bE [v,w]) r:=by exact Wk.refl rfl)(hq:Qr r:=by rfl):ar P ro .ret ⟨f,n,S,[]⟩ Q:=ar.ret (hg (sf.of rfl hr h hw hq))
def MX{α β:Type}(l:List α)(I:Nat->β->Prop)(fr:Nat->β->Fm)(T:Nat->β->List SO)(b0:β){id:Nat}{x:Code}(hf:Fg ⟨f,n,S,[]⟩ ⟨fr 0 b0,n,T 0 b0,[]⟩)(h0:I 0 b0)
 (h:∀k b,k<=l.length->I k b->ar P ro x ⟨fr k b,n,T k b,[]⟩ (cE (λm st=>∃k b,k<=l.length/\m=l.length-k/\I k b/\st=⟨fr k b,n,T k b,[]⟩) (l.length-k) (fV id Q))):ar P ro (.block id (.loop x)) ⟨f,n,S,[]⟩ Q:=
 ar.block (ar.loop (λm st=>∃k b,k<=l.length/\m=l.length-k/\I k b/\st=⟨fr k b,n,T k b,[]⟩) l.length hf ⟨0,b0,bh _,rfl,h0,rfl⟩ (by rintro m st ⟨k,b,_,_,_,rfl⟩;rfl) (by rintro m st ⟨k,b,hk,rfl,hI,rfl⟩;exact h k b hk hI))
def H3{α β:Type}{l:List α}{I:Nat->β->Prop}{fr:Nat->β->Fm}{T:Nat->β->List SO}{k:Nat}{st:eB}(hlt:k<l.length)(b:β)(hf:Fg st ⟨fr (k+1) b,n,T (k+1) b,[]⟩)(hI:I (k+1) b):
 cE (λm st=>∃k b,k<=l.length/\m=l.length-k/\I k b/\st=⟨fr k b,n,T k b,[]⟩) (l.length-k) Q .normal st:=⟨l.length-(k+1),_,by omega,hf,k+1,b,hlt,rfl,hI,rfl⟩
end
def rN(b:Nat):Nat:=
 bif df b then 3 else bif ble 48 b&&ble b 57 then 4 else bif beq b 35 then 2 else bif beq b 95 then 5 else bif beq b 34 then 7 else
 bif [32,9,10].any (beq b) then 1 else bif [59,44,46,58,40,41,123,125,91,93,61,60,62,47,43,45,42].any (beq b) then 6 else 0
def Ii:List AV:=(a6 256).map λb=>AV.int .u8 (ofNat (rN b))
def Nu:Ii.length=256:=by simp[Ii]
def Nt(b:Nat)(h:b<256):Ii[b]?=some (.int .u8 (rN b:Int)):=by
 unfold Ii;rw[aS,be h];rfl
def Cj(s:List Nat)(h:cD s=true):∀(i b:Nat),s[i]?=some b->gI b=true:=by
 intro i b hi
 cases s with
 | nil=>simp at hi
 | cons a l=>
  simp only[cD,Bool.and_eq_true] at h
  cases i with
  | zero=>simp at hi;subst hi;unfold gI;rw[h.1];rfl
  | succ i=>
   rw[a7] at hi;exact List.all_eq_true.1 h.2.1 b (bd hi)
def Ge(s:List Nat)(h:∀(i b:Nat),s[i]?=some b->gI b=true)(b:Nat)(h0:s[0]?=some b):cD s=(decide (s.length<=24)&&df b):=by
 cases s with
 | nil=>simp at h0
 | cons a l=>
  simp at h0;subst h0
  have:l.all gI=true:=by
   rw[List.all_eq_true];intro x hx;obtain⟨i,hi⟩:=List.mem_iff_getElem?.1 hx;exact h (i+1) x (by rw[a7];exact hi)
  simp only[cD,this,Bool.true_and,bb]
  have e:ble l.length 23=decide (l.length+1<=24):=by
   by_cases hl:l.length<=23
   ·rw[eN hl];simp;omega
   ·have:ble l.length 23=false:=by
     cases hb:ble l.length 23
     ·rfl
     ·exact t8 (jq hb) hl
    rw[this];simp;omega
  rw[e,Bool.and_comm]
def xp(n:Int):Bool:=decide (0<=n)&&decide (n<=1000000000000)
def Nv:∀b,b<256->(decide (rN b=3)=df b)/\((decide (rN b=3)||(decide (rN b=4)||decide (rN b=5)))=gI b):=by decide +kernel
def Qj(s:List Nat)(b:Nat)(h0:s[0]?=some b)(h:df b=false):cD s=false:=by
 cases s with
 | nil=>rfl
 | cons a l=>simp at h0;subst h0;simp only[cD,h,Bool.false_and]
def oY{α:Type}{l:List α}{k:Nat}{x:α}(h:l[k]?=some x):l.take (k+1)=l.take k++[x]:=by
 rw[List.take_add_one,h];rfl
structure Sh where
 pt:List Nat
 am:Int
 deriving DecidableEq
abbrev Lt(b:Nat):SV:=.a (.int .u8 (b:Int))
def uD(b:Nat):PC Tryz.prog 60 [Lt b] (·=az (df b)):=by
 have e1:decide ((97:Int)<=(b:Int))=ble 97 b:=jm 97 b;have e2:decide ((b:Int)<=122)=ble b 122:=jm b 122;have e3:decide ((65:Int)<=(b:Int))=ble 65 b:=jm 65 b;have e4:decide ((b:Int)<=90)=ble b 90:=jm b 90;refine pB 17 Tryz.func60 ?_;unfold df;refine zV ?_;cases h1:ble 97 b<;>cases h2:ble b 122<;>cases h3:ble 65 b<;>cases h4:ble b 90
 all_goals
  rw[h1] at e1;rw[h2] at e2;rw[h3] at e3;rw[h4] at e4;refine aC (n4 e1 e2 e3 e4) ?_;exact zo [.tmp 2]
def G7(b:Nat):PC Tryz.prog 115 [Lt b] (·=az (ble 48 b&&ble b 57)):=by
 have e1:decide ((48:Int)<=(b:Int))=ble 48 b:=jm 48 b;have e2:decide ((b:Int)<=57)=ble b 57:=jm b 57;refine pB 9 Tryz.func115 ?_;refine zV ?_;cases h1:ble 48 b<;>cases h2:ble b 57
 all_goals
  rw[h1] at e1;rw[h2] at e2;refine aC (n2 e1 e2) ?_;exact zo [.tmp 2]
def JW(b:Nat):PC Tryz.prog 59 [Lt b] (·=az (gI b)):=by
 have e1:decide ((b:Int)=95)=beq b 95:=PX b 95;refine pB 13 Tryz.func59 ?_;unfold gI;refine kD ?_;refine zK (uD b) ?_;cases h1:df b;rotate_left
 ·refine zR ?_;exact zo [.tmp 2]
 refine zQ ?_;refine zK (G7 b) ?_;cases h2:(ble 48 b&&ble b 57);rotate_left
 ·refine zR ?_;exact zo [.tmp 2]
 refine cM e1 ?_;exact zo [.tmp 2]
def gm(s:List Nat)(hs:s.length<=1000000):PC Tryz.prog 25 [ae s] (·=az (cD s)):=by
 refine pB 28 Tryz.func25 ?_;refine lC ?_;refine zs ?_;refine zL s (λk=>(∀(i b:Nat),i<k->s[i]?=some b->gI b=true)) (λk=>[(0,ae s),(3,ab k)]) (λk=>[]) zH (by intro i b h;omega) ?_;intro k hk hall;by_cases hlt:k<s.length;rotate_left
 ·obtain rfl:k=s.length:=by omega
  refine aC (show decide ((s.length:Int)<(s.length:Int))=false by simp) ?_;refine dZ ?_
  cases hs0:s with
  | nil=>
   refine aC @length_nil.{0} ?_;exact zo [.tmp 2]
  | cons b l=>
   have h0:s[0]?=some b:=by rw[hs0];rfl
   have hn:=Ge s (λi b' hb'=>hall i b' (List.getElem?_eq_some_iff.1 hb').1 hb') b h0;rw[hs0] at hn
   have c2:decide ((0:Int)<((b::l).length:Int))=true:=by simp
   have h0':(b::l)[0]?=some b:=rfl;cases c3:decide (((b::l).length:Int)<=24)
   ·have e24:decide ((b::l).length<=24)=false:=by have:=wt c3;simp only[wp];omega
    refine aC (n2 c2 c3) ?_;exact zo [.tmp 2] (hq:=by rw[hn,e24];rfl)
   ·have e24:decide ((b::l).length<=24)=true:=by have:=ww c3;simp only[wr];omega
    refine gG (n3 c2 c3 h0') ?_;refine zK (uD b) ?_;refine zR ?_;exact zo [.tmp 2] (hq:=by rw[hn,e24];rfl)
 obtain⟨b,hb⟩:∃b,s[k]?=some b:=⟨s[k],a0 hlt⟩;refine aC (show decide ((k:Int)<(s.length:Int))=true by simp only[wr];omega) ?_;refine eQ ?_;refine gG hb ?_;refine zK (JW b) ?_;cases hm:gI b
 ·have hn:cD s=false:=by
   cases hc:cD s
   ·rfl
   ·rw[Cj s hc k b hb] at hm;cases hm
  refine zR ?_;refine cL ?_;exact zo [.tmp 2] (hq:=by rw[hn])
 ·refine zR ?_;refine zN ?_
  refine aC (zi hlt hs) ?_;refine zX hlt zH (λi b' hi hb'=>by
   by_cases e:i=k
   ·subst e;rw[hb] at hb';cases hb';exact hm
   ·exact hall i b' (by omega) hb')
set_option maxHeartbeats 4000000 in
def MJ(s:List Nat)(b:Nat)(hb:b<256):PC Tryz.prog 217 [ae s,Lt b] (·=ab (gf b s 0)):=
 PC.of (xs:=[.str s,.int .u8 (b:Int)]) (λh=>dC.SM HO (by
  show cond (blt b 256) (some (AV.int .i64 (gf b s 0),h)) none=_
  rw[show blt b 256=true from Lq hb];rfl)) λρ avs ha=>by
  rw[ep] at ha;obtain⟨a,r,rfl,h1,ha⟩:=ha;rw[ep] at ha;obtain⟨a2,r,rfl,h2,ha⟩:=ha;rw[GS] at h1 h2;rw[gH] at ha;rw[h1,h2,ha]
def MI(s:List Nat)(b:Nat)(hb:b<256):PC Tryz.prog 171 [ae s,Lt b] (·=ab (gf b s 0)):=by
 refine pB 8 Tryz.func171 ?_;refine kD ?_;refine zK (MJ s b hb) ?_;refine zR ?_;exact zo [.tmp 4]
def CI(s:List Nat)(b:Nat)(hb:b<256):PC Tryz.prog 116 [ae s,Lt b] (·=ab (gf b s 0)):=by
 refine pB 8 Tryz.func116 ?_;refine kD ?_;refine zK (MI s b hb) ?_;refine zR ?_;exact zo [.tmp 4]
def yu(b:Nat):Nat:=bif df b then 3 else bif ble 48 b&&ble b 57 then 4 else bif decide (0<=gf b [32,9,10] 0) then 1 else bif decide (0<=gf b [59,44,46,58,40,41,123,125,91,93,61,60,62,47,43,45,42] 0) then 6 else 0
def lz(k:Nat):List SV:=(a6 256).map λi=>Lt (if i<k then yu i else 0)
def J4:List SV:=(a6 256).map λ_=>Lt 0
def ud(k:Nat):(lz k).length=256:=by simp[lz]
def RQ{k:Nat}(hk:k<256):(lz k).take k++(Lt (yu k)::(lz k).drop (k+1))=lz (k+1):=by
 have h:(lz k).set k (Lt (yu k))=lz (k+1):=by
  apply List.ext_getElem?;intro i;by_cases hik:k=i
  ·subst hik;rw[List.getElem?_set_self (by rw[ud];exact hk)];unfold lz;rw[aS,be hk];simp
  ·rw[List.getElem?_set_ne hik];unfold lz;rw[aS,aS]
   cases hr:(a6 256)[i]? with
   | none=>rfl
   | some j=>
    have hj:j=i:=by
     obtain⟨h1,h2⟩:=List.getElem?_eq_some_iff.1 hr;simpa using h2.symm
    subst hj;simp only[ap];by_cases h:j<k
    ·rw[ul h,ul (by omega)]
    ·rw[un h,un (by omega)]
 rw[<-h,a3,ul (by rw[ud];exact hk)]
def RP{k:Nat}(hk:k<256)(h:yu k=0):lz (k+1)=lz k:=by
 unfold lz;refine List.map_congr_left λi _=>?_;by_cases hik:i<k
 ·rw[ul hik,ul (by omega)]
 ·rw[un hik];by_cases he:i=k
  ·subst he;rw[ul (by omega),h]
  ·rw[un (by omega)]
def PT{k:Nat}(hk:k<256):mE Tryz.prog 3 5 (.int .i64 (k:Int))=some (.int .u8 (k:Int)):=by
 have h1:mE Tryz.prog 3 5 (.int .i64 (k:Int))=some (.int .u8 (dO .u8 (k:Int))):=by kernel_rfl
 rw[h1]
 congr 2
 have h2:(rZ 0 (k:Int)&&rZ (k:Int) 255)=true:=by rw[eU,eU];simp;omega
 simp only[dO,N9,NW,h2,ai]
set_option maxHeartbeats 4000000 in
def Bi:PC Tryz.prog 61 [] (·=.ag (Ii.map SV.a)):=by
 refine pB 50 Tryz.func61 ?_;refine lC ?_;refine zV ?_;have hl:(a6 256).length=256:=List.length_range
 have hlen:(a6 256).length<=1000000:=by rw[hl];decide
 refine ar.fg (st':=⟨[(0,.ptr 0 0),(1,.ptr 1 0),(4,ab 0)],50,[.cells J4,.cells (lz 0)],[]⟩) (by exact zH) ?_
 (try change ar _ _ _ _ _)
 refine zs ?_;refine zL (a6 256) (λk=>True) (λk=>[(0,.ptr 0 0),(1,.ptr 1 0),(4,ab k)]) (λk=>[.cells J4,.cells (lz k)]) zH zp ?_;intro k hk hall;by_cases hlt:k<(a6 256).length
 ·have hk6:k<256:=by rw[<-hl];exact hlt
  have hk7:k+1<=256:=hk6;have e1:decide ((97:Int)<=(k:Int))=ble 97 k:=jm 97 k;have e2:decide ((k:Int)<=122)=ble k 122:=jm k 122;have e3:decide ((65:Int)<=(k:Int))=ble 65 k:=jm 65 k;have e4:decide ((k:Int)<=90)=ble k 90:=jm k 90;have e5:decide ((48:Int)<=(k:Int))=ble 48 k:=jm 48 k;have e6:decide ((k:Int)<=57)=ble k 57:=jm k 57;have hset:=RQ hk6;have hrl:=ud k;refine aC (show decide ((k:Int)<256)=true by simp only[wr];omega) ?_;refine eQ ?_;refine zV ?_;refine aC (PT hk6) ?_;refine zB ?_;refine ar.seq ?_;refine ar.mono (Q:=λex st=>ex=.normal/\Fg st ⟨[(0,.ptr 0 0),(1,.ptr 1 0),(2,ab k),(3,Lt k),(4,ab k),(9,az (df k))],50,[.cells J4,.cells (lz k)],[]⟩) ?_ ?_
  ·unfold df;cases h1:ble 97 k<;>cases h2:ble k 122<;>cases h3:ble 65 k<;>cases h4:ble k 90
   all_goals
    rw[h1] at e1;rw[h2] at e2;rw[h3] at e3;rw[h4] at e4;refine aC (n2 e1 e2) ?_
    first
     | (
      refine zN ?_;refine aC (n2 e3 e4) ?_
      exact⟨rfl,zH⟩)
     | (
      refine zY ?_
      exact⟨rfl,zH⟩)
  rintro ex st ⟨rfl,hf⟩;refine ar.fg hf ?_;clear hf
  (try change ar _ _ _ _ _)
  cases hL:df k;rotate_left
  ·have hc:yu k=3:=by unfold yu;rw[hL];rfl
   rw[hc] at hset;change (lz k).take k++(SV.a (.int .u8 3)::(lz k).drop (k+1))=_ at hset;refine zY ?_;refine aC (n5 hk6 hk7 hrl @a5 hset) ?_;refine aC (zi hlt hlen) ?_;refine zX hlt zH trivial
  have c0:yu k=bif ble 48 k&&ble k 57 then 4 else bif decide (0<=gf k [32,9,10] 0) then 1 else bif decide (0<=gf k [59,44,46,58,40,41,123,125,91,93,61,60,62,47,43,45,42] 0) then 6 else 0:=by unfold yu;rw[hL];rfl
  clear hL e1 e2 e3 e4;refine zN ?_
  (repeat refine ar.seq ?_)
  refine ar.mono (Q:=λex st=>ex=.normal/\Fg st ⟨[(0,.ptr 0 0),(1,.ptr 1 0),(2,ab k),(3,Lt k),(4,ab k),(24,az (ble 48 k&&ble k 57))],50,[.cells J4,.cells (lz k)],[]⟩) ?_ ?_
  ·cases h5:ble 48 k<;>cases h6:ble k 57
   all_goals
    rw[h5] at e5;rw[h6] at e6;refine aC (n2 e5 e6) ?_;exact⟨rfl,zH⟩
  rintro ex st ⟨rfl,hf⟩;refine ar.fg hf ?_;clear hf e5 e6
  (try change ar _ _ _ _ _)
  cases hD:ble 48 k&&ble k 57;rotate_left
  ·rw[hD] at c0;rw[show yu k=4 from c0] at hset;change (lz k).take k++(SV.a (.int .u8 4)::(lz k).drop (k+1))=_ at hset;refine zY ?_;refine aC (n5 hk6 hk7 hrl @a5 hset) ?_;refine aC (zi hlt hlen) ?_;refine zX hlt zH trivial
  rw[hD] at c0;refine QS ?_;refine zK (CI [32,9,10] k hk6) ?_;refine zR ?_;cases hB:decide (0<=gf k [32,9,10] 0);rotate_left
  ·rw[hB] at c0;rw[show yu k=1 from c0] at hset;change (lz k).take k++(SV.a (.int .u8 1)::(lz k).drop (k+1))=_ at hset;refine zY ?_;refine aC (n5 hk6 hk7 hrl @a5 hset) ?_;refine aC (zi hlt hlen) ?_;refine zX hlt zH trivial
  rw[hB] at c0;refine QS ?_;refine zK (CI [59,44,46,58,40,41,123,125,91,93,61,60,62,47,43,45,42] k hk6) ?_;refine zR ?_;cases hS:decide (0<=gf k [59,44,46,58,40,41,123,125,91,93,61,60,62,47,43,45,42] 0);rotate_left
  ·rw[hS] at c0;rw[show yu k=6 from c0] at hset;change (lz k).take k++(SV.a (.int .u8 6)::(lz k).drop (k+1))=_ at hset;refine zY ?_;refine aC (n5 hk6 hk7 hrl @a5 hset) ?_;refine aC (zi hlt hlen) ?_;refine zX hlt zH trivial
  rw[hS] at c0;have hs0:=RP hk6 c0;refine zN ?_
  (try (refine ar.skip ?_))
  refine aC (zi hlt hlen) ?_;refine zX hlt (bL hs0) trivial
 ·obtain rfl:k=256:=by omega
  refine aC (show decide (((256:Nat):Int)<256)=false from rfl) ?_;refine dZ ?_
  have set_at:∀{l:List SV} {i:Nat} (v:SV),i<l.length->l.take i++(v::l.drop (i+1))=l.set i v:=λv h=>by rw[a3,ul h]
  have hfin:(((lz 256).set 35 (.a (.int .u8 2))).set 95 (.a (.int .u8 5))).set 34 (.a (.int .u8 7))=Ii.map SV.a:=by kernel_rfl
  have l0:=ud 256
  have hz0:J4.length=256:=by simp[J4]
  generalize lz 256=R at hfin l0 ⊢;have s1:=set_at (l:=R) (i:=35) (.a (.int .u8 2)) (by omega)
  have l1:(R.set 35 (.a (.int .u8 2))).length=256:=by rw[bc];exact l0
  generalize R.set 35 (.a (.int .u8 2))=R1 at hfin s1 l1;have s2:=set_at (l:=R1) (i:=95) (.a (.int .u8 5)) (by omega)
  have l2:(R1.set 95 (.a (.int .u8 5))).length=256:=by rw[bc];exact l1
  generalize R1.set 95 (.a (.int .u8 5))=R2 at hfin s2 l2;have s3:=set_at (l:=R2) (i:=34) (.a (.int .u8 7)) (by omega)
  have l3:(R2.set 34 (.a (.int .u8 7))).length=256:=by rw[bc];exact l2
  generalize R2.set 34 (.a (.int .u8 7))=R3 at hfin s3 l3;have t3:R3.take 256=R3:=ba (by omega);have d0:J4.drop 256=[]:=a9 (by omega);refine aC (n10 (show di (.int .i64 35)=some 35 from rfl) (show di (.int .i64 95)=some 95 from rfl) (show di (.int .i64 34)=some 34 from rfl) l0 l1 l2 @a5 s1 s2 s3) ?_
  have ho:R3.all ec=true:=by rw[hfin];kernel_rfl
  refine aC (n9 l3 t3 ho hz0 d0 @List.append_nil.{0} @List.take_zero.{0} @List.nil_append.{0} @Nat.le_refl) ?_;subst hfin;exact zo [.cell 0 133] (h:=gQ (n2 l3 t3))
def drop_cons{α:Type}{l:List α}{k:Nat}{x:α}(h:l[k]?=some x):l.drop k=x::l.drop (k+1):=by
 obtain⟨hlt,he⟩:=List.getElem?_eq_some_iff.1 h;rw[List.drop_eq_getElem_cons hlt,he]
def ou(s:List Nat)(hs:s.length<=1000000)(hb:∀b∈s,b<256):PC Tryz.prog 28 [ae s] (·=az (cD s)):=by
 refine pB 39 Tryz.func28 ?_;have hcl:=Bi;obtain⟨C,hC⟩:∃C,C=Ii.map SV.a:=⟨_,rfl⟩
 have ho:C.all ec=true:=by rw[hC];kernel_rfl
 have hl:C.length=256:=by rw[hC,bi,Nu]
 have hg:cr C=true:=by rw[hC];kernel_rfl
 have hfl:BU (.ag C)=true:=by rw[hC];kernel_rfl
 have hCg:∀b,b<256->C[b]?=some (Lt (rN b)):=λb h=>by rw[hC,aS,Nt b h];rfl
 rw[<-hC] at hcl;clear hC;have ht:C.take 256=C:=ba (by omega);have hnk:=λo:Nat=>dm (o:=o) hg;have hkk:=λo:Nat=>bI (o:=o) hg;refine kD ?_;refine zK hcl ?_ (hfl:=.inl hfl);refine aI.r0 (by rfl) (by simp only[bP,bg,ak,aw,al,ap,↓reduceIte,aa,ad,af,ac,aj,ai,an,aU,hl,ho,ht,hkk,hnk,bi,List.length_replicate,a9,List.append_nil,Nat.le_refl];first | done | rfl) ?_;refine ar.fg (Fg.freeze (f':=[(0,ae s),(3,.ip C)]) 0 rfl (λh=>by cases h) ⟨.inl rfl,.inr (.ptr rfl (bp.refl hg) (bh _)),trivial⟩) ?_;refine ar.fg (st':=⟨[(0,ae s),(3,.ip C)],39,[],[]⟩) zH ?_
 (try change ar _ _ _ _ _)
 refine zV ?_;refine zs ?_;refine zL s (λk=>((∀(i b:Nat),i<k->s[i]?=some b->gI b=true)/\(0<k->∀b,s[0]?=some b->df b=true))) (λk=>[(0,ae s),(3,.ip C),(8,ab s.length),(9,ab k)]) (λk=>[]) zH (by exact⟨λi b h=>t8 h (a4 _),λh=>t8 h (a4 _)⟩) ?_;intro k hk hall;refine zT s k ?_ ?_;rintro rfl;rotate_left;intro b hx hlt;rotate_left
 ·refine dZ ?_
  cases hs0:s with
  | nil=>
   refine aC (show decide (([]:List Nat)=[])=true from rfl) ?_;exact zo [.tmp 2]
  | cons b l=>
   have h0:s[0]?=some b:=by rw[hs0];rfl
   have hlt0:0<s.length:=by rw[hs0];exact Nat.zero_lt_succ _
   have hn:=Ge s (λi b' hb'=>hall.1 i b' (List.getElem?_eq_some_iff.1 hb').1 hb') b h0;rw[hall.2 hlt0 b h0,Bool.and_true,hs0] at hn;have c2:decide ((b::l)=[])=false:=rfl;cases c3:decide (((b::l).length:Int)<=24)
   ·have e24:decide ((b::l).length<=24)=false:=by have:=wt c3;simp only[wp];omega
    refine aC (n2 c2 c3) ?_;exact zo [.tmp 2] (hq:=by rw[hn,e24])
   ·have e24:decide ((b::l).length<=24)=true:=by have:=ww c3;simp only[wr];omega
    refine aC (n2 c2 c3) ?_;exact zo [.tmp 2] (hq:=by rw[hn,e24])
 have hb6:=hb b (bd hx);obtain⟨sp1,sp2⟩:=Nv b hb6;have hdr:=drop_cons (hCg b hb6)
 have hbl:b<=C.length:=by omega
 have q3:decide ((rN b:Int)=3)=df b:=by rw[<-sp1];simp only[decide_eq_decide];omega
 have q4:decide ((rN b:Int)=4)=decide (rN b=4):=by simp only[decide_eq_decide];omega
 have q5:decide ((rN b:Int)=5)=decide (rN b=5):=by simp only[decide_eq_decide];omega
 rw[sp1] at sp2;refine eQ ?_;refine zV ?_;refine aC (n6 hx (show di (.int .u8 (ofNat b))=some b from rfl) @a5 hb6 hbl hdr) ?_;refine ar.fg (st':=⟨[(0,ae s),(3,.ip C),(4,ab k),(5,.a (.int .u8 (rN b:Int))),(8,ab s.length),(9,ab k)],39,[],[]⟩) zH ?_
 (try change ar _ _ _ _ _)
 generalize (rN b:Int)=cb at q3 q4 q5 ⊢;generalize decide (rN b=4)=c4 at sp2 q4;generalize decide (rN b=5)=c5 at sp2 q5
 have m3:cS Tryz.prog .neq 5 (.int .u8 cb) (.int .u8 3)=some (.bool (!df b)):=by rw[<-q3];exact pa rfl
 have m4:cS Tryz.prog .neq 5 (.int .u8 cb) (.int .u8 4)=some (.bool (!c4)):=by rw[<-q4];exact pa rfl
 have m5:cS Tryz.prog .neq 5 (.int .u8 cb) (.int .u8 5)=some (.bool (!c5)):=by rw[<-q5];exact pa rfl
 clear q3 q4 q5
 have hmore:gI b=true->∀(i b':Nat),i<k+1->s[i]?=some b'->gI b'=true:=λhm i b' hi hb'=>by
  by_cases e:i=k
  ·subst e;rw[hx] at hb';cases hb';exact hm
  ·exact hall.1 i b' (by omega) hb'
 have hfirst:(k=0->df b=true)->0<k+1->∀b',s[0]?=some b'->df b'=true:=λh _ b' hb'=>by
  by_cases hk0:k=0
  ·subst hk0;rw[hx] at hb';cases hb';exact h rfl
  ·exact hall.2 (by omega) b' hb'
 cases hL:df b;rotate_left
 ·rw[hL] at m3 sp2;refine aC m3 ?_;refine zN ?_;refine aC (zi hlt hs) ?_;refine zX hlt zH (⟨hmore sp2.symm,hfirst λ_=>hL⟩)
 rw[hL] at m3 sp2;by_cases hk0:k=0
 ·have hn:cD s=false:=Qj s b (by rw[<-hk0];exact hx) hL;refine aC (n2 m3 (show decide ((k:Int)=0)=true by simp only[wr];omega)) ?_;refine cL ?_;exact zo [.tmp 2] (hq:=by rw[hn])
 have k0:=show decide ((k:Int)=0)=false by simp only[wp];omega
 have hbad:gI b=false->cD s=false:=λhm=>by
  cases hc:cD s
  ·rfl
  ·rw[Cj s hc k b hx] at hm;cases hm
 cases c4
 ·cases c5
  ·have hn:=hbad sp2.symm;refine aC (n4 m3 m4 m5 k0) ?_;refine cL ?_;exact zo [.tmp 2] (hq:=by rw[hn])
  ·refine aC (n4 m3 m4 m5 k0) ?_;refine zN ?_;refine aC (zi hlt hs) ?_;refine zX hlt zH (⟨hmore sp2.symm,hfirst λh=>t8 h hk0⟩)
 ·refine aC (n3 m3 m4 k0) ?_;refine zN ?_;refine aC (zi hlt hs) ?_;refine zX hlt zH (⟨hmore sp2.symm,hfirst λh=>t8 h hk0⟩)
end Go.Proofs
