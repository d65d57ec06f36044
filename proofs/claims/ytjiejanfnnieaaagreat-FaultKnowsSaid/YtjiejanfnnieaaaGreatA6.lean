/- Lemmas of this claim, each with its conditions. -/
import Derived.Test.YtjiejanfnnieaaaGreatA5
import Derived.Test.YtjiejanfnnieaaaGreatA4
set_option linter.all false
set_option maxHeartbeats 8000000
open Go.Proofs.Tryz (prog func199 func44 func45 func50)
open List (append_nil flatMap_cons Perm flatMap_nil nil_append filterMap_nil foldl_nil map_nil mem_map take_zero all_eq_true cons_append)
open Nat (ble)
open Nat renaming reduceEqDiff -> aa, le_refl -> ac, reduceLeDiff -> am, reduceAdd -> a4, min_eq_left -> a5, reduceLT -> a6, reduceMul -> a9, pos_of_ne_zero -> bh, zero_mul -> bv, zero_le -> b5, lt_succ_self -> ck, sub_zero -> cl, not_lt_zero -> co, succ_mul -> c0, reduceSub -> dl, add_comm -> dF, min_def -> d4, mul_one -> d5, le_trans -> eu, sub_self -> ex, succ_le_succ -> ey, lt_irrefl -> fd, min_self -> fl
open Bool renaming and_eq_true -> ad, not_eq_true' -> b8, eq_iff_iff -> d0, false_eq_true -> d7
open List renaming length_take -> af, take_of_length_le -> aj, take_append_of_le_length -> al, length_map -> ap, mem_of_getElem? -> aU, length_drop -> a3, append_assoc -> a7, getElem?_map -> a8, take_length -> ba, flatMap_append -> bb, length_set -> bc, drop_of_length_le -> bd, set_eq_take_append_cons_drop -> be, replicate -> bi, contains_iff_mem -> bk, getElem?_cons_succ -> bt, map_append -> bw, filter_cons -> b6, length_replicate -> b7, map_cons -> b9, any_eq_true -> cc, drop_append_of_le_length -> cd, foldl_append -> ce, length_filter_le -> ch, sizeOf_lt_of_mem -> ci, drop_zero -> cn, filterMap_cons -> ct, mem_map_of_mem -> cv, all_append -> cM, getElem?_drop -> c4, length_filterMap_le -> c5, getElem?_cons_zero -> c6, nodup_nil -> dc, take_take -> dd, drop_length -> ds, filterMap_append -> dt, getElem?_eq_none -> dv, filter_eq_self -> d2, takeWhile_cons -> d3, filter_append -> d8, getElem?_take -> d9, all_cons -> el, any_eq_false -> em, getElem?_inj -> ep, getElem?_set -> er, take_add_one -> es, take_append -> e3, filter_nil -> e4, nodup_cons -> e5, drop_drop -> e6
open And renaming intro -> aS
open Int renaming le_refl -> cp
open Go.Proofs.Tryz renaming func355 -> d6
namespace Go.Proofs
open Go.Ev
set_option maxRecDepth 100000
def xZ(a b:List Nat):Bool:=!fO b a
def MU(a b c:List Nat)(h1:xZ a b=true)(h2:xZ b c=true):xZ a c=true:=by
 unfold xZ at *;simp only[b8] at *;cases h:fO c a
 ·rfl
 ·rcases j8 a b with g | g | g
  ·have:=fP h g;rw[h2] at this;cases this
  ·rw[g,h2] at h;cases h
  ·rw[h1] at g;cases g
def MT(a b:List Nat):(xZ a b||xZ b a)=true:=by
 unfold xZ
 rcases j8 a b with g | g | g
 ·rw[rY g];rfl
 ·rw[g,dq];rfl
 ·rw[rY g];simp
def GL{a b:List Nat}(h1:xZ a b=true)(h2:xZ b a=true):a=b:=by
 unfold xZ at h1 h2;simp only[b8] at h1 h2
 rcases j8 a b with g | g | g
 ·rw[h2] at g;cases g
 ·exact g
 ·rw[h1] at g;cases g
def MP(x:List Nat):List (List Nat)->List (List Nat)
 | []=>[x]
 | y::l=>cond (xZ x y) (x::y::l) (y::MP x l)
def ek:List (List Nat)->List (List Nat)
 | []=>[]
 | x::l=>MP x (ek l)
def T2(x:List Nat):∀l,(MP x l).Perm (x::l)
 | []=>.refl _
 | y::l=>by
  rw[MP];cases xZ x y
  ·exact((T2 x l).cons y).trans (.swap x y l)
  ·exact .refl _
def sH:∀l,(ek l).Perm l
 | []=>.refl _
 | x::l=>(T2 x _).trans ((sH l).cons x)
def UY(x:List Nat):∀l,l.Pairwise (λa b=>xZ a b=true)->(MP x l).Pairwise λa b=>xZ a b=true
 | [],_=>List.pairwise_singleton ..
 | y::l,h=>by
  obtain⟨h1,h2⟩:=List.pairwise_cons.1 h;rw[MP];cases g:xZ x y
  ·refine List.pairwise_cons.2 ⟨λz hz=>?_,UY x l h2⟩
   rcases t6 ((T2 x l).mem_iff.1 hz) with rfl | hz
   ·have:=MT z y;rw[g] at this;simpa using this
   ·exact h1 z hz
  ·refine List.pairwise_cons.2 ⟨λz hz=>?_,h⟩
   rcases t6 hz with rfl | hz
   ·exact g
   ·exact MU _ _ _ g (h1 z hz)
def HB:∀l,(ek l).Pairwise λa b=>xZ a b=true
 | []=>.nil
 | x::l=>UY x _ (HB l)
def AZ{l ks:List (List Nat)}(hp:ks.Perm l)(hs:rK ks):ks=ek l:=by
 have h2:(ek l).Pairwise λa b=>xZ a b=true:=HB l
 have h1:ks.Pairwise λa b=>xZ a b=true:=by
  unfold rK at hs;refine hs.imp ?_;intro a b h;unfold xZ;rw[h];rfl
 have hq:ks.Perm (ek l):=hp.trans (sH l).symm;exact Perm.eq_of_pairwise (λa b _ _ h1 h2=>GL h1 h2) h1 h2 hq
def L0(l:List (List Nat)):(l.map qI).flatten=l.map AV.str:=by
 induction l with
 | nil=>rfl
 | cons a l ih=>rw[b9,List.flatten_cons,ih];rfl
def zJ:∀l:List (List Nat),ji (l.flatMap (aD ah))=some (l.map AV.str)
 | []=>rfl
 | a::l=>by
  show ji (ah a::l.flatMap (aD ah))=_;rw[ji,cU,m7,zJ l];rfl
def Bl(l:List (List Nat))(hlen:l.length<=1000000)(hne:l≠[]):SC prog 56 [.buf 0 l.length 1 none] [.cells (l.flatMap (aD ah))] [] (λr S'=>r=.cq []/\S'=[.cells ((ek l).flatMap (aD ah))]):=by
 have hl2:(ek l).length=l.length:=(sH l).length_eq;refine SC.row (by rw[D5,D5,hl2]) (λθ ρ xs hx=>mH hx (PO _)) ?_;intro E θ ρ h avs asx bQ hl hR hA ho hV ⟨⟨x,y⟩,hf,hxy,b1,b2,b3,b4⟩;have has:=oQ hV (zJ l);subst has;rw[aM] at hA;obtain⟨a,r,rfl,hA1,hA2⟩:=hA;rw[bj] at hA2;subst hA2;rw[VS] at hA1;subst hA1
 have hout:N1 0 h (.slice (some ((θ 0).id,0)) l.length 1 none) 1 (l.map qI):=by
  refine⟨AR l,.inr ⟨(θ 0).id,bQ,x,y,by simpa using hne,by rw[ap],by rw[L0];exact ho,hf,hxy,b5 _,b5 _,b5 _,b5 _,b4,b1,b2,b3⟩⟩
 refine(xJ l _ 0 h hout hlen).mono ?_;rintro v h' ⟨rfl,ks',hp,hs,_,_,hst⟩;have:=AZ hp hs;subst this;refine⟨by rw[VS];exact⟨[],rfl,by rw[bj]⟩,_,?_,hst _ _ _ _ rfl⟩;rw[L0];exact uk (zJ _)
def sz(l:List (List Nat)):List (List Nat):=l.foldl (λacc x=>if acc.getLast?=some x then acc else acc++[x]) []
def IZ(l:List (List Nat))(x:List Nat):sz (l++[x])=if (sz l).getLast?=some x then sz l else sz l++[x]:=by
 unfold sz;rw[ce];rfl
def c8{α:Type}{l:List α}{i:Nat}{x:α}(h:l[i]?=some x):l.take (i+1)=l.take i++[x]:=by
 rw[es,h];rfl
def cj(o e n:Nat):SV:=if n=0 then bF else .buf o n e none
def QW{α:Type}(o:Nat)(l:List α)(enc:α->List SV):List SO:=if l=[] then [] else bi o .gone++[.cells (l.flatMap enc)]
def lX(o e:Nat):cj o e 0=bF:=rfl
def T9(o e n:Nat):cj o e (n+1)=.buf o (n+1) e none:=rfl
def eF{o e n:Nat}(h:¬n=0):cj o e n=.buf o n e none:=ut h
def RZ{α:Type}(o:Nat)(enc:α->List SV):QW o [] enc=[]:=rfl
def PE{α:Type}{o:Nat}{l:List α}{enc:α->List SV}(h:¬l=[]):QW o l enc=bi o .gone++[.cells (l.flatMap enc)]:=ut h
def PF{α:Type}(o:Nat)(l:List α)(x:α)(enc:α->List SV):QW o (l++[x]) enc=bi o .gone++[.cells ((l++[x]).flatMap enc)]:=ut gc
def bg{α:Type}{enc:α->List SV}{e:Nat}(he:∀x,(enc x).length=e):∀l:List α,(l.flatMap enc).length=l.length*e
 | []=>by simp
 | a::l=>by rw[flatMap_cons,li,he,bg he l,i7,c0,dF]
def eL{α:Type}{enc:α->List SV}{e:Nat}(he:∀x,(enc x).length=e)(l:List α):(l.flatMap enc).take (l.length*e)=l.flatMap enc:=
 aj (by rw[bg he];exact ac _)
def mI{α:Type}{enc:α->List SV}{e:Nat}(he:∀x,(enc x).length=e)(hg:∀x,bZ (enc x)=true)(o:Nat)(l:List α)(x:α):((l.flatMap enc).take (l.length*e)++enc x).map (bf o)=(l++[x]).flatMap enc:=by
 rw[eL he,bw,bV (hg x),bV (aA hg l),bb];simp
def bC{α:Type}{enc:α->List SV}(hg:∀x,bZ (enc x)=true)(o:Nat)(l:List α):(l.flatMap enc).map (bf o)=l.flatMap enc:=bV (aA hg l)
def SY{α:Type}{enc:α->List SV}{e o:Nat}(he:∀x,(enc x).length=e)(hg:∀x,bZ (enc x)=true)(l:List α):Wk (QW o l enc) (cj o e l.length) (an e l enc):=by
 by_cases h:l=[]
 ·subst h;exact Wk.nil _
 ·have h0:¬l.length=0:=λe=>h (t7 e);rw[eF h0,PE h];refine Wk.buf (cs:=l.flatMap enc) ?_ ?_ ?_
  ·rw[List.getElem?_append_right (by rw[b7];exact ac _),b7,ex];rfl
  ·rw[eL he];exact bm.refl (aA hg l)
  ·rw[bg he];exact ac _
def vw:PC prog 56 [bF] (·=.a (.cq [])):=by
 intro ρ h avs _ hA;rw[dS] at hA;obtain⟨a,r,rfl,hA1,hA2⟩:=hA;rw[e7] at hA2;subst hA2;rw[GS] at hA1;subst hA1;refine(xJ [] _ h.next h ⟨by simp,.inl ⟨rfl,rfl⟩⟩ gc).mono ?_;rintro v h' ⟨rfl,_,_,_,_,ho,_⟩;exact⟨_,ρ,rfl,ho,λid ob hi=>.inl hi,by rw[GS]⟩
def No(l:List (List Nat)):List (List Nat):=sz (ek l)
def cD(e:aV):(ao e).length=14:=rfl
def du(e:aV):ao e=[ab e.op,ab e.day,ah e.part,ah e.kind,ah e.aJ,ah e.slot,ah e.key,ah e.value,ab e.u1,ab e.u2,ab e.u3,ab e.u4,ab e.u5,ab e.u6]:=rfl
def bO(e:aV):bZ (ao e)=true:=rfl
section
variable {α:Type} {c:α->SV}
def r9(l:List α):l.flatMap (aD c)=l.map c:=by
 induction l with
 | nil=>rfl
 | cons a l ih=>rw[flatMap_cons,ih];rfl
def Ue{l:List α}{i:Nat}{x:α}(h:l[i]?=some x):(l.flatMap (aD c))[i]?=some (c x):=by
 rw[r9,a8,h];rfl
def Sh(l:List α):(l.flatMap (aD c)).length=l.length:=by rw[r9,List.length_map]
def PN{l:List α}{i:Nat}(y:α)(h:i<l.length):(l.flatMap (aD c)).take i++(c y::(l.flatMap (aD c)).drop (i+1))=(l.set i y).flatMap (aD c):=by
 rw[r9,r9,List.map_set,be,un (by rw[ap];exact h)]
end
abbrev re(n:Nat):SV:=ab (n:Int)
def pH(a0 a1 d:Int):Int:=cC (iu a0 d) (iu a1 d)
def pG(a0 a1 d:Int):Int:=bT (iu a0 d) (iu a1 d)
def xr(a0 a1 lo hi:Int)(h:lo<=hi):SC prog 355 [ab lo,ab hi,.ptr 0 0,.ptr 1 0] [.cells [ab a0,ab a1],.cells [bF]] []
 (λr S'=>r=.cq []/\S'=[.cells [ab a0,ab a1],.cells [.buf 4 2 2 none],.gone,.gone,.cells [ab (pH a0 a1 lo),ab (pG a0 a1 lo),ab (pH a0 a1 hi),ab (pG a0 a1 hi)]]):=by
 refine Tw 40 d6 ?_;refine(az (show decide (lo<=hi)=true by simpa using h)) ?_
 (repeat refine aE.seq ?_)
 refine aE.yes rfl ?_;refine(zV) ?_
 (repeat refine aE.seq ?_)
 refine aE.block (aE.loop (λm st=>
  (m=2/\st=⟨[(2,.ptr 0 0),(3,.ptr 1 0),(15,.buf 2 2 1 (some 2)),(16,ab 2),(17,ab 0),(1000000,.ptr 0 0),(1000001,.ptr 1 0)],40,[.cells [ab a0,ab a1],.cells [bF],.cells [ab lo,ab hi]],[]⟩)\/
  (m=1/\st=⟨[(2,.ptr 0 0),(3,.ptr 1 0),(15,.buf 2 2 1 (some 2)),(16,ab 2),(17,ab 1),(1000000,.ptr 0 0),(1000001,.ptr 1 0)],40,[.cells [ab a0,ab a1],.cells [.buf 4 1 2 none],.cells [ab lo,ab hi],.gone,.cells [ab (pH a0 a1 lo),ab (pG a0 a1 lo)]],[]⟩)\/
  (m=0/\st=⟨[(2,.ptr 0 0),(3,.ptr 1 0),(15,.buf 2 2 1 (some 2)),(16,ab 2),(17,ab 2),(1000000,.ptr 0 0),(1000001,.ptr 1 0)],40,[.cells [ab a0,ab a1],.cells [.buf 4 2 2 none],.cells [ab lo,ab hi],.gone,.cells [ab (pH a0 a1 lo),ab (pG a0 a1 lo),ab (pH a0 a1 hi),ab (pG a0 a1 hi)]],[]⟩)) 2 zH (.inl ⟨rfl,rfl⟩) (by rintro m st (⟨_,rfl⟩ | ⟨_,rfl⟩ | ⟨_,rfl⟩)<;>rfl) ?_)
 rintro m st (⟨rfl,rfl⟩ | ⟨rfl,rfl⟩ | ⟨rfl,rfl⟩)
 ·refine(yi)<|(zB)<|(zV)<|(zs) ?_;refine oK [0,1,0,7,0,16,0,127,255,511] ?_;refine(zD) ?_;refine SD.k g9 rfl rfl g9 rfl rfl zc (iH a0 lo) (zw) rfl ?_;refine(zD) ?_;refine SD.k g9 rfl rfl g9 rfl rfl zc (iH a1 lo) (zw) rfl ?_;refine(zD)<|(zM)<|(az (bz @jx @fF))<|(zV) ?_;exact⟨1,_,by omega,(bN (bz @pH.eq_1 @pG.eq_1)),.inr (.inl ⟨rfl,rfl⟩)⟩
 ·refine(yi)<|(zB)<|(zV)<|(zs) ?_;refine oK [0,1,0,7,0,16,0,127,255,511] ?_;refine(zD) ?_;refine SD.k g9 rfl rfl g9 rfl rfl zc (iH a0 hi) (zw) rfl ?_;refine(zD) ?_;refine SD.k g9 rfl rfl g9 rfl rfl zc (iH a1 hi) (zw) rfl ?_;refine(zD)<|(zM)<|(az (bz @jx @fF))<|(zV) ?_;exact⟨0,_,by omega,(bN (bz @pH.eq_1 @pG.eq_1)),.inr (.inr ⟨rfl,rfl⟩)⟩
 ·refine(FA)<|zA [(1000000,.ptr 0 0),(1000001,.ptr 1 0)] [.cells [ab a0,ab a1],.cells [.buf 4 2 2 none],.gone,.gone,.cells [ab (pH a0 a1 lo),ab (pG a0 a1 lo),ab (pH a0 a1 hi),ab (pG a0 a1 hi)]] zH ?_;refine aE.exit ?_
  simp only[e8,df,bW,bI,if_true];exact zP []
def HM(a0 a1 lo hi:Int)(h:¬lo<=hi):SC prog 355 [ab lo,ab hi,.ptr 0 0,.ptr 1 0] [.cells [ab a0,ab a1],.cells [bF]] []
 (λr S'=>r=.cq []/\S'=[.cells [ab a0,ab a1],.cells [bF]]):=by
 refine Tw 40 d6 ?_;refine(az (show decide (lo<=hi)=false by simpa using h)) ?_
 (repeat refine aE.seq ?_)
 refine aE.no rfl ?_;refine aE.skip ?_
 (try simp only[e8,df,bW,bI])
 exact zP []
def ru(a0 a1 lo hi:Int)(n:Nat)(cs:List SV)(h:¬lo<=hi):SC prog 355 [ab lo,ab hi,.ptr 0 0,.ptr 1 0] [.cells [ab a0,ab a1],.cells [.buf 2 n 2 none],.cells cs] []
 (λr S'=>r=.cq []/\S'=[.cells [ab a0,ab a1],.cells [.buf 2 n 2 none],.cells cs]):=by
 refine VI 40 d6 ?_;refine(az (show decide (lo<=hi)=false by simpa using h)) ?_
 (repeat refine aE.seq ?_)
 refine aE.no rfl ?_;refine aE.skip ?_
 (try simp only[e8,df,bW,bI])
 exact zP []
def cT(p:Int×Int):List SV:=[ab p.1,ab p.2]
def rN(p:Int×Int):(cT p).length=2:=rfl
def mM(p:Int×Int):bZ (cT p)=true:=rfl
def xq(a0 a1 lo hi:Int)(rows:List (Int×Int))(hlen:rows.length<=1000)(h:lo<=hi):SC prog 355 [ab lo,ab hi,.ptr 0 0,.ptr 1 0] [.cells [ab a0,ab a1],.cells [.buf 2 rows.length 2 none],.cells (rows.flatMap cT)] [2]
 (λr S'=>r=.cq []/\S'=[.cells [ab a0,ab a1],.cells [.buf 2 (rows.length+1+1) 2 none],.cells ((rows++[(pH a0 a1 lo,pG a0 a1 lo)]++[(pH a0 a1 hi,pG a0 a1 hi)]).flatMap cT)]):=by
 refine VI 40 d6 ?_;have step:∀(l:List (Int×Int)) (x y:Int),((l.flatMap cT).take (l.length*2)++[ab x,ab y]).map (bf 2)=(l++[(x,y)]).flatMap cT:=λl x y=>mI rN mM 2 l (x,y);have hcl:∀l:List (Int×Int),(l.flatMap cT).length=l.length*2:=bg rN;have hkc:∀(o:Nat) (l:List (Int×Int)),(l.flatMap cT).map (bf o)=l.flatMap cT:=λo l=>bC mM o l;refine(az (show decide (lo<=hi)=true by simpa using h)) ?_
 (repeat refine aE.seq ?_)
 refine aE.yes rfl ?_;refine(az hkc) ?_
 (repeat refine aE.seq ?_)
 refine aE.block (aE.loop (λm st=>∃q:List (Int×Int),
  (m=2/\q=rows/\st=⟨[(2,.ptr 0 0),(3,.ptr 1 0),(15,.buf 3 2 1 (some 2)),(16,ab 2),(17,ab 0),(1000000,.ptr 0 0),(1000001,.ptr 1 0)],40,[.cells [ab a0,ab a1],.cells [.buf 2 q.length 2 none],.cells (q.flatMap cT),.cells [ab lo,ab hi]],[]⟩)\/
  (m=1/\q=rows++[(pH a0 a1 lo,pG a0 a1 lo)]/\st=⟨[(2,.ptr 0 0),(3,.ptr 1 0),(15,.buf 3 2 1 (some 2)),(16,ab 2),(17,ab 1),(1000000,.ptr 0 0),(1000001,.ptr 1 0)],40,[.cells [ab a0,ab a1],.cells [.buf 2 q.length 2 none],.cells (q.flatMap cT),.cells [ab lo,ab hi]],[]⟩)\/
  (m=0/\q=rows++[(pH a0 a1 lo,pG a0 a1 lo)]++[(pH a0 a1 hi,pG a0 a1 hi)]/\st=⟨[(2,.ptr 0 0),(3,.ptr 1 0),(15,.buf 3 2 1 (some 2)),(16,ab 2),(17,ab 2),(1000000,.ptr 0 0),(1000001,.ptr 1 0)],40,[.cells [ab a0,ab a1],.cells [.buf 2 q.length 2 none],.cells (q.flatMap cT),.cells [ab lo,ab hi]],[]⟩)) 2 zH ⟨rows,.inl ⟨rfl,rfl,rfl⟩⟩ (by rintro m st ⟨q,⟨_,_,rfl⟩ | ⟨_,_,rfl⟩ | ⟨_,_,rfl⟩⟩<;>rfl) ?_)
 rintro m st ⟨q,⟨rfl,hq,rfl⟩ | ⟨rfl,hq,rfl⟩ | ⟨rfl,hq,rfl⟩⟩
 ·have hql:q.length<=1000000:=by rw[hq];omega
  refine(yi)<|(zB)<|(zV)<|(zs) ?_;refine oK [0,1,0,7,0,16,0,127,255,511] ?_;refine(zD) ?_;refine SD.k g9 rfl rfl g9 rfl rfl zc (iH a0 lo) (zw) rfl ?_;refine(zD) ?_;refine SD.k g9 rfl rfl g9 rfl rfl zc (iH a1 lo) (zw) rfl ?_;refine(zD)<|(zM)<|(az (F4 @jx @fF hkc hcl step hql @ac))<|(zV) ?_;refine⟨1,_,by omega,(bN (wS @pH.eq_1 @pG.eq_1 hq @li.{0} @i7.{0} @i5.{0})),q++[(pH a0 a1 lo,pG a0 a1 lo)],.inr (.inl ⟨rfl,by rw[hq],rfl⟩)⟩
 ·have hql:q.length<=1000000:=by rw[hq,li];simp only[i7,i5];omega
  refine(yi)<|(zB)<|(zV)<|(zs) ?_;refine oK [0,1,0,7,0,16,0,127,255,511] ?_;refine(zD) ?_;refine SD.k g9 rfl rfl g9 rfl rfl zc (iH a0 hi) (zw) rfl ?_;refine(zD) ?_;refine SD.k g9 rfl rfl g9 rfl rfl zc (iH a1 hi) (zw) rfl ?_;refine(zD)<|(zM)<|(az (F4 @jx @fF hkc hcl step hql @ac))<|(zV) ?_;refine⟨0,_,by omega,(bN (wS @pH.eq_1 @pG.eq_1 hq @li.{0} @i7.{0} @i5.{0})),q++[(pH a0 a1 hi,pG a0 a1 hi)],.inr (.inr ⟨rfl,by rw[hq],rfl⟩)⟩
 ·refine(FA) ?_;rw[show q.length=rows.length+1+1 by rw[hq];simp];refine zA [(1000000,.ptr 0 0),(1000001,.ptr 1 0)] [.cells [ab a0,ab a1],.cells [.buf 2 (rows.length+1+1) 2 none],.cells (q.flatMap cT)] zH ?_;refine aE.exit ?_;simp only[e8,df,bW,bI,if_true];exact zP [] (hq:=by (try simp only[eI,bG]);first | done | (rw[hq];first | exact⟨rfl,rfl⟩ | exact⟨trivial,rfl⟩ | exact⟨rfl,trivial⟩ | exact⟨trivial,trivial⟩))
def cG(a0 a1 lo hi:Int):List (Int×Int):=if lo<=hi then [(pH a0 a1 lo,pG a0 a1 lo)]++[(pH a0 a1 hi,pG a0 a1 hi)] else []
def dQ(a0 a1 b0 b1:Int):List (Int×Int):=(if b0<=0/\0<=b1 then [(0,0)] else [])++cG a0 a1 (bT b0 1) b1++cG a0 a1 b0 (cC b1 (-1))
def eo(x y:Int×Int):Int×Int:=lq x.1 x.2 y.1 y.2
def eD(a0 a1 b0 b1:Int):Int×Int:=(dQ a0 a1 b0 b1).foldl eo ((dQ a0 a1 b0 b1).headD (0,0))
def vV{α:Type}{f:α->α->α}{l:List α}{i:Nat}{x a:α}(h:l[i]?=some x):(l.take (i+1)).foldl f a=f ((l.take i).foldl f a) x:=by
 rw[es,h,Option.toList_some,ce];rfl
def HN(a0 a1 b0 b1:Int)(hb:b0<=b1):PC prog 351 [lJ a0 a1,lJ b0 b1] (·=oJ (eD a0 a1 b0 b1)):=by
 refine pB 51 Tryz.func351 ?_;have hkc:∀(o:Nat) (l:List (Int×Int)),(l.flatMap cT).map (bf o)=l.flatMap cT:=λo l=>bC mM o l;have hrc:∀(g:Nat->Nat) (l:List (Int×Int)),nr g (l.flatMap cT)=l.flatMap cT:=λg l=>br (aA mM l);have hbc:∀(B:Nat) (l:List (Int×Int)),je B (l.flatMap cT)=true:=λB l=>bK (aA mM l);have hcl:∀l:List (Int×Int),(l.flatMap cT).length=l.length*2:=bg rN
 refine(az @lJ.eq_1)<|(zV) ?_
 by_cases hz:b0<=0/\0<=b1
 ·refine(az (bz (show decide (b0<=0)=true by simpa using hz.1) (show decide (0<=b1)=true by simpa using hz.2)))<|(cB)<|(zV) ?_
  have hm1:bT b0 1=1:=by unfold bT;split<;>omega
  have d1:dQ a0 a1 b0 b1=([(0,0)]++cG a0 a1 1 b1)++cG a0 a1 b0 (cC b1 (-1)):=by rw[dQ,un hz,hm1]
  (repeat refine aE.seq ?_)
  refine aE.mono (Q:=λe st=>e=.normal/\Fg st ⟨[(3,.ptr 1 0),(4,.ptr 2 0),(5,.ptr 3 0),(6,.fn 355 [] [.ptr 0 0,.ptr 3 0])],51,[.cells [ab a0,ab a1],.cells [ab b0,ab b1],.cells [ab 0,ab 0],.cells [.buf 5 ([(0,0)]++cG a0 a1 1 b1).length 2 none],.gone,.cells (([(0,0)]++cG a0 a1 1 b1).flatMap cT)],[]⟩) ?_ ?_
  ·by_cases h1:(1:Int)<=b1
   ·refine(fC (bz @fF hm1)) ?_;have hd:=xq a0 a1 1 b1 [(0,0)] gt h1;rw[show[((0:Int),(0:Int))].flatMap cT=[ab 0,ab 0] from rfl,show[((0:Int),(0:Int))].length=1 from rfl] at hd;refine zS [0,3,5] (cL hrc hbc hkc) hd ?_;refine(zR) ?_;refine⟨rfl,(Fg.less (by (simp only[dD,bY,fQ,↓reduceIte,aa,cG,un h1,li,i7,i5,a7])<;>(repeat' apply aS)<;>first | rfl | trivial) (by (simp only[dD,bY,or_true,true_or,cG,un h1,li,i7,i5,a7])<;>(repeat' apply aS)<;>first | exact .inr rfl | exact .inl rfl | trivial))⟩
   ·refine(fC (bz @fF hm1)) ?_;have hd:=ru a0 a1 1 b1 1 [ab 0,ab 0] h1;refine zS [0,3,5] (cL hrc hbc hkc) hd ?_;refine(zR) ?_;refine⟨rfl,(Fg.less (by (simp only[dD,bY,fQ,↓reduceIte,aa,cG,ut h1,append_nil,i7,i5,flatMap_cons,flatMap_nil,cT])<;>(repeat' apply aS)<;>first | rfl | trivial) (by (simp only[dD,bY,or_true,true_or,cG,ut h1,append_nil,i7,i5,flatMap_cons,flatMap_nil,cT])<;>(repeat' apply aS)<;>first | exact .inr rfl | exact .inl rfl | trivial))⟩
  rintro e st ⟨rfl,hfg⟩;refine aE.fg hfg ?_;clear hfg
  (try change aE _ _ _ _ _)
  have hq1:([(0,0)]++cG a0 a1 1 b1).length<=1000:=by
   unfold cG;split<;>simp
  (repeat refine aE.seq ?_)
  refine aE.mono (Q:=λe st=>e=.normal/\Fg st ⟨[(3,.ptr 1 0),(4,.ptr 2 0),(5,.ptr 3 0),(6,.fn 355 [] [.ptr 0 0,.ptr 3 0])],51,[.cells [ab a0,ab a1],.cells [ab b0,ab b1],.cells [ab 0,ab 0],.cells [.buf 5 (([(0,0)]++cG a0 a1 1 b1)++cG a0 a1 b0 (cC b1 (-1))).length 2 none],.gone,.cells ((([(0,0)]++cG a0 a1 1 b1)++cG a0 a1 b0 (cC b1 (-1))).flatMap cT)],[]⟩) ?_ ?_
  ·generalize ([(0,0)]++cG a0 a1 1 b1)=q1 at hq1;by_cases h2:b0<=cC b1 (-1)
   ·refine(fC @jx) ?_;have hd:=xq a0 a1 b0 (cC b1 (-1)) q1 hq1 h2;refine zS [0,3,5] (cL hrc hbc hkc) hd ?_;refine(zR) ?_;refine⟨rfl,(Fg.less (by (simp only[dD,bY,fQ,↓reduceIte,aa,cG,un h2,li,i7,i5,a7])<;>(repeat' apply aS)<;>first | rfl | trivial) (by (simp only[dD,bY,or_true,true_or,cG,un h2,li,i7,i5,a7])<;>(repeat' apply aS)<;>first | exact .inr rfl | exact .inl rfl | trivial))⟩
   ·refine(fC @jx) ?_;have hd:=ru a0 a1 b0 (cC b1 (-1)) q1.length (q1.flatMap cT) h2;refine zS [0,3,5] (cL hrc hbc hkc) hd ?_;refine(zR) ?_;refine⟨rfl,(Fg.less (by (simp only[dD,bY,fQ,↓reduceIte,aa,cG,ut h2,append_nil])<;>(repeat' apply aS)<;>first | rfl | trivial) (by (simp only[dD,bY,or_true,true_or,cG,ut h2,append_nil])<;>(repeat' apply aS)<;>first | exact .inr rfl | exact .inl rfl | trivial))⟩
  rintro e st ⟨rfl,hfg⟩;refine aE.fg hfg ?_;clear hfg
  (try change aE _ _ _ _ _)
  obtain⟨rows,hrows⟩:∃rows,rows=(([(0,0)]++cG a0 a1 1 b1)++cG a0 a1 b0 (cC b1 (-1))):=⟨_,rfl⟩
  have hne:rows≠[]:=by rw[hrows];simp
  obtain⟨x0,hr0⟩:∃x0,rows[0]?=some x0:=by
   cases h:rows with
   | nil=>exact ul h hne
   | cons x r=>exact⟨x,rfl⟩
  have h0r:0<rows.length:=bx hr0
  have hlen:rows.length<=1000000:=by rw[hrows];(unfold cG;split<;>split<;>simp)
  have hD:eD a0 a1 b0 b1=rows.foldl eo x0:=by rw[eD,d1,<-hrows,show rows.headD (0,0)=x0 by cases rows with | nil=>exact ul rfl hne | cons x r=>simpa using hr0]
  have ht2:(rows.flatMap cT).take 2=[ab x0.1,ab x0.2]:=by
   have:=aQ (e:=2) (enc:=cT) (λ_=>rfl) hr0
   rwa [bv,cn] at this
  rw[<-hrows];clear hrows
  refine(az (F4 (show dh (.int .i64 0)=some 0 from rfl) @bv h0r hkc hcl ht2 (show 2<=rows.length*2 by omega)))<|(zV)<|(zs) ?_;refine zL rows (λk=>True) (λk=>[(4,.ptr 2 0),(7,.ptr 6 0),(40,.buf 5 rows.length 2 none),(41,ab rows.length),(42,ab k)]) (λk=>[.gone,.gone,.cells [ab 0,ab 0],.gone,.gone,.cells (rows.flatMap cT),.cells [ab ((rows.take k).foldl eo x0).1,ab ((rows.take k).foldl eo x0).2]]) (bN (cL @take_zero.{0} @foldl_nil.{0,0} hkc)) zp ?_;intro k hk hall;refine zT rows k ?_ ?_;rintro rfl;rotate_left;intro x hx hlt;rotate_left
  ·refine(gE) ?_;rw[ba]
   exact(zV)<|zo [.cell 4 52] (hq:=by rw[hD,oJ,lJ])
  have hst:=vV (f:=eo) (a:=x0) hx;obtain⟨p,q,hpq⟩:∃p q,(rows.take k).foldl eo x0=(p,q):=⟨_,_,rfl⟩;rw[hpq] at hst ⊢
  refine(gO)<|(az (wS hlt (aQ (e:=2) (enc:=cT) (λ_=>rfl) hx) @cT.eq_1 hcl (show k*2+2<=rows.length*2 by omega) hkc))<|(zC)<|(zK (og p q x.1 x.2))<|(cH (bz @oJ.eq_1 @lJ.eq_1))<|(az (zi hlt hlen)) ?_;refine zX hlt (bN (cL hst @eo.eq_1 hkc)) trivial
 by_cases hp:1<=b0
 ·refine(az (show decide (b0<=0)=false by simp;omega))<|(ly) ?_
  have hm1:bT b0 1=b0:=by unfold bT;split<;>omega
  have hm2:cC b1 (-1) = -1:=by unfold cC;split<;>omega
  have d1:dQ a0 a1 b0 b1=[(pH a0 a1 b0,pG a0 a1 b0),(pH a0 a1 b1,pG a0 a1 b1)]:=by rw[dQ,ut hz,hm1,hm2,cG,un hb,cG,ut ii];rfl
  refine(fC (bz @fF hm1)) ?_;have hd:=xr a0 a1 b0 b1 hb
  refine zS [0,3] (cL hrc hbc hkc) hd ?_;refine(zR)<|(fC (bz @jx hm2)) ?_
  have hd2:=ru a0 a1 b0 (-1) 2 [ab (pH a0 a1 b0),ab (pG a0 a1 b0),ab (pH a0 a1 b1),ab (pG a0 a1 b1)] ii;refine zS [0,3,6] (cL hrc hbc hkc) hd2 ?_;refine(zR) ?_;obtain⟨rows,hrows⟩:∃rows,rows=[(pH a0 a1 b0,pG a0 a1 b0),(pH a0 a1 b1,pG a0 a1 b1)]:=⟨_,rfl⟩
  have hne:rows≠[]:=by rw[hrows];simp
  obtain⟨x0,hr0⟩:∃x0,rows[0]?=some x0:=by
   cases h:rows with
   | nil=>exact ul h hne
   | cons x r=>exact⟨x,rfl⟩
  have h0r:0<rows.length:=bx hr0
  have hlen:rows.length<=1000000:=by rw[hrows];simp
  have hD:eD a0 a1 b0 b1=rows.foldl eo x0:=by rw[eD,d1,<-hrows,show rows.headD (0,0)=x0 by cases rows with | nil=>exact ul rfl hne | cons x r=>simpa using hr0]
  have ht2:(rows.flatMap cT).take 2=[ab x0.1,ab x0.2]:=by
   have:=aQ (e:=2) (enc:=cT) (λ_=>rfl) hr0
   rwa [bv,cn] at this
  rw[show([ab (pH a0 a1 b0),ab (pG a0 a1 b0),ab (pH a0 a1 b1),ab (pG a0 a1 b1)]:List SV)=rows.flatMap cT by rw[hrows];rfl,show(SV.buf 6 2 2 none)=.buf 6 rows.length 2 none by rw[hrows];rfl];clear hrows
  refine(az (F4 (show dh (.int .i64 0)=some 0 from rfl) @bv h0r hkc hcl ht2 (show 2<=rows.length*2 by omega)))<|(zV)<|(zs) ?_;refine zL rows (λk=>True) (λk=>[(4,.ptr 2 0),(7,.ptr 7 0),(40,.buf 6 rows.length 2 none),(41,ab rows.length),(42,ab k)]) (λk=>[.gone,.gone,.cells [ab 0,ab 0],.gone,.gone,.gone,.cells (rows.flatMap cT),.cells [ab ((rows.take k).foldl eo x0).1,ab ((rows.take k).foldl eo x0).2]]) (bN (cL @take_zero.{0} @foldl_nil.{0,0} hkc)) zp ?_;intro k hk hall;refine zT rows k ?_ ?_;rintro rfl;rotate_left;intro x hx hlt;rotate_left
  ·refine(gE) ?_;rw[ba]
   exact(zV)<|zo [.cell 4 52] (hq:=by rw[hD,oJ,lJ])
  have hst:=vV (f:=eo) (a:=x0) hx;obtain⟨p,q,hpq⟩:∃p q,(rows.take k).foldl eo x0=(p,q):=⟨_,_,rfl⟩;rw[hpq] at hst ⊢
  refine(gO)<|(az (wS hlt (aQ (e:=2) (enc:=cT) (λ_=>rfl) hx) @cT.eq_1 hcl (show k*2+2<=rows.length*2 by omega) hkc))<|(zC)<|(zK (og p q x.1 x.2))<|(cH (bz @oJ.eq_1 @lJ.eq_1))<|(az (zi hlt hlen)) ?_;refine zX hlt (bN (cL hst @eo.eq_1 hkc)) trivial
 ·have hn:b1 <= -1:=by omega
  by_cases hq0:b0<=0;rotate_left
  ·omega
  refine(az (bz (show decide (b0<=0)=true by simpa using hq0) (show decide (0<=b1)=false by simp;omega)))<|(ly) ?_
  have hm1:bT b0 1=1:=by unfold bT;split<;>omega
  have hm2:cC b1 (-1)=b1:=by unfold cC;split<;>omega
  have d1:dQ a0 a1 b0 b1=[(pH a0 a1 b0,pG a0 a1 b0),(pH a0 a1 b1,pG a0 a1 b1)]:=by rw[dQ,ut hz,hm1,hm2,cG,ut ii,cG,un hb];rfl
  refine(fC (bz @fF hm1)) ?_;have hd:=HM a0 a1 1 b1 ii
  refine zS [0,3] (cL hrc hbc hkc) hd ?_;refine(zR)<|(fC (bz @jx hm2)) ?_
  have hd2:=xr a0 a1 b0 b1 hb;refine zS [0,3] (cL hrc hbc hkc) hd2 ?_;refine(zR) ?_;obtain⟨rows,hrows⟩:∃rows,rows=[(pH a0 a1 b0,pG a0 a1 b0),(pH a0 a1 b1,pG a0 a1 b1)]:=⟨_,rfl⟩
  have hne:rows≠[]:=by rw[hrows];simp
  obtain⟨x0,hr0⟩:∃x0,rows[0]?=some x0:=by
   cases h:rows with
   | nil=>exact ul h hne
   | cons x r=>exact⟨x,rfl⟩
  have h0r:0<rows.length:=bx hr0
  have hlen:rows.length<=1000000:=by rw[hrows];simp
  have hD:eD a0 a1 b0 b1=rows.foldl eo x0:=by rw[eD,d1,<-hrows,show rows.headD (0,0)=x0 by cases rows with | nil=>exact ul rfl hne | cons x r=>simpa using hr0]
  have ht2:(rows.flatMap cT).take 2=[ab x0.1,ab x0.2]:=by
   have:=aQ (e:=2) (enc:=cT) (λ_=>rfl) hr0
   rwa [bv,cn] at this
  rw[show([ab (pH a0 a1 b0),ab (pG a0 a1 b0),ab (pH a0 a1 b1),ab (pG a0 a1 b1)]:List SV)=rows.flatMap cT by rw[hrows];rfl,show(SV.buf 6 2 2 none)=.buf 6 rows.length 2 none by rw[hrows];rfl];clear hrows
  refine(az (F4 (show dh (.int .i64 0)=some 0 from rfl) @bv h0r hkc hcl ht2 (show 2<=rows.length*2 by omega)))<|(zV)<|(zs) ?_;refine zL rows (λk=>True) (λk=>[(4,.ptr 2 0),(7,.ptr 7 0),(40,.buf 6 rows.length 2 none),(41,ab rows.length),(42,ab k)]) (λk=>[.gone,.gone,.cells [ab 0,ab 0],.gone,.gone,.gone,.cells (rows.flatMap cT),.cells [ab ((rows.take k).foldl eo x0).1,ab ((rows.take k).foldl eo x0).2]]) (bN (cL @take_zero.{0} @foldl_nil.{0,0} hkc)) zp ?_;intro k hk hall;refine zT rows k ?_ ?_;rintro rfl;rotate_left;intro x hx hlt;rotate_left
  ·refine(gE) ?_;rw[ba]
   exact(zV)<|zo [.cell 4 52] (hq:=by rw[hD,oJ,lJ])
  have hst:=vV (f:=eo) (a:=x0) hx;obtain⟨p,q,hpq⟩:∃p q,(rows.take k).foldl eo x0=(p,q):=⟨_,_,rfl⟩;rw[hpq] at hst ⊢
  refine(gO)<|(az (wS hlt (aQ (e:=2) (enc:=cT) (λ_=>rfl) hx) @cT.eq_1 hcl (show k*2+2<=rows.length*2 by omega) hkc))<|(zC)<|(zK (og p q x.1 x.2))<|(cH (bz @oJ.eq_1 @lJ.eq_1))<|(az (zi hlt hlen)) ?_;refine zX hlt (bN (cL hst @eo.eq_1 hkc)) trivial
structure gm where
 u1:Int
 u2:Int
 u3:Int
 u4:Int
 u5:Int
 u6:Int
def ew(u:gm):List SV:=[ab u.u1,ab u.u2,ab u.u3,ab u.u4,ab u.u5,ab u.u6]
def ju(u:gm)(op:Int):Int×Int:=if op=2 then (u.u1,u.u2) else if op=3 then (u.u3,u.u4) else (u.u5,u.u6)
def applyN(op:Int)(a b:Int×Int):Int×Int:=
 if op=5 then dC fV a.1 a.2 b.1 b.2 else if op=6 then dC tl a.1 a.2 b.1 b.2 else if op=7 then dC rq a.1 a.2 b.1 b.2
 else if op=9 then (cC a.1 b.1,cC a.2 b.2) else if op=10 then (bT a.1 b.1,bT a.2 b.2) else eD a.1 a.2 b.1 b.2
def js(a b c:Int×Int):Int×Int:=if gS a.1 a.2 0=2 then b else if gS a.1 a.2 0=0 then c else lq b.1 b.2 c.1 c.2
def Fb(u:gm)(n:Int):PC prog 348 [.ag (ew u),ab n] (·=oJ (n,n)):=by
 refine pB 8 Tryz.func348 ?_;exact(az @ew.eq_1)<|(zV)<|zo [.cell 4 52]
def E5(u:gm)(op:Int):PC prog 347 [.ag (ew u),ab op] (·=oJ (ju u op)):=by
 refine pB 19 Tryz.func347 ?_;refine(az @ew.eq_1)<|(zV)<|(zB) ?_
 cases h1:decide (op=2);rotate_left
 ·exact(az h1)<|(cB)<|zo [.cell 4 52] (hq:=by rw[ju,un (ww h1)];rfl)
 refine(az h1)<|(zN) ?_
 cases h2:decide (op=3);rotate_left
 ·exact(az h2)<|(cB)<|zo [.cell 4 52] (hq:=by rw[ju,ut (wt h1),un (ww h2)];rfl)
 exact(az h2)<|(ly)<|zo [.cell 4 52] (hq:=by rw[ju,ut (wt h1),ut (wt h2)];rfl)
def EM(u:gm)(a b c:Int×Int):PC prog 346 [.ag (ew u),oJ a,oJ b,oJ c] (·=oJ (js a b c)):=by
 refine pB 20 Tryz.func346 ?_;refine(az (cL @ew.eq_1 @oJ.eq_1 @lJ.eq_1))<|(zC)<|(zK (rz a.1 a.2 0))<|(zR)<|(zB) ?_
 cases h1:decide (gS a.1 a.2 0=2);rotate_left
 ·exact(az h1)<|(cB)<|zo [.cell 8 52] (hq:=by rw[js,un (ww h1)];rfl)
 refine(az h1)<|(zN) ?_
 cases h2:decide (gS a.1 a.2 0=0);rotate_left
 ·exact(az h2)<|(cB)<|zo [.cell 8 52] (hq:=by rw[js,ut (wt h1),un (ww h2)];rfl)
 exact(az h2)<|(NU)<|(zK (og b.1 b.2 c.1 c.2))<|(cH (bz @oJ.eq_1 @lJ.eq_1))<|zo [.cell 8 52] (hq:=by rw[js,ut (wt h1),ut (wt h2)];rfl)
def HC(u:gm)(op:Int)(a b:Int×Int)(hb:b.1<=b.2):PC prog 345 [.ag (ew u),ab op,oJ a,oJ b] (·=oJ (applyN op a b)):=by
 refine pB 54 Tryz.func345 ?_;refine(az (cL @ew.eq_1 @oJ.eq_1 @lJ.eq_1))<|(zV)<|(zB) ?_
 cases h1:decide (op=5);rotate_left
 ·exact(az h1)<|(zY)<|(zC)<|(zK (qx a.1 a.2 b.1 b.2))<|(cH (bz @oJ.eq_1 @lJ.eq_1))<|zo [.cell 8 52] (hq:=by rw[applyN,un (ww h1)];rfl)
 have g1:=wt h1
 refine(az h1)<|(zN) ?_
 cases h2:decide (op=6);rotate_left
 ·exact(az h2)<|(zY)<|(zC)<|(zK (Kb a.1 a.2 b.1 b.2))<|(cH (bz @oJ.eq_1 @lJ.eq_1))<|zo [.cell 8 52] (hq:=by rw[applyN,ut g1,un (ww h2)];rfl)
 have g2:=wt h2
 refine(az h2)<|(zN) ?_
 cases h3:decide (op=7);rotate_left
 ·exact(az h3)<|(zY)<|(zC)<|(zK (Ka a.1 a.2 b.1 b.2))<|(cH (bz @oJ.eq_1 @lJ.eq_1))<|zo [.cell 8 52] (hq:=by rw[applyN,ut g1,ut g2,un (ww h3)];rfl)
 have g3:=wt h3
 refine(az h3)<|(zN) ?_
 cases h4:decide (op=9);rotate_left
 ·exact(az h4)<|(zY)<|(az @jx)<|zo [.cell 8 52] (hq:=by rw[applyN,ut g1,ut g2,ut g3,un (ww h4)];rfl)
 have g4:=wt h4
 refine(az h4)<|(zN) ?_
 cases h5:decide (op=10);rotate_left
 ·exact(az h5)<|(zY)<|(az @fF)<|zo [.cell 8 52] (hq:=by rw[applyN,ut g1,ut g2,ut g3,ut g4,un (ww h5)];rfl)
 have g5:=wt h5
 exact(az h5)<|(NU)<|(zK (HN a.1 a.2 b.1 b.2 hb))<|(cH (bz @oJ.eq_1 @lJ.eq_1))<|zo [.cell 8 52] (hq:=by rw[applyN,ut g1,ut g2,ut g3,ut g4,ut g5];rfl)
inductive bo where
 | mk (op n:Int) (kids:List bo)
def bo.op:bo->Int
 | .mk op _ _=>op
mutual
def aC:bo->List SV
 | .mk op n kids=>[ab op,ab n,.sl kids.length 3 (qP kids)]
def qP:List bo->List SV
 | []=>[]
 | f::fs=>aC f++qP fs
end
def wW:∀l:List bo,qP l=l.flatMap aC
 | []=>by rw[qP];rfl
 | f::l=>by rw[qP,wW l,flatMap_cons]
def dn(op n:Int)(kids:List bo):aC (.mk op n kids)=[ab op,ab n,.sl kids.length 3 (kids.flatMap aC)]:=by rw[aC,wW]
def fa(f:bo):(aC f).length=3:=by
 obtain⟨op,n,kids⟩:=f;rw[dn];rfl
def aW(f:bo):bZ (aC f)=true:=by
 obtain⟨op,n,kids⟩:=f;rw[dn];rfl
inductive gZ:bo->Prop
 | mk {op n:Int} {kids:List bo}:kids.length<=1000000->(∀k∈kids,gZ k)->gZ (.mk op n kids)
mutual
def fU:bo->Int->Int
 | .mk _ _ kids,most=>iB kids most 1
def iB:List bo->Int->Int->Int
 | [],_,n=>n
 | k::ks,most,n=>if most<n then n else iB ks most (vI n (fU k (rp most n)))
end
def xD:∀(d:Nat) (f:bo),SizeOf.sizeOf f<d->gZ f->∀most:Int,PC Tryz.prog 102 [.ag (aC f),ab most] (·=ab (fU f most))
 | 0,f,hd,_,_=>ul hd (Nat.not_lt_zero _)
 | d+1,.mk op n kids,hd,hf,most=>by
  cases hf with
  | mk hlen hks=>
  have hkd:∀k∈kids,SizeOf.sizeOf k<d:=λk hk=>by
   have h1:=List.sizeOf_lt_of_mem hk
   have h2:SizeOf.sizeOf (bo.mk op n kids)=1+SizeOf.sizeOf op+SizeOf.sizeOf n+SizeOf.sizeOf kids:=by simp
   omega
  rw[dn,fU]
  refine pB 27 Tryz.func102 ?_;refine(oL)<|(zV)<|(zs) ?_;refine KG kids (λk (acc:Int)=>iB kids most 1=iB (kids.drop k) most acc) (λk acc=>[(1,ab most),(5,ab acc),(9,an 3 kids aC),(10,ab kids.length),(11,ab k)]) (λk acc=>[]) (1) zH g9 ?_;intro k acc hk hall;refine zT kids k ?_ ?_;rintro rfl;rotate_left;intro x hx hlt;rotate_left
  ·exact(gE)<|(zV)<|zo [.tmp 4] (hq:=by rw[hall,List.drop_length,iB])
  rw[e9 hx,iB] at hall;have hxm:=List.mem_of_getElem? hx;have ih:=xD d x (hkd x hxm) (hks x hxm);have hxl:((kids.flatMap aC).drop (k*3)).take 3=aC x:=aQ (e:=3) (enc:=aC) fa hx;obtain⟨op',n',kids'⟩:=x;simp only[dn] at hxl ih
  refine(gO)<|(az (bz hlt hxl)) ?_
  cases h1:decide (most<acc);rotate_left
  ·refine(az h1)<|(zY) ?_;refine aE.exit ?_;exact(zV)<|zo [.tmp 4] (hq:=by rw[hall,un (ww h1)])
  refine(az h1)<|(zN) ?_
  rw[ut (wt h1)] at hall
  refine(fC @oN)<|(zK (ih (rp most acc)))<|(cH @tM)<|(az (zi hlt hlen)) ?_;refine yL hlt (vI acc (fU (.mk op' n' kids') (rp most acc))) zH hall
def Kk(f:bo)(hf:gZ f)(most:Int):PC prog 102 [.ag (aC f),ab most] (·=ab (fU f most)):=xD _ f (ck _) hf most
def rG(op:Int):Nat:=if op=11 then 3 else if 5<=op then 2 else 0
mutual
def eY:bo->Bool
 | .mk op n kids=>(decide (1<=op)&&decide (op<=11))&&(decide (kids.length=rG op)&&(!(decide (n<0))&&(!(decide (9999999<n))&&!(decide (0<n)&&!(decide (op=1))))))&&uQ kids
def uQ:List bo->Bool
 | []=>true
 | k::ks=>eY k&&uQ ks
end
def qn:∀l:List bo,uQ l=l.all eY
 | []=>by rw[uQ];rfl
 | a::l=>by rw[uQ,qn l,el]
def xF:∀(d:Nat) (f:bo),SizeOf.sizeOf f<d->gZ f->PC Tryz.prog 103 [.ag (aC f)] (·=ak (eY f))
 | 0,f,hd,_=>ul hd (Nat.not_lt_zero _)
 | d+1,.mk op n kids,hd,hf=>by
  cases hf with
  | mk hlen hks=>
  have hkd:∀k∈kids,SizeOf.sizeOf k<d:=λk hk=>by
   have h1:=List.sizeOf_lt_of_mem hk
   have h2:SizeOf.sizeOf (bo.mk op n kids)=1+SizeOf.sizeOf op+SizeOf.sizeOf n+SizeOf.sizeOf kids:=by simp
   omega
  rw[dn,eY,qn];refine pB 59 Tryz.func103 ?_;refine(oL) ?_
  (repeat refine aE.seq ?_)
  cases h1:decide (op<1);rotate_left
  ·refine aE.block ?_;exact(az h1)<|(cB)<|zo [.tmp 2] (hq:=by rw[show decide (1<=op)=false by have:=ww h1;simp;omega];rfl)
  cases h2:decide (11<op);rotate_left
  ·refine aE.block ?_;exact(az (bz h1 h2))<|(cB)<|zo [.tmp 2] (hq:=by rw[show decide (op<=11)=false by have:=ww h2;simp;omega,Bool.and_false];rfl)
  have g1:=wt h1;have g2:=wt h2;rw[show decide (1<=op)=true by simp;omega,show decide (op<=11)=true by simp;omega];refine aE.mono (Q:=λe st=>e=.normal/\Fg st ⟨[(1,.ptr 0 0),(3,re (rG op))],59,[.cells [ab op,ab n,.sl kids.length 3 (kids.flatMap aC)]],[]⟩) ?_ ?_
  ·refine aE.block ?_;refine(az (bz h1 h2))<|(zN) ?_
   cases h3:decide (op=11);rotate_left
   ·refine(az h3)<|(cB) ?_;exact⟨rfl,(Fg.less (by (simp only[dD,bY,fQ,↓reduceIte,Nat.reduceEqDiff,rG,un (ww h3)])<;>(repeat' apply And.intro)<;>first | rfl | trivial) (by (simp only[dD,bY,or_true,true_or,rG,un (ww h3)])<;>(repeat' apply And.intro)<;>first | exact .inr rfl | exact .inl rfl | trivial))⟩
   refine(az h3)<|(zN) ?_
   cases h4:decide (5<=op);rotate_left
   ·refine(az h4)<|(cB) ?_;exact⟨rfl,(Fg.less (by (simp only[dD,bY,fQ,↓reduceIte,Nat.reduceEqDiff,rG,ut (wt h3),un (ww h4)])<;>(repeat' apply And.intro)<;>first | rfl | trivial) (by (simp only[dD,bY,or_true,true_or,rG,ut (wt h3),un (ww h4)])<;>(repeat' apply And.intro)<;>first | exact .inr rfl | exact .inl rfl | trivial))⟩
   ·refine(az h4)<|(zN) ?_;exact⟨rfl,(Fg.less (by (simp only[dD,bY,fQ,↓reduceIte,Nat.reduceEqDiff,rG,ut (wt h3),ut (wt h4)])<;>(repeat' apply And.intro)<;>first | rfl | trivial) (by (simp only[dD,bY,or_true,true_or,rG,ut (wt h3),ut (wt h4)])<;>(repeat' apply And.intro)<;>first | exact .inr rfl | exact .inl rfl | trivial))⟩
  rintro e st ⟨rfl,hfg⟩;refine aE.fg hfg ?_;clear hfg
  (try change aE _ _ _ _ _)
  generalize rG op=w;by_cases h3:kids.length=w;rotate_left
  ·rw[show decide (kids.length=w)=false by simpa using h3]
   exact(az (show decide ((kids.length:Int)=(w:Int))=false by simp;omega))<|(cB)<|zo [.tmp 2]
  rw[show decide (kids.length=w)=true by simpa using h3]
  have h3':decide ((kids.length:Int)=(w:Int))=true:=by simp;omega
  cases h4:decide (n<0);rotate_left
  ·exact(az (bz h3' h4))<|(cB)<|zo [.tmp 2]
  cases h5:decide (9999999<n);rotate_left
  ·exact(az (cL h3' h4 h5))<|(cB)<|zo [.tmp 2]
  by_cases h7:(decide (0<n)&&!(decide (op=1)))=true
  ·rw[Bool.and_eq_true,Bool.not_eq_true'] at h7
   exact(az (lB h3' h4 h5 @h7.1 @h7.2))<|(cB)<|zo [.tmp 2] (hq:=by rw[h7.1,h7.2];rfl)
  have h8:(decide (0<n)&&!(decide (op=1)))=false:=by simpa using h7
  rw[h8]
  (repeat refine aE.seq ?_)
  refine aE.mono (Q:=λe st=>e=.normal/\Fg st ⟨[(1,.ptr 0 0),(47,ak false)],59,[.cells [ab op,ab n,.sl kids.length 3 (kids.flatMap aC)]],[]⟩) ?_ ?_
  ·cases h6:decide (0<n)
   ·refine(az (gh h3' h4 h5 h6)) ?_;exact⟨rfl,zH⟩
   ·rw[h6] at h8
    have h9:decide (op=1)=true:=by
     cases h:decide (op=1) with
     | true=>rfl
     | false=>rw[h] at h8;cases h8
    refine(az (lB h3' h4 h5 h6 h9)) ?_;exact⟨rfl,zH⟩
  rintro e st ⟨rfl,hfg⟩;refine aE.fg hfg ?_;clear hfg
  (try change aE _ _ _ _ _)
  refine(ly)<|(zs) ?_;refine zL kids (λk=>(kids.take k).all eY=true) (λk=>[(49,an 3 kids aC),(50,ab kids.length),(51,ab k)]) (λk=>[]) zH zp ?_;intro k hk hall;refine zT kids k ?_ ?_;rintro rfl;rotate_left;intro x hx hlt;rotate_left
  ·refine(gE)<|(zV) ?_
   rw[List.take_length] at hall;exact zo [.tmp 2] (hq:=by rw[hall];rfl)
  have hxm:=List.mem_of_getElem? hx;have ih:=xF d x (hkd x hxm) (hks x hxm);have hxl:((kids.flatMap aC).drop (k*3)).take 3=aC x:=aQ (e:=3) (enc:=aC) fa hx
  have hnext:eY x=true->(kids.take (k+1)).all eY=true:=λh=>by rw[c8 hx,List.all_append,hall];simp[h]
  have hbad:eY x=false->kids.all eY=false:=λh=>by rw[List.all_eq_false];exact⟨x,hxm,by rw[h];decide⟩
  obtain⟨op',n',kids'⟩:=x;simp only[dn] at hxl ih
  refine(gO)<|(az (bz hlt hxl))<|(zC)<|(zK ih) ?_
  cases h10:eY (.mk op' n' kids')
  ·exact(zR)<|(cB)<|zo [.tmp 2] (hq:=by rw[hbad h10];rfl)
  refine(zR)<|(zN)<|(az (zi hlt hlen)) ?_;refine zX hlt zH (hnext h10)
def Bj(f:bo)(hf:gZ f):PC prog 103 [.ag (aC f)] (·=ak (eY f)):=xF _ f (ck _) hf
def fZ(f:bo):Bool:=decide (fU f 60<=60)&&eY f
def rC(f:bo)(hf:gZ f):PC prog 43 [.ag (aC f)] (·=ak (Proofs.fZ f)):=by
 have hn:=Kk f hf 60;have hr:=Bj f hf;refine pB 10 Tryz.func43 ?_;have hv:Proofs.fZ f=(decide (fU f 60<=60)&&eY f):=rfl;generalize fU f 60=N at hn hv;generalize eY f=R at hr hv;obtain⟨op,n,kids⟩:=f;rw[dn] at hn hr ⊢
 refine(jM)<|(zK hn) ?_
 cases h1:decide (N<=60)
 ·exact(cH h1)<|zo [.tmp 2] (hq:=by rw[hv,h1];rfl)
 exact(NV h1)<|(zK hr)<|(zR)<|zo [.tmp 2] (hq:=by rw[hv,h1];rfl)
mutual
def ke(u:gm):bo->Int×Int
 | .mk op n kids=>
  if op=1 then (n,n) else if op<=4 then ju u op
  else match kD u kids with
   | a::b::l=>if op=11 then (match l with
    | c::_=>js a b c
    | []=>(0,0)) else applyN op a b
   | _=>(0,0)
def kD(u:gm):List bo->List (Int×Int)
 | []=>[]
 | k::ks=>ke u k::kD u ks
end
def Lu(p q r s:Int):cC (cC (cC p q) r) s<=bT (bT (bT p q) r) s:=by
 have h1:∀a b:Int,cC a b<=a:=λa b=>by unfold cC;split<;>omega
 have h2:∀a b:Int,a<=bT a b:=λa b=>by unfold bT;split<;>omega
 have:=h1 p q;have:=h1 (cC p q) r;have:=h1 (cC (cC p q) r) s;have:=h2 p q;have:=h2 (bT p q) r;have:=h2 (bT (bT p q) r) s;omega
def DC(f:Int->Int->Int)(a b c d:Int):(dC f a b c d).1<=(dC f a b c d).2:=by
 unfold dC;split
 ·exact Lu _ _ _ _
 ·exact cp _
def join_le(a b c d:Int):(lq a b c d).1<=(lq a b c d).2:=by
 unfold lq;split
 ·exact Lu _ _ _ _
 ·exact cp _
def RC(l:List (Int×Int))(x:Int×Int)(h:l≠[]):(l.foldl eo x).1<=(l.foldl eo x).2:=by
 rcases List.eq_nil_or_concat l with rfl | ⟨a,y,rfl⟩
 ·exact ul rfl h
 ·rw[List.concat_eq_append,ce];exact join_le _ _ _ _
def ME(a0 a1 b0 b1:Int):(eD a0 a1 b0 b1).1<=(eD a0 a1 b0 b1).2:=by
 unfold eD;by_cases h:dQ a0 a1 b0 b1=[]
 ·rw[h];exact cp _
 ·exact RC _ _ h
def CI{a b c d:Int}(h1:a<=b)(h2:c<=d):cC a c<=cC b d/\bT a c<=bT b d:=by
 unfold cC bT;constructor<;>split<;>split<;>omega
def Og(op:Int){a b:Int×Int}(ha:a.1<=a.2)(hb:b.1<=b.2):(applyN op a b).1<=(applyN op a b).2:=by
 unfold applyN;split
 ·exact DC _ _ _ _ _
 split
 ·exact DC _ _ _ _ _
 split
 ·exact DC _ _ _ _ _
 split
 ·exact(CI ha hb).1
 split
 ·exact(CI ha hb).2
 ·exact ME _ _ _ _
def Ms{a b c:Int×Int}(hb:b.1<=b.2)(hc:c.1<=c.2):(js a b c).1<=(js a b c).2:=by
 unfold js;split
 ·exact hb
 split
 ·exact hc
 ·exact join_le _ _ _ _
structure gm.ok (u:gm):Prop where
 a:u.u1<=u.u2
 b:u.u3<=u.u4
 c:u.u5<=u.u6
def MV{u:gm}(h:u.ok)(op:Int):(ju u op).1<=(ju u op).2:=by
 unfold ju;split
 ·exact h.a
 split
 ·exact h.b
 ·exact h.c
mutual
def L4{u:gm}(h:u.ok):∀f:bo,(ke u f).1<=(ke u f).2
 | .mk op n kids=>by
  have ih:=Hz h kids;rw[ke];split
  ·exact cp _
  split
  ·exact MV h op
  ·split
   ·rename_i a b l hl;rw[hl] at ih;split
    ·split
     ·exact Ms (ih _ gc) (ih _ gc)
     ·exact cp _
    ·exact Og op (ih _ gc) (ih _ gc)
   ·exact cp _
def Hz{u:gm}(h:u.ok):∀l:List bo,∀p∈kD u l,p.1<=p.2
 | [],p,hp=>by rw[kD] at hp;cases hp
 | k::ks,p,hp=>by
  rw[kD] at hp
  rcases t6 hp with rfl | hp
  ·exact L4 h k
  ·exact Hz h ks p hp
end
def CM(P:Program)(nm:String)(t:TypeId)(v:AV)(ys:List AV):Ev.bF P (.a (.fn (.method nm) [.iface t v] ys))=(jw P t nm).map λ_=>.a (.fn (.method nm) [.iface t v] ys):=rfl
def ql(u:gm):SV:=.iface 203 (.ag (ew u))
def E8:jw prog 203 "bogie/formula.number"=some 348:=by kernel_rfl
def E7:jw prog 203 "bogie/formula.letter"=some 347:=by kernel_rfl
def xC:jw prog 203 "bogie/formula.apply"=some 345:=by kernel_rfl
def vp:jw prog 203 "bogie/formula.choose"=some 346:=by kernel_rfl
def Df(u:gm)(hu:u.ok):∀(d:Nat) (f:bo),SizeOf.sizeOf f<d->gZ f->eY f=true->PC Tryz.prog 121 [ql u,.ag (aC f)] (·=oJ (ke u f))
 | 0,f,hd,_,_=>ul hd (Nat.not_lt_zero _)
 | d+1,.mk op n kids,hd,hf,hr=>by
  cases hf with
  | mk hlen hks=>
  have hkd:∀k∈kids,SizeOf.sizeOf k<d:=λk hk=>by
   have h1:=List.sizeOf_lt_of_mem hk
   have h2:SizeOf.sizeOf (bo.mk op n kids)=1+SizeOf.sizeOf op+SizeOf.sizeOf n+SizeOf.sizeOf kids:=by simp
   omega
  rw[dn,ke]
  refine pB 67 Tryz.func121 ?_;refine(az (bz @ql.eq_1 @ew.eq_1))<|(zB) ?_
  cases h1:decide (op=1);rotate_left
  ·refine(az h1)<|(zY) ?_
   rw[un (ww h1)]
   exact(zC)<|(zK (Fb u n) (hc:=IH @E8))<|(cH (bz @oJ.eq_1 @lJ.eq_1))<|zo [.cell 4 52]
  rw[ut (wt h1)]
  refine(az h1)<|(zN) ?_
  cases h2:decide (op<=4);rotate_left
  ·refine(az h2)<|(zY) ?_
   rw[un (ww h2)]
   exact(zC)<|(zK (E5 u op) (hc:=IH @E7))<|(cH (bz @oJ.eq_1 @lJ.eq_1))<|zo [.cell 4 52]
  rw[ut (wt h2)]
  refine(az h2)<|(zN) ?_
  rw[eY,Bool.and_eq_true,Bool.and_eq_true,Bool.and_eq_true,Bool.and_eq_true] at hr;obtain⟨⟨hr1,hr2,_⟩,hr3⟩:=hr;have hop1:=ww hr1.1;have hop2:=ww hr1.2;have hkl:=ww hr2;have h1':=wt h1;have h2':=wt h2;rw[qn] at hr3;have n0:dh (.int .i64 0)=some 0:=rfl;have n1:dh (.int .i64 1)=some 1:=rfl;have n2:dh (.int .i64 2)=some 2:=rfl
  have hkid:∀{j:Nat} {x:bo},kids[j]?=some x->PC Tryz.prog 121 [ql u,.ag (aC x)] (·=oJ (ke u x)):=λ{j x} hx=>by
   have hxm:=List.mem_of_getElem? hx;exact Df u hu d x (hkd x hxm) (hks x hxm) (List.all_eq_true.1 hr3 x hxm)
  have hat:∀{j:Nat} {x:bo},kids[j]?=some x->((kids.flatMap aC).drop (j*3)).take 3=aC x:=λhx=>aQ (e:=3) (enc:=aC) fa hx;cases h3:decide (op=11)
  ·have h3':=wt h3
   have hw:kids.length=2:=by rw[hkl,rG,ut h3',un ii]
   obtain⟨x0,x1,hk2⟩:∃x0 x1,kids=[x0,x1]:=by
    match kids,hw with
    | [a,b],_=>exact⟨a,b,rfl⟩
   have e0:kids[0]?=some x0:=by rw[hk2];rfl
   have e1:kids[1]?=some x1:=by rw[hk2];rfl
   have hrun:kD u kids=[ke u x0,ke u x1]:=by rw[hk2,kD,kD,kD]
   rw[hrun];simp only[ut h3'];have hb:=L4 hu x1;have a0:=hat e0;have a1:=hat e1;have k0:=hkid e0;have k1:=hkid e1
   have t0:(kids.flatMap aC).take 3=aC x0:=by rwa [Nat.zero_mul,List.drop_zero] at a0
   rw[ql,ew] at k0 k1;generalize ke u x0=r0 at k0 ⊢;generalize ke u x1=r1 at k1 hb ⊢;obtain⟨o0,m0,s0⟩:=x0;obtain⟨o1,m1,s1⟩:=x1;rw[dn] at t0 a1 k0 k1
   have l0:0<kids.length:=by omega
   have l1:1<kids.length:=by omega
   refine(az h3)<|(zN)<|(zs) ?_;refine oK [0,0,2,0,0,16,48,112,248,0,0,1024,3072,7168,16376,1,32769,98305,262143,524287] ?_;refine(vD (cL n0 l0 t0)) ?_;refine SD.k g9 rfl rfl g9 rfl rfl zc (k0) (zw) rfl ?_;refine(vD (cL n1 l1 a1)) ?_;refine SD.k g9 rfl rfl g9 rfl rfl zc (k1) (zw) rfl ?_;refine(vD (cL @dO.eq_28 @CM @xC)) ?_;refine SD.k g9 rfl rfl g9 rfl rfl (IH @xC) (HC u op r0 r1 hb) (zw) rfl ?_;refine SD.e g9 rfl g9 rfl rfl g9 zl ?_;exact(zM)<|zo [.cell 4 52]
  ·have h3':=ww h3
   have hw:kids.length=3:=by rw[hkl,rG,un h3']
   obtain⟨x0,x1,x2,hk2⟩:∃x0 x1 x2,kids=[x0,x1,x2]:=by
    match kids,hw with
    | [a,b,c],_=>exact⟨a,b,c,rfl⟩
   have e0:kids[0]?=some x0:=by rw[hk2];rfl
   have e1:kids[1]?=some x1:=by rw[hk2];rfl
   have e2:kids[2]?=some x2:=by rw[hk2];rfl
   have hrun:kD u kids=[ke u x0,ke u x1,ke u x2]:=by rw[hk2,kD,kD,kD,kD]
   rw[hrun];simp only[un h3'];have a0:=hat e0;have a1:=hat e1;have a2:=hat e2;have k0:=hkid e0;have k1:=hkid e1;have k2:=hkid e2
   have t0:(kids.flatMap aC).take 3=aC x0:=by rwa [Nat.zero_mul,List.drop_zero] at a0
   rw[ql,ew] at k0 k1 k2;generalize ke u x0=r0 at k0 ⊢;generalize ke u x1=r1 at k1 ⊢;generalize ke u x2=r2 at k2 ⊢;obtain⟨o0,m0,s0⟩:=x0;obtain⟨o1,m1,s1⟩:=x1;obtain⟨o2,m2,s2⟩:=x2;rw[dn] at t0 a1 a2 k0 k1 k2
   have l0:0<kids.length:=by omega
   have l1:1<kids.length:=by omega
   have l2:2<kids.length:=by omega
   refine(az h3)<|(zY)<|(zs) ?_;refine oK [0,0,0,4,12,28,62,0,0,256,768,1792,4094,0,0,16384,49152,114688,262142,1,524289,1572865,4194303,8388607] ?_;refine(vD (cL n0 l0 t0)) ?_;refine SD.k g9 rfl rfl g9 rfl rfl zc (k0) (zw) rfl ?_;refine(vD (cL n1 l1 a1)) ?_;refine SD.k g9 rfl rfl g9 rfl rfl zc (k1) (zw) rfl ?_;refine(vD (cL n2 l2 a2)) ?_;refine SD.k g9 rfl rfl g9 rfl rfl zc (k2) (zw) rfl ?_;refine(vD (cL @dO.eq_28 @CM @vp)) ?_;refine SD.k g9 rfl rfl g9 rfl rfl (IH @vp) (EM u r0 r1 r2) (zw) rfl ?_;refine SD.e g9 rfl g9 rfl rfl g9 zl ?_;exact(zM)<|zo [.cell 4 52]
def QH(u:gm)(hu:u.ok)(f:bo)(hf:gZ f)(hr:eY f=true):PC prog 121 [ql u,.ag (aC f)] (·=oJ (ke u f)):=Df u hu _ f (ck _) hf hr
def gm.tf(u:gm):Bool:=fb u.u1 u.u2&&(fb u.u3 u.u4&&fb u.u5 u.u6)
def gP(f:bo)(u:gm):Int×Int:=if u.tf=true/\fZ f=true then (bT 0 (ke u f).1,bT 0 (ke u f).2) else (0,0)
def Jg{a b:Int}(h:fb a b=true):a<=b:=by
 unfold fb at h;simp only[ad,b8,wn] at h;omega
def gm.RD{u:gm}(h:u.tf=true):u.ok:=by
 unfold gm.tf at h;simp only[ad] at h;exact⟨Jg h.1,Jg h.2.1,Jg h.2.2⟩
def HJ(f:bo)(u:gm)(hf:gZ f):PC prog 49 [.ag (aC f),.ag (ew u)] (·=oJ (gP f u)):=by
 have hv:=rC f hf;have hr:=λh1 h2=>QH u h1 f hf h2
 have hd:gP f u=if u.tf=true/\Proofs.fZ f=true then (bT 0 (ke u f).1,bT 0 (ke u f).2) else (0,0):=rfl
 have hvr:Proofs.fZ f=true->eY f=true:=λh=>by unfold Proofs.fZ at h;simp only[ad] at h;exact h.2
 generalize Proofs.fZ f=V at hv hd hvr;generalize eY f=R at hr hvr;generalize ke u f=r at hr hd;obtain⟨op,n,kids⟩:=f;rw[dn] at hv hr ⊢;obtain⟨ivs,hivs⟩:∃l:List (Int×Int),l=[(u.u1,u.u2),(u.u3,u.u4),(u.u5,u.u6)]:=⟨_,rfl⟩
 have hgood:u.tf=ivs.all λp=>fb p.1 p.2:=by rw[hivs];simp[gm.tf]
 have hkc:∀(o:Nat) (l:List (Int×Int)),(l.flatMap cT).map (bf o)=l.flatMap cT:=λo l=>bC mM o l;have hcl:=bg rN ivs
 have hlen:ivs.length<=1000:=by rw[hivs];simp
 refine pB 53 Tryz.func49 ?_;refine(az @ew.eq_1)<|(zV)<|(zs) ?_;refine zL ivs (λk=>(ivs.take k).all (λp=>fb p.1 p.2)=true) (λk=>[(2,.ptr 0 0),(3,.ptr 1 0),(4,.ptr 2 0),(14,.buf 3 ivs.length 2 (some 3)),(15,ab ivs.length),(16,ab k)]) (λk=>[.cells [ab op,ab n,.sl kids.length 3 (kids.flatMap aC)],.cells (ew u),.cells [ab 0,ab 0],.cells (ivs.flatMap cT)]) (bN (QV @ew.eq_1 hivs @i7.{0} @i5.{0} @flatMap_cons.{0,0} @flatMap_nil.{0,0} @cT.eq_1 @cons_append.{0} @nil_append.{0})) zp ?_;intro k hk hall;refine zT ivs k ?_ ?_;rintro rfl;rotate_left;intro x hx hlt;rotate_left
 ·refine(gE) ?_;rw[ba] at hall;rw[<-hgood] at hall
  refine(fC @ew.eq_1)<|(zK hv) ?_
  cases hV:V
  ·exact(zR)<|(cB)<|zo [.cell 4 52] (hq:=by rw[hd,ut (by rw[hV];simp)];rfl)
  refine(zR)<|(zN) ?_
  have hrr:=hr (gm.RD hall) (hvr hV);rw[ql,ew] at hrr
  exact(fC @ew.eq_1)<|(zK hrr)<|(cH (bz @oJ.eq_1 @lJ.eq_1))<|(az @fF)<|zo [.cell 4 52] (hq:=by rw[hd,un ⟨hall,hV⟩];rfl)
 have hnext:fb x.1 x.2=true->(ivs.take (k+1)).all (λp=>fb p.1 p.2)=true:=λh=>by rw[c8 hx,cM,hall];simp[h]
 have hbad:fb x.1 x.2=false->gP (.mk op n kids) u=(0,0):=λh=>by
  rw[hd,ut];rintro⟨h2,_⟩;rw[hgood] at h2;have:=all_eq_true.1 h2 x (aU hx);rw[h] at this;cases this
 refine(gO)<|(az (F4 hlt (aQ (e:=2) (enc:=cT) (λ_=>rfl) hx) @cT.eq_1 @ew.eq_1 hcl hkc (show k*2+2<=ivs.length*2 by omega))) ?_
 cases g1:decide (x.1<0);rotate_left
 ·exact(az g1)<|(cB)<|zo [.cell 4 52] (hq:=by rw[hbad (by rw[fb,g1];rfl)];rfl)
 cases g2:decide (x.2<x.1);rotate_left
 ·exact(az (bz g1 g2))<|(cB)<|zo [.cell 4 52] (hq:=by rw[hbad (by rw[fb,g1,g2];rfl)];rfl)
 cases g3:decide (1000000<x.2);rotate_left
 ·exact(az (cL g1 g2 g3))<|(cB)<|zo [.cell 4 52] (hq:=by rw[hbad (by rw[fb,g1,g2,g3];rfl)];rfl)
 refine(az (cL g1 g2 g3))<|(zN)<|(az (zi hlt (show ivs.length<=1000000 by omega))) ?_;refine zX hlt (bN (bz hkc @ew.eq_1)) (hnext (by rw[fb,g1,g2,g3];rfl))
def rR{α:Type}{enc:α->List SV}(h:∀x,(enc x).all fq=true)(l:List α):(l.flatMap enc).all fq=true:=by
 rw[List.all_flatMap,all_eq_true];exact λx _=>h x
def dw(p:ai):bZ (ae p)=true:=rfl
def ij(p:bB):bZ (aG p)=true:=rfl
def K6(l:List aV):(l.flatMap ao).all fq=true:=rR (λ_=>rfl) l
def CP(l:List ai):(l.flatMap ae).all fq=true:=rR (λ_=>rfl) l
def CR(l:List bB):(l.flatMap aG).all fq=true:=rR (λ_=>rfl) l
def x9:SC prog 50 [an 14 ([]:List ai) ae] [] [] (λr S'=>r=.e0 14/\S'=[]):=by
 refine Nl 8 func50 ?_;refine(jM) ?_;refine aR.M4 g9 rfl rfl g9 rfl rfl (by simp only[aH]) zW ?_;intro b _;refine(zR) ?_;cases b
 ·refine(ly) ?_;refine aE.fg (Fg.e0 2 14 (.inr ⟨0,rfl⟩)) ?_;refine zA [(2,.e0 14)] [] zH<|(zE) ?_;exact zP [.tmp 2]
 ·refine(cB) ?_;refine aE.fg (Fg.e0 2 14 (.inl rfl)) ?_;refine(zE) ?_;exact zP [.tmp 2]
def qE(l:List ai)(hlen:l.length<=1000000)(hne:l≠[]):SC prog 50 [an 14 l ae] [] [] (λr S'=>r=.buf 1 l.length 14 none/\S'=[.gone,.cells (l.flatMap ae)]):=by
 have h0:¬l.length=0:=λe=>hne (t7 e);refine Nl 8 func50 ?_;have hkc:=λo=>bC (enc:=ae) dw o l;have hon:(l.flatMap ae).all fq=true:=CP l;refine(jM) ?_;refine aR.M4 g9 rfl rfl g9 rfl rfl (by simp only[aH]) zW ?_;intro b hb;cases b;rotate_left
 ·exact ul (hb rfl) h0
 refine(zR)<|(zN) ?_
 have hp0:0<l.length:=bh h0
 refine(az (wS h0 hp0 hlen hon hkc @ac))<|zA [(2,.buf 1 l.length 14 none)] [.gone,.cells (l.flatMap ae)] zH<|(zE) ?_;exact zP [.tmp 2]
def yb:SC prog 199 [an 2 ([]:List bB) aG] [] [] (λr S'=>r=.e0 2/\S'=[]):=by
 refine Nl 8 func199 ?_;refine(jM) ?_;refine aR.M4 g9 rfl rfl g9 rfl rfl (by simp only[aH]) zW ?_;intro b _;refine(zR) ?_;cases b
 ·refine(ly) ?_;refine aE.fg (Fg.e0 2 2 (.inr ⟨0,rfl⟩)) ?_;refine zA [(2,.e0 2)] [] zH<|(zE) ?_;exact zP [.tmp 2]
 ·refine(cB) ?_;refine aE.fg (Fg.e0 2 2 (.inl rfl)) ?_;refine(zE) ?_;exact zP [.tmp 2]
def yc(l:List bB)(hlen:l.length<=1000000)(hne:l≠[]):SC prog 199 [an 2 l aG] [] [] (λr S'=>r=.buf 1 l.length 2 none/\S'=[.gone,.cells (l.flatMap aG)]):=by
 have h0:¬l.length=0:=λe=>hne (t7 e);refine Nl 8 func199 ?_;have hkc:=λo=>bC (enc:=aG) ij o l;have hon:(l.flatMap aG).all fq=true:=CR l;refine(jM) ?_;refine aR.M4 g9 rfl rfl g9 rfl rfl (by simp only[aH]) zW ?_;intro b hb;cases b;rotate_left
 ·exact ul (hb rfl) h0
 refine(zR)<|(zN) ?_
 have hp0:0<l.length:=bh h0
 refine(az (wS h0 hp0 hlen hon hkc @ac))<|zA [(2,.buf 1 l.length 2 none)] [.gone,.cells (l.flatMap aG)] zH<|(zE) ?_;exact zP [.tmp 2]
def sI:SC prog 45 [an 14 ([]:List aV) ao] [] [] (λr S'=>r=.e0 14/\S'=[]):=by
 refine Nl 8 func45 ?_;refine(jM) ?_;refine aR.M4 g9 rfl rfl g9 rfl rfl (by simp only[aH]) zW ?_;intro b _;refine(zR) ?_;cases b
 ·refine(ly) ?_;refine aE.fg (Fg.e0 2 14 (.inr ⟨0,rfl⟩)) ?_;refine zA [(2,.e0 14)] [] zH<|(zE) ?_;exact zP [.tmp 2]
 ·refine(cB) ?_;refine aE.fg (Fg.e0 2 14 (.inl rfl)) ?_;refine(zE) ?_;exact zP [.tmp 2]
def sJ(l:List aV)(hlen:l.length<=1000000)(hne:l≠[]):SC prog 45 [an 14 l ao] [] [] (λr S'=>r=.buf 1 l.length 14 none/\S'=[.gone,.cells (l.flatMap ao)]):=by
 have h0:¬l.length=0:=λe=>hne (t7 e);refine Nl 8 func45 ?_;have hkc:=λo=>bC (enc:=ao) bO o l;have hon:(l.flatMap ao).all fq=true:=K6 l;refine(jM) ?_;refine aR.M4 g9 rfl rfl g9 rfl rfl (by simp only[aH]) zW ?_;intro b hb;cases b;rotate_left
 ·exact ul (hb rfl) h0
 refine(zR)<|(zN) ?_
 have hp0:0<l.length:=bh h0
 refine(az (wS h0 hp0 hlen hon hkc @ac))<|zA [(2,.buf 1 l.length 14 none)] [.gone,.cells (l.flatMap ao)] zH<|(zE) ?_;exact zP [.tmp 2]
section
variable {α:Type} {enc:α->List SV} {e:Nat}
def jA(he:∀x,(enc x).length=e):∀(l:List α) (i:Nat),(l.flatMap enc).take (i*e)=(l.take i).flatMap enc
 | [],i=>by simp
 | a::l,0=>by simp
 | a::l,i+1=>by
  rw[flatMap_cons,c0,dF,List.take_succ_cons,flatMap_cons,<-jA he l i];rw[e3,he,show e+i*e-e=i*e by omega,aj (by rw[he];omega)]
def pY(he:∀x,(enc x).length=e):∀(l:List α) (i:Nat),(l.flatMap enc).drop (i*e)=(l.drop i).flatMap enc
 | [],i=>by simp
 | a::l,0=>by simp
 | a::l,i+1=>by
  rw[flatMap_cons,c0,dF,List.drop_succ_cons,<-pY he l i];rw[List.drop_append,he,show e+i*e-e=i*e by omega,bd (by rw[he];omega),nil_append]
def rS(he:∀x,(enc x).length=e){l:List α}{i:Nat}(y:α)(h:i<l.length):(l.flatMap enc).take (i*e)++(enc y++(l.flatMap enc).drop (i*e+e))=(l.set i y).flatMap enc:=by
 rw[jA he,show i*e+e=(i+1)*e by rw[c0],pY he,be,un h,bb,flatMap_cons]
end
def sY{α:Type}(lt:α->α->Bool):Nat->List α->List α
 | 0,l=>l
 | j+1,l=>match l[j+1]?,l[j]? with
  | some x,some y=>if lt x y=true then sY lt j ((l.set (j+1) y).set j x) else l
  | _,_=>l
def Ag{α:Type}(lt:α->α->Bool):Nat->Nat->List α->List α
 | 0,_,l=>l
 | n+1,i,l=>Ag lt n (i+1) (sY lt i l)
def Ad{α:Type}(lt:α->α->Bool)(l:List α):List α:=Ag lt (l.length-1) 1 l
def FY{α:Type}{lt:α->α->Bool}:∀(j:Nat) (l:List α),(sY lt j l).length=l.length
 | 0,l=>rfl
 | j+1,l=>by
  unfold sY;split
  ·split
   ·rw[FY j,bc,bc]
   ·rfl
  ·rfl
def GB{α:Type}{lt:α->α->Bool}:∀(n i:Nat) (l:List α),(Ag lt n i l).length=l.length
 | 0,_,_=>rfl
 | n+1,i,l=>by rw[Ag,GB n,FY]
def Ae{α:Type}(lt:α->α->Bool)(l:List α):(Ad lt l).length=l.length:=GB _ _ _
def swap_perm{α:Type}{l:List α}{j:Nat}{x y:α}(hx:l[j+1]?=some x)(hy:l[j]?=some y):((l.set (j+1) y).set j x).Perm l:=by
 have h1:j+1<l.length:=bx hx
 have h0:j<l.length:=by omega
 have e:l=l.take j++(y::x::l.drop (j+2)):=by
  have a1:l.drop j=y::l.drop (j+1):=e9 hy;have a2:l.drop (j+1)=x::l.drop (j+2):=e9 hx;rw[<-a2,<-a1,List.take_append_drop]
 have hlt:(l.take j).length=j:=by rw[af];omega
 have e2:(l.set (j+1) y).set j x=l.take j++(x::y::l.drop (j+2)):=by
  apply List.ext_getElem?;intro i;rw[er,List.getElem?_append,hlt];by_cases c1:j=i
  ·subst c1;rw[un rfl,bc,un h0,ut (fd _),ex];rfl
  ·rw[ut c1,er];by_cases c2:j+1=i
   ·subst c2;rw[un rfl,un h1,ut ii,show j+1-j=1 by omega];rfl
   ·rw[ut c2];by_cases c3:i<j
    ·rw[un c3,d9,un c3]
    ·rw[ut c3,show i-j=(i-(j+2))+2 by omega,bt,bt,c4,show j+2+(i-(j+2))=i by omega]
 rw[e2]
 conv=>rhs;rw[e]
 exact Perm.append_left _ (Perm.swap _ _ _)
def Cf{α:Type}{lt:α->α->Bool}:∀(j:Nat) (l:List α),(sY lt j l).Perm l
 | 0,l=>Perm.refl _
 | j+1,l=>by
  unfold sY;split
  ·rename_i x y hx hy;split
   ·exact(Cf j _).trans (swap_perm hx hy)
   ·exact Perm.refl _
  ·exact Perm.refl _
def Cx{α:Type}{lt:α->α->Bool}:∀(n i:Nat) (l:List α),(Ag lt n i l).Perm l
 | 0,_,_=>Perm.refl _
 | n+1,i,l=>by rw[Ag];exact(Cx n (i+1) _).trans (Cf i l)
def vY{α:Type}(lt:α->α->Bool)(l:List α):(Ad lt l).Perm l:=Cx _ _ _
def qG(cmp:aV->aV->Int)(x y:aV):Bool:=decide (cmp x y<0)
def J8(g:FuncId)(cmp:aV->aV->Int)(hg:∀x y,PC prog g [.ag (ao x),.ag (ao y)] (·=ab (cmp x y)))(c:Option Nat)(l:List aV)(hlen:l.length<=100000):
 SC prog 305 [.buf 0 l.length 14 c,ab 0,ab l.length,.fn g [] []] [.cells (l.flatMap ao)] [] (λr S'=>r=.cq []/\S'=[.cells ((Ad (qG cmp) l).flatMap ao)]):=by
 refine Qt 53 Tryz.func305 ?_;refine(zV) ?_
 (repeat refine aE.seq ?_)
 refine aE.block (aE.loop (λm st=>∃(i:Nat) (q:List aV),(q.length=l.length/\(i+1<=l.length\/i=0))/\Ad (qG cmp) l=Ag (qG cmp) (l.length-(i+1)) (i+1) q/\l.length-i=m/\st=⟨[(0,.buf 0 l.length 14 c),(1,ab 0),(2,ab l.length),(3,.fn g [] []),(8,re (i+1)),(1000000,.ptr 0 0)],53,[.cells (q.flatMap ao)],[]⟩) l.length zH ⟨0,l,⟨rfl,.inr rfl⟩,rfl,cl _,rfl⟩ (by rintro m st ⟨i,q,_,_,_,rfl⟩;rfl) ?_);rintro m st ⟨i,q,⟨hql,hi⟩,hres,rfl,rfl⟩;refine(zV) ?_;by_cases hlt:i+1<l.length;rotate_left
 ·rw[show decide (((i+1:Nat):Int)<(l.length:Int))=false by simp only[wn];omega]
  refine(zN)<|zA [(1000000,.ptr 0 0)] [.cells (q.flatMap ao)] zH ?_;refine aE.exit ?_
  simp only[e8,df,bW,bI,if_true];rw[show l.length-(i+1)=0 by omega,Ag] at hres;exact zP [] (hq:=by (try simp only[eI,bG]);first | done | (rw[hres];first | exact⟨rfl,rfl⟩ | exact⟨trivial,rfl⟩ | exact⟨rfl,trivial⟩ | exact⟨trivial,trivial⟩))
 rw[show decide (((i+1:Nat):Int)<(l.length:Int))=true by simp only[wp];omega]
 refine(gO)<|(zV) ?_
 obtain⟨s,hs⟩:∃s,l.length-(i+1)=s+1:=⟨l.length-(i+1)-1,by omega⟩;rw[hs,Ag] at hres
 (repeat refine aE.seq ?_)
 refine aE.block (aE.loop (λm st=>∃(j:Nat) (p:List aV),(p.length=l.length/\j<=i+1)/\sY (qG cmp) (i+1) q=sY (qG cmp) j p/\j=m/\st=⟨[(0,.buf 0 l.length 14 c),(1,ab 0),(2,ab l.length),(3,.fn g [] []),(8,re (i+1)),(9,re j),(1000000,.ptr 0 0)],53,[.cells (p.flatMap ao)],[]⟩) (i+1) zH ⟨i+1,q,⟨hql,ac _⟩,rfl,rfl,rfl⟩ (by rintro m st ⟨j,p,_,_,_,rfl⟩;rfl) ?_);rintro m st ⟨j,p,⟨hpl,hj⟩,hb,rfl,rfl⟩;have hil:i+1<l.length:=hlt
 have hcl:(p.flatMap ao).length=l.length*14:=by rw[bg cD,hpl]
 cases j with
 | zero=>
  refine(zs) ?_;refine oK [0,0,3,7,15,15,15,111,239,15,15,1039,3599,7695,16383,32767,65535] ?_;refine(vD (show decide ((0:Int)<((0:Nat):Int))=false from rfl))<|(zM)<|(gE)<|(az (FC (show -9223372036854775808<=((i+1:Nat):Int)+1/\((i+1:Nat):Int)+1<=9223372036854775807 from⟨by omega,by omega⟩))) ?_;exact⟨l.length-(i+1),_,by omega,zH,i+1,p,⟨hpl,.inl ii⟩,by rw[hres,hb,sY,show l.length-(i+1+1)=s by omega],rfl,rfl⟩
 | succ j=>
  have hj1:j+1<l.length:=by omega
  have hj0:j<l.length:=by omega
  obtain⟨x,hx⟩:∃x,p[j+1]?=some x:=⟨p[j+1],jp ii⟩;obtain⟨y,hy⟩:∃y,p[j]?=some y:=⟨p[j],jp ii⟩;have ax:((p.flatMap ao).drop ((j+1)*14)).take 14=ao x:=aQ (e:=14) (enc:=ao) cD hx;have ay:((p.flatMap ao).drop (j*14)).take 14=ao y:=aQ (e:=14) (enc:=ao) cD hy
  have hbs:sY (qG cmp) (j+1) p=if qG cmp x y=true then sY (qG cmp) j ((p.set (j+1) y).set j x) else p:=by rw[sY,hx,hy]
  have s1:=rS (enc:=ao) cD (l:=p) (i:=j+1) y ii;have s2:=rS (enc:=ao) cD (l:=p.set (j+1) y) (i:=j) x (by rw[bc];omega)
  have hcl2:((p.set (j+1) y).flatMap ao).length=l.length*14:=by rw[bg cD,bc,hpl]
  rw[du y] at s1 ay;rw[du x] at s2 ax;simp only[cons_append,nil_append] at s1 s2;have hgx:=hg x y;rw[du y,du x] at hgx;refine(zs) ?_;refine oK [0,0,3,7,15,15,15,111,239,15,15,1039,3599,7695,16383,32767,65535] ?_;refine(vD (OF (show decide ((0:Int)<((j+1:Nat):Int))=true from by simp only[wp];omega) hj1 hj0 (S6 (show -9223372036854775808<=((j+1:Nat):Int)-1/\((j+1:Nat):Int)-1<=9223372036854775807 from⟨by omega,by omega⟩)) (show((j+1:Nat):Int)-1=(j:Int) from by omega) hcl (show(j+1)*14+14<=l.length*14 by omega) (show j*14+14<=l.length*14 by omega) ax ay)) ?_;refine SD.k g9 rfl rfl g9 rfl rfl zc (hgx) (zw) rfl ?_;cases hc:decide (cmp x y<0)
  ·rw[qG,hc,ut gt] at hbs
   refine(vD hc)<|(zM)<|(gE)<|(az (FC (show -9223372036854775808<=((i+1:Nat):Int)+1/\((i+1:Nat):Int)+1<=9223372036854775807 from⟨by omega,by omega⟩))) ?_;exact⟨l.length-(i+1),_,by omega,zH,i+1,p,⟨hpl,.inl ii⟩,by rw[hres,hb,hbs,show l.length-(i+1+1)=s by omega],rfl,rfl⟩
  ·rw[qG,hc,un rfl] at hbs
   refine(vD hc)<|(zM)<|(gO)<|(zs) ?_;refine oK [0,0,0,0,8,0,0,64,224,480,0,0,3072,7168,16355,32739,65535,131071] ?_;refine(vD (QV hj1 hj0 (S6 (show -9223372036854775808<=((j+1:Nat):Int)-1/\((j+1:Nat):Int)-1<=9223372036854775807 from⟨by omega,by omega⟩)) (show((j+1:Nat):Int)-1=(j:Int) from by omega) hcl (show(j+1)*14+14<=l.length*14 by omega) (show j*14+14<=l.length*14 by omega) ax ay)) ?_;refine SD.e g9 rfl g9 rfl rfl g9 (sP (cL hcl (show(j+1)*14+14<=l.length*14 by omega) s1)) ?_;refine(vD (gh hj1 hj0 (S6 (show -9223372036854775808<=((j+1:Nat):Int)-1/\((j+1:Nat):Int)-1<=9223372036854775807 from⟨by omega,by omega⟩)) (show((j+1:Nat):Int)-1=(j:Int) from by omega))) ?_;refine SD.e g9 rfl g9 rfl rfl g9 (sP (cL hcl2 (show j*14+14<=l.length*14 by omega) s2)) ?_;refine(zM)<|(az (bz (S6 (show -9223372036854775808<=((j+1:Nat):Int)-1/\((j+1:Nat):Int)-1<=9223372036854775807 from⟨by omega,by omega⟩)) (show((j+1:Nat):Int)-1=(j:Int) from by omega))) ?_;exact⟨j,_,by omega,zH,j,(p.set (j+1) y).set j x,⟨by rw[bc,bc,hpl],by omega⟩,by rw[hb,hbs],rfl,rfl⟩
def Ij(g:FuncId)(cmp:aV->aV->Int)(hg:∀x y,PC prog g [.ag (ao x),.ag (ao y)] (·=ab (cmp x y)))(c:Option Nat)(l:List aV)(hlen:l.length<20):
 SC prog 257 [.buf 0 l.length 14 c,ab l.length,.fn g [] []] [.cells (l.flatMap ao)] [] (λr S'=>r=.cq []/\S'=[.cells ((Ad (qG cmp) l).flatMap ao)]):=by
 have hins:=J8 g cmp hg c l ii;have hrc:∀(g:Nat->Nat) (l:List aV),nr g (l.flatMap ao)=l.flatMap ao:=λg l=>br (aA bO l);have hbc:∀(B:Nat) (l:List aV),je B (l.flatMap ao)=true:=λB l=>bK (aA bO l);have hkc:∀(o:Nat) (l:List aV),(l.flatMap ao).map (bf o)=l.flatMap ao:=λo l=>bC bO o l
 have h1:decide ((20:Int)<=(l.length:Int))=false:=by simp only[wn];omega
 have h2:decide ((20:Int)<(l.length:Int))=false:=by simp only[wn];omega
 refine Qt 63 Tryz.func257 ?_;refine(oL) ?_
 (repeat refine aE.seq ?_)
 refine aE.block (aE.loop (λm st=>m=0/\st=⟨[(0,.buf 0 l.length 14 c),(1,ab l.length),(2,.fn g [] []),(6,ab 20),(7,ab 0),(8,ab 20),(1000000,.ptr 0 0)],63,[.cells (l.flatMap ao)],[]⟩) 0 zH ⟨rfl,rfl⟩ (by rintro m st ⟨_,rfl⟩;rfl) ?_);rintro m st ⟨rfl,rfl⟩
 refine(az h1)<|(gE) ?_
 (try change aE _ _ _ _ _)
 refine(zC) ?_;refine zS [0] (cL hrc hbc hkc) hins ?_;refine(zR) ?_
 (repeat refine aE.seq ?_)
 refine aE.block (aE.loop (λm st=>m=0/\st=⟨[(1,ab l.length),(6,ab 20),(1000000,.ptr 0 0)],63,[.cells ((Ad (qG cmp) l).flatMap ao)],[]⟩) 0 zH ⟨rfl,rfl⟩ (by rintro m st ⟨_,rfl⟩;rfl) ?_);rintro m st ⟨rfl,rfl⟩
 refine(az h2)<|(gE) ?_
 simp only[e8,df,bW,bI,if_true];exact zP []
def B7(g:FuncId)(cmp:aV->aV->Int)(hg:∀x y,PC prog g [.ag (ao x),.ag (ao y)] (·=ab (cmp x y)))(c:Option Nat)(l:List aV)(hlen:l.length<20):
 SC prog 185 [.buf 0 l.length 14 c,.fn g [] []] [.cells (l.flatMap ao)] [] (λr S'=>r=.cq []/\S'=[.cells ((Ad (qG cmp) l).flatMap ao)]):=by
 have hins:=Ij g cmp hg c l hlen;have hrc:∀(g:Nat->Nat) (l:List aV),nr g (l.flatMap ao)=l.flatMap ao:=λg l=>br (aA bO l);have hbc:∀(B:Nat) (l:List aV),je B (l.flatMap ao)=true:=λB l=>bK (aA bO l);have hkc:∀(o:Nat) (l:List aV),(l.flatMap ao).map (bf o)=l.flatMap ao:=λo l=>bC bO o l;refine Qt 9 Tryz.func185 ?_;refine(zC) ?_;refine zS [0] (cL hrc hbc hkc) hins ?_;refine(zR) ?_;exact zP []
def Db(a:Int):PC prog 158 [ab a] (·=ak false):=by
 refine pB 6 Tryz.func158 ?_;exact(zV)<|(az (show decide (a=a)=true from wl rfl))<|zo [.tmp 2]
def Dc(a:List Nat):PC prog 159 [ah a] (·=ak false):=by
 refine pB 6 Tryz.func159 ?_;exact(zV)<|(az (show decide (a=a)=true from wl rfl))<|zo [.tmp 2]
def Mv(a b:Int):Int:=if a<b then -1 else if b<a then 1 else 0
def BS(a b:Int):PC prog 78 [ab a,ab b] (·=ab (Mv a b)):=by
 refine pB 20 Tryz.func78 ?_;refine(jM)<|(zK (Db a))<|(zR)<|(zC)<|(zK (Db b))<|(zR)<|(FA)<|(FA) ?_
 cases h1:decide (a<b);rotate_left
 ·exact(az h1)<|(cB)<|zo [.tmp 4] (hq:=by rw[Mv,un (ww h1)])
 refine(az h1)<|(zN) ?_
 cases h2:decide (b<a);rotate_left
 ·exact(az h2)<|(cB)<|zo [.tmp 4] (hq:=by rw[Mv,ut (wt h1),un (ww h2)])
 exact(az h2)<|(ly)<|zo [.tmp 4] (hq:=by rw[Mv,ut (wt h1),ut (wt h2)])
def xU(a b:List Nat):Int:=if fO a b=true then -1 else if a=b then 0 else 1
def sM(a b:List Nat):PC prog 79 [ah a,ah b] (·=ab (xU a b)):=by
 refine pB 20 Tryz.func79 ?_;refine(jM)<|(zK (Dc a))<|(zR)<|(zC)<|(zK (Dc b))<|(zR)<|(FA)<|(FA) ?_
 cases h1:fO a b;rotate_left
 ·exact(az h1)<|(cB)<|zo [.tmp 4] (hq:=by rw[xU,un h1])
 refine(az h1)<|(zN) ?_
 by_cases h2:a=b
 ·exact(az (bz h1 (show vO a b=true by rw[lU];exact wl h2)))<|(ly)<|zo [.tmp 4] (hq:=by rw[xU,ut (by rw[h1];decide),un h2])
 ·exact(az (bz h1 (show vO a b=false by rw[lU];exact wd h2)))<|(cB)<|zo [.tmp 4] (hq:=by rw[xU,ut (by rw[h1];decide),ut h2])
def sZ(a b:aV):Int:=Mv a.day b.day
def Kx(a b:aV):PC prog 106 [.ag (ao a),.ag (ao b)] (·=ab (sZ a b)):=by
 refine pB 10 Tryz.func106 ?_;exact(az @ao.eq_1)<|(zC)<|(zK (BS a.day b.day))<|(zR)<|zo [.tmp 4]
def aV.wR:List AV:=[.int .i64 0,.int .i64 0,.str [],.str [],.str [],.str [],.str [],.str [],.int .i64 0,.int .i64 0,.int .i64 0,.int .i64 0,.int .i64 0,.int .i64 0]
def ND(n:Nat)(h:n<=1000000):kV prog 37 (.int .i64 (n:Int)) (.int .i64 (n:Int))=some (n,14,n,rep aV.wR n):=by
 have q1:(prog.info? 90).map (λi=>(i.size,ble i.bytes 10000))=some (14,true):=by kernel_rfl
 obtain⟨i,hi,e⟩:=Option.map_eq_some_iff.1 q1;have e1:i.size=14:=rc Prod.fst e;have e2:ble i.bytes 10000=true:=rc Prod.snd e;unfold kV;rw[show prog.underlying 37=some (.slice 90) by kernel_rfl];simp only;rw[show dh (.int .i64 (n:Int))=some n from rfl,m7,m7,hi,m7,show dm prog 90=some (.agg aV.wR) by simp only[aH];rfl,m7,e1,e2,fj (ac n),fj h];rfl
def tm:∀n,(rep aV.wR n).map SV.a=(bi n aV.zero).flatMap ao
 | 0=>rfl
 | n+1=>by rw[rep,bw,tm n,List.replicate_succ,flatMap_cons];rfl
def dY(l:List aV):List aV:=Ad (qG sZ) l
def B5(l:List aV)(hlen:l.length<20):PC prog 105 [an 14 l ao,.fn 106 [] []] (·=an 14 (dY l) ao):=by
 have hst:=B7 106 sZ Kx (some l.length) l hlen;have hrc:∀(g:Nat->Nat) (l:List aV),nr g (l.flatMap ao)=l.flatMap ao:=λg l=>br (aA bO l);have hbc:∀(B:Nat) (l:List aV),je B (l.flatMap ao)=true:=λB l=>bK (aA bO l);have hkc:∀(o:Nat) (l:List aV),(l.flatMap ao).map (bf o)=l.flatMap ao:=λo l=>bC bO o l;refine pB 16 Tryz.func105 ?_;have hcl:=bg cD l
 have hzl:((bi l.length aV.zero).flatMap ao).length=l.length*14:=by rw[bg cD,b7]
 refine(zV)<|(az (cL (ND l.length ii) @tm hkc)) ?_
 (repeat refine aE.seq ?_)
 refine aE.mono (Q:=λe st=>e=.normal/\Fg st ⟨[(1,.fn 106 [] []),(5,.buf 0 l.length 14 (some l.length))],16,[.cells (l.flatMap ao)],[]⟩) ?_ ?_
 ·by_cases h0:l.length=0
  ·have hl:l=[]:=t7 h0;subst hl;refine(zV) ?_;exact⟨rfl,zH⟩
  ·have htk:(l.flatMap ao).take (l.length*14)=l.flatMap ao:=eL cD l;have hmin:Nat.min l.length l.length=l.length:=fl _;have hdr:((bi l.length aV.zero).flatMap ao).drop (l.length*14)=[]:=bd (by rw[hzl];exact ac _);refine(az (OF h0 hmin htk hzl hcl @ac @K6 hdr @Nat.zero_add @append_nil.{0})) ?_;exact⟨rfl,zH⟩
 rintro e st ⟨rfl,hfg⟩;refine aE.fg hfg ?_;clear hfg
 (try change aE _ _ _ _ _)
 have hsl:(dY l).length=l.length:=by unfold dY;exact Ae _ _
 refine(zC) ?_;refine zS [0] (cL hrc hbc hkc) hst ?_;exact(zR)<|(zV)<|zo [.tmp 4] (r:=.sl l.length 14 ((dY l).flatMap ao)) (hw:=.buf rfl (by rw[<-hsl];rw[show Ad (qG sZ) l=dY l from rfl,eL cD];exact bm.refl (aA bO _)) (by rw[show Ad (qG sZ) l=dY l from rfl,bg cD,hsl];exact ac _)) (hq:=by rw[an,hsl])
def xI(l:List aV)(hlen:l.length<20):PC prog 47 [an 14 l ao] (·=an 14 (dY l) ao):=by
 refine pB 5 Tryz.func47 ?_;exact(jM)<|(zK (B5 l hlen) (hfl:=.inr (bm.refl rfl)))<|(zR)<|zo [.tmp 2] (r:=an 14 (dY l) ao) (hw:=Wk.refl rfl)
open Go.Proofs.Tryz renaming func104 -> vaa in
open Go.Ev renaming wy -> vab in
open Go.Proofs renaming ao -> vac in
def Bf{l:List (aV)}(p:aV->Bool){fid:FuncId}{first cap:List SV}(hlen:l.length<=1000000)(hp:∀x∈l,PC prog fid ((first++[.ag (ao x)])++cap) (·=ak (p x)))(hg:bZ first=true/\bZ cap=true):PC prog 104 [an 14 l ao,.fn fid first cap] (·=ab (gu p l)):=by
 have vad:=@ao.eq_1;exact K8
def xP:∀n,(rep aV.wR n).all kq=true
 | 0=>rfl
 | n+1=>by rw[rep,cM,xP n];rfl
def Cs{α:Type}{p:α->Bool}{l:List α}(h:gu p l ≠ -1):∃(k:Nat) (x:α),gu p l=(k:Int)/\l[k]?=some x/\p x=true/\∀(i:Nat) y,i<k->l[i]?=some y->p y=false:=by
 unfold gu at h ⊢
 cases hf:l.findIdx? p with
 | none=>rw[hf] at h;exact ul rfl h
 | some k=>
  rw[List.findIdx?_eq_some_iff_getElem] at hf;obtain⟨hlt,h1,h2⟩:=hf;refine⟨k,l[k],rfl,jp hlt,h1,λi y hi hy=>?_⟩;have:=h2 i hi;rw[jp ii] at hy;cases hy;simpa using this
def Ct{α:Type}{p:α->Bool}{l:List α}(h:gu p l = -1):∀x∈l,p x=false:=by
 unfold gu at h
 cases hf:l.findIdx? p with
 | none=>
  rw[List.findIdx?_eq_none_iff] at hf;exact hf
 | some k=>rw[hf] at h;simp only at h;omega
def db(d:aV->Bool)(l:List aV):List aV:=l.filter λx=>!d x
def GD(d:aV->Bool)(l:List aV):(db d l).length<=l.length:=ch _ _
def GC{d:aV->Bool}{l:List aV}(h:∀x∈l,d x=false):db d l=l:=by
 unfold db;rw[d2];intro x hx;rw[h x hx];rfl
def CA{d:aV->Bool}{l:List aV}{j:Nat}{x:aV}(h:l[j]?=some x):db d (l.take (j+1))=db d (l.take j)++(if d x=true then [] else [x]):=by
 unfold db;rw[c8 h,d8];cases hd:d x<;>simp[hd]
def A8(g:FuncId)(c2:List SV)(hg:bZ c2=true)(d:aV->Bool)(hp:∀x,PC prog g [.ag (ao x),.ip c2] (·=ak (d x))):
 SC prog 44 [.e0 14,.fn g [] [.ptr 0 0]] [.cells c2] [] (λr S'=>r=.e0 14/\S'=[.cells c2]):=by
 have hidx:=Bf (l:=[]) d (fid:=g) (first:=[]) (cap:=[.ip c2]) gc (λx hx=>hp x) ⟨rfl,rfl⟩;rw[show gu d [] = -1 from rfl] at hidx
 refine Qt 42 func44 ?_;refine(jM)<|(zK hidx (hwk:=.cons (.US 14) (.cons (.fn .nil (.cons (.ptr rfl (bm.refl hg) (b5 _)) .nil)) .nil)))<|(zR)<|(yi)<|(zV)<|(zE) ?_;exact Md.of (rs:=[.tmp 4]) rfl rfl zl Xh zd zg
def A9(g:FuncId)(c2:List SV)(hg:bZ c2=true)(d:aV->Bool)(hp:∀x,PC prog g [.ag (ao x),.ip c2] (·=ak (d x)))(l:List aV)(hlen:l.length<=100000):
 SC prog 44 [.buf 0 l.length 14 none,.fn g [] [.ptr 1 0]] [.cells (l.flatMap ao),.cells c2] [] (λr S'=>r=.buf 0 (db d l).length 14 none/\S'=[.cells ((db d l++bi (l.length-(db d l).length) aV.zero).flatMap ao),.cells c2]):=by
 have hidx:=Bf (l:=l) d (fid:=g) (first:=[]) (cap:=[.ip c2]) ii (λx hx=>hp x) ⟨rfl,rfl⟩;have hkc:∀(o:Nat) (l:List aV),(l.flatMap ao).map (bf o)=l.flatMap ao:=λo l=>bC bO o l;have hk2:∀o:Nat,c2.map (bf o)=c2:=λo=>bV hg
 refine Tw 42 func44 ?_;refine(jM)<|(zK hidx (hwk:=.cons (.buf rfl (by rw[eL cD];exact bm.refl (aA bO l)) (by rw[bg cD];exact ac _)) (.cons (.fn .nil (.cons (.ptr rfl (bm.refl hg) (b5 _)) .nil)) .nil)))<|(zR) ?_
 by_cases hno:gu d l = -1
 ·have hall:=Ct hno;rw[hno]
  refine(yi)<|(zV)<|(zE) ?_;exact zP [.tmp 4] (hq:=by (try simp only[eI,bG]);first | done | (rw[GC hall,ex,List.replicate_zero,append_nil];first | exact⟨rfl,rfl⟩ | exact⟨trivial,rfl⟩ | exact⟨rfl,trivial⟩ | exact⟨trivial,trivial⟩))
 obtain⟨k,x0,hk,hx0,hd0,hbef⟩:=Cs hno;rw[hk];have hkl:k<l.length:=bx hx0
 refine(az (show decide ((k:Int) = -1)=false by simp only[wn];omega))<|(zN)<|(zs) ?_;refine aE.r0 g9 (sP (bA (k:Int) 1 ii)) ?_
 have hst:db d (l.take (k+1))=l.take k:=by
  rw[CA hx0,un hd0,append_nil];refine GC λx hx=>?_;obtain⟨i,hi⟩:=List.mem_iff_getElem?.1 hx
  have hik:i<k:=by
   have:=bx hi;rw[af] at this;omega
  rw[d9,un hik] at hi;exact hbef i x hik hi
 (repeat refine aE.seq ?_)
 refine aE.block (aE.loop (λm st=>∃(j i:Nat) (q:List aV),(i<j/\j<=l.length/\q.length=l.length)/\(q.take i=db d (l.take j)/\q.drop j=l.drop j)/\l.length-j=m/\st=⟨[(0,.buf 0 l.length 14 none),(1,.fn g [] [.ptr 1 0]),(5,re i),(6,re j),(1000000,.ptr 0 0),(1000001,.ptr 1 0)],42,[.cells (q.flatMap ao),.cells c2],[]⟩) (l.length-(k+1)) (bN @fQ) ⟨k+1,k,l,⟨ck _,hkl,rfl⟩,⟨hst.symm,rfl⟩,rfl,rfl⟩ (by rintro m st ⟨j,i,q,_,_,_,rfl⟩;rfl) ?_);rintro m st ⟨j,i,q,⟨hij,hjl,hql⟩,⟨htk,hdr⟩,rfl,rfl⟩
 have hcl:(q.flatMap ao).length=l.length*14:=by rw[bg cD,hql]
 refine(zV) ?_;by_cases hlt:j<l.length;rotate_left
 ·rw[show decide ((j:Int)<(l.length:Int))=false by simp only[wn];omega]
  obtain rfl:j=l.length:=by omega
  rw[ba] at htk;refine(gE) ?_
  have hkl2:(db d l).length=i:=by rw[<-htk,af];omega
  have hrest:(q.flatMap ao).take (i*14)++((rep aV.wR (l.length-i)).map SV.a++(q.flatMap ao).drop (i*14+(l.length-i)*14))=(db d l++bi (l.length-(db d l).length) aV.zero).flatMap ao:=by
   rw[hkl2,tm,jA cD,htk,bd (by rw[hcl];omega),append_nil,bb]
  refine(zs) ?_;refine aE.r0 g9 (by simp only[dD,bY,an,aH,m7,m6,↓reduceIte,aa,a4,a9,am,a6,ar,aw,bP,Mi (show i<=l.length by omega),show ¬(l.length-i=0) by omega,show i*14+(l.length-i)*14<=l.length*14 by omega,hcl,show(rep [AV.int IntKind.i64 0,.int .i64 0,.str [],.str [],.str [],.str [],.str [],.str [],.int .i64 0,.int .i64 0,.int .i64 0,.int .i64 0,.int .i64 0,.int .i64 0] (l.length-i))=rep aV.wR (l.length-i) from rfl,xP,hrest];first | done | rfl) ?_;refine(zs) ?_;refine aE.r0 g9 (sP (bz (VP (show i<=l.length by omega)) @cl)) ?_;refine(zE) ?_;exact Md.of (rs:=[.tmp 4]) rfl rfl zl (by (try simp only[eI,bG]);first | done | (rw[hkl2];first | exact⟨rfl,rfl⟩ | exact⟨trivial,rfl⟩ | exact⟨rfl,trivial⟩ | exact⟨trivial,trivial⟩)) zd zg
 rw[show decide ((j:Int)<(l.length:Int))=true by simp only[wp];omega];obtain⟨x,hx⟩:∃x,l[j]?=some x:=⟨l[j],jp hlt⟩
 have hqx:q[j]?=some x:=by
  have:(q.drop j)[0]?=(l.drop j)[0]?:=by rw[hdr]
  rw[c4,c4,Nat.add_zero] at this;rw[this,hx]
 have hdr2:q.drop (j+1)=l.drop (j+1):=by
  have:=rc (List.drop 1) hdr;rw[e6,e6] at this;exact this
 have hsn:=CA (d:=d) hx;have ax:((q.flatMap ao).drop (j*14)).take 14=ao x:=aQ (e:=14) (enc:=ao) (λ_=>rfl) hqx;rw[du] at ax;have hpx:=hp x;rw[du] at hpx
 refine(gO)<|(az (wS hlt hcl (show j*14+14<=l.length*14 by omega) ax hkc hk2))<|(zC)<|(zK hpx (hwk:=.cons (.ag (bm.refl rfl)) (.cons (.ptr rfl (bm.refl hg) (b5 _)) .nil))) ?_
 cases hd:d x
 ·have hil:i<q.length:=by omega
  have s1:=rS (enc:=ao) cD (l:=q) (i:=i) x hil;rw[du] at s1;simp only[cons_append,nil_append] at s1;rw[hd,ut gt] at hsn
  refine(zR)<|(zY)<|(az (gh (show i<l.length by omega) hcl (show i*14+14<=l.length*14 by omega) s1))<|(zs) ?_;refine aE.r0 g9 (sP (bA (i:Int) 1 ii)) ?_;refine(zs) ?_;refine aE.r0 g9 (sP (bA (j:Int) 1 ii)) ?_;refine⟨l.length-(j+1),_,by omega,(bN @fQ),j+1,i+1,q.set i x,⟨by omega,by omega,by rw[bc,hql]⟩,⟨?_,?_⟩,rfl,rfl⟩
  ·rw[hsn,<-htk,be,un hil,e3,af,a5 ii,dd,Nat.min_eq_right ii,show i+1-i=1 by omega];rfl
  ·rw[List.drop_set,un ii];exact hdr2
 ·rw[hd,un rfl,append_nil] at hsn
  refine(zR)<|(zN)<|(zs) ?_;refine aE.r0 g9 (sP (bA (j:Int) 1 ii)) ?_;exact⟨l.length-(j+1),_,by omega,(bN @fQ),j+1,i,q,⟨by omega,by omega,hql⟩,⟨by rw[hsn,htk],hdr2⟩,rfl,rfl⟩
def J5{i j:Nat}(h:i+j<=1000000):mZ prog 3 210 (.int .i64 ((i:Int)+(j:Int)))=some (.int .u64 ((i+j:Nat):Int)):=by
 unfold mZ;rw[show prog.underlying 3=some (.int .i64) by kernel_rfl,show prog.underlying 210=some (.int .u64) by kernel_rfl]
 have:dE .u64 ((i:Int)+(j:Int))=((i+j:Nat):Int):=by rw[ga];simp[IntKind.wrap,IntKind.bits,IntKind.signed];omega
 simp only[this]
def J6{s:Nat}:dj prog .shr 210 (.int .u64 (s:Int)) (.int .u64 1)=some (.int .u64 ((s/2:Nat):Int)):=by
 have:((s:Int)).fdiv 2=((s/2:Nat):Int):=by
  rw[Int.fdiv_eq_ediv_of_nonneg _ gt];omega
 show some (AV.int .u64 (((s:Int)).fdiv 2))=_;rw[this]
def J7{s:Nat}(h:s<=1000000):mZ prog 210 3 (.int .u64 (s:Int))=some (.int .i64 (s:Int)):=by
 unfold mZ;rw[show prog.underlying 3=some (.int .i64) by kernel_rfl,show prog.underlying 210=some (.int .u64) by kernel_rfl]
 have:dE .i64 (s:Int)=(s:Int):=by rw[ga];simp[IntKind.wrap,IntKind.bits,IntKind.signed];omega
 simp only[this]
def dW(p:ai):ae p=[ah p.name,ah p.kind,ah p.aJ,ah p.slot,ab p.made,ab p.since,ak p.aY,an 2 p.props aG,ab p.l1,ab p.l2,ab p.l3,ab p.l4,ab p.l5,ab p.l6]:=rfl
def pU(p:bB):aG p=[ah p.key,ah p.value]:=rfl
def gI(l:List ai)(k:List Nat)(pos:Nat):Bool:=match l[pos]? with
 | some x=>decide (ai.name x=k)
 | none=>false
structure B8 (l:List ai) (k:List Nat) (pos:Nat):Prop where
 le:pos<=l.length
 gX:∀(a:Nat) (x:ai),l[a]?=some x->(fO (ai.name x) k=true↔a<pos)
def Tb{p:Prop} (h:p:=by
  obtain⟨hpos,hpt⟩:=hpart
  refine pB 49 vah ?_;refine(oL)<|(zV) ?_
  (repeat refine aE.seq ?_)
  refine aE.block (aE.loop (λm st=>∃i j:Nat,(i<=pos/\pos<=j/\j<=l.length)/\j-i=m/\st=⟨[(0,an vai l vaj),(1,ah k),(2,.fn g [] cap),(8,re l.length),(9,re i),(10,re j)],49,[],[]⟩) l.length zH ⟨0,l.length,⟨Nat.zero_le _,hpos,Nat.le_refl _⟩,Nat.sub_zero _,rfl⟩ (by rintro m st ⟨i,j,_,_,rfl⟩;rfl) ?_);rintro m st ⟨i,j,⟨hip,hpj,hjl⟩,rfl,rfl⟩;refine(zV) ?_;by_cases hij:i<j;rotate_left
  ·rw[show decide ((i:Int)<(j:Int))=false by simp only[wn];((try simp only[vai] at *)<;>omega)];refine(gE) ?_
   obtain rfl:i=pos:=by ((try simp only[vai] at *)<;>omega)
   by_cases hil:i<l.length
   ·obtain⟨x,hx⟩:∃x,l[i]?=some x:=⟨l[i],jp hil⟩
    have hl:fO (vak x) k=false:=by
     cases h:fO (vak x) k with
     | false=>rfl
     | true=>exact ul ((hpt i x hx).1 h) (Nat.lt_irrefl _)
    have ax:((l.flatMap vaj).drop (i*vai)).take vai=vaj x:=aQ (e:=vai) (enc:=vaj) (λ_=>rfl) hx;simp only[vai] at ax;have hpx:=hp x (List.mem_of_getElem? hx)
    have hfd:vam l k i=decide (vak x=k):=by unfold vam;rw[hx]
    have hc0:decide (xU (vak x) k=0)=decide (vak x=k):=by
     unfold xU;rw[hl,ut gt];by_cases e:vak x=k
     ·rw[un e,wl e];rfl
     ·rw[ut e,wd e];rfl
    rw[van] at ax hpx
    exact(fC (cL (show decide ((i:Int)<(l.length:Int))=true by simp only[wp];((try simp only[vai] at *)<;>omega)) hil ax))<|(zK hpx (hwk:=bm.refl (ni rfl hcap)))<|(cH hc0)<|kE [.tmp 6,.tmp 7] (hq:=by rw[hfd])
   ·have hfd:vam l k i=false:=by unfold vam;rw[List.getElem?_eq_none (by ((try simp only[vai] at *)<;>omega))]
    exact(az (show decide ((i:Int)<(l.length:Int))=false by simp only[wn];((try simp only[vai] at *)<;>omega)))<|kE [.tmp 6,.tmp 7] (hq:=by rw[hfd])
  rw[show decide ((i:Int)<(j:Int))=true by simp only[wp];((try simp only[vai] at *)<;>omega)];obtain⟨h,hh⟩:∃h,h=(i+j)/2:=⟨_,rfl⟩
  have hl2:h<l.length:=by ((try simp only[vai] at *)<;>omega)
  obtain⟨x,hx⟩:∃x,l[h]?=some x:=⟨l[h],jp hl2⟩;have ax:((l.flatMap vaj).drop (h*vai)).take vai=vaj x:=aQ (e:=vai) (enc:=vaj) (λ_=>rfl) hx;simp only[vai] at ax;have hpx:=hp x (List.mem_of_getElem? hx);have hpth:=hpt h x hx;rw[van] at ax hpx
  refine(gO)<|(zs) ?_;refine aE.r0 g9 (sP (gh (bA (i:Int) (j:Int) (by ((try simp only[vai] at *)<;>omega))) (J5 (show i+j<=1000000 by ((try simp only[vai] at *)<;>omega))) @J6 (J7 (show(i+j)/2<=1000000 by ((try simp only[vai] at *)<;>omega))))) ?_
  rw[<-hh]
  refine(fC (bz hl2 ax))<|(zK hpx (hwk:=bm.refl (ni rfl hcap))) ?_
  have hc:decide (xU (vak x) k<0)=fO (vak x) k:=by
   unfold xU;cases h:fO (vak x) k
   ·rw[ut gt];split<;>rfl
   ·rw[un rfl];rfl
  cases hlt:fO (vak x) k
  ·have hge:pos<=h:=by
    rcases Nat.lt_or_ge h pos with hq | hq
    ·have:=hpth.2 hq;rw[hlt] at this;cases this
    ·exact hq
   refine(cH (bz hc hlt))<|(ly) ?_;exact⟨h-i,_,by ((try simp only[vai] at *)<;>omega),zH,i,h,⟨hip,hge,by ((try simp only[vai] at *)<;>omega)⟩,rfl,rfl⟩
  ·have hgt:h<pos:=hpth.1 hlt
   refine(cH (bz hc hlt))<|(zY)<|(zs) ?_;refine aE.r0 g9 (sP (bA (h:Int) 1 (by ((try simp only[vai] at *)<;>omega)))) ?_;exact⟨j-(h+1),_,by ((try simp only[vai] at *)<;>omega),(Fg.less (Wi @fQ) (Wj @fQ)),h+1,j,⟨by ((try simp only[vai] at *)<;>omega),hpj,hjl⟩,rfl,rfl⟩):p:=h
open Go.Proofs.Tryz renaming func193 -> vah in
open Go.Ev renaming wy -> vai in
open Go.Proofs renaming ae -> vaj,gI -> vam in
open Go.Proofs.ai renaming name -> vak in
def HG(l:List ai)(hlen:l.length<=100000){g:FuncId}{cap:List SV}(hcap:bZ cap=true)(k:List Nat)(pos:Nat)(hp:∀x∈l,PC prog g ([.ag (ae x),ah k]++cap) (·=ab (xU (ai.name x) k)))(hpart:B8 l k pos):
 PC prog 193 [an 14 l ae,ah k,.fn g [] cap] (·=.cq [re pos,ak (gI l k pos)]):=by
 have van:=@dW;exact Tb
def iO(l:List bB)(k:List Nat)(pos:Nat):Bool:=match l[pos]? with
 | some x=>decide (bB.key x=k)
 | none=>false
structure B9 (l:List bB) (k:List Nat) (pos:Nat):Prop where
 le:pos<=l.length
 gX:∀(a:Nat) (x:bB),l[a]?=some x->(fO (bB.key x) k=true↔a<pos)
open Go.Proofs.Tryz renaming func197 -> vah in
open Go.Ev renaming Ly -> vai in
open Go.Proofs renaming aG -> vaj,iO -> vam in
open Go.Proofs.bB renaming key -> vak in
def HH(l:List bB)(hlen:l.length<=100000){g:FuncId}{cap:List SV}(hcap:bZ cap=true)(k:List Nat)(pos:Nat)(hp:∀x∈l,PC prog g ([.ag (aG x),ah k]++cap) (·=ab (xU (bB.key x) k)))(hpart:B9 l k pos):
 PC prog 197 [an 2 l aG,ah k,.fn g [] cap] (·=.cq [re pos,ak (iO l k pos)]):=by
 have van:=@pU;exact Tb
open Go.Ev Go.Lib
def LK(Z:List AV):∀m,(rep Z m).length=m*Z.length
 | 0=>by rw[rep,i5,bv]
 | m+1=>by rw[rep,li,LK Z m,c0,dF]
def Ho{Z:List AV}(hZ:Z.all kq=true):∀m,(rep Z m).all kq=true
 | 0=>rfl
 | m+1=>by rw[rep,cM,hZ,Ho hZ m];rfl
def GY:∀{l:List AV},l.all kq=true->(l.map SV.a).all fq=true
 | [],_=>rfl
 | a::l,h=>by
  rw[el,ad] at h;rw[b9,el,GY h.2,Bool.and_true];exact h.1
def GX(o:Nat):∀l:List AV,(l.map SV.a).map (bf o)=l.map SV.a
 | []=>rfl
 | a::l=>by rw[b9,b9,GX o l];rfl
def Ff:Ds prog 263:=by
 intro w a b la ca lb cb tA tB kA kB h1 h2 h3 h4 h5 h6
 rw[run_callFunc_extern Tryz.func263 zW zW zW (e:=Extern.SlicesOverlaps.overlaps #[44,44] #[4]) zW,
  Lib.run_overlaps_apart w 44 4 56 zW 14 (λw=>bM zW) a b la ca lb cb h1 tA tB kA kB h2 h3 h4 h5 h6]
 rfl
def BU(x:ai):SC prog 195 [.e0 14,re 0,.buf 0 1 14 (some 1)] [.cells (ae x)] [0] (λr S'=>r=an 14 [x] ae/\S'=[.gone]):=by
 refine Qt 95 Tryz.func195 ?_;have hkc:=λo:Nat=>bV (o:=o) (dw x);have hon:(ae x).all fq=true:=rfl;rw[dW] at hkc hon ⊢
 refine(oL)<|(oL)<|(ly)<|(yi)<|(az (bz hkc hon))<|zA [(6,.buf 1 1 14 none)] [.gone,.cells (ae x)] (bN @dW) ?_;refine zZ [(6,an 14 [x] ae)] 1 rfl ⟨.inr (.buf rfl (by rw[flatMap_cons,flatMap_nil,append_nil];exact bm.refl (dw x)) (by show 1*14<=14;decide)),trivial⟩<|zA [(6,an 14 [x] ae)] [.gone] zH<|(zE) ?_;exact zP [.tmp 6]
def Tc{p:Prop} (h:p:=by
  have hf:∀l:List vao,(l.flatMap vap).length=l.length*vaq:=bg (enc:=vap) (e:=vaq) (λ_=>rfl);simp only[vaq] at hf
  have h1:((l.flatMap vap++A).take ((i+1)*vaq)).length=(i+1)*vaq:=by
   rw[List.length_take,li,hf];((try simp only[vaq] at *)<;>omega)
  simp only[vaq] at h1
  have h2:((l.flatMap vap++A).take ((i+1)*vaq)).take (i*vaq)=(l.take i).flatMap vap:=by
   rw[List.take_take,Nat.min_eq_left (by ((try simp only[vaq] at *)<;>omega)),List.take_append_of_le_length (by rw[hf];((try simp only[vaq] at *)<;>omega)),jA (enc:=vap) (e:=vaq) (λ_=>rfl)]
  simp only[vaq] at h2;generalize hB:(l.flatMap vap++A).take ((i+1)*vaq)=B at h1 h2 ⊢;generalize (l.flatMap vap++A).drop ((i+1)*vaq+(l.length-i)*vaq)=R
  have e1:(B++((l.drop i).flatMap vap++R)).take (i*vaq)=(l.take i).flatMap vap:=by rw[List.take_append_of_le_length (by rw[h1];((try simp only[vaq] at *)<;>omega)),h2]
  simp only[vaq] at e1
  have e2:(B++((l.drop i).flatMap vap++R)).drop (i*vaq+vaq)=(l.drop i).flatMap vap++R:=by rw[List.drop_append_of_le_length (by rw[h1];((try simp only[vaq] at *)<;>omega)),List.drop_of_length_le (by rw[h1];((try simp only[vaq] at *)<;>omega)),List.nil_append]
  simp only[vaq] at e2;rw[e1,e2]
  have h3:((l.take i).flatMap vap++(vap x++(l.drop i).flatMap vap)).length=(l.length+1)*vaq:=by
   rw[li,li,hf,hf,show(vap x).length=vaq from rfl,List.length_take,List.length_drop,Nat.min_eq_left (by ((try simp only[vaq] at *)<;>omega))];((try simp only[vaq] at *)<;>omega)
  simp only[vaq] at h3
  rw[<-List.append_assoc (vap x),<-List.append_assoc,List.take_append_of_le_length (by rw[h3];exact Nat.le_refl _),List.take_of_length_le (by rw[h3];exact Nat.le_refl _),List.flatMap_append,List.flatMap_cons]):p:=h
open Go.Proofs renaming ai -> vao,ae -> vap in
open Go.Ev renaming wy -> vaq in
def Rr(l:List ai)(i:Nat)(x:ai)(hi:i<l.length)(A:List SV):
 (((l.flatMap ae++A).take ((i+1)*14)++((l.drop i).flatMap ae++(l.flatMap ae++A).drop ((i+1)*14+(l.length-i)*14))).take (i*14)++(ae x++((l.flatMap ae++A).take ((i+1)*14)++((l.drop i).flatMap ae++(l.flatMap ae++A).drop ((i+1)*14+(l.length-i)*14))).drop (i*14+14))).take ((l.length+1)*14)=(l.take i++x::l.drop i).flatMap ae:=by
 exact Tc
abbrev WW:List AV:=[.str [],.str [],.str [],.str [],.int .i64 0,.int .i64 0,.bool false,.slice none 0 0 (some 0),.int .i64 0,.int .i64 0,.int .i64 0,.int .i64 0,.int .i64 0,.int .i64 0]
abbrev WX:List AV:=[.str [],.str []]
def Td{p:Prop} (h:p:=by
  refine Tw 95 var ?_;have hkl:=λo:Nat=>bC (enc:=vas) vat o l;have hkc:=λo:Nat=>bV (o:=o) (vat x);have hon:(vas x).all fq=true:=rfl;have hxl:(vas x).length=vau:=rfl;simp only[vau] at hxl;have hxt:(vas x).take vau=vas x:=rfl;simp only[vau] at hxt;have hcl:(l.flatMap vas).length=l.length*vau:=bg (enc:=vas) (e:=vau) (λ_=>rfl) l;simp only[vau] at hcl;have htl:(l.flatMap vas).take (l.length*vau)=l.flatMap vas:=List.take_of_length_le (by rw[hcl];exact Nat.le_refl _);simp only[vau] at htl;have hc1:((1:Nat):Int)=1:=rfl
  refine(zV)<|(az (Rg hi))<|(az hc1)<|(az hc1)<|(ly) ?_
  by_cases hin:i=l.length
  ·subst hin
   refine(az (show decide ((l.length:Int)=(l.length:Int))=true by simp))<|(zY) ?_
   have hka:∀o:Nat,(l.flatMap vas++vas x).map (bf o)=l.flatMap vas++vas x:=λo=>by rw[List.map_append,hkl,hkc]
   refine(az (QV hkc hon hxl hxt hcl htl hka @Nat.le_refl (show l.length<=1000000 by ((try simp only[vau] at *)<;>omega))))<|zA [(6,.buf 0 (l.length+1) vau none)] [.cells (l.flatMap vas++vas x),.gone] zH ?_
   have hq:l.flatMap vas++vas x=(l.take l.length++x::l.drop l.length).flatMap vas:=by rw[List.take_length,List.drop_length,List.flatMap_append,List.flatMap_cons,List.flatMap_nil,List.append_nil]
   have hqn:(l.take l.length++x::l.drop l.length).length=l.length+1:=by rw[List.take_length,List.drop_length,li,i7,i5]
   rw[hq]
   refine zZ [(6,an vau (l.take l.length++x::l.drop l.length) vas)] 0 rfl ⟨.inr (by rw[tv,hqn];exact .buf rfl (by rw[<-hqn,eL (enc:=vas) (e:=vau) (λ_=>rfl)];exact bm.refl (aA vat _)) (by rw[bg (enc:=vas) (e:=vau) (λ_=>rfl),hqn];exact Nat.le_refl _)),trivial⟩<|(zE) ?_;exact zP [.tmp 6]
  have hlt:i<l.length:=by ((try simp only[vau] at *)<;>omega)
  refine(az (show decide ((i:Int)=(l.length:Int))=false by simp only[wn];((try simp only[vau] at *)<;>omega)))<|(zN) ?_;refine aE.JG 0 gt rfl rfl ?_
  intro cap hcap;obtain⟨A,hA⟩:∃A,A=List.replicate (cap*vau-(l.flatMap vas).length) SV.any:=⟨_,rfl⟩;rw[<-hA]
  have hAl:A.length=cap*vau-l.length*vau:=by rw[hA,List.length_replicate,hcl]
  simp only[vau] at hAl;by_cases hroom:cap<l.length+1
  ·obtain rfl:cap=l.length:=by ((try simp only[vau] at *)<;>omega)
   obtain rfl:A=[]:=t7 (by rw[hAl];((try simp only[vau] at *)<;>omega));rw[List.append_nil];clear hA hAl
   refine(az (cL hc1 (FC (show -9223372036854775808<=(l.length:Int)+1/\(l.length:Int)+1<=9223372036854775807 from⟨by ((try simp only[vau] at *)<;>omega),by ((try simp only[vau] at *)<;>omega)⟩)) (show decide ((l.length:Int)<(l.length:Int)+1)=true by simp only[wp];((try simp only[vau] at *)<;>omega))))<|(zY) ?_
   obtain⟨m,hm⟩:∃m,m=l.length+1-i:=⟨_,rfl⟩;obtain⟨R,hR⟩:∃R,R=(rep vav m).map SV.a:=⟨_,rfl⟩
   have hRl:R.length=m*vau:=by rw[hR,List.length_map,LK];rfl
   simp only[vau] at hRl
   have hRo:R.all fq=true:=by rw[hR];exact GY (Ho rfl m)
   have hRk:∀o:Nat,R.map (bf o)=R:=λo=>by rw[hR];exact GX o _
   obtain⟨c1,hc1e⟩:∃c1,c1=(l.flatMap vas).take (i*vau)++R:=⟨_,rfl⟩
   have hc1l:c1.length=(l.length+1)*vau:=by rw[hc1e,li,List.length_take,hcl,hRl,Nat.min_eq_left (by ((try simp only[vau] at *)<;>omega)),hm];((try simp only[vau] at *)<;>omega)
   simp only[vau] at hc1l
   have hc1k:∀o:Nat,c1.map (bf o)=c1:=λo=>by rw[hc1e,List.map_append,hRk,List.map_take,hkl]
   refine(az (bz (QV hc1 (VP hi) (FC (show -9223372036854775808<=(l.length:Int)+1/\(l.length:Int)+1<=9223372036854775807 from⟨by ((try simp only[vau] at *)<;>omega),by ((try simp only[vau] at *)<;>omega)⟩)) (S6 (show -9223372036854775808<=(l.length:Int)+1-(i:Int)/\(l.length:Int)+1-(i:Int)<=9223372036854775807 from⟨by ((try simp only[vau] at *)<;>omega),by ((try simp only[vau] at *)<;>omega)⟩)) (show((l.length:Int)+1-(i:Int))=(m:Int) by ((try simp only[vau] at *)<;>omega)) (Eq.symm hR) hRo @Nat.sub_zero (show m<=1000000 by ((try simp only[vau] at *)<;>omega))) (OF (show ¬m=0 by ((try simp only[vau] at *)<;>omega)) (show i<=1000000 by ((try simp only[vau] at *)<;>omega)) hcl (show i*vau<=l.length*vau by ((try simp only[vau] at *)<;>omega)) (show l.length<l.length+1 by ((try simp only[vau] at *)<;>omega)) (show i+m=l.length+1 by ((try simp only[vau] at *)<;>omega)) (Eq.symm hc1e) hc1k hkl hkc))) ?_;obtain⟨c2,hc2e⟩:∃c2,c2=c1.take (i*vau)++(vas x++c1.drop (i*vau+vau)):=⟨_,rfl⟩
   have hc2l:c2.length=(l.length+1)*vau:=by rw[hc2e,li,li,List.length_take,List.length_drop,hc1l,hxl];((try simp only[vau] at *)<;>omega)
   simp only[vau] at hc2l;refine(az (Vv (Rg (show i<=l.length+1 by ((try simp only[vau] at *)<;>omega))) hxl hxt (show Nat.min 1 (l.length+1-i)=1 by simp only[Nat.min_def];rw[un (by ((try simp only[vau] at *)<;>omega))]) hc1l (show i*vau+vau<=(l.length+1)*vau by ((try simp only[vau] at *)<;>omega)) hon (Eq.symm hc2e))) ?_
   have hdr:((l.flatMap vas).drop (i*vau)).take ((l.length-i)*vau)=(l.drop i).flatMap vas:=by
    rw[pY (enc:=vas) (e:=vau) (λ_=>rfl),List.take_of_length_le];rw[bg (enc:=vas) (e:=vau) (λ_=>rfl),List.length_drop];exact Nat.le_refl _
   simp only[vau] at hdr
   have hdl:((l.drop i).flatMap vas).length=(l.length-i)*vau:=by rw[bg (enc:=vas) (e:=vau) (λ_=>rfl),List.length_drop]
   simp only[vau] at hdl;have hdt:((l.drop i).flatMap vas).take ((l.length-i)*vau)=(l.drop i).flatMap vas:=List.take_of_length_le (by rw[hdl];exact Nat.le_refl _);simp only[vau] at hdt;have hdo:((l.drop i).flatMap vas).all fq=true:=vaw (l.drop i);obtain⟨c3,hc3e⟩:∃c3,c3=c2.take ((i+1)*vau)++((l.drop i).flatMap vas++c2.drop ((i+1)*vau+(l.length-i)*vau)):=⟨_,rfl⟩
   have hfin:c3=(l.take i++x::l.drop i).flatMap vas:=by
    have e0:c1.take (i*vau)=(l.take i).flatMap vas:=by
     rw[hc1e,List.take_append_of_le_length (by rw[List.length_take,hcl];((try simp only[vau] at *)<;>omega)),List.take_take,Nat.min_self,jA (enc:=vas) (e:=vau) (λ_=>rfl)]
    simp only[vau] at e0
    have e1:((l.take i).flatMap vas++vas x).length=(i+1)*vau:=by
     rw[li,bg (enc:=vas) (e:=vau) (λ_=>rfl),hxl,List.length_take,Nat.min_eq_left hi];((try simp only[vau] at *)<;>omega)
    simp only[vau] at e1;rw[hc3e,show c2.drop ((i+1)*vau+(l.length-i)*vau)=[] from List.drop_of_length_le (by rw[hc2l];((try simp only[vau] at *)<;>omega)),List.append_nil,hc2e,e0,<-List.append_assoc,List.take_append_of_le_length (by rw[e1];exact Nat.le_refl _),List.take_of_length_le (by rw[e1];exact Nat.le_refl _),List.flatMap_append,List.flatMap_cons,List.append_assoc]
   refine(zs) ?_;refine oK [0,0,0,6,15,0,0,96,255] ?_
   (repeat (first | refine SD.r g9 rfl g9 g9 (sP (gh (bA (i:Int) 1 (by ((try simp only[vau] at *)<;>omega))) (Ee) (Rg (show i+1<=l.length+1 by ((try simp only[vau] at *)<;>omega))) (Rg hi))) ?_ | refine SD.s g9 rfl g9 g9 ?_ | fail))
   refine SD.ed g9 rfl g9 rfl rfl g9 (sP (bz (QV hcl hc2l (show i*vau+(l.length-i)*vau<=l.length*vau by ((try simp only[vau] at *)<;>omega)) (show Nat.min (l.length-i) (l.length+1-(i+1))=l.length-i by simp only[Nat.min_def];split<;>((try simp only[vau] at *)<;>omega)) (show ¬(l.length-i=0) by ((try simp only[vau] at *)<;>omega)) (show(i+1)*vau+(l.length-i)*vau<=(l.length+1)*vau by ((try simp only[vau] at *)<;>omega)) hdr hdl hdt) (cL hdo @Nat.le_refl (Eq.symm hc3e)))) ?_;refine(zM)<|(zV) ?_
   have hqn:(l.take i++x::l.drop i).length=l.length+1:=by rw[li,i7,List.length_take,List.length_drop,Nat.min_eq_left hi];((try simp only[vau] at *)<;>omega)
   rw[hfin]
   refine zA [(6,.buf 2 (l.length+1) vau none)] [.gone,.gone,.cells ((l.take i++x::l.drop i).flatMap vas)] zH<|zZ [(6,an vau (l.take i++x::l.drop i) vas)] 2 rfl ⟨.inr (by rw[tv,hqn];exact .buf rfl (by rw[<-hqn,eL (enc:=vas) (e:=vau) (λ_=>rfl)];exact bm.refl (aA vat _)) (by rw[bg (enc:=vas) (e:=vau) (λ_=>rfl),hqn];exact Nat.le_refl _)),trivial⟩<|zA [(6,an vau (l.take i++x::l.drop i) vas)] [.gone,.gone] zH<|(zE) ?_;exact zP [.tmp 6]
  have hcap2:l.length+1<=cap:=by ((try simp only[vau] at *)<;>omega)
  have hXl:(l.flatMap vas++A).length=cap*vau:=by rw[li,hcl,hAl];((try simp only[vau] at *)<;>omega)
  simp only[vau] at hXl;have hnn:(-9223372036854775808:Int)<=(l.length:Int)+1/\(l.length:Int)+1<=9223372036854775807:=⟨by ((try simp only[vau] at *)<;>omega),by ((try simp only[vau] at *)<;>omega)⟩
  refine(az (cL hc1 (FC hnn) (show decide ((cap:Int)<(l.length:Int)+1)=false by simp only[wn];((try simp only[vau] at *)<;>omega))))<|(zN) ?_
  have hbt:cO l.length (some cap) none (some (.int .i64 ((l.length+1:Nat):Int))) none=some (0,l.length+1,some cap):=by
   unfold cO oU qD;simp only[ph,m7,fj hcap2,Bool.or_true,ar]
  refine(zs) ?_;refine aE.r0 g9 (sP (gh hc1 (FC hnn) (Ee) hbt)) ?_;have hii:(-9223372036854775808:Int)<=(i:Int)+1/\(i:Int)+1<=9223372036854775807:=⟨by ((try simp only[vau] at *)<;>omega),by ((try simp only[vau] at *)<;>omega)⟩
  refine(zs) ?_;refine aE.Tn g9 (sP (lB hc1 (FC hii) (Ee) (Rg (show i+1<=l.length+1 by ((try simp only[vau] at *)<;>omega))) @Nat.sub_zero)) ?_;refine aR.Xc vax g9 rfl rfl g9 rfl zc rfl rfl rfl rfl gt gt (by ((try simp only[vau] at *)<;>omega)) (by rw[hXl];((try simp only[vau] at *)<;>omega)) ?_;refine(zR)<|(zY) ?_
  have hdr:(((l.flatMap vas++A).drop (i*vau)).take ((l.length+1-i)*vau)).take ((l.length-i)*vau)=(l.drop i).flatMap vas:=by
   rw[List.take_take,Nat.min_eq_left (by ((try simp only[vau] at *)<;>omega)),List.drop_append_of_le_length (by rw[hcl];((try simp only[vau] at *)<;>omega)),pY (enc:=vas) (e:=vau) (λ_=>rfl),List.take_append_of_le_length (by rw[bg (enc:=vas) (e:=vau) (λ_=>rfl),List.length_drop];exact Nat.le_refl _),List.take_of_length_le];rw[bg (enc:=vas) (e:=vau) (λ_=>rfl),List.length_drop];exact Nat.le_refl _
  simp only[vau] at hdr
  have hdl:(((l.flatMap vas++A).drop (i*vau)).take ((l.length+1-i)*vau)).length=(l.length+1-i)*vau:=by
   rw[List.length_take,List.length_drop,hXl,Nat.min_eq_left (by ((try simp only[vau] at *)<;>omega))]
  simp only[vau] at hdl;have hdo:((l.drop i).flatMap vas).all fq=true:=vaw (l.drop i);obtain⟨w1,hw1⟩:∃w1,w1=(l.flatMap vas++A).take ((i+1)*vau)++((l.drop i).flatMap vas++(l.flatMap vas++A).drop ((i+1)*vau+(l.length-i)*vau)):=⟨_,rfl⟩
  have hw1l:w1.length=cap*vau:=by rw[hw1,li,li,List.length_take,List.length_drop,hXl,bg (enc:=vas) (e:=vau) (λ_=>rfl),List.length_drop,Nat.min_eq_left (by ((try simp only[vau] at *)<;>omega))];((try simp only[vau] at *)<;>omega)
  simp only[vau] at hw1l;obtain⟨w2,hw2⟩:∃w2,w2=w1.take (i*vau)++(vas x++w1.drop (i*vau+vau)):=⟨_,rfl⟩
  have hw2l:w2.length=cap*vau:=by rw[hw2,li,li,List.length_take,List.length_drop,hw1l,hxl,Nat.min_eq_left (by ((try simp only[vau] at *)<;>omega))];((try simp only[vau] at *)<;>omega)
  simp only[vau] at hw2l
  have hfin:w2.take ((l.length+1)*vau)=(l.take i++x::l.drop i).flatMap vas:=by rw[hw2,hw1];exact vay l i x hlt A
  simp only[vau] at hfin;refine(zs) ?_;refine oK [0,0,0,6,15,0,0,96,255] ?_
  (repeat (first | refine SD.r g9 rfl g9 g9 (sP (lB (FC hii) (Ee) (Rg (show i+1<=l.length+1 by ((try simp only[vau] at *)<;>omega))) (Rg (show i<=l.length+1 by ((try simp only[vau] at *)<;>omega))) @Nat.sub_zero)) ?_ | refine SD.s g9 rfl g9 g9 ?_ | fail))
  refine SD.ed g9 rfl g9 rfl rfl g9 (sP (bz (QV hXl hcl (show i*vau+(l.length+1-i)*vau<=cap*vau by ((try simp only[vau] at *)<;>omega)) (show Nat.min (l.length+1-i) (l.length+1-(i+1))=l.length-i by simp only[Nat.min_def];split<;>((try simp only[vau] at *)<;>omega)) (show ¬(l.length-i=0) by ((try simp only[vau] at *)<;>omega)) (show(i+1)*vau+(l.length-i)*vau<=cap*vau by ((try simp only[vau] at *)<;>omega)) hdr hdl (show(l.length-i)*vau<=(l.length+1-i)*vau by ((try simp only[vau] at *)<;>omega))) (cL hdo @Nat.le_refl (Eq.symm hw1)))) ?_;refine(zM)<|(az (Vv (Rg (show i<=l.length+1 by ((try simp only[vau] at *)<;>omega))) hxl hxt (show Nat.min 1 (l.length+1-i)=1 by simp only[Nat.min_def];rw[un (by ((try simp only[vau] at *)<;>omega))]) hw1l (show i*vau+vau<=cap*vau by ((try simp only[vau] at *)<;>omega)) hon (Eq.symm hw2)))<|(zV) ?_
  have hqn:(l.take i++x::l.drop i).length=l.length+1:=by rw[li,i7,List.length_take,List.length_drop,Nat.min_eq_left hi];((try simp only[vau] at *)<;>omega)
  refine zA [(6,.buf 0 (l.length+1) vau (some cap))] [.cells w2,.gone] zH<|zZ [(6,an vau (l.take i++x::l.drop i) vas)] 0 rfl ⟨.inr (by rw[tv,hqn];exact .buf rfl (by rw[hfin];exact bm.refl (aA vat _)) (by rw[hw2l];((try simp only[vau] at *)<;>omega))),trivial⟩<|(zE) ?_;exact zP [.tmp 6]):p:=h
open Go.Proofs.Tryz renaming func195 -> var in
open Go.Proofs renaming ae -> vas,WW -> vav in
open Go.Ev renaming wy -> vau in
def EX(l:List ai)(i:Nat)(x:ai)(hi:i<=l.length)(hne:0<l.length)(hlen:l.length<=100000):SC prog 195 [.buf 0 l.length 14 none,re i,.buf 1 1 14 (some 1)] [.cells (l.flatMap ae),.cells (ae x)] [0,1] (λr S'=>r=an 14 (l.take i++x::l.drop i) ae/\S'=[.gone,.gone]):=by
 have vat:=@dw;have vaw:=@CP;have vax:=@Ff;have vay:=@Rr;exact Td
def Fh:Ds prog 265:=by
 intro w a b la ca lb cb tA tB kA kB h1 h2 h3 h4 h5 h6
 rw[run_callFunc_extern Tryz.func265 zW zW zW (e:=Extern.SlicesOverlaps.overlaps #[50,50] #[4]) zW,
  Lib.run_overlaps_apart w 50 4 198 zW 2 (λw=>bM zW) a b la ca lb cb h1 tA tB kA kB h2 h3 h4 h5 h6]
 rfl
def BV(x:bB):SC prog 200 [.e0 2,re 0,.buf 0 1 2 (some 1)] [.cells (aG x)] [0] (λr S'=>r=an 2 [x] aG/\S'=[.gone]):=by
 refine Qt 95 Tryz.func200 ?_;have hkc:=λo:Nat=>bV (o:=o) (ij x);have hon:(aG x).all fq=true:=rfl;rw[pU] at hkc hon ⊢
 refine(oL)<|(oL)<|(ly)<|(yi)<|(az (bz hkc hon))<|zA [(6,.buf 1 1 2 none)] [.gone,.cells (aG x)] (bN @pU) ?_;refine zZ [(6,an 2 [x] aG)] 1 rfl ⟨.inr (.buf rfl (by rw[flatMap_cons,flatMap_nil,append_nil];exact bm.refl (ij x)) (by show 1*2<=2;decide)),trivial⟩<|zA [(6,an 2 [x] aG)] [.gone] zH<|(zE) ?_;exact zP [.tmp 6]
open Go.Proofs renaming bB -> vao,aG -> vap in
open Go.Ev renaming Ly -> vaq in
def Rs(l:List bB)(i:Nat)(x:bB)(hi:i<l.length)(A:List SV):
 (((l.flatMap aG++A).take ((i+1)*2)++((l.drop i).flatMap aG++(l.flatMap aG++A).drop ((i+1)*2+(l.length-i)*2))).take (i*2)++(aG x++((l.flatMap aG++A).take ((i+1)*2)++((l.drop i).flatMap aG++(l.flatMap aG++A).drop ((i+1)*2+(l.length-i)*2))).drop (i*2+2))).take ((l.length+1)*2)=(l.take i++x::l.drop i).flatMap aG:=by
 exact Tc
open Go.Proofs.Tryz renaming func200 -> var in
open Go.Proofs renaming aG -> vas,WX -> vav in
open Go.Ev renaming Ly -> vau in
def EY(l:List bB)(i:Nat)(x:bB)(hi:i<=l.length)(hne:0<l.length)(hlen:l.length<=100000):SC prog 200 [.buf 0 l.length 2 none,re i,.buf 1 1 2 (some 1)] [.cells (l.flatMap aG),.cells (aG x)] [0,1] (λr S'=>r=an 2 (l.take i++x::l.drop i) aG/\S'=[.gone,.gone]):=by
 have vat:=@ij;have vaw:=@CR;have vax:=@Fh;have vay:=@Rs;exact Td
def nX{a:List Nat}:∀{l:List (List Nat)},dX (a::l)=true->∀x∈l,fO a x=true
 | [],_,x,h=>by simp at h
 | b::r,ho,x,h=>by
  rw[dX,ad] at ho
  rcases t6 h with rfl | h
  ·exact ho.1
  ·exact fP ho.1 (nX ho.2 x h)
def iW{a:List Nat}{l:List (List Nat)}(h:dX (a::l)=true):dX l=true:=by
 cases l with
 | nil=>rfl
 | cons b r=>rw[dX,ad] at h;exact h.2
def rD{α:Type}(key:α->List Nat):∀{l:List α},dX (l.map key)=true->∀k:List Nat,(l.takeWhile λx=>fO (key x) k).length<=l.length/\∀(a:Nat) (x:α),l[a]?=some x->(fO (key x) k=true↔a<(l.takeWhile λx=>fO (key x) k).length)
 | [],_,k=>⟨ac _,λa x h=>by simp at h⟩
 | y::l,ho,k=>by
  have ih:=rD key (iW ho) k;have hlt:=nX (a:=key y) (l:=l.map key) ho
  cases h:fO (key y) k with
  | true=>
   rw[d3,un h,i7,i7];refine⟨ey ih.1,λa x hx=>?_⟩
   cases a with
   | zero=>simp only[c6,qr] at hx;subst hx;exact⟨λ_=>Nat.succ_pos _,λ_=>h⟩
   | succ a=>simp only[bt] at hx;rw[ih.2 a x hx];exact⟨Nat.succ_lt_succ,Nat.lt_of_succ_lt_succ⟩
  | false=>
   rw[d3,ut (by rw[h];decide),i5];refine⟨b5 _,λa x hx=>⟨λhh=>?_,λhh=>ul hh (co _)⟩⟩;exfalso
   cases a with
   | zero=>simp only[c6,qr] at hx;subst hx;rw[h] at hh;cases hh
   | succ a=>
    simp only[bt] at hx;have:=fP (hlt _ (cv (aU hx))) hh;rw[h] at this;cases this
def nY(l:List ai)(k:List Nat):Nat:=(l.takeWhile λx=>fO (ai.name x) k).length
def bJ(l:List ai)(x:ai):List ai:=if gI l (ai.name x) (nY l (ai.name x))=true then l.set (nY l (ai.name x)) x else l.take (nY l (ai.name x))++x::l.drop (nY l (ai.name x))
def Nh{l:List ai}(ho:dX (l.map ai.name)=true)(k:List Nat):B8 l k (nY l k):=
 ⟨(rD ai.name ho k).1,(rD ai.name ho k).2⟩
def yd(y:ai)(k:List Nat){g:FuncId}{cap:List SV}(hcap:bZ cap=true)(hk:PC prog g ([.ag (ae y)]++cap) (·=ah (ai.name y))):PC prog 194 [.ag (ae y),ah k,.ip [.fn g [] cap]] (·=ab (xU (ai.name y) k)):=by
 refine pB 11 Tryz.func194 ?_;have hkc:=λo:Nat=>bV (o:=o) (dw y);have hxl:(ae y).length=14:=rfl;have hxt:(ae y).take 14=ae y:=rfl
 exact(az hkc)<|(fC (bz hxl hxt))<|(zK hk (hwk:=bm.refl (ni (by simp only[bZ,mN,dw];rfl) hcap)))<|(zQ)<|(zK (sM (ai.name y) k))<|(zR)<|zo [.tmp 5]
def Te{p:Prop} (h:p:=by
  refine pB 32 vaz ?_;have hkc:=λo:Nat=>bV (o:=o) (va0 x);have hkl:=λo:Nat=>bC (enc:=va1) va0 o l;have hkp:=λo:Nat=>bV (o:=o) hcap;have hxl:(va1 x).length=va2:=rfl;simp only[va2] at hxl;have hxt:(va1 x).take va2=va1 x:=rfl;simp only[va2] at hxt;have hon:(va1 x).all fq=true:=rfl;have hnk:∀o:Nat,bf o (.fn g [] cap)=.fn g [] cap:=λo=>wc (by rw[mN,hcap];rfl);have hnc:∀o:Nat,fp o cap=false:=λo=>bX hcap;have hnx:∀o:Nat,fp o (va1 x)=false:=λo=>bX (va0 x)
  have hgf:bZ [SV.fn g [] cap]=true:=by rw[bZ,mN,hcap];rfl
  have hbl:∀B:Nat,je B (l.flatMap va1)=true:=λB=>bK (aA va0 l);have hrl:∀r:Nat->Nat,nr r (l.flatMap va1)=l.flatMap va1:=λr=>br (aA va0 l);have hbc:∀B:Nat,je B (va1 x)=true:=λB=>bK (va0 x);have hrc:∀r:Nat->Nat,nr r (va1 x)=va1 x:=λr=>br (va0 x);have hbq:∀(B:Nat) (q:List va3),je B (q.flatMap va1)=true:=λB q=>bK (aA va0 q);have hrq:∀(r:Nat->Nat) (q:List va3),nr r (q.flatMap va1)=q.flatMap va1:=λr q=>br (aA va0 q);have hpart:=va4 ho (va5 x);have hbs:=va6 l hlen (g:=va7) (cap:=[.ip [.fn g [] cap]]) rfl (va5 x) _ (λy _=>va8 y (va5 x) hcap (hk y)) hpart;generalize hpos:va9 l (va5 x)=pos at hpart hbs
  have hput:vba l x=if vbb l (va5 x) pos=true then l.set pos x else l.take pos++x::l.drop pos:=by rw[vba,hpos]
  refine(az (gh hkc hnk hnc hnx))<|(fC (bz hxl hxt))<|(zK (hk x) (hwk:=bm.refl (ni (by simp only[bZ,mN,va0];rfl) hcap)))<|(zQ)<|(zK hbs (hwk:=.cons (.sl _ _ _) (.cons (.a _) (.cons (.fn .nil (.cons (.ptr rfl (bm.refl hgf) (Nat.zero_le _)) .nil)) .nil))))<|(zR)<|(zC) ?_
  by_cases hne:l=[]
  ·subst hne
   have hf0:vbb [] (va5 x) pos=false:=by unfold vbb;rw[List.getElem?_nil]
   have hp0:pos=0:=Nat.le_zero.1 hpart.le;rw[hf0] at hput ⊢;subst hp0
   refine zS [] (gh hkc hnk hnc hnx) vbc ?_;refine(zR)<|(FA)<|(fC (wS hxl hxt hkc hnk hnc hnx)) ?_;refine zS [2] (gh hkc hnk hnc hnx) (vbd x) ?_;exact(zR)<|zo [.tmp 6] (r:=an va2 [x] va1) (hw:=zv) (hq:=by rw[hput];rfl)
  have hs:0<l.length:=Nat.pos_of_ne_zero (λe=>hne (t7 e))
  refine zS [] (F4 hkc hnk hnc hnx hkl hbl hrl) (vbe l (by ((try simp only[va2,va7] at *)<;>omega)) hne) ?_;refine(zR)<|(zV) ?_
  cases hfd:vbb l (va5 x) pos
  ·rw[hfd,ut gt] at hput
   refine(zN)<|(fC (F4 hxl hxt hkc hnk hnc hnx hkl)) ?_;refine zS [3,4] (bz (QV hkc hnk hnc hnx hkl hbl hrl hrc hbc) (bz hrq hbq)) (vbf l pos x hpart.le hs hlen) ?_;exact(zR)<|zo [.tmp 6] (r:=an va2 (l.take pos++x::l.drop pos) va1) (hw:=zv) (hq:=by rw[hput])
  ·rw[hfd,un rfl] at hput;refine(zY) ?_
   have hlt:pos<l.length:=by
    apply Decidable.byContradiction;intro hn;unfold vbb at hfd;rw[List.getElem?_eq_none (by ((try simp only[va2,va7] at *)<;>omega))] at hfd;cases hfd
   have hcl:(l.flatMap va1).length=l.length*va2:=bg (enc:=va1) (e:=va2) (λ_=>rfl) l;simp only[va2] at hcl;have hst:=rS (enc:=va1) (e:=va2) (λ_=>rfl) x hlt
   refine(az (F4 hlt hxl hxt hcl (show pos*va2+va2<=l.length*va2 by ((try simp only[va2,va7] at *)<;>omega)) hon hst))<|(zV) ?_
   have hsl:(l.set pos x).length=l.length:=List.length_set
   exact zo [.tmp 6] (r:=.sl l.length va2 ((l.set pos x).flatMap va1)) (hw:=.buf rfl (by rw[<-hsl,eL (enc:=va1) (e:=va2) (λ_=>rfl)];exact bm.refl (aA va0 _)) (by rw[bg (enc:=va1) (e:=va2) (λ_=>rfl),hsl];exact Nat.le_refl _)) (hq:=by rw[hput,an,hsl])):p:=h
open Go.Proofs.Tryz renaming func110 -> vaz in
open Go.Proofs renaming ae -> va1,ai -> va3,nY -> va9,bJ -> vba,gI -> vbb in
open Go.Ev renaming wy -> va2,R0 -> va7 in
open Go.Proofs.ai renaming name -> va5 in
def Fi(l:List ai)(hlen:l.length<=100000)(x:ai){g:FuncId}{cap:List SV}(hcap:bZ cap=true)(hk:∀y,PC prog g ([.ag (ae y)]++cap) (·=ah (ai.name y)))(ho:dX (l.map ai.name)=true):
 PC prog 110 [an 14 l ae,.ag (ae x),.fn g [] cap] (·=an 14 (Proofs.bJ l x) ae):=by
 have va0:=@dw;have va4:=@Nh;have va6:=@HG;have va8:=@yd;have vbc:=@x9;have vbd:=@BU;have vbe:=@qE;have vbf:=@EX;exact Te
def nZ(l:List bB)(k:List Nat):Nat:=(l.takeWhile λx=>fO (bB.key x) k).length
def gT(l:List bB)(x:bB):List bB:=if iO l (bB.key x) (nZ l (bB.key x))=true then l.set (nZ l (bB.key x)) x else l.take (nZ l (bB.key x))++x::l.drop (nZ l (bB.key x))
def Ni{l:List bB}(ho:dX (l.map bB.key)=true)(k:List Nat):B9 l k (nZ l k):=
 ⟨(rD bB.key ho k).1,(rD bB.key ho k).2⟩
def ye(y:bB)(k:List Nat){g:FuncId}{cap:List SV}(hcap:bZ cap=true)(hk:PC prog g ([.ag (aG y)]++cap) (·=ah (bB.key y))):PC prog 198 [.ag (aG y),ah k,.ip [.fn g [] cap]] (·=ab (xU (bB.key y) k)):=by
 refine pB 11 Tryz.func198 ?_;have hkc:=λo:Nat=>bV (o:=o) (ij y);have hxl:(aG y).length=2:=rfl;have hxt:(aG y).take 2=aG y:=rfl
 exact(az hkc)<|(fC (bz hxl hxt))<|(zK hk (hwk:=bm.refl (ni (by simp only[bZ,mN,ij];rfl) hcap)))<|(zQ)<|(zK (sM (bB.key y) k))<|(zR)<|zo [.tmp 5]
open Go.Proofs.Tryz renaming func118 -> vaz in
open Go.Proofs renaming aG -> va1,bB -> va3,nZ -> va9,gT -> vba,iO -> vbb in
open Go.Ev renaming Ly -> va2,R4 -> va7 in
open Go.Proofs.bB renaming key -> va5 in
def Fj(l:List bB)(hlen:l.length<=100000)(x:bB){g:FuncId}{cap:List SV}(hcap:bZ cap=true)(hk:∀y,PC prog g ([.ag (aG y)]++cap) (·=ah (bB.key y)))(ho:dX (l.map bB.key)=true):
 PC prog 118 [an 2 l aG,.ag (aG x),.fn g [] cap] (·=an 2 (Proofs.gT l x) aG):=by
 have va0:=@ij;have va4:=@Ni;have va6:=@HH;have va8:=@ye;have vbc:=@yb;have vbd:=@BV;have vbe:=@yc;have vbf:=@EY;exact Te
open Go.Proofs.Tryz renaming func196 -> vaa in
open Go.Ev renaming wy -> vab in
open Go.Proofs renaming ae -> vac in
def E1{l:List (ai)}(p:ai->Bool){fid:FuncId}{first cap:List SV}(hlen:l.length<=1000000)(hp:∀x∈l,PC prog fid ((first++[.ag (ae x)])++cap) (·=ak (p x)))(hg:bZ first=true/\bZ cap=true):PC prog 196 [an 14 l ae,.fn fid first cap] (·=ab (gu p l)):=by
 have vad:=@ae.eq_1;exact K8
def vi{l:List (ai)}(p:ai->Bool){fid:FuncId}{first cap:List SV}(hlen:l.length<=1000000)(hp:∀x∈l,PC prog fid ((first++[.ag (ae x)])++cap) (·=ak (p x)))(hg:bZ first=true/\bZ cap=true):PC prog 115 [an 14 l ae,.fn fid first cap] (·=ak (l.any p)):=by
 refine pB 9 Tryz.func115 ?_;exact(jM)<|(zK (E1 p hlen hp hg) (hwk:=.cons (Wk.sl _ _ _) (.cons (.fn (bm.refl hg.1) (bm.refl hg.2)) .nil)))<|(zR)<|zo [.tmp 4] (hq:=by rw[nT])
def kJ(r:List ai×Int):SV:=.cq [.ag [an 14 r.1 ae],ab r.2]
def de(k:Int):PC prog 112 [ab k] (·=kJ ([],k)):=by
 refine pB 6 Tryz.func112 ?_;exact(oL)<|kE [.cell 2 46,.tmp 3] (r:=.cq [.ag [.sl 0 14 []],ab k]) (hw:=zv)
def BX(p:ai):PC prog 111 [.ag (ae p)] (·=ah p.name):=by
 refine pB 5 Tryz.func111 ?_;exact(az @ae.eq_1)<|(zV)<|zo [.tmp 2]
def BY(p:bB):PC prog 119 [.ag (aG p)] (·=ah p.key):=by
 refine pB 5 Tryz.func119 ?_;exact(az @aG.eq_1)<|(zV)<|zo [.tmp 2]
def gl(ps:List ai)(hlen:ps.length<=100000)(ho:dX (ps.map ai.name)=true)(p:ai):PC prog 109 [.ag (ae p),.ip [an 14 ps ae]] (·=kJ (Proofs.bJ ps p,0)):=by
 refine pB 10 Tryz.func109 ?_;have hput:=Fi ps hlen p (g:=111) (cap:=[]) rfl BX ho;rw[dW] at hput ⊢
 exact(jM)<|(zK hput (hfl:=.inr (bm.refl rfl)))<|(zR)<|kE [.cell 3 46,.tmp 4]
def HS(e:aV)(q:ai):PC prog 117 [.ag (ae q),.ip (ao e)] (·=ak (decide (q.aJ=e.aJ)&&decide (q.slot=e.slot))):=by
 refine pB 16 Tryz.func117 ?_;refine(az (bz @ae.eq_1 @ao.eq_1)) ?_;cases h:decide (q.aJ=e.aJ)
 ·exact(az h)<|zo [.tmp 3]
 ·exact(az h)<|zo [.tmp 3]
def HU(p q:ai):PC prog 120 [.ag (ae q),.ip (ae p)] (·=ak (decide (q.aJ=p.name))):=by
 refine pB 9 Tryz.func120 ?_;exact(az @ae.eq_1)<|(zV)<|zo [.tmp 3]
def vl(ps:List ai)(hlen:ps.length<=1000000)(d:ai->Bool){g:FuncId}{cap:List SV}(hcap:bZ cap=true)(hp:∀q∈ps,PC prog g ([.ag (ae q)]++cap) (·=ak (d q))):PC prog 114 [.fn g [] cap,.ip [an 14 ps ae]] (·=ak (ps.any d)):=by
 refine pB 8 Tryz.func114 ?_;have h:=vi (l:=ps) d (fid:=g) (first:=[]) (cap:=cap) hlen hp ⟨rfl,hcap⟩
 exact(jM)<|(zK h (hwk:=bm.cons (Wk.sl _ _ _) (.cons (.fn .nil (bm.refl hcap)) .nil)))<|(zR)<|zo [.tmp 3]
def mB(e:aV):ai:=⟨e.part,e.kind,[],[],e.day,e.day,false,[],0,0,0,0,0,0⟩
def uy(c:List aK)(ps:List ai)(e:aV)(is:Bool):List ai×Int:=
 if is=true then ([],3) else if (dH c e.kind).isNone=true then ([],4) else if ((ps.length:Int)=20000) then ([],7) else (bJ ps (mB e),0)
def uj(p:ai)(e:aV):ai:={ p with aJ:=e.aJ,slot:=e.slot }
def wz(p:ai):ai:={ p with aJ:=[],slot:=[] }
def gL(p:ai)(e:aV):ai:={ p with since:=bT p.since e.day,l1:=0,l2:=0,l3:=0,l4:=0,l5:=0,l6:=0 }
def nV(p:ai)(e:aV):ai:={ p with props:=gT p.props ⟨e.key,e.value⟩ }
def oT(p:ai):ai:={ p with aY:=true }
def eV(c:List aK)(ps:List ai)(e:aV)(p h:ai):List ai×Int:=
 let k:=(dH c p.kind).getD aK.zero
 if e.op=2 then (if (k.vehicle||!l9 c h.kind e.slot p.kind)=true then ([],4) else if p.aJ≠[] then ([],5) else
  if (ps.any λq=>decide (q.aJ=e.aJ)&&decide (q.slot=e.slot))=true then ([],6) else (bJ ps (uj p e),0))
 else if e.op=3 then (if p.aJ=[] then ([],5) else (bJ ps (wz p),0))
 else if e.op=4 then (if k.vehicle=true then (bJ ps p,0) else ([],4))
 else if e.op=5 then (bJ ps (gL p e),0)
 else if e.op=6 then (if 60<((Proofs.gT p.props ⟨e.key,e.value⟩).length:Int) then ([],7) else (bJ ps (nV p e),0))
 else if e.op=7 then (if p.aJ≠[] then ([],5) else if (ps.any λq=>decide (q.aJ=p.name))=true then ([],5) else (bJ ps (oT p),0))
 else (bJ ps p,0)
def aI(c:List aK)(ps:List ai)(e:aV):List ai×Int:=
 if cS c ps=true then (if cQ e=true then
  (if e.op=1 then uy c ps e (pZ ps (mV 0 [] ps) e.part).isSome else
   match pZ ps (mV 0 [] ps) e.part,(if e.op=2 then pZ ps (mV 0 [] ps) e.aJ else pZ ps (mV 0 [] ps) e.part) with
   | some p,some h=>if (p.aY||h.aY)=true then ([],5) else eV c ps e p h
   | _,_=>([],2))
  else ([],1)) else ([],1)
def rf{c:List aK}{ps:List ai}{m:List (List Nat×Int)}:∀{taken:List (gg×Bool)} {l:List ai},ft c ps m taken l=true->∀p∈l,di c p=true
 | _,[],_,p,hp=>by simp at hp
 | taken,q::r,h,p,hp=>by
  rw[ft,ad,ad] at h
  rcases t6 hp with rfl | hp
  ·exact h.1
  ·cases hd:decide (q.aJ=[]) with
   | true=>rw[hd,ar] at h;exact rf h.2.2 p hp
   | false=>rw[hd,aw,ad] at h;exact rf h.2.2.2 p hp
def KF{c:List aK}{ps:List ai}(h:cS c ps=true){p:ai}(hp:p∈ps):p.props.length<=60/\dX (p.props.map bB.key)=true:=by
 unfold cS at h;simp only[ad] at h;have:=rf h.2.2.2 p hp;unfold di at this;simp only[ad,b8,wn] at this;refine⟨by have:=this.2.2.2.2.2.1;omega,this.2.2.2.2.2.2.2.1⟩
def A5(c:List aK)(ps:List ai)(e:aV)(hc:mS c)(hlen:ps.length<=100000)(hps:∀p∈ps,fJ p)(he:lP e):PC prog 48 [.ag [an 3 c aq],.ag [an 14 ps ae],.ag (ao e)] (·=kJ (aI c ps e)):=by
 have hlen1:ps.length<=1000000:=by omega
 have hct:∀k∈c,k.bH.length<=1000000/\∀s∈k.bH,s.kinds.length<=1000000:=λk hk=>⟨(hc.kind k hk).2,λs hs=>(hc.slot k hk s hs).2⟩;have hy:TE ps (mV 0 [] ps):=Dz ii (Fz ps);have hvE:=Ik e he;refine pB 235 Tryz.func48 ?_;rw[du] at hvE ⊢
 refine(jM)<|(zK (Il c ps hc hlen1 hps)) ?_
 cases h1:Proofs.cS c ps
 ·exact(zR)<|(cB)<|kE [.cell 6 46,.tmp 7] (r:=.cq [.ag [.sl 0 14 []],ab 1]) (hw:=zv) (hq:=by rw[show aI c ps e=([],1) by simp[aI,h1]];rfl)
 refine(zQ)<|(zK hvE) ?_
 cases h2:cQ e
 ·exact(zR)<|(cB)<|kE [.cell 6 46,.tmp 7] (r:=.cq [.ag [.sl 0 14 []],ab 1]) (hw:=zv) (hq:=by rw[show aI c ps e=([],1) by simp[aI,h1,h2]];rfl)
 refine(zR)<|(zN) ?_
 have ho:dX (ps.map ai.name)=true:=by
  unfold Proofs.cS at h1;simp only[ad] at h1;exact h1.2.2.1
 refine zA [(3,.ptr 0 0),(4,.ptr 1 0),(5,.ptr 2 0),(6,.ptr 3 0),(7,ab 0)] [.cells [an 3 c aq],.cells [an 14 ps ae],.cells [ab e.op,ab e.day,ah e.part,ah e.kind,ah e.aJ,ah e.slot,ah e.key,ah e.value,ab e.u1,ab e.u2,ab e.u3,ab e.u4,ab e.u5,ab e.u6],.cells [.a (.slice none 0 0 (some 0))]] zH<|zZ [(3,.ip [an 3 c aq]),(4,.ptr 1 0),(5,.ptr 2 0),(6,.ptr 3 0),(7,ab 0)] 0 rfl (gV @an.eq_1)<|zZ [(3,.ip [an 3 c aq]),(4,.ip [an 14 ps ae]),(5,.ptr 2 0),(6,.ptr 3 0),(7,ab 0)] 1 rfl (gV @an.eq_1)<|zZ [(3,.ip [an 3 c aq]),(4,.ip [an 14 ps ae]),(5,.ip [ab e.op,ab e.day,ah e.part,ah e.kind,ah e.aJ,ah e.slot,ah e.key,ah e.value,ab e.u1,ab e.u2,ab e.u3,ab e.u4,ab e.u5,ab e.u6]),(6,.ptr 3 0),(7,ab 0)] 2 rfl (gV @an.eq_1) ?_
 (try change aE _ _ _ _ _)
 refine(zC)<|(zK (sf ps hlen1) (hfl:=.inr (bm.refl rfl))) ?_
 generalize hM:mV 0 [] ps=M at hy
 refine(cH (bz @Dj.eq_1 hM))<|(oL)<|(zC) ?_
 have hG:=nE ps M e.part hy
 cases hg:pZ ps M e.part with
 | none=>
  rw[hg] at hG
  refine(zK hG (hfl:=.inr (bm.refl rfl)))<|(cH (cL @jn.eq_1 @ae.eq_1 @ai.zero.eq_1)) ?_
  by_cases ho1:e.op=1
  ·refine(az (wl ho1))<|(cB)<|(NU) ?_
   have hF:=lf c e.kind hc.len
   cases hf:dH c e.kind with
   | none=>
    rw[hf] at hF
    exact(zK hF (hfl:=.inr (bm.refl rfl)))<|(cH (cL @jn.eq_1 @aq.eq_1 @aK.zero.eq_1))<|(yi)<|(zC)<|(zK (de _) (hfl:=.inr (bm.refl rfl)))<|(cH @an.eq_1)<|kE [.cell 6 46,.tmp 7] (hq:=by rw[show aI c ps e=([],4) by simp[aI,uy,h1,h2,hM,hg,ho1,hf]];rfl)
   | some k=>
    rw[hf] at hF
    refine(zK hF (hfl:=.inr (bm.refl rfl)))<|(cH (bz @jn.eq_1 @aq.eq_1))<|(FA) ?_
    by_cases hl:(ps.length:Int)=20000
    ·exact(az (wl hl))<|(zY)<|(zC)<|(zK (de _) (hfl:=.inr (bm.refl rfl)))<|(cH @an.eq_1)<|kE [.cell 6 46,.tmp 7] (hq:=by rw[show aI c ps e=([],7) by simp[aI,uy,h1,h2,hM,hg,ho1,hf,hl]];rfl)
    ·refine(az (wd hl))<|(zN) ?_
     have hnext:=gl ps hlen ho (mB e);simp only[dW,mB] at hnext
     exact(zC)<|(zK hnext (hfl:=.inr zw))<|(cH (bz @kJ.eq_1 @an.eq_1))<|kE [.cell 6 46,.tmp 7] (hq:=by rw[show aI c ps e=(Proofs.bJ ps (mB e),0) by simp[aI,uy,h1,h2,hM,hg,ho1,hf,hl]];rfl)
  by_cases ho2:e.op=2
  ·refine(az (wd ho1))<|(ly)<|(az (wl ho2))<|(zY)<|(zC) ?_
   have hH:=nE ps M e.aJ hy
   obtain⟨q,b,hq⟩:∃(q:ai) (b:Bool),jn ae ai.zero (pZ ps M e.aJ)=.cq [.ag (ae q),ak b]:=by
    cases pZ ps M e.aJ with
    | none=>exact⟨ai.zero,false,rfl⟩
    | some q=>exact⟨q,true,rfl⟩
   rw[hq] at hH
   exact(zK hH (hfl:=.inr (bm.refl rfl)))<|(cH @ae.eq_1)<|(yi)<|(zC)<|(zK (de _) (hfl:=.inr (bm.refl rfl)))<|(cH @an.eq_1)<|kE [.cell 6 46,.tmp 7] (hq:=by rw[show aI c ps e=([],2) by simp[aI,h1,h2,hM,hg,ho1,ho2]];rfl)
  ·exact(az (wd ho1))<|(ly)<|(az (wd ho2))<|(ly)<|(zY)<|(zC)<|(zK (de _) (hfl:=.inr (bm.refl rfl)))<|(cH @an.eq_1)<|kE [.cell 6 46,.tmp 7] (hq:=by rw[show aI c ps e=([],2) by simp[aI,h1,h2,hM,hg,ho1,ho2]];rfl)
 | some p=>
  rw[hg] at hG
  refine(zK hG (hfl:=.inr (bm.refl rfl)))<|(cH (bz @jn.eq_1 @ae.eq_1)) ?_
  by_cases ho1:e.op=1
  ·exact(az (wl ho1))<|(cB)<|(zY)<|(zC)<|(zK (de _) (hfl:=.inr (bm.refl rfl)))<|(cH @an.eq_1)<|kE [.cell 6 46,.tmp 7] (hq:=by rw[show aI c ps e=([],3) by simp[aI,uy,h1,h2,hM,hg,ho1]];rfl)
  refine zA [(3,.ip [an 3 c aq]),(4,.ip [an 14 ps ae]),(5,.ip [ab e.op,ab e.day,ah e.part,ah e.kind,ah e.aJ,ah e.slot,ah e.key,ah e.value,ab e.u1,ab e.u2,ab e.u3,ab e.u4,ab e.u5,ab e.u6]),(6,.ptr 3 0),(7,ab 0),(8,.ptr 4 0),(9,.fn 109 [] [.ip [an 14 ps ae]]),(10,.fn 112 [] []),(11,.ptr 5 0),(12,ak true)] [.gone,.gone,.gone,.cells [.a (.slice none 0 0 (some 0))],.cells [an 14 ps ae,mw AV.str ab M],.cells [ah p.name,ah p.kind,ah p.aJ,ah p.slot,ab p.made,ab p.since,ak p.aY,an 2 p.props aG,ab p.l1,ab p.l2,ab p.l3,ab p.l4,ab p.l5,ab p.l6]] zH<|(az (wd ho1))<|(ly) ?_
  by_cases ho2:e.op=2
  ·refine(az (wl ho2))<|(zY)<|(zC) ?_
   have hH:=nE ps M e.aJ hy
   cases hh:pZ ps M e.aJ with
   | none=>
    rw[hh] at hH
    exact(zK hH (hfl:=.inr (bm.refl rfl)))<|(cH (cL @jn.eq_1 @ae.eq_1 @ai.zero.eq_1))<|(yi)<|(zC)<|(zK (de _) (hfl:=.inr (bm.refl rfl)))<|(cH @an.eq_1)<|kE [.cell 6 46,.tmp 7] (hq:=by rw[show aI c ps e=([],2) by simp[aI,h1,h2,hM,hg,ho1,ho2,hh]];rfl)
   | some h=>
    rw[hh] at hH
    refine(zK hH (hfl:=.inr (bm.refl rfl)))<|(cH (bz @jn.eq_1 @ae.eq_1))<|(FA) ?_
    cases f1:p.aY;rotate_left
    ·exact(az f1)<|(zY)<|(zC)<|(zK (de _) (hfl:=.inr (bm.refl rfl)))<|(cH @an.eq_1)<|kE [.cell 6 46,.tmp 7] (hq:=by rw[show aI c ps e=([],5) by simp[aI,h1,h2,hM,hg,ho1,ho2,hh,f1]];rfl)
    cases f2:h.aY;rotate_left
    ·exact(az (bz f1 f2))<|(zY)<|(zC)<|(zK (de _) (hfl:=.inr (bm.refl rfl)))<|(cH @an.eq_1)<|kE [.cell 6 46,.tmp 7] (hq:=by rw[show aI c ps e=([],5) by simp[aI,h1,h2,hM,hg,ho1,ho2,hh,f1,f2]];rfl)
    refine(az (bz f1 f2))<|(ly)<|(zC) ?_
    have hF:=lf c p.kind hc.len
    obtain⟨kd,b,hq,hkd⟩:∃(kd:aK) (b:Bool),jn aq aK.zero (dH c p.kind)=.cq [.ag (aq kd),ak b]/\(dH c p.kind).getD aK.zero=kd:=by
     cases dH c p.kind with
     | none=>exact⟨aK.zero,false,rfl,rfl⟩
     | some q=>exact⟨q,true,rfl,rfl⟩
    rw[hq] at hF
    refine(zK hF (hfl:=.inr (bm.refl rfl)))<|(cH @aq.eq_1)<|(zV)<|zA [(3,.ip [an 3 c aq]),(4,.ip [an 14 ps ae]),(5,.ip [ab e.op,ab e.day,ah e.part,ah e.kind,ah e.aJ,ah e.slot,ah e.key,ah e.value,ab e.u1,ab e.u2,ab e.u3,ab e.u4,ab e.u5,ab e.u6]),(6,.ptr 3 0),(7,ab 0),(9,.fn 109 [] [.ip [an 14 ps ae]]),(10,.fn 112 [] []),(11,.ptr 5 0),(15,.ptr 6 0),(17,.fn 114 [] [.ip [an 14 ps ae]]),(18,.ptr 7 0),(123,ab e.op)] [.gone,.gone,.gone,.cells [.a (.slice none 0 0 (some 0))],.gone,.cells [ah p.name,ah p.kind,ah p.aJ,ah p.slot,ab p.made,ab p.since,ak false,an 2 p.props aG,ab p.l1,ab p.l2,ab p.l3,ab p.l4,ab p.l5,ab p.l6],.cells [ah h.name,ah h.kind,ah h.aJ,ah h.slot,ab h.made,ab h.since,ak false,an 2 h.props aG,ab h.l1,ab h.l2,ab h.l3,ab h.l4,ab h.l5,ab h.l6],.cells [ah kd.name,ak kd.vehicle,an 3 kd.bH bE]] (bN @ae.eq_1)<|(zB) ?_
    refine(az (wl ho2))<|(gO) ?_
    cases g1:kd.vehicle;rotate_left
    ·exact(az g1)<|(zY)<|(zC)<|(zK (de _) (hfl:=.inr (bm.refl rfl)))<|(cH @an.eq_1)<|kE [.cell 6 46,.tmp 7] (hq:=by rw[show aI c ps e=([],4) by simp[aI,h1,h2,hM,hg,ho1,ho2,hh,f1,f2,eV,hkd,g1]];rfl)
    refine(fC g1)<|(zK (xN c h.kind e.slot p.kind hc.len hct)) ?_
    cases g2:Proofs.l9 c h.kind e.slot p.kind
    ·exact(zR)<|(zY)<|(zC)<|(zK (de _) (hfl:=.inr (bm.refl rfl)))<|(cH @an.eq_1)<|kE [.cell 6 46,.tmp 7] (hq:=by rw[show aI c ps e=([],4) by simp[aI,h1,h2,hM,hg,ho1,ho2,hh,f1,f2,eV,hkd,g1,g2]];rfl)
    refine(zR)<|(zN) ?_
    by_cases g3:p.aJ=[];rotate_left
    ·exact(az (wd g3))<|(zY)<|(zC)<|(zK (de _) (hfl:=.inr (bm.refl rfl)))<|(cH @an.eq_1)<|kE [.cell 6 46,.tmp 7] (hq:=by rw[show aI c ps e=([],5) by simp[aI,h1,h2,hM,hg,ho1,ho2,hh,f1,f2,eV,hkd,g1,g2,g3]];rfl)
    refine(az (wl g3))<|(NU) ?_
    have hho:=vl ps hlen1 (λq=>decide (q.aJ=e.aJ)&&decide (q.slot=e.slot)) (g:=117) (cap:=[.ip [ab e.op,ab e.day,ah e.part,ah e.kind,ah e.aJ,ah e.slot,ah e.key,ah e.value,ab e.u1,ab e.u2,ab e.u3,ab e.u4,ab e.u5,ab e.u6]]) rfl (λq _=>by rw[<-du];exact HS e q);refine(zK hho) ?_;cases g4:ps.any λq=>decide (q.aJ=e.aJ)&&decide (q.slot=e.slot);rotate_left
    ·exact(zR)<|(zY)<|(zC)<|(zK (de _) (hfl:=.inr (bm.refl rfl)))<|(cH @an.eq_1)<|kE [.cell 6 46,.tmp 7] (hq:=by rw[show aI c ps e=([],6) by simp[aI,h1,h2,hM,hg,ho1,ho2,hh,f1,f2,eV,hkd,g1,g2,g3,g4,-cc]];rfl)
    refine(zR)<|(zN) ?_
    (try change aE _ _ _ _ _)
    refine(zs) ?_;refine oK [0,1,0,4,3,19,63,127] ?_;refine(qB) ?_;refine SD.e g9 rfl g9 rfl rfl g9 zl ?_;refine(qB) ?_;refine SD.e g9 rfl g9 rfl rfl g9 zl ?_;refine(zM) ?_
    (try change aE _ _ _ _ _)
    obtain⟨R,hR⟩:∃R,R=Proofs.bJ ps (uj p e):=⟨_,rfl⟩;have hnext:=gl ps hlen ho (uj p e);rw[<-hR] at hnext;simp only[dW,f1,uj,wz,gL,nV,oT] at hnext
    exact(zC)<|(zK hnext (hfl:=.inr zw))<|(cH (bz @kJ.eq_1 @an.eq_1))<|kE [.cell 6 46,.tmp 7] (hq:=by rw[show aI c ps e=(R,0) by rw[hR];simp[aI,h1,h2,hM,hg,ho1,ho2,hh,f1,f2,eV,hkd,g1,g2,g3,g4,-cc,-em]];rfl)
  ·refine(az (wd ho2))<|(ly)<|(zN) ?_
   cases f1:p.aY;rotate_left
   ·exact(az f1)<|(zY)<|(zC)<|(zK (de _) (hfl:=.inr (bm.refl rfl)))<|(cH @an.eq_1)<|kE [.cell 6 46,.tmp 7] (hq:=by rw[show aI c ps e=([],5) by simp[aI,h1,h2,hM,hg,ho1,ho2,f1]];rfl)
   have f2:=f1
   refine(az (bz f1 f2))<|(ly)<|(zC) ?_
   have hF:=lf c p.kind hc.len
   obtain⟨kd,b,hq,hkd⟩:∃(kd:aK) (b:Bool),jn aq aK.zero (dH c p.kind)=.cq [.ag (aq kd),ak b]/\(dH c p.kind).getD aK.zero=kd:=by
    cases dH c p.kind with
    | none=>exact⟨aK.zero,false,rfl,rfl⟩
    | some q=>exact⟨q,true,rfl,rfl⟩
   rw[hq] at hF
   refine(zK hF (hfl:=.inr (bm.refl rfl)))<|(cH @aq.eq_1)<|(zV)<|zA [(3,.ip [an 3 c aq]),(4,.ip [an 14 ps ae]),(5,.ip [ab e.op,ab e.day,ah e.part,ah e.kind,ah e.aJ,ah e.slot,ah e.key,ah e.value,ab e.u1,ab e.u2,ab e.u3,ab e.u4,ab e.u5,ab e.u6]),(6,.ptr 3 0),(7,ab 0),(9,.fn 109 [] [.ip [an 14 ps ae]]),(10,.fn 112 [] []),(11,.ptr 5 0),(15,.ptr 6 0),(17,.fn 114 [] [.ip [an 14 ps ae]]),(18,.ptr 7 0),(123,ab e.op)] [.gone,.gone,.gone,.cells [.a (.slice none 0 0 (some 0))],.gone,.cells [ah p.name,ah p.kind,ah p.aJ,ah p.slot,ab p.made,ab p.since,ak false,an 2 p.props aG,ab p.l1,ab p.l2,ab p.l3,ab p.l4,ab p.l5,ab p.l6],.cells [ah p.name,ah p.kind,ah p.aJ,ah p.slot,ab p.made,ab p.since,ak false,an 2 p.props aG,ab p.l1,ab p.l2,ab p.l3,ab p.l4,ab p.l5,ab p.l6],.cells [ah kd.name,ak kd.vehicle,an 3 kd.bH bE]] (bN @ae.eq_1)<|(zB) ?_
   refine(az (wd ho2))<|(zN) ?_
   by_cases ho3:e.op=3
   ·refine(az (wl ho3))<|(zY) ?_
    by_cases g3:p.aJ=[]
    ·exact(az (wl g3))<|(zY)<|(zC)<|(zK (de _) (hfl:=.inr (bm.refl rfl)))<|(cH @an.eq_1)<|kE [.cell 6 46,.tmp 7] (hq:=by rw[show aI c ps e=([],5) by simp[aI,h1,h2,hM,hg,ho1,ho2,f1,eV,hkd,ho3,g3]];rfl)
    refine(az (wd g3))<|(ly) ?_
    (try change aE _ _ _ _ _)
    obtain⟨R,hR⟩:∃R,R=Proofs.bJ ps (wz p):=⟨_,rfl⟩;have hnext:=gl ps hlen ho (wz p);rw[<-hR] at hnext;simp only[dW,f1,uj,wz,gL,nV,oT] at hnext
    exact(zC)<|(zK hnext (hfl:=.inr zw))<|(cH (bz @kJ.eq_1 @an.eq_1))<|kE [.cell 6 46,.tmp 7] (hq:=by rw[show aI c ps e=(R,0) by rw[hR];simp[aI,h1,h2,hM,hg,ho1,ho2,f1,eV,hkd,ho3,g3]];rfl)
   refine(az (wd ho3))<|(zN) ?_
   by_cases ho4:e.op=4
   ·refine(az (wl ho4))<|(zY) ?_
    cases g1:kd.vehicle
    ·exact(az g1)<|(zY)<|(zC)<|(zK (de _) (hfl:=.inr (bm.refl rfl)))<|(cH @an.eq_1)<|kE [.cell 6 46,.tmp 7] (hq:=by rw[show aI c ps e=([],4) by simp[aI,h1,h2,hM,hg,ho1,ho2,f1,eV,hkd,ho3,ho4,g1]];rfl)
    refine(az g1)<|(zN) ?_
    (try change aE _ _ _ _ _)
    obtain⟨R,hR⟩:∃R,R=Proofs.bJ ps p:=⟨_,rfl⟩;have hnext:=gl ps hlen ho p;rw[<-hR] at hnext;simp only[dW,f1,uj,wz,gL,nV,oT] at hnext
    exact(zC)<|(zK hnext (hfl:=.inr zw))<|(cH (bz @kJ.eq_1 @an.eq_1))<|kE [.cell 6 46,.tmp 7] (hq:=by rw[show aI c ps e=(R,0) by rw[hR];simp[aI,h1,h2,hM,hg,ho1,ho2,f1,eV,hkd,ho3,ho4,g1]];rfl)
   refine(az (wd ho4))<|(zN) ?_
   by_cases ho5:e.op=5
   ·refine(az (wl ho5))<|(zY)<|(az @fF) ?_
    (try change aE _ _ _ _ _)
    obtain⟨R,hR⟩:∃R,R=Proofs.bJ ps (gL p e):=⟨_,rfl⟩;have hnext:=gl ps hlen ho (gL p e);rw[<-hR] at hnext;simp only[dW,f1,uj,wz,gL,nV,oT] at hnext
    exact(zC)<|(zK hnext (hfl:=.inr zw))<|(cH (bz @kJ.eq_1 @an.eq_1))<|kE [.cell 6 46,.tmp 7] (hq:=by rw[show aI c ps e=(R,0) by rw[hR];simp[aI,h1,h2,hM,hg,ho1,ho2,f1,eV,hkd,ho3,ho4,ho5]];rfl)
   refine(az (wd ho5))<|(zN) ?_
   by_cases ho6:e.op=6
   ·refine(az (wl ho6))<|(zY) ?_
    have hpp:p∈ps:=by
     unfold pZ at hg;split at hg
     ·exact aU hg
     ·cases hg
    have hpl:p.props.length<=60/\dX (p.props.map bB.key)=true:=KF h1 hpp;have hput:=Fj p.props ii ⟨e.key,e.value⟩ (g:=119) (cap:=[]) rfl BY hpl.2;rw[pU] at hput
    refine(zC)<|(zK hput (hfl:=.inr (bm.refl rfl)))<|(zR) ?_
    by_cases g3:60<((Proofs.gT p.props ⟨e.key,e.value⟩).length:Int)
    ·exact(az (wl g3))<|(zY)<|(zC)<|(zK (de _) (hfl:=.inr (bm.refl rfl)))<|(cH @an.eq_1)<|kE [.cell 6 46,.tmp 7] (hq:=by rw[show aI c ps e=([],7) by simp[aI,h1,h2,hM,hg,ho1,ho2,f1,eV,hkd,ho3,ho4,ho5,ho6,g3]];rfl)
    refine(az (wd g3))<|(zN) ?_
    (try change aE _ _ _ _ _)
    obtain⟨R,hR⟩:∃R,R=Proofs.bJ ps (nV p e):=⟨_,rfl⟩;have hnext:=gl ps hlen ho (nV p e);rw[<-hR] at hnext;simp only[dW,f1,uj,wz,gL,nV,oT] at hnext
    exact(zC)<|(zK hnext (hfl:=.inr zw))<|(cH (bz @kJ.eq_1 @an.eq_1))<|kE [.cell 6 46,.tmp 7] (hq:=by rw[show aI c ps e=(R,0) by rw[hR];simp[aI,h1,h2,hM,hg,ho1,ho2,f1,eV,hkd,ho3,ho4,ho5,ho6,g3]];rfl)
   refine(az (wd ho6))<|(zN) ?_
   by_cases ho7:e.op=7
   ·refine(az (wl ho7))<|(zY) ?_
    by_cases g3:p.aJ=[];rotate_left
    ·exact(az (wd g3))<|(zY)<|(zC)<|(zK (de _) (hfl:=.inr (bm.refl rfl)))<|(cH @an.eq_1)<|kE [.cell 6 46,.tmp 7] (hq:=by rw[show aI c ps e=([],5) by simp[aI,h1,h2,hM,hg,ho1,ho2,f1,eV,hkd,ho3,ho4,ho5,ho6,ho7,g3]];rfl)
    refine(fC (wl g3)) ?_;have hho:=vl ps hlen1 (λq=>decide (q.aJ=p.name)) (g:=120) (cap:=[.ip (ae p)]) rfl (λq _=>HU p q);rw[dW,f1] at hho;refine(zK hho (hwk:=zw)) ?_;cases g4:ps.any λq=>decide (q.aJ=p.name);rotate_left
    ·exact(zR)<|(zY)<|(zC)<|(zK (de _) (hfl:=.inr (bm.refl rfl)))<|(cH @an.eq_1)<|kE [.cell 6 46,.tmp 7] (hq:=by rw[show aI c ps e=([],5) by simp[aI,h1,h2,hM,hg,ho1,ho2,f1,eV,hkd,ho3,ho4,ho5,ho6,ho7,g3,g4,-cc]];rfl)
    refine(zR)<|(ly) ?_
    (try change aE _ _ _ _ _)
    obtain⟨R,hR⟩:∃R,R=Proofs.bJ ps (oT p):=⟨_,rfl⟩;have hnext:=gl ps hlen ho (oT p);rw[<-hR] at hnext;simp only[dW,f1,uj,wz,gL,nV,oT] at hnext
    exact(zC)<|(zK hnext (hfl:=.inr zw))<|(cH (bz @kJ.eq_1 @an.eq_1))<|kE [.cell 6 46,.tmp 7] (hq:=by rw[show aI c ps e=(R,0) by rw[hR];simp[aI,h1,h2,hM,hg,ho1,ho2,f1,eV,hkd,ho3,ho4,ho5,ho6,ho7,g3,g4,-cc,-em]];rfl)
   refine(az (wd ho7))<|(zN) ?_
   (try change aE _ _ _ _ _)
   obtain⟨R,hR⟩:∃R,R=Proofs.bJ ps p:=⟨_,rfl⟩;have hnext:=gl ps hlen ho p;rw[<-hR] at hnext;simp only[dW,f1,uj,wz,gL,nV,oT] at hnext
   exact(zC)<|(zK hnext (hfl:=.inr zw))<|(cH (bz @kJ.eq_1 @an.eq_1))<|kE [.cell 6 46,.tmp 7] (hq:=by rw[show aI c ps e=(R,0) by rw[hR];simp[aI,h1,h2,hM,hg,ho1,ho2,f1,eV,hkd,ho3,ho4,ho5,ho6,ho7]];rfl)
def tx{a b:List (List Nat)}(h:a.Perm b):ek a=ek b:=by
 have h1:(ek a).Pairwise λa b=>xZ a b=true:=HB a;have h2:(ek b).Pairwise λa b=>xZ a b=true:=HB b;have hp:(ek a).Perm (ek b):=((sH a).trans h).trans (sH b).symm;exact Perm.eq_of_pairwise (λa b _ _ h1 h2=>GL h1 h2) h1 h2 hp
def II(ps:List ai)(m:List (List Nat×Int)):Prop:=(∀e∈m,∃(k:Nat) (x:ai),e.2=(k:Int)/\ps[k]?=some x/\x.name=e.1)/\(m.map (·.1)).Nodup
def lH{K U:Type}[DecidableEq K]{k:K}{l:List (K×U)}:dx k l=true↔k∈l.map (·.1):=by
 unfold dx;simp only[cc,wp,mem_map];exact⟨λ⟨e,h1,h2⟩=>⟨e,h1,h2.symm⟩,λ⟨e,h1,h2⟩=>⟨e,h1,h2.symm⟩⟩
def FQ{ps:List ai}:∀{l:List ai} {i:Nat} {m:List (List Nat×Int)},ps.drop i=l->II ps m->II ps (mV i m l)
 | [],_,_,_,h=>h
 | p::r,i,m,hd,h=>by
  rw[mV]
  have hp:ps[i]?=some p:=by
   have:=rc (λl=>l[0]?) hd;simpa using this
  have hd2:ps.drop (i+1)=r:=by
   have:=rc (List.drop 1) hd;simpa using this
  refine FQ hd2 ?_
  cases hh:dx p.name m with
  | true=>exact h
  | false=>
   simp only[d7,if_false];rw[pn hh];refine⟨λe he=>?_,?_⟩
   ·rcases List.mem_append.1 he with he | he
    ·exact h.1 e he
    ·rw[rx he];exact⟨i,p,rfl,hp,rfl⟩
   ·rw[bw,List.nodup_append];refine⟨h.2,by simp,λa ha b hb=>?_⟩;simp only[b9,map_nil,List.mem_singleton] at hb;subst hb;intro e;subst e;rw[lH.2 ha] at hh;cases hh
def wa(ps:List ai)(i:Int):List Nat:=match ps[i.toNat]? with
 | some p=>p.aJ
 | none=>[]
abbrev jD:=List (List Nat×List Nat)
def jJ(ps:List ai)(hd:List (List Nat×Int)):jD:=hd.filterMap λe=>if wa ps e.2=[] then none else some (e.1,wa ps e.2)
def AM{ps:List ai}{hd:List (List Nat×Int)}{k:List Nat}(h:k∈(jJ ps hd).map (·.1)):k∈hd.map (·.1):=by
 obtain⟨e,he,rfl⟩:=mem_map.1 h;obtain⟨e',he',h2⟩:=List.mem_filterMap.1 he;split at h2
 ·cases h2
 ·cases h2;exact cv he'
def jK{ps:List ai}:∀{hd:List (List Nat×Int)},(hd.map (·.1)).Nodup->((jJ ps hd).map (·.1)).Nodup
 | [],_=>dc
 | e::hd,h=>by
  rw[b9,e5] at h;unfold jJ;rw[ct];split
  ·exact jK h.2
  ·rename_i b hb;split at hb
   ·cases hb
   ·cases hb;rw[b9,e5];exact⟨λhm=>h.1 (AM hm),jK h.2⟩
def Jc{U:Type}{l:List (List Nat×U)}{pos:List Nat}{j:Nat}{e:List Nat×U}(hn:(l.map (·.1)).Nodup)(he:l[j]?=some e)(hj:j∉pos):e.1∉(bp l pos).map (·.1):=by
 intro hm;obtain⟨e',he',h2⟩:=mem_map.1 hm;obtain⟨i,hi,h3⟩:=List.mem_filterMap.1 he'
 have h4:(l.map (·.1))[i]?=some e.1:=by rw[a8,h3];exact rc some h2
 have h5:(l.map (·.1))[j]?=some e.1:=by rw[a8,he];rfl
 exact hj ((ep (bx h4) hn).1 (h4.trans h5.symm)▸hi)
def dT:Nat->jD->List (List Nat)->List (List Nat)
 | 0,_,_=>[]
 | n+1,r,ls=>if ls=[] then [] else ((r.filter λe=>ls.contains e.2).map (·.1))++dT n (r.filter λe=>!ls.contains e.2) ((r.filter λe=>ls.contains e.2).map (·.1))
def Hp(ps:List ai)(part:List Nat):jD:=jS part (jJ ps (mV 0 [] ps))
def ec(ps:List ai)(part:List Nat):List (List Nat):=if dx part (mV 0 [] ps)=true then ek (dT (ps.length+2) (Hp ps part) [part]) else []
def oC:∀(n:Nat) {r r':jD} {ls ls':List (List Nat)},r.Perm r'->(∀x,ls.contains x=ls'.contains x)->(ls=[]↔ls'=[])->(dT n r ls).Perm (dT n r' ls')
 | 0,_,_,_,_,_,_,_=>Perm.refl _
 | n+1,r,r',ls,ls',h1,h2,h3=>by
  rw[dT,dT];by_cases h:ls=[]
  ·rw[un h,un (h3.1 h)]
  ·rw[ut h,ut (λe=>h (h3.2 e))];have e1:(λe:List Nat×List Nat=>ls.contains e.2)=λe=>ls'.contains e.2:=funext λe=>h2 _
   have e2:(λe:List Nat×List Nat=>!ls.contains e.2)=λe=>!ls'.contains e.2:=funext λe=>by rw[h2]
   rw[e1,e2];have p1:=(h1.filter λe=>ls'.contains e.2).map (·.1);have p2:=h1.filter λe=>!ls'.contains e.2;refine p1.append (oC n p2 (λx=>?_) ⟨λe=>?_,λe=>?_⟩)
   ·rw[d0,bk,bk];exact p1.mem_iff
   ·rw[e] at p1;exact p1.nil_eq.symm
   ·rw[e] at p1;exact p1.eq_nil
def fe(l:List (List Nat)):SO:=if l=[] then .gone else .cells (l.flatMap (aD ah))
def gz{l:List (List Nat)}(h:¬l=[]):fe l=.cells (l.flatMap (aD ah)):=ut h
def iD:fe []=.gone:=rfl
def fN(o:Nat)(l:List (List Nat)):cI o (fe l)=fe l:=by
 unfold fe;split
 ·rfl
 ·rw[cI];congr 1;exact bV (aA (λ_=>rfl) l)
def eQ(r:Nat->Nat)(l:List (List Nat)):qo r (fe l)=fe l:=by
 unfold fe;split
 ·rfl
 ·rw[LP];congr 1;exact br (aA (λ_=>rfl) l)
def Kq{S:List SO}{o:Nat}{l:jD}(s u:List Nat)(hS:S[o]?=some (bD AV.str ah l)):iR prog S 123 (.map o) (.a (.str s)) (.a (.str u))=some (S.set o (bD AV.str ah (cu s u l))):=
 JD (uv:=ah) (kt:=9) (et:=9) (by simp only[aH]) mE hS rfl u
def Ba{S:List SO}{o:Nat}{l:jD}(s:List Nat)(hS:S[o]?=some (bD AV.str ah l)):MC prog S 123 (.map o) (.a (.str s))=some (S.set o (bD AV.str ah (jS s l))):=
 UP (uv:=ah) (k:=s) (kt:=9) (et:=9) (by simp only[aH]) mE hS rfl
def jZ{n:Nat}{l:jD}:cI n (bD AV.str ah l)=bD AV.str ah l:=mO λ_=>mA _
def jm(ls:List (List Nat))(hd:jD):List (List Nat):=(hd.filter λe=>ls.contains e.2).map (·.1)
def Jr(ls:List (List Nat))(hd:jD)(e:List Nat×List Nat):jm ls (hd++[e])=jm ls hd++(if ls.contains e.2=true then [e.1] else []):=by
 unfold jm;rw[d8,bw];cases h:ls.contains e.2
 ·rw[b6,ut (by rw[h];decide)];rfl
 ·rw[b6,un h];rfl
def ze{k:List Nat}:∀{l:jD},(jS k l).length<=l.length
 | []=>ac _
 | e::l=>by
  rw[jS];split
  ·exact Nat.le_succ _
  ·exact ey ze
def wT:∀(ks:List (List Nat)) {r:jD},(r.map (·.1)).Nodup->ks.foldl (λr k=>jS k r) r=r.filter λe=>!ks.contains e.1
 | [],r,_=>by
  rw[foldl_nil];symm;rw[d2];intro a _;rfl
 | k::ks,r,h=>by
  rw[List.foldl_cons,lC h];have hn:((r.filter λe=>!decide (e.1=k)).map (·.1)).Nodup:=h.sublist ((List.filter_sublist).map _);rw[wT ks hn,List.filter_filter]
  congr 1
  funext e;rw[List.contains_cons];by_cases hh:e.1=k
  ·simp[hh]
  ·simp[hh]
def MD{r:jD}{ls mo:List (List Nat)}(hn:(r.map (·.1)).Nodup)(hm:mo.Perm (jm ls r)):mo.foldl (λr k=>jS k r) r=r.filter λe=>!ls.contains e.2:=by
 rw[wT mo hn];apply List.filter_congr;intro e he
 congr 1
 rw[d0,bk,hm.mem_iff];unfold jm;constructor
 ·intro h;obtain⟨e',he',h2⟩:=mem_map.1 h;obtain⟨h3,h4⟩:=List.mem_filter.1 he'
  have:e'=e:=by
   obtain⟨i,hi⟩:=List.mem_iff_getElem?.1 h3;obtain⟨j,hj⟩:=List.mem_iff_getElem?.1 he
   have g1:(r.map (·.1))[i]?=some e'.1:=by rw[a8,hi];rfl
   have g2:(r.map (·.1))[j]?=some e'.1:=by rw[a8,hj,h2];rfl
   have:=(ep (bx g1) hn).1 (g1.trans g2.symm);subst this;rw[hi] at hj;cases hj;rfl
  rw[this] at h4;exact h4
 ·intro h;exact cv (List.mem_filter.2 ⟨he,h⟩)
def Dy:∀(l:List ai) (i:Nat) (m:List (List Nat×Int)),(mV i m l).length<=m.length+l.length
 | [],_,_=>ac _
 | p::r,i,m=>by
  rw[mV];refine eu (Dy r _ _) ?_
  cases h:dx p.name m with
  | true=>simp only[if_true,i7];omega
  | false=>simp only[d7,if_false,pn h,li,i7,i5];omega
def AK{α:Type}(p:α->Bool):∀l:List α,(l.filter p).length+(l.filter λx=>!p x).length=l.length
 | []=>rfl
 | a::l=>by
  have:=AK p l;cases h:p a
  ·rw[b6,ut (by rw[h];decide),b6,un (by rw[h];rfl),i7,i7];omega
  ·rw[b6,un h,b6,ut (by rw[h];decide),i7,i7];omega
def Jq{ls:List (List Nat)}{a b:jD}(h:a.Perm b):(jm ls a).Perm (jm ls b):=(h.filter _).map _
def cx{p o e n:Nat}(h:o≠p):names p (cj o e n)=false:=by
 unfold cj;split
 ·exact mA _
 ·rw[names];exact wd h
def dM(q:Nat->Nat)(o e n:Nat):fG q (cj o e n)=cj (q o) e n:=by
 unfold cj;split
 ·rw[Qe]
 ·rw[EA]
def AA(r:jD)(bs:List Nat)(c:Nat):SO:=.map (r.map λe=>.str e.1) (r.map λe=>ah e.2) (some (bs,c))
def we(o:Nat)(r:jD)(bs:List Nat)(c:Nat):cI o (AA r bs c)=AA r bs c:=by
 unfold AA;rw[cI]
 congr 1
 exact bV (qa (uv:=ah) (λ_=>rfl) r)
def LZ(q:Nat->Nat)(r:jD)(bs:List Nat)(c:Nat):qo q (AA r bs c)=AA r bs c:=by
 unfold AA;rw[LQ]
 congr 1
 exact br (qa (uv:=ah) (λ_=>rfl) r)
def LY(q:Nat->Nat)(r:jD):qo q (bD AV.str ah r)=bD AV.str ah r:=by
 unfold bD;rw[LQ]
 congr 1
 exact br (qa (uv:=ah) (λ_=>rfl) r)
def ry(ps:List ai)(part:List Nat)(hlen:ps.length<=100000):SC prog 17 [.ag [an 14 ps ae],ah part] [] [] (λr S'=>r=cj 0 1 (ec ps part).length/\S'=[fe (ec ps part)]):=by
 refine Nl 87 Tryz.func17 ?_;refine(jM)<|(zK (sf ps ii) (hfl:=.inr (bm.refl rfl))) ?_
 have hgood:II ps (mV 0 [] ps):=FQ (ps:=ps) rfl ⟨λe he=>by simp at he,dc⟩
 have hMl:(mV 0 [] ps).length<=ps.length:=by have:=Dy ps 0 [];simpa using this
 obtain⟨M,hM⟩:∃M,M=mV 0 [] ps:=⟨_,rfl⟩
 have hN:ec ps part=if dx part M=true then ek (dT (ps.length+2) (jS part (jJ ps M)) [part]) else []:=by rw[hM];rfl
 rw[<-hM] at hgood hMl
 refine(cH (bz @Dj.eq_1 (Eq.symm hM)))<|(zs) ?_;refine aE.r0 g9 (by simp only[dD,bY,an,aH,m7,m6,↓reduceIte,aa,a4,a9,am,a6,ar,aw,bP,xB (l:=M)];first | done | rfl) ?_;refine(zV) ?_
 cases h1:dx part M
 ·refine(cB) ?_;rw[h1,ut gt] at hN
  refine zA [(4,bF)] [.gone] zH<|(zE) ?_;exact zP [.tmp 4] (hq:=by (try simp only[eI,bG]);first | done | (rw[hN];exact⟨rfl,rfl⟩))
 rw[h1,un rfl] at hN
 refine(ly)<|(zC) ?_;refine aR.VE (ks:=M.map λe=>.str e.1) (vs:=M.map λe=>ab e.2) g9 rfl rfl g9 rfl (by simp only[aH]) ?_
 intro bs c hbs;refine(cH @jZ) ?_
 (repeat refine aE.seq ?_)
 refine aE.block (aE.loop (λm st=>∃pos:List Nat,pos.Nodup/\(∀j∈pos,j<M.length)/\M.length-pos.length=m/\st=⟨[(1,ah part),(5,.ptr 1 0),(8,.map 2),(33,.ptr 3 0)],87,[.gone,.cells [an 14 ps ae,mw AV.str ab M],bD AV.str ah (jJ ps (bp M pos)),.pI (M.map λe=>.str e.1) (M.map λe=>ab e.2) bs c pos],[]⟩) M.length (bN (lB @bD.eq_1 @bp.eq_1 @jJ.eq_1 @filterMap_nil.{0,0} @map_nil.{0,0})) ⟨[],dc,λj hj=>by simp at hj,rfl,rfl⟩ (by rintro m st ⟨pos,_,_,_,rfl⟩;rfl) ?_);rintro m st ⟨pos,hpn,hpl,rfl,rfl⟩;refine(zC) ?_;refine aR.VB g9 rfl rfl g9 rfl rfl (λj hj=>by rw[ap];exact hpl j hj) ?_ ?_;rotate_left
 ·intro j hj hjn;rw[ap] at hj;obtain⟨e,he⟩:∃e,M[j]?=some e:=⟨M[j],jp hj⟩;obtain⟨q1,q2,q3⟩:=rj hpn hpl hj hjn;obtain⟨i,x,hi,hx,hxn⟩:=hgood.1 e (aU he);have hil:=bx hx;have hsn:=lG M pos he;have hfresh:=Jc hgood.2 he hjn
  refine(zR)<|(gO)<|(zC) ?_;refine aR.Vw (k:=.str e.1) (v:=ab e.2) g9 rfl rfl g9 rfl rfl (by rw[a8,he];rfl) (by rw[a8,he];rfl) ?_;refine(zR) ?_
  rw[hi];refine(az (cL hil (aQ (e:=14) (enc:=ae) (λ_=>rfl) hx) @ae.eq_1)) ?_
  have hin:wa ps e.2=x.aJ:=by unfold wa;rw[hi,Int.toNat_natCast,hx]
  by_cases hx0:x.aJ=[]
  ·refine(az (wl hx0))<|(zN) ?_
   have hr:jJ ps (bp M (pos++[j]))=jJ ps (bp M pos):=by
    rw[hsn];unfold jJ;rw[dt,ct,un (by rw[hin,hx0]),filterMap_nil,append_nil]
   exact⟨M.length-(pos++[j]).length,_,by rw[li];simp only[i7,i5];omega,(bN hr),pos++[j],q1,q2,rfl,rfl⟩
  ·refine(az (wd hx0))<|(zY)<|(zs) ?_;refine aE.r0 g9 (by simp only[dD,bY,an,aH,m7,m6,↓reduceIte,aa,a4,a9,am,a6,ar,aw,bP,Kq (l:=jJ ps (bp M pos))];first | done | rfl) ?_
   have hr:jJ ps (bp M (pos++[j]))=cu e.1 x.aJ (jJ ps (bp M pos)):=by
    rw[pn (by
     cases hh:dx e.1 (jJ ps (bp M pos)) with
     | false=>rfl
     | true=>exact ul (AM (lH.1 hh)) hfresh),hsn]
    unfold jJ;rw[dt,ct,ut (by rw[hin];exact hx0),filterMap_nil,hin]
   exact⟨M.length-(pos++[j]).length,_,by rw[li];simp only[i7,i5];omega,(bN hr),pos++[j],q1,q2,rfl,rfl⟩
 intro hall;have hperm:(bp M pos).Perm M:=nj hpn hpl λj hj=>hall j (by rw[ap];exact hj)
 refine(zR)<|(gE)<|(zs) ?_;refine aE.r0 g9 (by simp only[dD,bY,an,aH,m7,m6,↓reduceIte,aa,a4,a9,am,a6,ar,aw,bP,Ba (l:=jJ ps (bp M pos))];first | done | rfl) ?_
 obtain⟨r0,hr0⟩:∃r0,r0=jS part (jJ ps (bp M pos)):=⟨_,rfl⟩;have hnk:((bp M pos).map (·.1)).Nodup:=(hperm.map (·.1)).nodup_iff.2 hgood.2
 have hrp:r0.Perm (jS part (jJ ps M)):=by
  rw[hr0,lC (jK hnk),lC (jK hgood.2)];exact(hperm.filterMap _).filter _
 have hr0n:(r0.map (·.1)).Nodup:=by
  rw[hr0,lC (jK hnk)];exact(jK hnk).sublist (List.filter_sublist.map _)
 have hr0l:r0.length<=ps.length:=by
  rw[hrp.length_eq];exact eu ze (eu (c5 _ _) hMl)
 have hN2:ec ps part=ek (dT (ps.length+2) r0 [part]):=by
  rw[hN];exact tx (oC _ hrp.symm (λ_=>rfl) Iff.rfl)
 rw[<-hr0];clear hN hperm hall
 refine(zV)<|(az @jZ) ?_;refine zZ [(1,ah part),(8,.map 2),(12,bF),(13,an 1 [part] (aD ah))] 4 rfl (gV (gh @an.eq_1 @aD.eq_1 @flatMap_cons.{0,0} @flatMap_nil.{0,0}))<|zA [(1,ah part),(8,.map 0),(12,bF),(13,an 1 [part] (aD ah))] [bD AV.str ah r0,.gone] (Fg.rn [2,0] gt rfl (NP @LY) (NQ @LY)) ?_
 clear hr0 hrp;obtain⟨T,hT0⟩:∃T,T=dT (ps.length+2) r0 [part]:=⟨_,rfl⟩;rw[<-hT0] at hN2
 (repeat refine aE.seq ?_)
 refine aE.block (aE.loop (λm st=>∃(r:jD) (ls out:List (List Nat)) (fu:Nat),((r.map (·.1)).Nodup/\r.length+(if ls=[] then 1 else 2)<=fu)/\(out++dT fu r ls).Perm T/\(out.length+r.length<=ps.length/\ls.length<=ps.length+1)/\(r.length+if ls=[] then 0 else 1)=m/\st=⟨[(1,ah part),(8,.map 0),(12,cj 1 1 out.length),(13,an 1 ls (aD ah))],87,[bD AV.str ah r,fe out],[]⟩) (r0.length+1) (bN (cL @lX @iD @i5.{0})) ⟨r0,[part],[],ps.length+2,⟨hr0n,by rw[ut gc];omega⟩,by rw[hT0];exact Perm.refl _,⟨by simpa using hr0l,by simp⟩,rfl,rfl⟩ (by rintro m st ⟨r,ls,out,fu,_,_,_,_,rfl⟩;rfl) ?_);rintro m st ⟨r,ls,out,fu,⟨hrn,hfu⟩,hT,⟨hsz,hlsl⟩,rfl,rfl⟩;clear hr0n hr0l hT0;by_cases hls:ls=[]
 ·subst hls
  refine(az (show decide (0<(([]:List (List Nat)).length:Int))=false by simp))<|(gE) ?_
  have hgo:dT fu r []=[]:=by
   cases fu with
   | zero=>rfl
   | succ k=>rw[dT,un rfl]
  rw[hgo,append_nil] at hT
  have hres:ec ps part=ek out:=by rw[hN2];exact(tx hT).symm
  by_cases ho:out=[]
  ·subst ho
   refine(fC (bz @lX @i5.{0}))<|(zK vw)<|(zR)<|(zV)<|zA [(4,bF)] [.gone] zH<|(zE) ?_;exact zP [.tmp 4] (hq:=by (try simp only[eI,bG]);first | done | (rw[hres,show ek []=[] from rfl];exact⟨rfl,rfl⟩))
  ·have hol:¬out.length=0:=λh=>ho (t7 h);rw[eF hol,gz ho]
   refine(zC) ?_;refine aR.sk [1] g9 rfl rfl g9 rfl zc (Bl out ii ho) (by simp only[gJ,bY,an,↓reduceIte,aa,a4,dl,a9,am,a6,jZ,br (aA (enc:=aD ah) (λ_=>rfl) _),bK (aA (enc:=aD ah) (λ_=>rfl) _)];first | done | rfl) rfl gt (by simp only[DY,gJ,bY,an,jZ,br (aA (enc:=aD ah) (λ_=>rfl) _),bK (aA (enc:=aD ah) (λ_=>rfl) _)]<;>(repeat' apply aS)<;>first | trivial | rfl | (intro hh;cases hh)) (by simp only[C5,gJ,bY,an,a4,a6,decide_true,jZ,br (aA (enc:=aD ah) (λ_=>rfl) _),bK (aA (enc:=aD ah) (λ_=>rfl) _)];first | done | rfl) (by simp only[C5,gJ,bY,an,a4,a6,decide_true,jZ,br (aA (enc:=aD ah) (λ_=>rfl) _),bK (aA (enc:=aD ah) (λ_=>rfl) _)];first | done | rfl) (by simp only[gJ,bY,an,↓reduceIte,aa,a4,dl,a9,am,a6,jZ,br (aA (enc:=aD ah) (λ_=>rfl) _),bK (aA (enc:=aD ah) (λ_=>rfl) _)];first | done | rfl) (by simp only[gJ,bY,an,↓reduceIte,aa,a4,dl,a9,am,a6,jZ,br (aA (enc:=aD ah) (λ_=>rfl) _),bK (aA (enc:=aD ah) (λ_=>rfl) _),eU,eC,cI,bf,dD];first | done | rfl) (by simp only[gJ,bY,an,↓reduceIte,aa,a4,dl,a9,am,a6,jZ,br (aA (enc:=aD ah) (λ_=>rfl) _),bK (aA (enc:=aD ah) (λ_=>rfl) _),eU,eC,cI,bf,dD];first | done | rfl) ?_;refine(zR)<|(zV) ?_
   have hsl:(ek out).length=out.length:=(sH out).length_eq;have hsne:¬ek out=[]:=λe=>hol (by rw[<-hsl,e];rfl);refine zA [(4,.buf 0 out.length 1 none)] [.cells ((ek out).flatMap (aD ah))] (Fg.rn [1] gt rfl (by (simp only[qX,gJ,bY,an,br (aA (enc:=aD ah) (λ_=>rfl) (ek out))])<;>(repeat' apply aS)<;>first | trivial | exact .inl rfl | exact .inr rfl | exact .inr trivial | exact .inl trivial) (by (simp only[dD,gJ,bY,an,br (aA (enc:=aD ah) (λ_=>rfl) (ek out))])<;>(repeat' apply aS)<;>first | rfl | trivial)) ?_;refine(zE) ?_;exact zP [.tmp 4] (hq:=by (try simp only[eI,bG]);first | done | (rw[hres,hsl,eF hol,gz hsne];exact⟨rfl,rfl⟩))
 rw[ut hls] at hfu ⊢;have hl0:0<ls.length:=bh λh=>hls (t7 h)
 refine(az (show decide (0<(ls.length:Int))=true by simp only[wp];omega))<|(gO)<|(jM) ?_;refine aR.Xe (oo:=0) (ks:=r.map λe=>.str e.1) (vs:=r.map λe=>ah e.2) (b:=none) g9 rfl rfl g9 rfl rfl (by simp only[aH]) ?_
 intro bs c hbs;rw[ap] at hbs;change aR _ _ _ _ ⟨_,_,gy [AA r bs c,fe out] _,_⟩ _;refine aR.r0 g9 (by simp only[dD,bY,an,aH,m7,m6,↓reduceIte,aa,a4,a9,am,a6,ar,aw,bP,fN,we,cx (show 1≠2 by decide)];first | done | rfl) ?_
 (repeat refine aE.seq ?_)
 refine aE.block (aE.loop (λm st=>∃pos:List Nat,pos.Nodup/\(∀j∈pos,j<r.length)/\r.length-pos.length=m/\st=⟨[(1,ah part),(8,.map 0),(12,cj 1 1 out.length),(13,an 1 ls (aD ah)),(14,cj 3 1 (jm ls (bp r pos)).length),(58,.ptr 2 0)],87,[AA r bs c,fe out,.iter (.map 0) bs c pos,fe (jm ls (bp r pos))],[]⟩) r.length (Fg.less (by (simp only[dD,bY,fQ,↓reduceIte,aa,an,bp,jm,filterMap_nil,e4,map_nil,lX,iD,i5,cx (show 1≠2 by decide)])<;>(repeat' apply aS)<;>first | rfl | trivial) (by (simp only[dD,bY,or_true,true_or,an,bp,jm,filterMap_nil,e4,map_nil,lX,iD,i5,cx (show 1≠2 by decide)])<;>(repeat' apply aS)<;>first | exact .inr rfl | exact .inl rfl | trivial)) ⟨[],dc,λj hj=>by simp at hj,rfl,rfl⟩ (by rintro m st ⟨pos,_,_,_,rfl⟩;rfl) ?_);rintro m st ⟨pos,hpn,hpl,rfl,rfl⟩;refine(zC) ?_;refine aR.W7 (ks:=r.map λe=>.str e.1) (vs:=r.map λe=>ah e.2) g9 rfl rfl g9 rfl rfl rfl (λj hj=>by rw[ap];exact hpl j hj) ?_ ?_;rotate_left
 ·intro j hj hjn;rw[ap] at hj;obtain⟨e,he⟩:∃e,r[j]?=some e:=⟨r[j],jp hj⟩;obtain⟨q1,q2,q3⟩:=rj hpn hpl hj hjn;have hsn:=lG r pos he;have hms:=Jr ls (bp r pos) e;rw[<-hsn] at hms
  have hml:(jm ls (bp r pos)).length<=100000:=by
   unfold jm;rw[ap];have h1:=ch (λe:List Nat×List Nat=>ls.contains e.2) (bp r pos);have h2:(bp r pos).length<=pos.length:=c5 _ _;omega
  generalize jm ls (bp r pos)=mo at hms hml
  refine(zR)<|(gO)<|(zC) ?_;refine aR.W1 (ks:=r.map λe=>.str e.1) (vs:=r.map λe=>ah e.2) (k:=.str e.1) (v:=ah e.2) g9 rfl rfl g9 rfl rfl rfl (by rw[a8,he];rfl) (by rw[a8,he];rfl) ?_;refine(zR)<|(zC)<|(zK (iY ls e.2 ii)) ?_
  cases hc:ls.contains e.2
  ·rw[hc,ut gt,append_nil] at hms
   refine(zR)<|(zN) ?_;exact⟨r.length-(pos++[j]).length,_,by rw[li];simp only[i7,i5];omega,(bN hms),pos++[j],q1,q2,rfl,rfl⟩
  ·rw[hc,un rfl] at hms
   refine(zR)<|(zY) ?_
   have happ:=mI (enc:=aD ah) (e:=1) (λ_=>rfl) (λ_=>rfl) 3 mo e.1;have hcl:=bg (enc:=aD ah) (e:=1) (λ_=>rfl) mo;rw[show aD ah e.1=[ah e.1] from rfl,d5] at happ;by_cases hmo:mo=[]
   ·subst hmo;refine(zs) ?_;refine aE.r0 g9 (by simp only[dD,bY,an,aH,m7,m6,↓reduceIte,aa,a4,a9,am,a6,ar,aw,bP,lX,i5,iD,fN,we,cx (show 1≠4 by decide),cx (show 1≠5 by decide)];first | done | rfl) ?_;exact⟨r.length-(pos++[j]).length,_,by rw[li];simp only[i7,i5];omega,((Fg.rn (f':=[(1,ah part),(8,.map 0),(12,cj 1 1 out.length),(13,an 1 ls (aD ah)),(14,.buf 3 1 1 none),(58,.ptr 2 0)]) (n:=87) (S':=[AA r bs c,fe out,.iter (.map 0) bs c (pos++[j]),.cells [ah e.1]]) [0,1,2,5] gt rfl (NP (cL @LZ @eQ @dM)) (NQ (cL @LZ @eQ @dM)))).trans (bN (F4 hms @nil_append.{0} @fe.eq_1 @aD.eq_1 @flatMap_cons.{0,0} @flatMap_nil.{0,0} @cj.eq_1)),pos++[j],q1,q2,rfl,rfl⟩
   ·have hmol:¬mo.length=0:=λh=>hmo (t7 h);rw[eF hmol,gz hmo]
    have hq:mo++[e.1]≠[]:=by simp
    have hql:(mo++[e.1]).length=mo.length+1:=by rw[li];rfl
    refine(zs) ?_;refine aE.r0 g9 (by simp only[dD,bY,an,aH,m7,m6,↓reduceIte,aa,a4,a9,am,a6,ar,aw,bP,fN,we,cx (show 1≠4 by decide),cx (show 1≠3 by decide),bC (enc:=aD ah) (λ_=>rfl) _ mo,hcl,d5,ac,show mo.length<=1000000 by omega,happ];first | done | rfl) ?_;exact⟨r.length-(pos++[j]).length,_,by rw[li];simp only[i7,i5];omega,(bN (gh hms hql @T9 (gz hq))),pos++[j],q1,q2,rfl,rfl⟩
 intro hall;have hperm:(bp r pos).Perm r:=nj hpn hpl λj hj=>hall j (by rw[ap];exact hj);have hmp:(jm ls (bp r pos)).Perm (jm ls r):=Jq hperm;obtain⟨mo,hmo⟩:∃mo,mo=jm ls (bp r pos):=⟨_,rfl⟩;rw[<-hmo] at hmp ⊢;clear hall
 refine(zR)<|(gE) ?_;refine aE.fg (st':=⟨[(1,ah part),(8,.map 0),(12,cj 1 1 out.length),(13,an 1 ls (aD ah)),(14,an 1 mo (aD ah))],87,[bD AV.str ah r,fe out],[]⟩) ?_ ?_
 ·refine Fg.trans (b:=⟨_,87,[AA r bs c,fe out],[]⟩) ?_ (Fg.Ux (S:=[AA r bs c,fe out]) (ks:=r.map λe=>.str e.1) (vs:=r.map λe=>ah e.2) (b:=some (bs,c)) 0 rfl);by_cases h0:mo=[]
  ·rw[h0];exact Fg.trans (Fg.wk (f':=[(1,ah part),(8,.map 0),(12,cj 1 1 out.length),(13,an 1 ls (aD ah)),(14,an 1 ([]:List (List Nat)) (aD ah))]) ⟨.inl rfl,.inl rfl,.inl rfl,.inl rfl,.inr (.nil _),trivial⟩) zH
  ·have hmol:¬mo.length=0:=λh=>h0 (t7 h);rw[eF hmol,gz h0];exact Fg.trans (Fg.freeze (f':=[(1,ah part),(8,.map 0),(12,cj 1 1 out.length),(13,an 1 ls (aD ah)),(14,an 1 mo (aD ah))]) 3 rfl ge ⟨.inl rfl,.inl rfl,.inl rfl,.inl rfl,.inr (.buf rfl (by rw[eL (enc:=aD ah) (e:=1) (λ_=>rfl)];exact bm.refl (aA (λ_=>rfl) _)) (by rw[bg (enc:=aD ah) (e:=1) (λ_=>rfl)];exact ac _)),trivial⟩) zH
 have hmol:mo.length<=r.length:=by
  rw[hmp.length_eq];unfold jm;rw[ap];exact ch _ _
 have hdel:=MD hrn hmp
 have hgo:((out++mo)++dT (fu-1) (r.filter λe=>!ls.contains e.2) mo).Perm T:=by
  refine Perm.trans ?_ hT;obtain⟨k,rfl⟩:∃k,fu=k+1:=⟨fu-1,by omega⟩;rw[dT,ut hls,a7];refine Perm.append_left out (hmp.append ?_);refine oC k (Perm.refl _) (λx=>?_) ⟨λe=>?_,λe=>?_⟩
  ·rw[d0,bk,bk];exact hmp.mem_iff
  ·rw[e] at hmp;exact hmp.nil_eq.symm
  ·have:jm ls r=[]:=e;rw[this] at hmp;exact hmp.eq_nil
 have hpl:(jm ls r).length+(r.filter λe=>!ls.contains e.2).length=r.length:=by
  unfold jm;rw[ap];exact AK _ r
 rw[<-hmp.length_eq] at hpl;have hrn2:((r.filter λe=>!ls.contains e.2).map (·.1)).Nodup:=hrn.sublist (List.filter_sublist.map _)
 (try change aE _ _ _ _ _)
 refine(zV)<|(zs) ?_;refine zL mo (λk=>True) (λk=>[(1,ah part),(8,.map 0),(12,cj 1 1 out.length),(14,an 1 mo (aD ah)),(71,an 1 mo (aD ah)),(72,ab mo.length),(73,ab k)]) (λk=>[bD AV.str ah ((mo.take k).foldl (λr k=>jS k r) r),fe out]) (bN (bz @take_zero.{0} @foldl_nil.{0,0})) zp ?_;intro k hk hall;refine zT mo k ?_ ?_;rintro rfl;rotate_left;intro x hx hlt;rotate_left
 rotate_left
 ·refine(gO)<|(az (cL hlt (aQ (e:=1) (enc:=aD ah) (λ_=>rfl) hx) @aD.eq_1))<|(zs) ?_;refine aE.r0 g9 (by simp only[dD,bY,an,aH,m7,m6,↓reduceIte,aa,a4,a9,am,a6,ar,aw,bP,Ba (l:=(mo.take k).foldl (λr k=>jS k r) r)];first | done | rfl) ?_
  have hst:(mo.take (k+1)).foldl (λr k=>jS k r) r=jS x ((mo.take k).foldl (λr k=>jS k r) r):=by rw[c8 hx,ce];rfl
  refine(az (zi hlt (show mo.length<=1000000 by omega))) ?_;refine zX hlt (bN hst) trivial
 refine(gE) ?_;rw[ba,hdel];generalize hr':(r.filter λe=>!ls.contains e.2)=r' at hgo hpl hrn2
 have hme:r'.length+(if mo=[] then 0 else 1)<r.length+1/\r'.length+(if mo=[] then 1 else 2)<=fu-1:=by
  by_cases h0:mo=[]
  ·rw[un h0,un h0];omega
  ·have:0<mo.length:=bh λh=>h0 (t7 h);rw[ut h0,ut h0];omega
 have hsz2:(out++mo).length+r'.length<=ps.length/\mo.length<=ps.length+1:=by rw[li];omega
 have hmk:=bC (enc:=aD ah) (λ_=>rfl);have hmo1:(mo.flatMap (aD ah)).all fq=true:=rR (λ_=>rfl) mo;by_cases h0:mo=[]
 ·subst h0;rw[append_nil] at hgo hsz2;by_cases h1:out=[]
  ·subst h1
   refine(az (bz @lX @i5.{0}))<|(zV) ?_;exact⟨_,_,hme.1,(bN (cL @lX @iD @i5.{0})),r',[],[],fu-1,⟨hrn2,hme.2⟩,hgo,hsz2,rfl,rfl⟩
  ·have h1l:¬out.length=0:=λh=>h1 (t7 h);rw[eF h1l,gz h1]
   refine(az (bz @i5.{0} (show out.length<=1000000 by omega)))<|(zV) ?_;exact⟨_,_,hme.1,(Fg.less (by (simp only[dD,bY,fQ,↓reduceIte,aa,an,eF h1l,gz h1,i5])<;>(repeat' apply aS)<;>first | rfl | trivial) (by (simp only[dD,bY,or_true,true_or,an,eF h1l,gz h1,i5])<;>(repeat' apply aS)<;>first | exact .inr rfl | exact .inl rfl | trivial)),r',[],out,fu-1,⟨hrn2,hme.2⟩,hgo,hsz2,rfl,rfl⟩
 have hmol2:¬mo.length=0:=λh=>h0 (t7 h);by_cases h1:out=[]
 ·subst h1;rw[nil_append] at hgo hsz2
  refine(az (Vv @lX @iD @i5.{0} hmol2 (show mo.length<=1000000 by omega) hmo1 hmk @jZ))<|(zV) ?_;exact⟨_,_,hme.1,((Fg.rn (f':=[(1,ah part),(8,.map 0),(12,.buf 1 mo.length 1 none),(13,an 1 mo (aD ah))]) (n:=87) (S':=[bD AV.str ah r',.cells (mo.flatMap (aD ah))]) [0,2] gt rfl (by (simp only[qX,gJ,bY,an,LY,br (aA (enc:=aD ah) (λ_=>rfl) mo)])<;>(repeat' apply aS)<;>first | trivial | exact .inl rfl | exact .inr rfl | exact .inr trivial | exact .inl trivial) (by (simp only[dD,gJ,bY,an,LY,br (aA (enc:=aD ah) (λ_=>rfl) mo)])<;>(repeat' apply aS)<;>first | rfl | trivial))).trans (Fg.less (by (simp only[dD,bY,fQ,↓reduceIte,aa,an,eF hmol2,gz h0])<;>(repeat' apply aS)<;>first | rfl | trivial) (by (simp only[dD,bY,or_true,true_or,an,eF hmol2,gz h0])<;>(repeat' apply aS)<;>first | exact .inr rfl | exact .inl rfl | trivial)),r',mo,mo,fu-1,⟨hrn2,hme.2⟩,hgo,hsz2,rfl,rfl⟩
 ·have h1l:¬out.length=0:=λh=>h1 (t7 h);have hol:=bg (enc:=aD ah) (e:=1) (λ_=>rfl) out;rw[d5] at hol;have hot:(out.flatMap (aD ah)).take out.length=out.flatMap (aD ah):=aj (by rw[hol];exact ac _)
  have hq:¬(out++mo)=[]:=by simp[h1]
  have hql:(out++mo).length=out.length+mo.length:=li;rw[eF h1l,gz h1]
  have hap:(out.flatMap (aD ah)++mo.flatMap (aD ah)).map (bf 1)=(out++mo).flatMap (aD ah):=by rw[bw,hmk,hmk,bb]
  refine(az (bz (QV hmol2 (show mo.length<=1000000 by omega) (show out.length<=1000000 by omega) hmo1 hol @d5 @ac hot hmk) (bz @jZ hap)))<|(zV) ?_;exact⟨_,_,hme.1,(Fg.less (by (simp only[dD,bY,fQ,↓reduceIte,aa,an,eF (show ¬(out.length+mo.length)=0 by omega),gz hq,hql])<;>(repeat' apply aS)<;>first | rfl | trivial) (by (simp only[dD,bY,or_true,true_or,an,eF (show ¬(out.length+mo.length)=0 by omega),gz hq,hql])<;>(repeat' apply aS)<;>first | exact .inr rfl | exact .inl rfl | trivial)),r',mo,out++mo,fu-1,⟨hrn2,hme.2⟩,hgo,hsz2,rfl,rfl⟩
end Go.Proofs
