/- Lemmas of this claim, each with its conditions. -/
import Derived.Test.YtjiejanfnnieaaaGreatA5
import Derived.Test.YtjiejanfnnieaaaGreatA4
set_option linter.all false
set_option maxHeartbeats 8000000
open Go.Proofs.Tryz (prog func199 func44 func45 func50)
open List (append_nil flatMap_cons Perm flatMap_nil nil_append filterMap_nil foldl_nil map_nil mem_map take_zero all_eq_true cons_append)
open Nat (ble)
open Nat renaming reduceEqDiff -> aa, le_refl -> ac, reduceLeDiff -> am, reduceAdd -> a4, min_eq_left -> a5, reduceLT -> a6, reduceMul -> a9, pos_of_ne_zero -> bh, zero_mul -> bv, zero_le -> b5, lt_succ_self -> ck, sub_zero -> cl, not_lt_zero -> co, succ_mul -> c0, reduceSub -> dl, add_comm -> dy, min_def -> d4, mul_one -> d5, le_trans -> es, sub_self -> ex, succ_le_succ -> ey, lt_irrefl -> fd, min_self -> fl
open Bool renaming and_eq_true -> ad, not_eq_true' -> b8, eq_iff_iff -> d0, false_eq_true -> d7
open List renaming length_take -> af, take_of_length_le -> aj, take_append_of_le_length -> al, length_map -> ap, mem_of_getElem? -> aU, length_drop -> a3, append_assoc -> a7, getElem?_map -> a8, take_length -> ba, flatMap_append -> bb, length_set -> bc, drop_of_length_le -> bd, set_eq_take_append_cons_drop -> be, replicate -> bi, contains_iff_mem -> bk, getElem?_cons_succ -> bt, map_append -> bw, filter_cons -> b6, length_replicate -> b7, map_cons -> b9, any_eq_true -> cc, drop_append_of_le_length -> cd, foldl_append -> ce, length_filter_le -> ch, sizeOf_lt_of_mem -> ci, drop_zero -> cn, filterMap_cons -> ct, mem_map_of_mem -> cv, all_append -> cI, getElem?_drop -> c4, length_filterMap_le -> c5, getElem?_cons_zero -> c6, nodup_nil -> dc, take_take -> dd, drop_length -> ds, filterMap_append -> dt, getElem?_eq_none -> dv, filter_eq_self -> d2, takeWhile_cons -> d3, filter_append -> d8, getElem?_take -> d9, all_cons -> eb, any_eq_false -> ec, getElem?_inj -> el, getElem?_set -> em, take_add_one -> er, take_append -> e3, filter_nil -> e4, nodup_cons -> e5, drop_drop -> e6
open And renaming intro -> aS
open Int renaming le_refl -> cp
open Go.Proofs.Tryz renaming func355 -> d6
namespace Go.Proofs
open Go.Ev
set_option maxRecDepth 100000
def wI(a b:List Nat):Bool:=!fe b a
def Lg(a b c:List Nat)(h1:wI a b=true)(h2:wI b c=true):wI a c=true:=by
 unfold wI at *;simp only[b8] at *;cases h:fe c a
 ·rfl
 ·rcases jK a b with g | g | g
  ·have:=fp h g;rw[h2] at this;cases this
  ·rw[g,h2] at h;cases h
  ·rw[h1] at g;cases g
def Lf(a b:List Nat):(wI a b||wI b a)=true:=by
 unfold wI
 rcases jK a b with g | g | g
 ·rw[rj g];rfl
 ·rw[g,cS];rfl
 ·rw[rj g];simp
def Fq{a b:List Nat}(h1:wI a b=true)(h2:wI b a=true):a=b:=by
 unfold wI at h1 h2;simp only[b8] at h1 h2
 rcases jK a b with g | g | g
 ·rw[h2] at g;cases g
 ·exact g
 ·rw[h1] at g;cases g
def Ld(x:List Nat):List (List Nat)->List (List Nat)
 | []=>[x]
 | y::l=>cond (wI x y) (x::y::l) (y::Ld x l)
def dX:List (List Nat)->List (List Nat)
 | []=>[]
 | x::l=>Ld x (dX l)
def RZ(x:List Nat):∀l,(Ld x l).Perm (x::l)
 | []=>.refl _
 | y::l=>by
  rw[Ld];cases wI x y
  ·exact((RZ x l).cons y).trans (.swap x y l)
  ·exact .refl _
def qE:∀l,(dX l).Perm l
 | []=>.refl _
 | x::l=>(RZ x _).trans ((qE l).cons x)
def Td(x:List Nat):∀l,l.Pairwise (λa b=>wI a b=true)->(Ld x l).Pairwise λa b=>wI a b=true
 | [],_=>List.pairwise_singleton ..
 | y::l,h=>by
  obtain⟨h1,h2⟩:=List.pairwise_cons.1 h;rw[Ld];cases g:wI x y
  ·refine List.pairwise_cons.2 ⟨λz hz=>?_,Td x l h2⟩
   rcases t7 ((RZ x l).mem_iff.1 hz) with rfl | hz
   ·have:=Lf z y;rw[g] at this;simpa using this
   ·exact h1 z hz
  ·refine List.pairwise_cons.2 ⟨λz hz=>?_,h⟩
   rcases t7 hz with rfl | hz
   ·exact g
   ·exact Lg _ _ _ g (h1 z hz)
def Ge:∀l,(dX l).Pairwise λa b=>wI a b=true
 | []=>.nil
 | x::l=>Td x _ (Ge l)
def zr{l ks:List (List Nat)}(hp:ks.Perm l)(hs:qT ks):ks=dX l:=by
 have h2:(dX l).Pairwise λa b=>wI a b=true:=Ge l
 have h1:ks.Pairwise λa b=>wI a b=true:=by
  unfold qT at hs;refine hs.imp ?_;intro a b h;unfold wI;rw[h];rfl
 have hq:ks.Perm (dX l):=hp.trans (qE l).symm;exact Perm.eq_of_pairwise (λa b _ _ h1 h2=>Fq h1 h2) h1 h2 hq
def Ks(l:List (List Nat)):(l.map pW).flatten=l.map AV.str:=by
 induction l with
 | nil=>rfl
 | cons a l ih=>rw[b9,List.flatten_cons,ih];rfl
def yn:∀l:List (List Nat),iP (l.flatMap (aB ah))=some (l.map AV.str)
 | []=>rfl
 | a::l=>by
  show iP (ah a::l.flatMap (aB ah))=_;rw[iP,cN,m8,yn l];rfl
def An(l:List (List Nat))(hlen:l.length<=1000000)(hne:l≠[]):SC prog 56 [.buf 0 l.length 1 none] [.cells (l.flatMap (aB ah))] [] (λr S'=>r=.cm []/\S'=[.cells ((dX l).flatMap (aB ah))]):=by
 have hl2:(dX l).length=l.length:=(qE l).length_eq;refine SC.row (by rw[CT,CT,hl2]) (λθ ρ xs hx=>ma hx (N4 _)) ?_;intro E θ ρ h avs asx bO hl hR hA ho hV ⟨⟨x,y⟩,hf,hxy,b1,b2,b3,b4⟩;have has:=oi hV (yn l);subst has;rw[aK] at hA;obtain⟨a,r,rfl,hA1,hA2⟩:=hA;rw[bf] at hA2;subst hA2;rw[VS] at hA1;subst hA1
 have hout:Mp 0 h (.slice (some ((θ 0).id,0)) l.length 1 none) 1 (l.map pW):=by
  refine⟨zb l,.inr ⟨(θ 0).id,bO,x,y,by simpa using hne,by rw[ap],by rw[Ks];exact ho,hf,hxy,b5 _,b5 _,b5 _,b5 _,b4,b1,b2,b3⟩⟩
 refine(wg l _ 0 h hout hlen).mono ?_;rintro v h' ⟨rfl,ks',hp,hs,_,_,hst⟩;have:=zr hp hs;subst this;refine⟨by rw[VS];exact⟨[],rfl,by rw[bf]⟩,_,?_,hst _ _ _ _ rfl⟩;rw[Ks];exact tl (yn _)
def rJ(l:List (List Nat)):List (List Nat):=l.foldl (λacc x=>if acc.getLast?=some x then acc else acc++[x]) []
def Hy(l:List (List Nat))(x:List Nat):rJ (l++[x])=if (rJ l).getLast?=some x then rJ l else rJ l++[x]:=by
 unfold rJ;rw[ce];rfl
def cD{α:Type}{l:List α}{i:Nat}{x:α}(h:l[i]?=some x):l.take (i+1)=l.take i++[x]:=by
 rw[er,h];rfl
def bZ(o e n:Nat):SV:=if n=0 then bG else .buf o n e none
def O8{α:Type}(o:Nat)(l:List α)(enc:α->List SV):List SO:=if l=[] then [] else bi o .gone++[.cells (l.flatMap enc)]
def ly(o e:Nat):bZ o e 0=bG:=rfl
def R9(o e n:Nat):bZ o e (n+1)=.buf o (n+1) e none:=rfl
def ef{o e n:Nat}(h:¬n=0):bZ o e n=.buf o n e none:=v6 h
def Qb{α:Type}(o:Nat)(enc:α->List SV):O8 o [] enc=[]:=rfl
def NV{α:Type}{o:Nat}{l:List α}{enc:α->List SV}(h:¬l=[]):O8 o l enc=bi o .gone++[.cells (l.flatMap enc)]:=v6 h
def NW{α:Type}(o:Nat)(l:List α)(x:α)(enc:α->List SV):O8 o (l++[x]) enc=bi o .gone++[.cells ((l++[x]).flatMap enc)]:=v6 gt
def aZ{α:Type}{enc:α->List SV}{e:Nat}(he:∀x,(enc x).length=e):∀l:List α,(l.flatMap enc).length=l.length*e
 | []=>by simp
 | a::l=>by rw[flatMap_cons,md,he,aZ he l,jp,c0,dy]
def ej{α:Type}{enc:α->List SV}{e:Nat}(he:∀x,(enc x).length=e)(l:List α):(l.flatMap enc).take (l.length*e)=l.flatMap enc:=
 aj (by rw[aZ he];exact ac _)
def mb{α:Type}{enc:α->List SV}{e:Nat}(he:∀x,(enc x).length=e)(hg:∀x,bW (enc x)=true)(o:Nat)(l:List α)(x:α):((l.flatMap enc).take (l.length*e)++enc x).map (aY o)=(l++[x]).flatMap enc:=by
 rw[ej he,bw,bR (hg x),bR (aA hg l),bb];simp
def bC{α:Type}{enc:α->List SV}(hg:∀x,bW (enc x)=true)(o:Nat)(l:List α):(l.flatMap enc).map (aY o)=l.flatMap enc:=bR (aA hg l)
def QY{α:Type}{enc:α->List SV}{e o:Nat}(he:∀x,(enc x).length=e)(hg:∀x,bW (enc x)=true)(l:List α):Wk (O8 o l enc) (bZ o e l.length) (an e l enc):=by
 by_cases h:l=[]
 ·subst h;exact Wk.nil _
 ·have h0:¬l.length=0:=λe=>h (t8 e);rw[ef h0,NV h];refine Wk.buf (cs:=l.flatMap enc) ?_ ?_ ?_
  ·rw[List.getElem?_append_right (by rw[b7];exact ac _),b7,ex];rfl
  ·rw[ej he];exact bg.refl (aA hg l)
  ·rw[aZ he];exact ac _
def ur:PC prog 56 [bG] (·=.a (.cm [])):=by
 intro ρ h avs _ hA;rw[dL] at hA;obtain⟨a,r,rfl,hA1,hA2⟩:=hA;rw[eP] at hA2;subst hA2;rw[GS] at hA1;subst hA1;refine(wg [] _ h.next h ⟨by simp,.inl ⟨rfl,rfl⟩⟩ gt).mono ?_;rintro v h' ⟨rfl,_,_,_,_,ho,_⟩;exact⟨_,ρ,rfl,ho,λid ob hi=>.inl hi,by rw[GS]⟩
def LL(l:List (List Nat)):List (List Nat):=rJ (dX l)
def cA(e:bu):(aq e).length=14:=rfl
def dj(e:bu):aq e=[ab e.op,ab e.day,ah e.part,ah e.kind,ah e.aR,ah e.slot,ah e.key,ah e.value,ab e.u1,ab e.u2,ab e.u3,ab e.u4,ab e.u5,ab e.u6]:=rfl
def bN(e:bu):bW (aq e)=true:=rfl
section
variable {α:Type} {c:α->SV}
def rm(l:List α):l.flatMap (aB c)=l.map c:=by
 induction l with
 | nil=>rfl
 | cons a l ih=>rw[flatMap_cons,ih];rfl
def Se{l:List α}{i:Nat}{x:α}(h:l[i]?=some x):(l.flatMap (aB c))[i]?=some (c x):=by
 rw[rm,a8,h];rfl
def Qq(l:List α):(l.flatMap (aB c)).length=l.length:=by rw[rm,List.length_map]
def N3{l:List α}{i:Nat}(y:α)(h:i<l.length):(l.flatMap (aB c)).take i++(c y::(l.flatMap (aB c)).drop (i+1))=(l.set i y).flatMap (aB c):=by
 rw[rm,rm,List.map_set,be,ut (by rw[ap];exact h)]
end
abbrev qy(n:Nat):SV:=ab (n:Int)
def qX(a0 a1 d:Int):Int:=e7 (qk a0 d) (qk a1 d)
def qW(a0 a1 d:Int):Int:=dN (qk a0 d) (qk a1 d)
def vT(a0 a1 lo hi:Int)(h:lo<=hi):SC prog 355 [ab lo,ab hi,.ptr 0 0,.ptr 1 0] [.cells [ab a0,ab a1],.cells [bG]] []
 (λr S'=>r=.cm []/\S'=[.cells [ab a0,ab a1],.cells [.buf 4 2 2 none],.gone,.gone,.cells [ab (qX a0 a1 lo),ab (qW a0 a1 lo),ab (qX a0 a1 hi),ab (qW a0 a1 hi)]]):=by
 refine Rx 40 d6 ?_;refine(aw (show decide (lo<=hi)=true by simpa using h)) ?_
 (repeat refine aE.seq ?_)
 refine aE.yes rfl ?_;refine(zV) ?_
 (repeat refine aE.seq ?_)
 refine aE.block (aE.loop (λm st=>
  (m=2/\st=⟨[(2,.ptr 0 0),(3,.ptr 1 0),(15,.buf 2 2 1 (some 2)),(16,ab 2),(17,ab 0),(1000000,.ptr 0 0),(1000001,.ptr 1 0)],40,[.cells [ab a0,ab a1],.cells [bG],.cells [ab lo,ab hi]],[]⟩)\/
  (m=1/\st=⟨[(2,.ptr 0 0),(3,.ptr 1 0),(15,.buf 2 2 1 (some 2)),(16,ab 2),(17,ab 1),(1000000,.ptr 0 0),(1000001,.ptr 1 0)],40,[.cells [ab a0,ab a1],.cells [.buf 4 1 2 none],.cells [ab lo,ab hi],.gone,.cells [ab (qX a0 a1 lo),ab (qW a0 a1 lo)]],[]⟩)\/
  (m=0/\st=⟨[(2,.ptr 0 0),(3,.ptr 1 0),(15,.buf 2 2 1 (some 2)),(16,ab 2),(17,ab 2),(1000000,.ptr 0 0),(1000001,.ptr 1 0)],40,[.cells [ab a0,ab a1],.cells [.buf 4 2 2 none],.cells [ab lo,ab hi],.gone,.cells [ab (qX a0 a1 lo),ab (qW a0 a1 lo),ab (qX a0 a1 hi),ab (qW a0 a1 hi)]],[]⟩)) 2 zH (.inl ⟨rfl,rfl⟩) (by rintro m st (⟨_,rfl⟩ | ⟨_,rfl⟩ | ⟨_,rfl⟩)<;>rfl) ?_)
 rintro m st (⟨rfl,rfl⟩ | ⟨rfl,rfl⟩ | ⟨rfl,rfl⟩)
 ·refine(wY)<|(zB)<|(zV)<|(zs) ?_;refine oS [0,1,0,7,0,16,0,127,255,511] ?_;refine(zD) ?_;refine SD.k i4 rfl rfl i4 rfl rfl zc (gV a0 lo) (zw) rfl ?_;refine(zD) ?_;refine SD.k i4 rfl rfl i4 rfl rfl zc (gV a1 lo) (zw) rfl ?_;refine(zD)<|(zM)<|(aw (bq @jf @ff))<|(zV) ?_;exact⟨1,_,by omega,(bX (bq @qX.eq_1 @qW.eq_1)),.inr (.inl ⟨rfl,rfl⟩)⟩
 ·refine(wY)<|(zB)<|(zV)<|(zs) ?_;refine oS [0,1,0,7,0,16,0,127,255,511] ?_;refine(zD) ?_;refine SD.k i4 rfl rfl i4 rfl rfl zc (gV a0 hi) (zw) rfl ?_;refine(zD) ?_;refine SD.k i4 rfl rfl i4 rfl rfl zc (gV a1 hi) (zw) rfl ?_;refine(zD)<|(zM)<|(aw (bq @jf @ff))<|(zV) ?_;exact⟨0,_,by omega,(bX (bq @qX.eq_1 @qW.eq_1)),.inr (.inr ⟨rfl,rfl⟩)⟩
 ·refine(Ec)<|zA [(1000000,.ptr 0 0),(1000001,.ptr 1 0)] [.cells [ab a0,ab a1],.cells [.buf 4 2 2 none],.gone,.gone,.cells [ab (qX a0 a1 lo),ab (qW a0 a1 lo),ab (qX a0 a1 hi),ab (qW a0 a1 hi)]] zH ?_;refine aE.exit ?_
  simp only[eQ,cX,bU,bK,if_true];exact zP []
def Gp(a0 a1 lo hi:Int)(h:¬lo<=hi):SC prog 355 [ab lo,ab hi,.ptr 0 0,.ptr 1 0] [.cells [ab a0,ab a1],.cells [bG]] []
 (λr S'=>r=.cm []/\S'=[.cells [ab a0,ab a1],.cells [bG]]):=by
 refine Rx 40 d6 ?_;refine(aw (show decide (lo<=hi)=false by simpa using h)) ?_
 (repeat refine aE.seq ?_)
 refine aE.no rfl ?_;refine aE.skip ?_
 (try simp only[eQ,cX,bU,bK])
 exact zP []
def qF(a0 a1 lo hi:Int)(n:Nat)(cs:List SV)(h:¬lo<=hi):SC prog 355 [ab lo,ab hi,.ptr 0 0,.ptr 1 0] [.cells [ab a0,ab a1],.cells [.buf 2 n 2 none],.cells cs] []
 (λr S'=>r=.cm []/\S'=[.cells [ab a0,ab a1],.cells [.buf 2 n 2 none],.cells cs]):=by
 refine TZ 40 d6 ?_;refine(aw (show decide (lo<=hi)=false by simpa using h)) ?_
 (repeat refine aE.seq ?_)
 refine aE.no rfl ?_;refine aE.skip ?_
 (try simp only[eQ,cX,bU,bK])
 exact zP []
def cM(p:Int×Int):List SV:=[ab p.1,ab p.2]
def qY(p:Int×Int):(cM p).length=2:=rfl
def mf(p:Int×Int):bW (cM p)=true:=rfl
def vS(a0 a1 lo hi:Int)(rows:List (Int×Int))(hlen:rows.length<=1000)(h:lo<=hi):SC prog 355 [ab lo,ab hi,.ptr 0 0,.ptr 1 0] [.cells [ab a0,ab a1],.cells [.buf 2 rows.length 2 none],.cells (rows.flatMap cM)] [2]
 (λr S'=>r=.cm []/\S'=[.cells [ab a0,ab a1],.cells [.buf 2 (rows.length+1+1) 2 none],.cells ((rows++[(qX a0 a1 lo,qW a0 a1 lo)]++[(qX a0 a1 hi,qW a0 a1 hi)]).flatMap cM)]):=by
 refine TZ 40 d6 ?_;have step:∀(l:List (Int×Int)) (x y:Int),((l.flatMap cM).take (l.length*2)++[ab x,ab y]).map (aY 2)=(l++[(x,y)]).flatMap cM:=λl x y=>mb qY mf 2 l (x,y);have hcl:∀l:List (Int×Int),(l.flatMap cM).length=l.length*2:=aZ qY;have hkc:∀(o:Nat) (l:List (Int×Int)),(l.flatMap cM).map (aY o)=l.flatMap cM:=λo l=>bC mf o l;refine(aw (show decide (lo<=hi)=true by simpa using h)) ?_
 (repeat refine aE.seq ?_)
 refine aE.yes rfl ?_;refine(aw hkc) ?_
 (repeat refine aE.seq ?_)
 refine aE.block (aE.loop (λm st=>∃q:List (Int×Int),
  (m=2/\q=rows/\st=⟨[(2,.ptr 0 0),(3,.ptr 1 0),(15,.buf 3 2 1 (some 2)),(16,ab 2),(17,ab 0),(1000000,.ptr 0 0),(1000001,.ptr 1 0)],40,[.cells [ab a0,ab a1],.cells [.buf 2 q.length 2 none],.cells (q.flatMap cM),.cells [ab lo,ab hi]],[]⟩)\/
  (m=1/\q=rows++[(qX a0 a1 lo,qW a0 a1 lo)]/\st=⟨[(2,.ptr 0 0),(3,.ptr 1 0),(15,.buf 3 2 1 (some 2)),(16,ab 2),(17,ab 1),(1000000,.ptr 0 0),(1000001,.ptr 1 0)],40,[.cells [ab a0,ab a1],.cells [.buf 2 q.length 2 none],.cells (q.flatMap cM),.cells [ab lo,ab hi]],[]⟩)\/
  (m=0/\q=rows++[(qX a0 a1 lo,qW a0 a1 lo)]++[(qX a0 a1 hi,qW a0 a1 hi)]/\st=⟨[(2,.ptr 0 0),(3,.ptr 1 0),(15,.buf 3 2 1 (some 2)),(16,ab 2),(17,ab 2),(1000000,.ptr 0 0),(1000001,.ptr 1 0)],40,[.cells [ab a0,ab a1],.cells [.buf 2 q.length 2 none],.cells (q.flatMap cM),.cells [ab lo,ab hi]],[]⟩)) 2 zH ⟨rows,.inl ⟨rfl,rfl,rfl⟩⟩ (by rintro m st ⟨q,⟨_,_,rfl⟩ | ⟨_,_,rfl⟩ | ⟨_,_,rfl⟩⟩<;>rfl) ?_)
 rintro m st ⟨q,⟨rfl,hq,rfl⟩ | ⟨rfl,hq,rfl⟩ | ⟨rfl,hq,rfl⟩⟩
 ·have hql:q.length<=1000000:=by rw[hq];omega
  refine(wY)<|(zB)<|(zV)<|(zs) ?_;refine oS [0,1,0,7,0,16,0,127,255,511] ?_;refine(zD) ?_;refine SD.k i4 rfl rfl i4 rfl rfl zc (gV a0 lo) (zw) rfl ?_;refine(zD) ?_;refine SD.k i4 rfl rfl i4 rfl rfl zc (gV a1 lo) (zw) rfl ?_;refine(zD)<|(zM)<|(aw (EG @jf @ff hkc hcl step hql @ac))<|(zV) ?_;refine⟨1,_,by omega,(bX (xX @qX.eq_1 @qW.eq_1 hq @md.{0} @jp.{0} @i7.{0})),q++[(qX a0 a1 lo,qW a0 a1 lo)],.inr (.inl ⟨rfl,by rw[hq],rfl⟩)⟩
 ·have hql:q.length<=1000000:=by rw[hq,md];simp only[jp,i7];omega
  refine(wY)<|(zB)<|(zV)<|(zs) ?_;refine oS [0,1,0,7,0,16,0,127,255,511] ?_;refine(zD) ?_;refine SD.k i4 rfl rfl i4 rfl rfl zc (gV a0 hi) (zw) rfl ?_;refine(zD) ?_;refine SD.k i4 rfl rfl i4 rfl rfl zc (gV a1 hi) (zw) rfl ?_;refine(zD)<|(zM)<|(aw (EG @jf @ff hkc hcl step hql @ac))<|(zV) ?_;refine⟨0,_,by omega,(bX (xX @qX.eq_1 @qW.eq_1 hq @md.{0} @jp.{0} @i7.{0})),q++[(qX a0 a1 hi,qW a0 a1 hi)],.inr (.inr ⟨rfl,by rw[hq],rfl⟩)⟩
 ·refine(Ec) ?_;rw[show q.length=rows.length+1+1 by rw[hq];simp];refine zA [(1000000,.ptr 0 0),(1000001,.ptr 1 0)] [.cells [ab a0,ab a1],.cells [.buf 2 (rows.length+1+1) 2 none],.cells (q.flatMap cM)] zH ?_;refine aE.exit ?_;simp only[eQ,cX,bU,bK,if_true];exact zP [] (hq:=by (try simp only[ew,bH]);first | done | (rw[hq];first | exact⟨rfl,rfl⟩ | exact⟨trivial,rfl⟩ | exact⟨rfl,trivial⟩ | exact⟨trivial,trivial⟩))
def cQ(a0 a1 lo hi:Int):List (Int×Int):=if lo<=hi then [(qX a0 a1 lo,qW a0 a1 lo)]++[(qX a0 a1 hi,qW a0 a1 hi)] else []
def lP(a0 a1 b0 b1:Int):List (Int×Int):=(if b0<=0/\0<=b1 then [(0,0)] else [])++cQ a0 a1 (dN b0 1) b1++cQ a0 a1 b0 (e7 b1 (-1))
def iQ(x y:Int×Int):Int×Int:=lV x.1 x.2 y.1 y.2
def jC(a0 a1 b0 b1:Int):Int×Int:=(lP a0 a1 b0 b1).foldl iQ ((lP a0 a1 b0 b1).headD (0,0))
def uR{α:Type}{f:α->α->α}{l:List α}{i:Nat}{x a:α}(h:l[i]?=some x):(l.take (i+1)).foldl f a=f ((l.take i).foldl f a) x:=by
 rw[er,h,Option.toList_some,ce];rfl
def Gq(a0 a1 b0 b1:Int)(hb:b0<=b1):PC prog 351 [kS a0 a1,kS b0 b1] (·=nZ (jC a0 a1 b0 b1)):=by
 refine pB 51 Tryz.func351 ?_;have hkc:∀(o:Nat) (l:List (Int×Int)),(l.flatMap cM).map (aY o)=l.flatMap cM:=λo l=>bC mf o l;have hrc:∀(g:Nat->Nat) (l:List (Int×Int)),mn g (l.flatMap cM)=l.flatMap cM:=λg l=>bn (aA mf l);have hbc:∀(B:Nat) (l:List (Int×Int)),hY B (l.flatMap cM)=true:=λB l=>bI (aA mf l);have hcl:∀l:List (Int×Int),(l.flatMap cM).length=l.length*2:=aZ qY
 refine(aw @kS.eq_1)<|(zV) ?_
 by_cases hz:b0<=0/\0<=b1
 ·refine(aw (bq (show decide (b0<=0)=true by simpa using hz.1) (show decide (0<=b1)=true by simpa using hz.2)))<|(cF)<|(zV) ?_
  have hm1:dN b0 1=1:=by unfold dN;split<;>omega
  have d1:lP a0 a1 b0 b1=([(0,0)]++cQ a0 a1 1 b1)++cQ a0 a1 b0 (e7 b1 (-1)):=by rw[lP,ut hz,hm1]
  (repeat refine aE.seq ?_)
  refine aE.mono (Q:=λe st=>e=.normal/\Fg st ⟨[(3,.ptr 1 0),(4,.ptr 2 0),(5,.ptr 3 0),(6,.fn 355 [] [.ptr 0 0,.ptr 3 0])],51,[.cells [ab a0,ab a1],.cells [ab b0,ab b1],.cells [ab 0,ab 0],.cells [.buf 5 ([(0,0)]++cQ a0 a1 1 b1).length 2 none],.gone,.cells (([(0,0)]++cQ a0 a1 1 b1).flatMap cM)],[]⟩) ?_ ?_
  ·by_cases h1:(1:Int)<=b1
   ·refine(fb (bq @ff hm1)) ?_;have hd:=vS a0 a1 1 b1 [(0,0)] ii h1;rw[show[((0:Int),(0:Int))].flatMap cM=[ab 0,ab 0] from rfl,show[((0:Int),(0:Int))].length=1 from rfl] at hd;refine zS [0,3,5] (cG hrc hbc hkc) hd ?_;refine(zR) ?_;refine⟨rfl,(Fg.less (by (simp only[dJ,cj,fH,↓reduceIte,aa,cQ,ut h1,md,jp,i7,a7])<;>(repeat' apply aS)<;>first | rfl | trivial) (by (simp only[dJ,cj,or_true,true_or,cQ,ut h1,md,jp,i7,a7])<;>(repeat' apply aS)<;>first | exact .inr rfl | exact .inl rfl | trivial))⟩
   ·refine(fb (bq @ff hm1)) ?_;have hd:=qF a0 a1 1 b1 1 [ab 0,ab 0] h1;refine zS [0,3,5] (cG hrc hbc hkc) hd ?_;refine(zR) ?_;refine⟨rfl,(Fg.less (by (simp only[dJ,cj,fH,↓reduceIte,aa,cQ,v6 h1,append_nil,jp,i7,flatMap_cons,flatMap_nil,cM])<;>(repeat' apply aS)<;>first | rfl | trivial) (by (simp only[dJ,cj,or_true,true_or,cQ,v6 h1,append_nil,jp,i7,flatMap_cons,flatMap_nil,cM])<;>(repeat' apply aS)<;>first | exact .inr rfl | exact .inl rfl | trivial))⟩
  rintro e st ⟨rfl,hfg⟩;refine aE.fg hfg ?_;clear hfg
  (try change aE _ _ _ _ _)
  have hq1:([(0,0)]++cQ a0 a1 1 b1).length<=1000:=by
   unfold cQ;split<;>simp
  (repeat refine aE.seq ?_)
  refine aE.mono (Q:=λe st=>e=.normal/\Fg st ⟨[(3,.ptr 1 0),(4,.ptr 2 0),(5,.ptr 3 0),(6,.fn 355 [] [.ptr 0 0,.ptr 3 0])],51,[.cells [ab a0,ab a1],.cells [ab b0,ab b1],.cells [ab 0,ab 0],.cells [.buf 5 (([(0,0)]++cQ a0 a1 1 b1)++cQ a0 a1 b0 (e7 b1 (-1))).length 2 none],.gone,.cells ((([(0,0)]++cQ a0 a1 1 b1)++cQ a0 a1 b0 (e7 b1 (-1))).flatMap cM)],[]⟩) ?_ ?_
  ·generalize ([(0,0)]++cQ a0 a1 1 b1)=q1 at hq1;by_cases h2:b0<=e7 b1 (-1)
   ·refine(fb @jf) ?_;have hd:=vS a0 a1 b0 (e7 b1 (-1)) q1 hq1 h2;refine zS [0,3,5] (cG hrc hbc hkc) hd ?_;refine(zR) ?_;refine⟨rfl,(Fg.less (by (simp only[dJ,cj,fH,↓reduceIte,aa,cQ,ut h2,md,jp,i7,a7])<;>(repeat' apply aS)<;>first | rfl | trivial) (by (simp only[dJ,cj,or_true,true_or,cQ,ut h2,md,jp,i7,a7])<;>(repeat' apply aS)<;>first | exact .inr rfl | exact .inl rfl | trivial))⟩
   ·refine(fb @jf) ?_;have hd:=qF a0 a1 b0 (e7 b1 (-1)) q1.length (q1.flatMap cM) h2;refine zS [0,3,5] (cG hrc hbc hkc) hd ?_;refine(zR) ?_;refine⟨rfl,(Fg.less (by (simp only[dJ,cj,fH,↓reduceIte,aa,cQ,v6 h2,append_nil])<;>(repeat' apply aS)<;>first | rfl | trivial) (by (simp only[dJ,cj,or_true,true_or,cQ,v6 h2,append_nil])<;>(repeat' apply aS)<;>first | exact .inr rfl | exact .inl rfl | trivial))⟩
  rintro e st ⟨rfl,hfg⟩;refine aE.fg hfg ?_;clear hfg
  (try change aE _ _ _ _ _)
  obtain⟨rows,hrows⟩:∃rows,rows=(([(0,0)]++cQ a0 a1 1 b1)++cQ a0 a1 b0 (e7 b1 (-1))):=⟨_,rfl⟩
  have hne:rows≠[]:=by rw[hrows];simp
  obtain⟨x0,hr0⟩:∃x0,rows[0]?=some x0:=by
   cases h:rows with
   | nil=>exact un h hne
   | cons x r=>exact⟨x,rfl⟩
  have h0r:0<rows.length:=br hr0
  have hlen:rows.length<=1000000:=by rw[hrows];(unfold cQ;split<;>split<;>simp)
  have hD:jC a0 a1 b0 b1=rows.foldl iQ x0:=by rw[jC,d1,<-hrows,show rows.headD (0,0)=x0 by cases rows with | nil=>exact un rfl hne | cons x r=>simpa using hr0]
  have ht2:(rows.flatMap cM).take 2=[ab x0.1,ab x0.2]:=by
   have:=aQ (e:=2) (enc:=cM) (λ_=>rfl) hr0
   rwa [bv,cn] at this
  rw[<-hrows];clear hrows
  refine(aw (EG (show c7 (.int .i64 0)=some 0 from rfl) @bv h0r hkc hcl ht2 (show 2<=rows.length*2 by omega)))<|(zV)<|(zs) ?_;refine zL rows (λk=>True) (λk=>[(4,.ptr 2 0),(7,.ptr 6 0),(40,.buf 5 rows.length 2 none),(41,ab rows.length),(42,ab k)]) (λk=>[.gone,.gone,.cells [ab 0,ab 0],.gone,.gone,.cells (rows.flatMap cM),.cells [ab ((rows.take k).foldl iQ x0).1,ab ((rows.take k).foldl iQ x0).2]]) (bX (cG @take_zero.{0} @foldl_nil.{0,0} hkc)) zp ?_;intro k hk hall;refine zT rows k ?_ ?_;rintro rfl;rotate_left;intro x hx hlt;rotate_left
  ·refine(gh) ?_;rw[ba]
   exact(zV)<|zo [.cell 4 52] (hq:=by rw[hD,nZ,kS])
  have hst:=uR (f:=iQ) (a:=x0) hx;obtain⟨p,q,hpq⟩:∃p q,(rows.take k).foldl iQ x0=(p,q):=⟨_,_,rfl⟩;rw[hpq] at hst ⊢
  refine(gB)<|(aw (xX hlt (aQ (e:=2) (enc:=cM) (λ_=>rfl) hx) @cM.eq_1 hcl (show k*2+2<=rows.length*2 by omega) hkc))<|(zC)<|(zK (nG p q x.1 x.2))<|(cJ (bq @nZ.eq_1 @kS.eq_1))<|(aw (zi hlt hlen)) ?_;refine zX hlt (bX (cG hst @iQ.eq_1 hkc)) trivial
 by_cases hp:1<=b0
 ·refine(aw (show decide (b0<=0)=false by simp;omega))<|(kY) ?_
  have hm1:dN b0 1=b0:=by unfold dN;split<;>omega
  have hm2:e7 b1 (-1) = -1:=by unfold e7;split<;>omega
  have d1:lP a0 a1 b0 b1=[(qX a0 a1 b0,qW a0 a1 b0),(qX a0 a1 b1,qW a0 a1 b1)]:=by rw[lP,v6 hz,hm1,hm2,cQ,ut hb,cQ,v6 i5];rfl
  refine(fb (bq @ff hm1)) ?_;have hd:=vT a0 a1 b0 b1 hb
  refine zS [0,3] (cG hrc hbc hkc) hd ?_;refine(zR)<|(fb (bq @jf hm2)) ?_
  have hd2:=qF a0 a1 b0 (-1) 2 [ab (qX a0 a1 b0),ab (qW a0 a1 b0),ab (qX a0 a1 b1),ab (qW a0 a1 b1)] i5;refine zS [0,3,6] (cG hrc hbc hkc) hd2 ?_;refine(zR) ?_;obtain⟨rows,hrows⟩:∃rows,rows=[(qX a0 a1 b0,qW a0 a1 b0),(qX a0 a1 b1,qW a0 a1 b1)]:=⟨_,rfl⟩
  have hne:rows≠[]:=by rw[hrows];simp
  obtain⟨x0,hr0⟩:∃x0,rows[0]?=some x0:=by
   cases h:rows with
   | nil=>exact un h hne
   | cons x r=>exact⟨x,rfl⟩
  have h0r:0<rows.length:=br hr0
  have hlen:rows.length<=1000000:=by rw[hrows];simp
  have hD:jC a0 a1 b0 b1=rows.foldl iQ x0:=by rw[jC,d1,<-hrows,show rows.headD (0,0)=x0 by cases rows with | nil=>exact un rfl hne | cons x r=>simpa using hr0]
  have ht2:(rows.flatMap cM).take 2=[ab x0.1,ab x0.2]:=by
   have:=aQ (e:=2) (enc:=cM) (λ_=>rfl) hr0
   rwa [bv,cn] at this
  rw[show([ab (qX a0 a1 b0),ab (qW a0 a1 b0),ab (qX a0 a1 b1),ab (qW a0 a1 b1)]:List SV)=rows.flatMap cM by rw[hrows];rfl,show(SV.buf 6 2 2 none)=.buf 6 rows.length 2 none by rw[hrows];rfl];clear hrows
  refine(aw (EG (show c7 (.int .i64 0)=some 0 from rfl) @bv h0r hkc hcl ht2 (show 2<=rows.length*2 by omega)))<|(zV)<|(zs) ?_;refine zL rows (λk=>True) (λk=>[(4,.ptr 2 0),(7,.ptr 7 0),(40,.buf 6 rows.length 2 none),(41,ab rows.length),(42,ab k)]) (λk=>[.gone,.gone,.cells [ab 0,ab 0],.gone,.gone,.gone,.cells (rows.flatMap cM),.cells [ab ((rows.take k).foldl iQ x0).1,ab ((rows.take k).foldl iQ x0).2]]) (bX (cG @take_zero.{0} @foldl_nil.{0,0} hkc)) zp ?_;intro k hk hall;refine zT rows k ?_ ?_;rintro rfl;rotate_left;intro x hx hlt;rotate_left
  ·refine(gh) ?_;rw[ba]
   exact(zV)<|zo [.cell 4 52] (hq:=by rw[hD,nZ,kS])
  have hst:=uR (f:=iQ) (a:=x0) hx;obtain⟨p,q,hpq⟩:∃p q,(rows.take k).foldl iQ x0=(p,q):=⟨_,_,rfl⟩;rw[hpq] at hst ⊢
  refine(gB)<|(aw (xX hlt (aQ (e:=2) (enc:=cM) (λ_=>rfl) hx) @cM.eq_1 hcl (show k*2+2<=rows.length*2 by omega) hkc))<|(zC)<|(zK (nG p q x.1 x.2))<|(cJ (bq @nZ.eq_1 @kS.eq_1))<|(aw (zi hlt hlen)) ?_;refine zX hlt (bX (cG hst @iQ.eq_1 hkc)) trivial
 ·have hn:b1 <= -1:=by omega
  by_cases hq0:b0<=0;rotate_left
  ·omega
  refine(aw (bq (show decide (b0<=0)=true by simpa using hq0) (show decide (0<=b1)=false by simp;omega)))<|(kY) ?_
  have hm1:dN b0 1=1:=by unfold dN;split<;>omega
  have hm2:e7 b1 (-1)=b1:=by unfold e7;split<;>omega
  have d1:lP a0 a1 b0 b1=[(qX a0 a1 b0,qW a0 a1 b0),(qX a0 a1 b1,qW a0 a1 b1)]:=by rw[lP,v6 hz,hm1,hm2,cQ,v6 i5,cQ,ut hb];rfl
  refine(fb (bq @ff hm1)) ?_;have hd:=Gp a0 a1 1 b1 i5
  refine zS [0,3] (cG hrc hbc hkc) hd ?_;refine(zR)<|(fb (bq @jf hm2)) ?_
  have hd2:=vT a0 a1 b0 b1 hb;refine zS [0,3] (cG hrc hbc hkc) hd2 ?_;refine(zR) ?_;obtain⟨rows,hrows⟩:∃rows,rows=[(qX a0 a1 b0,qW a0 a1 b0),(qX a0 a1 b1,qW a0 a1 b1)]:=⟨_,rfl⟩
  have hne:rows≠[]:=by rw[hrows];simp
  obtain⟨x0,hr0⟩:∃x0,rows[0]?=some x0:=by
   cases h:rows with
   | nil=>exact un h hne
   | cons x r=>exact⟨x,rfl⟩
  have h0r:0<rows.length:=br hr0
  have hlen:rows.length<=1000000:=by rw[hrows];simp
  have hD:jC a0 a1 b0 b1=rows.foldl iQ x0:=by rw[jC,d1,<-hrows,show rows.headD (0,0)=x0 by cases rows with | nil=>exact un rfl hne | cons x r=>simpa using hr0]
  have ht2:(rows.flatMap cM).take 2=[ab x0.1,ab x0.2]:=by
   have:=aQ (e:=2) (enc:=cM) (λ_=>rfl) hr0
   rwa [bv,cn] at this
  rw[show([ab (qX a0 a1 b0),ab (qW a0 a1 b0),ab (qX a0 a1 b1),ab (qW a0 a1 b1)]:List SV)=rows.flatMap cM by rw[hrows];rfl,show(SV.buf 6 2 2 none)=.buf 6 rows.length 2 none by rw[hrows];rfl];clear hrows
  refine(aw (EG (show c7 (.int .i64 0)=some 0 from rfl) @bv h0r hkc hcl ht2 (show 2<=rows.length*2 by omega)))<|(zV)<|(zs) ?_;refine zL rows (λk=>True) (λk=>[(4,.ptr 2 0),(7,.ptr 7 0),(40,.buf 6 rows.length 2 none),(41,ab rows.length),(42,ab k)]) (λk=>[.gone,.gone,.cells [ab 0,ab 0],.gone,.gone,.gone,.cells (rows.flatMap cM),.cells [ab ((rows.take k).foldl iQ x0).1,ab ((rows.take k).foldl iQ x0).2]]) (bX (cG @take_zero.{0} @foldl_nil.{0,0} hkc)) zp ?_;intro k hk hall;refine zT rows k ?_ ?_;rintro rfl;rotate_left;intro x hx hlt;rotate_left
  ·refine(gh) ?_;rw[ba]
   exact(zV)<|zo [.cell 4 52] (hq:=by rw[hD,nZ,kS])
  have hst:=uR (f:=iQ) (a:=x0) hx;obtain⟨p,q,hpq⟩:∃p q,(rows.take k).foldl iQ x0=(p,q):=⟨_,_,rfl⟩;rw[hpq] at hst ⊢
  refine(gB)<|(aw (xX hlt (aQ (e:=2) (enc:=cM) (λ_=>rfl) hx) @cM.eq_1 hcl (show k*2+2<=rows.length*2 by omega) hkc))<|(zC)<|(zK (nG p q x.1 x.2))<|(cJ (bq @nZ.eq_1 @kS.eq_1))<|(aw (zi hlt hlen)) ?_;refine zX hlt (bX (cG hst @iQ.eq_1 hkc)) trivial
structure iM where
 u1:Int
 u2:Int
 u3:Int
 u4:Int
 u5:Int
 u6:Int
def ee(u:iM):List SV:=[ab u.u1,ab u.u2,ab u.u3,ab u.u4,ab u.u5,ab u.u6]
def nr(u:iM)(op:Int):Int×Int:=if op=2 then (u.u1,u.u2) else if op=3 then (u.u3,u.u4) else (u.u5,u.u6)
def applyN(op:Int)(a b:Int×Int):Int×Int:=
 if op=5 then ez gy a.1 a.2 b.1 b.2 else if op=6 then ez C1 a.1 a.2 b.1 b.2 else if op=7 then ez zz a.1 a.2 b.1 b.2
 else if op=9 then (e7 a.1 b.1,e7 a.2 b.2) else if op=10 then (dN a.1 b.1,dN a.2 b.2) else jC a.1 a.2 b.1 b.2
def ni(a b c:Int×Int):Int×Int:=if oH a.1 a.2 0=2 then b else if oH a.1 a.2 0=0 then c else lV b.1 b.2 c.1 c.2
def DR(u:iM)(n:Int):PC prog 348 [.ag (ee u),ab n] (·=nZ (n,n)):=by
 refine pB 8 Tryz.func348 ?_;exact(aw @ee.eq_1)<|(zV)<|zo [.cell 4 52]
def DL(u:iM)(op:Int):PC prog 347 [.ag (ee u),ab op] (·=nZ (nr u op)):=by
 refine pB 19 Tryz.func347 ?_;refine(aw @ee.eq_1)<|(zV)<|(zB) ?_
 cases h1:decide (op=2);rotate_left
 ·exact(aw h1)<|(cF)<|zo [.cell 4 52] (hq:=by rw[nr,ut (ww h1)];rfl)
 refine(aw h1)<|(zN) ?_
 cases h2:decide (op=3);rotate_left
 ·exact(aw h2)<|(cF)<|zo [.cell 4 52] (hq:=by rw[nr,v6 (wt h1),ut (ww h2)];rfl)
 exact(aw h2)<|(kY)<|zo [.cell 4 52] (hq:=by rw[nr,v6 (wt h1),v6 (wt h2)];rfl)
def Du(u:iM)(a b c:Int×Int):PC prog 346 [.ag (ee u),nZ a,nZ b,nZ c] (·=nZ (ni a b c)):=by
 refine pB 20 Tryz.func346 ?_;refine(aw (cG @ee.eq_1 @nZ.eq_1 @kS.eq_1))<|(zC)<|(zK (qG a.1 a.2 0))<|(zR)<|(zB) ?_
 cases h1:decide (oH a.1 a.2 0=2);rotate_left
 ·exact(aw h1)<|(cF)<|zo [.cell 8 52] (hq:=by rw[ni,ut (ww h1)];rfl)
 refine(aw h1)<|(zN) ?_
 cases h2:decide (oH a.1 a.2 0=0);rotate_left
 ·exact(aw h2)<|(cF)<|zo [.cell 8 52] (hq:=by rw[ni,v6 (wt h1),ut (ww h2)];rfl)
 exact(aw h2)<|(Mj)<|(zK (nG b.1 b.2 c.1 c.2))<|(cJ (bq @nZ.eq_1 @kS.eq_1))<|zo [.cell 8 52] (hq:=by rw[ni,v6 (wt h1),v6 (wt h2)];rfl)
def Gf(u:iM)(op:Int)(a b:Int×Int)(hb:b.1<=b.2):PC prog 345 [.ag (ee u),ab op,nZ a,nZ b] (·=nZ (applyN op a b)):=by
 refine pB 54 Tryz.func345 ?_;refine(aw (cG @ee.eq_1 @nZ.eq_1 @kS.eq_1))<|(zV)<|(zB) ?_
 cases h1:decide (op=5);rotate_left
 ·exact(aw h1)<|(zY)<|(zC)<|(zK (pN a.1 a.2 b.1 b.2))<|(cJ (bq @nZ.eq_1 @kS.eq_1))<|zo [.cell 8 52] (hq:=by rw[applyN,ut (ww h1)];rfl)
 have g1:=wt h1
 refine(aw h1)<|(zN) ?_
 cases h2:decide (op=6);rotate_left
 ·exact(aw h2)<|(zY)<|(zC)<|(zK (IQ a.1 a.2 b.1 b.2))<|(cJ (bq @nZ.eq_1 @kS.eq_1))<|zo [.cell 8 52] (hq:=by rw[applyN,v6 g1,ut (ww h2)];rfl)
 have g2:=wt h2
 refine(aw h2)<|(zN) ?_
 cases h3:decide (op=7);rotate_left
 ·exact(aw h3)<|(zY)<|(zC)<|(zK (IP a.1 a.2 b.1 b.2))<|(cJ (bq @nZ.eq_1 @kS.eq_1))<|zo [.cell 8 52] (hq:=by rw[applyN,v6 g1,v6 g2,ut (ww h3)];rfl)
 have g3:=wt h3
 refine(aw h3)<|(zN) ?_
 cases h4:decide (op=9);rotate_left
 ·exact(aw h4)<|(zY)<|(aw @jf)<|zo [.cell 8 52] (hq:=by rw[applyN,v6 g1,v6 g2,v6 g3,ut (ww h4)];rfl)
 have g4:=wt h4
 refine(aw h4)<|(zN) ?_
 cases h5:decide (op=10);rotate_left
 ·exact(aw h5)<|(zY)<|(aw @ff)<|zo [.cell 8 52] (hq:=by rw[applyN,v6 g1,v6 g2,v6 g3,v6 g4,ut (ww h5)];rfl)
 have g5:=wt h5
 exact(aw h5)<|(Mj)<|(zK (Gq a.1 a.2 b.1 b.2 hb))<|(cJ (bq @nZ.eq_1 @kS.eq_1))<|zo [.cell 8 52] (hq:=by rw[applyN,v6 g1,v6 g2,v6 g3,v6 g4,v6 g5];rfl)
inductive bx where
 | mk (op n:Int) (kids:List bx)
def bx.op:bx->Int
 | .mk op _ _=>op
mutual
def aC:bx->List SV
 | .mk op n kids=>[ab op,ab n,.sl kids.length 3 (qf kids)]
def qf:List bx->List SV
 | []=>[]
 | f::fs=>aC f++qf fs
end
def vB:∀l:List bx,qf l=l.flatMap aC
 | []=>by rw[qf];rfl
 | f::l=>by rw[qf,vB l,flatMap_cons]
def df(op n:Int)(kids:List bx):aC (.mk op n kids)=[ab op,ab n,.sl kids.length 3 (kids.flatMap aC)]:=by rw[aC,vB]
def eS(f:bx):(aC f).length=3:=by
 obtain⟨op,n,kids⟩:=f;rw[df];rfl
def aV(f:bx):bW (aC f)=true:=by
 obtain⟨op,n,kids⟩:=f;rw[df];rfl
inductive gE:bx->Prop
 | mk {op n:Int} {kids:List bx}:kids.length<=1000000->(∀k∈kids,gE k)->gE (.mk op n kids)
mutual
def ft:bx->Int->Int
 | .mk _ _ kids,most=>gR kids most 1
def gR:List bx->Int->Int->Int
 | [],_,n=>n
 | k::ks,most,n=>if most<n then n else gR ks most (xL n (ft k (ub most n)))
end
def wa:∀(d:Nat) (f:bx),SizeOf.sizeOf f<d->gE f->∀most:Int,PC Tryz.prog 102 [.ag (aC f),ab most] (·=ab (ft f most))
 | 0,f,hd,_,_=>un hd (Nat.not_lt_zero _)
 | d+1,.mk op n kids,hd,hf,most=>by
  cases hf with
  | mk hlen hks=>
  have hkd:∀k∈kids,SizeOf.sizeOf k<d:=λk hk=>by
   have h1:=List.sizeOf_lt_of_mem hk
   have h2:SizeOf.sizeOf (bx.mk op n kids)=1+SizeOf.sizeOf op+SizeOf.sizeOf n+SizeOf.sizeOf kids:=by simp
   omega
  rw[df,ft]
  refine pB 27 Tryz.func102 ?_;refine(oa)<|(zV)<|(zs) ?_;refine Hf kids (λk (acc:Int)=>gR kids most 1=gR (kids.drop k) most acc) (λk acc=>[(1,ab most),(5,ab acc),(9,an 3 kids aC),(10,ab kids.length),(11,ab k)]) (λk acc=>[]) (1) zH i4 ?_;intro k acc hk hall;refine zT kids k ?_ ?_;rintro rfl;rotate_left;intro x hx hlt;rotate_left
  ·exact(gh)<|(zV)<|zo [.tmp 4] (hq:=by rw[hall,List.drop_length,gR])
  rw[eR hx,gR] at hall;have hxm:=List.mem_of_getElem? hx;have ih:=wa d x (hkd x hxm) (hks x hxm);have hxl:((kids.flatMap aC).drop (k*3)).take 3=aC x:=aQ (e:=3) (enc:=aC) eS hx;obtain⟨op',n',kids'⟩:=x;simp only[df] at hxl ih
  refine(gB)<|(aw (bq hlt hxl)) ?_
  cases h1:decide (most<acc);rotate_left
  ·refine(aw h1)<|(zY) ?_;refine aE.exit ?_;exact(zV)<|zo [.tmp 4] (hq:=by rw[hall,ut (ww h1)])
  refine(aw h1)<|(zN) ?_
  rw[v6 (wt h1)] at hall
  refine(fb @oe)<|(zK (ih (ub most acc)))<|(cJ @sM)<|(aw (zi hlt hlen)) ?_;refine wq hlt (xL acc (ft (.mk op' n' kids') (ub most acc))) zH hall
def IZ(f:bx)(hf:gE f)(most:Int):PC prog 102 [.ag (aC f),ab most] (·=ab (ft f most)):=wa _ f (ck _) hf most
def qO(op:Int):Nat:=if op=11 then 3 else if 5<=op then 2 else 0
mutual
def fZ:bx->Bool
 | .mk op n kids=>(decide (1<=op)&&decide (op<=11))&&(decide (kids.length=qO op)&&(!(decide (n<0))&&(!(decide (9999999<n))&&!(decide (0<n)&&!(decide (op=1))))))&&tO kids
def tO:List bx->Bool
 | []=>true
 | k::ks=>fZ k&&tO ks
end
def sv:∀l:List bx,tO l=l.all fZ
 | []=>by rw[tO];rfl
 | a::l=>by rw[tO,sv l,eb]
def wb:∀(d:Nat) (f:bx),SizeOf.sizeOf f<d->gE f->PC Tryz.prog 103 [.ag (aC f)] (·=ak (fZ f))
 | 0,f,hd,_=>un hd (Nat.not_lt_zero _)
 | d+1,.mk op n kids,hd,hf=>by
  cases hf with
  | mk hlen hks=>
  have hkd:∀k∈kids,SizeOf.sizeOf k<d:=λk hk=>by
   have h1:=List.sizeOf_lt_of_mem hk
   have h2:SizeOf.sizeOf (bx.mk op n kids)=1+SizeOf.sizeOf op+SizeOf.sizeOf n+SizeOf.sizeOf kids:=by simp
   omega
  rw[df,fZ,sv];refine pB 59 Tryz.func103 ?_;refine(oa) ?_
  (repeat refine aE.seq ?_)
  cases h1:decide (op<1);rotate_left
  ·refine aE.block ?_;exact(aw h1)<|(cF)<|zo [.tmp 2] (hq:=by rw[show decide (1<=op)=false by have:=ww h1;simp;omega];rfl)
  cases h2:decide (11<op);rotate_left
  ·refine aE.block ?_;exact(aw (bq h1 h2))<|(cF)<|zo [.tmp 2] (hq:=by rw[show decide (op<=11)=false by have:=ww h2;simp;omega,Bool.and_false];rfl)
  have g1:=wt h1;have g2:=wt h2;rw[show decide (1<=op)=true by simp;omega,show decide (op<=11)=true by simp;omega];refine aE.mono (Q:=λe st=>e=.normal/\Fg st ⟨[(1,.ptr 0 0),(3,qy (qO op))],59,[.cells [ab op,ab n,.sl kids.length 3 (kids.flatMap aC)]],[]⟩) ?_ ?_
  ·refine aE.block ?_;refine(aw (bq h1 h2))<|(zN) ?_
   cases h3:decide (op=11);rotate_left
   ·refine(aw h3)<|(cF) ?_;exact⟨rfl,(Fg.less (by (simp only[dJ,cj,fH,↓reduceIte,Nat.reduceEqDiff,qO,ut (ww h3)])<;>(repeat' apply And.intro)<;>first | rfl | trivial) (by (simp only[dJ,cj,or_true,true_or,qO,ut (ww h3)])<;>(repeat' apply And.intro)<;>first | exact .inr rfl | exact .inl rfl | trivial))⟩
   refine(aw h3)<|(zN) ?_
   cases h4:decide (5<=op);rotate_left
   ·refine(aw h4)<|(cF) ?_;exact⟨rfl,(Fg.less (by (simp only[dJ,cj,fH,↓reduceIte,Nat.reduceEqDiff,qO,v6 (wt h3),ut (ww h4)])<;>(repeat' apply And.intro)<;>first | rfl | trivial) (by (simp only[dJ,cj,or_true,true_or,qO,v6 (wt h3),ut (ww h4)])<;>(repeat' apply And.intro)<;>first | exact .inr rfl | exact .inl rfl | trivial))⟩
   ·refine(aw h4)<|(zN) ?_;exact⟨rfl,(Fg.less (by (simp only[dJ,cj,fH,↓reduceIte,Nat.reduceEqDiff,qO,v6 (wt h3),v6 (wt h4)])<;>(repeat' apply And.intro)<;>first | rfl | trivial) (by (simp only[dJ,cj,or_true,true_or,qO,v6 (wt h3),v6 (wt h4)])<;>(repeat' apply And.intro)<;>first | exact .inr rfl | exact .inl rfl | trivial))⟩
  rintro e st ⟨rfl,hfg⟩;refine aE.fg hfg ?_;clear hfg
  (try change aE _ _ _ _ _)
  generalize qO op=w;by_cases h3:kids.length=w;rotate_left
  ·rw[show decide (kids.length=w)=false by simpa using h3]
   exact(aw (show decide ((kids.length:Int)=(w:Int))=false by simp;omega))<|(cF)<|zo [.tmp 2]
  rw[show decide (kids.length=w)=true by simpa using h3]
  have h3':decide ((kids.length:Int)=(w:Int))=true:=by simp;omega
  cases h4:decide (n<0);rotate_left
  ·exact(aw (bq h3' h4))<|(cF)<|zo [.tmp 2]
  cases h5:decide (9999999<n);rotate_left
  ·exact(aw (cG h3' h4 h5))<|(cF)<|zo [.tmp 2]
  by_cases h7:(decide (0<n)&&!(decide (op=1)))=true
  ·rw[Bool.and_eq_true,Bool.not_eq_true'] at h7
   exact(aw (lM h3' h4 h5 @h7.1 @h7.2))<|(cF)<|zo [.tmp 2] (hq:=by rw[h7.1,h7.2];rfl)
  have h8:(decide (0<n)&&!(decide (op=1)))=false:=by simpa using h7
  rw[h8]
  (repeat refine aE.seq ?_)
  refine aE.mono (Q:=λe st=>e=.normal/\Fg st ⟨[(1,.ptr 0 0),(47,ak false)],59,[.cells [ab op,ab n,.sl kids.length 3 (kids.flatMap aC)]],[]⟩) ?_ ?_
  ·cases h6:decide (0<n)
   ·refine(aw (gm h3' h4 h5 h6)) ?_;exact⟨rfl,zH⟩
   ·rw[h6] at h8
    have h9:decide (op=1)=true:=by
     cases h:decide (op=1) with
     | true=>rfl
     | false=>rw[h] at h8;cases h8
    refine(aw (lM h3' h4 h5 h6 h9)) ?_;exact⟨rfl,zH⟩
  rintro e st ⟨rfl,hfg⟩;refine aE.fg hfg ?_;clear hfg
  (try change aE _ _ _ _ _)
  refine(kY)<|(zs) ?_;refine zL kids (λk=>(kids.take k).all fZ=true) (λk=>[(49,an 3 kids aC),(50,ab kids.length),(51,ab k)]) (λk=>[]) zH zp ?_;intro k hk hall;refine zT kids k ?_ ?_;rintro rfl;rotate_left;intro x hx hlt;rotate_left
  ·refine(gh)<|(zV) ?_
   rw[List.take_length] at hall;exact zo [.tmp 2] (hq:=by rw[hall];rfl)
  have hxm:=List.mem_of_getElem? hx;have ih:=wb d x (hkd x hxm) (hks x hxm);have hxl:((kids.flatMap aC).drop (k*3)).take 3=aC x:=aQ (e:=3) (enc:=aC) eS hx
  have hnext:fZ x=true->(kids.take (k+1)).all fZ=true:=λh=>by rw[cD hx,List.all_append,hall];simp[h]
  have hbad:fZ x=false->kids.all fZ=false:=λh=>by rw[List.all_eq_false];exact⟨x,hxm,by rw[h];decide⟩
  obtain⟨op',n',kids'⟩:=x;simp only[df] at hxl ih
  refine(gB)<|(aw (bq hlt hxl))<|(zC)<|(zK ih) ?_
  cases h10:fZ (.mk op' n' kids')
  ·exact(zR)<|(cF)<|zo [.tmp 2] (hq:=by rw[hbad h10];rfl)
  refine(zR)<|(zN)<|(aw (zi hlt hlen)) ?_;refine zX hlt zH (hnext h10)
def Ak(f:bx)(hf:gE f):PC prog 103 [.ag (aC f)] (·=ak (fZ f)):=wb _ f (ck _) hf
def iD(f:bx):Bool:=decide (ft f 60<=60)&&fZ f
def qJ(f:bx)(hf:gE f):PC prog 43 [.ag (aC f)] (·=ak (Proofs.iD f)):=by
 have hn:=IZ f hf 60;have hr:=Ak f hf;refine pB 10 Tryz.func43 ?_;have hv:Proofs.iD f=(decide (ft f 60<=60)&&fZ f):=rfl;generalize ft f 60=N at hn hv;generalize fZ f=R at hr hv;obtain⟨op,n,kids⟩:=f;rw[df] at hn hr ⊢
 refine(jt)<|(zK hn) ?_
 cases h1:decide (N<=60)
 ·exact(cJ h1)<|zo [.tmp 2] (hq:=by rw[hv,h1];rfl)
 exact(Mk h1)<|(zK hr)<|(zR)<|zo [.tmp 2] (hq:=by rw[hv,h1];rfl)
mutual
def mK(u:iM):bx->Int×Int
 | .mk op n kids=>
  if op=1 then (n,n) else if op<=4 then nr u op
  else match nE u kids with
   | a::b::l=>if op=11 then (match l with
    | c::_=>ni a b c
    | []=>(0,0)) else applyN op a b
   | _=>(0,0)
def nE(u:iM):List bx->List (Int×Int)
 | []=>[]
 | k::ks=>mK u k::nE u ks
end
def JY(p q r s:Int):e7 (e7 (e7 p q) r) s<=dN (dN (dN p q) r) s:=by
 have h1:∀a b:Int,e7 a b<=a:=λa b=>by unfold e7;split<;>omega
 have h2:∀a b:Int,a<=dN a b:=λa b=>by unfold dN;split<;>omega
 have:=h1 p q;have:=h1 (e7 p q) r;have:=h1 (e7 (e7 p q) r) s;have:=h2 p q;have:=h2 (dN p q) r;have:=h2 (dN (dN p q) r) s;omega
def Cs(f:Int->Int->Int)(a b c d:Int):(ez f a b c d).1<=(ez f a b c d).2:=by
 unfold ez;split
 ·exact JY _ _ _ _
 ·exact cp _
def join_le(a b c d:Int):(lV a b c d).1<=(lV a b c d).2:=by
 unfold lV;split
 ·exact JY _ _ _ _
 ·exact cp _
def PQ(l:List (Int×Int))(x:Int×Int)(h:l≠[]):(l.foldl iQ x).1<=(l.foldl iQ x).2:=by
 rcases List.eq_nil_or_concat l with rfl | ⟨a,y,rfl⟩
 ·exact un rfl h
 ·rw[List.concat_eq_append,ce];exact join_le _ _ _ _
def K1(a0 a1 b0 b1:Int):(jC a0 a1 b0 b1).1<=(jC a0 a1 b0 b1).2:=by
 unfold jC;by_cases h:lP a0 a1 b0 b1=[]
 ·rw[h];exact cp _
 ·exact PQ _ _ h
def BL{a b c d:Int}(h1:a<=b)(h2:c<=d):e7 a c<=e7 b d/\dN a c<=dN b d:=by
 unfold e7 dN;constructor<;>split<;>split<;>omega
def MC(op:Int){a b:Int×Int}(ha:a.1<=a.2)(hb:b.1<=b.2):(applyN op a b).1<=(applyN op a b).2:=by
 unfold applyN;split
 ·exact Cs _ _ _ _ _
 split
 ·exact Cs _ _ _ _ _
 split
 ·exact Cs _ _ _ _ _
 split
 ·exact(BL ha hb).1
 split
 ·exact(BL ha hb).2
 ·exact K1 _ _ _ _
def KS{a b c:Int×Int}(hb:b.1<=b.2)(hc:c.1<=c.2):(ni a b c).1<=(ni a b c).2:=by
 unfold ni;split
 ·exact hb
 split
 ·exact hc
 ·exact join_le _ _ _ _
structure iM.ok (u:iM):Prop where
 a:u.u1<=u.u2
 b:u.u3<=u.u4
 c:u.u5<=u.u6
def Lh{u:iM}(h:u.ok)(op:Int):(nr u op).1<=(nr u op).2:=by
 unfold nr;split
 ·exact h.a
 split
 ·exact h.b
 ·exact h.c
mutual
def Ku{u:iM}(h:u.ok):∀f:bx,(mK u f).1<=(mK u f).2
 | .mk op n kids=>by
  have ih:=Gc h kids;rw[mK];split
  ·exact cp _
  split
  ·exact Lh h op
  ·split
   ·rename_i a b l hl;rw[hl] at ih;split
    ·split
     ·exact KS (ih _ gt) (ih _ gt)
     ·exact cp _
    ·exact MC op (ih _ gt) (ih _ gt)
   ·exact cp _
def Gc{u:iM}(h:u.ok):∀l:List bx,∀p∈nE u l,p.1<=p.2
 | [],p,hp=>by rw[nE] at hp;cases hp
 | k::ks,p,hp=>by
  rw[nE] at hp
  rcases t7 hp with rfl | hp
  ·exact Ku h k
  ·exact Gc h ks p hp
end
def BO(P:Program)(nm:String)(t:TypeId)(v:AV)(ys:List AV):Ev.bG P (.a (.fn (.method nm) [.iface t v] ys))=(je P t nm).map λ_=>.a (.fn (.method nm) [.iface t v] ys):=rfl
def pF(u:iM):SV:=.iface 203 (.ag (ee u))
def DO:je prog 203 "bogie/formula.number"=some 348:=by kernel_rfl
def DN:je prog 203 "bogie/formula.letter"=some 347:=by kernel_rfl
def vZ:je prog 203 "bogie/formula.apply"=some 345:=by kernel_rfl
def uj:je prog 203 "bogie/formula.choose"=some 346:=by kernel_rfl
def Cc(u:iM)(hu:u.ok):∀(d:Nat) (f:bx),SizeOf.sizeOf f<d->gE f->fZ f=true->PC Tryz.prog 121 [pF u,.ag (aC f)] (·=nZ (mK u f))
 | 0,f,hd,_,_=>un hd (Nat.not_lt_zero _)
 | d+1,.mk op n kids,hd,hf,hr=>by
  cases hf with
  | mk hlen hks=>
  have hkd:∀k∈kids,SizeOf.sizeOf k<d:=λk hk=>by
   have h1:=List.sizeOf_lt_of_mem hk
   have h2:SizeOf.sizeOf (bx.mk op n kids)=1+SizeOf.sizeOf op+SizeOf.sizeOf n+SizeOf.sizeOf kids:=by simp
   omega
  rw[df,mK]
  refine pB 67 Tryz.func121 ?_;refine(aw (bq @pF.eq_1 @ee.eq_1))<|(zB) ?_
  cases h1:decide (op=1);rotate_left
  ·refine(aw h1)<|(zY) ?_
   rw[ut (ww h1)]
   exact(zC)<|(zK (DR u n) (hc:=Hg @DO))<|(cJ (bq @nZ.eq_1 @kS.eq_1))<|zo [.cell 4 52]
  rw[v6 (wt h1)]
  refine(aw h1)<|(zN) ?_
  cases h2:decide (op<=4);rotate_left
  ·refine(aw h2)<|(zY) ?_
   rw[ut (ww h2)]
   exact(zC)<|(zK (DL u op) (hc:=Hg @DN))<|(cJ (bq @nZ.eq_1 @kS.eq_1))<|zo [.cell 4 52]
  rw[v6 (wt h2)]
  refine(aw h2)<|(zN) ?_
  rw[fZ,Bool.and_eq_true,Bool.and_eq_true,Bool.and_eq_true,Bool.and_eq_true] at hr;obtain⟨⟨hr1,hr2,_⟩,hr3⟩:=hr;have hop1:=ww hr1.1;have hop2:=ww hr1.2;have hkl:=ww hr2;have h1':=wt h1;have h2':=wt h2;rw[sv] at hr3;have n0:c7 (.int .i64 0)=some 0:=rfl;have n1:c7 (.int .i64 1)=some 1:=rfl;have n2:c7 (.int .i64 2)=some 2:=rfl
  have hkid:∀{j:Nat} {x:bx},kids[j]?=some x->PC Tryz.prog 121 [pF u,.ag (aC x)] (·=nZ (mK u x)):=λ{j x} hx=>by
   have hxm:=List.mem_of_getElem? hx;exact Cc u hu d x (hkd x hxm) (hks x hxm) (List.all_eq_true.1 hr3 x hxm)
  have hat:∀{j:Nat} {x:bx},kids[j]?=some x->((kids.flatMap aC).drop (j*3)).take 3=aC x:=λhx=>aQ (e:=3) (enc:=aC) eS hx;cases h3:decide (op=11)
  ·have h3':=wt h3
   have hw:kids.length=2:=by rw[hkl,qO,v6 h3',ut i5]
   obtain⟨x0,x1,hk2⟩:∃x0 x1,kids=[x0,x1]:=by
    match kids,hw with
    | [a,b],_=>exact⟨a,b,rfl⟩
   have e0:kids[0]?=some x0:=by rw[hk2];rfl
   have e1:kids[1]?=some x1:=by rw[hk2];rfl
   have hrun:nE u kids=[mK u x0,mK u x1]:=by rw[hk2,nE,nE,nE]
   rw[hrun];simp only[v6 h3'];have hb:=Ku hu x1;have a0:=hat e0;have a1:=hat e1;have k0:=hkid e0;have k1:=hkid e1
   have t0:(kids.flatMap aC).take 3=aC x0:=by rwa [Nat.zero_mul,List.drop_zero] at a0
   rw[pF,ee] at k0 k1;generalize mK u x0=r0 at k0 ⊢;generalize mK u x1=r1 at k1 hb ⊢;obtain⟨o0,m0,s0⟩:=x0;obtain⟨o1,m1,s1⟩:=x1;rw[df] at t0 a1 k0 k1
   have l0:0<kids.length:=by omega
   have l1:1<kids.length:=by omega
   refine(aw h3)<|(zN)<|(zs) ?_;refine oS [0,0,2,0,0,16,48,112,248,0,0,1024,3072,7168,16376,1,32769,98305,262143,524287] ?_;refine(uD (cG n0 l0 t0)) ?_;refine SD.k i4 rfl rfl i4 rfl rfl zc (k0) (zw) rfl ?_;refine(uD (cG n1 l1 a1)) ?_;refine SD.k i4 rfl rfl i4 rfl rfl zc (k1) (zw) rfl ?_;refine(uD (cG @dH.eq_28 @BO @vZ)) ?_;refine SD.k i4 rfl rfl i4 rfl rfl (Hg @vZ) (Gf u op r0 r1 hb) (zw) rfl ?_;refine SD.e i4 rfl i4 rfl rfl i4 zl ?_;exact(zM)<|zo [.cell 4 52]
  ·have h3':=ww h3
   have hw:kids.length=3:=by rw[hkl,qO,ut h3']
   obtain⟨x0,x1,x2,hk2⟩:∃x0 x1 x2,kids=[x0,x1,x2]:=by
    match kids,hw with
    | [a,b,c],_=>exact⟨a,b,c,rfl⟩
   have e0:kids[0]?=some x0:=by rw[hk2];rfl
   have e1:kids[1]?=some x1:=by rw[hk2];rfl
   have e2:kids[2]?=some x2:=by rw[hk2];rfl
   have hrun:nE u kids=[mK u x0,mK u x1,mK u x2]:=by rw[hk2,nE,nE,nE,nE]
   rw[hrun];simp only[ut h3'];have a0:=hat e0;have a1:=hat e1;have a2:=hat e2;have k0:=hkid e0;have k1:=hkid e1;have k2:=hkid e2
   have t0:(kids.flatMap aC).take 3=aC x0:=by rwa [Nat.zero_mul,List.drop_zero] at a0
   rw[pF,ee] at k0 k1 k2;generalize mK u x0=r0 at k0 ⊢;generalize mK u x1=r1 at k1 ⊢;generalize mK u x2=r2 at k2 ⊢;obtain⟨o0,m0,s0⟩:=x0;obtain⟨o1,m1,s1⟩:=x1;obtain⟨o2,m2,s2⟩:=x2;rw[df] at t0 a1 a2 k0 k1 k2
   have l0:0<kids.length:=by omega
   have l1:1<kids.length:=by omega
   have l2:2<kids.length:=by omega
   refine(aw h3)<|(zY)<|(zs) ?_;refine oS [0,0,0,4,12,28,62,0,0,256,768,1792,4094,0,0,16384,49152,114688,262142,1,524289,1572865,4194303,8388607] ?_;refine(uD (cG n0 l0 t0)) ?_;refine SD.k i4 rfl rfl i4 rfl rfl zc (k0) (zw) rfl ?_;refine(uD (cG n1 l1 a1)) ?_;refine SD.k i4 rfl rfl i4 rfl rfl zc (k1) (zw) rfl ?_;refine(uD (cG n2 l2 a2)) ?_;refine SD.k i4 rfl rfl i4 rfl rfl zc (k2) (zw) rfl ?_;refine(uD (cG @dH.eq_28 @BO @uj)) ?_;refine SD.k i4 rfl rfl i4 rfl rfl (Hg @uj) (Du u r0 r1 r2) (zw) rfl ?_;refine SD.e i4 rfl i4 rfl rfl i4 zl ?_;exact(zM)<|zo [.cell 4 52]
def OV(u:iM)(hu:u.ok)(f:bx)(hf:gE f)(hr:fZ f=true):PC prog 121 [pF u,.ag (aC f)] (·=nZ (mK u f)):=Cc u hu _ f (ck _) hf hr
def iM.La(u:iM):Bool:=ju u.u1 u.u2&&(ju u.u3 u.u4&&ju u.u5 u.u6)
def lO(f:bx)(u:iM):Int×Int:=if u.La=true/\iD f=true then (dN 0 (mK u f).1,dN 0 (mK u f).2) else (0,0)
def HQ{a b:Int}(h:ju a b=true):a<=b:=by
 unfold ju at h;simp only[ad,b8,wn] at h;omega
def iM.PS{u:iM}(h:u.La=true):u.ok:=by
 unfold iM.La at h;simp only[ad] at h;exact⟨HQ h.1,HQ h.2.1,HQ h.2.2⟩
def Gl(f:bx)(u:iM)(hf:gE f):PC prog 49 [.ag (aC f),.ag (ee u)] (·=nZ (lO f u)):=by
 have hv:=qJ f hf;have hr:=λh1 h2=>OV u h1 f hf h2
 have hd:lO f u=if u.La=true/\Proofs.iD f=true then (dN 0 (mK u f).1,dN 0 (mK u f).2) else (0,0):=rfl
 have hvr:Proofs.iD f=true->fZ f=true:=λh=>by unfold Proofs.iD at h;simp only[ad] at h;exact h.2
 generalize Proofs.iD f=V at hv hd hvr;generalize fZ f=R at hr hvr;generalize mK u f=r at hr hd;obtain⟨op,n,kids⟩:=f;rw[df] at hv hr ⊢;obtain⟨ivs,hivs⟩:∃l:List (Int×Int),l=[(u.u1,u.u2),(u.u3,u.u4),(u.u5,u.u6)]:=⟨_,rfl⟩
 have hgood:u.La=ivs.all λp=>ju p.1 p.2:=by rw[hivs];simp[iM.La]
 have hkc:∀(o:Nat) (l:List (Int×Int)),(l.flatMap cM).map (aY o)=l.flatMap cM:=λo l=>bC mf o l;have hcl:=aZ qY ivs
 have hlen:ivs.length<=1000:=by rw[hivs];simp
 refine pB 53 Tryz.func49 ?_;refine(aw @ee.eq_1)<|(zV)<|(zs) ?_;refine zL ivs (λk=>(ivs.take k).all (λp=>ju p.1 p.2)=true) (λk=>[(2,.ptr 0 0),(3,.ptr 1 0),(4,.ptr 2 0),(14,.buf 3 ivs.length 2 (some 3)),(15,ab ivs.length),(16,ab k)]) (λk=>[.cells [ab op,ab n,.sl kids.length 3 (kids.flatMap aC)],.cells (ee u),.cells [ab 0,ab 0],.cells (ivs.flatMap cM)]) (bX (MW @ee.eq_1 hivs @jp.{0} @i7.{0} @flatMap_cons.{0,0} @flatMap_nil.{0,0} @cM.eq_1 @cons_append.{0} @nil_append.{0})) zp ?_;intro k hk hall;refine zT ivs k ?_ ?_;rintro rfl;rotate_left;intro x hx hlt;rotate_left
 ·refine(gh) ?_;rw[ba] at hall;rw[<-hgood] at hall
  refine(fb @ee.eq_1)<|(zK hv) ?_
  cases hV:V
  ·exact(zR)<|(cF)<|zo [.cell 4 52] (hq:=by rw[hd,v6 (by rw[hV];simp)];rfl)
  refine(zR)<|(zN) ?_
  have hrr:=hr (iM.PS hall) (hvr hV);rw[pF,ee] at hrr
  exact(fb @ee.eq_1)<|(zK hrr)<|(cJ (bq @nZ.eq_1 @kS.eq_1))<|(aw @ff)<|zo [.cell 4 52] (hq:=by rw[hd,ut ⟨hall,hV⟩];rfl)
 have hnext:ju x.1 x.2=true->(ivs.take (k+1)).all (λp=>ju p.1 p.2)=true:=λh=>by rw[cD hx,cI,hall];simp[h]
 have hbad:ju x.1 x.2=false->lO (.mk op n kids) u=(0,0):=λh=>by
  rw[hd,v6];rintro⟨h2,_⟩;rw[hgood] at h2;have:=all_eq_true.1 h2 x (aU hx);rw[h] at this;cases this
 refine(gB)<|(aw (EG hlt (aQ (e:=2) (enc:=cM) (λ_=>rfl) hx) @cM.eq_1 @ee.eq_1 hcl hkc (show k*2+2<=ivs.length*2 by omega))) ?_
 cases g1:decide (x.1<0);rotate_left
 ·exact(aw g1)<|(cF)<|zo [.cell 4 52] (hq:=by rw[hbad (by rw[ju,g1];rfl)];rfl)
 cases g2:decide (x.2<x.1);rotate_left
 ·exact(aw (bq g1 g2))<|(cF)<|zo [.cell 4 52] (hq:=by rw[hbad (by rw[ju,g1,g2];rfl)];rfl)
 cases g3:decide (1000000<x.2);rotate_left
 ·exact(aw (cG g1 g2 g3))<|(cF)<|zo [.cell 4 52] (hq:=by rw[hbad (by rw[ju,g1,g2,g3];rfl)];rfl)
 refine(aw (cG g1 g2 g3))<|(zN)<|(aw (zi hlt (show ivs.length<=1000000 by omega))) ?_;refine zX hlt (bX (bq hkc @ee.eq_1)) (hnext (by rw[ju,g1,g2,g3];rfl))
def q8{α:Type}{enc:α->List SV}(h:∀x,(enc x).all e9=true)(l:List α):(l.flatMap enc).all e9=true:=by
 rw[List.all_flatMap,all_eq_true];exact λx _=>h x
def dk(p:ai):bW (ae p)=true:=rfl
def gL(p:bB):bW (aH p)=true:=rfl
def JF(l:List bu):(l.flatMap aq).all e9=true:=q8 (λ_=>rfl) l
def BR(l:List ai):(l.flatMap ae).all e9=true:=q8 (λ_=>rfl) l
def BT(l:List bB):(l.flatMap aH).all e9=true:=q8 (λ_=>rfl) l
def wL:SC prog 50 [an 14 ([]:List ai) ae] [] [] (λr S'=>r=.e0 14/\S'=[]):=by
 refine LJ 8 func50 ?_;refine(jt) ?_;refine aT.Lr i4 rfl rfl i4 rfl rfl (by simp only[aJ]) zW ?_;intro b _;refine(zR) ?_;cases b
 ·refine(kY) ?_;refine aE.fg (Fg.e0 2 14 (.inr ⟨0,rfl⟩)) ?_;refine zA [(2,.e0 14)] [] zH<|(zE) ?_;exact zP [.tmp 2]
 ·refine(cF) ?_;refine aE.fg (Fg.e0 2 14 (.inl rfl)) ?_;refine(zE) ?_;exact zP [.tmp 2]
def pT(l:List ai)(hlen:l.length<=1000000)(hne:l≠[]):SC prog 50 [an 14 l ae] [] [] (λr S'=>r=.buf 1 l.length 14 none/\S'=[.gone,.cells (l.flatMap ae)]):=by
 have h0:¬l.length=0:=λe=>hne (t8 e);refine LJ 8 func50 ?_;have hkc:=λo=>bC (enc:=ae) dk o l;have hon:(l.flatMap ae).all e9=true:=BR l;refine(jt) ?_;refine aT.Lr i4 rfl rfl i4 rfl rfl (by simp only[aJ]) zW ?_;intro b hb;cases b;rotate_left
 ·exact un (hb rfl) h0
 refine(zR)<|(zN) ?_
 have hp0:0<l.length:=bh h0
 refine(aw (xX h0 hp0 hlen hon hkc @ac))<|zA [(2,.buf 1 l.length 14 none)] [.gone,.cells (l.flatMap ae)] zH<|(zE) ?_;exact zP [.tmp 2]
def wM:SC prog 199 [an 2 ([]:List bB) aH] [] [] (λr S'=>r=.e0 2/\S'=[]):=by
 refine LJ 8 func199 ?_;refine(jt) ?_;refine aT.Lr i4 rfl rfl i4 rfl rfl (by simp only[aJ]) zW ?_;intro b _;refine(zR) ?_;cases b
 ·refine(kY) ?_;refine aE.fg (Fg.e0 2 2 (.inr ⟨0,rfl⟩)) ?_;refine zA [(2,.e0 2)] [] zH<|(zE) ?_;exact zP [.tmp 2]
 ·refine(cF) ?_;refine aE.fg (Fg.e0 2 2 (.inl rfl)) ?_;refine(zE) ?_;exact zP [.tmp 2]
def wO(l:List bB)(hlen:l.length<=1000000)(hne:l≠[]):SC prog 199 [an 2 l aH] [] [] (λr S'=>r=.buf 1 l.length 2 none/\S'=[.gone,.cells (l.flatMap aH)]):=by
 have h0:¬l.length=0:=λe=>hne (t8 e);refine LJ 8 func199 ?_;have hkc:=λo=>bC (enc:=aH) gL o l;have hon:(l.flatMap aH).all e9=true:=BT l;refine(jt) ?_;refine aT.Lr i4 rfl rfl i4 rfl rfl (by simp only[aJ]) zW ?_;intro b hb;cases b;rotate_left
 ·exact un (hb rfl) h0
 refine(zR)<|(zN) ?_
 have hp0:0<l.length:=bh h0
 refine(aw (xX h0 hp0 hlen hon hkc @ac))<|zA [(2,.buf 1 l.length 2 none)] [.gone,.cells (l.flatMap aH)] zH<|(zE) ?_;exact zP [.tmp 2]
def rQ:SC prog 45 [an 14 ([]:List bu) aq] [] [] (λr S'=>r=.e0 14/\S'=[]):=by
 refine LJ 8 func45 ?_;refine(jt) ?_;refine aT.Lr i4 rfl rfl i4 rfl rfl (by simp only[aJ]) zW ?_;intro b _;refine(zR) ?_;cases b
 ·refine(kY) ?_;refine aE.fg (Fg.e0 2 14 (.inr ⟨0,rfl⟩)) ?_;refine zA [(2,.e0 14)] [] zH<|(zE) ?_;exact zP [.tmp 2]
 ·refine(cF) ?_;refine aE.fg (Fg.e0 2 14 (.inl rfl)) ?_;refine(zE) ?_;exact zP [.tmp 2]
def rR(l:List bu)(hlen:l.length<=1000000)(hne:l≠[]):SC prog 45 [an 14 l aq] [] [] (λr S'=>r=.buf 1 l.length 14 none/\S'=[.gone,.cells (l.flatMap aq)]):=by
 have h0:¬l.length=0:=λe=>hne (t8 e);refine LJ 8 func45 ?_;have hkc:=λo=>bC (enc:=aq) bN o l;have hon:(l.flatMap aq).all e9=true:=JF l;refine(jt) ?_;refine aT.Lr i4 rfl rfl i4 rfl rfl (by simp only[aJ]) zW ?_;intro b hb;cases b;rotate_left
 ·exact un (hb rfl) h0
 refine(zR)<|(zN) ?_
 have hp0:0<l.length:=bh h0
 refine(aw (xX h0 hp0 hlen hon hkc @ac))<|zA [(2,.buf 1 l.length 14 none)] [.gone,.cells (l.flatMap aq)] zH<|(zE) ?_;exact zP [.tmp 2]
section
variable {α:Type} {enc:α->List SV} {e:Nat}
def ji(he:∀x,(enc x).length=e):∀(l:List α) (i:Nat),(l.flatMap enc).take (i*e)=(l.take i).flatMap enc
 | [],i=>by simp
 | a::l,0=>by simp
 | a::l,i+1=>by
  rw[flatMap_cons,c0,dy,List.take_succ_cons,flatMap_cons,<-ji he l i];rw[e3,he,show e+i*e-e=i*e by omega,aj (by rw[he];omega)]
def pk(he:∀x,(enc x).length=e):∀(l:List α) (i:Nat),(l.flatMap enc).drop (i*e)=(l.drop i).flatMap enc
 | [],i=>by simp
 | a::l,0=>by simp
 | a::l,i+1=>by
  rw[flatMap_cons,c0,dy,List.drop_succ_cons,<-pk he l i];rw[List.drop_append,he,show e+i*e-e=i*e by omega,bd (by rw[he];omega),nil_append]
def q9(he:∀x,(enc x).length=e){l:List α}{i:Nat}(y:α)(h:i<l.length):(l.flatMap enc).take (i*e)++(enc y++(l.flatMap enc).drop (i*e+e))=(l.set i y).flatMap enc:=by
 rw[ji he,show i*e+e=(i+1)*e by rw[c0],pk he,be,ut h,bb,flatMap_cons]
end
def wz{α:Type}(lt:α->α->Bool):Nat->List α->List α
 | 0,l=>l
 | j+1,l=>match l[j+1]?,l[j]? with
  | some x,some y=>if lt x y=true then wz lt j ((l.set (j+1) y).set j x) else l
  | _,_=>l
def CO{α:Type}(lt:α->α->Bool):Nat->Nat->List α->List α
 | 0,_,l=>l
 | n+1,i,l=>CO lt n (i+1) (wz lt i l)
def AE{α:Type}(lt:α->α->Bool)(l:List α):List α:=CO lt (l.length-1) 1 l
def EB{α:Type}{lt:α->α->Bool}:∀(j:Nat) (l:List α),(wz lt j l).length=l.length
 | 0,l=>rfl
 | j+1,l=>by
  unfold wz;split
  ·split
   ·rw[EB j,bc,bc]
   ·rfl
  ·rfl
def Fc{α:Type}{lt:α->α->Bool}:∀(n i:Nat) (l:List α),(CO lt n i l).length=l.length
 | 0,_,_=>rfl
 | n+1,i,l=>by rw[CO,Fc n,EB]
def yv{α:Type}(lt:α->α->Bool)(l:List α):(AE lt l).length=l.length:=Fc _ _ _
def swap_perm{α:Type}{l:List α}{j:Nat}{x y:α}(hx:l[j+1]?=some x)(hy:l[j]?=some y):((l.set (j+1) y).set j x).Perm l:=by
 have h1:j+1<l.length:=br hx
 have h0:j<l.length:=by omega
 have e:l=l.take j++(y::x::l.drop (j+2)):=by
  have a1:l.drop j=y::l.drop (j+1):=eR hy;have a2:l.drop (j+1)=x::l.drop (j+2):=eR hx;rw[<-a2,<-a1,List.take_append_drop]
 have hlt:(l.take j).length=j:=by rw[af];omega
 have e2:(l.set (j+1) y).set j x=l.take j++(x::y::l.drop (j+2)):=by
  apply List.ext_getElem?;intro i;rw[em,List.getElem?_append,hlt];by_cases c1:j=i
  ·subst c1;rw[ut rfl,bc,ut h0,v6 (fd _),ex];rfl
  ·rw[v6 c1,em];by_cases c2:j+1=i
   ·subst c2;rw[ut rfl,ut h1,v6 i5,show j+1-j=1 by omega];rfl
   ·rw[v6 c2];by_cases c3:i<j
    ·rw[ut c3,d9,ut c3]
    ·rw[v6 c3,show i-j=(i-(j+2))+2 by omega,bt,bt,c4,show j+2+(i-(j+2))=i by omega]
 rw[e2]
 conv=>rhs;rw[e]
 exact Perm.append_left _ (Perm.swap _ _ _)
def Bj{α:Type}{lt:α->α->Bool}:∀(j:Nat) (l:List α),(wz lt j l).Perm l
 | 0,l=>Perm.refl _
 | j+1,l=>by
  unfold wz;split
  ·rename_i x y hx hy;split
   ·exact(Bj j _).trans (swap_perm hx hy)
   ·exact Perm.refl _
  ·exact Perm.refl _
def BB{α:Type}{lt:α->α->Bool}:∀(n i:Nat) (l:List α),(CO lt n i l).Perm l
 | 0,_,_=>Perm.refl _
 | n+1,i,l=>by rw[CO];exact(BB n (i+1) _).trans (Bj i l)
def uU{α:Type}(lt:α->α->Bool)(l:List α):(AE lt l).Perm l:=BB _ _ _
def rH(cmp:bu->bu->Int)(x y:bu):Bool:=decide (cmp x y<0)
def IM(g:FuncId)(cmp:bu->bu->Int)(hg:∀x y,PC prog g [.ag (aq x),.ag (aq y)] (·=ab (cmp x y)))(c:Option Nat)(l:List bu)(hlen:l.length<=100000):
 SC prog 305 [.buf 0 l.length 14 c,ab 0,ab l.length,.fn g [] []] [.cells (l.flatMap aq)] [] (λr S'=>r=.cm []/\S'=[.cells ((AE (rH cmp) l).flatMap aq)]):=by
 refine OH 53 Tryz.func305 ?_;refine(zV) ?_
 (repeat refine aE.seq ?_)
 refine aE.block (aE.loop (λm st=>∃(i:Nat) (q:List bu),(q.length=l.length/\(i+1<=l.length\/i=0))/\AE (rH cmp) l=CO (rH cmp) (l.length-(i+1)) (i+1) q/\l.length-i=m/\st=⟨[(0,.buf 0 l.length 14 c),(1,ab 0),(2,ab l.length),(3,.fn g [] []),(8,qy (i+1)),(1000000,.ptr 0 0)],53,[.cells (q.flatMap aq)],[]⟩) l.length zH ⟨0,l,⟨rfl,.inr rfl⟩,rfl,cl _,rfl⟩ (by rintro m st ⟨i,q,_,_,_,rfl⟩;rfl) ?_);rintro m st ⟨i,q,⟨hql,hi⟩,hres,rfl,rfl⟩;refine(zV) ?_;by_cases hlt:i+1<l.length;rotate_left
 ·rw[show decide (((i+1:Nat):Int)<(l.length:Int))=false by simp only[wn];omega]
  refine(zN)<|zA [(1000000,.ptr 0 0)] [.cells (q.flatMap aq)] zH ?_;refine aE.exit ?_
  simp only[eQ,cX,bU,bK,if_true];rw[show l.length-(i+1)=0 by omega,CO] at hres;exact zP [] (hq:=by (try simp only[ew,bH]);first | done | (rw[hres];first | exact⟨rfl,rfl⟩ | exact⟨trivial,rfl⟩ | exact⟨rfl,trivial⟩ | exact⟨trivial,trivial⟩))
 rw[show decide (((i+1:Nat):Int)<(l.length:Int))=true by simp only[wp];omega]
 refine(gB)<|(zV) ?_
 obtain⟨s,hs⟩:∃s,l.length-(i+1)=s+1:=⟨l.length-(i+1)-1,by omega⟩;rw[hs,CO] at hres
 (repeat refine aE.seq ?_)
 refine aE.block (aE.loop (λm st=>∃(j:Nat) (p:List bu),(p.length=l.length/\j<=i+1)/\wz (rH cmp) (i+1) q=wz (rH cmp) j p/\j=m/\st=⟨[(0,.buf 0 l.length 14 c),(1,ab 0),(2,ab l.length),(3,.fn g [] []),(8,qy (i+1)),(9,qy j),(1000000,.ptr 0 0)],53,[.cells (p.flatMap aq)],[]⟩) (i+1) zH ⟨i+1,q,⟨hql,ac _⟩,rfl,rfl,rfl⟩ (by rintro m st ⟨j,p,_,_,_,rfl⟩;rfl) ?_);rintro m st ⟨j,p,⟨hpl,hj⟩,hb,rfl,rfl⟩;have hil:i+1<l.length:=hlt
 have hcl:(p.flatMap aq).length=l.length*14:=by rw[aZ cA,hpl]
 cases j with
 | zero=>
  refine(zs) ?_;refine oS [0,0,3,7,15,15,15,111,239,15,15,1039,3599,7695,16383,32767,65535] ?_;refine(uD (show decide ((0:Int)<((0:Nat):Int))=false from rfl))<|(zM)<|(gh)<|(aw (Ee (show -9223372036854775808<=((i+1:Nat):Int)+1/\((i+1:Nat):Int)+1<=9223372036854775807 from⟨by omega,by omega⟩))) ?_;exact⟨l.length-(i+1),_,by omega,zH,i+1,p,⟨hpl,.inl i5⟩,by rw[hres,hb,wz,show l.length-(i+1+1)=s by omega],rfl,rfl⟩
 | succ j=>
  have hj1:j+1<l.length:=by omega
  have hj0:j<l.length:=by omega
  obtain⟨x,hx⟩:∃x,p[j+1]?=some x:=⟨p[j+1],li i5⟩;obtain⟨y,hy⟩:∃y,p[j]?=some y:=⟨p[j],li i5⟩;have ax:((p.flatMap aq).drop ((j+1)*14)).take 14=aq x:=aQ (e:=14) (enc:=aq) cA hx;have ay:((p.flatMap aq).drop (j*14)).take 14=aq y:=aQ (e:=14) (enc:=aq) cA hy
  have hbs:wz (rH cmp) (j+1) p=if rH cmp x y=true then wz (rH cmp) j ((p.set (j+1) y).set j x) else p:=by rw[wz,hx,hy]
  have s1:=q9 (enc:=aq) cA (l:=p) (i:=j+1) y i5;have s2:=q9 (enc:=aq) cA (l:=p.set (j+1) y) (i:=j) x (by rw[bc];omega)
  have hcl2:((p.set (j+1) y).flatMap aq).length=l.length*14:=by rw[aZ cA,bc,hpl]
  rw[dj y] at s1 ay;rw[dj x] at s2 ax;simp only[cons_append,nil_append] at s1 s2;have hgx:=hg x y;rw[dj y,dj x] at hgx;refine(zs) ?_;refine oS [0,0,3,7,15,15,15,111,239,15,15,1039,3599,7695,16383,32767,65535] ?_;refine(uD (MV (show decide ((0:Int)<((j+1:Nat):Int))=true from by simp only[wp];omega) hj1 hj0 (Q6 (show -9223372036854775808<=((j+1:Nat):Int)-1/\((j+1:Nat):Int)-1<=9223372036854775807 from⟨by omega,by omega⟩)) (show((j+1:Nat):Int)-1=(j:Int) from by omega) hcl (show(j+1)*14+14<=l.length*14 by omega) (show j*14+14<=l.length*14 by omega) ax ay)) ?_;refine SD.k i4 rfl rfl i4 rfl rfl zc (hgx) (zw) rfl ?_;cases hc:decide (cmp x y<0)
  ·rw[rH,hc,v6 ii] at hbs
   refine(uD hc)<|(zM)<|(gh)<|(aw (Ee (show -9223372036854775808<=((i+1:Nat):Int)+1/\((i+1:Nat):Int)+1<=9223372036854775807 from⟨by omega,by omega⟩))) ?_;exact⟨l.length-(i+1),_,by omega,zH,i+1,p,⟨hpl,.inl i5⟩,by rw[hres,hb,hbs,show l.length-(i+1+1)=s by omega],rfl,rfl⟩
  ·rw[rH,hc,ut rfl] at hbs
   refine(uD hc)<|(zM)<|(gB)<|(zs) ?_;refine oS [0,0,0,0,8,0,0,64,224,480,0,0,3072,7168,16355,32739,65535,131071] ?_;refine(uD (MW hj1 hj0 (Q6 (show -9223372036854775808<=((j+1:Nat):Int)-1/\((j+1:Nat):Int)-1<=9223372036854775807 from⟨by omega,by omega⟩)) (show((j+1:Nat):Int)-1=(j:Int) from by omega) hcl (show(j+1)*14+14<=l.length*14 by omega) (show j*14+14<=l.length*14 by omega) ax ay)) ?_;refine SD.e i4 rfl i4 rfl rfl i4 (rX (cG hcl (show(j+1)*14+14<=l.length*14 by omega) s1)) ?_;refine(uD (gm hj1 hj0 (Q6 (show -9223372036854775808<=((j+1:Nat):Int)-1/\((j+1:Nat):Int)-1<=9223372036854775807 from⟨by omega,by omega⟩)) (show((j+1:Nat):Int)-1=(j:Int) from by omega))) ?_;refine SD.e i4 rfl i4 rfl rfl i4 (rX (cG hcl2 (show j*14+14<=l.length*14 by omega) s2)) ?_;refine(zM)<|(aw (bq (Q6 (show -9223372036854775808<=((j+1:Nat):Int)-1/\((j+1:Nat):Int)-1<=9223372036854775807 from⟨by omega,by omega⟩)) (show((j+1:Nat):Int)-1=(j:Int) from by omega))) ?_;exact⟨j,_,by omega,zH,j,(p.set (j+1) y).set j x,⟨by rw[bc,bc,hpl],by omega⟩,by rw[hb,hbs],rfl,rfl⟩
def GR(g:FuncId)(cmp:bu->bu->Int)(hg:∀x y,PC prog g [.ag (aq x),.ag (aq y)] (·=ab (cmp x y)))(c:Option Nat)(l:List bu)(hlen:l.length<20):
 SC prog 257 [.buf 0 l.length 14 c,ab l.length,.fn g [] []] [.cells (l.flatMap aq)] [] (λr S'=>r=.cm []/\S'=[.cells ((AE (rH cmp) l).flatMap aq)]):=by
 have hins:=IM g cmp hg c l i5;have hrc:∀(g:Nat->Nat) (l:List bu),mn g (l.flatMap aq)=l.flatMap aq:=λg l=>bn (aA bN l);have hbc:∀(B:Nat) (l:List bu),hY B (l.flatMap aq)=true:=λB l=>bI (aA bN l);have hkc:∀(o:Nat) (l:List bu),(l.flatMap aq).map (aY o)=l.flatMap aq:=λo l=>bC bN o l
 have h1:decide ((20:Int)<=(l.length:Int))=false:=by simp only[wn];omega
 have h2:decide ((20:Int)<(l.length:Int))=false:=by simp only[wn];omega
 refine OH 63 Tryz.func257 ?_;refine(oa) ?_
 (repeat refine aE.seq ?_)
 refine aE.block (aE.loop (λm st=>m=0/\st=⟨[(0,.buf 0 l.length 14 c),(1,ab l.length),(2,.fn g [] []),(6,ab 20),(7,ab 0),(8,ab 20),(1000000,.ptr 0 0)],63,[.cells (l.flatMap aq)],[]⟩) 0 zH ⟨rfl,rfl⟩ (by rintro m st ⟨_,rfl⟩;rfl) ?_);rintro m st ⟨rfl,rfl⟩
 refine(aw h1)<|(gh) ?_
 (try change aE _ _ _ _ _)
 refine(zC) ?_;refine zS [0] (cG hrc hbc hkc) hins ?_;refine(zR) ?_
 (repeat refine aE.seq ?_)
 refine aE.block (aE.loop (λm st=>m=0/\st=⟨[(1,ab l.length),(6,ab 20),(1000000,.ptr 0 0)],63,[.cells ((AE (rH cmp) l).flatMap aq)],[]⟩) 0 zH ⟨rfl,rfl⟩ (by rintro m st ⟨_,rfl⟩;rfl) ?_);rintro m st ⟨rfl,rfl⟩
 refine(aw h2)<|(gh) ?_
 simp only[eQ,cX,bU,bK,if_true];exact zP []
def Bb(g:FuncId)(cmp:bu->bu->Int)(hg:∀x y,PC prog g [.ag (aq x),.ag (aq y)] (·=ab (cmp x y)))(c:Option Nat)(l:List bu)(hlen:l.length<20):
 SC prog 185 [.buf 0 l.length 14 c,.fn g [] []] [.cells (l.flatMap aq)] [] (λr S'=>r=.cm []/\S'=[.cells ((AE (rH cmp) l).flatMap aq)]):=by
 have hins:=GR g cmp hg c l hlen;have hrc:∀(g:Nat->Nat) (l:List bu),mn g (l.flatMap aq)=l.flatMap aq:=λg l=>bn (aA bN l);have hbc:∀(B:Nat) (l:List bu),hY B (l.flatMap aq)=true:=λB l=>bI (aA bN l);have hkc:∀(o:Nat) (l:List bu),(l.flatMap aq).map (aY o)=l.flatMap aq:=λo l=>bC bN o l;refine OH 9 Tryz.func185 ?_;refine(zC) ?_;refine zS [0] (cG hrc hbc hkc) hins ?_;refine(zR) ?_;exact zP []
def B8(a:Int):PC prog 158 [ab a] (·=ak false):=by
 refine pB 6 Tryz.func158 ?_;exact(zV)<|(aw (show decide (a=a)=true from wl rfl))<|zo [.tmp 2]
def B9(a:List Nat):PC prog 159 [ah a] (·=ak false):=by
 refine pB 6 Tryz.func159 ?_;exact(zV)<|(aw (show decide (a=a)=true from wl rfl))<|zo [.tmp 2]
def M1(a b:Int):Int:=if a<b then -1 else if b<a then 1 else 0
def AW(a b:Int):PC prog 78 [ab a,ab b] (·=ab (M1 a b)):=by
 refine pB 20 Tryz.func78 ?_;refine(jt)<|(zK (B8 a))<|(zR)<|(zC)<|(zK (B8 b))<|(zR)<|(Ec)<|(Ec) ?_
 cases h1:decide (a<b);rotate_left
 ·exact(aw h1)<|(cF)<|zo [.tmp 4] (hq:=by rw[M1,ut (ww h1)])
 refine(aw h1)<|(zN) ?_
 cases h2:decide (b<a);rotate_left
 ·exact(aw h2)<|(cF)<|zo [.tmp 4] (hq:=by rw[M1,v6 (wt h1),ut (ww h2)])
 exact(aw h2)<|(kY)<|zo [.tmp 4] (hq:=by rw[M1,v6 (wt h1),v6 (wt h2)])
def wC(a b:List Nat):Int:=if fe a b=true then -1 else if a=b then 0 else 1
def rU(a b:List Nat):PC prog 79 [ah a,ah b] (·=ab (wC a b)):=by
 refine pB 20 Tryz.func79 ?_;refine(jt)<|(zK (B9 a))<|(zR)<|(zC)<|(zK (B9 b))<|(zR)<|(Ec)<|(Ec) ?_
 cases h1:fe a b;rotate_left
 ·exact(aw h1)<|(cF)<|zo [.tmp 4] (hq:=by rw[wC,ut h1])
 refine(aw h1)<|(zN) ?_
 by_cases h2:a=b
 ·exact(aw (bq h1 (show uC a b=true by rw[j9];exact wl h2)))<|(kY)<|zo [.tmp 4] (hq:=by rw[wC,v6 (by rw[h1];decide),ut h2])
 ·exact(aw (bq h1 (show uC a b=false by rw[j9];exact wd h2)))<|(cF)<|zo [.tmp 4] (hq:=by rw[wC,v6 (by rw[h1];decide),v6 h2])
def x7(a b:bu):Int:=M1 a.day b.day
def Jb(a b:bu):PC prog 106 [.ag (aq a),.ag (aq b)] (·=ab (x7 a b)):=by
 refine pB 10 Tryz.func106 ?_;exact(aw @aq.eq_1)<|(zC)<|(zK (AW a.day b.day))<|(zR)<|zo [.tmp 4]
def bu.vy:List AV:=[.int .i64 0,.int .i64 0,.str [],.str [],.str [],.str [],.str [],.str [],.int .i64 0,.int .i64 0,.int .i64 0,.int .i64 0,.int .i64 0,.int .i64 0]
def L4(n:Nat)(h:n<=1000000):kn prog 37 (.int .i64 (n:Int)) (.int .i64 (n:Int))=some (n,14,n,rep bu.vy n):=by
 have q1:(prog.info? 90).map (λi=>(i.size,ble i.bytes 10000))=some (14,true):=by kernel_rfl
 obtain⟨i,hi,e⟩:=Option.map_eq_some_iff.1 q1;have e1:i.size=14:=rg Prod.fst e;have e2:ble i.bytes 10000=true:=rg Prod.snd e;unfold kn;rw[show prog.underlying 37=some (.slice 90) by kernel_rfl];simp only;rw[show c7 (.int .i64 (n:Int))=some n from rfl,m8,m8,hi,m8,show de prog 90=some (.agg bu.vy) by simp only[aJ];rfl,m8,e1,e2,eY (ac n),eY h];rfl
def su:∀n,(rep bu.vy n).map SV.a=(bi n bu.zero).flatMap aq
 | 0=>rfl
 | n+1=>by rw[rep,bw,su n,List.replicate_succ,flatMap_cons];rfl
def eF(l:List bu):List bu:=AE (rH x7) l
def A9(l:List bu)(hlen:l.length<20):PC prog 105 [an 14 l aq,.fn 106 [] []] (·=an 14 (eF l) aq):=by
 have hst:=Bb 106 x7 Jb (some l.length) l hlen;have hrc:∀(g:Nat->Nat) (l:List bu),mn g (l.flatMap aq)=l.flatMap aq:=λg l=>bn (aA bN l);have hbc:∀(B:Nat) (l:List bu),hY B (l.flatMap aq)=true:=λB l=>bI (aA bN l);have hkc:∀(o:Nat) (l:List bu),(l.flatMap aq).map (aY o)=l.flatMap aq:=λo l=>bC bN o l;refine pB 16 Tryz.func105 ?_;have hcl:=aZ cA l
 have hzl:((bi l.length bu.zero).flatMap aq).length=l.length*14:=by rw[aZ cA,b7]
 refine(zV)<|(aw (cG (L4 l.length i5) @su hkc)) ?_
 (repeat refine aE.seq ?_)
 refine aE.mono (Q:=λe st=>e=.normal/\Fg st ⟨[(1,.fn 106 [] []),(5,.buf 0 l.length 14 (some l.length))],16,[.cells (l.flatMap aq)],[]⟩) ?_ ?_
 ·by_cases h0:l.length=0
  ·have hl:l=[]:=t8 h0;subst hl;refine(zV) ?_;exact⟨rfl,zH⟩
  ·have htk:(l.flatMap aq).take (l.length*14)=l.flatMap aq:=ej cA l;have hmin:Nat.min l.length l.length=l.length:=fl _;have hdr:((bi l.length bu.zero).flatMap aq).drop (l.length*14)=[]:=bd (by rw[hzl];exact ac _);refine(aw (MV h0 hmin htk hzl hcl @ac @JF hdr @Nat.zero_add @append_nil.{0})) ?_;exact⟨rfl,zH⟩
 rintro e st ⟨rfl,hfg⟩;refine aE.fg hfg ?_;clear hfg
 (try change aE _ _ _ _ _)
 have hsl:(eF l).length=l.length:=by unfold eF;exact yv _ _
 refine(zC) ?_;refine zS [0] (cG hrc hbc hkc) hst ?_;exact(zR)<|(zV)<|zo [.tmp 4] (r:=.sl l.length 14 ((eF l).flatMap aq)) (hw:=.buf rfl (by rw[<-hsl];rw[show AE (rH x7) l=eF l from rfl,ej cA];exact bg.refl (aA bN _)) (by rw[show AE (rH x7) l=eF l from rfl,aZ cA,hsl];exact ac _)) (hq:=by rw[an,hsl])
def we(l:List bu)(hlen:l.length<20):PC prog 47 [an 14 l aq] (·=an 14 (eF l) aq):=by
 refine pB 5 Tryz.func47 ?_;exact(jt)<|(zK (A9 l hlen) (hfl:=.inr (bg.refl rfl)))<|(zR)<|zo [.tmp 2] (r:=an 14 (eF l) aq) (hw:=Wk.refl rfl)
open Go.Proofs.Tryz renaming func104 -> vaa in
open Go.Ev renaming vf -> vab in
open Go.Proofs renaming aq -> vac in
def Af{l:List (bu)}(p:bu->Bool){fid:FuncId}{first cap:List SV}(hlen:l.length<=1000000)(hp:∀x∈l,PC prog fid ((first++[.ag (aq x)])++cap) (·=ak (p x)))(hg:bW first=true/\bW cap=true):PC prog 104 [an 14 l aq,.fn fid first cap] (·=ab (fR p l)):=by
 have vad:=@aq.eq_1;exact JH
def wu:∀n,(rep bu.vy n).all jS=true
 | 0=>rfl
 | n+1=>by rw[rep,cI,wu n];rfl
def Bw{α:Type}{p:α->Bool}{l:List α}(h:fR p l ≠ -1):∃(k:Nat) (x:α),fR p l=(k:Int)/\l[k]?=some x/\p x=true/\∀(i:Nat) y,i<k->l[i]?=some y->p y=false:=by
 unfold fR at h ⊢
 cases hf:l.findIdx? p with
 | none=>rw[hf] at h;exact un rfl h
 | some k=>
  rw[List.findIdx?_eq_some_iff_getElem] at hf;obtain⟨hlt,h1,h2⟩:=hf;refine⟨k,l[k],rfl,li hlt,h1,λi y hi hy=>?_⟩;have:=h2 i hi;rw[li i5] at hy;cases hy;simpa using this
def Bx{α:Type}{p:α->Bool}{l:List α}(h:fR p l = -1):∀x∈l,p x=false:=by
 unfold fR at h
 cases hf:l.findIdx? p with
 | none=>
  rw[List.findIdx?_eq_none_iff] at hf;exact hf
 | some k=>rw[hf] at h;simp only at h;omega
def dR(d:bu->Bool)(l:List bu):List bu:=l.filter λx=>!d x
def Fh(d:bu->Bool)(l:List bu):(dR d l).length<=l.length:=ch _ _
def Ff{d:bu->Bool}{l:List bu}(h:∀x∈l,d x=false):dR d l=l:=by
 unfold dR;rw[d2];intro x hx;rw[h x hx];rfl
def BE{d:bu->Bool}{l:List bu}{j:Nat}{x:bu}(h:l[j]?=some x):dR d (l.take (j+1))=dR d (l.take j)++(if d x=true then [] else [x]):=by
 unfold dR;rw[cD h,d8];cases hd:d x<;>simp[hd]
def z7(g:FuncId)(c2:List SV)(hg:bW c2=true)(d:bu->Bool)(hp:∀x,PC prog g [.ag (aq x),.ip c2] (·=ak (d x))):
 SC prog 44 [.e0 14,.fn g [] [.ptr 0 0]] [.cells c2] [] (λr S'=>r=.e0 14/\S'=[.cells c2]):=by
 have hidx:=Af (l:=[]) d (fid:=g) (first:=[]) (cap:=[.ip c2]) gt (λx hx=>hp x) ⟨rfl,rfl⟩;rw[show fR d [] = -1 from rfl] at hidx
 refine OH 42 func44 ?_;refine(jt)<|(zK hidx (hwk:=.cons (.S8 14) (.cons (.fn .nil (.cons (.ptr rfl (bg.refl hg) (b5 _)) .nil)) .nil)))<|(zR)<|(wY)<|(zV)<|(zE) ?_;exact KD.of (rs:=[.tmp 4]) rfl rfl zl Vp zd zg
def z8(g:FuncId)(c2:List SV)(hg:bW c2=true)(d:bu->Bool)(hp:∀x,PC prog g [.ag (aq x),.ip c2] (·=ak (d x)))(l:List bu)(hlen:l.length<=100000):
 SC prog 44 [.buf 0 l.length 14 none,.fn g [] [.ptr 1 0]] [.cells (l.flatMap aq),.cells c2] [] (λr S'=>r=.buf 0 (dR d l).length 14 none/\S'=[.cells ((dR d l++bi (l.length-(dR d l).length) bu.zero).flatMap aq),.cells c2]):=by
 have hidx:=Af (l:=l) d (fid:=g) (first:=[]) (cap:=[.ip c2]) i5 (λx hx=>hp x) ⟨rfl,rfl⟩;have hkc:∀(o:Nat) (l:List bu),(l.flatMap aq).map (aY o)=l.flatMap aq:=λo l=>bC bN o l;have hk2:∀o:Nat,c2.map (aY o)=c2:=λo=>bR hg
 refine Rx 42 func44 ?_;refine(jt)<|(zK hidx (hwk:=.cons (.buf rfl (by rw[ej cA];exact bg.refl (aA bN l)) (by rw[aZ cA];exact ac _)) (.cons (.fn .nil (.cons (.ptr rfl (bg.refl hg) (b5 _)) .nil)) .nil)))<|(zR) ?_
 by_cases hno:fR d l = -1
 ·have hall:=Bx hno;rw[hno]
  refine(wY)<|(zV)<|(zE) ?_;exact zP [.tmp 4] (hq:=by (try simp only[ew,bH]);first | done | (rw[Ff hall,ex,List.replicate_zero,append_nil];first | exact⟨rfl,rfl⟩ | exact⟨trivial,rfl⟩ | exact⟨rfl,trivial⟩ | exact⟨trivial,trivial⟩))
 obtain⟨k,x0,hk,hx0,hd0,hbef⟩:=Bw hno;rw[hk];have hkl:k<l.length:=br hx0
 refine(aw (show decide ((k:Int) = -1)=false by simp only[wn];omega))<|(zN)<|(zs) ?_;refine aE.r0 i4 (rX (bA (k:Int) 1 i5)) ?_
 have hst:dR d (l.take (k+1))=l.take k:=by
  rw[BE hx0,ut hd0,append_nil];refine Ff λx hx=>?_;obtain⟨i,hi⟩:=List.mem_iff_getElem?.1 hx
  have hik:i<k:=by
   have:=br hi;rw[af] at this;omega
  rw[d9,ut hik] at hi;exact hbef i x hik hi
 (repeat refine aE.seq ?_)
 refine aE.block (aE.loop (λm st=>∃(j i:Nat) (q:List bu),(i<j/\j<=l.length/\q.length=l.length)/\(q.take i=dR d (l.take j)/\q.drop j=l.drop j)/\l.length-j=m/\st=⟨[(0,.buf 0 l.length 14 none),(1,.fn g [] [.ptr 1 0]),(5,qy i),(6,qy j),(1000000,.ptr 0 0),(1000001,.ptr 1 0)],42,[.cells (q.flatMap aq),.cells c2],[]⟩) (l.length-(k+1)) (bX @fH) ⟨k+1,k,l,⟨ck _,hkl,rfl⟩,⟨hst.symm,rfl⟩,rfl,rfl⟩ (by rintro m st ⟨j,i,q,_,_,_,rfl⟩;rfl) ?_);rintro m st ⟨j,i,q,⟨hij,hjl,hql⟩,⟨htk,hdr⟩,rfl,rfl⟩
 have hcl:(q.flatMap aq).length=l.length*14:=by rw[aZ cA,hql]
 refine(zV) ?_;by_cases hlt:j<l.length;rotate_left
 ·rw[show decide ((j:Int)<(l.length:Int))=false by simp only[wn];omega]
  obtain rfl:j=l.length:=by omega
  rw[ba] at htk;refine(gh) ?_
  have hkl2:(dR d l).length=i:=by rw[<-htk,af];omega
  have hrest:(q.flatMap aq).take (i*14)++((rep bu.vy (l.length-i)).map SV.a++(q.flatMap aq).drop (i*14+(l.length-i)*14))=(dR d l++bi (l.length-(dR d l).length) bu.zero).flatMap aq:=by
   rw[hkl2,su,ji cA,htk,bd (by rw[hcl];omega),append_nil,bb]
  refine(zs) ?_;refine aE.r0 i4 (by simp only[dJ,cj,an,aJ,m8,m7,↓reduceIte,aa,a4,a9,am,a6,ar,az,bT,KI (show i<=l.length by omega),show ¬(l.length-i=0) by omega,show i*14+(l.length-i)*14<=l.length*14 by omega,hcl,show(rep [AV.int IntKind.i64 0,.int .i64 0,.str [],.str [],.str [],.str [],.str [],.str [],.int .i64 0,.int .i64 0,.int .i64 0,.int .i64 0,.int .i64 0,.int .i64 0] (l.length-i))=rep bu.vy (l.length-i) from rfl,wu,hrest];first | done | rfl) ?_;refine(zs) ?_;refine aE.r0 i4 (rX (bq (T5 (show i<=l.length by omega)) @cl)) ?_;refine(zE) ?_;exact KD.of (rs:=[.tmp 4]) rfl rfl zl (by (try simp only[ew,bH]);first | done | (rw[hkl2];first | exact⟨rfl,rfl⟩ | exact⟨trivial,rfl⟩ | exact⟨rfl,trivial⟩ | exact⟨trivial,trivial⟩)) zd zg
 rw[show decide ((j:Int)<(l.length:Int))=true by simp only[wp];omega];obtain⟨x,hx⟩:∃x,l[j]?=some x:=⟨l[j],li hlt⟩
 have hqx:q[j]?=some x:=by
  have:(q.drop j)[0]?=(l.drop j)[0]?:=by rw[hdr]
  rw[c4,c4,Nat.add_zero] at this;rw[this,hx]
 have hdr2:q.drop (j+1)=l.drop (j+1):=by
  have:=rg (List.drop 1) hdr;rw[e6,e6] at this;exact this
 have hsn:=BE (d:=d) hx;have ax:((q.flatMap aq).drop (j*14)).take 14=aq x:=aQ (e:=14) (enc:=aq) (λ_=>rfl) hqx;rw[dj] at ax;have hpx:=hp x;rw[dj] at hpx
 refine(gB)<|(aw (xX hlt hcl (show j*14+14<=l.length*14 by omega) ax hkc hk2))<|(zC)<|(zK hpx (hwk:=.cons (.ag (bg.refl rfl)) (.cons (.ptr rfl (bg.refl hg) (b5 _)) .nil))) ?_
 cases hd:d x
 ·have hil:i<q.length:=by omega
  have s1:=q9 (enc:=aq) cA (l:=q) (i:=i) x hil;rw[dj] at s1;simp only[cons_append,nil_append] at s1;rw[hd,v6 ii] at hsn
  refine(zR)<|(zY)<|(aw (gm (show i<l.length by omega) hcl (show i*14+14<=l.length*14 by omega) s1))<|(zs) ?_;refine aE.r0 i4 (rX (bA (i:Int) 1 i5)) ?_;refine(zs) ?_;refine aE.r0 i4 (rX (bA (j:Int) 1 i5)) ?_;refine⟨l.length-(j+1),_,by omega,(bX @fH),j+1,i+1,q.set i x,⟨by omega,by omega,by rw[bc,hql]⟩,⟨?_,?_⟩,rfl,rfl⟩
  ·rw[hsn,<-htk,be,ut hil,e3,af,a5 i5,dd,Nat.min_eq_right i5,show i+1-i=1 by omega];rfl
  ·rw[List.drop_set,ut i5];exact hdr2
 ·rw[hd,ut rfl,append_nil] at hsn
  refine(zR)<|(zN)<|(zs) ?_;refine aE.r0 i4 (rX (bA (j:Int) 1 i5)) ?_;exact⟨l.length-(j+1),_,by omega,(bX @fH),j+1,i,q,⟨by omega,by omega,hql⟩,⟨by rw[hsn,htk],hdr2⟩,rfl,rfl⟩
def IJ{i j:Nat}(h:i+j<=1000000):mA prog 3 210 (.int .i64 ((i:Int)+(j:Int)))=some (.int .u64 ((i+j:Nat):Int)):=by
 unfold mA;rw[show prog.underlying 3=some (.int .i64) by kernel_rfl,show prog.underlying 210=some (.int .u64) by kernel_rfl]
 have:dP .u64 ((i:Int)+(j:Int))=((i+j:Nat):Int):=by rw[gX];simp[IntKind.wrap,IntKind.bits,IntKind.signed];omega
 simp only[this]
def IK{s:Nat}:da prog .shr 210 (.int .u64 (s:Int)) (.int .u64 1)=some (.int .u64 ((s/2:Nat):Int)):=by
 have:((s:Int)).fdiv 2=((s/2:Nat):Int):=by
  rw[Int.fdiv_eq_ediv_of_nonneg _ ii];omega
 show some (AV.int .u64 (((s:Int)).fdiv 2))=_;rw[this]
def IL{s:Nat}(h:s<=1000000):mA prog 210 3 (.int .u64 (s:Int))=some (.int .i64 (s:Int)):=by
 unfold mA;rw[show prog.underlying 3=some (.int .i64) by kernel_rfl,show prog.underlying 210=some (.int .u64) by kernel_rfl]
 have:dP .i64 (s:Int)=(s:Int):=by rw[gX];simp[IntKind.wrap,IntKind.bits,IntKind.signed];omega
 simp only[this]
def dQ(p:ai):ae p=[ah p.name,ah p.kind,ah p.aR,ah p.slot,ab p.made,ab p.since,ak p.bo,an 2 p.props aH,ab p.l1,ab p.l2,ab p.l3,ab p.l4,ab p.l5,ab p.l6]:=rfl
def pe(p:bB):aH p=[ah p.key,ah p.value]:=rfl
def gn(l:List ai)(k:List Nat)(pos:Nat):Bool:=match l[pos]? with
 | some x=>decide (ai.name x=k)
 | none=>false
structure Bc (l:List ai) (k:List Nat) (pos:Nat):Prop where
 le:pos<=l.length
 jw:∀(a:Nat) (x:ai),l[a]?=some x->(fe (ai.name x) k=true↔a<pos)
def Ra{p:Prop} (h:p:=by
  obtain⟨hpos,hpt⟩:=hpart
  refine pB 49 vah ?_;refine(oa)<|(zV) ?_
  (repeat refine aE.seq ?_)
  refine aE.block (aE.loop (λm st=>∃i j:Nat,(i<=pos/\pos<=j/\j<=l.length)/\j-i=m/\st=⟨[(0,an vai l vaj),(1,ah k),(2,.fn g [] cap),(8,qy l.length),(9,qy i),(10,qy j)],49,[],[]⟩) l.length zH ⟨0,l.length,⟨Nat.zero_le _,hpos,Nat.le_refl _⟩,Nat.sub_zero _,rfl⟩ (by rintro m st ⟨i,j,_,_,rfl⟩;rfl) ?_);rintro m st ⟨i,j,⟨hip,hpj,hjl⟩,rfl,rfl⟩;refine(zV) ?_;by_cases hij:i<j;rotate_left
  ·rw[show decide ((i:Int)<(j:Int))=false by simp only[wn];((try simp only[vai] at *)<;>omega)];refine(gh) ?_
   obtain rfl:i=pos:=by ((try simp only[vai] at *)<;>omega)
   by_cases hil:i<l.length
   ·obtain⟨x,hx⟩:∃x,l[i]?=some x:=⟨l[i],li hil⟩
    have hl:fe (vak x) k=false:=by
     cases h:fe (vak x) k with
     | false=>rfl
     | true=>exact un ((hpt i x hx).1 h) (Nat.lt_irrefl _)
    have ax:((l.flatMap vaj).drop (i*vai)).take vai=vaj x:=aQ (e:=vai) (enc:=vaj) (λ_=>rfl) hx;simp only[vai] at ax;have hpx:=hp x (List.mem_of_getElem? hx)
    have hfd:vam l k i=decide (vak x=k):=by unfold vam;rw[hx]
    have hc0:decide (wC (vak x) k=0)=decide (vak x=k):=by
     unfold wC;rw[hl,v6 ii];by_cases e:vak x=k
     ·rw[ut e,wl e];rfl
     ·rw[v6 e,wd e];rfl
    rw[van] at ax hpx
    exact(fb (cG (show decide ((i:Int)<(l.length:Int))=true by simp only[wp];((try simp only[vai] at *)<;>omega)) hil ax))<|(zK hpx (hwk:=bg.refl (mE rfl hcap)))<|(cJ hc0)<|jW [.tmp 6,.tmp 7] (hq:=by rw[hfd])
   ·have hfd:vam l k i=false:=by unfold vam;rw[List.getElem?_eq_none (by ((try simp only[vai] at *)<;>omega))]
    exact(aw (show decide ((i:Int)<(l.length:Int))=false by simp only[wn];((try simp only[vai] at *)<;>omega)))<|jW [.tmp 6,.tmp 7] (hq:=by rw[hfd])
  rw[show decide ((i:Int)<(j:Int))=true by simp only[wp];((try simp only[vai] at *)<;>omega)];obtain⟨h,hh⟩:∃h,h=(i+j)/2:=⟨_,rfl⟩
  have hl2:h<l.length:=by ((try simp only[vai] at *)<;>omega)
  obtain⟨x,hx⟩:∃x,l[h]?=some x:=⟨l[h],li hl2⟩;have ax:((l.flatMap vaj).drop (h*vai)).take vai=vaj x:=aQ (e:=vai) (enc:=vaj) (λ_=>rfl) hx;simp only[vai] at ax;have hpx:=hp x (List.mem_of_getElem? hx);have hpth:=hpt h x hx;rw[van] at ax hpx
  refine(gB)<|(zs) ?_;refine aE.r0 i4 (rX (gm (bA (i:Int) (j:Int) (by ((try simp only[vai] at *)<;>omega))) (IJ (show i+j<=1000000 by ((try simp only[vai] at *)<;>omega))) @IK (IL (show(i+j)/2<=1000000 by ((try simp only[vai] at *)<;>omega))))) ?_
  rw[<-hh]
  refine(fb (bq hl2 ax))<|(zK hpx (hwk:=bg.refl (mE rfl hcap))) ?_
  have hc:decide (wC (vak x) k<0)=fe (vak x) k:=by
   unfold wC;cases h:fe (vak x) k
   ·rw[v6 ii];split<;>rfl
   ·rw[ut rfl];rfl
  cases hlt:fe (vak x) k
  ·have hge:pos<=h:=by
    rcases Nat.lt_or_ge h pos with hq | hq
    ·have:=hpth.2 hq;rw[hlt] at this;cases this
    ·exact hq
   refine(cJ (bq hc hlt))<|(kY) ?_;exact⟨h-i,_,by ((try simp only[vai] at *)<;>omega),zH,i,h,⟨hip,hge,by ((try simp only[vai] at *)<;>omega)⟩,rfl,rfl⟩
  ·have hgt:h<pos:=hpth.1 hlt
   refine(cJ (bq hc hlt))<|(zY)<|(zs) ?_;refine aE.r0 i4 (rX (bA (h:Int) 1 (by ((try simp only[vai] at *)<;>omega)))) ?_;exact⟨j-(h+1),_,by ((try simp only[vai] at *)<;>omega),(Fg.less (Us @fH) (Ut @fH)),h+1,j,⟨by ((try simp only[vai] at *)<;>omega),hpj,hjl⟩,rfl,rfl⟩):p:=h
open Go.Proofs.Tryz renaming func193 -> vah in
open Go.Ev renaming vf -> vai in
open Go.Proofs renaming ae -> vaj,gn -> vam in
open Go.Proofs.ai renaming name -> vak in
def Gi(l:List ai)(hlen:l.length<=100000){g:FuncId}{cap:List SV}(hcap:bW cap=true)(k:List Nat)(pos:Nat)(hp:∀x∈l,PC prog g ([.ag (ae x),ah k]++cap) (·=ab (wC (ai.name x) k)))(hpart:Bc l k pos):
 PC prog 193 [an 14 l ae,ah k,.fn g [] cap] (·=.cm [qy pos,ak (gn l k pos)]):=by
 have van:=@dQ;exact Ra
def ie(l:List bB)(k:List Nat)(pos:Nat):Bool:=match l[pos]? with
 | some x=>decide (bB.key x=k)
 | none=>false
structure Bd (l:List bB) (k:List Nat) (pos:Nat):Prop where
 le:pos<=l.length
 jw:∀(a:Nat) (x:bB),l[a]?=some x->(fe (bB.key x) k=true↔a<pos)
open Go.Proofs.Tryz renaming func197 -> vah in
open Go.Ev renaming J2 -> vai in
open Go.Proofs renaming aH -> vaj,ie -> vam in
open Go.Proofs.bB renaming key -> vak in
def Gj(l:List bB)(hlen:l.length<=100000){g:FuncId}{cap:List SV}(hcap:bW cap=true)(k:List Nat)(pos:Nat)(hp:∀x∈l,PC prog g ([.ag (aH x),ah k]++cap) (·=ab (wC (bB.key x) k)))(hpart:Bd l k pos):
 PC prog 197 [an 2 l aH,ah k,.fn g [] cap] (·=.cm [qy pos,ak (ie l k pos)]):=by
 have van:=@pe;exact Ra
open Go.Ev Go.Lib
def Kb(Z:List AV):∀m,(rep Z m).length=m*Z.length
 | 0=>by rw[rep,i7,bv]
 | m+1=>by rw[rep,md,Kb Z m,c0,dy]
def F3{Z:List AV}(hZ:Z.all jS=true):∀m,(rep Z m).all jS=true
 | 0=>rfl
 | m+1=>by rw[rep,cI,hZ,F3 hZ m];rfl
def FB:∀{l:List AV},l.all jS=true->(l.map SV.a).all e9=true
 | [],_=>rfl
 | a::l,h=>by
  rw[eb,ad] at h;rw[b9,eb,FB h.2,Bool.and_true];exact h.1
def FA(o:Nat):∀l:List AV,(l.map SV.a).map (aY o)=l.map SV.a
 | []=>rfl
 | a::l=>by rw[b9,b9,FA o l];rfl
def DU:Cj prog 263:=by
 intro w a b la ca lb cb tA tB kA kB h1 h2 h3 h4 h5 h6
 rw[run_callFunc_extern Tryz.func263 zW zW zW (e:=Extern.SlicesOverlaps.overlaps #[44,44] #[4]) zW,
  Lib.run_overlaps_apart w 44 4 56 zW 14 (λw=>bM zW) a b la ca lb cb h1 tA tB kA kB h2 h3 h4 h5 h6]
 rfl
def AY(x:ai):SC prog 195 [.e0 14,qy 0,.buf 0 1 14 (some 1)] [.cells (ae x)] [0] (λr S'=>r=an 14 [x] ae/\S'=[.gone]):=by
 refine OH 95 Tryz.func195 ?_;have hkc:=λo:Nat=>bR (o:=o) (dk x);have hon:(ae x).all e9=true:=rfl;rw[dQ] at hkc hon ⊢
 refine(oa)<|(oa)<|(kY)<|(wY)<|(aw (bq hkc hon))<|zA [(6,.buf 1 1 14 none)] [.gone,.cells (ae x)] (bX @dQ) ?_;refine zZ [(6,an 14 [x] ae)] 1 rfl ⟨.inr (.buf rfl (by rw[flatMap_cons,flatMap_nil,append_nil];exact bg.refl (dk x)) (by show 1*14<=14;decide)),trivial⟩<|zA [(6,an 14 [x] ae)] [.gone] zH<|(zE) ?_;exact zP [.tmp 6]
def Rb{p:Prop} (h:p:=by
  have hf:∀l:List vao,(l.flatMap vap).length=l.length*vaq:=aZ (enc:=vap) (e:=vaq) (λ_=>rfl);simp only[vaq] at hf
  have h1:((l.flatMap vap++A).take ((i+1)*vaq)).length=(i+1)*vaq:=by
   rw[List.length_take,md,hf];((try simp only[vaq] at *)<;>omega)
  simp only[vaq] at h1
  have h2:((l.flatMap vap++A).take ((i+1)*vaq)).take (i*vaq)=(l.take i).flatMap vap:=by
   rw[List.take_take,Nat.min_eq_left (by ((try simp only[vaq] at *)<;>omega)),List.take_append_of_le_length (by rw[hf];((try simp only[vaq] at *)<;>omega)),ji (enc:=vap) (e:=vaq) (λ_=>rfl)]
  simp only[vaq] at h2;generalize hB:(l.flatMap vap++A).take ((i+1)*vaq)=B at h1 h2 ⊢;generalize (l.flatMap vap++A).drop ((i+1)*vaq+(l.length-i)*vaq)=R
  have e1:(B++((l.drop i).flatMap vap++R)).take (i*vaq)=(l.take i).flatMap vap:=by rw[List.take_append_of_le_length (by rw[h1];((try simp only[vaq] at *)<;>omega)),h2]
  simp only[vaq] at e1
  have e2:(B++((l.drop i).flatMap vap++R)).drop (i*vaq+vaq)=(l.drop i).flatMap vap++R:=by rw[List.drop_append_of_le_length (by rw[h1];((try simp only[vaq] at *)<;>omega)),List.drop_of_length_le (by rw[h1];((try simp only[vaq] at *)<;>omega)),List.nil_append]
  simp only[vaq] at e2;rw[e1,e2]
  have h3:((l.take i).flatMap vap++(vap x++(l.drop i).flatMap vap)).length=(l.length+1)*vaq:=by
   rw[md,md,hf,hf,show(vap x).length=vaq from rfl,List.length_take,List.length_drop,Nat.min_eq_left (by ((try simp only[vaq] at *)<;>omega))];((try simp only[vaq] at *)<;>omega)
  simp only[vaq] at h3
  rw[<-List.append_assoc (vap x),<-List.append_assoc,List.take_append_of_le_length (by rw[h3];exact Nat.le_refl _),List.take_of_length_le (by rw[h3];exact Nat.le_refl _),List.flatMap_append,List.flatMap_cons]):p:=h
open Go.Proofs renaming ai -> vao,ae -> vap in
open Go.Ev renaming vf -> vaq in
def PE(l:List ai)(i:Nat)(x:ai)(hi:i<l.length)(A:List SV):
 (((l.flatMap ae++A).take ((i+1)*14)++((l.drop i).flatMap ae++(l.flatMap ae++A).drop ((i+1)*14+(l.length-i)*14))).take (i*14)++(ae x++((l.flatMap ae++A).take ((i+1)*14)++((l.drop i).flatMap ae++(l.flatMap ae++A).drop ((i+1)*14+(l.length-i)*14))).drop (i*14+14))).take ((l.length+1)*14)=(l.take i++x::l.drop i).flatMap ae:=by
 exact Rb
abbrev U5:List AV:=[.str [],.str [],.str [],.str [],.int .i64 0,.int .i64 0,.bool false,.slice none 0 0 (some 0),.int .i64 0,.int .i64 0,.int .i64 0,.int .i64 0,.int .i64 0,.int .i64 0]
abbrev U6:List AV:=[.str [],.str []]
def Rc{p:Prop} (h:p:=by
  refine Rx 95 var ?_;have hkl:=λo:Nat=>bC (enc:=vas) vat o l;have hkc:=λo:Nat=>bR (o:=o) (vat x);have hon:(vas x).all e9=true:=rfl;have hxl:(vas x).length=vau:=rfl;simp only[vau] at hxl;have hxt:(vas x).take vau=vas x:=rfl;simp only[vau] at hxt;have hcl:(l.flatMap vas).length=l.length*vau:=aZ (enc:=vas) (e:=vau) (λ_=>rfl) l;simp only[vau] at hcl;have htl:(l.flatMap vas).take (l.length*vau)=l.flatMap vas:=List.take_of_length_le (by rw[hcl];exact Nat.le_refl _);simp only[vau] at htl;have hc1:((1:Nat):Int)=1:=rfl
  refine(zV)<|(aw (Ps hi))<|(aw hc1)<|(aw hc1)<|(kY) ?_
  by_cases hin:i=l.length
  ·subst hin
   refine(aw (show decide ((l.length:Int)=(l.length:Int))=true by simp))<|(zY) ?_
   have hka:∀o:Nat,(l.flatMap vas++vas x).map (aY o)=l.flatMap vas++vas x:=λo=>by rw[List.map_append,hkl,hkc]
   refine(aw (MW hkc hon hxl hxt hcl htl hka @Nat.le_refl (show l.length<=1000000 by ((try simp only[vau] at *)<;>omega))))<|zA [(6,.buf 0 (l.length+1) vau none)] [.cells (l.flatMap vas++vas x),.gone] zH ?_
   have hq:l.flatMap vas++vas x=(l.take l.length++x::l.drop l.length).flatMap vas:=by rw[List.take_length,List.drop_length,List.flatMap_append,List.flatMap_cons,List.flatMap_nil,List.append_nil]
   have hqn:(l.take l.length++x::l.drop l.length).length=l.length+1:=by rw[List.take_length,List.drop_length,md,jp,i7]
   rw[hq]
   refine zZ [(6,an vau (l.take l.length++x::l.drop l.length) vas)] 0 rfl ⟨.inr (by rw[sB,hqn];exact .buf rfl (by rw[<-hqn,ej (enc:=vas) (e:=vau) (λ_=>rfl)];exact bg.refl (aA vat _)) (by rw[aZ (enc:=vas) (e:=vau) (λ_=>rfl),hqn];exact Nat.le_refl _)),trivial⟩<|(zE) ?_;exact zP [.tmp 6]
  have hlt:i<l.length:=by ((try simp only[vau] at *)<;>omega)
  refine(aw (show decide ((i:Int)=(l.length:Int))=false by simp only[wn];((try simp only[vau] at *)<;>omega)))<|(zN) ?_;refine aE.Ij 0 ii rfl rfl ?_
  intro cap hcap;obtain⟨A,hA⟩:∃A,A=List.replicate (cap*vau-(l.flatMap vas).length) SV.any:=⟨_,rfl⟩;rw[<-hA]
  have hAl:A.length=cap*vau-l.length*vau:=by rw[hA,List.length_replicate,hcl]
  simp only[vau] at hAl;by_cases hroom:cap<l.length+1
  ·obtain rfl:cap=l.length:=by ((try simp only[vau] at *)<;>omega)
   obtain rfl:A=[]:=t8 (by rw[hAl];((try simp only[vau] at *)<;>omega));rw[List.append_nil];clear hA hAl
   refine(aw (cG hc1 (Ee (show -9223372036854775808<=(l.length:Int)+1/\(l.length:Int)+1<=9223372036854775807 from⟨by ((try simp only[vau] at *)<;>omega),by ((try simp only[vau] at *)<;>omega)⟩)) (show decide ((l.length:Int)<(l.length:Int)+1)=true by simp only[wp];((try simp only[vau] at *)<;>omega))))<|(zY) ?_
   obtain⟨m,hm⟩:∃m,m=l.length+1-i:=⟨_,rfl⟩;obtain⟨R,hR⟩:∃R,R=(rep vav m).map SV.a:=⟨_,rfl⟩
   have hRl:R.length=m*vau:=by rw[hR,List.length_map,Kb];rfl
   simp only[vau] at hRl
   have hRo:R.all e9=true:=by rw[hR];exact FB (F3 rfl m)
   have hRk:∀o:Nat,R.map (aY o)=R:=λo=>by rw[hR];exact FA o _
   obtain⟨c1,hc1e⟩:∃c1,c1=(l.flatMap vas).take (i*vau)++R:=⟨_,rfl⟩
   have hc1l:c1.length=(l.length+1)*vau:=by rw[hc1e,md,List.length_take,hcl,hRl,Nat.min_eq_left (by ((try simp only[vau] at *)<;>omega)),hm];((try simp only[vau] at *)<;>omega)
   simp only[vau] at hc1l
   have hc1k:∀o:Nat,c1.map (aY o)=c1:=λo=>by rw[hc1e,List.map_append,hRk,List.map_take,hkl]
   refine(aw (bq (MW hc1 (T5 hi) (Ee (show -9223372036854775808<=(l.length:Int)+1/\(l.length:Int)+1<=9223372036854775807 from⟨by ((try simp only[vau] at *)<;>omega),by ((try simp only[vau] at *)<;>omega)⟩)) (Q6 (show -9223372036854775808<=(l.length:Int)+1-(i:Int)/\(l.length:Int)+1-(i:Int)<=9223372036854775807 from⟨by ((try simp only[vau] at *)<;>omega),by ((try simp only[vau] at *)<;>omega)⟩)) (show((l.length:Int)+1-(i:Int))=(m:Int) by ((try simp only[vau] at *)<;>omega)) (Eq.symm hR) hRo @Nat.sub_zero (show m<=1000000 by ((try simp only[vau] at *)<;>omega))) (MV (show ¬m=0 by ((try simp only[vau] at *)<;>omega)) (show i<=1000000 by ((try simp only[vau] at *)<;>omega)) hcl (show i*vau<=l.length*vau by ((try simp only[vau] at *)<;>omega)) (show l.length<l.length+1 by ((try simp only[vau] at *)<;>omega)) (show i+m=l.length+1 by ((try simp only[vau] at *)<;>omega)) (Eq.symm hc1e) hc1k hkl hkc))) ?_;obtain⟨c2,hc2e⟩:∃c2,c2=c1.take (i*vau)++(vas x++c1.drop (i*vau+vau)):=⟨_,rfl⟩
   have hc2l:c2.length=(l.length+1)*vau:=by rw[hc2e,md,md,List.length_take,List.length_drop,hc1l,hxl];((try simp only[vau] at *)<;>omega)
   simp only[vau] at hc2l;refine(aw (TM (Ps (show i<=l.length+1 by ((try simp only[vau] at *)<;>omega))) hxl hxt (show Nat.min 1 (l.length+1-i)=1 by simp only[Nat.min_def];rw[ut (by ((try simp only[vau] at *)<;>omega))]) hc1l (show i*vau+vau<=(l.length+1)*vau by ((try simp only[vau] at *)<;>omega)) hon (Eq.symm hc2e))) ?_
   have hdr:((l.flatMap vas).drop (i*vau)).take ((l.length-i)*vau)=(l.drop i).flatMap vas:=by
    rw[pk (enc:=vas) (e:=vau) (λ_=>rfl),List.take_of_length_le];rw[aZ (enc:=vas) (e:=vau) (λ_=>rfl),List.length_drop];exact Nat.le_refl _
   simp only[vau] at hdr
   have hdl:((l.drop i).flatMap vas).length=(l.length-i)*vau:=by rw[aZ (enc:=vas) (e:=vau) (λ_=>rfl),List.length_drop]
   simp only[vau] at hdl;have hdt:((l.drop i).flatMap vas).take ((l.length-i)*vau)=(l.drop i).flatMap vas:=List.take_of_length_le (by rw[hdl];exact Nat.le_refl _);simp only[vau] at hdt;have hdo:((l.drop i).flatMap vas).all e9=true:=vaw (l.drop i);obtain⟨c3,hc3e⟩:∃c3,c3=c2.take ((i+1)*vau)++((l.drop i).flatMap vas++c2.drop ((i+1)*vau+(l.length-i)*vau)):=⟨_,rfl⟩
   have hfin:c3=(l.take i++x::l.drop i).flatMap vas:=by
    have e0:c1.take (i*vau)=(l.take i).flatMap vas:=by
     rw[hc1e,List.take_append_of_le_length (by rw[List.length_take,hcl];((try simp only[vau] at *)<;>omega)),List.take_take,Nat.min_self,ji (enc:=vas) (e:=vau) (λ_=>rfl)]
    simp only[vau] at e0
    have e1:((l.take i).flatMap vas++vas x).length=(i+1)*vau:=by
     rw[md,aZ (enc:=vas) (e:=vau) (λ_=>rfl),hxl,List.length_take,Nat.min_eq_left hi];((try simp only[vau] at *)<;>omega)
    simp only[vau] at e1;rw[hc3e,show c2.drop ((i+1)*vau+(l.length-i)*vau)=[] from List.drop_of_length_le (by rw[hc2l];((try simp only[vau] at *)<;>omega)),List.append_nil,hc2e,e0,<-List.append_assoc,List.take_append_of_le_length (by rw[e1];exact Nat.le_refl _),List.take_of_length_le (by rw[e1];exact Nat.le_refl _),List.flatMap_append,List.flatMap_cons,List.append_assoc]
   refine(zs) ?_;refine oS [0,0,0,6,15,0,0,96,255] ?_
   (repeat (first | refine SD.r i4 rfl i4 i4 (rX (gm (bA (i:Int) 1 (by ((try simp only[vau] at *)<;>omega))) (C2) (Ps (show i+1<=l.length+1 by ((try simp only[vau] at *)<;>omega))) (Ps hi))) ?_ | refine SD.s i4 rfl i4 i4 ?_ | fail))
   refine SD.ed i4 rfl i4 rfl rfl i4 (rX (bq (MW hcl hc2l (show i*vau+(l.length-i)*vau<=l.length*vau by ((try simp only[vau] at *)<;>omega)) (show Nat.min (l.length-i) (l.length+1-(i+1))=l.length-i by simp only[Nat.min_def];split<;>((try simp only[vau] at *)<;>omega)) (show ¬(l.length-i=0) by ((try simp only[vau] at *)<;>omega)) (show(i+1)*vau+(l.length-i)*vau<=(l.length+1)*vau by ((try simp only[vau] at *)<;>omega)) hdr hdl hdt) (cG hdo @Nat.le_refl (Eq.symm hc3e)))) ?_;refine(zM)<|(zV) ?_
   have hqn:(l.take i++x::l.drop i).length=l.length+1:=by rw[md,jp,List.length_take,List.length_drop,Nat.min_eq_left hi];((try simp only[vau] at *)<;>omega)
   rw[hfin]
   refine zA [(6,.buf 2 (l.length+1) vau none)] [.gone,.gone,.cells ((l.take i++x::l.drop i).flatMap vas)] zH<|zZ [(6,an vau (l.take i++x::l.drop i) vas)] 2 rfl ⟨.inr (by rw[sB,hqn];exact .buf rfl (by rw[<-hqn,ej (enc:=vas) (e:=vau) (λ_=>rfl)];exact bg.refl (aA vat _)) (by rw[aZ (enc:=vas) (e:=vau) (λ_=>rfl),hqn];exact Nat.le_refl _)),trivial⟩<|zA [(6,an vau (l.take i++x::l.drop i) vas)] [.gone,.gone] zH<|(zE) ?_;exact zP [.tmp 6]
  have hcap2:l.length+1<=cap:=by ((try simp only[vau] at *)<;>omega)
  have hXl:(l.flatMap vas++A).length=cap*vau:=by rw[md,hcl,hAl];((try simp only[vau] at *)<;>omega)
  simp only[vau] at hXl;have hnn:(-9223372036854775808:Int)<=(l.length:Int)+1/\(l.length:Int)+1<=9223372036854775807:=⟨by ((try simp only[vau] at *)<;>omega),by ((try simp only[vau] at *)<;>omega)⟩
  refine(aw (cG hc1 (Ee hnn) (show decide ((cap:Int)<(l.length:Int)+1)=false by simp only[wn];((try simp only[vau] at *)<;>omega))))<|(zN) ?_
  have hbt:cK l.length (some cap) none (some (.int .i64 ((l.length+1:Nat):Int))) none=some (0,l.length+1,some cap):=by
   unfold cK ou pQ;simp only[oF,m8,eY hcap2,Bool.or_true,ar]
  refine(zs) ?_;refine aE.r0 i4 (rX (gm hc1 (Ee hnn) (C2) hbt)) ?_;have hii:(-9223372036854775808:Int)<=(i:Int)+1/\(i:Int)+1<=9223372036854775807:=⟨by ((try simp only[vau] at *)<;>omega),by ((try simp only[vau] at *)<;>omega)⟩
  refine(zs) ?_;refine aE.Ro i4 (rX (lM hc1 (Ee hii) (C2) (Ps (show i+1<=l.length+1 by ((try simp only[vau] at *)<;>omega))) @Nat.sub_zero)) ?_;refine aT.Vk vax i4 rfl rfl i4 rfl zc rfl rfl rfl rfl ii ii (by ((try simp only[vau] at *)<;>omega)) (by rw[hXl];((try simp only[vau] at *)<;>omega)) ?_;refine(zR)<|(zY) ?_
  have hdr:(((l.flatMap vas++A).drop (i*vau)).take ((l.length+1-i)*vau)).take ((l.length-i)*vau)=(l.drop i).flatMap vas:=by
   rw[List.take_take,Nat.min_eq_left (by ((try simp only[vau] at *)<;>omega)),List.drop_append_of_le_length (by rw[hcl];((try simp only[vau] at *)<;>omega)),pk (enc:=vas) (e:=vau) (λ_=>rfl),List.take_append_of_le_length (by rw[aZ (enc:=vas) (e:=vau) (λ_=>rfl),List.length_drop];exact Nat.le_refl _),List.take_of_length_le];rw[aZ (enc:=vas) (e:=vau) (λ_=>rfl),List.length_drop];exact Nat.le_refl _
  simp only[vau] at hdr
  have hdl:(((l.flatMap vas++A).drop (i*vau)).take ((l.length+1-i)*vau)).length=(l.length+1-i)*vau:=by
   rw[List.length_take,List.length_drop,hXl,Nat.min_eq_left (by ((try simp only[vau] at *)<;>omega))]
  simp only[vau] at hdl;have hdo:((l.drop i).flatMap vas).all e9=true:=vaw (l.drop i);obtain⟨w1,hw1⟩:∃w1,w1=(l.flatMap vas++A).take ((i+1)*vau)++((l.drop i).flatMap vas++(l.flatMap vas++A).drop ((i+1)*vau+(l.length-i)*vau)):=⟨_,rfl⟩
  have hw1l:w1.length=cap*vau:=by rw[hw1,md,md,List.length_take,List.length_drop,hXl,aZ (enc:=vas) (e:=vau) (λ_=>rfl),List.length_drop,Nat.min_eq_left (by ((try simp only[vau] at *)<;>omega))];((try simp only[vau] at *)<;>omega)
  simp only[vau] at hw1l;obtain⟨w2,hw2⟩:∃w2,w2=w1.take (i*vau)++(vas x++w1.drop (i*vau+vau)):=⟨_,rfl⟩
  have hw2l:w2.length=cap*vau:=by rw[hw2,md,md,List.length_take,List.length_drop,hw1l,hxl,Nat.min_eq_left (by ((try simp only[vau] at *)<;>omega))];((try simp only[vau] at *)<;>omega)
  simp only[vau] at hw2l
  have hfin:w2.take ((l.length+1)*vau)=(l.take i++x::l.drop i).flatMap vas:=by rw[hw2,hw1];exact vay l i x hlt A
  simp only[vau] at hfin;refine(zs) ?_;refine oS [0,0,0,6,15,0,0,96,255] ?_
  (repeat (first | refine SD.r i4 rfl i4 i4 (rX (lM (Ee hii) (C2) (Ps (show i+1<=l.length+1 by ((try simp only[vau] at *)<;>omega))) (Ps (show i<=l.length+1 by ((try simp only[vau] at *)<;>omega))) @Nat.sub_zero)) ?_ | refine SD.s i4 rfl i4 i4 ?_ | fail))
  refine SD.ed i4 rfl i4 rfl rfl i4 (rX (bq (MW hXl hcl (show i*vau+(l.length+1-i)*vau<=cap*vau by ((try simp only[vau] at *)<;>omega)) (show Nat.min (l.length+1-i) (l.length+1-(i+1))=l.length-i by simp only[Nat.min_def];split<;>((try simp only[vau] at *)<;>omega)) (show ¬(l.length-i=0) by ((try simp only[vau] at *)<;>omega)) (show(i+1)*vau+(l.length-i)*vau<=cap*vau by ((try simp only[vau] at *)<;>omega)) hdr hdl (show(l.length-i)*vau<=(l.length+1-i)*vau by ((try simp only[vau] at *)<;>omega))) (cG hdo @Nat.le_refl (Eq.symm hw1)))) ?_;refine(zM)<|(aw (TM (Ps (show i<=l.length+1 by ((try simp only[vau] at *)<;>omega))) hxl hxt (show Nat.min 1 (l.length+1-i)=1 by simp only[Nat.min_def];rw[ut (by ((try simp only[vau] at *)<;>omega))]) hw1l (show i*vau+vau<=cap*vau by ((try simp only[vau] at *)<;>omega)) hon (Eq.symm hw2)))<|(zV) ?_
  have hqn:(l.take i++x::l.drop i).length=l.length+1:=by rw[md,jp,List.length_take,List.length_drop,Nat.min_eq_left hi];((try simp only[vau] at *)<;>omega)
  refine zA [(6,.buf 0 (l.length+1) vau (some cap))] [.cells w2,.gone] zH<|zZ [(6,an vau (l.take i++x::l.drop i) vas)] 0 rfl ⟨.inr (by rw[sB,hqn];exact .buf rfl (by rw[hfin];exact bg.refl (aA vat _)) (by rw[hw2l];((try simp only[vau] at *)<;>omega))),trivial⟩<|(zE) ?_;exact zP [.tmp 6]):p:=h
open Go.Proofs.Tryz renaming func195 -> var in
open Go.Proofs renaming ae -> vas,U5 -> vav in
open Go.Ev renaming vf -> vau in
def DD(l:List ai)(i:Nat)(x:ai)(hi:i<=l.length)(hne:0<l.length)(hlen:l.length<=100000):SC prog 195 [.buf 0 l.length 14 none,qy i,.buf 1 1 14 (some 1)] [.cells (l.flatMap ae),.cells (ae x)] [0,1] (λr S'=>r=an 14 (l.take i++x::l.drop i) ae/\S'=[.gone,.gone]):=by
 have vat:=@dk;have vaw:=@BR;have vax:=@DU;have vay:=@PE;exact Rc
def DW:Cj prog 265:=by
 intro w a b la ca lb cb tA tB kA kB h1 h2 h3 h4 h5 h6
 rw[run_callFunc_extern Tryz.func265 zW zW zW (e:=Extern.SlicesOverlaps.overlaps #[50,50] #[4]) zW,
  Lib.run_overlaps_apart w 50 4 198 zW 2 (λw=>bM zW) a b la ca lb cb h1 tA tB kA kB h2 h3 h4 h5 h6]
 rfl
def AZ(x:bB):SC prog 200 [.e0 2,qy 0,.buf 0 1 2 (some 1)] [.cells (aH x)] [0] (λr S'=>r=an 2 [x] aH/\S'=[.gone]):=by
 refine OH 95 Tryz.func200 ?_;have hkc:=λo:Nat=>bR (o:=o) (gL x);have hon:(aH x).all e9=true:=rfl;rw[pe] at hkc hon ⊢
 refine(oa)<|(oa)<|(kY)<|(wY)<|(aw (bq hkc hon))<|zA [(6,.buf 1 1 2 none)] [.gone,.cells (aH x)] (bX @pe) ?_;refine zZ [(6,an 2 [x] aH)] 1 rfl ⟨.inr (.buf rfl (by rw[flatMap_cons,flatMap_nil,append_nil];exact bg.refl (gL x)) (by show 1*2<=2;decide)),trivial⟩<|zA [(6,an 2 [x] aH)] [.gone] zH<|(zE) ?_;exact zP [.tmp 6]
open Go.Proofs renaming bB -> vao,aH -> vap in
open Go.Ev renaming J2 -> vaq in
def PF(l:List bB)(i:Nat)(x:bB)(hi:i<l.length)(A:List SV):
 (((l.flatMap aH++A).take ((i+1)*2)++((l.drop i).flatMap aH++(l.flatMap aH++A).drop ((i+1)*2+(l.length-i)*2))).take (i*2)++(aH x++((l.flatMap aH++A).take ((i+1)*2)++((l.drop i).flatMap aH++(l.flatMap aH++A).drop ((i+1)*2+(l.length-i)*2))).drop (i*2+2))).take ((l.length+1)*2)=(l.take i++x::l.drop i).flatMap aH:=by
 exact Rb
open Go.Proofs.Tryz renaming func200 -> var in
open Go.Proofs renaming aH -> vas,U6 -> vav in
open Go.Ev renaming J2 -> vau in
def DE(l:List bB)(i:Nat)(x:bB)(hi:i<=l.length)(hne:0<l.length)(hlen:l.length<=100000):SC prog 200 [.buf 0 l.length 2 none,qy i,.buf 1 1 2 (some 1)] [.cells (l.flatMap aH),.cells (aH x)] [0,1] (λr S'=>r=an 2 (l.take i++x::l.drop i) aH/\S'=[.gone,.gone]):=by
 have vat:=@gL;have vaw:=@BT;have vax:=@DW;have vay:=@PF;exact Rc
def nv{a:List Nat}:∀{l:List (List Nat)},eu (a::l)=true->∀x∈l,fe a x=true
 | [],_,x,h=>by simp at h
 | b::r,ho,x,h=>by
  rw[eu,ad] at ho
  rcases t7 h with rfl | h
  ·exact ho.1
  ·exact fp ho.1 (nv ho.2 x h)
def iA{a:List Nat}{l:List (List Nat)}(h:eu (a::l)=true):eu l=true:=by
 cases l with
 | nil=>rfl
 | cons b r=>rw[eu,ad] at h;exact h.2
def qK{α:Type}(key:α->List Nat):∀{l:List α},eu (l.map key)=true->∀k:List Nat,(l.takeWhile λx=>fe (key x) k).length<=l.length/\∀(a:Nat) (x:α),l[a]?=some x->(fe (key x) k=true↔a<(l.takeWhile λx=>fe (key x) k).length)
 | [],_,k=>⟨ac _,λa x h=>by simp at h⟩
 | y::l,ho,k=>by
  have ih:=qK key (iA ho) k;have hlt:=nv (a:=key y) (l:=l.map key) ho
  cases h:fe (key y) k with
  | true=>
   rw[d3,ut h,jp,jp];refine⟨ey ih.1,λa x hx=>?_⟩
   cases a with
   | zero=>simp only[c6,rc] at hx;subst hx;exact⟨λ_=>Nat.succ_pos _,λ_=>h⟩
   | succ a=>simp only[bt] at hx;rw[ih.2 a x hx];exact⟨Nat.succ_lt_succ,Nat.lt_of_succ_lt_succ⟩
  | false=>
   rw[d3,v6 (by rw[h];decide),i7];refine⟨b5 _,λa x hx=>⟨λhh=>?_,λhh=>un hh (co _)⟩⟩;exfalso
   cases a with
   | zero=>simp only[c6,rc] at hx;subst hx;rw[h] at hh;cases hh
   | succ a=>
    simp only[bt] at hx;have:=fp (hlt _ (cv (aU hx))) hh;rw[h] at this;cases this
def nw(l:List ai)(k:List Nat):Nat:=(l.takeWhile λx=>fe (ai.name x) k).length
def cg(l:List ai)(x:ai):List ai:=if gn l (ai.name x) (nw l (ai.name x))=true then l.set (nw l (ai.name x)) x else l.take (nw l (ai.name x))++x::l.drop (nw l (ai.name x))
def LC{l:List ai}(ho:eu (l.map ai.name)=true)(k:List Nat):Bc l k (nw l k):=
 ⟨(qK ai.name ho k).1,(qK ai.name ho k).2⟩
def wQ(y:ai)(k:List Nat){g:FuncId}{cap:List SV}(hcap:bW cap=true)(hk:PC prog g ([.ag (ae y)]++cap) (·=ah (ai.name y))):PC prog 194 [.ag (ae y),ah k,.ip [.fn g [] cap]] (·=ab (wC (ai.name y) k)):=by
 refine pB 11 Tryz.func194 ?_;have hkc:=λo:Nat=>bR (o:=o) (dk y);have hxl:(ae y).length=14:=rfl;have hxt:(ae y).take 14=ae y:=rfl
 exact(aw hkc)<|(fb (bq hxl hxt))<|(zK hk (hwk:=bg.refl (mE (by simp only[bW,mg,dk];rfl) hcap)))<|(zQ)<|(zK (rU (ai.name y) k))<|(zR)<|zo [.tmp 5]
def Re{p:Prop} (h:p:=by
  refine pB 32 vaz ?_;have hkc:=λo:Nat=>bR (o:=o) (va0 x);have hkl:=λo:Nat=>bC (enc:=va1) va0 o l;have hkp:=λo:Nat=>bR (o:=o) hcap;have hxl:(va1 x).length=va2:=rfl;simp only[va2] at hxl;have hxt:(va1 x).take va2=va1 x:=rfl;simp only[va2] at hxt;have hon:(va1 x).all e9=true:=rfl;have hnk:∀o:Nat,aY o (.fn g [] cap)=.fn g [] cap:=λo=>uZ (by rw[mg,hcap];rfl);have hnc:∀o:Nat,e8 o cap=false:=λo=>bV hcap;have hnx:∀o:Nat,e8 o (va1 x)=false:=λo=>bV (va0 x)
  have hgf:bW [SV.fn g [] cap]=true:=by rw[bW,mg,hcap];rfl
  have hbl:∀B:Nat,hY B (l.flatMap va1)=true:=λB=>bI (aA va0 l);have hrl:∀r:Nat->Nat,mn r (l.flatMap va1)=l.flatMap va1:=λr=>bn (aA va0 l);have hbc:∀B:Nat,hY B (va1 x)=true:=λB=>bI (va0 x);have hrc:∀r:Nat->Nat,mn r (va1 x)=va1 x:=λr=>bn (va0 x);have hbq:∀(B:Nat) (q:List va3),hY B (q.flatMap va1)=true:=λB q=>bI (aA va0 q);have hrq:∀(r:Nat->Nat) (q:List va3),mn r (q.flatMap va1)=q.flatMap va1:=λr q=>bn (aA va0 q);have hpart:=va4 ho (va5 x);have hbs:=va6 l hlen (g:=va7) (cap:=[.ip [.fn g [] cap]]) rfl (va5 x) _ (λy _=>va8 y (va5 x) hcap (hk y)) hpart;generalize hpos:va9 l (va5 x)=pos at hpart hbs
  have hput:vba l x=if vbb l (va5 x) pos=true then l.set pos x else l.take pos++x::l.drop pos:=by rw[vba,hpos]
  refine(aw (gm hkc hnk hnc hnx))<|(fb (bq hxl hxt))<|(zK (hk x) (hwk:=bg.refl (mE (by simp only[bW,mg,va0];rfl) hcap)))<|(zQ)<|(zK hbs (hwk:=.cons (.sl _ _ _) (.cons (.a _) (.cons (.fn .nil (.cons (.ptr rfl (bg.refl hgf) (Nat.zero_le _)) .nil)) .nil))))<|(zR)<|(zC) ?_
  by_cases hne:l=[]
  ·subst hne
   have hf0:vbb [] (va5 x) pos=false:=by unfold vbb;rw[List.getElem?_nil]
   have hp0:pos=0:=Nat.le_zero.1 hpart.le;rw[hf0] at hput ⊢;subst hp0
   refine zS [] (gm hkc hnk hnc hnx) vbc ?_;refine(zR)<|(Ec)<|(fb (xX hxl hxt hkc hnk hnc hnx)) ?_;refine zS [2] (gm hkc hnk hnc hnx) (vbd x) ?_;exact(zR)<|zo [.tmp 6] (r:=an va2 [x] va1) (hw:=zv) (hq:=by rw[hput];rfl)
  have hs:0<l.length:=Nat.pos_of_ne_zero (λe=>hne (t8 e))
  refine zS [] (EG hkc hnk hnc hnx hkl hbl hrl) (vbe l (by ((try simp only[va2,va7] at *)<;>omega)) hne) ?_;refine(zR)<|(zV) ?_
  cases hfd:vbb l (va5 x) pos
  ·rw[hfd,v6 ii] at hput
   refine(zN)<|(fb (EG hxl hxt hkc hnk hnc hnx hkl)) ?_;refine zS [3,4] (bq (MW hkc hnk hnc hnx hkl hbl hrl hrc hbc) (bq hrq hbq)) (vbf l pos x hpart.le hs hlen) ?_;exact(zR)<|zo [.tmp 6] (r:=an va2 (l.take pos++x::l.drop pos) va1) (hw:=zv) (hq:=by rw[hput])
  ·rw[hfd,ut rfl] at hput;refine(zY) ?_
   have hlt:pos<l.length:=by
    apply Decidable.byContradiction;intro hn;unfold vbb at hfd;rw[List.getElem?_eq_none (by ((try simp only[va2,va7] at *)<;>omega))] at hfd;cases hfd
   have hcl:(l.flatMap va1).length=l.length*va2:=aZ (enc:=va1) (e:=va2) (λ_=>rfl) l;simp only[va2] at hcl;have hst:=q9 (enc:=va1) (e:=va2) (λ_=>rfl) x hlt
   refine(aw (EG hlt hxl hxt hcl (show pos*va2+va2<=l.length*va2 by ((try simp only[va2,va7] at *)<;>omega)) hon hst))<|(zV) ?_
   have hsl:(l.set pos x).length=l.length:=List.length_set
   exact zo [.tmp 6] (r:=.sl l.length va2 ((l.set pos x).flatMap va1)) (hw:=.buf rfl (by rw[<-hsl,ej (enc:=va1) (e:=va2) (λ_=>rfl)];exact bg.refl (aA va0 _)) (by rw[aZ (enc:=va1) (e:=va2) (λ_=>rfl),hsl];exact Nat.le_refl _)) (hq:=by rw[hput,an,hsl])):p:=h
open Go.Proofs.Tryz renaming func110 -> vaz in
open Go.Proofs renaming ae -> va1,ai -> va3,nw -> va9,cg -> vba,gn -> vbb in
open Go.Ev renaming vf -> va2,Qd -> va7 in
open Go.Proofs.ai renaming name -> va5 in
def DX(l:List ai)(hlen:l.length<=100000)(x:ai){g:FuncId}{cap:List SV}(hcap:bW cap=true)(hk:∀y,PC prog g ([.ag (ae y)]++cap) (·=ah (ai.name y)))(ho:eu (l.map ai.name)=true):
 PC prog 110 [an 14 l ae,.ag (ae x),.fn g [] cap] (·=an 14 (Proofs.cg l x) ae):=by
 have va0:=@dk;have va4:=@LC;have va6:=@Gi;have va8:=@wQ;have vbc:=@wL;have vbd:=@AY;have vbe:=@pT;have vbf:=@DD;exact Re
def ny(l:List bB)(k:List Nat):Nat:=(l.takeWhile λx=>fe (bB.key x) k).length
def gz(l:List bB)(x:bB):List bB:=if ie l (bB.key x) (ny l (bB.key x))=true then l.set (ny l (bB.key x)) x else l.take (ny l (bB.key x))++x::l.drop (ny l (bB.key x))
def LD{l:List bB}(ho:eu (l.map bB.key)=true)(k:List Nat):Bd l k (ny l k):=
 ⟨(qK bB.key ho k).1,(qK bB.key ho k).2⟩
def wR(y:bB)(k:List Nat){g:FuncId}{cap:List SV}(hcap:bW cap=true)(hk:PC prog g ([.ag (aH y)]++cap) (·=ah (bB.key y))):PC prog 198 [.ag (aH y),ah k,.ip [.fn g [] cap]] (·=ab (wC (bB.key y) k)):=by
 refine pB 11 Tryz.func198 ?_;have hkc:=λo:Nat=>bR (o:=o) (gL y);have hxl:(aH y).length=2:=rfl;have hxt:(aH y).take 2=aH y:=rfl
 exact(aw hkc)<|(fb (bq hxl hxt))<|(zK hk (hwk:=bg.refl (mE (by simp only[bW,mg,gL];rfl) hcap)))<|(zQ)<|(zK (rU (bB.key y) k))<|(zR)<|zo [.tmp 5]
open Go.Proofs.Tryz renaming func118 -> vaz in
open Go.Proofs renaming aH -> va1,bB -> va3,ny -> va9,gz -> vba,ie -> vbb in
open Go.Ev renaming J2 -> va2,Qe -> va7 in
open Go.Proofs.bB renaming key -> va5 in
def DY(l:List bB)(hlen:l.length<=100000)(x:bB){g:FuncId}{cap:List SV}(hcap:bW cap=true)(hk:∀y,PC prog g ([.ag (aH y)]++cap) (·=ah (bB.key y)))(ho:eu (l.map bB.key)=true):
 PC prog 118 [an 2 l aH,.ag (aH x),.fn g [] cap] (·=an 2 (Proofs.gz l x) aH):=by
 have va0:=@gL;have va4:=@LD;have va6:=@Gj;have va8:=@wR;have vbc:=@wM;have vbd:=@AZ;have vbe:=@wO;have vbf:=@DE;exact Re
open Go.Proofs.Tryz renaming func196 -> vaa in
open Go.Ev renaming vf -> vab in
open Go.Proofs renaming ae -> vac in
def DH{l:List (ai)}(p:ai->Bool){fid:FuncId}{first cap:List SV}(hlen:l.length<=1000000)(hp:∀x∈l,PC prog fid ((first++[.ag (ae x)])++cap) (·=ak (p x)))(hg:bW first=true/\bW cap=true):PC prog 196 [an 14 l ae,.fn fid first cap] (·=ab (fR p l)):=by
 have vad:=@ae.eq_1;exact JH
def ue{l:List (ai)}(p:ai->Bool){fid:FuncId}{first cap:List SV}(hlen:l.length<=1000000)(hp:∀x∈l,PC prog fid ((first++[.ag (ae x)])++cap) (·=ak (p x)))(hg:bW first=true/\bW cap=true):PC prog 115 [an 14 l ae,.fn fid first cap] (·=ak (l.any p)):=by
 refine pB 9 Tryz.func115 ?_;exact(jt)<|(zK (DH p hlen hp hg) (hwk:=.cons (Wk.sl _ _ _) (.cons (.fn (bg.refl hg.1) (bg.refl hg.2)) .nil)))<|(zR)<|zo [.tmp 4] (hq:=by rw[nq])
def jZ(r:List ai×Int):SV:=.cm [.ag [an 14 r.1 ae],ab r.2]
def c8(k:Int):PC prog 112 [ab k] (·=jZ ([],k)):=by
 refine pB 6 Tryz.func112 ?_;exact(oa)<|jW [.cell 2 46,.tmp 3] (r:=.cm [.ag [.sl 0 14 []],ab k]) (hw:=zv)
def A1(p:ai):PC prog 111 [.ag (ae p)] (·=ah p.name):=by
 refine pB 5 Tryz.func111 ?_;exact(aw @ae.eq_1)<|(zV)<|zo [.tmp 2]
def A2(p:bB):PC prog 119 [.ag (aH p)] (·=ah p.key):=by
 refine pB 5 Tryz.func119 ?_;exact(aw @aH.eq_1)<|(zV)<|zo [.tmp 2]
def fK(ps:List ai)(hlen:ps.length<=100000)(ho:eu (ps.map ai.name)=true)(p:ai):PC prog 109 [.ag (ae p),.ip [an 14 ps ae]] (·=jZ (Proofs.cg ps p,0)):=by
 refine pB 10 Tryz.func109 ?_;have hput:=DX ps hlen p (g:=111) (cap:=[]) rfl A1 ho;rw[dQ] at hput ⊢
 exact(jt)<|(zK hput (hfl:=.inr (bg.refl rfl)))<|(zR)<|jW [.cell 3 46,.tmp 4]
def Gu(e:bu)(q:ai):PC prog 117 [.ag (ae q),.ip (aq e)] (·=ak (decide (q.aR=e.aR)&&decide (q.slot=e.slot))):=by
 refine pB 16 Tryz.func117 ?_;refine(aw (bq @ae.eq_1 @aq.eq_1)) ?_;cases h:decide (q.aR=e.aR)
 ·exact(aw h)<|zo [.tmp 3]
 ·exact(aw h)<|zo [.tmp 3]
def Gw(p q:ai):PC prog 120 [.ag (ae q),.ip (ae p)] (·=ak (decide (q.aR=p.name))):=by
 refine pB 9 Tryz.func120 ?_;exact(aw @ae.eq_1)<|(zV)<|zo [.tmp 3]
def ug(ps:List ai)(hlen:ps.length<=1000000)(d:ai->Bool){g:FuncId}{cap:List SV}(hcap:bW cap=true)(hp:∀q∈ps,PC prog g ([.ag (ae q)]++cap) (·=ak (d q))):PC prog 114 [.fn g [] cap,.ip [an 14 ps ae]] (·=ak (ps.any d)):=by
 refine pB 8 Tryz.func114 ?_;have h:=ue (l:=ps) d (fid:=g) (first:=[]) (cap:=cap) hlen hp ⟨rfl,hcap⟩
 exact(jt)<|(zK h (hwk:=bg.cons (Wk.sl _ _ _) (.cons (.fn .nil (bg.refl hcap)) .nil)))<|(zR)<|zo [.tmp 3]
def nu(e:bu):ai:=⟨e.part,e.kind,[],[],e.day,e.day,false,[],0,0,0,0,0,0⟩
def yM(c:List aL)(ps:List ai)(e:bu)(is:Bool):List ai×Int:=
 if is=true then ([],3) else if (dg c e.kind).isNone=true then ([],4) else if ((ps.length:Int)=20000) then ([],7) else (cg ps (nu e),0)
def wG(p:ai)(e:bu):ai:={ p with aR:=e.aR,slot:=e.slot }
def yV(p:ai):ai:={ p with aR:=[],slot:=[] }
def ll(p:ai)(e:bu):ai:={ p with since:=dN p.since e.day,l1:=0,l2:=0,l3:=0,l4:=0,l5:=0,l6:=0 }
def pS(p:ai)(e:bu):ai:={ p with props:=gz p.props ⟨e.key,e.value⟩ }
def qn(p:ai):ai:={ p with bo:=true }
def iW(c:List aL)(ps:List ai)(e:bu)(p h:ai):List ai×Int:=
 let k:=(dg c p.kind).getD aL.zero
 if e.op=2 then (if (k.vehicle||!lC c h.kind e.slot p.kind)=true then ([],4) else if p.aR≠[] then ([],5) else
  if (ps.any λq=>decide (q.aR=e.aR)&&decide (q.slot=e.slot))=true then ([],6) else (cg ps (wG p e),0))
 else if e.op=3 then (if p.aR=[] then ([],5) else (cg ps (yV p),0))
 else if e.op=4 then (if k.vehicle=true then (cg ps p,0) else ([],4))
 else if e.op=5 then (cg ps (ll p e),0)
 else if e.op=6 then (if 60<((Proofs.gz p.props ⟨e.key,e.value⟩).length:Int) then ([],7) else (cg ps (pS p e),0))
 else if e.op=7 then (if p.aR≠[] then ([],5) else if (ps.any λq=>decide (q.aR=p.name))=true then ([],5) else (cg ps (qn p),0))
 else (cg ps p,0)
def aO(c:List aL)(ps:List ai)(e:bu):List ai×Int:=
 if dF c ps=true then (if dE e=true then
  (if e.op=1 then yM c ps e (pn ps (mX 0 [] ps) e.part).isSome else
   match pn ps (mX 0 [] ps) e.part,(if e.op=2 then pn ps (mX 0 [] ps) e.aR else pn ps (mX 0 [] ps) e.part) with
   | some p,some h=>if (p.bo||h.bo)=true then ([],5) else iW c ps e p h
   | _,_=>([],2))
  else ([],1)) else ([],1)
def qz{c:List aL}{ps:List ai}{m:List (List Nat×Int)}:∀{taken:List (fF×Bool)} {l:List ai},fa c ps m taken l=true->∀p∈l,dC c p=true
 | _,[],_,p,hp=>by simp at hp
 | taken,q::r,h,p,hp=>by
  rw[fa,ad,ad] at h
  rcases t7 hp with rfl | hp
  ·exact h.1
  ·cases hd:decide (q.aR=[]) with
   | true=>rw[hd,ar] at h;exact qz h.2.2 p hp
   | false=>rw[hd,az,ad] at h;exact qz h.2.2.2 p hp
def Jk{c:List aL}{ps:List ai}(h:dF c ps=true){p:ai}(hp:p∈ps):p.props.length<=60/\eu (p.props.map bB.key)=true:=by
 unfold dF at h;simp only[ad] at h;have:=qz h.2.2.2 p hp;unfold dC at this;simp only[ad,b8,wn] at this;refine⟨by have:=this.2.2.2.2.2.1;omega,this.2.2.2.2.2.2.2.1⟩
def zJ(c:List aL)(ps:List ai)(e:bu)(hc:mr c)(hlen:ps.length<=100000)(hps:∀p∈ps,fj p)(he:lK e):PC prog 48 [.ag [an 3 c ao],.ag [an 14 ps ae],.ag (aq e)] (·=jZ (aO c ps e)):=by
 have hlen1:ps.length<=1000000:=by omega
 have hct:∀k∈c,k.bJ.length<=1000000/\∀s∈k.bJ,s.kinds.length<=1000000:=λk hk=>⟨(hc.kind k hk).2,λs hs=>(hc.slot k hk s hs).2⟩;have hy:RD ps (mX 0 [] ps):=Co i5 (Eb ps);have hvE:=GV e he;refine pB 235 Tryz.func48 ?_;rw[dj] at hvE ⊢
 refine(jt)<|(zK (GW c ps hc hlen1 hps)) ?_
 cases h1:Proofs.dF c ps
 ·exact(zR)<|(cF)<|jW [.cell 6 46,.tmp 7] (r:=.cm [.ag [.sl 0 14 []],ab 1]) (hw:=zv) (hq:=by rw[show aO c ps e=([],1) by simp[aO,h1]];rfl)
 refine(zQ)<|(zK hvE) ?_
 cases h2:dE e
 ·exact(zR)<|(cF)<|jW [.cell 6 46,.tmp 7] (r:=.cm [.ag [.sl 0 14 []],ab 1]) (hw:=zv) (hq:=by rw[show aO c ps e=([],1) by simp[aO,h1,h2]];rfl)
 refine(zR)<|(zN) ?_
 have ho:eu (ps.map ai.name)=true:=by
  unfold Proofs.dF at h1;simp only[ad] at h1;exact h1.2.2.1
 refine zA [(3,.ptr 0 0),(4,.ptr 1 0),(5,.ptr 2 0),(6,.ptr 3 0),(7,ab 0)] [.cells [an 3 c ao],.cells [an 14 ps ae],.cells [ab e.op,ab e.day,ah e.part,ah e.kind,ah e.aR,ah e.slot,ah e.key,ah e.value,ab e.u1,ab e.u2,ab e.u3,ab e.u4,ab e.u5,ab e.u6],.cells [.a (.slice none 0 0 (some 0))]] zH<|zZ [(3,.ip [an 3 c ao]),(4,.ptr 1 0),(5,.ptr 2 0),(6,.ptr 3 0),(7,ab 0)] 0 rfl (gu @an.eq_1)<|zZ [(3,.ip [an 3 c ao]),(4,.ip [an 14 ps ae]),(5,.ptr 2 0),(6,.ptr 3 0),(7,ab 0)] 1 rfl (gu @an.eq_1)<|zZ [(3,.ip [an 3 c ao]),(4,.ip [an 14 ps ae]),(5,.ip [ab e.op,ab e.day,ah e.part,ah e.kind,ah e.aR,ah e.slot,ah e.key,ah e.value,ab e.u1,ab e.u2,ab e.u3,ab e.u4,ab e.u5,ab e.u6]),(6,.ptr 3 0),(7,ab 0)] 2 rfl (gu @an.eq_1) ?_
 (try change aE _ _ _ _ _)
 refine(zC)<|(zK (rz ps hlen1) (hfl:=.inr (bg.refl rfl))) ?_
 generalize hM:mX 0 [] ps=M at hy
 refine(cJ (bq @Ce.eq_1 hM))<|(oa)<|(zC) ?_
 have hG:=mU ps M e.part hy
 cases hg:pn ps M e.part with
 | none=>
  rw[hg] at hG
  refine(zK hG (hfl:=.inr (bg.refl rfl)))<|(cJ (cG @iV.eq_1 @ae.eq_1 @ai.zero.eq_1)) ?_
  by_cases ho1:e.op=1
  ·refine(aw (wl ho1))<|(cF)<|(Mj) ?_
   have hF:=jk c e.kind hc.len
   cases hf:dg c e.kind with
   | none=>
    rw[hf] at hF
    exact(zK hF (hfl:=.inr (bg.refl rfl)))<|(cJ (cG @iV.eq_1 @ao.eq_1 @aL.zero.eq_1))<|(wY)<|(zC)<|(zK (c8 _) (hfl:=.inr (bg.refl rfl)))<|(cJ @an.eq_1)<|jW [.cell 6 46,.tmp 7] (hq:=by rw[show aO c ps e=([],4) by simp[aO,yM,h1,h2,hM,hg,ho1,hf]];rfl)
   | some k=>
    rw[hf] at hF
    refine(zK hF (hfl:=.inr (bg.refl rfl)))<|(cJ (bq @iV.eq_1 @ao.eq_1))<|(Ec) ?_
    by_cases hl:(ps.length:Int)=20000
    ·exact(aw (wl hl))<|(zY)<|(zC)<|(zK (c8 _) (hfl:=.inr (bg.refl rfl)))<|(cJ @an.eq_1)<|jW [.cell 6 46,.tmp 7] (hq:=by rw[show aO c ps e=([],7) by simp[aO,yM,h1,h2,hM,hg,ho1,hf,hl]];rfl)
    ·refine(aw (wd hl))<|(zN) ?_
     have hnext:=fK ps hlen ho (nu e);simp only[dQ,nu] at hnext
     exact(zC)<|(zK hnext (hfl:=.inr zw))<|(cJ (bq @jZ.eq_1 @an.eq_1))<|jW [.cell 6 46,.tmp 7] (hq:=by rw[show aO c ps e=(Proofs.cg ps (nu e),0) by simp[aO,yM,h1,h2,hM,hg,ho1,hf,hl]];rfl)
  by_cases ho2:e.op=2
  ·refine(aw (wd ho1))<|(kY)<|(aw (wl ho2))<|(zY)<|(zC) ?_
   have hH:=mU ps M e.aR hy
   obtain⟨q,b,hq⟩:∃(q:ai) (b:Bool),iV ae ai.zero (pn ps M e.aR)=.cm [.ag (ae q),ak b]:=by
    cases pn ps M e.aR with
    | none=>exact⟨ai.zero,false,rfl⟩
    | some q=>exact⟨q,true,rfl⟩
   rw[hq] at hH
   exact(zK hH (hfl:=.inr (bg.refl rfl)))<|(cJ @ae.eq_1)<|(wY)<|(zC)<|(zK (c8 _) (hfl:=.inr (bg.refl rfl)))<|(cJ @an.eq_1)<|jW [.cell 6 46,.tmp 7] (hq:=by rw[show aO c ps e=([],2) by simp[aO,h1,h2,hM,hg,ho1,ho2]];rfl)
  ·exact(aw (wd ho1))<|(kY)<|(aw (wd ho2))<|(kY)<|(zY)<|(zC)<|(zK (c8 _) (hfl:=.inr (bg.refl rfl)))<|(cJ @an.eq_1)<|jW [.cell 6 46,.tmp 7] (hq:=by rw[show aO c ps e=([],2) by simp[aO,h1,h2,hM,hg,ho1,ho2]];rfl)
 | some p=>
  rw[hg] at hG
  refine(zK hG (hfl:=.inr (bg.refl rfl)))<|(cJ (bq @iV.eq_1 @ae.eq_1)) ?_
  by_cases ho1:e.op=1
  ·exact(aw (wl ho1))<|(cF)<|(zY)<|(zC)<|(zK (c8 _) (hfl:=.inr (bg.refl rfl)))<|(cJ @an.eq_1)<|jW [.cell 6 46,.tmp 7] (hq:=by rw[show aO c ps e=([],3) by simp[aO,yM,h1,h2,hM,hg,ho1]];rfl)
  refine zA [(3,.ip [an 3 c ao]),(4,.ip [an 14 ps ae]),(5,.ip [ab e.op,ab e.day,ah e.part,ah e.kind,ah e.aR,ah e.slot,ah e.key,ah e.value,ab e.u1,ab e.u2,ab e.u3,ab e.u4,ab e.u5,ab e.u6]),(6,.ptr 3 0),(7,ab 0),(8,.ptr 4 0),(9,.fn 109 [] [.ip [an 14 ps ae]]),(10,.fn 112 [] []),(11,.ptr 5 0),(12,ak true)] [.gone,.gone,.gone,.cells [.a (.slice none 0 0 (some 0))],.cells [an 14 ps ae,lS AV.str ab M],.cells [ah p.name,ah p.kind,ah p.aR,ah p.slot,ab p.made,ab p.since,ak p.bo,an 2 p.props aH,ab p.l1,ab p.l2,ab p.l3,ab p.l4,ab p.l5,ab p.l6]] zH<|(aw (wd ho1))<|(kY) ?_
  by_cases ho2:e.op=2
  ·refine(aw (wl ho2))<|(zY)<|(zC) ?_
   have hH:=mU ps M e.aR hy
   cases hh:pn ps M e.aR with
   | none=>
    rw[hh] at hH
    exact(zK hH (hfl:=.inr (bg.refl rfl)))<|(cJ (cG @iV.eq_1 @ae.eq_1 @ai.zero.eq_1))<|(wY)<|(zC)<|(zK (c8 _) (hfl:=.inr (bg.refl rfl)))<|(cJ @an.eq_1)<|jW [.cell 6 46,.tmp 7] (hq:=by rw[show aO c ps e=([],2) by simp[aO,h1,h2,hM,hg,ho1,ho2,hh]];rfl)
   | some h=>
    rw[hh] at hH
    refine(zK hH (hfl:=.inr (bg.refl rfl)))<|(cJ (bq @iV.eq_1 @ae.eq_1))<|(Ec) ?_
    cases f1:p.bo;rotate_left
    ·exact(aw f1)<|(zY)<|(zC)<|(zK (c8 _) (hfl:=.inr (bg.refl rfl)))<|(cJ @an.eq_1)<|jW [.cell 6 46,.tmp 7] (hq:=by rw[show aO c ps e=([],5) by simp[aO,h1,h2,hM,hg,ho1,ho2,hh,f1]];rfl)
    cases f2:h.bo;rotate_left
    ·exact(aw (bq f1 f2))<|(zY)<|(zC)<|(zK (c8 _) (hfl:=.inr (bg.refl rfl)))<|(cJ @an.eq_1)<|jW [.cell 6 46,.tmp 7] (hq:=by rw[show aO c ps e=([],5) by simp[aO,h1,h2,hM,hg,ho1,ho2,hh,f1,f2]];rfl)
    refine(aw (bq f1 f2))<|(kY)<|(zC) ?_
    have hF:=jk c p.kind hc.len
    obtain⟨kd,b,hq,hkd⟩:∃(kd:aL) (b:Bool),iV ao aL.zero (dg c p.kind)=.cm [.ag (ao kd),ak b]/\(dg c p.kind).getD aL.zero=kd:=by
     cases dg c p.kind with
     | none=>exact⟨aL.zero,false,rfl,rfl⟩
     | some q=>exact⟨q,true,rfl,rfl⟩
    rw[hq] at hF
    refine(zK hF (hfl:=.inr (bg.refl rfl)))<|(cJ @ao.eq_1)<|(zV)<|zA [(3,.ip [an 3 c ao]),(4,.ip [an 14 ps ae]),(5,.ip [ab e.op,ab e.day,ah e.part,ah e.kind,ah e.aR,ah e.slot,ah e.key,ah e.value,ab e.u1,ab e.u2,ab e.u3,ab e.u4,ab e.u5,ab e.u6]),(6,.ptr 3 0),(7,ab 0),(9,.fn 109 [] [.ip [an 14 ps ae]]),(10,.fn 112 [] []),(11,.ptr 5 0),(15,.ptr 6 0),(17,.fn 114 [] [.ip [an 14 ps ae]]),(18,.ptr 7 0),(123,ab e.op)] [.gone,.gone,.gone,.cells [.a (.slice none 0 0 (some 0))],.gone,.cells [ah p.name,ah p.kind,ah p.aR,ah p.slot,ab p.made,ab p.since,ak false,an 2 p.props aH,ab p.l1,ab p.l2,ab p.l3,ab p.l4,ab p.l5,ab p.l6],.cells [ah h.name,ah h.kind,ah h.aR,ah h.slot,ab h.made,ab h.since,ak false,an 2 h.props aH,ab h.l1,ab h.l2,ab h.l3,ab h.l4,ab h.l5,ab h.l6],.cells [ah kd.name,ak kd.vehicle,an 3 kd.bJ bF]] (bX @ae.eq_1)<|(zB) ?_
    refine(aw (wl ho2))<|(gB) ?_
    cases g1:kd.vehicle;rotate_left
    ·exact(aw g1)<|(zY)<|(zC)<|(zK (c8 _) (hfl:=.inr (bg.refl rfl)))<|(cJ @an.eq_1)<|jW [.cell 6 46,.tmp 7] (hq:=by rw[show aO c ps e=([],4) by simp[aO,h1,h2,hM,hg,ho1,ho2,hh,f1,f2,iW,hkd,g1]];rfl)
    refine(fb g1)<|(zK (wj c h.kind e.slot p.kind hc.len hct)) ?_
    cases g2:Proofs.lC c h.kind e.slot p.kind
    ·exact(zR)<|(zY)<|(zC)<|(zK (c8 _) (hfl:=.inr (bg.refl rfl)))<|(cJ @an.eq_1)<|jW [.cell 6 46,.tmp 7] (hq:=by rw[show aO c ps e=([],4) by simp[aO,h1,h2,hM,hg,ho1,ho2,hh,f1,f2,iW,hkd,g1,g2]];rfl)
    refine(zR)<|(zN) ?_
    by_cases g3:p.aR=[];rotate_left
    ·exact(aw (wd g3))<|(zY)<|(zC)<|(zK (c8 _) (hfl:=.inr (bg.refl rfl)))<|(cJ @an.eq_1)<|jW [.cell 6 46,.tmp 7] (hq:=by rw[show aO c ps e=([],5) by simp[aO,h1,h2,hM,hg,ho1,ho2,hh,f1,f2,iW,hkd,g1,g2,g3]];rfl)
    refine(aw (wl g3))<|(Mj) ?_
    have hho:=ug ps hlen1 (λq=>decide (q.aR=e.aR)&&decide (q.slot=e.slot)) (g:=117) (cap:=[.ip [ab e.op,ab e.day,ah e.part,ah e.kind,ah e.aR,ah e.slot,ah e.key,ah e.value,ab e.u1,ab e.u2,ab e.u3,ab e.u4,ab e.u5,ab e.u6]]) rfl (λq _=>by rw[<-dj];exact Gu e q);refine(zK hho) ?_;cases g4:ps.any λq=>decide (q.aR=e.aR)&&decide (q.slot=e.slot);rotate_left
    ·exact(zR)<|(zY)<|(zC)<|(zK (c8 _) (hfl:=.inr (bg.refl rfl)))<|(cJ @an.eq_1)<|jW [.cell 6 46,.tmp 7] (hq:=by rw[show aO c ps e=([],6) by simp[aO,h1,h2,hM,hg,ho1,ho2,hh,f1,f2,iW,hkd,g1,g2,g3,g4,-cc]];rfl)
    refine(zR)<|(zN) ?_
    (try change aE _ _ _ _ _)
    refine(zs) ?_;refine oS [0,1,0,4,3,19,63,127] ?_;refine(qP) ?_;refine SD.e i4 rfl i4 rfl rfl i4 zl ?_;refine(qP) ?_;refine SD.e i4 rfl i4 rfl rfl i4 zl ?_;refine(zM) ?_
    (try change aE _ _ _ _ _)
    obtain⟨R,hR⟩:∃R,R=Proofs.cg ps (wG p e):=⟨_,rfl⟩;have hnext:=fK ps hlen ho (wG p e);rw[<-hR] at hnext;simp only[dQ,f1,wG,yV,ll,pS,qn] at hnext
    exact(zC)<|(zK hnext (hfl:=.inr zw))<|(cJ (bq @jZ.eq_1 @an.eq_1))<|jW [.cell 6 46,.tmp 7] (hq:=by rw[show aO c ps e=(R,0) by rw[hR];simp[aO,h1,h2,hM,hg,ho1,ho2,hh,f1,f2,iW,hkd,g1,g2,g3,g4,-cc,-ec]];rfl)
  ·refine(aw (wd ho2))<|(kY)<|(zN) ?_
   cases f1:p.bo;rotate_left
   ·exact(aw f1)<|(zY)<|(zC)<|(zK (c8 _) (hfl:=.inr (bg.refl rfl)))<|(cJ @an.eq_1)<|jW [.cell 6 46,.tmp 7] (hq:=by rw[show aO c ps e=([],5) by simp[aO,h1,h2,hM,hg,ho1,ho2,f1]];rfl)
   have f2:=f1
   refine(aw (bq f1 f2))<|(kY)<|(zC) ?_
   have hF:=jk c p.kind hc.len
   obtain⟨kd,b,hq,hkd⟩:∃(kd:aL) (b:Bool),iV ao aL.zero (dg c p.kind)=.cm [.ag (ao kd),ak b]/\(dg c p.kind).getD aL.zero=kd:=by
    cases dg c p.kind with
    | none=>exact⟨aL.zero,false,rfl,rfl⟩
    | some q=>exact⟨q,true,rfl,rfl⟩
   rw[hq] at hF
   refine(zK hF (hfl:=.inr (bg.refl rfl)))<|(cJ @ao.eq_1)<|(zV)<|zA [(3,.ip [an 3 c ao]),(4,.ip [an 14 ps ae]),(5,.ip [ab e.op,ab e.day,ah e.part,ah e.kind,ah e.aR,ah e.slot,ah e.key,ah e.value,ab e.u1,ab e.u2,ab e.u3,ab e.u4,ab e.u5,ab e.u6]),(6,.ptr 3 0),(7,ab 0),(9,.fn 109 [] [.ip [an 14 ps ae]]),(10,.fn 112 [] []),(11,.ptr 5 0),(15,.ptr 6 0),(17,.fn 114 [] [.ip [an 14 ps ae]]),(18,.ptr 7 0),(123,ab e.op)] [.gone,.gone,.gone,.cells [.a (.slice none 0 0 (some 0))],.gone,.cells [ah p.name,ah p.kind,ah p.aR,ah p.slot,ab p.made,ab p.since,ak false,an 2 p.props aH,ab p.l1,ab p.l2,ab p.l3,ab p.l4,ab p.l5,ab p.l6],.cells [ah p.name,ah p.kind,ah p.aR,ah p.slot,ab p.made,ab p.since,ak false,an 2 p.props aH,ab p.l1,ab p.l2,ab p.l3,ab p.l4,ab p.l5,ab p.l6],.cells [ah kd.name,ak kd.vehicle,an 3 kd.bJ bF]] (bX @ae.eq_1)<|(zB) ?_
   refine(aw (wd ho2))<|(zN) ?_
   by_cases ho3:e.op=3
   ·refine(aw (wl ho3))<|(zY) ?_
    by_cases g3:p.aR=[]
    ·exact(aw (wl g3))<|(zY)<|(zC)<|(zK (c8 _) (hfl:=.inr (bg.refl rfl)))<|(cJ @an.eq_1)<|jW [.cell 6 46,.tmp 7] (hq:=by rw[show aO c ps e=([],5) by simp[aO,h1,h2,hM,hg,ho1,ho2,f1,iW,hkd,ho3,g3]];rfl)
    refine(aw (wd g3))<|(kY) ?_
    (try change aE _ _ _ _ _)
    obtain⟨R,hR⟩:∃R,R=Proofs.cg ps (yV p):=⟨_,rfl⟩;have hnext:=fK ps hlen ho (yV p);rw[<-hR] at hnext;simp only[dQ,f1,wG,yV,ll,pS,qn] at hnext
    exact(zC)<|(zK hnext (hfl:=.inr zw))<|(cJ (bq @jZ.eq_1 @an.eq_1))<|jW [.cell 6 46,.tmp 7] (hq:=by rw[show aO c ps e=(R,0) by rw[hR];simp[aO,h1,h2,hM,hg,ho1,ho2,f1,iW,hkd,ho3,g3]];rfl)
   refine(aw (wd ho3))<|(zN) ?_
   by_cases ho4:e.op=4
   ·refine(aw (wl ho4))<|(zY) ?_
    cases g1:kd.vehicle
    ·exact(aw g1)<|(zY)<|(zC)<|(zK (c8 _) (hfl:=.inr (bg.refl rfl)))<|(cJ @an.eq_1)<|jW [.cell 6 46,.tmp 7] (hq:=by rw[show aO c ps e=([],4) by simp[aO,h1,h2,hM,hg,ho1,ho2,f1,iW,hkd,ho3,ho4,g1]];rfl)
    refine(aw g1)<|(zN) ?_
    (try change aE _ _ _ _ _)
    obtain⟨R,hR⟩:∃R,R=Proofs.cg ps p:=⟨_,rfl⟩;have hnext:=fK ps hlen ho p;rw[<-hR] at hnext;simp only[dQ,f1,wG,yV,ll,pS,qn] at hnext
    exact(zC)<|(zK hnext (hfl:=.inr zw))<|(cJ (bq @jZ.eq_1 @an.eq_1))<|jW [.cell 6 46,.tmp 7] (hq:=by rw[show aO c ps e=(R,0) by rw[hR];simp[aO,h1,h2,hM,hg,ho1,ho2,f1,iW,hkd,ho3,ho4,g1]];rfl)
   refine(aw (wd ho4))<|(zN) ?_
   by_cases ho5:e.op=5
   ·refine(aw (wl ho5))<|(zY)<|(aw @ff) ?_
    (try change aE _ _ _ _ _)
    obtain⟨R,hR⟩:∃R,R=Proofs.cg ps (ll p e):=⟨_,rfl⟩;have hnext:=fK ps hlen ho (ll p e);rw[<-hR] at hnext;simp only[dQ,f1,wG,yV,ll,pS,qn] at hnext
    exact(zC)<|(zK hnext (hfl:=.inr zw))<|(cJ (bq @jZ.eq_1 @an.eq_1))<|jW [.cell 6 46,.tmp 7] (hq:=by rw[show aO c ps e=(R,0) by rw[hR];simp[aO,h1,h2,hM,hg,ho1,ho2,f1,iW,hkd,ho3,ho4,ho5]];rfl)
   refine(aw (wd ho5))<|(zN) ?_
   by_cases ho6:e.op=6
   ·refine(aw (wl ho6))<|(zY) ?_
    have hpp:p∈ps:=by
     unfold pn at hg;split at hg
     ·exact aU hg
     ·cases hg
    have hpl:p.props.length<=60/\eu (p.props.map bB.key)=true:=Jk h1 hpp;have hput:=DY p.props i5 ⟨e.key,e.value⟩ (g:=119) (cap:=[]) rfl A2 hpl.2;rw[pe] at hput
    refine(zC)<|(zK hput (hfl:=.inr (bg.refl rfl)))<|(zR) ?_
    by_cases g3:60<((Proofs.gz p.props ⟨e.key,e.value⟩).length:Int)
    ·exact(aw (wl g3))<|(zY)<|(zC)<|(zK (c8 _) (hfl:=.inr (bg.refl rfl)))<|(cJ @an.eq_1)<|jW [.cell 6 46,.tmp 7] (hq:=by rw[show aO c ps e=([],7) by simp[aO,h1,h2,hM,hg,ho1,ho2,f1,iW,hkd,ho3,ho4,ho5,ho6,g3]];rfl)
    refine(aw (wd g3))<|(zN) ?_
    (try change aE _ _ _ _ _)
    obtain⟨R,hR⟩:∃R,R=Proofs.cg ps (pS p e):=⟨_,rfl⟩;have hnext:=fK ps hlen ho (pS p e);rw[<-hR] at hnext;simp only[dQ,f1,wG,yV,ll,pS,qn] at hnext
    exact(zC)<|(zK hnext (hfl:=.inr zw))<|(cJ (bq @jZ.eq_1 @an.eq_1))<|jW [.cell 6 46,.tmp 7] (hq:=by rw[show aO c ps e=(R,0) by rw[hR];simp[aO,h1,h2,hM,hg,ho1,ho2,f1,iW,hkd,ho3,ho4,ho5,ho6,g3]];rfl)
   refine(aw (wd ho6))<|(zN) ?_
   by_cases ho7:e.op=7
   ·refine(aw (wl ho7))<|(zY) ?_
    by_cases g3:p.aR=[];rotate_left
    ·exact(aw (wd g3))<|(zY)<|(zC)<|(zK (c8 _) (hfl:=.inr (bg.refl rfl)))<|(cJ @an.eq_1)<|jW [.cell 6 46,.tmp 7] (hq:=by rw[show aO c ps e=([],5) by simp[aO,h1,h2,hM,hg,ho1,ho2,f1,iW,hkd,ho3,ho4,ho5,ho6,ho7,g3]];rfl)
    refine(fb (wl g3)) ?_;have hho:=ug ps hlen1 (λq=>decide (q.aR=p.name)) (g:=120) (cap:=[.ip (ae p)]) rfl (λq _=>Gw p q);rw[dQ,f1] at hho;refine(zK hho (hwk:=zw)) ?_;cases g4:ps.any λq=>decide (q.aR=p.name);rotate_left
    ·exact(zR)<|(zY)<|(zC)<|(zK (c8 _) (hfl:=.inr (bg.refl rfl)))<|(cJ @an.eq_1)<|jW [.cell 6 46,.tmp 7] (hq:=by rw[show aO c ps e=([],5) by simp[aO,h1,h2,hM,hg,ho1,ho2,f1,iW,hkd,ho3,ho4,ho5,ho6,ho7,g3,g4,-cc]];rfl)
    refine(zR)<|(kY) ?_
    (try change aE _ _ _ _ _)
    obtain⟨R,hR⟩:∃R,R=Proofs.cg ps (qn p):=⟨_,rfl⟩;have hnext:=fK ps hlen ho (qn p);rw[<-hR] at hnext;simp only[dQ,f1,wG,yV,ll,pS,qn] at hnext
    exact(zC)<|(zK hnext (hfl:=.inr zw))<|(cJ (bq @jZ.eq_1 @an.eq_1))<|jW [.cell 6 46,.tmp 7] (hq:=by rw[show aO c ps e=(R,0) by rw[hR];simp[aO,h1,h2,hM,hg,ho1,ho2,f1,iW,hkd,ho3,ho4,ho5,ho6,ho7,g3,g4,-cc,-ec]];rfl)
   refine(aw (wd ho7))<|(zN) ?_
   (try change aE _ _ _ _ _)
   obtain⟨R,hR⟩:∃R,R=Proofs.cg ps p:=⟨_,rfl⟩;have hnext:=fK ps hlen ho p;rw[<-hR] at hnext;simp only[dQ,f1,wG,yV,ll,pS,qn] at hnext
   exact(zC)<|(zK hnext (hfl:=.inr zw))<|(cJ (bq @jZ.eq_1 @an.eq_1))<|jW [.cell 6 46,.tmp 7] (hq:=by rw[show aO c ps e=(R,0) by rw[hR];simp[aO,h1,h2,hM,hg,ho1,ho2,f1,iW,hkd,ho3,ho4,ho5,ho6,ho7]];rfl)
def sC{a b:List (List Nat)}(h:a.Perm b):dX a=dX b:=by
 have h1:(dX a).Pairwise λa b=>wI a b=true:=Ge a;have h2:(dX b).Pairwise λa b=>wI a b=true:=Ge b;have hp:(dX a).Perm (dX b):=((qE a).trans h).trans (qE b).symm;exact Perm.eq_of_pairwise (λa b _ _ h1 h2=>Fq h1 h2) h1 h2 hp
def Hi(ps:List ai)(m:List (List Nat×Int)):Prop:=(∀e∈m,∃(k:Nat) (x:ai),e.2=(k:Int)/\ps[k]?=some x/\x.name=e.1)/\(m.map (·.1)).Nodup
def kQ{K U:Type}[DecidableEq K]{k:K}{l:List (K×U)}:dx k l=true↔k∈l.map (·.1):=by
 unfold dx;simp only[cc,wp,mem_map];exact⟨λ⟨e,h1,h2⟩=>⟨e,h1,h2.symm⟩,λ⟨e,h1,h2⟩=>⟨e,h1,h2.symm⟩⟩
def Eu{ps:List ai}:∀{l:List ai} {i:Nat} {m:List (List Nat×Int)},ps.drop i=l->Hi ps m->Hi ps (mX i m l)
 | [],_,_,_,h=>h
 | p::r,i,m,hd,h=>by
  rw[mX]
  have hp:ps[i]?=some p:=by
   have:=rg (λl=>l[0]?) hd;simpa using this
  have hd2:ps.drop (i+1)=r:=by
   have:=rg (List.drop 1) hd;simpa using this
  refine Eu hd2 ?_
  cases hh:dx p.name m with
  | true=>exact h
  | false=>
   simp only[d7,if_false];rw[oJ hh];refine⟨λe he=>?_,?_⟩
   ·rcases List.mem_append.1 he with he | he
    ·exact h.1 e he
    ·rw[t6 he];exact⟨i,p,rfl,hp,rfl⟩
   ·rw[bw,List.nodup_append];refine⟨h.2,by simp,λa ha b hb=>?_⟩;simp only[b9,map_nil,List.mem_singleton] at hb;subst hb;intro e;subst e;rw[kQ.2 ha] at hh;cases hh
def uX(ps:List ai)(i:Int):List Nat:=match ps[i.toNat]? with
 | some p=>p.aR
 | none=>[]
abbrev iL:=List (List Nat×List Nat)
def jq(ps:List ai)(hd:List (List Nat×Int)):iL:=hd.filterMap λe=>if uX ps e.2=[] then none else some (e.1,uX ps e.2)
def yY{ps:List ai}{hd:List (List Nat×Int)}{k:List Nat}(h:k∈(jq ps hd).map (·.1)):k∈hd.map (·.1):=by
 obtain⟨e,he,rfl⟩:=mem_map.1 h;obtain⟨e',he',h2⟩:=List.mem_filterMap.1 he;split at h2
 ·cases h2
 ·cases h2;exact cv he'
def jr{ps:List ai}:∀{hd:List (List Nat×Int)},(hd.map (·.1)).Nodup->((jq ps hd).map (·.1)).Nodup
 | [],_=>dc
 | e::hd,h=>by
  rw[b9,e5] at h;unfold jq;rw[ct];split
  ·exact jr h.2
  ·rename_i b hb;split at hb
   ·cases hb
   ·cases hb;rw[b9,e5];exact⟨λhm=>h.1 (yY hm),jr h.2⟩
def HM{U:Type}{l:List (List Nat×U)}{pos:List Nat}{j:Nat}{e:List Nat×U}(hn:(l.map (·.1)).Nodup)(he:l[j]?=some e)(hj:j∉pos):e.1∉(bm l pos).map (·.1):=by
 intro hm;obtain⟨e',he',h2⟩:=mem_map.1 hm;obtain⟨i,hi,h3⟩:=List.mem_filterMap.1 he'
 have h4:(l.map (·.1))[i]?=some e.1:=by rw[a8,h3];exact rg some h2
 have h5:(l.map (·.1))[j]?=some e.1:=by rw[a8,he];rfl
 exact hj ((el (br h4) hn).1 (h4.trans h5.symm)▸hi)
def dm:Nat->iL->List (List Nat)->List (List Nat)
 | 0,_,_=>[]
 | n+1,r,ls=>if ls=[] then [] else ((r.filter λe=>ls.contains e.2).map (·.1))++dm n (r.filter λe=>!ls.contains e.2) ((r.filter λe=>ls.contains e.2).map (·.1))
def F4(ps:List ai)(part:List Nat):iL:=jB part (jq ps (mX 0 [] ps))
def ea(ps:List ai)(part:List Nat):List (List Nat):=if dx part (mX 0 [] ps)=true then dX (dm (ps.length+2) (F4 ps part) [part]) else []
def nQ:∀(n:Nat) {r r':iL} {ls ls':List (List Nat)},r.Perm r'->(∀x,ls.contains x=ls'.contains x)->(ls=[]↔ls'=[])->(dm n r ls).Perm (dm n r' ls')
 | 0,_,_,_,_,_,_,_=>Perm.refl _
 | n+1,r,r',ls,ls',h1,h2,h3=>by
  rw[dm,dm];by_cases h:ls=[]
  ·rw[ut h,ut (h3.1 h)]
  ·rw[v6 h,v6 (λe=>h (h3.2 e))];have e1:(λe:List Nat×List Nat=>ls.contains e.2)=λe=>ls'.contains e.2:=funext λe=>h2 _
   have e2:(λe:List Nat×List Nat=>!ls.contains e.2)=λe=>!ls'.contains e.2:=funext λe=>by rw[h2]
   rw[e1,e2];have p1:=(h1.filter λe=>ls'.contains e.2).map (·.1);have p2:=h1.filter λe=>!ls'.contains e.2;refine p1.append (nQ n p2 (λx=>?_) ⟨λe=>?_,λe=>?_⟩)
   ·rw[d0,bk,bk];exact p1.mem_iff
   ·rw[e] at p1;exact p1.nil_eq.symm
   ·rw[e] at p1;exact p1.eq_nil
def eU(l:List (List Nat)):SO:=if l=[] then .gone else .cells (l.flatMap (aB ah))
def fw{l:List (List Nat)}(h:¬l=[]):eU l=.cells (l.flatMap (aB ah)):=v6 h
def gl:eU []=.gone:=rfl
def fo(o:Nat)(l:List (List Nat)):cE o (eU l)=eU l:=by
 unfold eU;split
 ·rfl
 ·rw[cE];congr 1;exact bR (aA (λ_=>rfl) l)
def eH(r:Nat->Nat)(l:List (List Nat)):pH r (eU l)=eU l:=by
 unfold eU;split
 ·rfl
 ·rw[Kh];congr 1;exact bn (aA (λ_=>rfl) l)
def I5{S:List SO}{o:Nat}{l:iL}(s u:List Nat)(hS:S[o]?=some (bE AV.str ah l)):iq prog S 123 (.map o) (.a (.str s)) (.a (.str u))=some (S.set o (bE AV.str ah (cq s u l))):=
 Ig (uv:=ah) (kt:=9) (et:=9) (by simp only[aJ]) l8 hS rfl u
def Aa{S:List SO}{o:Nat}{l:iL}(s:List Nat)(hS:S[o]?=some (bE AV.str ah l)):KZ prog S 123 (.map o) (.a (.str s))=some (S.set o (bE AV.str ah (jB s l))):=
 S5 (uv:=ah) (k:=s) (kt:=9) (et:=9) (by simp only[aJ]) l8 hS rfl
def jJ{n:Nat}{l:iL}:cE n (bE AV.str ah l)=bE AV.str ah l:=mh λ_=>lY _
def iU(ls:List (List Nat))(hd:iL):List (List Nat):=(hd.filter λe=>ls.contains e.2).map (·.1)
def H3(ls:List (List Nat))(hd:iL)(e:List Nat×List Nat):iU ls (hd++[e])=iU ls hd++(if ls.contains e.2=true then [e.1] else []):=by
 unfold iU;rw[d8,bw];cases h:ls.contains e.2
 ·rw[b6,v6 (by rw[h];decide)];rfl
 ·rw[b6,ut h];rfl
def x9{k:List Nat}:∀{l:iL},(jB k l).length<=l.length
 | []=>ac _
 | e::l=>by
  rw[jB];split
  ·exact Nat.le_succ _
  ·exact ey x9
def vz:∀(ks:List (List Nat)) {r:iL},(r.map (·.1)).Nodup->ks.foldl (λr k=>jB k r) r=r.filter λe=>!ks.contains e.1
 | [],r,_=>by
  rw[foldl_nil];symm;rw[d2];intro a _;rfl
 | k::ks,r,h=>by
  rw[List.foldl_cons,kK h];have hn:((r.filter λe=>!decide (e.1=k)).map (·.1)).Nodup:=h.sublist ((List.filter_sublist).map _);rw[vz ks hn,List.filter_filter]
  congr 1
  funext e;rw[List.contains_cons];by_cases hh:e.1=k
  ·simp[hh]
  ·simp[hh]
def K0{r:iL}{ls mo:List (List Nat)}(hn:(r.map (·.1)).Nodup)(hm:mo.Perm (iU ls r)):mo.foldl (λr k=>jB k r) r=r.filter λe=>!ls.contains e.2:=by
 rw[vz mo hn];apply List.filter_congr;intro e he
 congr 1
 rw[d0,bk,hm.mem_iff];unfold iU;constructor
 ·intro h;obtain⟨e',he',h2⟩:=mem_map.1 h;obtain⟨h3,h4⟩:=List.mem_filter.1 he'
  have:e'=e:=by
   obtain⟨i,hi⟩:=List.mem_iff_getElem?.1 h3;obtain⟨j,hj⟩:=List.mem_iff_getElem?.1 he
   have g1:(r.map (·.1))[i]?=some e'.1:=by rw[a8,hi];rfl
   have g2:(r.map (·.1))[j]?=some e'.1:=by rw[a8,hj,h2];rfl
   have:=(el (br g1) hn).1 (g1.trans g2.symm);subst this;rw[hi] at hj;cases hj;rfl
  rw[this] at h4;exact h4
 ·intro h;exact cv (List.mem_filter.2 ⟨he,h⟩)
def Cn:∀(l:List ai) (i:Nat) (m:List (List Nat×Int)),(mX i m l).length<=m.length+l.length
 | [],_,_=>ac _
 | p::r,i,m=>by
  rw[mX];refine es (Cn r _ _) ?_
  cases h:dx p.name m with
  | true=>simp only[if_true,jp];omega
  | false=>simp only[d7,if_false,oJ h,md,jp,i7];omega
def yW{α:Type}(p:α->Bool):∀l:List α,(l.filter p).length+(l.filter λx=>!p x).length=l.length
 | []=>rfl
 | a::l=>by
  have:=yW p l;cases h:p a
  ·rw[b6,v6 (by rw[h];decide),b6,ut (by rw[h];rfl),jp,jp];omega
  ·rw[b6,ut h,b6,v6 (by rw[h];decide),jp,jp];omega
def H2{ls:List (List Nat)}{a b:iL}(h:a.Perm b):(iU ls a).Perm (iU ls b):=(h.filter _).map _
def cu{p o e n:Nat}(h:o≠p):names p (bZ o e n)=false:=by
 unfold bZ;split
 ·exact lY _
 ·rw[names];exact wd h
def dD(q:Nat->Nat)(o e n:Nat):fh q (bZ o e n)=bZ (q o) e n:=by
 unfold bZ;split
 ·rw[Ow]
 ·rw[Dg]
def yO(r:iL)(bs:List Nat)(c:Nat):SO:=.map (r.map λe=>.str e.1) (r.map λe=>ah e.2) (some (bs,c))
def u7(o:Nat)(r:iL)(bs:List Nat)(c:Nat):cE o (yO r bs c)=yO r bs c:=by
 unfold yO;rw[cE]
 congr 1
 exact bR (po (uv:=ah) (λ_=>rfl) r)
def Kq(q:Nat->Nat)(r:iL)(bs:List Nat)(c:Nat):pH q (yO r bs c)=yO r bs c:=by
 unfold yO;rw[Ki]
 congr 1
 exact bn (po (uv:=ah) (λ_=>rfl) r)
def Kp(q:Nat->Nat)(r:iL):pH q (bE AV.str ah r)=bE AV.str ah r:=by
 unfold bE;rw[Ki]
 congr 1
 exact bn (po (uv:=ah) (λ_=>rfl) r)
def nF(ps:List ai)(part:List Nat)(hlen:ps.length<=100000):SC prog 17 [.ag [an 14 ps ae],ah part] [] [] (λr S'=>r=bZ 0 1 (ea ps part).length/\S'=[eU (ea ps part)]):=by
 refine LJ 87 Tryz.func17 ?_;refine(jt)<|(zK (rz ps i5) (hfl:=.inr (bg.refl rfl))) ?_
 have hgood:Hi ps (mX 0 [] ps):=Eu (ps:=ps) rfl ⟨λe he=>by simp at he,dc⟩
 have hMl:(mX 0 [] ps).length<=ps.length:=by have:=Cn ps 0 [];simpa using this
 obtain⟨M,hM⟩:∃M,M=mX 0 [] ps:=⟨_,rfl⟩
 have hN:ea ps part=if dx part M=true then dX (dm (ps.length+2) (jB part (jq ps M)) [part]) else []:=by rw[hM];rfl
 rw[<-hM] at hgood hMl
 refine(cJ (bq @Ce.eq_1 (Eq.symm hM)))<|(zs) ?_;refine aE.r0 i4 (by simp only[dJ,cj,an,aJ,m8,m7,↓reduceIte,aa,a4,a9,am,a6,ar,az,bT,vY (l:=M)];first | done | rfl) ?_;refine(zV) ?_
 cases h1:dx part M
 ·refine(cF) ?_;rw[h1,v6 ii] at hN
  refine zA [(4,bG)] [.gone] zH<|(zE) ?_;exact zP [.tmp 4] (hq:=by (try simp only[ew,bH]);first | done | (rw[hN];exact⟨rfl,rfl⟩))
 rw[h1,ut rfl] at hN
 refine(kY)<|(zC) ?_;refine aT.TW (ks:=M.map λe=>.str e.1) (vs:=M.map λe=>ab e.2) i4 rfl rfl i4 rfl (by simp only[aJ]) ?_
 intro bs c hbs;refine(cJ @jJ) ?_
 (repeat refine aE.seq ?_)
 refine aE.block (aE.loop (λm st=>∃pos:List Nat,pos.Nodup/\(∀j∈pos,j<M.length)/\M.length-pos.length=m/\st=⟨[(1,ah part),(5,.ptr 1 0),(8,.map 2),(33,.ptr 3 0)],87,[.gone,.cells [an 14 ps ae,lS AV.str ab M],bE AV.str ah (jq ps (bm M pos)),.oT (M.map λe=>.str e.1) (M.map λe=>ab e.2) bs c pos],[]⟩) M.length (bX (lM @bE.eq_1 @bm.eq_1 @jq.eq_1 @filterMap_nil.{0,0} @map_nil.{0,0})) ⟨[],dc,λj hj=>by simp at hj,rfl,rfl⟩ (by rintro m st ⟨pos,_,_,_,rfl⟩;rfl) ?_);rintro m st ⟨pos,hpn,hpl,rfl,rfl⟩;refine(zC) ?_;refine aT.TT i4 rfl rfl i4 rfl rfl (λj hj=>by rw[ap];exact hpl j hj) ?_ ?_;rotate_left
 ·intro j hj hjn;rw[ap] at hj;obtain⟨e,he⟩:∃e,M[j]?=some e:=⟨M[j],li hj⟩;obtain⟨q1,q2,q3⟩:=qA hpn hpl hj hjn;obtain⟨i,x,hi,hx,hxn⟩:=hgood.1 e (aU he);have hil:=br hx;have hsn:=kP M pos he;have hfresh:=HM hgood.2 he hjn
  refine(zR)<|(gB)<|(zC) ?_;refine aT.TN (k:=.str e.1) (v:=ab e.2) i4 rfl rfl i4 rfl rfl (by rw[a8,he];rfl) (by rw[a8,he];rfl) ?_;refine(zR) ?_
  rw[hi];refine(aw (cG hil (aQ (e:=14) (enc:=ae) (λ_=>rfl) hx) @ae.eq_1)) ?_
  have hin:uX ps e.2=x.aR:=by unfold uX;rw[hi,Int.toNat_natCast,hx]
  by_cases hx0:x.aR=[]
  ·refine(aw (wl hx0))<|(zN) ?_
   have hr:jq ps (bm M (pos++[j]))=jq ps (bm M pos):=by
    rw[hsn];unfold jq;rw[dt,ct,ut (by rw[hin,hx0]),filterMap_nil,append_nil]
   exact⟨M.length-(pos++[j]).length,_,by rw[md];simp only[jp,i7];omega,(bX hr),pos++[j],q1,q2,rfl,rfl⟩
  ·refine(aw (wd hx0))<|(zY)<|(zs) ?_;refine aE.r0 i4 (by simp only[dJ,cj,an,aJ,m8,m7,↓reduceIte,aa,a4,a9,am,a6,ar,az,bT,I5 (l:=jq ps (bm M pos))];first | done | rfl) ?_
   have hr:jq ps (bm M (pos++[j]))=cq e.1 x.aR (jq ps (bm M pos)):=by
    rw[oJ (by
     cases hh:dx e.1 (jq ps (bm M pos)) with
     | false=>rfl
     | true=>exact un (yY (kQ.1 hh)) hfresh),hsn]
    unfold jq;rw[dt,ct,v6 (by rw[hin];exact hx0),filterMap_nil,hin]
   exact⟨M.length-(pos++[j]).length,_,by rw[md];simp only[jp,i7];omega,(bX hr),pos++[j],q1,q2,rfl,rfl⟩
 intro hall;have hperm:(bm M pos).Perm M:=mF hpn hpl λj hj=>hall j (by rw[ap];exact hj)
 refine(zR)<|(gh)<|(zs) ?_;refine aE.r0 i4 (by simp only[dJ,cj,an,aJ,m8,m7,↓reduceIte,aa,a4,a9,am,a6,ar,az,bT,Aa (l:=jq ps (bm M pos))];first | done | rfl) ?_
 obtain⟨r0,hr0⟩:∃r0,r0=jB part (jq ps (bm M pos)):=⟨_,rfl⟩;have hnk:((bm M pos).map (·.1)).Nodup:=(hperm.map (·.1)).nodup_iff.2 hgood.2
 have hrp:r0.Perm (jB part (jq ps M)):=by
  rw[hr0,kK (jr hnk),kK (jr hgood.2)];exact(hperm.filterMap _).filter _
 have hr0n:(r0.map (·.1)).Nodup:=by
  rw[hr0,kK (jr hnk)];exact(jr hnk).sublist (List.filter_sublist.map _)
 have hr0l:r0.length<=ps.length:=by
  rw[hrp.length_eq];exact es x9 (es (c5 _ _) hMl)
 have hN2:ea ps part=dX (dm (ps.length+2) r0 [part]):=by
  rw[hN];exact sC (nQ _ hrp.symm (λ_=>rfl) Iff.rfl)
 rw[<-hr0];clear hN hperm hall
 refine(zV)<|(aw @jJ) ?_;refine zZ [(1,ah part),(8,.map 2),(12,bG),(13,an 1 [part] (aB ah))] 4 rfl (gu (gm @an.eq_1 @aB.eq_1 @flatMap_cons.{0,0} @flatMap_nil.{0,0}))<|zA [(1,ah part),(8,.map 0),(12,bG),(13,an 1 [part] (aB ah))] [bE AV.str ah r0,.gone] (Fg.rn [2,0] ii rfl (Mf @Kp) (Mg @Kp)) ?_
 clear hr0 hrp;obtain⟨T,hT0⟩:∃T,T=dm (ps.length+2) r0 [part]:=⟨_,rfl⟩;rw[<-hT0] at hN2
 (repeat refine aE.seq ?_)
 refine aE.block (aE.loop (λm st=>∃(r:iL) (ls out:List (List Nat)) (fu:Nat),((r.map (·.1)).Nodup/\r.length+(if ls=[] then 1 else 2)<=fu)/\(out++dm fu r ls).Perm T/\(out.length+r.length<=ps.length/\ls.length<=ps.length+1)/\(r.length+if ls=[] then 0 else 1)=m/\st=⟨[(1,ah part),(8,.map 0),(12,bZ 1 1 out.length),(13,an 1 ls (aB ah))],87,[bE AV.str ah r,eU out],[]⟩) (r0.length+1) (bX (cG @ly @gl @i7.{0})) ⟨r0,[part],[],ps.length+2,⟨hr0n,by rw[v6 gt];omega⟩,by rw[hT0];exact Perm.refl _,⟨by simpa using hr0l,by simp⟩,rfl,rfl⟩ (by rintro m st ⟨r,ls,out,fu,_,_,_,_,rfl⟩;rfl) ?_);rintro m st ⟨r,ls,out,fu,⟨hrn,hfu⟩,hT,⟨hsz,hlsl⟩,rfl,rfl⟩;clear hr0n hr0l hT0;by_cases hls:ls=[]
 ·subst hls
  refine(aw (show decide (0<(([]:List (List Nat)).length:Int))=false by simp))<|(gh) ?_
  have hgo:dm fu r []=[]:=by
   cases fu with
   | zero=>rfl
   | succ k=>rw[dm,ut rfl]
  rw[hgo,append_nil] at hT
  have hres:ea ps part=dX out:=by rw[hN2];exact(sC hT).symm
  by_cases ho:out=[]
  ·subst ho
   refine(fb (bq @ly @i7.{0}))<|(zK ur)<|(zR)<|(zV)<|zA [(4,bG)] [.gone] zH<|(zE) ?_;exact zP [.tmp 4] (hq:=by (try simp only[ew,bH]);first | done | (rw[hres,show dX []=[] from rfl];exact⟨rfl,rfl⟩))
  ·have hol:¬out.length=0:=λh=>ho (t8 h);rw[ef hol,fw ho]
   refine(zC) ?_;refine aT.sk [1] i4 rfl rfl i4 rfl zc (An out i5 ho) (by simp only[gD,cj,an,↓reduceIte,aa,a4,dl,a9,am,a6,jJ,bn (aA (enc:=aB ah) (λ_=>rfl) _),bI (aA (enc:=aB ah) (λ_=>rfl) _)];first | done | rfl) rfl ii (by simp only[CL,gD,cj,an,jJ,bn (aA (enc:=aB ah) (λ_=>rfl) _),bI (aA (enc:=aB ah) (λ_=>rfl) _)]<;>(repeat' apply aS)<;>first | trivial | rfl | (intro hh;cases hh)) (by simp only[B4,gD,cj,an,a4,a6,decide_true,jJ,bn (aA (enc:=aB ah) (λ_=>rfl) _),bI (aA (enc:=aB ah) (λ_=>rfl) _)];first | done | rfl) (by simp only[B4,gD,cj,an,a4,a6,decide_true,jJ,bn (aA (enc:=aB ah) (λ_=>rfl) _),bI (aA (enc:=aB ah) (λ_=>rfl) _)];first | done | rfl) (by simp only[gD,cj,an,↓reduceIte,aa,a4,dl,a9,am,a6,jJ,bn (aA (enc:=aB ah) (λ_=>rfl) _),bI (aA (enc:=aB ah) (λ_=>rfl) _)];first | done | rfl) (by simp only[gD,cj,an,↓reduceIte,aa,a4,dl,a9,am,a6,jJ,bn (aA (enc:=aB ah) (λ_=>rfl) _),bI (aA (enc:=aB ah) (λ_=>rfl) _),eK,ek,cE,aY,dJ];first | done | rfl) (by simp only[gD,cj,an,↓reduceIte,aa,a4,dl,a9,am,a6,jJ,bn (aA (enc:=aB ah) (λ_=>rfl) _),bI (aA (enc:=aB ah) (λ_=>rfl) _),eK,ek,cE,aY,dJ];first | done | rfl) ?_;refine(zR)<|(zV) ?_
   have hsl:(dX out).length=out.length:=(qE out).length_eq;have hsne:¬dX out=[]:=λe=>hol (by rw[<-hsl,e];rfl);refine zA [(4,.buf 0 out.length 1 none)] [.cells ((dX out).flatMap (aB ah))] (Fg.rn [1] ii rfl (by (simp only[si,gD,cj,an,bn (aA (enc:=aB ah) (λ_=>rfl) (dX out))])<;>(repeat' apply aS)<;>first | trivial | exact .inl rfl | exact .inr rfl | exact .inr trivial | exact .inl trivial) (by (simp only[dJ,gD,cj,an,bn (aA (enc:=aB ah) (λ_=>rfl) (dX out))])<;>(repeat' apply aS)<;>first | rfl | trivial)) ?_;refine(zE) ?_;exact zP [.tmp 4] (hq:=by (try simp only[ew,bH]);first | done | (rw[hres,hsl,ef hol,fw hsne];exact⟨rfl,rfl⟩))
 rw[v6 hls] at hfu ⊢;have hl0:0<ls.length:=bh λh=>hls (t8 h)
 refine(aw (show decide (0<(ls.length:Int))=true by simp only[wp];omega))<|(gB)<|(jt) ?_;refine aT.Vm (oo:=0) (ks:=r.map λe=>.str e.1) (vs:=r.map λe=>ah e.2) (b:=none) i4 rfl rfl i4 rfl rfl (by simp only[aJ]) ?_
 intro bs c hbs;rw[ap] at hbs;change aT _ _ _ _ ⟨_,_,fW [yO r bs c,eU out] _,_⟩ _;refine aT.r0 i4 (by simp only[dJ,cj,an,aJ,m8,m7,↓reduceIte,aa,a4,a9,am,a6,ar,az,bT,fo,u7,cu (show 1≠2 by decide)];first | done | rfl) ?_
 (repeat refine aE.seq ?_)
 refine aE.block (aE.loop (λm st=>∃pos:List Nat,pos.Nodup/\(∀j∈pos,j<r.length)/\r.length-pos.length=m/\st=⟨[(1,ah part),(8,.map 0),(12,bZ 1 1 out.length),(13,an 1 ls (aB ah)),(14,bZ 3 1 (iU ls (bm r pos)).length),(58,.ptr 2 0)],87,[yO r bs c,eU out,.iter (.map 0) bs c pos,eU (iU ls (bm r pos))],[]⟩) r.length (Fg.less (by (simp only[dJ,cj,fH,↓reduceIte,aa,an,bm,iU,filterMap_nil,e4,map_nil,ly,gl,i7,cu (show 1≠2 by decide)])<;>(repeat' apply aS)<;>first | rfl | trivial) (by (simp only[dJ,cj,or_true,true_or,an,bm,iU,filterMap_nil,e4,map_nil,ly,gl,i7,cu (show 1≠2 by decide)])<;>(repeat' apply aS)<;>first | exact .inr rfl | exact .inl rfl | trivial)) ⟨[],dc,λj hj=>by simp at hj,rfl,rfl⟩ (by rintro m st ⟨pos,_,_,_,rfl⟩;rfl) ?_);rintro m st ⟨pos,hpn,hpl,rfl,rfl⟩;refine(zC) ?_;refine aT.Vf (ks:=r.map λe=>.str e.1) (vs:=r.map λe=>ah e.2) i4 rfl rfl i4 rfl rfl rfl (λj hj=>by rw[ap];exact hpl j hj) ?_ ?_;rotate_left
 ·intro j hj hjn;rw[ap] at hj;obtain⟨e,he⟩:∃e,r[j]?=some e:=⟨r[j],li hj⟩;obtain⟨q1,q2,q3⟩:=qA hpn hpl hj hjn;have hsn:=kP r pos he;have hms:=H3 ls (bm r pos) e;rw[<-hsn] at hms
  have hml:(iU ls (bm r pos)).length<=100000:=by
   unfold iU;rw[ap];have h1:=ch (λe:List Nat×List Nat=>ls.contains e.2) (bm r pos);have h2:(bm r pos).length<=pos.length:=c5 _ _;omega
  generalize iU ls (bm r pos)=mo at hms hml
  refine(zR)<|(gB)<|(zC) ?_;refine aT.Va (ks:=r.map λe=>.str e.1) (vs:=r.map λe=>ah e.2) (k:=.str e.1) (v:=ah e.2) i4 rfl rfl i4 rfl rfl rfl (by rw[a8,he];rfl) (by rw[a8,he];rfl) ?_;refine(zR)<|(zC)<|(zK (iC ls e.2 i5)) ?_
  cases hc:ls.contains e.2
  ·rw[hc,v6 ii,append_nil] at hms
   refine(zR)<|(zN) ?_;exact⟨r.length-(pos++[j]).length,_,by rw[md];simp only[jp,i7];omega,(bX hms),pos++[j],q1,q2,rfl,rfl⟩
  ·rw[hc,ut rfl] at hms
   refine(zR)<|(zY) ?_
   have happ:=mb (enc:=aB ah) (e:=1) (λ_=>rfl) (λ_=>rfl) 3 mo e.1;have hcl:=aZ (enc:=aB ah) (e:=1) (λ_=>rfl) mo;rw[show aB ah e.1=[ah e.1] from rfl,d5] at happ;by_cases hmo:mo=[]
   ·subst hmo;refine(zs) ?_;refine aE.r0 i4 (by simp only[dJ,cj,an,aJ,m8,m7,↓reduceIte,aa,a4,a9,am,a6,ar,az,bT,ly,i7,gl,fo,u7,cu (show 1≠4 by decide),cu (show 1≠5 by decide)];first | done | rfl) ?_;exact⟨r.length-(pos++[j]).length,_,by rw[md];simp only[jp,i7];omega,((Fg.rn (f':=[(1,ah part),(8,.map 0),(12,bZ 1 1 out.length),(13,an 1 ls (aB ah)),(14,.buf 3 1 1 none),(58,.ptr 2 0)]) (n:=87) (S':=[yO r bs c,eU out,.iter (.map 0) bs c (pos++[j]),.cells [ah e.1]]) [0,1,2,5] ii rfl (Mf (cG @Kq @eH @dD)) (Mg (cG @Kq @eH @dD)))).trans (bX (EG hms @nil_append.{0} @eU.eq_1 @aB.eq_1 @flatMap_cons.{0,0} @flatMap_nil.{0,0} @bZ.eq_1)),pos++[j],q1,q2,rfl,rfl⟩
   ·have hmol:¬mo.length=0:=λh=>hmo (t8 h);rw[ef hmol,fw hmo]
    have hq:mo++[e.1]≠[]:=by simp
    have hql:(mo++[e.1]).length=mo.length+1:=by rw[md];rfl
    refine(zs) ?_;refine aE.r0 i4 (by simp only[dJ,cj,an,aJ,m8,m7,↓reduceIte,aa,a4,a9,am,a6,ar,az,bT,fo,u7,cu (show 1≠4 by decide),cu (show 1≠3 by decide),bC (enc:=aB ah) (λ_=>rfl) _ mo,hcl,d5,ac,show mo.length<=1000000 by omega,happ];first | done | rfl) ?_;exact⟨r.length-(pos++[j]).length,_,by rw[md];simp only[jp,i7];omega,(bX (gm hms hql @R9 (fw hq))),pos++[j],q1,q2,rfl,rfl⟩
 intro hall;have hperm:(bm r pos).Perm r:=mF hpn hpl λj hj=>hall j (by rw[ap];exact hj);have hmp:(iU ls (bm r pos)).Perm (iU ls r):=H2 hperm;obtain⟨mo,hmo⟩:∃mo,mo=iU ls (bm r pos):=⟨_,rfl⟩;rw[<-hmo] at hmp ⊢;clear hall
 refine(zR)<|(gh) ?_;refine aE.fg (st':=⟨[(1,ah part),(8,.map 0),(12,bZ 1 1 out.length),(13,an 1 ls (aB ah)),(14,an 1 mo (aB ah))],87,[bE AV.str ah r,eU out],[]⟩) ?_ ?_
 ·refine Fg.trans (b:=⟨_,87,[yO r bs c,eU out],[]⟩) ?_ (Fg.SE (S:=[yO r bs c,eU out]) (ks:=r.map λe=>.str e.1) (vs:=r.map λe=>ah e.2) (b:=some (bs,c)) 0 rfl);by_cases h0:mo=[]
  ·rw[h0];exact Fg.trans (Fg.wk (f':=[(1,ah part),(8,.map 0),(12,bZ 1 1 out.length),(13,an 1 ls (aB ah)),(14,an 1 ([]:List (List Nat)) (aB ah))]) ⟨.inl rfl,.inl rfl,.inl rfl,.inl rfl,.inr (.nil _),trivial⟩) zH
  ·have hmol:¬mo.length=0:=λh=>h0 (t8 h);rw[ef hmol,fw h0];exact Fg.trans (Fg.freeze (f':=[(1,ah part),(8,.map 0),(12,bZ 1 1 out.length),(13,an 1 ls (aB ah)),(14,an 1 mo (aB ah))]) 3 rfl g9 ⟨.inl rfl,.inl rfl,.inl rfl,.inl rfl,.inr (.buf rfl (by rw[ej (enc:=aB ah) (e:=1) (λ_=>rfl)];exact bg.refl (aA (λ_=>rfl) _)) (by rw[aZ (enc:=aB ah) (e:=1) (λ_=>rfl)];exact ac _)),trivial⟩) zH
 have hmol:mo.length<=r.length:=by
  rw[hmp.length_eq];unfold iU;rw[ap];exact ch _ _
 have hdel:=K0 hrn hmp
 have hgo:((out++mo)++dm (fu-1) (r.filter λe=>!ls.contains e.2) mo).Perm T:=by
  refine Perm.trans ?_ hT;obtain⟨k,rfl⟩:∃k,fu=k+1:=⟨fu-1,by omega⟩;rw[dm,v6 hls,a7];refine Perm.append_left out (hmp.append ?_);refine nQ k (Perm.refl _) (λx=>?_) ⟨λe=>?_,λe=>?_⟩
  ·rw[d0,bk,bk];exact hmp.mem_iff
  ·rw[e] at hmp;exact hmp.nil_eq.symm
  ·have:iU ls r=[]:=e;rw[this] at hmp;exact hmp.eq_nil
 have hpl:(iU ls r).length+(r.filter λe=>!ls.contains e.2).length=r.length:=by
  unfold iU;rw[ap];exact yW _ r
 rw[<-hmp.length_eq] at hpl;have hrn2:((r.filter λe=>!ls.contains e.2).map (·.1)).Nodup:=hrn.sublist (List.filter_sublist.map _)
 (try change aE _ _ _ _ _)
 refine(zV)<|(zs) ?_;refine zL mo (λk=>True) (λk=>[(1,ah part),(8,.map 0),(12,bZ 1 1 out.length),(14,an 1 mo (aB ah)),(71,an 1 mo (aB ah)),(72,ab mo.length),(73,ab k)]) (λk=>[bE AV.str ah ((mo.take k).foldl (λr k=>jB k r) r),eU out]) (bX (bq @take_zero.{0} @foldl_nil.{0,0})) zp ?_;intro k hk hall;refine zT mo k ?_ ?_;rintro rfl;rotate_left;intro x hx hlt;rotate_left
 rotate_left
 ·refine(gB)<|(aw (cG hlt (aQ (e:=1) (enc:=aB ah) (λ_=>rfl) hx) @aB.eq_1))<|(zs) ?_;refine aE.r0 i4 (by simp only[dJ,cj,an,aJ,m8,m7,↓reduceIte,aa,a4,a9,am,a6,ar,az,bT,Aa (l:=(mo.take k).foldl (λr k=>jB k r) r)];first | done | rfl) ?_
  have hst:(mo.take (k+1)).foldl (λr k=>jB k r) r=jB x ((mo.take k).foldl (λr k=>jB k r) r):=by rw[cD hx,ce];rfl
  refine(aw (zi hlt (show mo.length<=1000000 by omega))) ?_;refine zX hlt (bX hst) trivial
 refine(gh) ?_;rw[ba,hdel];generalize hr':(r.filter λe=>!ls.contains e.2)=r' at hgo hpl hrn2
 have hme:r'.length+(if mo=[] then 0 else 1)<r.length+1/\r'.length+(if mo=[] then 1 else 2)<=fu-1:=by
  by_cases h0:mo=[]
  ·rw[ut h0,ut h0];omega
  ·have:0<mo.length:=bh λh=>h0 (t8 h);rw[v6 h0,v6 h0];omega
 have hsz2:(out++mo).length+r'.length<=ps.length/\mo.length<=ps.length+1:=by rw[md];omega
 have hmk:=bC (enc:=aB ah) (λ_=>rfl);have hmo1:(mo.flatMap (aB ah)).all e9=true:=q8 (λ_=>rfl) mo;by_cases h0:mo=[]
 ·subst h0;rw[append_nil] at hgo hsz2;by_cases h1:out=[]
  ·subst h1
   refine(aw (bq @ly @i7.{0}))<|(zV) ?_;exact⟨_,_,hme.1,(bX (cG @ly @gl @i7.{0})),r',[],[],fu-1,⟨hrn2,hme.2⟩,hgo,hsz2,rfl,rfl⟩
  ·have h1l:¬out.length=0:=λh=>h1 (t8 h);rw[ef h1l,fw h1]
   refine(aw (bq @i7.{0} (show out.length<=1000000 by omega)))<|(zV) ?_;exact⟨_,_,hme.1,(Fg.less (by (simp only[dJ,cj,fH,↓reduceIte,aa,an,ef h1l,fw h1,i7])<;>(repeat' apply aS)<;>first | rfl | trivial) (by (simp only[dJ,cj,or_true,true_or,an,ef h1l,fw h1,i7])<;>(repeat' apply aS)<;>first | exact .inr rfl | exact .inl rfl | trivial)),r',[],out,fu-1,⟨hrn2,hme.2⟩,hgo,hsz2,rfl,rfl⟩
 have hmol2:¬mo.length=0:=λh=>h0 (t8 h);by_cases h1:out=[]
 ·subst h1;rw[nil_append] at hgo hsz2
  refine(aw (TM @ly @gl @i7.{0} hmol2 (show mo.length<=1000000 by omega) hmo1 hmk @jJ))<|(zV) ?_;exact⟨_,_,hme.1,((Fg.rn (f':=[(1,ah part),(8,.map 0),(12,.buf 1 mo.length 1 none),(13,an 1 mo (aB ah))]) (n:=87) (S':=[bE AV.str ah r',.cells (mo.flatMap (aB ah))]) [0,2] ii rfl (by (simp only[si,gD,cj,an,Kp,bn (aA (enc:=aB ah) (λ_=>rfl) mo)])<;>(repeat' apply aS)<;>first | trivial | exact .inl rfl | exact .inr rfl | exact .inr trivial | exact .inl trivial) (by (simp only[dJ,gD,cj,an,Kp,bn (aA (enc:=aB ah) (λ_=>rfl) mo)])<;>(repeat' apply aS)<;>first | rfl | trivial))).trans (Fg.less (by (simp only[dJ,cj,fH,↓reduceIte,aa,an,ef hmol2,fw h0])<;>(repeat' apply aS)<;>first | rfl | trivial) (by (simp only[dJ,cj,or_true,true_or,an,ef hmol2,fw h0])<;>(repeat' apply aS)<;>first | exact .inr rfl | exact .inl rfl | trivial)),r',mo,mo,fu-1,⟨hrn2,hme.2⟩,hgo,hsz2,rfl,rfl⟩
 ·have h1l:¬out.length=0:=λh=>h1 (t8 h);have hol:=aZ (enc:=aB ah) (e:=1) (λ_=>rfl) out;rw[d5] at hol;have hot:(out.flatMap (aB ah)).take out.length=out.flatMap (aB ah):=aj (by rw[hol];exact ac _)
  have hq:¬(out++mo)=[]:=by simp[h1]
  have hql:(out++mo).length=out.length+mo.length:=md;rw[ef h1l,fw h1]
  have hap:(out.flatMap (aB ah)++mo.flatMap (aB ah)).map (aY 1)=(out++mo).flatMap (aB ah):=by rw[bw,hmk,hmk,bb]
  refine(aw (bq (MW hmol2 (show mo.length<=1000000 by omega) (show out.length<=1000000 by omega) hmo1 hol @d5 @ac hot hmk) (bq @jJ hap)))<|(zV) ?_;exact⟨_,_,hme.1,(Fg.less (by (simp only[dJ,cj,fH,↓reduceIte,aa,an,ef (show ¬(out.length+mo.length)=0 by omega),fw hq,hql])<;>(repeat' apply aS)<;>first | rfl | trivial) (by (simp only[dJ,cj,or_true,true_or,an,ef (show ¬(out.length+mo.length)=0 by omega),fw hq,hql])<;>(repeat' apply aS)<;>first | exact .inr rfl | exact .inl rfl | trivial)),r',mo,out++mo,fu-1,⟨hrn2,hme.2⟩,hgo,hsz2,rfl,rfl⟩
end Go.Proofs
