/- Lemmas of this claim, each with its conditions. -/
import Derived.Test.YtjiejanfnnieaaaGreatJ7
import Derived.Test.YtjiejanfnnieaaaGreatJ6
import Derived.Test.YtjiejanfnnieaaaGreatJ5
import Derived.Test.YtjiejanfnnieaaaGreatJ4
import Derived.Test.YtjiejanfnnieaaaGreatJ3
import Derived.Test.YtjiejanfnnieaaaGreatJ2
import Derived.WalkKit
import Derived.WalkSpells
import Derived.WalkLawsBesides
import Derived.Deep.QuietTactic
import Derived.BigQuiet
import Derived.StillTailTactics
import Derived.Sort.Grow
import Derived.Shelf.SlGeneric
import Derived.Shelf.SlLaysF0
import Derived.Shelf.Small.Strs
import Derived.Shelf.Small.Bits
import Derived.Ground.SlsfProg
import Derived.Ground.NamesProg
import Derived.Test.YtjiejanfnnieaaaGreatProg
import Derived.Shelf.SlSortCmp.Xorshift
import Derived.Shelf.SlSortCmp.InsertionK
import Derived.Shelf.SlSortCmp.WholeK
set_option linter.all false
set_option maxHeartbeats 8000000
open Go.Proofs.Tryz (prog func156 func149 func157 func238 func287 func312 func64 func74 func76)
open List (mem_map map_nil take_zero mem_append nil_append cons_append filter_nil foldl_nil mem_filter Perm)
open List renaming length_map -> ac, mem_cons_of_mem -> am, mem_of_getElem? -> aS, take_length -> a7, getElem?_map -> a8, mem_cons_self -> ba, nodup_nil -> bb, map_append -> bd, length_filter_le -> be, mem_cons -> bi, map_cons -> bk, filter_append -> bt, nodup_cons -> bv, not_mem_nil -> bw, append_nil -> bL, foldl_append -> b4, foldl_cons -> b5, length_filterMap_le -> b7, take_of_length_le -> b9, sizeOf_lt_of_mem -> cb, mem_map_of_mem -> cc, perm_ext_iff_of_nodup -> cd, pairwise_cons -> ck, pairwise_singleton -> cl, drop_of_length_le -> co, getElem?_eq_none -> ct, mem_singleton -> dd, flatMap_cons -> dv, all_eq_true -> d6, filter_cons -> d7, append -> e5, drop_zero -> e6
open Nat renaming reduceLeDiff -> ad, reduceEqDiff -> af, reduceAdd -> aj, reduceLT -> al, le_refl -> ap, reduceMul -> ax, reduceSub -> ay, zero_le -> a6, le_trans -> bc, not_lt_zero -> b8, lt_succ_self -> cn, mul_one -> d8, add_zero -> fm
open Bool renaming and_eq_true -> bh, or_eq_true -> ch, true_and -> cp, false_eq_true -> c6, not_eq_true' -> dl, not_true -> dt, decide_and -> ey, not_false -> e4, and_true -> fb, false_or -> fl
open Array renaming getElem?_eq_getElem -> b6, eq_empty_of_size_eq_zero -> ca, getElem?_push -> ci, getElem?_modify -> cv, getElem?_toList -> c0, length_toList -> c5, size_push -> e3
open And renaming intro -> ce
open Go.Proofs.Tryz renaming ntmps77 -> c4, func77 -> dC, func226 -> d9, func233 -> el, func237 -> em, ntmps79 -> es, func79 -> fa
open Int renaming lt_trichotomy -> dc
namespace Go.Proofs
open Go.Ev
set_option maxRecDepth 100000
def IY{l:List nq}(e:bB)(hlen:l.length<=1000000)(hok:∀c∈l,c.ok):PC prog 313 [an 1 l kS,.fn 283 [] [.ip (ar e)]] (·=ab (fO (λc=>!(c.p e)) l)):=by
 refine pB 19 Tryz.func313 ?_;refine(aD @an.eq_1)<|(zV)<|(zs) ?_;refine zL l (λk=>∀(i:Nat) y,i<k->l[i]?=some y->(!(y.p e))=false) (λk=>[(0,.sl l.length 1 (l.flatMap kS)),(1,.fn 283 [] [.ip (ar e)]),(7,ab l.length),(8,ab k)]) (λk=>[]) zH zp ?_;intro k hk hall;refine zT l k ?_ ?_;rintro rfl;rotate_left;intro x hx hlt;rotate_left
 ·exact(gg)<|(zV)<|zo [.tmp 4] (hq:=by rw[ib hall])
 ·have hxo:=hok x (aS hx);have hd1:=Gu x hxo e;obtain⟨g,cap,h1,h2,_⟩:=hxo;have hxl:=aQ (e:=1) (enc:=kS) gc hx;have hn2:∀o:Nat,eI o cap=false:=λo=>cg h2;rw[show kS x=[x.f] from rfl,h1] at hxl;rw[h1] at hd1
  refine(gA)<|(zV)<|(e9 (bu hlt hxl))<|(zK hd1 (hwk:=.cons (.fn .nil (cu.refl h2)) zr)) ?_;refine aL.nil ?_
  change aG _ _ _ _ _;cases hpx:x.p e
  ·exact(cI)<|zo [.tmp 4] (hq:=by rw[lT (p:=λc=>!(c.p e)) hx (by rw[hpx];rfl) hall])
  ·refine(zN)<|(aD (zi hlt hlen)) ?_;refine zX hlt zH ?_
   intro i y hi hy;by_cases hik:i=k
   ·subst hik;rw[hx] at hy;cases hy;rw[hpx];rfl
   ·exact hall i y i4 hy
def IG{l:List nq}(e:bB)(hlen:l.length<=1000000)(hok:∀c∈l,c.ok):PC prog 282 [an 1 l kS,.fn 283 [] [.ip (ar e)]] (·=ai (l.any λc=>!(c.p e))):=by
 refine pB 9 Tryz.func282 ?_;exact(jr)<|(zK (IY (l:=l) e hlen hok))<|(zR)<|zo [.tmp 4] (hq:=by rw[nB])
def vN(conds:List nq)(e:bB):Bool:=!(conds.any λc=>!(c.p e))
def gx(conds:List nq)(l:List bB):List Int:=(l.filter (vN conds)).map bB.day
variable{l:List bB}
def KX{conds:List nq}{k:Nat}{x:bB}(h:l[k]?=some x):gx conds (l.take (k+1))=gx conds (l.take k)++(if vN conds x=true then [x.day] else []):=by
 unfold gx;rw[cM h,bt,bd];cases hp:vN conds x<;>simp[hp]
def z6(l:List bB)(conds:List nq)(hlen:l.length<=100000)(hcl:conds.length<=1000000)(hok:∀c∈conds,c.ok):PC prog 229 [an 14 l ar,an 1 conds kS] (·=an 1 (gx conds l) (aH ab)):=by
 refine pB 25 Tryz.func229 ?_
 have hlenl:l.length<=1000000:=by omega
 refine(om)<|(zV)<|(zs) ?_;refine zL l (λk=>True) (λk=>[(1,an 1 conds kS),(5,cr 2 1 (gx conds (l.take k)).length),(8,an 14 l ar),(9,ab l.length),(10,ab k)]) (λk=>O6 2 (gx conds (l.take k)) (aH ab)) (cf (lk @take_zero.{0} (show gx conds []=[] from rfl) @i5.{0} @lD @P8)) zp ?_;intro k hk hall;refine zT l k ?_ ?_;rintro rfl;rotate_left;intro x hx hlt;rotate_left
 ·refine(gg) ?_;rw[a7]
  exact(zV)<|zo [.tmp 4] (r:=an 1 (gx conds l) (aH ab)) (hw:=QU (enc:=aH ab) (e:=1) gc (λ_=>rfl) (gx conds l))
 have hsn:=KX (conds:=conds) hx;have hxl:=aQ (e:=14) (enc:=ar) gc hx
 have hol:(gx conds (l.take k)).length<=k:=by
  unfold gx;rw[ac];exact bc (be _ _) (by rw[List.length_take];omega)
 generalize hO:gx conds (l.take k)=out at hol hsn;have hfl:=aU (enc:=aH ab) (e:=1) gc out;have hkc:=λo=>bx (enc:=aH ab) gc o out;have hcf:=IG x hcl hok;refine(gA) ?_;by_cases hk0:out=[]
 ·rw[show O6 2 out (aH ab)=[] by rw[hk0];rfl,show cr 2 1 out.length=aR by rw[hk0];rfl]
  refine(aD (cJ hlt hxl @ar.eq_1))<|zA [(1,an 1 conds kS),(5,aR),(7,.ptr 0 0),(8,an 14 l ar),(9,ab l.length),(10,ab k)] [.cells (ar x)] zH ?_;refine zZ [(1,an 1 conds kS),(5,aR),(7,.ip (ar x)),(8,an 14 l ar),(9,ab l.length),(10,ab k)] 0 rfl ⟨.inl rfl,.inl rfl,.inr (.ptr rfl (cu.refl (bU x)) (by rw[cK];decide)),zj⟩<|zA [(1,an 1 conds kS),(5,aR),(7,.ip (ar x)),(8,an 14 l ar),(9,ab l.length),(10,ab k)] [.gone] zH<|(zC)<|(zK hcf (hfl:=.inr zr))<|(cP (show(!(conds.any λc=>!c.p x))=vN conds x from rfl)) ?_
  cases hpp:vN conds x
  ·rw[hpp,v6 g9,bL] at hsn;refine(zN) ?_
   have f1:cr 2 1 (gx conds (l.take (k+1))).length=aR:=by rw[hsn,hk0];rfl
   have f2:O6 2 (gx conds (l.take (k+1))) (aH ab)=[]:=by rw[hsn,hk0];rfl
   refine(aD (zi hlt hlenl)) ?_;refine zX hlt (cf (bu f1 f2)) trivial
  ·rw[hpp,ut rfl] at hsn;refine(zY) ?_
   have f1:cr 2 1 (gx conds (l.take (k+1))).length=.buf 2 1 1 none:=by rw[hsn,hk0];rfl
   have f2:O6 2 (gx conds (l.take (k+1))) (aH ab)=[.gone,.gone,.cells [ab x.day]]:=by rw[hsn,hk0];rfl
   refine(aD @dw)<|(aD (zi hlt hlenl)) ?_;refine zX hlt (cf (bu f1 f2)) trivial
 ·have hk1:¬out.length=0:=λh=>hk0 (t8 h);rw[NT hk0,eo hk1]
  refine(aD (gm hlt hxl @ar.eq_1 QB))<|zA [(1,an 1 conds kS),(5,.buf 2 out.length 1 none),(7,.ptr 3 0),(8,an 14 l ar),(9,ab l.length),(10,ab k)] [.gone,.gone,.cells (out.flatMap (aH ab)),.cells (ar x)] (cf hkc) ?_;refine zZ [(1,an 1 conds kS),(5,.buf 2 out.length 1 none),(7,.ip (ar x)),(8,an 14 l ar),(9,ab l.length),(10,ab k)] 3 rfl ⟨.inl rfl,.inl rfl,.inr (.ptr rfl (cu.refl (bU x)) (by rw[cK];decide)),zj⟩<|zA [(1,an 1 conds kS),(5,.buf 2 out.length 1 none),(7,.ip (ar x)),(8,an 14 l ar),(9,ab l.length),(10,ab k)] [.gone,.gone,.cells (out.flatMap (aH ab))] zH<|(zC)<|(zK hcf (hfl:=.inr zr))<|(cP (show(!(conds.any λc=>!c.p x))=vN conds x from rfl)) ?_
  cases hpp:vN conds x
  ·rw[hpp,v6 g9,bL] at hsn;refine(zN) ?_
   have f1:cr 2 1 (gx conds (l.take (k+1))).length=.buf 2 out.length 1 none:=by rw[hsn,eo hk1]
   have f2:O6 2 (gx conds (l.take (k+1))) (aH ab)=[.gone,.gone,.cells (out.flatMap (aH ab))]:=by rw[hsn,NT hk0];rfl
   refine(aD (zi hlt hlenl)) ?_;refine zX hlt (cf (bu f1 f2)) trivial
  ·rw[hpp,ut rfl] at hsn;refine(zY) ?_
   have f1:cr 2 1 (gx conds (l.take (k+1))).length=.buf 2 (out.length+1) 1 none:=by rw[hsn,li];rfl
   have f2:O6 2 (gx conds (l.take (k+1))) (aH ab)=[.gone,.gone,.cells ((out++[x.day]).flatMap (aH ab))]:=by rw[hsn,NU];rfl
   have happ:=mg (enc:=aH ab) (e:=1) gc (λ_=>rfl) 2 out x.day;rw[show aH ab x.day=[ab x.day] from rfl] at happ
   refine(aD (Hm @dw hfl hkc QB (show out.length<=1000000 by omega) @ap happ))<|(aD (zi hlt hlenl)) ?_;refine zX hlt (cf (bu f1 f2)) trivial
def Hb:dm prog 108=some .ef:=by kernel_rfl
def Dh(part:List Nat)(day:Int):nq:=⟨.fn 228 [] [.ip [ah part],.ip [ab day]],LD part day⟩
def FQ(d:ea):nq:=⟨.fn 230 [] [.ip (bf d)],λe=>decide (e.op=6)&&decide (e.key=d.key)⟩
def xS(d:ea):nq:=⟨.fn 231 [] [.ip (bf d)],λe=>decide (e.op=d.after)⟩
def J4(part:List Nat)(day:Int):(Dh part day).ok:=⟨_,_,rfl,rfl,λe=>L8 e part day⟩
def NS(d:ea):(FQ d).ok:=⟨_,_,rfl,rfl,λe=>GP e d⟩
def KG(d:ea):(xS d).ok:=⟨_,_,rfl,rfl,λe=>Gp e d⟩
def EU(a b:nq)(l:List bB):gx [a,b] l=(l.filter λe=>a.p e&&b.p e).map bB.day:=by
 unfold gx;refine rc _ (List.filter_congr λe _=>?_);unfold vN;cases h1:a.p e<;>cases h2:b.p e<;>simp[h1,h2]
def HJ(d:ea)(l:List bB)(part:List Nat)(day:Int):gx [Dh part day,FQ d] l=Da d l part day:=EU _ _ _
def ET(d:ea)(l:List bB)(part:List Nat)(day:Int):gx [Dh part day,xS d] l=qY d l part day:=EU _ _ _
def tb(p:bB->Bool)(l:List bB):((l.filter p).map bB.day).length<=l.length:=by rw[List.length_map];exact List.length_filter_le _ _
def I1(d:ea)(l:List bB)(part:List Nat)(day:Int)(hlen:l.length<=100000)(hw:0<=d.within/\d.within<=40000)(hbd:∀n∈qY d l part day,0<=n/\n<=40000):PC prog 147 [.ag (bf d),an 14 l ar,ah part,ab day] (·=.cx [ab (lJ d l part day).1,ai (lJ d l part day).2]):=by
 have hd1:=z6 l [Dh part day,FQ d] hlen ge (by intro c hc;rcases t7 hc with rfl | hc;exact J4 _ _;rw[t6 hc];exact NS _);have hd2:=z6 l [Dh part day,xS d] hlen ge (by intro c hc;rcases t7 hc with rfl | hc;exact J4 _ _;rw[t6 hc];exact KG _);rw[HJ] at hd1;rw[ET] at hd2;have hnl:(Da d l part day).length<=l.length:=tb _ _;have hbl:(qY d l part day).length<=l.length:=tb _ _;refine pB 57 Tryz.func147 ?_;unfold lJ;generalize Da d l part day=notes at hd1 hnl ⊢;generalize qY d l part day=begins at hd2 hbl hbd ⊢
 have hlenb:begins.length<=1000000:=by omega
 refine(aD @bf.eq_1) ?_;refine zZ [(1,an 14 l ar),(4,.ip (bf d)),(6,.ptr 1 0),(7,.ptr 2 0)] 0 rfl (gw (bu @an.eq_1 @bf.eq_1))<|zZ [(1,an 14 l ar),(4,.ip (bf d)),(6,.ip [ah part]),(7,.ptr 2 0)] 1 rfl (gw (bu @an.eq_1 @bf.eq_1))<|zZ [(1,an 14 l ar),(4,.ip (bf d)),(6,.ip [ah part]),(7,.ip [ab day])] 2 rfl (gw (bu @an.eq_1 @bf.eq_1))<|zA [(1,an 14 l ar),(4,.ip (bf d)),(6,.ip [ah part]),(7,.ip [ab day])] [] zH<|(zV)<|(e9 (gm @Hb (show AV.ef.cells=[AV.ef] from rfl) @aM.eq_1 @eI.eq_1)) ?_;refine oZ [(22,an 1 [Dh part day,FQ d] kS),(19,an 14 l ar),(10,.fn 228 [] [.ip [ah part],.ip [ab day]]),(1,an 14 l ar),(4,.ip (bf d))] 0 rfl ⟨.inr (.buf rfl (cu.refl rfl) (ap _)),zj⟩<|oA [(22,an 1 [Dh part day,FQ d] kS),(19,an 14 l ar),(10,.fn 228 [] [.ip [ah part],.ip [ab day]]),(1,an 14 l ar),(4,.ip (bf d))] [] zH<|(zK hd1 (hfl:=.inr zr))<|(zR)<|(zV)<|(e9 (gm @Hb (show AV.ef.cells=[AV.ef] from rfl) @aM.eq_1 @eI.eq_1)) ?_;refine oZ [(27,an 1 [Dh part day,xS d] kS),(24,an 14 l ar),(10,.fn 228 [] [.ip [ah part],.ip [ab day]]),(1,an 14 l ar),(4,.ip (bf d)),(11,an 1 notes (aH ab)),(12,ab 0),(13,ai false)] 0 rfl ⟨.inr (.buf rfl (cu.refl rfl) (ap _)),zj⟩<|oA [(27,an 1 [Dh part day,xS d] kS),(24,an 14 l ar),(10,.fn 228 [] [.ip [ah part],.ip [ab day]]),(1,an 14 l ar),(4,.ip (bf d)),(11,an 1 notes (aH ab)),(12,ab 0),(13,ai false)] [] zH<|(zK hd2 (hfl:=.inr zr))<|(zR)<|(zs) ?_;refine Ho begins (λk (aa:Int×Bool)=>0<=aa.1/\aa=(begins.take k).foldl (qA d notes) (0,false)) (λk aa=>[(4,.ip (bf d)),(11,an 1 notes (aH ab)),(12,ab aa.1),(13,ai aa.2),(28,an 1 begins (aH ab)),(29,ab begins.length),(30,ab k)]) (λk aa=>[]) ((0,false)) zH (by exact⟨Int.le_refl _,rfl⟩) ?_;intro k aa hk hall;refine zT begins k ?_ ?_;rintro rfl;rotate_left;intro x hx hlt;rotate_left
 ·refine(gg) ?_;obtain⟨_,haa⟩:=hall;rw[a7] at haa;rw[<-haa]
  exact(zV)<|jZ [.tmp 8,.tmp 9]
 have hst:(begins.take (k+1)).foldl (qA d notes) (0,false)=qA d notes aa x:=by rw[cM hx,b4,<-hall.2];rfl
 obtain⟨hx0,hx1⟩:=hbd x (aS hx);have hct:=vV (l:=notes) (λn=>decide (x<=n)&&decide (n<=x+d.within)) (fid:=232) (first:=[]) (cap:=[.ip [ab x],.ip (bf d)]) i4 (λn _=>L4 n x d ⟨hx0,hx1⟩ hw) ⟨rfl,rfl⟩;rw[qA] at hst;generalize (notes.any λn=>decide (x<=n)&&decide (n<=x+d.within))=met at hct hst
 refine(gA)<|(aD (cJ hlt (aQ (e:=1) (enc:=aH ab) gc hx) @aH.eq_1))<|zA [(4,.ip (bf d)),(11,an 1 notes (aH ab)),(12,ab aa.1),(13,ai aa.2),(15,.ptr 0 0),(28,an 1 begins (aH ab)),(29,ab begins.length),(30,ab k)] [.cells [ab x]] zH ?_;refine zZ [(4,.ip (bf d)),(11,an 1 notes (aH ab)),(12,ab aa.1),(13,ai aa.2),(15,.ip [ab x]),(28,an 1 begins (aH ab)),(29,ab begins.length),(30,ab k)] 0 rfl ⟨.inl rfl,.inl rfl,.inl rfl,.inl rfl,.inr (.ptr rfl (cu.refl rfl) (a6 _)),zj⟩<|zA [(4,.ip (bf d)),(11,an 1 notes (aH ab)),(12,ab aa.1),(13,ai aa.2),(15,.ip [ab x]),(28,an 1 begins (aH ab)),(29,ab begins.length),(30,ab k)] [] zH<|(zC)<|(zK hct)<|(zR)<|(aD (bu @bf.eq_1 (Ct (P:=prog) (t:=3) (show -9223372036854775808<=x+d.within/\x+d.within<=9223372036854775807 from⟨by omega,by omega⟩)))) ?_
 cases met;rotate_left
 ·simp only[dt,Bool.false_and,c6,↓reduceIte] at hst
  refine(El)<|(aD (zi hlt hlenb)) ?_;refine w8 hlt (aa) zH (⟨hall.1,hst.symm⟩)
 obtain⟨a,fd⟩:=aa;cases fd
 ·simp only[e4,cp,Bool.true_or,↓reduceIte] at hst
  refine(w6)<|(zV)<|(aD (zi hlt hlenb)) ?_;refine w8 hlt ((x+d.within,true)) zH (⟨by show 0<=x+d.within;omega,hst.symm⟩)
 simp only[e4,dt,cp,fl] at hst;cases g1:decide (x+d.within<a)
 ·simp only[g1,c6,↓reduceIte] at hst
  refine(aD g1)<|(zN)<|(aD (zi hlt hlenb)) ?_;refine w8 hlt ((a,true)) zH (⟨hall.1,hst.symm⟩)
 ·simp only[g1,↓reduceIte] at hst
  refine(aD g1)<|(cI)<|(aD (zi hlt hlenb)) ?_;refine w8 hlt ((x+d.within,true)) zH (⟨by show 0<=x+d.within;omega,hst.symm⟩)
def qe(c:List aV):Nat->List bB->List aq->List aq×Int×Int
 | _,[],s=>(s,-1,0)
 | i,e::r,s=>if (aX c s e).2=0 then qe c (i+1) r (aX c s e).1 else ([],(i:Int),(aX c s e).2)
def Ku{c:List aV}{dmg:bC}:∀(l:List bB) (i:Nat) (s:List aq),(qe c i l s).1=(RT false c dmg l s).1/\(qe c i l s).2.2=(RT false c dmg l s).2
 | [],_,_=>⟨rfl,rfl⟩
 | e::r,i,s=>by
  rw[qe,RT];split
  ·rw[v6 ge];exact Ku r (i+1) _
  ·exact⟨rfl,rfl⟩
def FD(lc:jx)(ok:Bool):SO:=.loop lc (cond ok .ready .done) (cond ok none (some .ret)) [(4,.ptr 1 0),(5,.ptr 2 0),(6,.ptr 3 0),(7,.ptr 4 0),(8,.ptr 5 0)]
def yF(o:Nat)(lc:jx)(ok:Bool)(h:5<o):bF o (FD lc ok)=FD lc ok:=by
 have h1:¬1=o:=by omega
 have h2:¬2=o:=by omega
 have h3:¬3=o:=by omega
 have h4:¬4=o:=by omega
 have h5:¬5=o:=by omega
 simp[FD,bF,bX,aM,Ev.names,eI,h1,h2,h3,h4,h5]
def uV:Code->Option (Code×Code)
 | .seq a b=>match uV a with
  | some x=>some x
  | none=>uV b
 | .block _ c=>uV c
 | .rangeFunc _ _ a b=>some (a,b)
 | _=>none
def xb(lc:jx):Prop:=(prog.funcs[(226:Nat)]?.bind λfn=>fn.body.bind uV)=some (lc.a,lc.b)
abbrev Db(lc:jx)(ps:List aq)(k:Nat):List SO:=[FD lc true,.cells [an 14 ([]:List aq) ae],.cells [ab 0],.cells [ab 0],.cells [an 14 ps ae],.cells [ab k]]
abbrev pR:Fm:=[(1000000,.ptr 0 0),(1000001,.ptr 1 0),(1000002,.ptr 2 0),(1000003,.ptr 3 0),(1000004,.ptr 4 0),(1000005,.ptr 5 0)]
def Ri:∀i,i<6->i∉([]:List Nat)->aK pR (1000000+i)=.ptr i 0:=by
 rintro(_ | _ | _ | _ | _ | _ | i) h _
 all_goals first
  | rfl
  | (exfalso;omega)
def Ef(c:List aV)(ev:List bB)(lc:jx)(hcd:xb lc)(hln:lc.n=30)(hlp:lc.ps=#[19,20])(hc:mz c)(hlen:ev.length<20)(hkm:∀e∈ev,lN e):
 SC prog 312 [.a (.fn (.yield lc.id) [] []),.ip [an 14 ev ar],.ip [an 3 c ao]] (Db lc [] 0) [] (λr S'=>r=.cx []/\((qe c 0 ev []).2.2=0/\(qe c 0 ev []).2.1 = -1/\S'=Db lc (qe c 0 ev []).1 ev.length\/(qe c 0 ev []).2.2≠0/\(qe c 0 ev []).1=[]/\∃ps k,S'=[FD lc false,.cells [an 14 ([]:List aq) ae],.cells [ab (qe c 0 ev []).2.1],.cells [ab (qe c 0 ev []).2.2],.cells [an 14 ps ae],.cells [ab k]])):=by
 refine SC.body (n:=33) dz func312 rfl rfl g9 (W:=pR) rfl ?_;have hk6:=λok=>yF 6 lc ok g9;have hk7:=λok=>yF 7 lc ok g9;have hk8:=λok=>yF 8 lc ok g9
 have hlen1:ev.length<=1000000:=by omega
 refine(zs) ?_;refine aG.r0 ii (by simp only[cL,bI,an,aC,m7,m6,↓reduceIte,af,aj,ax,ad,al,ak,au,bl,↓hk6,an];first | done | rfl) ?_;refine(zs) ?_;refine aG.r0 ii (by simp only[cL,bI,an,aC,m7,m6,↓reduceIte,af,aj,ax,ad,al,ak,au,bl,↓hk6,an];first | done | rfl) ?_;refine zA ((11,ab 0)::(0,.a (.fn (.yield lc.id) [] []))::(1,.ip [an 14 ev ar])::(2,.ip [an 3 c ao])::(4,.ptr 6 0)::(9,an 14 ev ar)::(10,ab ev.length)::pR) [FD lc true,.cells [an 14 ([]:List aq) ae],.cells [ab 0],.cells [ab 0],.cells [an 14 ([]:List aq) ae],.cells [ab 0],.cells [.a (.slice none 0 0 (some 0))]] zH ?_;refine aG.fg (Fg.TD (S':=[FD lc true,.cells [an 14 ([]:List aq) ae],.cells [ab 0],.cells [ab 0],.cells [an 14 ([]:List aq) ae],.cells [ab 0],.cells [an 14 ([]:List aq) ae]]) ⟨.inr ⟨by simp,.inl rfl⟩,.inr ⟨by simp,.inl rfl⟩,.inr ⟨by simp,.inl rfl⟩,.inr ⟨by simp,.inl rfl⟩,.inr ⟨by simp,.inl rfl⟩,.inr ⟨by simp,.inl rfl⟩,.inr ⟨by simp,.inr ⟨_,_,rfl,rfl,.cons (.nil _) .nil⟩⟩,trivial⟩) ?_
 (try change aG _ _ _ _ _)
 refine(zs) ?_;refine Ho ev (λk (ps:List aq)=>(qe c 0 ev []=qe c k (ev.drop k) ps/\(∀p∈ps,fq p)/\ps.length<=k)) (λk ps=>(11,ab k)::(0,.a (.fn (.yield lc.id) [] []))::(1,.ip [an 14 ev ar])::(2,.ip [an 3 c ao])::(4,.ptr 6 0)::(9,an 14 ev ar)::(10,ab ev.length)::pR) (λk ps=>Db lc ps k++[.cells [an 14 ps ae]]) ([]) zH (by exact⟨rfl,(λp hp=>by cases hp),ap _⟩) ?_;intro k ps hk hall;refine zT ev k ?_ ?_;rintro rfl;rotate_left;intro e hx hlt;rotate_left
 ·refine(zN) ?_;obtain⟨hr,_,_⟩:=hall;rw[List.drop_length] at hr;refine zA pR (Db lc ps ev.length) zH ?_;refine aG.exit ?_
  (try simp only[eN,c8,bW,bK,if_true])
  exact KD.of (rs:=[]) rfl rfl rfl ⟨rfl,.inl (by rw[hr];exact⟨rfl,rfl,rfl⟩)⟩ (ap _) Ri
 obtain⟨hr,hps,hpl⟩:=hall;rw[eV hx] at hr;have heo:=hkm e (aS hx);have hap:=zJ c ps e hc i4 hps heo;obtain⟨q1,q2,q3,q4⟩:=oy (c:=c) hps heo;rw[qe] at hr;obtain⟨nx,er,hne⟩:∃nx er,aX c ps e=(nx,er):=⟨_,_,rfl⟩;rw[hne] at hap q1 q2 q3 q4 hr;simp only at q1 q2 q3 q4 hr;rw[dw] at hap
 refine(gA)<|(zs) ?_;refine aG.r0 ii (by simp only[cL,bI,an,aC,m7,m6,↓reduceIte,af,aj,ax,ad,al,ak,au,bl,↓hk7,hlt,aQ (e:=14) (enc:=ar) gc hx,dw];first | done | rfl) ?_;refine zZ ((6,.ip (eA e))::(11,ab k)::(0,.a (.fn (.yield lc.id) [] []))::(1,.ip [an 14 ev ar])::(2,.ip [an 3 c ao])::(4,.ptr 6 0)::(9,an 14 ev ar)::(10,ab ev.length)::pR) 7 rfl (gw @an.eq_1) ?_
 (try change aG _ _ _ _ _)
 refine(zC)<|(zK hap (hfl:=.inr zr)) ?_;refine aL.r0 ii (by simp only[cL,bI,an,aC,m7,m6,↓reduceIte,af,aj,ax,ad,al,ak,au,bl,j8,↓hk7,↓hk8];first | done | rfl) ?_;refine zZ ((8,ab er)::(7,.ip [an 14 nx ae])::(11,ab k)::(0,.a (.fn (.yield lc.id) [] []))::(1,.ip [an 14 ev ar])::(2,.ip [an 3 c ao])::(4,.ptr 6 0)::(9,an 14 ev ar)::(10,ab ev.length)::pR) 8 rfl ⟨.inl rfl,.inr (.ptr rfl (cu.refl rfl) (a6 _)),zj⟩<|zA ((8,ab er)::(7,.ip [an 14 nx ae])::(11,ab k)::(0,.a (.fn (.yield lc.id) [] []))::(1,.ip [an 14 ev ar])::(2,.ip [an 3 c ao])::(4,.ptr 6 0)::(9,an 14 ev ar)::(10,ab ev.length)::pR) (Db lc ps k++[.cells [an 14 ps ae]]) zH<|(zC)<|oA ((22,.a (.fn (.yield lc.id) [] []))::(23,.ag [an 14 nx ae])::(24,ab er)::(8,ab er)::(7,.ip [an 14 nx ae])::(11,ab k)::(0,.a (.fn (.yield lc.id) [] []))::(1,.ip [an 14 ev ar])::(2,.ip [an 3 c ao])::(4,.ptr 6 0)::(9,an 14 ev ar)::(10,ab ev.length)::pR) (Db lc ps k++[.cells [an 14 ps ae]]) zH ?_;refine aL.y (vs:=[.ag [an 14 nx ae],ab er]) (oo:=0) ii rfl rfl ii rfl rfl rfl ii rfl (by rw[hlp];rfl) (by rw[hln];rfl) (by rw[hln];decide) (by rw[hlp,hln];rfl) λro'=>?_
 have hcd2:=hcd;unfold xb at hcd2;rw[d9] at hcd2;have hcd3:=Option.some.inj (hcd2.symm.trans ii);obtain⟨ha,hbb⟩:=Prod.mk.inj hcd3;rw[ha,hlp,hln];change aG _ _ _ ⟨(20,ab er)::(19,.ag [an 14 nx ae])::(4,.ptr 1 0)::(5,.ptr 2 0)::(6,.ptr 3 0)::(7,.ptr 4 0)::(8,.ptr 5 0)::(20000022,.a (.fn (.yield lc.id) [] []))::(20000023,.ag [an 14 nx ae])::(20000024,ab er)::(20000008,ab er)::(20000007,.ip [an 14 nx ae])::(20000011,ab k)::(20000000,.a (.fn (.yield lc.id) [] []))::(20000001,.ip [an 14 ev ar])::(20000002,.ip [an 3 c ao])::(20000004,.ptr 6 0)::(20000009,an 14 ev ar)::(20000010,ab ev.length)::[(21000000,.ptr 0 0),(21000001,.ptr 1 0),(21000002,.ptr 2 0),(21000003,.ptr 3 0),(21000004,.ptr 4 0),(21000005,.ptr 5 0)],30,[FD lc true,.cells [an 14 ([]:List aq) ae],.cells [ab 0],.cells [ab 0],.cells [an 14 ps ae],.cells [ab k],.cells [an 14 ps ae]],[]⟩ _
 refine zA ((20,ab er)::(19,.ag [an 14 nx ae])::(4,.ptr 1 0)::(5,.ptr 2 0)::(6,.ptr 3 0)::(7,.ptr 4 0)::(8,.ptr 5 0)::(20000008,ab er)::(20000007,.ip [an 14 nx ae])::(20000011,ab k)::(20000000,.a (.fn (.yield lc.id) [] []))::(20000001,.ip [an 14 ev ar])::(20000002,.ip [an 3 c ao])::(20000004,.ptr 6 0)::(20000009,an 14 ev ar)::(20000010,ab ev.length)::[(21000000,.ptr 0 0),(21000001,.ptr 1 0),(21000002,.ptr 2 0),(21000003,.ptr 3 0),(21000004,.ptr 4 0),(21000005,.ptr 5 0)]) [FD lc true,.cells [an 14 ([]:List aq) ae],.cells [ab 0],.cells [ab 0],.cells [an 14 ps ae],.cells [ab k],.cells [an 14 ps ae]] zH<|(zs) ?_;refine aG.r0 ii (by simp only[cL,bI,an,aC,m7,m6,↓reduceIte,af,aj,ax,ad,al,ak,au,bl,↓hk7];first | done | rfl) ?_;refine(zs) ?_;refine aG.r0 ii (by simp only[cL,bI,an,aC,m7,m6,↓reduceIte,af,aj,ax,ad,al,ak,au,bl,↓hk7];first | done | rfl) ?_;refine⟨rfl,0,none,[(4,.ptr 1 0),(5,.ptr 2 0),(6,.ptr 3 0),(7,.ptr 4 0),(8,.ptr 5 0)],rfl,?_⟩
 rw[hbb];change aG _ _ _ ⟨_,30,[.loop lc .busy none [(4,.ptr 1 0),(5,.ptr 2 0),(6,.ptr 3 0),(7,.ptr 4 0),(8,.ptr 5 0)],.cells [an 14 ([]:List aq) ae],.cells [ab 0],.cells [ab 0],.cells [an 14 ps ae],.cells [ab k],.cells [an 14 ps ae],.cells [an 14 nx ae]],[]⟩ _;refine(zB) ?_;by_cases herr:er=0
 ·rw[ut herr] at hr;subst herr
  refine(El)<|(zV)<|(aD (Ct (show -9223372036854775808<=(k:Int)+1/\(k:Int)+1<=9223372036854775807 from⟨by omega,by omega⟩))) ?_;refine⟨rfl,0,.busy,none,[(4,.ptr 1 0),(5,.ptr 2 0),(6,.ptr 3 0),(7,.ptr 4 0),(8,.ptr 5 0)],rfl,?_⟩
  simp only[yb,laid,ad,ay,↓reduceIte]
  refine oA ((25,ai true)::(8,ab 0)::(7,.ip [an 14 nx ae])::(11,ab k)::(0,.a (.fn (.yield lc.id) [] []))::(1,.ip [an 14 ev ar])::(2,.ip [an 3 c ao])::(4,.ptr 6 0)::(9,an 14 ev ar)::(10,ab ev.length)::pR) (Db lc nx (k+1)++[.cells [an 14 ps ae]]) (cf (lk @Ay.eq_1 @Ax.eq_1 @yd.eq_1 @yb.eq_1 @FD.eq_1))<|(zR)<|(lj)<|(aD (zi hlt hlen1)) ?_;refine w8 hlt (nx) zH (⟨hr,q1,by omega⟩)
 rw[v6 herr] at hr
 refine(aD (wd herr))<|(zY)<|zA ((10,ab er)::(4,.ptr 1 0)::(5,.ptr 2 0)::(6,.ptr 3 0)::(7,.ptr 4 0)::(8,.ptr 5 0)::(20000008,ab er)::(20000007,.ip [an 14 nx ae])::(20000011,ab k)::(20000000,.a (.fn (.yield lc.id) [] []))::(20000001,.ip [an 14 ev ar])::(20000002,.ip [an 3 c ao])::(20000004,.ptr 6 0)::(20000009,an 14 ev ar)::(20000010,ab ev.length)::[(21000000,.ptr 0 0),(21000001,.ptr 1 0),(21000002,.ptr 2 0),(21000003,.ptr 3 0),(21000004,.ptr 4 0),(21000005,.ptr 5 0)]) [.loop lc .busy none [(4,.ptr 1 0),(5,.ptr 2 0),(6,.ptr 3 0),(7,.ptr 4 0),(8,.ptr 5 0)],.cells [an 14 ([]:List aq) ae],.cells [ab 0],.cells [ab 0],.cells [an 14 ps ae],.cells [ab k],.cells [an 14 ps ae]] zH ?_;refine aG.fg (Fg.TD (S':=[.loop lc .busy none [(4,.ptr 1 0),(5,.ptr 2 0),(6,.ptr 3 0),(7,.ptr 4 0),(8,.ptr 5 0)],.cells [.any],.cells [.any],.cells [ab 0],.cells [an 14 ps ae],.cells [ab k],.cells [an 14 ps ae]]) ⟨.inr ⟨by simp,.inl rfl⟩,.inr ⟨by simp,.inr ⟨_,_,rfl,rfl,.cons (.any _) .nil⟩⟩,.inr ⟨by simp,.inr ⟨_,_,rfl,rfl,.cons (.any _) .nil⟩⟩,.inr ⟨by simp,.inl rfl⟩,.inr ⟨by simp,.inl rfl⟩,.inr ⟨by simp,.inl rfl⟩,.inr ⟨by simp,.inl rfl⟩,trivial⟩) ?_
 (try change aG _ _ _ _ _)
 (repeat refine aG.seq ?_)
 have hv0:∀(i:Nat) (v:SV),vo (λ_=>False) i v=.any:=λi v=>nf λh=>h;have hv5:∀(i:Nat),i<5->∀v:SV,vo (λj=>j<5) i v=v:=λi h v=>cG h;refine aG.zu 5 8 (λL=>⟨(23,vo L 0 (.ag [aR]))::(24,vo L 1 (ab k))::(25,vo L 2 (ab er))::(10,ab er)::(4,.ptr 1 0)::(5,.ptr 2 0)::(6,.ptr 3 0)::(7,.ptr 4 0)::(8,.ptr 5 0)::(20000008,ab er)::(20000007,.ip [an 14 nx ae])::(20000011,ab k)::(20000000,.a (.fn (.yield lc.id) [] []))::(20000001,.ip [an 14 ev ar])::(20000002,.ip [an 3 c ao])::(20000004,.ptr 6 0)::(20000009,an 14 ev ar)::(20000010,ab ev.length)::[(21000000,.ptr 0 0),(21000001,.ptr 1 0),(21000002,.ptr 2 0),(21000003,.ptr 3 0),(21000004,.ptr 4 0),(21000005,.ptr 5 0)],30,[.loop lc .busy none [(4,.ptr 1 0),(5,.ptr 2 0),(6,.ptr 3 0),(7,.ptr 4 0),(8,.ptr 5 0)],.cells [vo L 3 aR],.cells [vo L 4 (ab k)],.cells [ab 0],.cells [an 14 ps ae],.cells [ab k],.cells [an 14 ps ae]],[]⟩) rfl zW ii g9 zW (cf hv0) (λL=>rfl) ?_ ?_
 ·rintro L i o him hC hr
  rcases i with _ | _ | _ | _ | _ | i
  rotate_right
  ·exact un him i4
  ·cases hr.ju;refine(zR) ?_;exact(cf @bz)
  ·cases hr.ju;refine(zR) ?_;exact(cf @bz)
  ·cases hr.ju;refine(zR) ?_;exact(cf @bz)
  ·cases hr.ju;have d0:L 0:=hr.dep ⟨0,.data⟩ ge rfl;refine(cP (iM d0)) ?_;exact(cf (bu @bz (iM d0)))
  ·cases hr.ju;have d1:L 1:=hr.dep ⟨1,.data⟩ ge rfl;refine(cP (iM d1)) ?_;exact(cf (bu @bz (iM d1)))
 change aL _ _ _ _ _ _
 refine oA ((25,ab er)::(6,.ptr 3 0)::(4,.ptr 1 0)::(5,.ptr 2 0)::(7,.ptr 4 0)::(8,.ptr 5 0)::(20000008,ab er)::(20000007,.ip [an 14 nx ae])::(20000011,ab k)::(20000000,.a (.fn (.yield lc.id) [] []))::(20000001,.ip [an 14 ev ar])::(20000002,.ip [an 3 c ao])::(20000004,.ptr 6 0)::(20000009,an 14 ev ar)::(20000010,ab ev.length)::[(21000000,.ptr 0 0),(21000001,.ptr 1 0),(21000002,.ptr 2 0),(21000003,.ptr 3 0),(21000004,.ptr 4 0),(21000005,.ptr 5 0)]) [.loop lc .busy none [(4,.ptr 1 0),(5,.ptr 2 0),(6,.ptr 3 0),(7,.ptr 4 0),(8,.ptr 5 0)],.cells [aR],.cells [ab k],.cells [ab 0],.cells [an 14 ps ae],.cells [ab k],.cells [an 14 ps ae]] (cf (cJ (hv5 2 g9) (hv5 3 g9) (hv5 4 g9)))<|(zR) ?_;refine aG.ret ?_
 (try simp only[eN,c8,bW,bK])
 refine⟨trivial,0,.busy,none,[(4,.ptr 1 0),(5,.ptr 2 0),(6,.ptr 3 0),(7,.ptr 4 0),(8,.ptr 5 0)],rfl,?_⟩;simp only[yb,laid,ad,ay,↓reduceIte]
 refine oA ((25,ai false)::(8,ab er)::(7,.ip [an 14 nx ae])::(11,ab k)::(0,.a (.fn (.yield lc.id) [] []))::(1,.ip [an 14 ev ar])::(2,.ip [an 3 c ao])::(4,.ptr 6 0)::(9,an 14 ev ar)::(10,ab ev.length)::pR) [FD lc false,.cells [aR],.cells [ab k],.cells [ab er],.cells [an 14 ps ae],.cells [ab k],.cells [an 14 ps ae]] (cf (lk @Ay.eq_1 @Ax.eq_1 @yd.eq_1 @yb.eq_1 @FD.eq_1))<|(zR)<|(zY)<|zA pR [FD lc false,.cells [aR],.cells [ab k],.cells [ab er],.cells [an 14 ps ae],.cells [ab k]] zH ?_;refine aG.fg (Fg.TD (S':=[FD lc false,.cells [an 14 ([]:List aq) ae],.cells [ab k],.cells [ab er],.cells [an 14 ps ae],.cells [ab k]]) ⟨.inr ⟨by simp,.inl rfl⟩,.inr ⟨by simp,.inr ⟨_,_,rfl,rfl,.cons (.nil _) .nil⟩⟩,.inr ⟨by simp,.inl rfl⟩,.inr ⟨by simp,.inl rfl⟩,.inr ⟨by simp,.inl rfl⟩,.inr ⟨by simp,.inl rfl⟩,trivial⟩) ?_;refine aG.ret ?_
 (try simp only[eN,c8,bW,bK])
 exact KD.of (rs:=[]) rfl rfl rfl ⟨rfl,.inr (by rw[hr];exact⟨herr,rfl,ps,k,rfl⟩)⟩ (ap _) Ri
def Eg(c:List aV)(ev:List bB):PC prog 281 [.ag [an 3 c ao],an 14 ev ar] (·=.fn 312 [] [.ip [an 14 ev ar],.ip [an 3 c ao]]):=by
 refine pB 6 Tryz.func281 ?_;refine(zV) ?_;exact zZ [(2,.ip [an 3 c ao]),(3,.ptr 1 0)] 0 rfl (gw @an.eq_1)<|zZ [(2,.ip [an 3 c ao]),(3,.ip [an 14 ev ar])] 1 rfl (gw @an.eq_1)<|zA [(2,.ip [an 3 c ao]),(3,.ip [an 14 ev ar])] [] zH<|(zV)<|zo [.tmp 4]
def qL(r:List aq×Int×Int):SV:=.cx [.ag [an 14 r.1 ae],ab r.2.1,ab r.2.2]
def AS(c:List aV)(l:List bB):List aq×Int×Int:=if qk c=true then qe c 0 (eL l) [] else ([],-1,1)
def Pe.Ud{P:Program}{fn:Func}{Q:SV->Prop}{e:Ex}{st:eu}(h:Bh P fn Q e st):Pe P fn Q e st:=by
 obtain⟨he,hd,h⟩:=h;refine⟨he,?_⟩;rw[hd];exact h
def Mc(c:List aV)(l:List bB)(hc:mz c)(hlen:l.length<20)(hl:∀e∈l,lN e):PC prog 226 [.ag [an 3 c ao],an 14 l ar] (·=qL (AS c l)):=by
 refine PC.sZ (n:=30) dz d9 rfl rfl g9 ?_;refine(zV) ?_;refine zZ [(1,an 14 l ar),(2,.ip [an 3 c ao]),(4,.ptr 1 0),(5,.ptr 2 0),(6,.ptr 3 0)] 0 rfl (gw @an.eq_1)<|zA [(1,an 14 l ar),(2,.ip [an 3 c ao]),(4,.ptr 1 0),(5,.ptr 2 0),(6,.ptr 3 0)] [.gone,.cells [.a (.slice none 0 0 (some 0))],.cells [ab 0],.cells [ab 0]] zH ?_;refine aG.fg (Fg.rn (f':=[(1,an 14 l ar),(2,.ip [an 3 c ao]),(4,.ptr 0 0),(5,.ptr 1 0),(6,.ptr 2 0)]) (n:=30) (S':=[.cells [.a (.slice none 0 0 (some 0))],.cells [ab 0],.cells [ab 0]]) [1,2,3] g9 rfl (by (simp only[sA,gn,bI,an,bp (aE bU l)])<;>(repeat' apply ce)<;>first | trivial | exact .inl rfl | exact .inr rfl | exact .inr trivial | exact .inl trivial) (by (simp only[cL,gn,bI,an,bp (aE bU l)])<;>(repeat' apply ce)<;>first | rfl | trivial)) ?_
 (try change aG _ _ _ _ _)
 unfold AS;cases h1:qk c
 ·have hv:=nM c hc;rw[h1] at hv
  refine(zC)<|(zK hv)<|(zR)<|(cI) ?_;refine aG.ret ?_
  (try simp only[eN,c8,bW,bK])
  refine Pe.Ud ?_;exact zO [.cell 4 46,.cell 5 3,.cell 6 47] (r:=.cx [.ag [.sl 0 14 []],ab (-1),ab 1]) (hw:=zv)
 have hv:=nM c hc;rw[h1] at hv
 refine(zC)<|(zK hv)<|(zR)<|(lj)<|(zV)<|zA [(1,an 14 l ar),(2,.ip [an 3 c ao]),(4,.ptr 0 0),(5,.ptr 1 0),(6,.ptr 2 0),(7,.ptr 3 0),(8,.ptr 4 0)] [.cells [.a (.slice none 0 0 (some 0))],.cells [ab 0],.cells [ab 0],.cells [.a (.slice none 0 0 (some 0))],.cells [ab 0]] zH ?_;refine aG.fg (Fg.TD (S':=[.cells [an 14 ([]:List aq) ae],.cells [ab 0],.cells [ab 0],.cells [an 14 ([]:List aq) ae],.cells [ab 0]]) ⟨.inr ⟨by simp,.inr ⟨_,_,rfl,rfl,.cons (.nil _) .nil⟩⟩,.inr ⟨by simp,.inl rfl⟩,.inr ⟨by simp,.inl rfl⟩,.inr ⟨by simp,.inr ⟨_,_,rfl,rfl,.cons (.nil _) .nil⟩⟩,.inr ⟨by simp,.inl rfl⟩,trivial⟩) ?_
 (try change aG _ _ _ _ _)
 have hkm:∀e∈eL l,lN e:=λe he=>hl e ((u9 _ _).mem_iff.1 he)
 have hsl:(eL l).length<20:=by rw[eL,yv];exact hlen
 have hso:=wj l hlen;generalize eL l=ev at hkm hsl hso ⊢;rw[ut rfl];have hv0:∀(i:Nat) (v:SV),vo (λ_=>False) i v=.any:=λi v=>nf λh=>h;have hv3:∀(i:Nat),i<3->∀v:SV,vo (λj=>j<3) i v=v:=λi h v=>cG h
 (repeat refine aG.seq ?_)
 refine aG.zu 3 6 (λL=>⟨(15,vo L 0 (.ag [an 3 c ao]))::(16,vo L 1 (an 14 l ar))::(17,vo L 2 (an 14 ev ar))::(1,an 14 l ar)::(2,.ip [an 3 c ao])::[(4,.ptr 0 0),(5,.ptr 1 0),(6,.ptr 2 0),(7,.ptr 3 0),(8,.ptr 4 0)],30,[.cells [an 14 ([]:List aq) ae],.cells [ab 0],.cells [ab 0],.cells [an 14 ([]:List aq) ae],.cells [ab 0]],[]⟩) rfl zW ii g9 zW (cf hv0) (λL=>rfl) ?_ ?_
 ·rintro L i o him hC hr
  rcases i with _ | _ | _ | i
  rotate_right
  ·exact un him i4
  ·cases hr.ju;refine(zR) ?_;exact(cf @bz)
  ·cases hr.ju;refine(zR) ?_;exact(cf @bz)
  ·cases hr.ju;have d1:L 1:=hr.dep ⟨1,.data⟩ ge rfl;refine(zK hso (hc:=Cg (iM d1)) (hfl:=.inr zr)) ?_;refine .nil ?_;exact(cf (bu @bz (iM d1)))
 change aL _ _ _ _ _ _
 refine oA ((15,.ag [an 3 c ao])::(17,an 14 ev ar)::[(4,.ptr 0 0),(5,.ptr 1 0),(6,.ptr 2 0),(7,.ptr 3 0),(8,.ptr 4 0)]) [.cells [an 14 ([]:List aq) ae],.cells [ab 0],.cells [ab 0],.cells [an 14 ([]:List aq) ae],.cells [ab 0]] (cf (bu (hv3 0 g9) (hv3 2 g9)))<|(zK (Eg c ev) (hfl:=.inr zr)) ?_;refine .nil ?_
 change aG _ _ _ _ _;refine zA ((18,.fn 312 [] [.ip [an 14 ev ar],.ip [an 3 c ao]])::[(4,.ptr 0 0),(5,.ptr 1 0),(6,.ptr 2 0),(7,.ptr 3 0),(8,.ptr 4 0)]) [.cells [an 14 ([]:List aq) ae],.cells [ab 0],.cells [ab 0],.cells [an 14 ([]:List aq) ae],.cells [ab 0]] zH ?_;refine aG.block ?_;refine aG.tP (f1:=[(4,.ptr 0 0),(5,.ptr 1 0),(6,.ptr 2 0),(7,.ptr 3 0),(8,.ptr 4 0)]) dz ii func312 ii T0 ?_;rintro N lc hid hn hps ha hb
 have hcd:xb lc:=by
  unfold xb;rw[d9,ha,hb];rfl
 have hsc:=Ef c ev lc hcd hn hps hc hsl hkm;generalize qe c 0 ev []=q at hsc ⊢;refine⟨[6,0,1,2,3,4],_,_,_,_,hsc,?_,rfl,by decide,?_,?_⟩
 ·simp only[gn,bI,cL,an,bX,aM,↓reduceIte,af,aj,ay,hid,List.map,e5,cons_append,nil_append]
  try rfl
 ·rintro(_ | _ | _ | _ | _ | _ | i) so h
  ·cases h;exact⟨6,rfl,by rfl⟩
  ·cases h;exact⟨0,rfl,by rfl⟩
  ·cases h;exact⟨1,rfl,by rfl⟩
  ·cases h;exact⟨2,rfl,by rfl⟩
  ·cases h;exact⟨3,rfl,by rfl⟩
  ·cases h;exact⟨4,rfl,by rfl⟩
  ·cases h
 rintro r S' ⟨rfl,hS'⟩;have hbq:∀(B:Nat) (l:List aq),dD B (an 14 l ae)=true:=λB l=>gh rfl
 rcases hS' with⟨hq0,hq1,rfl⟩ | ⟨hq0,hq1,ps,k,rfl⟩
 ·refine⟨by simp only[Db,FD,B5,gn,bI,an,aj,al,decide_true,↓hbq];first | done | rfl,6,.ready,none,[(4,.ptr 0 0),(5,.ptr 1 0),(6,.ptr 2 0),(7,.ptr 3 0),(8,.ptr 4 0)],by rfl,by decide,by rfl,?_⟩
  have hS2:(dM (dS (dS [.cells [an 14 ([]:List aq) ae],.cells [ab 0],.cells [ab 0],.cells [an 14 ([]:List aq) ae],.cells [ab 0]] (SO.ml N)) (SO.loop lc .ready none [(4,.ptr 0 0),(5,.ptr 1 0),(6,.ptr 2 0),(7,.ptr 3 0),(8,.ptr 4 0)])) [6,0,1,2,3,4] [] (Db lc q.1 ev.length)).set 6 .gone=[.cells [an 14 ([]:List aq) ae],.cells [ab 0],.cells [ab 0],.cells [an 14 q.1 ae],.cells [ab ev.length],.ml N,.gone]:=by
   have hrq:∀(r:Nat->Nat),mP r (q.1.flatMap ae)=q.1.flatMap ae:=λr=>bp (aE dx q.1);simp only[dM,dS,cA,dh,fQ,gy,i7,i5,List.map,ac,li];rfl
  rw[hS2];change aG _ _ _ ⟨[(4,.ptr 0 0),(5,.ptr 1 0),(6,.ptr 2 0),(7,.ptr 3 0),(8,.ptr 4 0)],30,_,[{ fn:=none,EE:=N,args:=[],cap:=[] }]⟩ _;refine(zV) ?_;refine aG.ret ?_
  (try simp only[eN,c8,bW,bK])
  exact⟨rfl,[(4,.ptr 0 0),(5,.ptr 1 0),(6,.ptr 2 0)],⟨rfl,rfl,rfl,trivial⟩,rfl,.inl ⟨rfl,5,rfl,[.ag [an 14 q.1 ae],ab (-1),ab 0],.cx [.ag [an 14 q.1 ae],ab (-1),ab 0],by rfl,.cx (.cons (.ag zr) (.cons (.a _) (.cons (.a _) .nil))),by rw[qL,hq0,hq1]⟩⟩
 ·have hS2:(dM (dS (dS [.cells [an 14 ([]:List aq) ae],.cells [ab 0],.cells [ab 0],.cells [an 14 ([]:List aq) ae],.cells [ab 0]] (SO.ml N)) (SO.loop lc .ready none [(4,.ptr 0 0),(5,.ptr 1 0),(6,.ptr 2 0),(7,.ptr 3 0),(8,.ptr 4 0)])) [6,0,1,2,3,4] [] [FD lc false,.cells [an 14 ([]:List aq) ae],.cells [ab q.2.1],.cells [ab q.2.2],.cells [an 14 ps ae],.cells [ab k]]).set 6 .gone=[.cells [an 14 ([]:List aq) ae],.cells [ab q.2.1],.cells [ab q.2.2],.cells [an 14 ps ae],.cells [ab k],.ml N,.gone]:=by
   simp only[dM,dS,cA,dh,fQ,gy,i7,i5,List.map,ac,li];rfl
  refine⟨by simp only[FD,B5,gn,bI,an,aj,al,decide_true,↓hbq];first | done | rfl,6,.done,some .ret,[(4,.ptr 0 0),(5,.ptr 1 0),(6,.ptr 2 0),(7,.ptr 3 0),(8,.ptr 4 0)],by rfl,by decide,by rfl,?_⟩;rw[hS2];change aG _ _ _ ⟨[(4,.ptr 0 0),(5,.ptr 1 0),(6,.ptr 2 0),(7,.ptr 3 0),(8,.ptr 4 0)],30,_,[{ fn:=none,EE:=N,args:=[],cap:=[] }]⟩ _;refine aG.ret ?_
  (try simp only[eN,c8,bW,bK])
  exact⟨rfl,[(4,.ptr 0 0),(5,.ptr 1 0),(6,.ptr 2 0)],⟨rfl,rfl,rfl,trivial⟩,rfl,.inl ⟨rfl,5,rfl,[.ag [an 14 ([]:List aq) ae],ab q.2.1,ab q.2.2],.cx [.ag [an 14 ([]:List aq) ae],ab q.2.1,ab q.2.2],by rfl,.cx (.cons (.ag zr) (.cons (.a _) (.cons (.a _) .nil))),by rw[qL,hq1]⟩⟩
def wa(e:bB)(day:Int):PC prog 227 [.ag (ar e),.ip [ab day]] (·=ai (fe day e)):=by
 refine pB 8 Tryz.func227 ?_;exact(aD @dw)<|(zV)<|zo [.tmp 3]
def mL(a b:Nat)(L:Nat->Prop):Nat->Prop:=λ_=>L a/\¬L b
variable{L:Nat->Prop}
def pH{a b i:Nat}(ha:a≠i)(hb:b≠i):mL a b (λj=>L j\/j=i)=mL a b L:=by
 funext x;unfold mL;simp[ha,hb]
def Rf{a b:Nat}(h1:¬L b)(hab:b≠a):mL a b (λj=>L j\/j=a) 0:=⟨.inr rfl,λh=>h.elim h1 hab⟩
def NK{a b:Nat}:¬mL a b (λj=>L j\/j=b) 0:=λh=>h.2 (.inr rfl)
def P1{a b:Nat}(h:¬L a):¬mL a b L 0:=λk=>h k.1
def OL(c:List aV)(l:List bB)(day:Int)(hc:mz c)(hlen:l.length<20)(hl:∀e∈l,lN e):PC prog 145 [.ag [an 3 c ao],an 14 l ar,ab day] (·=qL (AS c (dV (fe day) l))):=by
 refine pB 18 Tryz.func145 ?_;refine(zV) ?_;refine zZ [(1,an 14 l ar),(3,.ip [an 3 c ao]),(5,.ptr 1 0),(6,.ptr 2 0)] 0 rfl (gw @an.eq_1) ?_;refine aG.fg (Fg.rn (f':=(5,.ptr 0 0)::(6,.ptr 1 0)::(1,an 14 l ar)::[(3,.ip [an 3 c ao])]) (n:=18) (S':=[.cells [ab day],.cells [.a (.slice none 0 0 (some 0))]]) [1,2] g9 rfl (by (simp only[sA,gn,bI,an,bp (aE bU l)])<;>(repeat' apply ce)<;>first | trivial | exact .inl rfl | exact .inr rfl | exact .inr trivial | exact .inl trivial) (by (simp only[cL,gn,bI,an,bp (aE bU l)])<;>(repeat' apply ce)<;>first | rfl | trivial)) ?_
 (try change aG _ _ _ _ _)
 obtain⟨kp,hkp⟩:∃kp,kp=dV (fe day) l:=⟨_,rfl⟩
 have hkl:kp.length<=l.length:=by rw[hkp];exact Fo _ _
 have hkm:∀e∈kp,lN e:=λe he=>hl e (by rw[hkp] at he;exact(mem_filter.1 he).1);have hrun:=Mc c kp hc i4 hkm;rw[<-hkp];generalize AS c kp=q at hrun ⊢;have hv0:∀(i:Nat) (v:SV),vo (λ_=>False) i v=.any:=λi v=>nf λh=>h;have hv9:∀(i:Nat),i<9->∀v:SV,vo (λj=>j<9) i v=v:=λi h v=>cG h;have hnq:∀(o:Nat) (L:Nat->Prop) (i:Nat),Ev.names o (vo L i (qL q))=false:=λo L i=>db o L i _ rfl
 (repeat refine aG.seq ?_)
 by_cases hne:l=[]
 ·subst hne;have hk0:kp=[]:=hkp;subst hk0;refine aG.zu 9 14 (λL=>⟨(9,vo L 0 (.ag [an 3 c ao]))::(10,vo L 1 (an 14 ([]:List bB) ar))::(11,vo L 2 (.e0 14))::(12,vo L 3 (.fn 227 [] [.ptr 0 0]))::(13,vo L 4 (.e0 14))::(14,vo L 5 (qL q))::(15,vo L 6 (.ag [an 14 q.1 ae]))::(16,vo L 7 (ab q.2.1))::(17,vo L 8 (ab q.2.2))::(5,.ptr 0 0)::(6,.ptr 1 0)::(1,an 14 ([]:List bB) ar)::[(3,.ip [an 3 c ao])],18,[.cells [ab day],.cells [.a (.slice none 0 0 (some 0))]],[]⟩) rfl zW ii g9 zW (cf hv0) (λL=>rfl) ?_ ?_
  ·rintro L i o him hC hr
   rcases i with _ | _ | _ | _ | _ | _ | _ | _ | _ | i
   rotate_right
   ·exact un him i4
   ·cases hr.ju;refine(zR) ?_;exact(cf @bz)
   ·cases hr.ju;refine(zR) ?_;exact(cf @bz)
   ·cases hr.ju;have d1:L 1:=hr.dep ⟨1,.data⟩ ge rfl;refine zS [] @db sb ?_ (hc:=Cg (iM d1));refine .nil ?_;exact(cf (bu @bz (iM d1)))
   ·cases hr.ju;refine(zR) ?_;exact(cf @bz)
   ·cases hr.ju;have d2:L 2:=hr.dep ⟨2,.data⟩ ge rfl;have d3:L 3:=hr.dep ⟨3,.data⟩ ge rfl;refine zS [0] @db (z7 227 [ab day] rfl (fe day) (λx=>wa x day)) ?_ (hc:=Cg (bu (iM d2) (iM d3)));refine .nil ?_;exact(cf (cJ @bz (iM d2) (iM d3)))
   ·cases hr.ju;have d0:L 0:=hr.dep ⟨0,.data⟩ ge rfl;have d4:L 4:=hr.dep ⟨4,.data⟩ ge rfl;refine(zK hrun (hc:=Cg (bu (iM d0) (iM d4))) (hwk:=.cons (.ag zr) (.cons (.SI 14) .nil)) (hfl:=.inr (.cons (.ag zr) (.cons (.SI 14) .nil)))) ?_;refine .nil ?_;exact(cf (cJ @bz (iM d0) (iM d4)))
   ·cases hr.ju;have d5:L 5:=hr.dep ⟨5,.data⟩ ge rfl;refine(cP (bu (iM d5) @qL.eq_1)) ?_;exact(cf (bu @bz (iM d5)))
   ·cases hr.ju;have d5:L 5:=hr.dep ⟨5,.data⟩ ge rfl;refine(cP (bu (iM d5) @qL.eq_1)) ?_;exact(cf (bu @bz (iM d5)))
   ·cases hr.ju;have d5:L 5:=hr.dep ⟨5,.data⟩ ge rfl;refine(cP (bu (iM d5) @qL.eq_1)) ?_;exact(cf (bu @bz (iM d5)))
  ·change aL _ _ _ _ _ _
   refine oA [(15,.ag [an 14 q.1 ae]),(16,ab q.2.1),(17,ab q.2.2),(6,.ptr 1 0)] [.cells [ab day],.cells [.a (.slice none 0 0 (some 0))]] (cf (cJ (hv9 6 g9) (hv9 7 g9) (hv9 8 g9)))<|(zR) ?_
   change aL _ _ _ _ _ _;refine(zR) ?_;change aL _ _ _ _ _ _
   refine(zR)<|(zE) ?_;exact zO [.cell 6 46,.tmp 7,.tmp 8] (r:=.cx [.ag [an 14 q.1 ae],ab q.2.1,ab q.2.2]) (hw:=zv)
 ·have hne0:¬l.length=0:=λh=>hne (t8 h);have hrq:∀(r:Nat->Nat) (q:List bB),mP r (q.flatMap ar)=q.flatMap ar:=λr q=>bp (aE bU q);have hbq:∀(B:Nat) (q:List bB),iI B (q.flatMap ar)=true:=λB q=>bO (aE bU q);have hkq:=bx bU;have hcl:=sd l i4 hne;have hdel:=z8 227 [ab day] rfl (fe day) (λx=>wa x day) l i4;rw[<-hkp] at hdel;obtain⟨w,hw⟩:∃w,w=kp++List.replicate (l.length-kp.length) bB.zero:=⟨_,rfl⟩
  have hqt:(w.flatMap ar).take (kp.length*14)=kp.flatMap ar:=by
   rw[gN cK,hw,List.take_append_of_le_length (ap _),b9 (ap _)]
  have hql:(w.flatMap ar).length=l.length*14:=by rw[aU cK,hw,li,List.length_replicate];congr 1;omega
  rw[<-hw] at hdel;have hm0:∀v:SV,vo (mL 2 4 λ_=>False) 0 v=.any:=λv=>nf λh=>h.1;have hw0:∀o:SO,wo (mL 2 4 λ_=>False) 0 o=.gone:=λo=>gf λh=>h.1;have hw9:∀o:SO,wo (mL 2 4 λj=>j<9) 0 o=.gone:=λo=>gf λh=>h.2 g9;refine aG.zu 9 14 (λL=>⟨(9,vo L 0 (.ag [an 3 c ao]))::(10,vo L 1 (an 14 l ar))::(11,vo (mL 2 4 L) 0 (.buf 3 l.length 14 none))::(12,vo L 3 (.fn 227 [] [.ptr 0 0]))::(13,vo L 4 (an 14 kp ar))::(14,vo L 5 (qL q))::(15,vo L 6 (.ag [an 14 q.1 ae]))::(16,vo L 7 (ab q.2.1))::(17,vo L 8 (ab q.2.2))::(5,.ptr 0 0)::(6,.ptr 1 0)::(1,an 14 l ar)::[(3,.ip [an 3 c ao])],18,[.cells [ab day],.cells [.a (.slice none 0 0 (some 0))],.gone,wo (mL 2 4 L) 0 (.cells (l.flatMap ar))],[]⟩) rfl zW ii g9 zW (cf (cJ hv0 hm0 hw0)) (λL=>rfl) ?_ ?_
  ·rintro L i o him hC hr
   rcases i with _ | _ | _ | _ | _ | _ | _ | _ | _ | i
   rotate_right
   ·exact un him i4
   ·cases hr.ju;refine(zR) ?_;exact(cf (bu @bz (pH (a:=2) (b:=4) (i:=0) (L:=L) g9 g9)))
   ·cases hr.ju;refine(zR) ?_;exact(cf (bu @bz (pH (a:=2) (b:=4) (i:=1) (L:=L) g9 g9)))
   ·cases hr.ju;have d1:L 1:=hr.dep ⟨1,.data⟩ ge rfl;have n2:¬L 2:=hr.new;have n4:¬L 4:=λh=>n2 (hC 4 _ rfl h ⟨2,.data⟩ ge rfl);refine oA ((9,vo L 0 (.ag [an 3 c ao]))::(10,an 14 l ar)::(12,vo L 3 (.fn 227 [] [.ptr 0 0]))::(13,vo L 4 (an 14 kp ar))::(14,vo L 5 (qL q))::(15,vo L 6 (.ag [an 14 q.1 ae]))::(16,vo L 7 (ab q.2.1))::(17,vo L 8 (ab q.2.2))::(5,.ptr 0 0)::(6,.ptr 1 0)::(1,an 14 l ar)::[(3,.ip [an 3 c ao])]) [.cells [ab day],.cells [.a (.slice none 0 0 (some 0))]] (cf (bu (iM d1) (U1 (P1 (b:=4) n2)))) ?_;refine zS [] (gm @db hrq hbq hkq) hcl ?_;refine .nil ?_;exact(cf (lk hnq @bz (iM d1) (iM (show mL 2 4 (λj=>L j\/j=0+1+1) 0 from Rf n4 g9)) (U2 (show mL 2 4 (λj=>L j\/j=0+1+1) 0 from Rf n4 g9))))
   ·cases hr.ju;refine(zR) ?_;exact(cf (bu @bz (pH (a:=2) (b:=4) (i:=3) (L:=L) g9 g9)))
   ·cases hr.ju;have d2:L 2:=hr.dep ⟨2,.data⟩ ge rfl;have d3:L 3:=hr.dep ⟨3,.data⟩ ge rfl;have n4:¬L 4:=hr.new;refine oA ((9,vo L 0 (.ag [an 3 c ao]))::(10,vo L 1 (an 14 l ar))::(11,.buf 3 l.length 14 none)::(12,.fn 227 [] [.ptr 0 0])::(14,vo L 5 (qL q))::(15,vo L 6 (.ag [an 14 q.1 ae]))::(16,vo L 7 (ab q.2.1))::(17,vo L 8 (ab q.2.2))::(5,.ptr 0 0)::(6,.ptr 1 0)::(1,an 14 l ar)::[(3,.ip [an 3 c ao])]) [.cells [ab day],.cells [.a (.slice none 0 0 (some 0))],.gone,.cells (l.flatMap ar)] (cf (cJ (iM d3) (iM (show mL 2 4 L 0 from⟨d2,n4⟩)) (U2 (show mL 2 4 L 0 from⟨d2,n4⟩)))) ?_;refine zS [3,0] (lk @db @yZ hrq hbq hkq) hdel ?_;refine .nil ?_;refine Fg.trans (Fg.freeze (f':=(13,an 14 kp ar)::(9,vo L 0 (.ag [an 3 c ao]))::(10,vo L 1 (an 14 l ar))::(12,.fn 227 [] [.ptr 0 0])::(14,vo L 5 (qL q))::(15,vo L 6 (.ag [an 14 q.1 ae]))::(16,vo L 7 (ab q.2.1))::(17,vo L 8 (ab q.2.2))::(5,.ptr 0 0)::(6,.ptr 1 0)::(1,an 14 l ar)::[(3,.ip [an 3 c ao])]) 3 rfl gt ⟨.inr (.buf rfl (by rw[hqt];exact cu.refl (aE bU _)) (by rw[hql];exact Nat.mul_le_mul_right 14 hkl)),zj⟩) ?_;exact(cf (gm @bz (iM d3) (Vo (show ¬mL 2 4 (λj=>L j\/j=0+1+1+1+1) 0 from NK)) (U1 (show ¬mL 2 4 (λj=>L j\/j=0+1+1+1+1) 0 from NK))))
   ·cases hr.ju;have d0:L 0:=hr.dep ⟨0,.data⟩ ge rfl;have d4:L 4:=hr.dep ⟨4,.data⟩ ge rfl;refine(zK hrun (hc:=Cg (bu (iM d0) (iM d4))) (hfl:=.inr zr)) ?_;refine .nil ?_;exact(cf (gm @bz (pH (a:=2) (b:=4) (i:=5) (L:=L) g9 g9) (iM d0) (iM d4)))
   ·cases hr.ju;have d5:L 5:=hr.dep ⟨5,.data⟩ ge rfl;refine(cP (bu (iM d5) @qL.eq_1)) ?_;exact(cf (cJ @bz (pH (a:=2) (b:=4) (i:=6) (L:=L) g9 g9) (iM d5)))
   ·cases hr.ju;have d5:L 5:=hr.dep ⟨5,.data⟩ ge rfl;refine(cP (bu (iM d5) @qL.eq_1)) ?_;exact(cf (cJ @bz (pH (a:=2) (b:=4) (i:=7) (L:=L) g9 g9) (iM d5)))
   ·cases hr.ju;have d5:L 5:=hr.dep ⟨5,.data⟩ ge rfl;refine(cP (bu (iM d5) @qL.eq_1)) ?_;exact(cf (cJ @bz (pH (a:=2) (b:=4) (i:=8) (L:=L) g9 g9) (iM d5)))
  ·change aL _ _ _ _ _ _
   refine oA [(15,.ag [an 14 q.1 ae]),(16,ab q.2.1),(17,ab q.2.2),(6,.ptr 1 0)] [.cells [ab day],.cells [.a (.slice none 0 0 (some 0))]] (cf (gm hw9 (hv9 6 g9) (hv9 7 g9) (hv9 8 g9)))<|(zR) ?_
   change aL _ _ _ _ _ _;refine(zR) ?_;change aL _ _ _ _ _ _
   refine(zR)<|(zE) ?_;exact zO [.cell 6 46,.tmp 7,.tmp 8] (r:=.cx [.ag [an 14 q.1 ae],ab q.2.1,ab q.2.2]) (hw:=zv)
structure kO where
 part:List Nat
 fh:List Nat
 day:Int
 deriving DecidableEq
def kO.av(d:kO):List AV:=[.str d.part,.str d.fh,.int .i64 d.day]
def nS(d:kO):AV:=.agg d.av
def kO.eq(a b:kO):fJ eE a.av b.av=decide (a=b):=by
 obtain⟨a1,a2,a3⟩:=a;obtain⟨b1,b2,b3⟩:=b;simp only[kO.av,fJ,eE,AI,sv,ly,cp,fb,kO.mk.injEq,ey]
def L3:Keys prog 137 nS:=
 vb (ks:=[.s,.s,.i .i64]) zW (by simp only[aC,m6]) (λ_=>rfl) kO.eq λ_=>rfl
def GU{S:List SO}{o:Nat}{l:List (kO×Bool)}(a b:List Nat)(n:Int)(u:Bool)(hS:S[o]?=some (bE nS ai l)):ik prog S 134 (.map o) (.ag [ah a,ah b,ab n]) (.a (.bool u))=some (S.set o (bE nS ai (cy (⟨a,b,n⟩:kO) u l))):=
 Ir (uv:=ai) (k:=(⟨a,b,n⟩:kO)) (kt:=137) (et:=4) (by simp only[aC]) L3 hS rfl u
def oH{n:Nat}{l:List (kO×Bool)}:bF n (bE nS ai l)=bE nS ai l:=mr λ_=>l8 _
def ja(l:List bB)(part:List Nat)(day:Int)(kind:List Nat)(m:List (kO×Bool))(d:ea):List (kO×Bool):=
 if rU d=true/\d.kind=kind/\(lJ d l part day).2=true then cy ⟨part,d.name,(lJ d l part day).1⟩ true m else m
def rZ(ds:List ea)(c:List aV)(l:List bB)(part:List Nat)(day:Int):List (kO×Bool):=
 match da (O3 c l day).1 part with
 | none=>[]
 | some p=>if (O3 c l day).2≠0\/p.cN=true then [] else ds.foldl (ja l part day p.kind) []
def J8{K U:Type}[DecidableEq K]{k:K}{v:U}:∀{m:List (K×U)} {e:K×U},e∈cy k v m->e=(k,v)\/e∈m
 | [],e,h=>by unfold cy at h;exact .inl (t6 h)
 | a::m,e,h=>by
  unfold cy at h;split at h
  ·rcases t7 h with rfl | h
   ·exact .inl rfl
   ·exact .inr (am _ h)
  ·rcases t7 h with rfl | h
   ·exact .inr ba
   ·exact(J8 h).imp id (am _)
def tO{K U:Type}[DecidableEq K]{k:K}{v:U}:∀{m:List (K×U)},(m.map (·.1)).Nodup->((cy k v m).map (·.1)).Nodup
 | [],_=>by unfold cy;simp
 | e::m,h=>by
  rw[bk,bv] at h;unfold cy;split
  ·rename_i hk;rw[bk,bv,hk];exact h
  ·rename_i hk;rw[bk,bv];refine⟨λhm=>?_,tO h.2⟩;obtain⟨x,hx,e1⟩:=mem_map.1 hm
   rcases J8 hx with rfl | hx
   ·exact hk e1
   ·exact h.1 (e1▸cc hx)
def Oi{K U:Type}[DecidableEq K]{k x:K}{v:U}{m:List (K×U)}:x∈(cy k v m).map (·.1)↔x=k\/x∈m.map (·.1):=by
 rw[<-kV,<-kV,qx,ch,wp,or_comm]
def J6(ds:List ea)(c:List aV)(l:List bB)(part:List Nat)(day:Int):((rZ ds c l part day).map (·.1)).Nodup/\∀x,x∈(rZ ds c l part day).map (·.1)↔x.part=part/\(x.fh,x.day)∈kY ds c l part day:=by
 unfold rZ kY
 cases da (O3 c l day).1 part with
 | none=>exact⟨bb,λx=>by simp⟩
 | some p=>
  simp only;split
  ·exact⟨bb,λx=>by simp⟩
  ·have key:∀(ds:List ea) (m:List (kO×Bool)),(m.map (·.1)).Nodup->((ds.foldl (ja l part day p.kind) m).map (·.1)).Nodup/\∀x,x∈(ds.foldl (ja l part day p.kind) m).map (·.1)↔x∈m.map (·.1)\/(x.part=part/\(x.fh,x.day)∈ds.filterMap λd=>if rU d=true/\d.kind=p.kind/\(lJ d l part day).2=true then some (d.name,(lJ d l part day).1) else none):=by
    intro ds
    induction ds with
    | nil=>exact λm h=>⟨h,λx=>by simp⟩
    | cons d ds ih=>
     intro m h;rw[b5,List.filterMap_cons];rw[show ja l part day p.kind m d=if rU d=true/\d.kind=p.kind/\(lJ d l part day).2=true then cy ⟨part,d.name,(lJ d l part day).1⟩ true m else m from rfl];by_cases hd:rU d=true/\d.kind=p.kind/\(lJ d l part day).2=true
     ·rw[ut hd,ut hd];obtain⟨i1,i2⟩:=ih _ (tO (k:=(⟨part,d.name,(lJ d l part day).1⟩:kO)) (v:=true) h);refine⟨i1,λx=>?_⟩;rw[i2,Oi,bi];obtain⟨x1,x2,x3⟩:=x;simp only[kO.mk.injEq,m8];constructor
      ·rintro((⟨rfl,rfl,rfl⟩ | h) | ⟨h1,h2⟩)
       ·exact .inr ⟨rfl,.inl ⟨rfl,rfl⟩⟩
       ·exact .inl h
       ·exact .inr ⟨h1,.inr h2⟩
      ·rintro(h | ⟨h1,⟨rfl,rfl⟩ | h2⟩)
       ·exact .inl (.inr h)
       ·exact .inl (.inl ⟨h1,rfl,rfl⟩)
       ·exact .inr ⟨h1,h2⟩
     ·rw[v6 hd,v6 hd];exact ih m h
   obtain⟨k1,k2⟩:=key ds [] bb;exact⟨k1,λx=>by rw[k2];simp⟩
def CD:∀(s acc:List (List Nat)),acc.Pairwise (λa b=>gC a b=true)->s.Pairwise (λa b=>wL a b=true)->(∀a∈acc,∀b∈s,wL a b=true)->
 (s.foldl (λacc x=>if acc.getLast?=some x then acc else acc++[x]) acc).Pairwise (λa b=>gC a b=true)/\∀x,x∈s.foldl (λacc x=>if acc.getLast?=some x then acc else acc++[x]) acc↔x∈acc\/x∈s
 | [],acc,h,_,_=>⟨h,λx=>by simp⟩
 | y::s,acc,h,hs,ha=>by
  rw[ck] at hs;rw[b5];by_cases hl:acc.getLast?=some y
  ·rw[ut hl];have hy:y∈acc:=List.mem_of_getLast? hl;obtain⟨i1,i2⟩:=CD s acc h hs.2 λa h1 b h2=>ha a h1 b (am _ h2);refine⟨i1,λx=>?_⟩;rw[i2,bi];constructor
   ·rintro(h | h)
    ·exact .inl h
    ·exact .inr (.inr h)
   ·rintro(h | rfl | h)
    ·exact .inl h
    ·exact .inl hy
    ·exact .inr h
  ·rw[v6 hl]
   have hlt:∀a∈acc,gC a y=true:=by
    intro a hm;have h1:=ha a hm y ba
    rcases l7 a y with k | k | k
    ·exact k
    ·exfalso;subst k
     obtain⟨z,hz⟩:∃z,acc.getLast?=some z:=by
      cases hq:acc.getLast? with
      | none=>rw[List.getLast?_eq_none_iff] at hq;subst hq;cases hm
      | some z=>exact⟨z,rfl⟩
     obtain⟨pre,rfl⟩:=List.getLast?_eq_some_iff.1 hz
     rcases mem_append.1 hm with hm | hm
     ·have h2:=(List.pairwise_append.1 h).2.2 a hm z (rx rfl);have h3:=ha z (List.mem_append_right _ (rx rfl)) a ba;unfold wL at h3;rw[h2] at h3;cases h3
     ·rw[t6 hm] at hl;exact hl hz
    ·unfold wL at h1;rw[k] at h1;cases h1
   obtain⟨i1,i2⟩:=CD s (acc++[y]) (List.pairwise_append.2 ⟨h,cl _ _,λa h1 b h2=>by rw[t6 h2];exact hlt a h1⟩) hs.2 (by
    intro a h1 b h2
    rcases mem_append.1 h1 with h1 | h1
    ·exact ha a h1 b (am _ h2)
    ·rw[t6 h1];exact hs.1 b h2)
   refine⟨i1,λx=>?_⟩;rw[i2,mem_append,dd,bi,or_assoc]
def Ds(l:List (List Nat)):(LM l).Pairwise (λa b=>gC a b=true)/\∀x,x∈LM l↔x∈l:=by
 obtain⟨h1,h2⟩:=CD (ee l) [] .nil (Gl l) λa h=>by cases h
 refine⟨h1,λx=>?_⟩;show x∈rT (ee l)↔_;unfold rT;rw[h2];simp[(r9 l).mem_iff]
def OI{K l:List (List Nat)}(hn:K.Nodup)(hm:∀x,x∈K↔x∈l):ee K=LM l:=by
 obtain⟨h1,h2⟩:=Ds l
 have hd:(LM l).Nodup:=h1.imp λh e=>by rw[e,eG] at h;cases h
 refine(zn ((cd hd hn).2 λx=>by rw[h2,hm]) ?_).symm;unfold qX
 exact h1.imp λ{a b} h=>by
  cases k:gC b a with
  | false=>rfl
  | true=>have:=ij h k;rw[eG] at this;cases this
variable{c:List aV}{ps:List aq}
def Nt{e:bB}(h:(aX c ps e).2=0):gz e=true:=by
 unfold aX at h;cases h1:Proofs.kH c ps
 ·rw[h1,v6 g9] at h;exact un h g9
 cases h2:gz e
 ·rw[h1,ut rfl,h2,v6 g9] at h;exact un h g9
 ·rfl
def Fe{u:Bool}{c:List aV}{dmg:bC}:∀(l:List bB) (s:List aq),(RT u c dmg l s).2=0->∀e∈l,gz e=true
 | [],_,_,_,h=>by cases h
 | e::r,s,h,x,hx=>by
  rw[RT] at h;by_cases h0:(aX c s e).2=0
  ·rw[ut h0] at h
   rcases t7 hx with rfl | hx
   ·exact Nt h0
   ·exact Fe r _ h x hx
  ·rw[v6 h0] at h;exact un h h0
variable{day:Int}
def Pl(h:(O3 c l day).2=0):∀e∈l,e.day<=day->0<=e.day/\e.day<=40000:=by
 intro e he hd;unfold O3 at h;split at h
 ·have:=Fe _ _ h e ((u9 _ _).mem_iff.2 (mem_filter.2 ⟨he,by unfold fe;simp;omega⟩));unfold gz at this;simp only[bh,dl,wn] at this;obtain⟨_,h1,h2,_⟩:=this;omega
 ·exact un h g9
def RI(c:List aV)(l:List bB)(day:Int):(AS c (dV (fe day) l)).1=(O3 c l day).1/\(AS c (dV (fe day) l)).2.2=(O3 c l day).2:=by
 unfold AS O3;split
 ·exact Ku _ _ _
 ·exact⟨rfl,rfl⟩
def rR(a b:aA):Bool:=decide (a.kind<b.kind)||(decide (a.kind=b.kind)&&(gC a.part b.part||(decide (a.part=b.part)&&gC a.name b.name)))
def Bz(x:aA):List aA->List aA
 | []=>[x]
 | y::l=>if rR y x=true then y::Bz x l else x::y::l
def gu:List aA->List aA
 | []=>[]
 | x::l=>Bz x (gu l)
def rY(l:List aA):List aA:=(l.foldl (λm f=>cy f true m) ([]:List (aA×Bool))).map (·.1)
def eX(c:List aV)(dmg:bC)(b:dB)(l:List bB)(vehicle:List Nat)(day:Int):List aA:=
 match da (runN c dmg l day).1 vehicle with
 | none=>[⟨4,vehicle,[]⟩]
 | some v=>if (runN c dmg l day).2.2≠0\/v.cN=true\/((dU c v.kind).getD aV.zero).vehicle=false then [⟨4,vehicle,[]⟩]
  else gu (rY (lz c b l (runN c dmg l day).1 vehicle day v))
def sB(x:aA):∀l,(Bz x l).Perm (x::l)
 | []=>.refl _
 | y::l=>by
  rw[Bz];split
  ·exact((sB x l).cons y).trans (.swap x y l)
  ·exact .refl _
def fG:∀l,(gu l).Perm l
 | []=>.refl _
 | x::l=>(sB x _).trans ((fG l).cons x)
def xu(a b:aA):rR a b=true\/a=b\/rR b a=true:=by
 obtain⟨k,p,n⟩:=a;obtain⟨k2,p2,n2⟩:=b;unfold rR;simp only[ch,bh,wp,aA.mk.injEq]
 rcases dc k k2 with h | h | h
 ·exact .inl (.inl h)
 ·rcases l7 p p2 with h1 | h1 | h1
  ·exact .inl (.inr ⟨h,.inl h1⟩)
  ·rcases l7 n n2 with h2 | h2 | h2
   ·exact .inl (.inr ⟨h,.inr ⟨h1,h2⟩⟩)
   ·exact .inr (.inl ⟨h,h1,h2⟩)
   ·exact .inr (.inr (.inr ⟨h.symm,.inr ⟨h1.symm,h2⟩⟩))
  ·exact .inr (.inr (.inr ⟨h.symm,.inl h1⟩))
 ·exact .inr (.inr (.inl h))
def kj{a b c:aA}(h1:rR a b=true)(h2:rR b c=true):rR a c=true:=by
 unfold rR at *;simp only[ch,bh,wp] at *
 rcases h1 with h1 | ⟨e1,h1⟩<;>rcases h2 with h2 | ⟨e2,h2⟩
 ·exact .inl i4
 ·exact .inl i4
 ·exact .inl i4
 ·refine .inr ⟨e1.trans e2,?_⟩
  rcases h1 with h1 | ⟨f1,h1⟩<;>rcases h2 with h2 | ⟨f2,h2⟩
  ·exact .inl (ij h1 h2)
  ·exact .inl (f2▸h1)
  ·exact .inl (f1▸h2)
  ·exact .inr ⟨f1.trans f2,ij h1 h2⟩
def ru(a:aA):rR a a=false:=by
 unfold rR;rw[eG,eG];simp
def Fj{x:aA}:∀{l:List aA},l.Pairwise (λa b=>rR a b=true)->x∉l->(Bz x l).Pairwise λa b=>rR a b=true
 | [],_,_=>.cons (λ_ h=>by cases h) .nil
 | y::l,h,hx=>by
  have h0:=h;rw[ck] at h;rw[bi,not_or] at hx;rw[Bz];split
  ·rename_i c;refine .cons (λz hz=>?_) (Fj h.2 hx.2)
   rcases t7 ((sB x l).mem_iff.1 hz) with rfl | hz
   ·exact c
   ·exact h.1 z hz
  ·rename_i c
   have hxy:rR x y=true:=by
    rcases xu x y with k | k | k
    ·exact k
    ·exact un k hx.1
    ·exact un k c
   refine .cons (λz hz=>?_) h0
   rcases t7 hz with rfl | hz
   ·exact hxy
   ·exact kj hxy (h.1 z hz)
def rH:∀{l:List aA},l.Nodup->(gu l).Pairwise λa b=>rR a b=true
 | [],_=>.nil
 | x::l,h=>by
  rw[bv] at h;exact Fj (rH h.2) λk=>h.1 ((fG l).mem_iff.1 k)
def F3{k:aA}{v:Bool}:∀{m:List (aA×Bool)} {e:aA×Bool},e∈cy k v m->e=(k,v)\/e∈m
 | [],e,h=>by unfold cy at h;exact .inl (t6 h)
 | a::m,e,h=>by
  unfold cy at h;split at h
  ·rcases t7 h with rfl | h
   ·exact .inl rfl
   ·exact .inr (am _ h)
  ·rcases t7 h with rfl | h
   ·exact .inr ba
   ·exact(F3 h).imp id (am _)
def BU{k:aA}{v:Bool}:∀{m:List (aA×Bool)},(m.map (·.1)).Nodup->((cy k v m).map (·.1)).Nodup
 | [],_=>by unfold cy;simp
 | e::m,h=>by
  rw[bk,bv] at h;unfold cy;split
  ·rename_i hk;rw[bk,bv,hk];exact h
  ·rename_i hk;rw[bk,bv];refine⟨λhm=>?_,BU h.2⟩;obtain⟨x,hx,e1⟩:=mem_map.1 hm
   rcases F3 hx with rfl | hx
   ·exact hk e1
   ·exact h.1 (e1▸cc hx)
def Dc:∀(l:List aA) (m:List (aA×Bool)),(m.map (·.1)).Nodup->((l.foldl (λm f=>cy f true m) m).map (·.1)).Nodup/\∀f,f∈(l.foldl (λm f=>cy f true m) m).map (·.1)↔f∈m.map (·.1)\/f∈l
 | [],m,h=>⟨h,λf=>by simp⟩
 | x::l,m,h=>by
  obtain⟨i1,i2⟩:=Dc l (cy x true m) (BU h);refine⟨i1,λf=>?_⟩;rw[b5,i2,<-kV,<-kV,qx,ch,wp,bi];constructor
  ·rintro((h | h) | h)
   ·exact .inr (.inl h)
   ·exact .inl h
   ·exact .inr (.inr h)
  ·rintro(h | h | h)
   ·exact .inl (.inr h)
   ·exact .inl (.inl h)
   ·exact .inr h
def Lv{l:List aA}{f:aA}:f∈rY l↔f∈l:=by
 have:=(Dc l [] bb).2 f;unfold rY;rw[this];simp
def FU(l:List aA):(rY l).Nodup:=(Dc l [] bb).1
def iG(x:aA):List aA->List aA
 | []=>[x]
 | y::l=>if rR y x=true then y::iG x l else if y=x then y::l else x::y::l
abbrev Cm(l:List aA):Prop:=l.Pairwise λa b=>rR a b=true
def vr{x f:aA}:∀{l:List aA},f∈iG x l↔f=x\/f∈l
 | []=>by rw[iG,dd];simp
 | y::l=>by
  rw[iG];split
  ·rw[bi,vr,bi,or_left_comm]
  ·split
   ·rename_i h;subst h;rw[bi,<-or_assoc,or_self]
   ·rw[bi]
def BV{x:aA}:∀{l:List aA},Cm l->Cm (iG x l)
 | [],_=>by rw[iG];exact cl _ _
 | y::l,h=>by
  have h0:=h;rw[Cm,ck] at h;rw[iG];split
  ·rename_i c;refine .cons (λz hz=>?_) (BV h.2)
   rcases vr.1 hz with rfl | hz
   ·exact c
   ·exact h.1 z hz
  ·rename_i c;split
   ·exact h0
   ·rename_i e
    have hxy:rR x y=true:=by
     rcases xu y x with k | k | k
     ·exact un k c
     ·exact un k e
     ·exact k
    refine .cons (λz hz=>?_) h0
    rcases t7 hz with rfl | hz
    ·exact hxy
    ·exact kj hxy (h.1 z hz)
def oP(l xs:List aA):List aA:=xs.foldl (λl x=>iG x l) l
def F8:∀(xs l:List aA),Cm l->Cm (oP l xs)/\∀f,f∈oP l xs↔f∈l\/f∈xs
 | [],l,h=>⟨h,λf=>by unfold oP;simp⟩
 | x::xs,l,h=>by
  obtain⟨h1,h2⟩:=F8 xs _ (BV (x:=x) h);refine⟨h1,λf=>?_⟩;rw[show oP l (x::xs)=oP (iG x l) xs from rfl,h2,vr,bi,or_comm (a:=f=x),or_assoc]
def LP{a b:List aA}(ha:Cm a)(hb:Cm b)(h:∀f,f∈a↔f∈b):a=b:=by
 have nd:∀{l:List aA},Cm l->l.Nodup:=λh=>h.imp λh e=>by rw[e,ru] at h;cases h
 exact Perm.eq_of_pairwise (λa b _ _ h3 h4=>by have:=kj h3 h4;rw[ru] at this;cases this) ha hb ((cd (nd ha) (nd hb)).2 h)
def sM(l:List aA):Cm (gu (rY l))/\∀f,f∈gu (rY l)↔f∈l:=
 ⟨rH (FU _),λf=>by rw[(fG _).mem_iff,Lv]⟩
variable{part:List Nat}
def FY{d1 d2:List ea}{x:List Nat}:x∈eJ (d1++d2) c l part day↔x∈eJ d1 c l part day\/x∈eJ d2 c l part day:=by
 have h:kY (d1++d2) c l part day=kY d1 c l part day++kY d2 c l part day:=by
  unfold kY;split
  ·rfl
  ·split
   ·rfl
   ·exact List.filterMap_append
 unfold eJ;rw[(Ds _).2,(Ds _).2,(Ds _).2,h,bt,bd,mem_append]
def MG{a b:dB}{p:aq}{f:aA}:f∈nj c ⟨a.rules++b.rules,a.cH,a.bg++b.bg,a.du,a.aO++b.aO,a.holds++b.holds⟩ l ps day p↔f∈nj c a l ps day p\/f∈nj c ⟨b.rules,a.cH,b.bg,a.du,b.aO,b.holds⟩ l ps day p:=by
 have h3:f∈(eJ (a.bg++b.bg) c l p.name day).map (λn=>(⟨3,p.name,n⟩:aA))↔f∈(eJ a.bg c l p.name day).map (λn=>(⟨3,p.name,n⟩:aA))\/f∈(eJ b.bg c l p.name day).map (λn=>(⟨3,p.name,n⟩:aA)):=by
  simp only[mem_map,FY];constructor
  ·rintro⟨x,h | h,rfl⟩
   ·exact .inl ⟨x,h,rfl⟩
   ·exact .inr ⟨x,h,rfl⟩
  ·rintro(⟨x,h,rfl⟩ | ⟨x,h,rfl⟩)
   ·exact⟨x,.inl h,rfl⟩
   ·exact⟨x,.inr h,rfl⟩
 unfold nj;simp only[bt,bd,mem_append,h3];constructor
 ·rintro((h | h) | (h | h) | (h | h) | h)
  ·exact .inl (.inl h)
  ·exact .inr (.inl h)
  ·exact .inl (.inr (.inl h))
  ·exact .inr (.inr (.inl h))
  ·exact .inl (.inr (.inr (.inl h)))
  ·exact .inr (.inr (.inr (.inl h)))
  ·exact .inl (.inr (.inr (.inr h)))
 ·rintro((h | h | h | h) | (h | h | h | h))
  ·exact .inl (.inl h)
  ·exact .inr (.inl (.inl h))
  ·exact .inr (.inr (.inl (.inl h)))
  ·exact .inr (.inr (.inr h))
  ·exact .inl (.inr h)
  ·exact .inr (.inl (.inr h))
  ·exact .inr (.inr (.inl (.inr h)))
  ·exact .inr (.inr (.inr h))
def HW{a b:dB}{vehicle:List Nat}{v:aq}{f:aA}:f∈lz c ⟨a.rules++b.rules,a.cH,a.bg++b.bg,a.du,a.aO++b.aO,a.holds++b.holds⟩ l ps vehicle day v↔f∈lz c a l ps vehicle day v\/f∈lz c ⟨b.rules,a.cH,b.bg,a.du,b.aO,b.holds⟩ l ps vehicle day v:=by
 unfold lz;simp only[bt,bd,mem_append,List.mem_flatMap,MG];constructor
 ·rintro((h | h) | ⟨n,hn,h | h⟩ | (h | h))
  ·exact .inl (.inl h)
  ·exact .inr (.inl h)
  ·exact .inl (.inr (.inl ⟨n,hn,h⟩))
  ·exact .inr (.inr (.inl ⟨n,hn,h⟩))
  ·exact .inl (.inr (.inr h))
  ·exact .inr (.inr (.inr h))
 ·rintro((h | ⟨n,hn,h⟩ | h) | (h | ⟨n,hn,h⟩ | h))
  ·exact .inl (.inl h)
  ·exact .inr (.inl ⟨n,hn,.inl h⟩)
  ·exact .inr (.inr (.inl h))
  ·exact .inl (.inr h)
  ·exact .inr (.inl ⟨n,hn,.inr h⟩)
  ·exact .inr (.inr (.inr h))
def Lf(c:List aV)(dmg:bC)(a b:dB)(l:List bB)(vehicle:List Nat)(day:Int):
 eX c dmg ⟨a.rules++b.rules,a.cH,a.bg++b.bg,a.du,a.aO++b.aO,a.holds++b.holds⟩ l vehicle day=oP (eX c dmg a l vehicle day) (eX c dmg ⟨b.rules,a.cH,b.bg,a.du,b.aO,b.holds⟩ l vehicle day):=by
 have one:[⟨4,vehicle,[]⟩]=oP [⟨4,vehicle,[]⟩] [(⟨4,vehicle,[]⟩:aA)]:=by
  show[(⟨4,vehicle,[]⟩:aA)]=iG _ [_];rw[iG,ru,v6 g9,ut rfl]
 unfold eX;split
 ·exact one
 ·rename_i v hv;split
  ·exact one
  ·obtain⟨s1,s2⟩:=sM (lz c a l (runN c dmg l day).1 vehicle day v);obtain⟨t1,t2⟩:=sM (lz c ⟨b.rules,a.cH,b.bg,a.du,b.aO,b.holds⟩ l (runN c dmg l day).1 vehicle day v);obtain⟨u1,u2⟩:=sM (lz c ⟨a.rules++b.rules,a.cH,a.bg++b.bg,a.du,a.aO++b.aO,a.holds++b.holds⟩ l (runN c dmg l day).1 vehicle day v);obtain⟨p1,p2⟩:=F8 (gu (rY (lz c ⟨b.rules,a.cH,b.bg,a.du,b.aO,b.holds⟩ l (runN c dmg l day).1 vehicle day v))) _ s1;refine LP u1 p1 λf=>?_;rw[u2,p2,s2,t2,HW]
def Gj{c:List aV}:∀(l:List bB) (i:Nat) (s:List aq),(∀p∈s,fq p)->(∀e∈l,lN e)->(qe c i l s).1.length<=s.length+l.length
 | [],_,s,_,_=>ap _
 | e::r,i,s,hp,he=>by
  obtain⟨q1,q2,_,_⟩:=oy (c:=c) (ps:=s) (e:=e) hp (he e ba);rw[qe];split
  ·have:=Gj (c:=c) r (i+1) (aX c s e).1 q1 λx hx=>he x (am _ hx);rw[i7];omega
  ·exact a6 _
def OD(hlen:l.length<20)(hl:∀e∈l,lN e):(AS c (dV (fe day) l)).1.length<=20:=by
 unfold AS;split
 ·refine bc (Gj _ _ _ (λp h=>by cases h) λe he=>hl e (xC he)) ?_;have:=Dn l (fe day);simp only[i5];omega
 ·exact a6 _
def Hx{d:ea}(h:∀e∈l,e.day<=day->0<=e.day/\e.day<=40000):∀n∈qY d l part day,0<=n/\n<=40000:=by
 intro n hn;obtain⟨e,he,rfl⟩:=mem_map.1 hn;obtain⟨h1,h2⟩:=mem_filter.1 he;rw[bh] at h2;unfold LD at h2;rw[bh] at h2;exact h e h1 (ww h2.1.2)
def I8(ds:List ea)(c:List aV)(l:List bB)(part:List Nat)(day:Int)(hd:∀d∈ds,Ch d)(hdl:ds.length<=1000000)(hc:mz c)(hlen:l.length<20)(hl:∀e∈l,lN e):PC prog 63 [an 5 ds bf,.ag [an 3 c ao],an 14 l ar,ah part,ab day] (·=lU nS ai (rZ ds c l part day)):=by
 have hat:=OL c l day hc hlen hl;obtain⟨ha1,ha2⟩:=RI c l day;have had:=Pl (c:=c) (l:=l) (day:=day);have hpl:=OD (c:=c) (day:=day) hlen hl;obtain⟨R,hR⟩:∃R,R=rZ ds c l part day:=⟨_,rfl⟩;rw[<-hR];unfold rZ at hR;generalize AS c (dV (fe day) l)=q at hat ha1 ha2 hpl;rw[<-ha2] at had;rw[<-ha1,<-ha2] at hR;clear ha1 ha2;have hf:=iB q.1 part i4
 refine pB 85 Tryz.func63 ?_;refine(zV) ?_;refine zZ ((0,an 5 ds bf)::(6,.ip [an 3 c ao])::(2,an 14 l ar)::(3,ah part)::[(4,ab day)]) 0 rfl (gw @an.eq_1)<|zA ((0,an 5 ds bf)::(6,.ip [an 3 c ao])::(2,an 14 l ar)::(3,ah part)::[(4,ab day)]) [] zH<|(jr)<|(zK hat (hfl:=.inr zr))<|(cP @qL.eq_1)<|zA ((14,ab q.2.2)::(12,.ptr 1 0)::(11,.map 0)::(0,an 5 ds bf)::(2,an 14 l ar)::(3,ah part)::[(4,ab day)]) [bE nS ai [],.cells [an 14 q.1 ae]] (cf (show SO.map [] [] none=bE nS ai [] from rfl)) ?_;refine zZ ((14,ab q.2.2)::(12,.ip [an 14 q.1 ae])::(11,.map 0)::(0,an 5 ds bf)::(2,an 14 l ar)::(3,ah part)::[(4,ab day)]) 1 rfl ⟨.inl rfl,.inr (.ptr rfl (cu.refl rfl) (a6 _)),zj⟩<|zA ((14,ab q.2.2)::(12,.ip [an 14 q.1 ae])::(11,.map 0)::(0,an 5 ds bf)::(2,an 14 l ar)::(3,ah part)::[(4,ab day)]) [bE nS ai []] zH<|(zC) ?_;refine aL.k ii rfl rfl ii rfl zc (hf) (zw) (.inr (cu.refl (by cases da q.1 part<;>rfl))) ?_
 cases hm:da q.1 part with
 | none=>
  rw[hm] at hR;simp only at hR;refine(cP (gm @iW.eq_1 @ae.eq_1 @aq.zero.eq_1 @oH)) ?_;cases g0:decide (q.2.2=0)
  ·exact(aD g0)<|(cI)<|zo [.tmp 10] (r:=lU nS ai []) (hw:=mc (λ_=>rfl) rfl) (hq:=by rw[hR])
  ·exact(aD g0)<|(cI)<|zo [.tmp 10] (r:=lU nS ai []) (hw:=mc (λ_=>rfl) rfl) (hq:=by rw[hR])
 | some p=>
  rw[hm] at hR;simp only at hR;refine(cP (cJ @iW.eq_1 @ae.eq_1 @oH)) ?_;cases g0:decide (q.2.2=0)
  ·exact(aD g0)<|(cI)<|zo [.tmp 10] (r:=lU nS ai []) (hw:=mc (λ_=>rfl) rfl) (hq:=by rw[hR,ut (.inl (wt g0))])
  cases g1:p.cN;rotate_left
  ·exact(aD (bu g0 g1))<|(cI)<|zo [.tmp 10] (r:=lU nS ai []) (hw:=mc (λ_=>rfl) rfl) (hq:=by rw[hR,ut (.inr g1)])
  have hq0:=ww g0;have hbd:=λd=>Hx (d:=d) (part:=part) (had hq0);rw[v6 (by rw[g1];simp[hq0])] at hR
  refine(aD (bu g0 g1))<|(lj)<|zA ((50,ab 0)::(49,ab ds.length)::(48,an 5 ds bf)::(15,.ptr 1 0)::(11,.map 0)::(2,an 14 l ar)::(3,ah part)::[(4,ab day)]) [bE nS ai [],.cells [ah p.name,ah p.kind,ah p.br,ah p.slot,ab p.made,ab p.since,ai false,an 2 p.props aJ,ab p.l1,ab p.l2,ab p.l3,ab p.l4,ab p.l5,ab p.l6]] zH ?_;refine zZ ((50,ab 0)::(49,ab ds.length)::(48,an 5 ds bf)::(15,.ip [ah p.name,ah p.kind,ah p.br,ah p.slot,ab p.made,ab p.since,ai false,an 2 p.props aJ,ab p.l1,ab p.l2,ab p.l3,ab p.l4,ab p.l5,ab p.l6])::(11,.map 0)::(2,an 14 l ar)::(3,ah part)::[(4,ab day)]) 1 rfl ⟨.inl rfl,.inl rfl,.inl rfl,.inr (.ptr rfl (cu.refl rfl) (a6 _)),zj⟩<|zA ((50,ab 0)::(49,ab ds.length)::(48,an 5 ds bf)::(15,.ip [ah p.name,ah p.kind,ah p.br,ah p.slot,ab p.made,ab p.since,ai false,an 2 p.props aJ,ab p.l1,ab p.l2,ab p.l3,ab p.l4,ab p.l5,ab p.l6])::(11,.map 0)::(2,an 14 l ar)::(3,ah part)::[(4,ab day)]) [bE nS ai []] zH<|(zs) ?_;refine Ho ds (λk (mm:List (kO×Bool))=>mm=(ds.take k).foldl (ja l part day p.kind) []) (λk mm=>(50,ab k)::(49,ab ds.length)::(48,an 5 ds bf)::(15,.ip [ah p.name,ah p.kind,ah p.br,ah p.slot,ab p.made,ab p.since,ai false,an 2 p.props aJ,ab p.l1,ab p.l2,ab p.l3,ab p.l4,ab p.l5,ab p.l6])::(11,.map 0)::(2,an 14 l ar)::(3,ah part)::[(4,ab day)]) (λk mm=>[bE nS ai mm]) ([]) zH ii ?_;intro k mm hk hall;refine zT ds k ?_ ?_;rintro rfl;rotate_left;intro d hx hlt;rotate_left
  ·refine(gg) ?_;rw[a7] at hall
   exact(zV)<|zo [.tmp 10] (r:=lU nS ai mm) (hw:=mc (λ_=>rfl) rfl) (hq:=by rw[hR,<-hall])
  have hsn:(ds.take (k+1)).foldl (ja l part day p.kind) []=ja l part day p.kind mm d:=by rw[cM hx,b4,<-hall];rfl
  have hdo:=hd d (aS hx);have hdv:=II d hdo;rw[show ja l part day p.kind mm d=if rU d=true/\d.kind=p.kind/\(lJ d l part day).2=true then cy ⟨part,d.name,(lJ d l part day).1⟩ true mm else mm from rfl] at hsn
  refine(gA)<|(aD (gm hlt (aQ (e:=5) (enc:=bf) gc hx) @bf.eq_1 @oH))<|(aD @oH)<|(zC)<|(zK hdv) ?_
  cases g2:rU d
  ·rw[v6 (by rw[g2];simp)] at hsn
   refine(zR)<|(zY) ?_;refine aG.exit ?_
   (try change aG _ _ _ _ _)
   refine(aD (zi hlt hdl)) ?_;refine w8 hlt (mm) zH hsn.symm
  cases g3:decide (d.kind=p.kind)
  ·rw[v6 (by rintro⟨_,h,_⟩;exact wt g3 h)] at hsn
   refine(cP (bu g3 @oH))<|(zY) ?_;refine aG.exit ?_
   (try change aG _ _ _ _ _)
   refine(aD (zi hlt hdl)) ?_;refine w8 hlt (mm) zH hsn.symm
  refine(cP (bu g3 @oH))<|(zN) ?_
  have hw:0<=d.within/\d.within<=40000:=by
   unfold rU at g2;simp only[bh,wp] at g2;exact g2.2.2.2.2.2
  have hlast:=I1 d l part day i4 hw (hbd d);generalize lJ d l part day=la at hlast hsn
  refine(zC)<|(zK hlast)<|(zR) ?_
  cases g4:la.2
  ·rw[v6 (by rw[g4];simp)] at hsn
   refine(aD g4)<|(zN)<|(aD (zi hlt hdl)) ?_;refine w8 hlt (mm) zH hsn.symm
  ·rw[ut ⟨g2,ww g3,g4⟩] at hsn
   refine(aD g4)<|(zY)<|(zs) ?_;refine aG.r0 ii (by simp only[cL,bI,an,aC,m7,m6,↓reduceIte,af,aj,ax,ad,al,ak,au,bl,GU (l:=mm)];first | done | rfl) ?_;refine(aD (zi hlt hdl)) ?_;refine w8 hlt (cy ⟨part,d.name,la.1⟩ true mm) zH hsn.symm
def IZ(L:List (List Nat×Bool)):PC prog 65 [lU AV.str ai L] (·=.fn 149 [] [.ip [lU AV.str ai L]]):=by
 refine pB 4 Tryz.func65 ?_;refine(zV) ?_;refine zZ [(1,.ip [lU AV.str ai L])] 0 rfl (gw @an.eq_1) ?_
 (try change aG _ _ _ _ _)
 exact(zV)<|zo [.tmp 2]
def gP(lc:jx):SO:=.loop lc .ready none [(2,.ptr 1 0)]
def H6(o:Nat)(lc:jx)(h:¬1=o):bF o (gP lc)=gP lc:=by
 simp[gP,bF,bX,aM,Ev.names,h]
def sQ(lc:jx):Prop:=(prog.funcs[(233:Nat)]?.bind λfn=>fn.body.bind uV)=some (lc.a,lc.b)
def GI(L:List (List Nat×Bool))(lc:jx)(hcd:sQ lc)(hln:lc.n=13)(hlp:lc.ps=#[7])(hlen:L.length<=100000)(hnd:(L.map (·.1)).Nodup):
 SC prog 149 [.a (.fn (.yield lc.id) [] []),.ip [lU AV.str ai L]] [gP lc,.cells [aR],.gone] [2] (λr S'=>r=.cx []/\∃out:List (List Nat),out.Perm (L.map (·.1))/\S'=[gP lc,.cells [cr 2 1 out.length],eY out]):=by
 refine TZ 14 func149 ?_;have hk3:=H6 3 lc g9;refine(zC) ?_;refine aL.TW (ks:=L.map λe=>.str e.1) (vs:=L.map λe=>ai e.2) ii rfl rfl ii rfl (by simp only[aC]) ?_;intro bs c hbs;refine aL.r0 ii (by simp only[cL,bI,an,aC,m7,m6,↓reduceIte,af,aj,ax,ad,al,ak,au,bl,↓hk3];first | done | rfl) ?_
 (repeat refine aG.seq ?_)
 refine aG.block (aG.loop (λm st=>∃pos:List Nat,pos.Nodup/\(∀j∈pos,j<L.length)/\L.length-pos.length=m/\st=⟨[(0,.a (.fn (.yield lc.id) [] [])),(5,.ptr 3 0),(1000000,.ptr 0 0),(1000001,.ptr 1 0)],14,[gP lc,.cells [cr 2 1 (bn L pos).length],eY ((bn L pos).map (·.1)),.oE (L.map λe=>.str e.1) (L.map λe=>ai e.2) bs c pos],[]⟩) L.length (cf (uP @bn.eq_1 @List.filterMap_nil.{0,0} @map_nil.{0,0} @i5.{0} @lD @gU)) ⟨[],bb,λj hj=>by simp at hj,rfl,rfl⟩ (by rintro m st ⟨pos,_,_,_,rfl⟩;rfl) ?_);rintro m st ⟨pos,hpn,hpl,rfl,rfl⟩;refine aG.post ?_;refine(zC) ?_;refine aL.TT ii rfl rfl ii rfl rfl (λj hj=>by rw[ac];exact hpl j hj) ?_ ?_
 ·intro hall
  refine(zR)<|(gg) ?_;refine⟨⟨[(1000000,.ptr 0 0),(1000001,.ptr 1 0)],14,[gP lc,.cells [cr 2 1 (bn L pos).length],eY ((bn L pos).map (·.1))],[]⟩,zH,?_⟩
  simp only[eN,c8,bW,bK,if_true];exact zP [] (hq:=by (try simp only[eC,bJ]);first | done | (exact⟨trivial,(bn L pos).map (·.1),(mJ hpn hpl (λj hj=>hall j (by rw[ac];exact hj))).map _,by rw[ac]⟩))
 ·intro j hj hjn;rw[ac] at hj;obtain⟨e,he⟩:∃e,L[j]?=some e:=⟨L[j],jp hj⟩;obtain⟨q1,q2,q3⟩:=qF hpn hpl hj hjn;have hsn:=kU L pos he
  refine(zR)<|(gA)<|(zC) ?_;refine aL.TM (k:=.str e.1) (v:=ai e.2) ii rfl rfl ii rfl rfl (by rw[a8,he];rfl) (by rw[a8,he];rfl) ?_;refine(zR)<|(zC)<|oA [(10,.a (.fn (.yield lc.id) [] [])),(11,ah e.1),(0,.a (.fn (.yield lc.id) [] [])),(5,.ptr 3 0),(1000000,.ptr 0 0),(1000001,.ptr 1 0)] [gP lc,.cells [cr 2 1 (bn L pos).length],eY ((bn L pos).map (·.1)),.oE (L.map λe=>.str e.1) (L.map λe=>ai e.2) bs c (pos++[j])] zH ?_;refine aL.y (vs:=[ah e.1]) (oo:=0) ii rfl rfl ii rfl rfl rfl ii rfl (by rw[hlp];rfl) (by rw[hln];rfl) (by rw[hln];decide) (by rw[hlp,hln];rfl) λro'=>?_
  have hcd2:=hcd;unfold sQ at hcd2;rw[el] at hcd2;have hcd3:=Option.some.inj (hcd2.symm.trans ii);obtain⟨ha,hbb⟩:=Prod.mk.inj hcd3;rw[ha,hlp,hln];have hhl:(bn L pos).length=((bn L pos).map (·.1)).length:=(ac _).symm;rw[hhl]
  have hol:((bn L pos).map (·.1)).length<=100000:=by rw[<-hhl];exact bc (b7 _ _) i4
  generalize hout:(bn L pos).map (·.1)=out at hol;change aG _ _ _ ⟨[(7,ah e.1),(2,.ptr 1 0),(20000010,.a (.fn (.yield lc.id) [] [])),(20000011,ah e.1),(20000000,.a (.fn (.yield lc.id) [] [])),(20000005,.ptr 3 0),(21000000,.ptr 0 0),(21000001,.ptr 1 0)],13,[gP lc,.cells [cr 2 1 out.length],eY out,.oE (L.map λe=>.str e.1) (L.map λe=>ai e.2) bs c (pos++[j])],[]⟩ _;refine(zV) ?_;refine⟨rfl,0,none,[(2,.ptr 1 0)],rfl,?_⟩;rw[hbb];refine(zB) ?_;change aG _ _ _ ⟨_,13,[.loop lc .busy none [(2,.ptr 1 0)],.cells [cr 2 1 out.length],eY out,.oE (L.map λe=>.str e.1) (L.map λe=>ai e.2) bs c (pos++[j])],[]⟩ _;by_cases ho:out=[]
  ·have hE1:cr 2 1 (bn L (pos++[j])).length=.buf 2 1 1 none:=by rw[hsn,li,hhl,hout,ho];rfl
   have hE2:eY ((bn L (pos++[j])).map (·.1))=.cells [ah e.1]:=by rw[hsn,bd,hout,ho];rfl
   rw[ho,gU,show cr 2 1 ([]:List (List Nat)).length=aR from rfl];refine(zV) ?_;refine⟨rfl,0,.busy,none,[(2,.ptr 1 0)],rfl,?_⟩;simp only[yb,laid,ad,ay,↓reduceIte]
   refine oA [(12,ai true),(0,.a (.fn (.yield lc.id) [] [])),(5,.ptr 3 0),(1000000,.ptr 0 0),(1000001,.ptr 1 0)] [gP lc,.cells [.buf 2 1 1 none],.cells [ah e.1],.oE (L.map λe=>.str e.1) (L.map λe=>ai e.2) bs c (pos++[j])] (Fg.rn (f':=[(12,ai true),(0,.a (.fn (.yield lc.id) [] [])),(5,.ptr 3 0),(1000000,.ptr 0 0),(1000001,.ptr 1 0)]) (n:=14) (S':=[gP lc,.cells [.buf 2 1 1 none],.cells [ah e.1],.oE (L.map λe=>.str e.1) (L.map λe=>ai e.2) bs c (pos++[j])]) [0,1,5,3] g9 rfl (Mg (lk @gP.eq_1 @Ay.eq_1 @Ax.eq_1 @yd.eq_1 @yb.eq_1)) (Mh (lk @gP.eq_1 @Ay.eq_1 @Ax.eq_1 @yd.eq_1 @yb.eq_1)))<|(zR)<|(zN) ?_;exact⟨⟨[(0,.a (.fn (.yield lc.id) [] [])),(5,.ptr 3 0),(1000000,.ptr 0 0),(1000001,.ptr 1 0)],14,[gP lc,.cells [.buf 2 1 1 none],.cells [ah e.1],.oE (L.map λe=>.str e.1) (L.map λe=>ai e.2) bs c (pos++[j])],[]⟩,(cf @gP.eq_1),L.length-(pos++[j]).length,_,by rw[li];simp only[i7,i5];omega,(cf (cJ @gP.eq_1 hE1 hE2)),pos++[j],q1,q2,rfl,rfl⟩
  ·have hk1:¬out.length=0:=λh=>ho (t8 h)
   have hE1:cr 2 1 (bn L (pos++[j])).length=.buf 2 (out.length+1) 1 none:=by rw[hsn,li,hhl,hout];exact eo ge
   have hE2:eY ((bn L (pos++[j])).map (·.1))=.cells ((out++[e.1]).flatMap (aH ah)):=by rw[hsn,bd,hout];exact fU ge
   have hcl3:=aU (enc:=aH ah) (e:=1) gc out;have hkc3:=λo=>bx (enc:=aH ah) gc o out;have happ:=mg (enc:=aH ah) (e:=1) gc (λ_=>rfl) 2 out e.1;rw[show aH ah e.1=[ah e.1] from rfl,d8] at happ;rw[d8] at hcl3;rw[fU ho,eo hk1];refine(aD (uP hkc3 hcl3 @d8 (show out.length<=1000000 by omega) @ap happ)) ?_;refine⟨rfl,0,.busy,none,[(2,.ptr 1 0)],rfl,?_⟩;simp only[yb,laid,ad,ay,↓reduceIte]
   refine oA [(12,ai true),(0,.a (.fn (.yield lc.id) [] [])),(5,.ptr 3 0),(1000000,.ptr 0 0),(1000001,.ptr 1 0)] [gP lc,.cells [.buf 2 (out.length+1) 1 none],.cells ((out++[e.1]).flatMap (aH ah)),.oE (L.map λe=>.str e.1) (L.map λe=>ai e.2) bs c (pos++[j])] (cf (lk @gP.eq_1 @yb.eq_1 @Ay.eq_1 @Ax.eq_1 @yd.eq_1))<|(zR)<|(zN) ?_;exact⟨⟨[(0,.a (.fn (.yield lc.id) [] [])),(5,.ptr 3 0),(1000000,.ptr 0 0),(1000001,.ptr 1 0)],14,[gP lc,.cells [.buf 2 (out.length+1) 1 none],.cells ((out++[e.1]).flatMap (aH ah)),.oE (L.map λe=>.str e.1) (L.map λe=>ai e.2) bs c (pos++[j])],[]⟩,(cf @gP.eq_1),L.length-(pos++[j]).length,_,by rw[li];simp only[i7,i5];omega,(cf (cJ @gP.eq_1 hE1 hE2)),pos++[j],q1,q2,rfl,rfl⟩
def Dy(L:List (List Nat×Bool))(hlen:L.length<=100000)(hnd:(L.map (·.1)).Nodup):SC prog 233 [aR,.fn 149 [] [.ip [lU AV.str ai L]]] [] [] (λr S'=>∃out:List (List Nat),out.Perm (L.map (·.1))/\r=cr 0 1 out.length/\S'=[eY out,.gone]):=by
 refine SC.sZ (n:=13) dz el rfl rfl g9 (W:=[]) rfl g9 ?_;refine(om)<|zA [(2,.ptr 0 0),(6,.fn 149 [] [.ip [lU AV.str ai L]])] [.cells [aR],.gone] zH<|(zB) ?_;refine aG.tP (f1:=[(2,.ptr 0 0)]) dz ii func149 ii T0 ?_
 rintro N lc hid hn hps ha hb
 have hcd:sQ lc:=by
  unfold sQ;rw[el,ha,hb];rfl
 have hsc:=GI L lc hcd hn hps hlen hnd;refine⟨[3,0,1],_,_,_,_,hsc,?_,rfl,by decide,?_,?_⟩
 ·simp only[gn,bI,cL,an,bX,aM,↓reduceIte,af,aj,ay,hid,List.map,e5,cons_append,nil_append]
  try rfl
 ·rintro(_ | _ | _ | i) so h
  ·cases h;exact⟨3,rfl,by rfl⟩
  ·cases h;exact⟨0,rfl,by rfl⟩
  ·cases h;exact⟨1,rfl,by rfl⟩
  ·cases h
 rintro r S' ⟨rfl,out,hp,rfl⟩
 have hbn:∀n:Nat,dD 3 (cr 2 1 n)=true:=λn=>by
  unfold cr;split
  ·exact gh rfl
  ·rfl
 have hrn3:∀(B n:Nat),pM (jQ [3,0,1] B) (.cells [cr 2 1 n])=.cells [cr 1 1 n]:=λB n=>by
  show SO.cells [fo _ _]=_;rw[dJ];rfl
 refine⟨by simp only[gP,B5,gn,bI,an,aj,al,decide_true,↓gG,↓hbn];first | done | rfl,3,.ready,none,[(2,.ptr 0 0)],by rfl,by decide,by rfl,?_⟩
 have hS2:(dM (dS (dS [SO.cells [aR],SO.gone] (SO.ml N)) (SO.loop lc .ready none [(2,.ptr 0 0)])) [3,0,1] [2] [gP lc,.cells [cr 2 1 out.length],eY out]).set 3 .gone=[.cells [cr 1 1 out.length],eY out,.ml N,.gone]:=by
  simp only[dM,dS,cA,dh,fQ,gy,i7,i5,List.map,ac,li,↓hrn3,↓eM];rfl
 rw[hS2];change aG _ _ _ ⟨[(2,.ptr 0 0)],13,[.cells [cr 1 1 out.length],eY out,.ml N,.gone],[{ fn:=none,EE:=N,args:=[],cap:=[] }]⟩ _;refine(zV) ?_;refine zA [(4,cr 0 1 out.length)] [eY out,.ml N] (Fg.rn (f':=[(4,cr 0 1 out.length)]) (n:=13) (S':=[eY out,.ml N]) [1,2] g9 rfl (Mg (bu @dJ @eM)) (Mh (bu @dJ @eM))) ?_;refine aG.ret ?_
 (try simp only[eN,c8,bW,bK])
 exact⟨rfl,[(4,cr 0 1 out.length)],⟨rfl,trivial⟩,rfl,.inl ⟨rfl,1,rfl,⟨[cr 0 1 out.length],by rfl,out,hp,rfl,rfl⟩,a6 _,λi hi=>un hi (b8 _)⟩⟩
def se(L:List (List Nat×Bool))(hlen:L.length<=100000)(hnd:(L.map (·.1)).Nodup):SC prog 148 [.fn 149 [] [.ip [lU AV.str ai L]]] [] [] (λr S'=>∃out:List (List Nat),out.Perm (L.map (·.1))/\r=cr 0 1 out.length/\S'=[eY out,.gone]):=by
 refine LK 5 Tryz.func148 ?_;refine(jr) ?_;refine aL.sc [] ii rfl rfl ii rfl zc (Dy L hlen hnd) (by simp only[gn,bI,an];first | done | rfl) rfl g9 (λi so h=>by simp at h) ?_ ?_
 ·rintro r S' ⟨out,hp,rfl,rfl⟩;exact⟨ft 1 1 _,by simp only[B5,↓gG];first | done | rfl⟩
 ·rintro r S' ⟨out,hp,rfl,rfl⟩;have e1:fo (jQ [] ([]:List SO).length) (cr 0 1 out.length)=cr 0 1 out.length:=dJ _ 0 1 _
  have e2:dM [] [] [] [eY out,.gone]=[eY out,.gone]:=by
   simp only[dM,dh,fQ,gy,i7,i5,List.map,↓eM];rfl
  rw[e1,e2]
  refine oA [(4,cr 0 1 out.length)] [eY out,.gone] zH<|(zR)<|(zE) ?_;exact zP [.tmp 2] (hq:=by (try simp only[eC,bJ]);first | done | (exact⟨out,hp,rfl,rfl⟩))
def Ed(L:List (List Nat×Bool))(hlen:L.length<=100000)(hnd:(L.map (·.1)).Nodup)(hne:L≠[]):SC prog 64 [.fn 149 [] [.ip [lU AV.str ai L]]] [] [] (λr S'=>r=.buf 0 L.length 1 none/\S'=[.cells ((ee (L.map (·.1))).flatMap (aH ah))]):=by
 refine LK 9 func64 ?_;refine(jr) ?_;refine aL.sc [] ii rfl rfl ii rfl zc (se L hlen hnd) (by simp only[gn,bI,an];first | done | rfl) rfl g9 (λi so h=>by simp at h) ?_ ?_
 ·rintro r S' ⟨out,hp,rfl,rfl⟩;exact⟨ft 1 1 _,by simp only[B5,↓gG];first | done | rfl⟩
 ·rintro r S' ⟨out,hp,rfl,rfl⟩;have e1:fo (jQ [] ([]:List SO).length) (cr 0 1 out.length)=cr 0 1 out.length:=dJ _ 0 1 _
  have e2:dM [] [] [] [eY out,.gone]=[eY out,.gone]:=by
   simp only[dM,dh,fQ,gy,i7,i5,List.map,↓eM];rfl
  rw[e1,e2]
  have hol:out.length=L.length:=by rw[hp.length_eq,ac]
  have hon:out≠[]:=λe=>hne (t8 (by rw[<-hol,e];rfl));have hso:ee out=ee (L.map (·.1)):=sL hp;have hss:=An out i4 hon;rw[hso,hol] at hss;have hcs:∀(r:Nat->Nat) (q:List (List Nat)),mP r (q.flatMap (aH ah))=q.flatMap (aH ah):=λr q=>bp (aE (λ_=>rfl) q);have hcb:∀(B:Nat) (q:List (List Nat)),iI B (q.flatMap (aH ah))=true:=λB q=>bO (aE (λ_=>rfl) q);have hck:∀(o:Nat) (q:List (List Nat)),(q.flatMap (aH ah)).map (aM o)=q.flatMap (aH ah):=λo q=>bx (enc:=aH ah) gc o q;rw[fU hon,hol,eo (λh=>hne (t8 h))]
  refine oA [(5,.buf 0 L.length 1 none)] [.cells (out.flatMap (aH ah))] zH<|(zR)<|(zC) ?_;refine zS [0] (cJ hcs hcb hck) hss ?_;refine(zR)<|(zV)<|(zE) ?_;exact zP [.tmp 2]
def Ba:SC prog 64 [.fn 149 [] [.ip [lU AV.str ai []]]] [] [] (λr S'=>r=aR/\S'=[]):=by
 refine LK 9 func64 ?_;refine(jr) ?_;refine aL.sc [] ii rfl rfl ii rfl zc (se [] (a6 _) bb) (by simp only[gn,bI,an];first | done | rfl) rfl g9 (λi so h=>by simp at h) ?_ ?_
 ·rintro r S' ⟨out,hp,rfl,rfl⟩;exact⟨ft 1 1 _,by simp only[B5,↓gG];first | done | rfl⟩
 ·rintro r S' ⟨out,hp,rfl,rfl⟩;obtain rfl:out=[]:=Perm.eq_nil hp
  refine oA [(5,aR)] [] (cf (show fo (jQ [] ([]:List SO).length) (cr 0 1 ([]:List (List Nat)).length)=aR from rfl))<|(zR)<|(zC)<|(zK uB)<|(zR)<|(zV)<|(zE) ?_;exact zP [.tmp 2]
def xB{K U:Type}[DecidableEq K]{k:K}{v:U}:∀{m:List (K×U)},(cy k v m).length<=m.length+1
 | []=>by unfold cy;simp
 | a::m=>by
  unfold cy;split
  ·rw[i7,i7];omega
  ·have:=xB (k:=k) (v:=v) (m:=m);rw[i7,i7];omega
def dR(day:Int)(m:List (List Nat×Bool))(x:kO×Bool):List (List Nat×Bool):=if x.1.day<day then cy x.1.fh true m else m
def tJ(day:Int):∀(q:List (kO×Bool)) (m:List (List Nat×Bool)),(m.map (·.1)).Nodup->((q.foldl (dR day) m).map (·.1)).Nodup/\∀x,x∈(q.foldl (dR day) m).map (·.1)↔x∈m.map (·.1)\/∃e∈q,e.1.day<day/\e.1.fh=x
 | [],m,h=>⟨h,λx=>by simp⟩
 | y::q,m,h=>by
  rw[b5];by_cases hd:y.1.day<day
  ·rw[show dR day m y=cy y.1.fh true m from ut hd];obtain⟨i1,i2⟩:=tJ day q (cy y.1.fh true m) (tO h);refine⟨i1,λx=>?_⟩;rw[i2,Oi];constructor
   ·rintro((rfl | h) | ⟨e,he,h1,h2⟩)
    ·exact .inr ⟨y,ba,hd,rfl⟩
    ·exact .inl h
    ·exact .inr ⟨e,am _ he,h1,h2⟩
   ·rintro(h | ⟨e,he,h1,h2⟩)
    ·exact .inl (.inr h)
    ·rcases t7 he with rfl | he
     ·exact .inl (.inl h2.symm)
     ·exact .inr ⟨e,he,h1,h2⟩
  ·rw[show dR day m y=m from v6 hd];obtain⟨i1,i2⟩:=tJ day q m h;refine⟨i1,λx=>?_⟩;rw[i2];constructor
   ·rintro(h | ⟨e,he,h1,h2⟩)
    ·exact .inl h
    ·exact .inr ⟨e,am _ he,h1,h2⟩
   ·rintro(h | ⟨e,he,h1,h2⟩)
    ·exact .inl h
    ·rcases t7 he with rfl | he
     ·exact un h1 hd
     ·exact .inr ⟨e,he,h1,h2⟩
def Ig{ds:List ea}{q:List (kO×Bool)}(hq:q.Perm (rZ ds c l part day)):ee ((q.foldl (dR day) []).map (·.1))=eJ ds c l part day:=by
 obtain⟨h1,h2⟩:=tJ day q [] bb;obtain⟨_,p2⟩:=J6 ds c l part day;refine OI h1 λx=>?_;rw[h2];constructor
 ·rintro(h | ⟨e,he,h3,rfl⟩)
  ·cases h
  ·have:=(p2 e.1).1 (cc (hq.mem_iff.1 he));exact mem_map.2 ⟨(e.1.fh,e.1.day),mem_filter.2 ⟨this.2,wl h3⟩,rfl⟩
 ·intro h;obtain⟨e,he,rfl⟩:=mem_map.1 h;obtain⟨h3,h4⟩:=mem_filter.1 he;obtain⟨x,hx,e1⟩:=mem_map.1 ((p2 ⟨part,e.1,e.2⟩).2 ⟨rfl,h3⟩);exact .inr ⟨x,hq.mem_iff.2 hx,by rw[e1];exact ww h4,by rw[e1]⟩
def Lo(day:Int)(q:List (kO×Bool)):(q.foldl (dR day) []).length<=q.length:=by
 have key:∀(q:List (kO×Bool)) (m:List (List Nat×Bool)),(q.foldl (dR day) m).length<=m.length+q.length:=by
  intro q
  induction q with
  | nil=>intro m;exact ap _
  | cons y q ih=>
   intro m;rw[b5,i7]
   have h1:(dR day m y).length<=m.length+1:=by
    unfold dR;split
    ·exact xB
    ·omega
   have:=ih (dR day m y);omega
 have:=key q [];simpa using this
def QJ(d:kO):ui (nS d)=.ag [ah d.part,ah d.fh,ab d.day]:=rfl
def Oc(ds:List ea)(c:List aV)(l:List bB)(part:List Nat)(day:Int):(rZ ds c l part day).length<=ds.length:=by
 unfold rZ;split
 ·exact a6 _
 ·split
  ·exact a6 _
  ·rename_i p _ _
   have key:∀(ds:List ea) (m:List (kO×Bool)),(ds.foldl (ja l part day p.kind) m).length<=m.length+ds.length:=by
    intro q
    induction q with
    | nil=>intro m;exact ap _
    | cons y q ih=>
     intro m;rw[b5,i7]
     have h1:(ja l part day p.kind m y).length<=m.length+1:=by
      unfold ja;split
      ·exact xB
      ·omega
     have:=ih (ja l part day p.kind m y);omega
   have:=key ds [];simpa using this
def I6(ds:List ea)(c:List aV)(l:List bB)(part:List Nat)(day:Int)(hd:∀d∈ds,Ch d)(hdl:ds.length<=100000)(hc:mz c)(hlen:l.length<20)(hl:∀e∈l,lN e):PC prog 22 [an 5 ds bf,.ag [an 3 c ao],an 14 l ar,ah part,ab day] (·=an 1 (eJ ds c l part day) (aH ah)):=by
 have hp:=I8 ds c l part day hd i4 hc hlen hl;have hpl:=Oc ds c l part day;have hpk:=(J6 ds c l part day).1;have hsr:=λq hq=>Ig (ds:=ds) (c:=c) (l:=l) (part:=part) (day:=day) (q:=q) hq;generalize rZ ds c l part day=M at hp hpl hpk hsr
 refine pB 35 Tryz.func22 ?_;refine(zV) ?_;refine zZ ((0,an 5 ds bf)::(6,.ip [an 3 c ao])::(2,an 14 l ar)::(3,ah part)::[(4,ab day)]) 0 rfl (gw @an.eq_1)<|zA ((0,an 5 ds bf)::(6,.ip [an 3 c ao])::(2,an 14 l ar)::(3,ah part)::[(4,ab day)]) [] zH<|(jr)<|(zK hp (hfl:=.inr zr)) ?_;refine aL.TW (ks:=M.map λe=>nS e.1) (vs:=M.map λe=>ai e.2) ii rfl rfl ii rfl (by simp only[aC]) ?_
 intro bs c hbs;refine(zR) ?_
 (repeat refine aG.seq ?_)
 refine aG.block (aG.loop (λm st=>∃pos:List Nat,pos.Nodup/\(∀j∈pos,j<M.length)/\M.length-pos.length=m/\st=⟨[(4,ab day),(11,.map 0),(20,.ptr 1 0)],35,[bE AV.str ai ((bn M pos).foldl (dR day) []),.oE (M.map λe=>nS e.1) (M.map λe=>ai e.2) bs c pos],[]⟩) M.length (cf (show SO.map [] [] none=bE AV.str ai ((bn M []).foldl (dR day) []) from rfl)) ⟨[],bb,λj h=>(bw h).elim,rfl,rfl⟩ (by rintro m st ⟨_,_,_,_,rfl⟩;rfl) ?_);rintro m st ⟨pos,hpn,hpl2,rfl,rfl⟩;refine(zC) ?_;refine aL.TT ii rfl rfl ii rfl rfl (λj hj=>by rw[ac];exact hpl2 j hj) ?_ ?_;rotate_left
 ·intro j hj hjn;rw[ac] at hj;obtain⟨e,he⟩:∃e,M[j]?=some e:=⟨M[j],jp hj⟩;obtain⟨q1,q2,q3⟩:=qF hpn hpl2 hj hjn
  have hsn:(bn M (pos++[j])).foldl (dR day) []=dR day ((bn M pos).foldl (dR day) []) e:=by rw[kU M pos he,b4];rfl
  rw[show ∀m,dR day m e=if e.1.day<day then cy e.1.fh true m else m from λ_=>rfl] at hsn;generalize (bn M pos).foldl (dR day) []=nm at hsn ⊢
  have hmeas:M.length-(pos++[j]).length<M.length-pos.length:=by rw[li];simp only[i7,i5];omega
  refine(cP @qz)<|(gA)<|(zC) ?_;refine aL.TM (k:=nS e.1) (v:=ai e.2) ii rfl rfl ii rfl rfl (by rw[a8,he];rfl) (by rw[a8,he];rfl) ?_;refine(cP (bu @QJ @qz)) ?_
  by_cases hb:e.1.day<day
  ·rw[ut hb] at hsn
   refine(aD (wl hb))<|(zY)<|(zs) ?_;refine aG.r0 ii (by simp only[cL,bI,an,aC,m7,m6,↓reduceIte,af,aj,ax,ad,al,ak,au,bl,rK (l:=nm),qz];first | done | rfl) ?_;exact⟨M.length-(pos++[j]).length,_,hmeas,(cf hsn),pos++[j],q1,q2,rfl,rfl⟩
  ·rw[v6 hb] at hsn
   refine(aD (wd hb))<|(zN) ?_;exact⟨M.length-(pos++[j]).length,_,hmeas,(cf hsn),pos++[j],q1,q2,rfl,rfl⟩
 intro hall;have hperm:(bn M pos).Perm M:=mJ hpn hpl2 λj hj=>hall j (by rw[ac];exact hj);have hkn:=(tJ day (bn M pos) [] bb).1;have hkl:=Lo day (bn M pos)
 have hml:(bn M pos).length<=100000:=by rw[hperm.length_eq];omega
 have hso:=hsr _ hperm;rw[<-hso];generalize (bn M pos).foldl (dR day) []=nm at hkn hkl ⊢
 refine(cP @qz)<|(gg) ?_
 (try simp only[eN,c8,bW,bK,if_true])
 refine zZ [(11,lU AV.str ai nm)] 0 rfl ⟨.inr (mc (λ_=>rfl) rfl),trivial⟩<|zA [(11,lU AV.str ai nm)] [] zH<|(zC)<|(zK (IZ nm) (hfl:=.inr zr)) ?_
 by_cases hn0:nm=[]
 ·subst hn0
  refine zS [] trivial Ba ?_;exact(zR)<|zo [.tmp 10] (r:=an 1 ([]:List (List Nat)) (aH ah)) (hw:=.nil _)
 ·have hss:=Ed nm i4 hkn hn0;have hcs:∀(r:Nat->Nat) (q:List (List Nat)),mP r (q.flatMap (aH ah))=q.flatMap (aH ah):=λr q=>bp (aE (λ_=>rfl) q);have hcb:∀(B:Nat) (q:List (List Nat)),iI B (q.flatMap (aH ah))=true:=λB q=>bO (aE (λ_=>rfl) q);have hck:∀(o:Nat) (q:List (List Nat)),(q.flatMap (aH ah)).map (aM o)=q.flatMap (aH ah):=λo q=>bx (enc:=aH ah) gc o q
  have hsl:(ee (nm.map (·.1))).length=nm.length:=by rw[(r9 _).length_eq,ac]
  refine zS [] (cJ hcs hcb hck) hss ?_;exact(zR)<|zo [.tmp 10] (r:=.sl nm.length 1 ((ee (nm.map (·.1))).flatMap (aH ah))) (hw:=.buf rfl (by rw[<-hsl,ek (enc:=aH ah) (e:=1) gc];exact cu.refl (aE (λ_=>rfl) _)) (by rw[aU (enc:=aH ah) (e:=1) gc,hsl];exact ap _)) (hq:=by rw[pP,hsl])
open Go.Ev Go.RowKit Go.Sort
def x8(x y:Int):Int:=if x<y then -1 else if y<x then 1 else 0
def jB(x y:ByteArray):Int:=if Op.bytesLess x.toList y.toList=true then -1 else if (x.toList==y.toList)=true then 0 else 1
def AN(x y z:Int):Int:=if x≠0 then x else if y≠0 then y else z
set_option maxRecDepth 100000 in
def IF(x y:Int)(W:World):Calls prog 78 #[.int .i64 x,.int .i64 y] W λe w'=>e=.returned (.int .i64 (x8 x y))/\w'=W:=by
 unfold x8
 go_enter Tryz.func78,Tryz.ntmps78
 go_wp2
 all_goals (go_ret;exact⟨rfl,rfl⟩)
set_option maxRecDepth 100000 in
def I3(x:ByteArray)(W:World):Calls prog 159 #[.string x] W λe w'=>e=.returned (.bool false)/\w'=W:=by
 go_enter Tryz.func159,Tryz.ntmps159
 go_wp2
 go_ret
 exact⟨rfl,rfl⟩
set_option maxRecDepth 100000 in
def zU(x y:ByteArray)(W:World):Calls prog 79 #[.string x,.string y] W λe w'=>e=.returned (.int .i64 (jB x y))/\w'=W:=by
 have hn:=λz W'=>I3 z W';cases h1:Op.bytesLess x.toList y.toList
 ·cases h2:(x.toList==y.toList)
  ·rw[show jB x y=1 by unfold jB;rw[h1,h2];rfl]
   go_enter fa,es
   go_wp2_with (go_at_call 159;refine(hn _ _).mono ?_;rintro e w' ⟨rfl,rfl⟩)
   all_goals (go_ret;exact⟨rfl,rfl⟩)
  ·rw[show jB x y=0 by unfold jB;rw[h1,h2];rfl]
   go_enter fa,es
   go_wp2_with (go_at_call 159;refine(hn _ _).mono ?_;rintro e w' ⟨rfl,rfl⟩)
   all_goals (go_ret;exact⟨rfl,rfl⟩)
 ·rw[show jB x y = -1 by unfold jB;rw[h1];rfl]
  go_enter fa,es
  go_wp2_with (go_at_call 159;refine(hn _ _).mono ?_;rintro e w' ⟨rfl,rfl⟩)
  all_goals (go_ret;exact⟨rfl,rfl⟩)
set_option maxRecDepth 100000 in
def OQ(x y z:Int)(W:World)(b c:Nat)(h0:W.cell? ⟨b,0,none⟩=some (.int .i64 x))(h1:W.cell? ⟨b,1,none⟩=some (.int .i64 y))(h2:W.cell? ⟨b,2,none⟩=some (.int .i64 z)):Calls prog 77 #[.slice (some ⟨b,0,none⟩) 3 c] W λe w'=>e=.returned (.int .i64 (AN x y z))/\w'=W:=by
 by_cases g1:x=0
 ·by_cases g2:y=0
  ·rw[show AN x y z=z by unfold AN;simp[g1,g2]];subst g1 g2;by_cases g3:z=0
   ·subst g3
    go_enter dC,c4
    go_wp2
    refine wp_loop_rounds 4 ?_;rw[rounds_succ]
    go_wp2
    rw[rounds_succ]
    go_wp2
    rw[rounds_succ]
    go_wp2
    rw[rounds_succ]
    go_wp2
    all_goals (go_ret;exact⟨rfl,rfl⟩)
   ·go_enter dC,c4
    go_wp2
    refine wp_loop_rounds 3 ?_;rw[rounds_succ]
    go_wp2
    rw[rounds_succ]
    go_wp2
    rw[rounds_succ]
    go_wp2
    all_goals (go_ret;exact⟨rfl,rfl⟩)
  ·rw[show AN x y z=y by unfold AN;simp[g1,g2]];subst g1
   go_enter dC,c4
   go_wp2
   refine wp_loop_rounds 2 ?_;rw[rounds_succ]
   go_wp2
   rw[rounds_succ]
   go_wp2
   all_goals (go_ret;exact⟨rfl,rfl⟩)
 ·rw[show AN x y z=x by unfold AN;simp[g1]]
  go_enter dC,c4
  go_wp2
  refine wp_loop_rounds 1 ?_;rw[rounds_succ]
  go_wp2
  all_goals (go_ret;exact⟨rfl,rfl⟩)
def Lw(W:World)(cs:Array Value)(t:TypeId)(i:Nat):(W.alloc (Obj.cells cs t)).cell? ⟨W.heap.size,i,none⟩=cs[i]?:=by
 unfold World.cell?;rw[show(W.alloc (Obj.cells cs t)).heap=W.heap.push (Obj.cells cs t) from rfl];simp only[ci];rw[ut trivial];rfl
def Md(W:World)(cs ds:Array Value)(t:TypeId):(∀i,(World.drew ((W.alloc (Obj.cells cs t)).alloc (Obj.cells ds t))).cell? ⟨W.heap.size,i,none⟩=cs[i]?)/\(∀i,(World.drew ((W.alloc (Obj.cells cs t)).alloc (Obj.cells ds t))).cell? ⟨W.heap.size+1,i,none⟩=ds[i]?)/\World.drew ((W.alloc (Obj.cells cs t)).alloc (Obj.cells ds t))=grow (W.drewN 1) #[Obj.cells cs t,Obj.cells ds t]:=by
 have e:(World.drew ((W.alloc (Obj.cells cs t)).alloc (Obj.cells ds t))).heap=(W.heap.push (Obj.cells cs t)).push (Obj.cells ds t):=rfl;refine⟨λi=>?_,λi=>?_,?_⟩
 ·unfold World.cell?;rw[e];simp only[ci,e3];rw[v6 i4,ut trivial];rfl
 ·unfold World.cell?;rw[e];simp only[ci,e3];rw[ut trivial];rfl
 ·unfold grow World.drewN World.drew
  congr 1
set_option maxRecDepth 100000 in
def AW(x1 y1:Int)(x2 x3 y2 y3:ByteArray)(W:World):Calls prog 76 #[.agg #[.int .i64 x1,.string x2,.string x3],.agg #[.int .i64 y1,.string y2,.string y3]] W λe w'=>e=.returned (.int .i64 (AN (x8 x1 y1) (jB x2 y2) (jB x3 y3)))/\∃q os',w'=grow (W.drewN q) os':=by
 have hI:=λW'=>IF x1 y1 W';have hS2:=λW'=>zU x2 y2 W';have hS3:=λW'=>zU x3 y3 W'
 go_enter func76,Tryz.ntmps76
 go_wp2
 refine wp_region_still_tail 15 zW zW ?_;change wpStill _ _ (World.drew ((W.alloc (Obj.cells #[Value.int .i64 x1,Value.string x2,Value.string x3] 65)).alloc (Obj.cells #[Value.int .i64 y1,Value.string y2,Value.string y3] 65))) (λa'=>wpList _ _ _ _ a' (World.drew ((W.alloc (Obj.cells #[Value.int .i64 x1,Value.string x2,Value.string x3] 65)).alloc (Obj.cells #[Value.int .i64 y1,Value.string y2,Value.string y3] 65)))) _ _;obtain⟨k1,k2,k3⟩:=Md W #[Value.int .i64 x1,Value.string x2,Value.string x3] #[Value.int .i64 y1,Value.string y2,Value.string y3] 65;have a0:(World.drew ((W.alloc (Obj.cells #[Value.int .i64 x1,Value.string x2,Value.string x3] 65)).alloc (Obj.cells #[Value.int .i64 y1,Value.string y2,Value.string y3] 65))).cell? ⟨W.heap.size,0,none⟩=some (.int .i64 x1):=k1 0;have a1:(World.drew ((W.alloc (Obj.cells #[Value.int .i64 x1,Value.string x2,Value.string x3] 65)).alloc (Obj.cells #[Value.int .i64 y1,Value.string y2,Value.string y3] 65))).cell? ⟨W.heap.size,1,none⟩=some (.string x2):=k1 1;have a2:(World.drew ((W.alloc (Obj.cells #[Value.int .i64 x1,Value.string x2,Value.string x3] 65)).alloc (Obj.cells #[Value.int .i64 y1,Value.string y2,Value.string y3] 65))).cell? ⟨W.heap.size,2,none⟩=some (.string x3):=k1 2;have b0:(World.drew ((W.alloc (Obj.cells #[Value.int .i64 x1,Value.string x2,Value.string x3] 65)).alloc (Obj.cells #[Value.int .i64 y1,Value.string y2,Value.string y3] 65))).cell? ⟨W.heap.size+1,0,none⟩=some (.int .i64 y1):=k2 0;have b1:(World.drew ((W.alloc (Obj.cells #[Value.int .i64 x1,Value.string x2,Value.string x3] 65)).alloc (Obj.cells #[Value.int .i64 y1,Value.string y2,Value.string y3] 65))).cell? ⟨W.heap.size+1,1,none⟩=some (.string y2):=k2 1;have b2:(World.drew ((W.alloc (Obj.cells #[Value.int .i64 x1,Value.string x2,Value.string x3] 65)).alloc (Obj.cells #[Value.int .i64 y1,Value.string y2,Value.string y3] 65))).cell? ⟨W.heap.size+1,2,none⟩=some (.string y3):=k2 2;have HD:Hid ((World.drew ((W.alloc (Obj.cells #[Value.int .i64 x1,Value.string x2,Value.string x3] 65)).alloc (Obj.cells #[Value.int .i64 y1,Value.string y2,Value.string y3] 65)))=grow (W.drewN 1) #[Obj.cells #[Value.int .i64 x1,Value.string x2,Value.string x3] 65,Obj.cells #[Value.int .i64 y1,Value.string y2,Value.string y3] 65]):=k3;clear k1 k2 k3;generalize (World.drew ((W.alloc (Obj.cells #[Value.int .i64 x1,Value.string x2,Value.string x3] 65)).alloc (Obj.cells #[Value.int .i64 y1,Value.string y2,Value.string y3] 65)))=W2 at a0 a1 a2 b0 b1 b2 HD ⊢;simp only[List.take_succ_cons,take_zero,List.drop_succ_cons,e6]
 still_step
 still_step
 still_step
 still_step
 still_call (hI _)
 still_step
 still_step
 still_step
 still_step
 still_call (hS2 _)
 still_step
 still_step
 still_step
 still_step
 still_call (hS3 _)
 refine wpStill_nil ?_;have hal:∀(W2:World) (cs:Array Value) (t:TypeId) (i:Nat),(W2.alloc (Obj.cells cs t)).cell? ⟨W2.heap.size,i,none⟩=cs[i]?:=Lw
 go_wp2_with (go_at_call 77;refine(OQ (x8 x1 y1) (jB x2 y2) (jB x3 y3) _ W2.heap.size 3 (hal _ _ _ 0) (hal _ _ _ 1) (hal _ _ _ 2)).mono ?_;rintro e w' ⟨rfl,rfl⟩)
 go_ret
 refine⟨rfl,1,#[Obj.cells #[Value.int .i64 x1,Value.string x2,Value.string x3] 65,Obj.cells #[Value.int .i64 y1,Value.string y2,Value.string y3] 65,Obj.cells #[Value.int .i64 (x8 x1 y1),Value.int .i64 (jB x2 y2),Value.int .i64 (jB x3 y3)] 3],?_⟩;rw[HD.out];rfl
open Go.Shelf
def qa:Go.Shelf.Ren:=⟨λ| 6=>156 | 15=>127 | 14=>238 | 28=>212 | 29=>213 | 20=>287 | 21=>288 | 22=>289 | 23=>290 | 24=>291 | 25=>292 | 26=>293 | 27=>294 | 46=>314 | 47=>270 | 48=>271 | 49=>315 | 50=>316 | 57=>326 | n=>n,λ| 22=>41 | 24=>65 | 25=>163 | 3=>3 | 39=>210 | 0=>0 | 53=>281 | 55=>283 | 4=>4 | 46=>274 | 45=>273 | 50=>122 | 5=>5 | 9=>9 | 66=>318 | 70=>322 | 76=>344 | 77=>345 | n=>n,λ| n=>n⟩
def wu:Go.Proofs.SlLaysF0.n6 prog qa:={
 mixed:=by kernel_rfl
 f6:=⟨Tryz.f156.name,by decide,func156.trans (rc some zW)⟩
 f14:=⟨Tryz.f238.name,by decide,func238.trans (rc some zW)⟩
 f15:=Tryz.func127.trans (rc some zW)
 f20:=⟨Tryz.f287.name,by decide,func287.trans (rc some zW)⟩
 f21:=⟨Tryz.f288.name,by decide,Tryz.func288.trans (rc some zW)⟩
 f22:=⟨Tryz.f289.name,by decide,Tryz.func289.trans (rc some zW)⟩
 f23:=⟨Tryz.f290.name,by decide,Tryz.func290.trans (rc some zW)⟩
 f24:=⟨Tryz.f291.name,by decide,Tryz.func291.trans (rc some zW)⟩
 f25:=⟨Tryz.f292.name,by decide,Tryz.func292.trans (rc some zW)⟩
 f26:=⟨Tryz.f293.name,by decide,Tryz.func293.trans (rc some zW)⟩
 f27:=⟨Tryz.f294.name,by decide,Tryz.func294.trans (rc some zW)⟩
 f28:=Tryz.func212.trans (rc some zW)
 f29:=Tryz.func213.trans (rc some zW)
 f46:=⟨Tryz.f314.name,by decide,Tryz.func314.trans (rc some zW)⟩
 f47:=Tryz.func270.trans (rc some zW)
 f48:=Tryz.func271.trans (rc some zW)
 f49:=⟨Tryz.f315.name,by decide,Tryz.func315.trans (rc some zW)⟩
 f50:=⟨Tryz.f316.name,by decide,Tryz.func316.trans (rc some zW)⟩
 f57:=⟨Tryz.f326.name,by decide,Tryz.func326.trans (rc some zW)⟩
 t0:=Tryz.underlying0
 a0:=Tryz.isAgg0
 z0:=Tryz.sizeOf0
 v0:=Tryz.zeroValue0
 t3:=Tryz.underlying3
 a3:=Tryz.isAgg3
 z3:=Tryz.sizeOf3
 v3:=Tryz.zeroValue3
 t4:=Tryz.underlying4
 a4:=Tryz.isAgg4
 z4:=Tryz.sizeOf4
 v4:=Tryz.zeroValue4
 t5:=Tryz.underlying5
 a5:=Tryz.isAgg5
 z5:=Tryz.sizeOf5
 v5:=Tryz.zeroValue5
 t9:=Tryz.underlying9
 a9:=Tryz.isAgg9
 z9:=Tryz.sizeOf9
 v9:=Tryz.zeroValue9
 t22:=Tryz.underlying41
 a22:=Tryz.isAgg41
 z22:=Tryz.sizeOf41
 v22:=Tryz.zeroValue41
 t25:=Tryz.underlying163
 a25:=Tryz.isAgg163
 z25:=Tryz.sizeOf163
 v25:=Tryz.zeroValue163
 t39:=Tryz.underlying210
 a39:=Tryz.isAgg210
 z39:=Tryz.sizeOf210
 v39:=Tryz.zeroValue210
 t45:=Tryz.underlying273
 a45:=Tryz.isAgg273
 z45:=Tryz.sizeOf273
 v45:=Tryz.zeroValue273
 t46:=Tryz.underlying274
 a46:=Tryz.isAgg274
 z46:=Tryz.sizeOf274
 v46:=Tryz.zeroValue274
 t50:=Tryz.underlying122
 a50:=Tryz.isAgg122
 z50:=Tryz.sizeOf122
 v50:=Tryz.zeroValue122
 t53:=Tryz.underlying281
 a53:=Tryz.isAgg281
 z53:=Tryz.sizeOf281
 v53:=Tryz.zeroValue281
 t55:=Tryz.underlying283
 a55:=Tryz.isAgg283
 z55:=Tryz.sizeOf283
 v55:=Tryz.zeroValue283
 t66:=Tryz.underlying318
 a66:=Tryz.isAgg318
 z66:=Tryz.sizeOf318
 v66:=Tryz.zeroValue318
 t70:=Tryz.underlying322
 a70:=Tryz.isAgg322
 z70:=Tryz.sizeOf322
 v70:=Tryz.zeroValue322
 t76:=Tryz.underlying344
 a76:=Tryz.isAgg344
 z76:=Tryz.sizeOf344
 v76:=Tryz.zeroValue344
 t77:=Tryz.underlying345
 a77:=Tryz.isAgg345
 z77:=Tryz.sizeOf345
 v77:=Tryz.zeroValue345 }
open Go.Ev Go.RowKit Go.Shelf Go.Lib Go.Sort
set_option maxRecDepth 100000 in
def IV(p:Option Addr)(cap:Nat)(fv:Value)(w:World):
 Calls prog 287 #[.slice p 0 cap,.int .i64 0,.int .i64 0,fv] w λe w'=>e=.returned (.tuple #[])/\w'=w:=by
 go_enter func287,Tryz.ntmps287
 go_wp2
 refine wp_loop_rounds 1 ?_;rw[rounds_succ]
 go_wp2
 go_end0
 exact⟨rfl,rfl⟩
set_option maxRecDepth 100000 in
def I7(p:Option Addr)(cap:Nat)(lim:Int)(fv:Value)(w:World):
 Calls prog 238 #[.slice p 0 cap,.int .i64 0,.int .i64 0,.int .i64 lim,fv] w λe w'=>e=.returned (.tuple #[])/\w'=w:=by
 have hi:=λW=>IV p cap fv W
 go_enter func238,Tryz.ntmps238
 go_wp2
 refine wp_loop_rounds 1 ?_;rw[rounds_succ]
 go_wp2_with (go_at_call 287;refine(hi _).mono ?_;rintro e w' ⟨rfl,rfl⟩)
 (try simp only[Exit.inBlock,Exit.then])
 refine bodyPost_ret (results_none rfl _ _ _) rfl ?_;exact⟨rfl,rfl⟩
set_option maxRecDepth 100000 in
def GX(p:Option Addr)(cap:Nat)(fv:Value)(w:World):
 Calls prog 156 #[.slice p 0 cap,fv] w λe w'=>e=.returned (.tuple #[])/\w'=w:=by
 have hp:=λlim W=>I7 p cap lim fv W
 have hl:∀W,Calls prog 127 #[.int .u64 0] W λe w'=>e=.returned (.int .i64 (Lib.bitLen 0:Nat))/\w'=W:=λW=>
  Any.bits_Len (SlLaysF0.n15.bits (P:=prog) (ρ:=qa) { wu with }) 0 W i4 i4
 go_enter func156,Tryz.ntmps156
 go_wp2_with (first | (go_at_call 127;refine(hl _).mono ?_;rintro e w' ⟨rfl,rfl⟩) | (go_at_call 238;refine(hp _ _).mono ?_;rintro e w' ⟨rfl,rfl⟩))
 go_end0
 exact⟨rfl,rfl⟩
abbrev TF:=Int×ByteArray×ByteArray
def lH(x:TF):List Value:=[.int .i64 x.1,.string x.2.1,.string x.2.2]
def iJ(x:TF):aA:=⟨x.1,kc x.2.1,kc x.2.2⟩
def SZ(x y:TF):Int:=AN (x8 x.1 y.1) (jB x.2.1 y.2.1) (jB x.2.2 y.2.2)
def aA.av(f:aA):List AV:=[.int .i64 f.kind,.str f.part,.str f.name]
def ta(x y:ByteArray):Op.bytesLess x.toList y.toList=gC (kc x) (kc y):=by
 unfold kc;simp only[ByteArray.toList_eq];exact(oK _ _).symm
def EK(x y:ByteArray):(x.toList==y.toList)=decide (kc x=kc y):=by
 unfold kc;simp only[ByteArray.toList_eq];by_cases h:x.data.toList=y.data.toList
 ·rw[h];simp
 ·have:¬x.data.toList.map (·.toNat)=y.data.toList.map (·.toNat):=λhe=>h (List.map_inj_right (λx y=>UInt8.toNat_inj.1) |>.1 he);have h2:¬x.data=y.data:=λe=>h (by rw[e]);simp[h2,this]
def C4(x y:TF):ltOf SZ x y=rR (iJ x) (iJ y):=by
 have e1:jB x.2.1 y.2.1=if gC (iJ x).part (iJ y).part=true then -1 else if (iJ x).part=(iJ y).part then 0 else 1:=by
  unfold jB;rw[ta,EK];simp only[wp];rfl
 have e2:jB x.2.2 y.2.2=if gC (iJ x).name (iJ y).name=true then -1 else if (iJ x).name=(iJ y).name then 0 else 1:=by
  unfold jB;rw[ta,EK];simp only[wp];rfl
 unfold ltOf SZ rR;rw[e1,e2,show x.1=(iJ x).kind from rfl,show y.1=(iJ y).kind from rfl];generalize iJ x=a;generalize iJ y=b;unfold AN x8
 rcases dc a.kind b.kind with h | h | h
 ·simp[h]
 ·have h1:¬a.kind<b.kind:=by omega
  have h2:¬b.kind<a.kind:=by omega
  cases g1:gC a.part b.part
  ·by_cases g2:a.part=b.part
   ·cases g3:gC a.name b.name
    ·by_cases g4:a.name=b.name<;>simp[h,g2,g4,eG]
    ·simp[h,g2,eG,g3]
   ·simp[h,g1,g2]
  ·simp[h,g1]
 ·have h1:¬a.kind<b.kind:=by omega
  have h2:¬a.kind=b.kind:=by omega
  simp[h,h1,h2]
def Uo:SWO (ltOf SZ) where
 irrefl:=λx=>by rw[C4];exact ru _
 trans:=λx y z h1 h2=>by rw[C4] at *;exact kj h1 h2
 ntrans:=λx y z h1 h2=>by
  rw[C4] at *;cases h:rR (iJ x) (iJ z)
  ·rfl
  ·rcases xu (iJ x) (iJ y) with g | g | g
   ·rw[g] at h1;cases h1
   ·rw[g,h2] at h;cases h
   ·have:=kj g h;rw[h2] at this;cases this
def AX(EE off size:Nat)(w:World):CmpLays prog 76 #[] lH 3 SZ EE off size w:=
 λ_ _ _ _ x y=>AW x.1 y.1 x.2.1 x.2.2 y.2.1 y.2.2 _
def Lx(x:TF):∀v∈lH x,v.oneCell'=true:=by
 intro v hv;simp[lH] at hv
 rcases hv with rfl | rfl | rfl<;>rfl
def Th:Option Value->ByteArray
 | some (.string s)=>s
 | _=>ByteArray.empty
def Uh:Option Value->Int
 | some (.int _ n)=>n
 | _=>0
def Ga(c:Array Value)(d i:Nat):TF:=(Uh c[d+i*3]?,Th c[d+i*3+1]?,Th c[d+i*3+2]?)
def LJ{σ:Sg}{c:Array Value}{d:Nat}{ts:List aA}(hV:∀(i:Nat) (a:AV),(ts.map aA.av).flatten[i]?=some a->∃v,c[d+i]?=some v/\V σ a v){i:Nat}{t:aA}(ht:ts[i]?=some t):
 iJ (Ga c d i)=t/\∀k,k<3->c[d+i*3+k]?=some (lH (Ga c d i))[k]!:=by
 have hw:∀r∈ts.map aA.av,r.length=3:=by intro r hr;obtain⟨t,_,rfl⟩:=mem_map.1 hr;rfl
 have hg:=(by rw[a8,ht];rfl:(ts.map aA.av)[i]?=some t.av);have h0:=pw hw hg (k:=0) i4;have h1:=pw hw hg (k:=1) i4;have h2:=pw hw hg (k:=2) i4;obtain⟨v0,g0,V0⟩:=hV _ _ (h0.trans (show t.av[0]?=some (.int .i64 t.kind) from rfl));obtain⟨v1,g1,V1⟩:=hV _ _ (h1.trans (show t.av[1]?=some (.str t.part) from rfl));obtain⟨v2,g2,V2⟩:=hV _ _ (h2.trans (show t.av[2]?=some (.str t.name) from rfl));rw[fm] at g0;rw[<-Nat.add_assoc] at g1 g2;cases V0
 cases V1 with
 | @str _ s0 e0=>cases V2 with
  | @str _ s1 e1=>
   have hrd:Ga c d i=(t.kind,s0,s1):=by unfold Ga;rw[g0,g1,g2];rfl
   rw[hrd];refine⟨?_,λk hk=>?_⟩
   ·unfold iJ kc;simp only[e0,e1]
   ·match k,hk with
    | 0,_=>rw[fm];exact g0
    | 1,_=>exact g1
    | 2,_=>exact g2
def GY(ts:List aA)(id bV:Nat)(h:Ev.H)(ho:h.aW.get id=some (.cells (ts.map aA.av).flatten bV))(hne:ts≠[])(hlen:ts.length<=1000000):
 dZ prog (.func 156) [.slice (some (id,0)) ts.length 3 none,.fn (.func 76) [] []] h (λr h'=>r=.cx []/\∃ts':List aA,ts'.Perm ts/\(ts'.Pairwise λa b=>rR b a=false)/\h.store id 0 (ts'.map aA.av).flatten=some h'):=by
 intro σ w args' hv hr;obtain⟨x,y,rfl,hx,hy⟩:=EC hv
 cases hy with
 | @fn _ _ _ fs' cs' hfy k1 k2 k3 k4=>
 have hfs:fs'=#[]:=ca (by rw[<-k1];rfl);have hcs:cs'=#[]:=ca (by rw[<-k3];rfl);subst hfs;subst hcs
 have hw0:∀r∈ts.map aA.av,r.length=3:=by intro r hr;obtain⟨t,_,rfl⟩:=mem_map.1 hr;rfl
 rw[ec dz func156 ii]
 have hpos:0<ts.length:=by
  cases ts with
  | nil=>exact un rfl hne
  | cons=>exact Nat.succ_pos _
 cases hx with
 | @slice _ _ _ _ _ a p c hs hl hrr hcc ha=>
 have ha:a=⟨p.b,p.d+0,none⟩:=ha.resolve_right i4;subst ha;obtain⟨q,carr,et,hq,hb,hsz,hlen',hVc⟩:=hr.cells ho;rw[hs] at hq;cases hq
 have hfl:(ts.map aA.av).flatten.length=ts.length*3:=by
  have:=jE (s:=3) hw0;rw[ac] at this;exact this
 have hpl:=hr.lt ho hs
 let d:Array TF:=Array.ofFn (n:=ts.length) λi=>Ga carr p.d i.1
 have hdsz:d.size=ts.length:=by simp[d]
 have hdi:∀i,i<ts.length->d[i]! = Ga carr p.d i:=λi hi=>by
  rw[getElem!_pos d i (by rw[hdsz];exact hi)];simp[d]
 have hspec:∀i,i<ts.length->ts[i]?=some (iJ (Ga carr p.d i))/\∀k,k<3->carr[p.d+i*3+k]?=some (lH (Ga carr p.d i))[k]!:=λi hi=>
  have g:=LJ hVc (jp hi)
  ⟨by rw[jp hi,g.1],g.2⟩
 have hH:HoldsK lH 3 w p.b (p.d+0) d:=by
  intro j hj;rw[size_flatK,hdsz] at hj
  have hi:j/3<ts.length:=by omega
  have hk:j%3<3:=by omega
  rw[get_flatK _ _ _ _ (by rw[hdsz];exact hj),hdi _ hi];have:=(hspec _ hi).2 _ hk;refine⟨?_,uZ hb⟩;rw[cell_of hb,show p.d+0+j=p.d+j/3*3+j%3 by omega];exact this
 have hmain:=AnyQ.slices_SortFunc wu 3 Tryz.isAgg65 Tryz.sizeOf65 lH (λ_=>rfl) Lx SZ Uo 76 #[] p.b (p.d+0) c d w (enters_of func76 zW rfl)
  (AX p.b (p.d+0) d.size w) hH hpl (by rw[hdsz];omega)
 rw[hdsz] at hmain;change Calls prog 156 _ _ _ at hmain;refine Calls.mono hmain ?_;rintro e w' ⟨rfl,d',n,os,⟨hp1,_,hp3⟩,hsorted,rfl⟩;rw[hdsz] at hp1
 have hdl:d.toList.map iJ=ts:=by
  apply List.ext_getElem?;intro i;by_cases hi:i<ts.length
  ·rw[a8,c0,b6 (by rw[hdsz];exact hi),m6,(hspec i hi).1]
   congr 2
   have:=hdi i hi;rw[getElem!_pos d i (by rw[hdsz];exact hi)] at this;exact this
  ·rw[ct (by simp[hdsz];omega),ct i4]
 have hex:∀a:Array TF,a.size=ts.length->(a.extract 0 ts.length).toList=a.toList:=λa ha=>by
  rw[Array.toList_extract,List.extract_eq_take_drop,e6,Nat.sub_zero,b9 (by simp[ha])]
 rw[hex _ hp1,hex _ hdsz] at hp3
 have hperm:(d'.toList.map iJ).Perm ts:=by rw[<-hdl];exact hp3.map _
 have hsx:(d'.toList.map iJ).Pairwise λa b=>rR b a=false:=by
  rw[List.pairwise_iff_getElem];intro i j hi hj hij;rw[ac,c5] at hi hj;have:=hsorted i j (a6 _) hij i4;rw[getElem!_pos d' j hj,getElem!_pos d' i hi,C4] at this;simp only[List.getElem_map,Array.getElem_toList];exact this
 have hlen2:(d'.toList.map iJ).length=ts.length:=by rw[ac,c5,hp1]
 have hw3:∀r∈(d'.toList.map iJ).map aA.av,r.length=3:=by intro r hr;obtain⟨t,_,rfl⟩:=mem_map.1 hr;rfl
 have hb1:(putRowK lH 3 (Sort.ahead w n) p.b (p.d+0) d').heap[p.b]?=some (.cells (putCells _root_.id (p.d+0) (flatK lH 3 d') carr) et (0,0)):=by
  unfold putRowK putRow mapBlock;simp only[cv,if_true];rw[show(Sort.ahead w n).heap[p.b]?=some (.cells carr et (0,0)) from hb];rfl
 have hoth:∀b,b≠p.b->(putRowK lH 3 (Sort.ahead w n) p.b (p.d+0) d').heap[b]?=w.heap[b]?:=λb hbb=>by
  unfold putRowK putRow mapBlock;simp only[cv];rw[v6 (λe=>hbb e.symm)];rfl
 have hVn:∀(i:Nat) (a:AV),((d'.toList.map iJ).map aA.av).flatten[i]?=some a->∃v,(putCells _root_.id (p.d+0) (flatK lH 3 d') carr)[p.d+i]?=some v/\V σ a v:=by
  intro i a hia
  have hil:i<ts.length*3:=by
   have:=NA hia;rw[jE hw3,ac,hlen2] at this;exact this
  have hj:i/3<d'.size:=by omega
  have hrow:((d'.toList.map iJ).map aA.av)[i/3]?=some (iJ d'[i/3]!).av:=by
   rw[a8,a8,c0,b6 hj,getElem!_pos d' _ hj];rfl
  have hat:=pw hw3 hrow (k:=i%3) i4;rw[show i/3*3+i%3=i by omega,hia] at hat
  have hcl:p.d+i<carr.size:=by omega
  have hput:(putCells _root_.id (p.d+0) (flatK lH 3 d') carr)[p.d+i]?=some ((lH d'[i/3]!)[i%3]!):=by
   unfold putCells;rw[Array.getElem?_mapIdx,b6 hcl,m6,ut ⟨by omega,by rw[size_flatK];omega⟩];rw[show p.d+i-(p.d+0)=i by omega,get_flatK _ _ _ _ i4];rfl
  refine⟨_,hput,?_⟩;generalize d'[i/3]! = x at hat
  have h3:i%3=0\/i%3=1\/i%3=2:=by omega
  rcases h3 with e | e | e<;>rw[e] at hat ⊢
  ·cases hat;exact .int _ _
  ·cases hat;exact .str rfl
  ·cases hat;exact .str rfl
 obtain⟨r1,r2⟩:=hr.rewrite ho hs (cs':=((d'.toList.map iJ).map aA.av).flatten) (by rw[jE hw3,ac,hlen2,hfl]) hb hb1 (by unfold putCells;rw[Array.size_mapIdx]) hVn hoth (by unfold putRowK putRow mapBlock;simp[Sort.ahead]) rfl rfl rfl
 have hbel:Below (putRowK lH 3 (Sort.ahead w n) p.b (p.d+0) d').heap.size (putRowK lH 3 (Sort.ahead w n) p.b (p.d+0) d') (grow (putRowK lH 3 (Sort.ahead w n) p.b (p.d+0) d') os):=
  ⟨rfl,rfl,rfl,by rw[size_grow];omega,λk hk=>by unfold grow;simp only;rw[Array.getElem?_append_left hk]⟩
 have hkeep:=sq r1 hbel;refine⟨_,rfl,.cx [],_,⟨rfl,d'.toList.map iJ,hperm,hsx,?_⟩,σ,V.lK,hkeep.1,r2.trans hkeep.2⟩
 have hfl2:((d'.toList.map iJ).map aA.av).flatten.length=(ts.map aA.av).flatten.length:=by rw[jE hw3,ac,hlen2,hfl]
 have hone:((d'.toList.map iJ).map aA.av).flatten.all jU=true:=by
  rw[d6];intro x hx;rw[List.mem_flatten] at hx;obtain⟨r,hr1,hr2⟩:=hx;obtain⟨k,_,rfl⟩:=mem_map.1 hr1;unfold aA.av at hr2;simp only[bi,bw,or_false] at hr2
  rcases hr2 with rfl | rfl | rfl<;>rfl
 unfold H.store;rw[ho];simp only;rw[hfl2,Nat.zero_add,fc (ap _),hone,Bool.and_self,ak,take_zero,nil_append,co (ap _),bL]
def CP:∀l:List aA,iQ (l.flatMap aw)=some (l.map aA.av).flatten
 | []=>rfl
 | a::l=>by
  show iQ (ab a.kind::ah a.part::ah a.name::l.flatMap aw)=_;rw[iQ,iQ,iQ,CP l];rfl
def xz:∀l:List aA,(l.flatMap aw).all eB=true
 | []=>rfl
 | a::l=>by rw[dv,List.all_append,xz l];rfl
def vS{l ks:List aA}(hp:ks.Perm l)(hn:l.Nodup)(hs:ks.Pairwise λa b=>rR b a=false):ks=gu l:=by
 have h1:=rH hn;have hk:ks.Nodup:=hp.nodup_iff.2 hn
 have h2:ks.Pairwise λa b=>rR a b=true:=by
  refine List.Pairwise.imp₂ ?_ hs hk;intro a b h e
  rcases xu a b with k | k | k
  ·exact k
  ·exact un k e
  ·rw[h] at k;cases k
 exact Perm.eq_of_pairwise (λa b _ _ h3 h4=>by have:=kj h3 h4;rw[ru] at this;cases this) h2 h1 (hp.trans (fG l).symm)
def ia(f:aA):(aw f).length=3:=rfl
def cB(f:aA):bR (aw f)=true:=rfl
def G0(l:List aA)(hlen:l.length<=1000000)(hne:l≠[])(hn:l.Nodup):SC prog 156 [.buf 0 l.length 3 none,.fn 76 [] []] [.cells (l.flatMap aw)] [] (λr S'=>r=.cx []/\S'=[.cells ((gu l).flatMap aw)]):=by
 refine SC.row (by rw[aU ia,aU ia,(fG l).length_eq]) (λθ ρ xs hx=>mf hx (xz _)) ?_;intro E θ ρ h avs asx bV hl hR hA ho hV _;have has:=ox hV (CP l);subst has;rw[aN] at hA;obtain⟨a,r,rfl,hA1,hA⟩:=hA;rw[aN] at hA;obtain⟨b,r,rfl,hA2,hA⟩:=hA;rw[bj] at hA;subst hA;rw[VS] at hA1;rw[VS] at hA2;subst hA1;obtain⟨xs,ys,rfl,hxs,hys⟩:=hA2;rw[bj] at hxs;subst hxs;rw[bj] at hys;subst hys;refine(GY l _ _ h ho hne hlen).mono ?_;rintro v h' ⟨rfl,ts',hp,hs,hst⟩;have:=vS hp hn hs;subst this;refine⟨by rw[VS];exact⟨[],rfl,by rw[bj]⟩,_,?_,hst⟩;exact tx (CP _)
def Ec(h:Ev.H):dZ prog (.func 156) [.slice none 0 0 (some 0),.fn (.func 76) [] []] h (λr h'=>r=.cx []/\h'=h):=by
 intro σ w args' hv hr;obtain⟨x,y,rfl,hx,hy⟩:=EC hv;rw[ec dz func156 ii]
 cases hx with
 | gV hl=>
  refine Calls.mono (GX _ _ y w) ?_;rintro e w' ⟨rfl,rfl⟩;exact⟨_,rfl,.cx [],h,⟨rfl,rfl⟩,σ,V.lK,hr,Ext.refl _ _ _⟩
def GZ:PC prog 156 [aR,.fn 76 [] []] (·=.a (.cx [])):=by
 intro ρ h avs _ hA;rw[dO] at hA;obtain⟨a,r,rfl,hA1,hA⟩:=hA;rw[dO] at hA;obtain⟨b,r,rfl,hA2,hA⟩:=hA;rw[eU] at hA;subst hA;rw[GS] at hA1;subst hA1;rw[GS] at hA2;obtain⟨xs,ys,rfl,hxs,hys⟩:=hA2;rw[eU] at hxs;subst hxs;rw[eU] at hys;subst hys;refine(Ec h).mono ?_;rintro v h' ⟨rfl,rfl⟩;exact⟨_,ρ,rfl,.refl _ _,λid ob hi=>.inl hi,by rw[GS]⟩
def cW(f:aA):AV:=.agg f.av
def aA.eq(a b:aA):fJ eE a.av b.av=decide (a=b):=by
 obtain⟨a1,a2,a3⟩:=a;obtain⟨b1,b2,b3⟩:=b;simp only[aA.av,fJ,eE,AI,sv,ly,cp,fb,aA.mk.injEq,ey]
def GH:Keys prog 65 cW:=
 vb (ks:=[.i .i64,.s,.s]) zW (by simp only[aC,m6]) (λ_=>rfl) aA.eq λ_=>rfl
def I9{S:List SO}{o:Nat}{l:List (aA×Bool)}(n:Int)(a b:List Nat)(u:Bool)(hS:S[o]?=some (bE cW ai l)):ik prog S 99 (.map o) (.ag [ab n,ah a,ah b]) (.a (.bool u))=some (S.set o (bE cW ai (cy (⟨n,a,b⟩:aA) u l))):=
 Ir (uv:=ai) (k:=(⟨n,a,b⟩:aA)) (kt:=65) (et:=4) (by simp only[aC]) GH hS rfl u
def bm{n:Nat}{l:List (aA×Bool)}:bF n (bE cW ai l)=bE cW ai l:=mr λ_=>l8 _
def QK(f:aA):ui (cW f)=.ag [ab f.kind,ah f.part,ah f.name]:=rfl
def jt(l:List aA):SO:=if l=[] then .gone else .cells (l.flatMap aw)
def Ip{l:List aA}(h:¬l=[]):jt l=.cells (l.flatMap aw):=v6 h
def FX:jt []=.gone:=rfl
def tV(r:Nat->Nat)(l:List aA):pM r (jt l)=jt l:=by
 unfold jt;split
 ·rfl
 ·rw[Kg];congr 1;exact bp (aE cB l)
def rm(o:Nat)(l:List aA):bF o (jt l)=jt l:=by
 unfold jt;split
 ·rfl
 ·rw[bF];congr 1;exact bQ (aE cB l)
def sY(B:Nat)(l:List aA):mC B (jt l)=true:=by
 unfold jt;split
 ·rfl
 ·rw[mC];exact bO (aE cB l)
def I0(L:List (aA×Bool)):PC prog 75 [lU cW ai L] (·=.fn 157 [] [.ip [lU cW ai L]]):=by
 refine pB 4 Tryz.func75 ?_;refine(zV) ?_;refine zZ [(1,.ip [lU cW ai L])] 0 rfl (gw @an.eq_1) ?_
 (try change aG _ _ _ _ _)
 exact(zV)<|zo [.tmp 2]
def gQ(lc:jx):SO:=.loop lc .ready none [(2,.ptr 1 0)]
def yE(o:Nat)(lc:jx)(h:¬1=o):bF o (gQ lc)=gQ lc:=by
 simp[gQ,bF,bX,aM,Ev.names,h]
def sR(lc:jx):Prop:=(prog.funcs[(237:Nat)]?.bind λfn=>fn.body.bind uV)=some (lc.a,lc.b)
def GJ(L:List (aA×Bool))(lc:jx)(hcd:sR lc)(hln:lc.n=13)(hlp:lc.ps=#[7])(hlen:L.length<=100000)(hnd:(L.map (·.1)).Nodup):
 SC prog 157 [.a (.fn (.yield lc.id) [] []),.ip [lU cW ai L]] [gQ lc,.cells [aR],.gone] [2] (λr S'=>r=.cx []/\∃out:List aA,out.Perm (L.map (·.1))/\S'=[gQ lc,.cells [cr 2 3 out.length],jt out]):=by
 refine TZ 14 func157 ?_;have hk3:=yE 3 lc g9;have hk4:=yE 4 lc g9;have hn4:=λn=>cC (p:=4) (o:=2) (e:=3) (n:=n) g9;refine(zC) ?_;refine aL.TW (ks:=L.map λe=>cW e.1) (vs:=L.map λe=>ai e.2) ii rfl rfl ii rfl (by simp only[aC]) ?_;intro bs c hbs;refine aL.r0 ii (by simp only[cL,bI,an,aC,m7,m6,↓reduceIte,af,aj,ax,ad,al,ak,au,bl,↓hk3];first | done | rfl) ?_
 (repeat refine aG.seq ?_)
 refine aG.block (aG.loop (λm st=>∃pos:List Nat,pos.Nodup/\(∀j∈pos,j<L.length)/\L.length-pos.length=m/\st=⟨[(0,.a (.fn (.yield lc.id) [] [])),(5,.ptr 3 0),(1000000,.ptr 0 0),(1000001,.ptr 1 0)],14,[gQ lc,.cells [cr 2 3 (bn L pos).length],jt ((bn L pos).map (·.1)),.oE (L.map λe=>cW e.1) (L.map λe=>ai e.2) bs c pos],[]⟩) L.length (cf (uP @bn.eq_1 @List.filterMap_nil.{0,0} @map_nil.{0,0} @i5.{0} @lD @FX)) ⟨[],bb,λj hj=>by simp at hj,rfl,rfl⟩ (by rintro m st ⟨pos,_,_,_,rfl⟩;rfl) ?_);rintro m st ⟨pos,hpn,hpl,rfl,rfl⟩;refine aG.post ?_;refine(zC) ?_;refine aL.TT ii rfl rfl ii rfl rfl (λj hj=>by rw[ac];exact hpl j hj) ?_ ?_
 ·intro hall
  refine(zR)<|(gg) ?_;refine⟨⟨[(1000000,.ptr 0 0),(1000001,.ptr 1 0)],14,[gQ lc,.cells [cr 2 3 (bn L pos).length],jt ((bn L pos).map (·.1))],[]⟩,zH,?_⟩
  simp only[eN,c8,bW,bK,if_true];exact zP [] (hq:=by (try simp only[eC,bJ]);first | done | (exact⟨trivial,(bn L pos).map (·.1),(mJ hpn hpl (λj hj=>hall j (by rw[ac];exact hj))).map _,by rw[ac]⟩))
 ·intro j hj hjn;rw[ac] at hj;obtain⟨e,he⟩:∃e,L[j]?=some e:=⟨L[j],jp hj⟩;obtain⟨q1,q2,q3⟩:=qF hpn hpl hj hjn;have hsn:=kU L pos he
  refine(zR)<|(gA)<|(zC) ?_;refine aL.TM (k:=cW e.1) (v:=ai e.2) ii rfl rfl ii rfl rfl (by rw[a8,he];rfl) (by rw[a8,he];rfl) ?_;refine aL.r0 ii (by simp only[cL,bI,an,aC,m7,m6,↓reduceIte,af,aj,ax,ad,al,ak,au,bl,QK,↓hk4,hn4,rm];first | done | rfl) ?_;refine(e9 @aw.eq_1) ?_;refine oA [(10,.a (.fn (.yield lc.id) [] [])),(11,.ag (aw e.1)),(0,.a (.fn (.yield lc.id) [] [])),(5,.ptr 3 0),(1000000,.ptr 0 0),(1000001,.ptr 1 0)] [gQ lc,.cells [cr 2 3 (bn L pos).length],jt ((bn L pos).map (·.1)),.oE (L.map λe=>cW e.1) (L.map λe=>ai e.2) bs c (pos++[j])] (Fg.less (by (simp only[cL,bI,fF,↓reduceIte,af,aw,↓hk4,hn4,rm])<;>(repeat' apply ce)<;>first | rfl | trivial) (by (simp only[cL,bI,or_true,true_or,aw,↓hk4,hn4,rm])<;>(repeat' apply ce)<;>first | exact .inr rfl | exact .inl rfl | trivial)) ?_;refine aL.y (vs:=[.ag (aw e.1)]) (oo:=0) ii rfl rfl ii rfl rfl rfl ii rfl (by rw[hlp];rfl) (by rw[hln];rfl) (by rw[hln];decide) (by rw[hlp,hln];rfl) λro'=>?_
  have hcd2:=hcd;unfold sR at hcd2;rw[em] at hcd2;have hcd3:=Option.some.inj (hcd2.symm.trans ii);obtain⟨ha,hbb⟩:=Prod.mk.inj hcd3;rw[ha,hlp,hln];have hhl:(bn L pos).length=((bn L pos).map (·.1)).length:=(ac _).symm;rw[hhl]
  have hol:((bn L pos).map (·.1)).length<=100000:=by rw[<-hhl];exact bc (b7 _ _) i4
  generalize hout:(bn L pos).map (·.1)=out at hol;change aG _ _ _ ⟨[(7,.ag (aw e.1)),(2,.ptr 1 0),(20000010,.a (.fn (.yield lc.id) [] [])),(20000011,.ag (aw e.1)),(20000000,.a (.fn (.yield lc.id) [] [])),(20000005,.ptr 3 0),(21000000,.ptr 0 0),(21000001,.ptr 1 0)],13,[gQ lc,.cells [cr 2 3 out.length],jt out,.oE (L.map λe=>cW e.1) (L.map λe=>ai e.2) bs c (pos++[j])],[]⟩ _;refine(zs) ?_;refine aG.r0 ii (by simp only[cL,bI,an,aC,m7,m6,↓reduceIte,af,aj,ax,ad,al,ak,au,bl,aw,↓hk4,hn4,rm];first | done | rfl) ?_;refine⟨rfl,0,none,[(2,.ptr 1 0)],rfl,?_⟩;rw[hbb];refine(zB) ?_;change aG _ _ _ ⟨_,13,[.loop lc .busy none [(2,.ptr 1 0)],.cells [cr 2 3 out.length],jt out,.oE (L.map λe=>cW e.1) (L.map λe=>ai e.2) bs c (pos++[j]),.cells [ab e.1.kind,ah e.1.part,ah e.1.name]],[]⟩ _;by_cases ho:out=[]
  ·have hE1:cr 2 3 (bn L (pos++[j])).length=.buf 2 1 3 none:=by rw[hsn,li,hhl,hout,ho];rfl
   have hE2:jt ((bn L (pos++[j])).map (·.1))=.cells [ab e.1.kind,ah e.1.part,ah e.1.name]:=by rw[hsn,bd,hout,ho];rfl
   rw[ho,FX,show cr 2 3 ([]:List aA).length=aR from rfl];refine(zV) ?_;refine⟨rfl,0,.busy,none,[(2,.ptr 1 0)],rfl,?_⟩;simp only[yb,laid,ad,ay,↓reduceIte]
   refine oA [(12,ai true),(0,.a (.fn (.yield lc.id) [] [])),(5,.ptr 3 0),(1000000,.ptr 0 0),(1000001,.ptr 1 0)] [gQ lc,.cells [.buf 2 1 3 none],.cells [ab e.1.kind,ah e.1.part,ah e.1.name],.oE (L.map λe=>cW e.1) (L.map λe=>ai e.2) bs c (pos++[j])] (Fg.rn (f':=[(12,ai true),(0,.a (.fn (.yield lc.id) [] [])),(5,.ptr 3 0),(1000000,.ptr 0 0),(1000001,.ptr 1 0)]) (n:=14) (S':=[gQ lc,.cells [.buf 2 1 3 none],.cells [ab e.1.kind,ah e.1.part,ah e.1.name],.oE (L.map λe=>cW e.1) (L.map λe=>ai e.2) bs c (pos++[j])]) [0,1,6,3] g9 rfl (Mg (lk @gQ.eq_1 @Ay.eq_1 @Ax.eq_1 @yd.eq_1 @yb.eq_1)) (Mh (lk @gQ.eq_1 @Ay.eq_1 @Ax.eq_1 @yd.eq_1 @yb.eq_1)))<|(zR)<|(zN) ?_;exact⟨⟨[(0,.a (.fn (.yield lc.id) [] [])),(5,.ptr 3 0),(1000000,.ptr 0 0),(1000001,.ptr 1 0)],14,[gQ lc,.cells [.buf 2 1 3 none],.cells [ab e.1.kind,ah e.1.part,ah e.1.name],.oE (L.map λe=>cW e.1) (L.map λe=>ai e.2) bs c (pos++[j])],[]⟩,(cf @gQ.eq_1),L.length-(pos++[j]).length,_,by rw[li];simp only[i7,i5];omega,(cf (cJ @gQ.eq_1 hE1 hE2)),pos++[j],q1,q2,rfl,rfl⟩
  ·have hk1:¬out.length=0:=λh=>ho (t8 h)
   have hE1:cr 2 3 (bn L (pos++[j])).length=.buf 2 (out.length+1) 3 none:=by rw[hsn,li,hhl,hout];exact eo ge
   have hE2:jt ((bn L (pos++[j])).map (·.1))=.cells ((out++[e.1]).flatMap aw):=by rw[hsn,bd,hout];exact Ip ge
   have hcl3:=aU ia out;have hkc3:=λo=>bx cB o out;have happ:=mg ia cB 2 out e.1;rw[show aw e.1=[ab e.1.kind,ah e.1.part,ah e.1.name] from rfl] at happ;rw[Ip ho,eo hk1];refine(aD (lk hkc3 hcl3 (show out.length<=1000000 by omega) @ap happ)) ?_;refine⟨rfl,0,.busy,none,[(2,.ptr 1 0)],rfl,?_⟩;simp only[yb,laid,ad,ay,↓reduceIte]
   refine oA [(12,ai true),(0,.a (.fn (.yield lc.id) [] [])),(5,.ptr 3 0),(1000000,.ptr 0 0),(1000001,.ptr 1 0)] [gQ lc,.cells [.buf 2 (out.length+1) 3 none],.cells ((out++[e.1]).flatMap aw),.oE (L.map λe=>cW e.1) (L.map λe=>ai e.2) bs c (pos++[j])] (cf (lk @gQ.eq_1 @yb.eq_1 @Ay.eq_1 @Ax.eq_1 @yd.eq_1))<|(zR)<|(zN) ?_;exact⟨⟨[(0,.a (.fn (.yield lc.id) [] [])),(5,.ptr 3 0),(1000000,.ptr 0 0),(1000001,.ptr 1 0)],14,[gQ lc,.cells [.buf 2 (out.length+1) 3 none],.cells ((out++[e.1]).flatMap aw),.oE (L.map λe=>cW e.1) (L.map λe=>ai e.2) bs c (pos++[j])],[]⟩,(cf @gQ.eq_1),L.length-(pos++[j]).length,_,by rw[li];simp only[i7,i5];omega,(cf (cJ @gQ.eq_1 hE1 hE2)),pos++[j],q1,q2,rfl,rfl⟩
def Dz(L:List (aA×Bool))(hlen:L.length<=100000)(hnd:(L.map (·.1)).Nodup):SC prog 237 [aR,.fn 157 [] [.ip [lU cW ai L]]] [] [] (λr S'=>∃out:List aA,out.Perm (L.map (·.1))/\r=cr 0 3 out.length/\S'=[jt out,.gone]):=by
 refine SC.sZ (n:=13) dz em rfl rfl g9 (W:=[]) rfl g9 ?_;refine(om)<|zA [(2,.ptr 0 0),(6,.fn 157 [] [.ip [lU cW ai L]])] [.cells [aR],.gone] zH<|(zB) ?_;refine aG.tP (f1:=[(2,.ptr 0 0)]) dz ii func157 ii T0 ?_
 rintro N lc hid hn hps ha hb
 have hcd:sR lc:=by
  unfold sR;rw[em,ha,hb];rfl
 have hsc:=GJ L lc hcd hn hps hlen hnd;refine⟨[3,0,1],_,_,_,_,hsc,?_,rfl,by decide,?_,?_⟩
 ·simp only[gn,bI,cL,an,bX,aM,↓reduceIte,af,aj,ay,hid,List.map,e5,cons_append,nil_append]
  try rfl
 ·rintro(_ | _ | _ | i) so h
  ·cases h;exact⟨3,rfl,by rfl⟩
  ·cases h;exact⟨0,rfl,by rfl⟩
  ·cases h;exact⟨1,rfl,by rfl⟩
  ·cases h
 rintro r S' ⟨rfl,out,hp,rfl⟩
 have hbn:∀n:Nat,dD 3 (cr 2 3 n)=true:=λn=>by
  unfold cr;split
  ·exact gh rfl
  ·rfl
 have hrn3:∀(B n:Nat),pM (jQ [3,0,1] B) (.cells [cr 2 3 n])=.cells [cr 1 3 n]:=λB n=>by
  show SO.cells [fo _ _]=_;rw[dJ];rfl
 refine⟨by simp only[gQ,B5,gn,bI,an,aj,al,decide_true,↓sY,↓hbn];first | done | rfl,3,.ready,none,[(2,.ptr 0 0)],by rfl,by decide,by rfl,?_⟩
 have hS2:(dM (dS (dS [SO.cells [aR],SO.gone] (SO.ml N)) (SO.loop lc .ready none [(2,.ptr 0 0)])) [3,0,1] [2] [gQ lc,.cells [cr 2 3 out.length],jt out]).set 3 .gone=[.cells [cr 1 3 out.length],jt out,.ml N,.gone]:=by
  simp only[dM,dS,cA,dh,fQ,gy,i7,i5,List.map,ac,li,↓hrn3,↓tV];rfl
 rw[hS2];change aG _ _ _ ⟨[(2,.ptr 0 0)],13,[.cells [cr 1 3 out.length],jt out,.ml N,.gone],[{ fn:=none,EE:=N,args:=[],cap:=[] }]⟩ _;refine(zV) ?_;refine zA [(4,cr 0 3 out.length)] [jt out,.ml N] (Fg.rn (f':=[(4,cr 0 3 out.length)]) (n:=13) (S':=[jt out,.ml N]) [1,2] g9 rfl (Mg (bu @dJ @tV)) (Mh (bu @dJ @tV))) ?_;refine aG.ret ?_
 (try simp only[eN,c8,bW,bK])
 exact⟨rfl,[(4,cr 0 3 out.length)],⟨rfl,trivial⟩,rfl,.inl ⟨rfl,1,rfl,⟨[cr 0 3 out.length],by rfl,out,hp,rfl,rfl⟩,a6 _,λi hi=>un hi (b8 _)⟩⟩
def sf(L:List (aA×Bool))(hlen:L.length<=100000)(hnd:(L.map (·.1)).Nodup):SC prog 155 [.fn 157 [] [.ip [lU cW ai L]]] [] [] (λr S'=>∃out:List aA,out.Perm (L.map (·.1))/\r=cr 0 3 out.length/\S'=[jt out,.gone]):=by
 refine LK 5 Tryz.func155 ?_;refine(jr) ?_;refine aL.sc [] ii rfl rfl ii rfl zc (Dz L hlen hnd) (by simp only[gn,bI,an];first | done | rfl) rfl g9 (λi so h=>by simp at h) ?_ ?_
 ·rintro r S' ⟨out,hp,rfl,rfl⟩;exact⟨ft 1 3 _,by simp only[B5,↓sY];first | done | rfl⟩
 ·rintro r S' ⟨out,hp,rfl,rfl⟩;have e1:fo (jQ [] ([]:List SO).length) (cr 0 3 out.length)=cr 0 3 out.length:=dJ _ 0 3 _
  have e2:dM [] [] [] [jt out,.gone]=[jt out,.gone]:=by
   simp only[dM,dh,fQ,gy,i7,i5,List.map,↓tV];rfl
  rw[e1,e2]
  refine oA [(4,cr 0 3 out.length)] [jt out,.gone] zH<|(zR)<|(zE) ?_;exact zP [.tmp 2] (hq:=by (try simp only[eC,bJ]);first | done | (exact⟨out,hp,rfl,rfl⟩))
def zm{l out:List aA}(hp:out.Perm l)(hn:l.Nodup):gu out=gu l:=
 vS ((fG out).trans hp) hn ((rH (hp.nodup_iff.2 hn)).imp λ{a b} h=>by
  cases k:rR b a with
  | false=>rfl
  | true=>have:=kj h k;rw[ru] at this;cases this)
def Bc:SC prog 74 [.fn 157 [] [.ip [lU cW ai []]],.fn 76 [] []] [] [] (λr S'=>r=aR/\S'=[]):=by
 refine LK 12 func74 ?_;refine(jr) ?_;refine aL.sc [] ii rfl rfl ii rfl zc (sf [] (a6 _) bb) (by simp only[gn,bI,an];first | done | rfl) rfl g9 (λi so h=>by simp at h) ?_ ?_
 ·rintro r S' ⟨out,hp,rfl,rfl⟩;exact⟨ft 1 3 _,by simp only[B5,↓sY];first | done | rfl⟩
 ·rintro r S' ⟨out,hp,rfl,rfl⟩;obtain rfl:out=[]:=Perm.eq_nil hp
  refine oA [(7,aR),(1,.fn 76 [] [])] [] (cf (show fo (jQ [] ([]:List SO).length) (cr 0 3 ([]:List aA).length)=aR from rfl))<|(zR)<|(zC)<|(zK GZ)<|(zR)<|(zV)<|(zE) ?_;exact zP [.tmp 4]
def Ee(L:List (aA×Bool))(hlen:L.length<=100000)(hnd:(L.map (·.1)).Nodup)(hne:L≠[]):SC prog 74 [.fn 157 [] [.ip [lU cW ai L]],.fn 76 [] []] [] [] (λr S'=>r=.buf 0 L.length 3 none/\S'=[.cells ((gu (L.map (·.1))).flatMap aw)]):=by
 refine LK 12 func74 ?_;refine(jr) ?_;refine aL.sc [] ii rfl rfl ii rfl zc (sf L hlen hnd) (by simp only[gn,bI,an];first | done | rfl) rfl g9 (λi so h=>by simp at h) ?_ ?_
 ·rintro r S' ⟨out,hp,rfl,rfl⟩;exact⟨ft 1 3 _,by simp only[B5,↓sY];first | done | rfl⟩
 ·rintro r S' ⟨out,hp,rfl,rfl⟩;have e1:fo (jQ [] ([]:List SO).length) (cr 0 3 out.length)=cr 0 3 out.length:=dJ _ 0 3 _
  have e2:dM [] [] [] [jt out,.gone]=[jt out,.gone]:=by
   simp only[dM,dh,fQ,gy,i7,i5,List.map,↓tV];rfl
  rw[e1,e2]
  have hol:out.length=L.length:=by rw[hp.length_eq,ac]
  have hon:out≠[]:=λe=>hne (t8 (by rw[<-hol,e];rfl));have hss:=G0 out i4 hon (hp.nodup_iff.2 hnd);rw[zm hp hnd,hol] at hss;have hcs:∀(r:Nat->Nat) (q:List aA),mP r (q.flatMap aw)=q.flatMap aw:=λr q=>bp (aE cB q);have hcb:∀(B:Nat) (q:List aA),iI B (q.flatMap aw)=true:=λB q=>bO (aE cB q);have hck:∀(o:Nat) (q:List aA),(q.flatMap aw).map (aM o)=q.flatMap aw:=λo q=>bx cB o q;rw[Ip hon,hol,eo (λh=>hne (t8 h))]
  refine oA [(7,.buf 0 L.length 3 none),(1,.fn 76 [] [])] [.cells (out.flatMap aw)] zH<|(zR)<|(zC) ?_;refine zS [0] (cJ hcs hcb hck) hss ?_;refine(zR)<|(zV)<|(zE) ?_;exact zP [.tmp 4]
def si(L:List (aA×Bool))(hlen:L.length<=100000)(hnd:(L.map (·.1)).Nodup):PC prog 30 [lU cW ai L] (·=an 3 (gu (L.map (·.1))) aw):=by
 refine pB 6 Tryz.func30 ?_;refine(jr)<|(zK (I0 L) (hfl:=.inr zr)) ?_
 by_cases hn0:L=[]
 ·subst hn0
  refine zS [] trivial Bc ?_;exact(zR)<|zo [.tmp 2] (r:=an 3 ([]:List aA) aw) (hw:=.nil _)
 ·have hss:=Ee L hlen hnd hn0;have hcs:∀(r:Nat->Nat) (q:List aA),mP r (q.flatMap aw)=q.flatMap aw:=λr q=>bp (aE cB q);have hcb:∀(B:Nat) (q:List aA),iI B (q.flatMap aw)=true:=λB q=>bO (aE cB q);have hck:∀(o:Nat) (q:List aA),(q.flatMap aw).map (aM o)=q.flatMap aw:=λo q=>bx cB o q
  have hsl:(gu (L.map (·.1))).length=L.length:=by rw[(fG _).length_eq,ac]
  refine zS [] (cJ hcs hcb hck) hss ?_;exact(zR)<|zo [.tmp 2] (r:=.sl L.length 3 ((gu (L.map (·.1))).flatMap aw)) (hw:=.buf rfl (by rw[<-hsl,ek ia];exact cu.refl (aE cB _)) (by rw[aU ia,hsl];exact ap _)) (hq:=by rw[pP,hsl])
abbrev eF(m:List (aA×Bool))(L:List aA):List (aA×Bool):=L.foldl (λm f=>cy f true m) m
def va(m:List (aA×Bool))(L:List aA)(f:aA):eF m (L++[f])=cy f true (eF m L):=by unfold eF;rw[List.foldl_append];rfl
def oD(m:List (aA×Bool))(L K:List aA):eF m (L++K)=eF (eF m L) K:=by unfold eF;rw[List.foldl_append]
def iH(r:Nat->Nat)(m:List (aA×Bool)):pM r (bE cW ai m)=bE cW ai m:=by
 unfold bE;rw[pM,bp (pC (uv:=ai) (λ_=>rfl) m)]
def eQ(B:Nat)(m:List (aA×Bool)):mC B (bE cW ai m)=true:=by
 unfold bE;rw[mC,bO (pC (uv:=ai) (λ_=>rfl) m)]
def my(m0:List (aA×Bool))(kind:Int)(part:List Nat)(names:List (List Nat))(hlen:names.length<=1000000):
 SC prog 29 [.map 0,ab kind,ah part,an 1 names (aH ah)] [bE cW ai m0] [] (λr S'=>r=.cx []/\S'=[bE cW ai (eF m0 (names.map λn=>⟨kind,part,n⟩))]):=by
 refine OE 22 Tryz.func29 ?_;refine(zV)<|(zs) ?_;refine zL names (λk=>True) (λk=>[(0,.map 0),(1,ab kind),(2,ah part),(10,an 1 names (aH ah)),(11,ab names.length),(12,ab k),(1000000,.ptr 0 0)]) (λk=>[bE cW ai (eF m0 ((names.take k).map λn=>⟨kind,part,n⟩))]) (cf (cJ @take_zero.{0} @map_nil.{0,0} @foldl_nil.{0,0})) zp ?_;intro k hk hall;refine zT names k ?_ ?_;rintro rfl;rotate_left;intro n hx hlt;rotate_left
 ·refine(gg) ?_;simp only[eN,c8,bW,bK,if_true];rw[a7];exact zP []
 refine(gA) ?_;obtain⟨M,hM⟩:∃M,M=eF m0 ((names.take k).map λn=>⟨kind,part,n⟩):=⟨_,rfl⟩
 have hnx:eF m0 ((names.take (k+1)).map λn=>⟨kind,part,n⟩)=cy ⟨kind,part,n⟩ true M:=by rw[cM hx,bd,bk,map_nil,va,<-hM]
 rw[<-hM];clear hM
 refine(aD (cJ hlt (aQ (e:=1) (enc:=aH ah) gc hx) @aH.eq_1))<|(zs) ?_;refine aG.r0 ii (by simp only[cL,bI,an,aC,m7,m6,↓reduceIte,af,aj,ax,ad,al,ak,au,bl,I9 (l:=M)];first | done | rfl) ?_;refine(aD (zi hlt hlen)) ?_;refine zX hlt (cf hnx) trivial
def KU(l:List (List Nat)):(rT l).length<=l.length:=by
 have:∀n (l:List (List Nat)),l.length=n->(rT l).length<=l.length:=by
  intro n
  induction n with
  | zero=>intro l h;rw[t8 h];exact ap _
  | succ n ih=>
   intro l h
   rcases List.eq_nil_or_concat l with rfl | ⟨a,x,rfl⟩
   ·exact ap _
   ·have ha:a.length=n:=by simpa using h
    have:=ih a ha;rw[List.concat_eq_append,HI];split<;>simp<;>omega
 exact this _ l rfl
structure jf (b:dB):Prop where
 fh:∀r∈b.rules,gp r.cond
 qI:∀r∈b.aO,gp r.cond
 HK:∀d∈b.bg,Ch d
 hold:∀h∈b.holds,h.members.length<=1000000/\h.back.length<=1000000
 lr:b.rules.length<=100
 lc:b.aO.length<=100
 ld:b.bg.length<=100
 lh:b.holds.length<=100
 ls:b.cH.length<=1000000
 lx:b.du.length<=1000000
def eD(r:iN):bD r=[ah r.name,ah r.kind,ab r.cond.op,ah r.cond.name,ah r.cond.value,ab r.cond.n,ab r.cond.extra,.sl r.cond.kids.length 6 (r.cond.kids.flatMap aZ)]:=by
 unfold bD;rw[cz]
def ny(r:iN):(bD r).length=8:=by rw[eD];rfl
def tY(b:dB)(ps:List aq)(day:Int)(p:aq)(r:iN):Bool:=decide (r.kind=p.kind)&&(!th b.du p.name r.name day&&!(decide (nV ps r.cond p.name day=2)))
def nH(ps:List aq)(day:Int)(p:aq)(r:iN):Bool:=decide (r.kind=p.kind)&&!(decide (nV ps r.cond p.name day=0))
variable{m:List (aA×Bool)}
def E4{q:iN->Bool}{g:iN->aA}{l:List iN}{k:Nat}{r:iN}(h:l[k]?=some r):eF m (((l.take (k+1)).filter q).map g)=if q r=true then cy (g r) true (eF m (((l.take k).filter q).map g)) else eF m (((l.take k).filter q).map g):=by
 rw[cM h,bt,d7,filter_nil];split
 ·rw[bd,bk,map_nil,va]
 ·rw[bL]
def FZ(ds:List ea)(c:List aV)(l:List bB)(part:List Nat)(day:Int):(eJ ds c l part day).length<=ds.length:=by
 unfold eJ LM;refine bc (KU _) ?_;rw[(r9 _).length_eq,ac];refine bc (be _ _) ?_;unfold kY;split
 ·exact a6 _
 ·split
  ·exact a6 _
  ·exact b7 _ _
abbrev qU(c:List aV)(dmg:bC)(b:dB)(l:List bB)(ps:List aq)(day:Int)(p:aq):Fm:=[(7,.ip (ae p)),(1,.ip (aB b)),(2,.ip [ab day]),(3,.ip [an 14 ps ae]),(4,.ptr 0 0),(5,.ip (an 3 c ao::aF dmg)),(6,.ip [an 14 l ar]),(1000000,.ptr 0 0),(1000001,.ptr 1 0)]
def Gn(c:List aV)(dmg:bC)(b:dB)(l:List bB)(ps:List aq)(day:Int)(p:aq)(m0:List (aA×Bool))(hb:jf b)(hc:mz c)(hl:l.length<20)(hle:∀e∈l,lN e)(hps:ps.length<=100000)(hpr:∀p∈ps,p.props.length<=1000000):
 SC prog 31 [.ag (ae p),.ip (aB b),.ip [ab day],.ip [an 14 ps ae],.ptr 0 0,.ip (an 3 c ao::aF dmg),.ip [an 14 l ar]] [.cells [.map 1],bE cW ai m0] [] (λr S'=>r=.cx []/\S'=[.cells [.map 1],bE cW ai (eF m0 (nj c b l ps day p))]):=by
 refine Rt 113 Tryz.func31 ?_;refine(zV) ?_;refine zZ (qU c dmg b l ps day p) 2 rfl (gw (bu @an.eq_1 @ae.eq_1))<|zA (qU c dmg b l ps day p) [.cells [.map 1],bE cW ai m0] (cf @bm)<|(aD @aB.eq_1) ?_
 have hlr:b.rules.length<=1000000:=bc hb.lr g9;have hlc:b.aO.length<=1000000:=bc hb.lc g9;rw[show nj c b l ps day p=((b.rules.filter (tY b ps day p)).map λr=>⟨1,p.name,r.name⟩)++(((b.aO.filter (nH ps day p)).map λr=>⟨5,p.name,r.name⟩)++((eJ b.bg c l p.name day).map (λn=>⟨3,p.name,n⟩)++(if kC c b.cH ps p.name day=true then [] else [⟨2,p.name,p.slot⟩]))) from rfl,oD,oD,oD]
 refine zA ((13,an 8 b.rules bD)::(14,ab b.rules.length)::(15,ab 0)::qU c dmg b l ps day p) [.cells [.map 1],bE cW ai m0] zH<|(zs) ?_;refine zL b.rules (λk=>True) (λk=>(13,an 8 b.rules bD)::(14,ab b.rules.length)::(15,ab k)::qU c dmg b l ps day p) (λk=>[.cells [.map 1],bE cW ai (eF m0 (((b.rules.take k).filter (tY b ps day p)).map λr=>⟨1,p.name,r.name⟩))]) (cf (gm @take_zero.{0} @filter_nil.{0} @map_nil.{0,0} @foldl_nil.{0,0})) zp ?_;intro k hk hall;refine zT b.rules k ?_ ?_;rintro rfl;rotate_left;intro r hx hlt;rotate_left
 rotate_left
 ·obtain⟨M,hM⟩:∃M,M=eF m0 (((b.rules.take k).filter (tY b ps day p)).map λr=>⟨1,p.name,r.name⟩):=⟨_,rfl⟩;have hnx:=E4 (m:=m0) (q:=tY b ps day p) (g:=λr=>⟨1,p.name,r.name⟩) hx;rw[<-hM] at hnx ⊢;clear hM;have hre:=eD r;have hh:=vZ ps r.cond p.name day hps hpr (hb.fh r (aS hx));rw[cz] at hh;have hadd:=my M 1 p.name [r.name] (by show 1<=1000000;decide);rw[show eF M ([r.name].map λn=>(⟨1,p.name,n⟩:aA))=cy ⟨1,p.name,r.name⟩ true M from rfl] at hadd
  refine(gA)<|(aD (gm hlt (aQ (e:=8) (enc:=bD) ny hx) hre @bm))<|zA ((9,.ptr 2 0)::(13,an 8 b.rules bD)::(14,ab b.rules.length)::(15,ab k)::qU c dmg b l ps day p) [.cells [.map 1],bE cW ai M,.cells [ah r.name,ah r.kind,ab r.cond.op,ah r.cond.name,ah r.cond.value,ab r.cond.n,ab r.cond.extra,.sl r.cond.kids.length 6 (r.cond.kids.flatMap aZ)]] (cf @bm) ?_
  cases g1:decide (r.kind=p.kind)
  ·rw[v6 (by unfold tY;rw[g1];simp)] at hnx
   refine(aD (bu g1 @ae.eq_1))<|(zN)<|(aD (zi hlt hlr)) ?_;refine zX hlt (cf hnx) trivial
  refine(e9 (cJ g1 @ae.eq_1 @aB.eq_1))<|(zK (DK b.du p.name r.name day hb.lx)) ?_
  cases g2:th b.du p.name r.name day;rotate_left
  ·rw[v6 (by unfold tY;rw[g2];simp)] at hnx
   refine(zR)<|(zN)<|(aD (zi hlt hlr)) ?_;refine zX hlt (cf hnx) trivial
  refine(Mf @ae.eq_1)<|(zK hh) ?_
  cases g3:decide (nV ps r.cond p.name day=2);rotate_left
  ·rw[v6 (by unfold tY;rw[g3];simp)] at hnx
   refine(cP g3)<|(zN)<|(aD (zi hlt hlr)) ?_;refine zX hlt (cf hnx) trivial
  rw[ut (by unfold tY;rw[g1,g2,g3];rfl)] at hnx
  refine(cP g3)<|(zY)<|(e9 (bu @ae.eq_1 @bm)) ?_;refine oZ ((50,an 1 [r.name] (aH ah))::(47,ah p.name)::(45,.map 1)::(13,an 8 b.rules bD)::(14,ab b.rules.length)::(15,ab k)::qU c dmg b l ps day p) 3 rfl ⟨.inr (.buf rfl (cu.refl rfl) (ap _)),zj⟩<|oA ((50,an 1 [r.name] (aH ah))::(47,ah p.name)::(45,.map 1)::(13,an 8 b.rules bD)::(14,ab b.rules.length)::(15,ab k)::qU c dmg b l ps day p) [.cells [.map 1],bE cW ai M] (cf @bm) ?_;refine zS [1] (cJ @bm @iH @eQ) hadd ?_;refine(zR)<|(aD (zi hlt hlr)) ?_;refine zX hlt (cf hnx) trivial
 refine(gg) ?_;simp only[eN,c8,bW,bK,if_true];rw[a7];generalize eF m0 ((b.rules.filter (tY b ps day p)).map λr=>⟨1,p.name,r.name⟩)=m1
 refine(aD @aB.eq_1)<|zA ((54,an 8 b.aO bD)::(55,ab b.aO.length)::(56,ab 0)::qU c dmg b l ps day p) [.cells [.map 1],bE cW ai m1] zH<|(zs) ?_;refine zL b.aO (λk=>True) (λk=>(54,an 8 b.aO bD)::(55,ab b.aO.length)::(56,ab k)::qU c dmg b l ps day p) (λk=>[.cells [.map 1],bE cW ai (eF m1 (((b.aO.take k).filter (nH ps day p)).map λr=>⟨5,p.name,r.name⟩))]) (cf (gm @take_zero.{0} @filter_nil.{0} @map_nil.{0,0} @foldl_nil.{0,0})) zp ?_;intro k hk hall;refine zT b.aO k ?_ ?_;rintro rfl;rotate_left;intro r hx hlt;rotate_left
 rotate_left
 ·obtain⟨M,hM⟩:∃M,M=eF m1 (((b.aO.take k).filter (nH ps day p)).map λr=>⟨5,p.name,r.name⟩):=⟨_,rfl⟩;have hnx:=E4 (m:=m1) (q:=nH ps day p) (g:=λr=>⟨5,p.name,r.name⟩) hx;rw[<-hM] at hnx ⊢;clear hM;have hre:=eD r;have hh:=vZ ps r.cond p.name day hps hpr (hb.qI r (aS hx));rw[cz] at hh;have hadd:=my M 5 p.name [r.name] (by show 1<=1000000;decide);rw[show eF M ([r.name].map λn=>(⟨5,p.name,n⟩:aA))=cy ⟨5,p.name,r.name⟩ true M from rfl] at hadd
  refine(gA)<|(aD (gm hlt (aQ (e:=8) (enc:=bD) ny hx) hre @bm))<|zA ((11,.ptr 2 0)::(54,an 8 b.aO bD)::(55,ab b.aO.length)::(56,ab k)::qU c dmg b l ps day p) [.cells [.map 1],bE cW ai M,.cells [ah r.name,ah r.kind,ab r.cond.op,ah r.cond.name,ah r.cond.value,ab r.cond.n,ab r.cond.extra,.sl r.cond.kids.length 6 (r.cond.kids.flatMap aZ)]] (cf @bm) ?_
  cases g1:decide (r.kind=p.kind)
  ·rw[v6 (by unfold nH;rw[g1];simp)] at hnx
   refine(aD (bu g1 @ae.eq_1))<|(zN)<|(aD (zi hlt hlc)) ?_;refine zX hlt (cf hnx) trivial
  refine(e9 (cJ g1 @ae.eq_1 @aB.eq_1))<|(zK hh) ?_
  cases g3:decide (nV ps r.cond p.name day=0);rotate_left
  ·rw[v6 (by unfold nH;rw[g3];simp)] at hnx
   refine(cP g3)<|(zN)<|(aD (zi hlt hlc)) ?_;refine zX hlt (cf hnx) trivial
  rw[ut (by unfold nH;rw[g1,g3];rfl)] at hnx
  refine(cP g3)<|(zY)<|(e9 (bu @ae.eq_1 @bm)) ?_;refine oZ ((80,an 1 [r.name] (aH ah))::(77,ah p.name)::(75,.map 1)::(54,an 8 b.aO bD)::(55,ab b.aO.length)::(56,ab k)::qU c dmg b l ps day p) 3 rfl ⟨.inr (.buf rfl (cu.refl rfl) (ap _)),zj⟩<|oA ((80,an 1 [r.name] (aH ah))::(77,ah p.name)::(75,.map 1)::(54,an 8 b.aO bD)::(55,ab b.aO.length)::(56,ab k)::qU c dmg b l ps day p) [.cells [.map 1],bE cW ai M] (cf @bm) ?_;refine zS [1] (cJ @bm @iH @eQ) hadd ?_;refine(zR)<|(aD (zi hlt hlc)) ?_;refine zX hlt (cf hnx) trivial
 refine(gg) ?_;simp only[eN,c8,bW,bK,if_true];rw[a7];generalize eF m1 ((b.aO.filter (nH ps day p)).map λr=>⟨5,p.name,r.name⟩)=m2;refine zA (qU c dmg b l ps day p) [.cells [.map 1],bE cW ai m2] zH ?_;have hov:=I6 b.bg c l p.name day hb.HK (bc hb.ld g9) hc hl hle;have hovl:(eJ b.bg c l p.name day).length<=1000000:=bc (FZ _ _ _ _ _) (bc hb.ld g9);have hpm:=wW c b.cH ps p.name day hc hb.ls i4;generalize eJ b.bg c l p.name day=ov at hov hovl ⊢;generalize kC c b.cH ps p.name day=pm at hpm ⊢;have hadd:=my m2 3 p.name ov hovl;generalize eF m2 (ov.map λn=>⟨3,p.name,n⟩)=m3 at hadd ⊢;have hadd2:=my m3 2 p.name [p.slot] (by show 1<=1000000;decide);rw[show eF m3 ([p.slot].map λn=>(⟨2,p.name,n⟩:aA))=eF m3 [⟨2,p.name,p.slot⟩] from rfl] at hadd2;refine(zs) ?_;refine kZ [0,0,2,0,8,0,32,0,0,256,0,2040,4095] ?_;refine(rW (bu @ae.eq_1 @aB.eq_1)) ?_;refine ej.kg ii rfl rfl ii rfl rfl zc hov (λS=>cu.refl rfl) rfl ?_;refine ej.Pm (f':=qU c dmg b l ps day p) (S':=[.cells [.map 1],bE cW ai m3]) zW rfl (λds_ K_ hK_=>?_) ?_
 ·refine zS [1] (cJ @bm @iH @eQ) hadd ?_;refine oA (qU c dmg b l ps day p) [.cells [.map 1],bE cW ai m3] zH ?_;exact .nil hK_
 refine(kN)<|(e9 (bu @ae.eq_1 @aB.eq_1))<|(zK hpm) ?_
 cases pm
 ·refine(zR)<|(zY)<|(e9 (bu @ae.eq_1 @bm)) ?_;refine oZ ((111,an 1 [p.slot] (aH ah))::(108,ah p.name)::(106,.map 1)::qU c dmg b l ps day p) 2 rfl ⟨.inr (.buf rfl (cu.refl rfl) (ap _)),zj⟩<|oA ((111,an 1 [p.slot] (aH ah))::(108,ah p.name)::(106,.map 1)::qU c dmg b l ps day p) [.cells [.map 1],bE cW ai m3] (cf @bm) ?_;refine zS [1] (cJ @bm @iH @eQ) hadd2 ?_;refine(zR) ?_;exact zP []
 ·refine(zR)<|(zN) ?_;exact zP []
def BA:∀(L:List aA) {m:List (aA×Bool)},(m.map (·.1)).Nodup->((eF m L).map (·.1)).Nodup
 | [],_,h=>h
 | f::L,_,h=>BA L (tO (k:=f) (v:=true) h)
def yw:∀(L:List aA) (m:List (aA×Bool)),(eF m L).length<=m.length+L.length
 | [],_=>ap _
 | f::L,m=>by
  have h1:=yw L (cy f true m);have h2:=xB (k:=f) (v:=true) (m:=m);rw[i7];show(eF (cy f true m) L).length<=_;omega
def xf(c:List aV)(b:dB)(l:List bB)(ps:List aq)(day:Int)(p:aq):(nj c b l ps day p).length<=b.rules.length+b.aO.length+b.bg.length+1:=by
 unfold nj;rw[li,li,li,ac,ac,ac];have h1:=be (λr:iN=>decide (r.kind=p.kind)&&(!th b.du p.name r.name day&&!(decide (nV ps r.cond p.name day=2)))) b.rules;have h2:=be (λr:iN=>decide (r.kind=p.kind)&&!(decide (nV ps r.cond p.name day=0))) b.aO;have h3:=FZ b.bg c l p.name day
 have h4:(if kC c b.cH ps p.name day=true then [] else [(⟨2,p.name,p.slot⟩:aA)]).length<=1:=by split<;>simp
 omega
def J2{α:Type}(enc:α->List SV)(z:α)(o:Option α):iW enc z o=.cx [.ag (enc (o.getD z)),ai o.isSome]:=by cases o<;>rfl
def B0{dmg:bC}(hl:∀e∈l,lN e):(runN c dmg l day).1.length<=l.length:=by
 have key:∀(l:List bB) (i:Nat) (s:List aq),(∀p∈s,fq p)->(∀e∈l,lN e)->(oS c dmg i l s).1.length<=s.length+l.length:=by
  intro l
  induction l with
  | nil=>exact λi s _ _=>ap _
  | cons e r ih=>
   intro i s hs he;obtain⟨q1,q2,_,_⟩:=oy (c:=c) (ps:=s) (e:=e) hs (he e ba);rw[oS,i7];split
   ·split
    ·have:=ih (i+1) _ (xF (dmg:=dmg) (e:=e) q1).1 λx hx=>he x (am _ hx);rw[(xF (dmg:=dmg) (e:=e) q1).2] at this;omega
    ·have:=ih (i+1) _ q1 λx hx=>he x (am _ hx);omega
   ·exact a6 _
 unfold runN;split
 ·have:=key (eL (dV (fe day) l)) 0 [] (λp h=>un h bw) λe he=>hl e (xC he);have:=Dn l (fe day);simp only[i5] at *;omega
 ·exact a6 _
def Iv{dmg:bC}(hl:∀e∈l,lN e):∀p∈(runN c dmg l day).1,fq p:=by
 have key:∀(l:List bB) (i:Nat) (s:List aq),(∀p∈s,fq p)->(∀e∈l,lN e)->∀p∈(oS c dmg i l s).1,fq p:=by
  intro l
  induction l with
  | nil=>exact λi s h _=>h
  | cons e r ih=>
   intro i s hs he;obtain⟨q1,q2,_,_⟩:=oy (c:=c) (ps:=s) (e:=e) hs (he e ba);rw[oS];split
   ·split
    ·exact ih _ _ (xF q1).1 λx hx=>he x (am _ hx)
    ·exact ih _ _ q1 λx hx=>he x (am _ hx)
   ·exact λp h=>un h bw
 unfold runN;split
 ·exact key _ _ _ (λp h=>un h bw) λe he=>hl e (xC he)
 ·exact λp h=>un h bw
def K9{g:List Nat->List aA}{l:List (List Nat)}{k:Nat}{n:List Nat}(h:l[k]?=some n):eF m ((l.take (k+1)).flatMap g)=eF (eF m ((l.take k).flatMap g)) (g n):=by
 rw[cM h,List.flatMap_append,oD,dv,List.flatMap_nil,bL]
def Lc{q:mA->Bool}{g:mA->aA}{l:List mA}{k:Nat}{r:mA}(h:l[k]?=some r):eF m (((l.take (k+1)).filter q).map g)=if q r=true then cy (g r) true (eF m (((l.take k).filter q).map g)) else eF m (((l.take k).filter q).map g):=by
 rw[cM h,bt,d7,filter_nil];split
 ·rw[bd,bk,map_nil,va]
 ·rw[bL]
abbrev QS(c:List aV)(dmg:bC)(b:dB)(l:List bB)(vehicle:List Nat)(day:Int):Fm:=[(3,ah vehicle),(5,.ip (an 3 c ao::aF dmg)),(6,.ip (aB b)),(7,.ip [an 14 l ar]),(9,.ip [ab day])]
abbrev np(c:List aV)(dmg:bC)(b:dB)(l:List bB)(ps:List aq)(vehicle:List Nat)(day:Int):Fm:=(11,.ptr 1 0)::(12,.ip [an 14 ps ae])::QS c dmg b l vehicle day
def pV(c:List aV)(dmg:bC)(b:dB)(l:List bB)(vehicle:List Nat)(day:Int)(hb:jf b)(hc:mz c)(hf:gD dmg)(hl:l.length<20)(hle:∀e∈l,lN e):
 PC prog 12 [.ag (an 3 c ao::aF dmg),.ag (aB b),an 14 l ar,ah vehicle,ab day] (·=an 3 (eX c dmg b l vehicle day) aw):=by
 have hfl:(aF dmg).length=3:=eW dmg;have hft:(aF dmg).take 3=aF dmg:=b9 (by rw[hfl];exact ap _);have hfk:=λo:Nat=>bQ (o:=o) (aT dmg);have hfn:=λo:Nat=>cg (o:=o) (aT dmg);have hru:=Jd c dmg l day hc hf hl hle;have hpl:(runN c dmg l day).1.length<=20:=bc (B0 hle) i4;have hpo:=Iv (c:=c) (dmg:=dmg) (day:=day) hle;unfold Tn at hru;obtain⟨R,hR⟩:∃R,R=eX c dmg b l vehicle day:=⟨_,rfl⟩;rw[<-hR];unfold eX at hR;generalize runN c dmg l day=rr at hru hpl hpo hR;have hfi:=λn=>iB rr.1 n i4;simp only[J2] at hfi;have hki:=λn=>kF c n hc.len;simp only[J2] at hki
 refine pB 116 Tryz.func12 ?_;refine(aD (cJ hfk hfn @aB.eq_1)) ?_;refine zZ [(3,ah vehicle),(5,.ip (an 3 c ao::aF dmg)),(6,.ptr 1 0),(7,.ptr 2 0),(9,.ptr 3 0)] 0 rfl ⟨.inl rfl,.inr (.ptr rfl (cu.refl (aT dmg)) (a6 _)),zj⟩<|zZ [(3,ah vehicle),(5,.ip (an 3 c ao::aF dmg)),(6,.ip (aB b)),(7,.ptr 2 0),(9,.ptr 3 0)] 1 rfl (gw (bu @an.eq_1 @aB.eq_1))<|zZ [(3,ah vehicle),(5,.ip (an 3 c ao::aF dmg)),(6,.ip (aB b)),(7,.ip [an 14 l ar]),(9,.ptr 3 0)] 2 rfl (gw @an.eq_1)<|zZ (QS c dmg b l vehicle day) 3 rfl (gw @an.eq_1)<|zA (QS c dmg b l vehicle day) [] zH<|(zV)<|zA ((11,.ptr 1 0)::QS c dmg b l vehicle day) [bE cW ai [],.cells [.map 0]] (cf (show SO.map [] [] none=bE cW ai [] from rfl))<|(e9 (bu hfl hft))<|(zK hru (hwk:=(.cons (.ag (cu.refl (aT dmg))) zr)) (hfl:=.inr (.cons (.ag (cu.refl (aT dmg))) zr)))<|(cP @bm) ?_
 generalize rr.1=ps at *
 refine zZ ((14,ab rr.2.2)::np c dmg b l ps vehicle day) 2 rfl (gw @an.eq_1)<|zA ((14,ab rr.2.2)::np c dmg b l ps vehicle day) [bE cW ai [],.cells [.map 0]] (cf @bm)<|(zC)<|(zK (hfi vehicle) (hfl:=.inr zr)) ?_
 obtain⟨v,hv⟩:∃v,v=(da ps vehicle).getD aq.zero:=⟨_,rfl⟩;obtain⟨is,his⟩:∃is,is=(da ps vehicle).isSome:=⟨_,rfl⟩;rw[<-hv,<-his];have hek:ae v=[ah v.name,ah v.kind,ah v.br,ah v.slot,ab v.made,ab v.since,ai v.cN,an 2 v.props aJ,ab v.l1,ab v.l2,ab v.l3,ab v.l4,ab v.l5,ab v.l6]:=rfl
 refine(cP (bu @bm hek)) ?_;refine zZ ((16,ai is)::(15,.ip (ae v))::(14,ab rr.2.2)::np c dmg b l ps vehicle day) 2 rfl (gw (bu @an.eq_1 @ae.eq_1))<|zA ((16,ai is)::(15,.ip (ae v))::(14,ab rr.2.2)::np c dmg b l ps vehicle day) [bE cW ai [],.cells [.map 0]] (cf @bm)<|(e9 @ae.eq_1)<|(zK (hki v.kind) (hfl:=.inr zr)) ?_
 obtain⟨kd,hkd⟩:∃kd,kd=(dU c v.kind).getD aV.zero:=⟨_,rfl⟩;rw[<-hkd];generalize (dU c v.kind).isSome=kis
 refine(cP (bu @bm @ao.eq_1)) ?_;refine zZ ((17,.ip (ao kd))::(16,ai is)::(15,.ip (ae v))::(14,ab rr.2.2)::np c dmg b l ps vehicle day) 2 rfl (gw (cJ @an.eq_1 @ae.eq_1 @ao.eq_1))<|zA ((17,.ip (ao kd))::(16,ai is)::(15,.ip (ae v))::(14,ab rr.2.2)::np c dmg b l ps vehicle day) [bE cW ai [],.cells [.map 0]] (cf @bm) ?_
 obtain⟨bad,hbad⟩:∃bad:Bool,bad=(!(decide (rr.2.2=0))||(!is||(v.cN||!kd.vehicle))):=⟨_,rfl⟩
 (repeat refine aG.seq ?_)
 refine aG.mono (Q:=λex st=>ex=.normal/\Fg st ⟨(63,ai bad)::(15,.ip (ae v))::np c dmg b l ps vehicle day,116,[bE cW ai [],.cells [.map 0]],[]⟩) ?_ ?_
 ·cases g0:decide (rr.2.2=0)
  ·rw[g0] at hbad;subst hbad;refine(aD g0) ?_;exact⟨rfl,(cf @bm)⟩
  cases g1:is
  ·rw[g0,g1] at hbad;subst hbad;refine(aD g0) ?_;exact⟨rfl,(cf @bm)⟩
  cases g2:v.cN;rotate_left
  ·rw[g0,g1,g2] at hbad;subst hbad;refine(aD (cJ g0 @ae.eq_1 g2)) ?_;exact⟨rfl,(cf (cJ @bm @ae.eq_1 g2))⟩
  cases g3:kd.vehicle
  ·rw[g0,g1,g2,g3] at hbad;subst hbad;refine(aD (lk g0 @ae.eq_1 g2 @ao.eq_1 g3)) ?_;exact⟨rfl,(cf (cJ @bm @ae.eq_1 g2))⟩
  ·rw[g0,g1,g2,g3] at hbad;subst hbad;refine(aD (lk g0 @ae.eq_1 g2 @ao.eq_1 g3)) ?_;exact⟨rfl,(cf (cJ @bm @ae.eq_1 g2))⟩
 rintro _ _ ⟨rfl,hfg⟩;simp only[c8];refine aG.fg hfg ?_;clear hfg
 have hRb:R=if bad=true then [⟨4,vehicle,[]⟩] else gu (rY (lz c b l ps vehicle day v)):=by
  rw[hR,hbad]
  cases hm:da ps vehicle with
  | none=>rw[his,hm];simp
  | some w=>
   rw[hm] at hv his;have hv:v=w:=hv;subst hv;simp only[his,Option.isSome_some,dt,fl,<-hkd];by_cases k0:rr.2.2=0
   ·cases v.cN<;>cases kd.vehicle<;>simp[k0]
   ·simp[k0]
 cases bad;rotate_left
 ·rw[ut rfl] at hRb;have hadd:=my [] 4 vehicle [[]] (by show 1<=1000000;decide);rw[show eF [] ([[]].map λn=>(⟨4,vehicle,n⟩:aA))=[(⟨4,vehicle,[]⟩,true)] from rfl] at hadd;have hord:=si [(⟨4,vehicle,[]⟩,true)] (by show 1<=100000;decide) ge;rw[show gu ([((⟨4,vehicle,[]⟩:aA),true)].map (·.1))=R from hRb.symm] at hord
  refine(zY)<|(e9 @bm) ?_;refine oZ ((66,an 1 [([]:List Nat)] (aH ah))::(65,ah vehicle)::(64,.map 0)::np c dmg b l ps vehicle day) 2 rfl ⟨.inr (.buf rfl (cu.refl rfl) (ap _)),zj⟩<|oA ((66,an 1 [([]:List Nat)] (aH ah))::(65,ah vehicle)::(64,.map 0)::np c dmg b l ps vehicle day) [bE cW ai [],.cells [.map 0]] (cf @bm) ?_;refine zS [0] (cJ @bm @iH @eQ) hadd ?_;refine(zR) ?_;refine aG.fg (Fg.lS (f':=[(11,.ptr 1 0)]) (S':=[.gone,.cells [lU cW ai [(⟨4,vehicle,[]⟩,true)]]]) 0 rfl gt zj ⟨.inl rfl,.inr ⟨by decide,.inr ⟨_,_,rfl,rfl,.cons (mc (λ_=>rfl) rfl) .nil⟩⟩,trivial⟩) ?_;exact zZ [(11,.ip [lU cW ai [((⟨4,vehicle,[]⟩:aA),true)]])] 1 rfl ⟨.inr (.ptr rfl (cu.refl rfl) (a6 _)),trivial⟩<|zA [(11,.ip [lU cW ai [((⟨4,vehicle,[]⟩:aA),true)]])] [] zH<|(zC)<|(zK hord (hfl:=.inr zr))<|(zR)<|zo [.tmp 10] (r:=an 3 R aw) (hw:=Wk.refl rfl)
 rw[v6 Bool.false_ne_true] at hRb;have hpr:∀p∈ps,p.props.length<=1000000:=λp hp=>(hpo p hp).len;have hask:=λp m=>Gn c dmg b l ps day p m hb hc hl hle i4 hpr;have hin:=qN ps vehicle i4;have hil:=mK ps vehicle;unfold lz at hRb;generalize fP ps vehicle=I at hin hil hRb;have hrc:∀(r:Nat->Nat) (l:List (List Nat)),mP r (l.flatMap (aH ah))=l.flatMap (aH ah):=λr l=>bp (aE (λ_=>rfl) l);have hbc:∀(B:Nat) (l:List (List Nat)),iI B (l.flatMap (aH ah))=true:=λB l=>bO (aE (λ_=>rfl) l);have hkc:∀(o:Nat) (l:List (List Nat)),(l.flatMap (aH ah)).map (aM o)=l.flatMap (aH ah):=λo l=>bx (enc:=aH ah) gc o l
 have hlI:I.length<=1000000:=by omega
 have hlh:b.holds.length<=1000000:=bc hb.lh g9
 refine(lj)<|zA ((19,.fn 31 [] [.ip (aB b),.ip [ab day],.ip [an 14 ps ae],.ptr 1 0,.ip (an 3 c ao::aF dmg),.ip [an 14 l ar]])::(15,.ip (ae v))::np c dmg b l ps vehicle day) [bE cW ai [],.cells [.map 0]] (cf @bm)<|(e9 @ae.eq_1) ?_;refine zS [1,0] (cJ @bm @iH @eQ) (hask v []) ?_ (hc:=Cg (bu @cons_append.{0} @nil_append.{0}));refine(zR) ?_
 obtain⟨m1,hm1⟩:∃m1,m1=eF [] (nj c b l ps day v):=⟨_,rfl⟩;rw[<-hm1];refine zA ((19,.fn 31 [] [.ip (aB b),.ip [ab day],.ip [an 14 ps ae],.ptr 1 0,.ip (an 3 c ao::aF dmg),.ip [an 14 l ar]])::np c dmg b l ps vehicle day) [bE cW ai m1,.cells [.map 0]] (cf @bm) ?_
 (repeat refine aG.seq ?_)
 refine aG.mono (Q:=λex st=>ex=.normal/\Fg st ⟨(76,an 1 I (aH ah))::(77,ab I.length)::(78,ab 0)::(19,.fn 31 [] [.ip (aB b),.ip [ab day],.ip [an 14 ps ae],.ptr 1 0,.ip (an 3 c ao::aF dmg),.ip [an 14 l ar]])::np c dmg b l ps vehicle day,116,[bE cW ai m1,.cells [.map 0]],[]⟩) ?_ ?_
 ·by_cases hL:I=[]
  ·subst hL;rw[show cr 0 1 ([]:List (List Nat)).length=aR from rfl,gU] at hin;refine(zC) ?_;refine aL.sk [] ii rfl rfl ii rfl zc (hin) (by simp only[gn,bI,an,↓reduceIte,af,aj,ay,ax,ad,al,↓bm,iH,eQ];first | done | rfl) rfl g9 (by simp only[CR,gn,bI,an,↓bm,iH,eQ]<;>(repeat' apply ce)<;>first | trivial | rfl | (intro hh;cases hh)) (by simp only[B5,gn,bI,an,aj,al,decide_true,↓bm,iH,eQ];first | done | rfl) (by simp only[B5,gn,bI,an,aj,al,decide_true,↓bm,iH,eQ];first | done | rfl) (by simp only[gn,bI,an,↓reduceIte,af,aj,ay,ax,ad,al,↓bm,iH,eQ];first | done | rfl) (by simp only[gn,bI,an,↓reduceIte,af,aj,ay,ax,ad,al,↓bm,iH,eQ,bX,cA,bF,aM,cL];first | done | rfl) (by simp only[gn,bI,an,↓reduceIte,af,aj,ay,ax,ad,al,↓bm,iH,eQ,bX,cA,bF,aM,cL];first | done | rfl) ?_;refine(zR) ?_;exact⟨rfl,Fg.trans (Fg.wk (f':=(76,an 1 ([]:List (List Nat)) (aH ah))::(77,ab (([]:List (List Nat)).length))::(78,ab 0)::(19,.fn 31 [] [.ip (aB b),.ip [ab day],.ip [an 14 ps ae],.ptr 1 0,.ip (an 3 c ao::aF dmg),.ip [an 14 l ar]])::np c dmg b l ps vehicle day) ⟨.inr (Wk.nil 1),zj⟩) (cf @bm)⟩
  ·have hL0:¬I.length=0:=λh=>hL (t8 h);rw[eo (o:=0) (e:=1) hL0,fU hL] at hin;refine(zC) ?_;refine aL.sk [] ii rfl rfl ii rfl zc (hin) (by simp only[gn,bI,an,↓reduceIte,af,aj,ay,ax,ad,al,↓bm,iH,eQ,hrc,hbc,hkc];first | done | rfl) rfl g9 (by simp only[CR,gn,bI,an,↓bm,iH,eQ,hrc,hbc,hkc]<;>(repeat' apply ce)<;>first | trivial | rfl | (intro hh;cases hh)) (by simp only[B5,gn,bI,an,aj,al,decide_true,↓bm,iH,eQ,hrc,hbc,hkc];first | done | rfl) (by simp only[B5,gn,bI,an,aj,al,decide_true,↓bm,iH,eQ,hrc,hbc,hkc];first | done | rfl) (by simp only[gn,bI,an,↓reduceIte,af,aj,ay,ax,ad,al,↓bm,iH,eQ,hrc,hbc,hkc];first | done | rfl) (by simp only[gn,bI,an,↓reduceIte,af,aj,ay,ax,ad,al,↓bm,iH,eQ,hrc,hbc,hkc,bX,cA,bF,aM,cL];first | done | rfl) (by simp only[gn,bI,an,↓reduceIte,af,aj,ay,ax,ad,al,↓bm,iH,eQ,hrc,hbc,hkc,bX,cA,bF,aM,cL];first | done | rfl) ?_;refine(zR) ?_;exact⟨rfl,Fg.trans (Fg.freeze (f':=(76,an 1 I (aH ah))::(77,ab I.length)::(78,ab 0)::(19,.fn 31 [] [.ip (aB b),.ip [ab day],.ip [an 14 ps ae],.ptr 1 0,.ip (an 3 c ao::aF dmg),.ip [an 14 l ar]])::np c dmg b l ps vehicle day) 2 rfl gt ⟨.inr (.buf rfl (by rw[ek (enc:=aH ah) (e:=1) gc];exact cu.refl (aE (λ_=>rfl) _)) (by rw[aU (enc:=aH ah) (e:=1) gc];exact ap _)),zj⟩) (cf @bm)⟩
 rintro _ _ ⟨rfl,hfg⟩;simp only[c8];refine aG.fg hfg ?_;clear hfg hin;refine(zs) ?_;refine zL I (λk=>True) (λk=>(76,an 1 I (aH ah))::(77,ab I.length)::(78,ab k)::(19,.fn 31 [] [.ip (aB b),.ip [ab day],.ip [an 14 ps ae],.ptr 1 0,.ip (an 3 c ao::aF dmg),.ip [an 14 l ar]])::np c dmg b l ps vehicle day) (λk=>[bE cW ai (eF m1 ((I.take k).flatMap λn=>nj c b l ps day (dL ps n))),.cells [.map 0]]) (cf (cJ @take_zero.{0} @List.flatMap_nil.{0,0} @foldl_nil.{0,0})) zp ?_;intro k hk hall;refine zT I k ?_ ?_;rintro rfl;rotate_left;intro n hx hlt;rotate_left;rotate_left
 ·have hnx:=K9 (m:=m1) (g:=λn=>nj c b l ps day (dL ps n)) hx;generalize eF m1 ((I.take k).flatMap λn=>nj c b l ps day (dL ps n))=M at hnx ⊢
  refine(gA)<|(aD (gm hlt (aQ (e:=1) (enc:=aH ah) gc hx) @aH.eq_1 @bm))<|(zC)<|(zK (hfi n) (hfl:=.inr zr)) ?_
  rw[show(da ps n).getD aq.zero=dL ps n from rfl];generalize (da ps n).isSome=nis;have hnx:eF m1 ((I.take (k+1)).flatMap λn=>nj c b l ps day (dL ps n))=eF M (nj c b l ps day (dL ps n)):=hnx;generalize dL ps n=v at hnx ⊢;have hek:ae v=[ah v.name,ah v.kind,ah v.br,ah v.slot,ab v.made,ab v.since,ai v.cN,an 2 v.props aJ,ab v.l1,ab v.l2,ab v.l3,ab v.l4,ab v.l5,ab v.l6]:=rfl
  refine(cP (bu @bm hek)) ?_;refine zZ ((22,.ip (ae v))::(76,an 1 I (aH ah))::(77,ab I.length)::(78,ab k)::(19,.fn 31 [] [.ip (aB b),.ip [ab day],.ip [an 14 ps ae],.ptr 1 0,.ip (an 3 c ao::aF dmg),.ip [an 14 l ar]])::np c dmg b l ps vehicle day) 2 rfl (gw (bu @an.eq_1 @ae.eq_1))<|zA ((22,.ip (ae v))::(76,an 1 I (aH ah))::(77,ab I.length)::(78,ab k)::(19,.fn 31 [] [.ip (aB b),.ip [ab day],.ip [an 14 ps ae],.ptr 1 0,.ip (an 3 c ao::aF dmg),.ip [an 14 l ar]])::np c dmg b l ps vehicle day) [bE cW ai M,.cells [.map 0]] (cf @bm)<|(e9 @ae.eq_1) ?_;refine zS [1,0] (cJ @bm @iH @eQ) (hask v M) ?_ (hc:=Cg (bu @cons_append.{0} @nil_append.{0}));refine(zR)<|(aD (zi hlt hlI)) ?_;refine zX hlt (cf hnx) trivial
 refine(gg) ?_;simp only[eN,c8,bW,bK,if_true];rw[a7];obtain⟨m2,hm2⟩:∃m2,m2=eF m1 (I.flatMap λn=>nj c b l ps day (dL ps n)):=⟨_,rfl⟩;rw[<-hm2]
 refine(aD @aB.eq_1)<|zA ((93,an 4 b.holds bZ)::(94,ab b.holds.length)::(95,ab 0)::np c dmg b l ps vehicle day) [bE cW ai m2,.cells [.map 0]] (cf @bm)<|(zs) ?_;refine zL b.holds (λk=>True) (λk=>(93,an 4 b.holds bZ)::(94,ab b.holds.length)::(95,ab k)::np c dmg b l ps vehicle day) (λk=>[bE cW ai (eF m2 (((b.holds.take k).filter λh=>decide (h.vehicle=vehicle)&&AP h).map λh=>⟨6,vehicle,h.id⟩)),.cells [.map 0]]) (cf (gm @take_zero.{0} @filter_nil.{0} @map_nil.{0,0} @foldl_nil.{0,0})) zp ?_;intro k hk hall;refine zT b.holds k ?_ ?_;rintro rfl;rotate_left;intro h hx hlt;rotate_left
 rotate_left
 ·have hnx:=Lc (m:=m2) (q:=λh=>decide (h.vehicle=vehicle)&&AP h) (g:=λh=>⟨6,vehicle,h.id⟩) hx;generalize eF m2 (((b.holds.take k).filter λh=>decide (h.vehicle=vehicle)&&AP h).map λh=>⟨6,vehicle,h.id⟩)=M at hnx ⊢;have hadd:=my M 6 vehicle [h.id] (by show 1<=1000000;decide);rw[show eF M ([h.id].map λn=>(⟨6,vehicle,n⟩:aA))=cy ⟨6,vehicle,h.id⟩ true M from rfl] at hadd;have hho:=hb.hold h (aS hx);have hout:=L7 h hho.1 hho.2
  refine(gA)<|(aD (gm hlt (aQ (e:=4) (enc:=bZ) gc hx) @bZ.eq_1 @bm))<|zA ((25,.ptr 2 0)::(93,an 4 b.holds bZ)::(94,ab b.holds.length)::(95,ab k)::np c dmg b l ps vehicle day) [bE cW ai M,.cells [.map 0],.cells [ah h.id,ah h.vehicle,an 1 h.members (aH ab),an 1 h.back (aH ab)]] (cf @bm) ?_
  cases g1:decide (h.vehicle=vehicle)
  ·rw[v6 (by rw[g1];simp)] at hnx
   refine(aD g1)<|(zN)<|(aD (zi hlt hlh)) ?_;refine zX hlt (cf hnx) trivial
  refine(e9 g1)<|(zK hout) ?_
  cases g2:AP h
  ·rw[v6 (by rw[g2];simp)] at hnx
   refine(zR)<|(zN)<|(aD (zi hlt hlh)) ?_;refine zX hlt (cf hnx) trivial
  rw[ut (by rw[g1,g2];rfl)] at hnx
  refine(zR)<|(zY)<|(e9 @bm) ?_;refine oZ ((111,an 1 [h.id] (aH ah))::(108,ah vehicle)::(107,.map 0)::(93,an 4 b.holds bZ)::(94,ab b.holds.length)::(95,ab k)::np c dmg b l ps vehicle day) 3 rfl ⟨.inr (.buf rfl (cu.refl rfl) (ap _)),zj⟩<|oA ((111,an 1 [h.id] (aH ah))::(108,ah vehicle)::(107,.map 0)::(93,an 4 b.holds bZ)::(94,ab b.holds.length)::(95,ab k)::np c dmg b l ps vehicle day) [bE cW ai M,.cells [.map 0]] (cf @bm) ?_;refine zS [0] (cJ @bm @iH @eQ) hadd ?_;refine(zR)<|(aD (zi hlt hlh)) ?_;refine zX hlt (cf hnx) trivial
 refine(gg) ?_;simp only[eN,c8,bW,bK,if_true];rw[a7];obtain⟨m3,hm3⟩:∃m3,m3=eF m2 ((b.holds.filter λh=>decide (h.vehicle=vehicle)&&AP h).map λh=>⟨6,vehicle,h.id⟩):=⟨_,rfl⟩;rw[<-hm3]
 have hm:m3=eF [] (nj c b l ps day v++((I.flatMap λn=>nj c b l ps day (dL ps n))++(b.holds.filter λh=>decide (h.vehicle=vehicle)&&AP h).map λh=>⟨6,vehicle,h.id⟩)):=by rw[oD,oD,<-hm1,<-hm2,<-hm3]
 have hk3:(m3.map (·.1)).Nodup:=by rw[hm];exact BA _ bb
 have hl3:m3.length<=100000:=by
  rw[hm];refine bc (yw _ _) ?_;rw[i5,li,li,ac,List.length_flatMap];have q1:=xf c b l ps day v;have q2:=be (λh:mA=>decide (h.vehicle=vehicle)&&AP h) b.holds
  have q3:(I.map λn=>(nj c b l ps day (dL ps n)).length).sum<=I.length*301:=by
   have:∀J:List (List Nat),(J.map λn=>(nj c b l ps day (dL ps n)).length).sum<=J.length*301:=by
    intro J
    induction J with
    | nil=>exact ap _
    | cons n J ih=>
     have q:=xf c b l ps day (dL ps n);have:=hb.lr;have:=hb.lc;have:=hb.ld;rw[bk,List.sum_cons,i7];omega
   exact this I
  have:=hb.lr;have:=hb.lc;have:=hb.ld;have:=hb.lh;omega
 have hord:=si m3 hl3 hk3;rw[show gu (m3.map (·.1))=R by rw[hRb,hm];rfl] at hord;clear hm hm3 hRb
 refine zA [(11,.ptr 1 0)] [bE cW ai m3,.cells [.map 0]] zH ?_;refine aG.fg (Fg.lS (f':=[(11,.ptr 1 0)]) (S':=[.gone,.cells [lU cW ai m3]]) 0 rfl gt zj ⟨.inl rfl,.inr ⟨by decide,.inr ⟨_,_,rfl,rfl,.cons (mc (λ_=>rfl) rfl) .nil⟩⟩,trivial⟩) ?_;exact zZ [(11,.ip [lU cW ai m3])] 1 rfl ⟨.inr (.ptr rfl (cu.refl rfl) (a6 _)),trivial⟩<|zA [(11,.ip [lU cW ai m3])] [] zH<|(zC)<|(zK hord (hfl:=.inr zr))<|(zR)<|zo [.tmp 10] (r:=an 3 R aw) (hw:=Wk.refl rfl)
end Go.Proofs
namespace Go.Ev
def Pn{P:Program}{t:TypeId}{xs ys:List AV}{b:Bool}(h:dk P .eql t (.agg xs) (.agg ys)=some (.bool b)):dk P .neq t (.agg xs) (.agg ys)=some (.bool (!b)):=by
 change cond (P.eqGuardType P.depth t) none ((lu P 8 t (.agg xs) (.agg ys)).map AV.bool)=_ at h;show cond (P.eqGuardType P.depth t) none ((lu P 8 t (.agg xs) (.agg ys)).map λb=>AV.bool (!b))=_
 revert h
 cases P.eqGuardType P.depth t
 ·cases lu P 8 t (.agg xs) (.agg ys)
  ·intro h;cases h
  ·intro h;injection h with h;injection h with h;subst h;rfl
 ·intro h;cases h
end Go.Ev
namespace Go.Proofs
open Go.Ev
set_option maxRecDepth 100000
def Gy(a b:aA):dk prog .eql 65 (.agg [.int .i64 a.kind,.str a.part,.str a.name]) (.agg [.int .i64 b.kind,.str b.part,.str b.name])=some (.bool (decide (a=b))):=
 sV (ks:=[.i .i64,.s,.s]) zW zW (by simp only[aC,m6]) rfl rfl (aA.eq a b)
def Al(a b:List aA)(ha:a.length<=1000000):PC prog 11 [an 3 a aw,an 3 b aw] (·=ai (decide (a=b))):=by
 refine pB 26 Tryz.func11 ?_;refine(zV) ?_;cases g:decide ((a.length:Int)=b.length)
 ·exact(aD g)<|(cI)<|zo [.tmp 4] (hq:=by rw[wd (λh=>wt g (by rw[h]))])
 refine(aD g)<|(lj) ?_
 have hl:a.length=b.length:=Int.ofNat.inj (ww g);refine(zs) ?_;refine zL a (λk=>a.take k=b.take k) (λk=>[(0,an 3 a aw),(1,an 3 b aw),(5,ab k)]) (λk=>[]) zH zp ?_;intro k hk hall;by_cases hlt:k<a.length;rotate_left
 ·obtain rfl:k=a.length:=by omega
  rw[a7,hl,a7] at hall
  exact(aD (show decide ((a.length:Int)<(a.length:Int))=false by simp))<|(gg)<|(zV)<|zo [.tmp 4] (hq:=by rw[wl hall])
 have hd:=show decide ((k:Int)<(a.length:Int))=true by simp only[wp];omega
 obtain⟨x,hx⟩:∃x,a[k]?=some x:=⟨a[k],jp hlt⟩
 have hlt2:k<b.length:=by omega
 obtain⟨y,hy⟩:∃y,b[k]?=some y:=⟨b[k],jp hlt2⟩
 refine(aD hd)<|(gA) ?_
 have hn:=Pn (Gy x y);refine(zs) ?_;refine nh [0,0,3,7,0,0,48,112,255] ?_;cases he:decide (x=y)
 ·rw[he] at hn
  exact(uH (uP hlt hlt2 (aQ (e:=3) (enc:=aw) gc hx) (aQ (e:=3) (enc:=aw) gc hy) @aw.eq_1 hn))<|(zM)<|(cI)<|zo [.tmp 4] (hq:=by rw[wd (λh=>by subst h;rw[hx] at hy;exact wt he (Option.some.inj hy))])
 ·rw[he] at hn
  refine(uH (uP hlt hlt2 (aQ (e:=3) (enc:=aw) gc hx) (aQ (e:=3) (enc:=aw) gc hy) @aw.eq_1 hn))<|(zM)<|(zN)<|(aD (zi hlt ha)) ?_;refine zX hlt zH (by rw[cM hx,cM hy,hall,ww he])
def DA(a b:aA):PC prog 62 [.ag (aw a),.ag (aw b)] (·=ai (rR a b)):=by
 refine pB 30 Tryz.func62 ?_;refine(aD @aw.eq_1) ?_;cases g1:decide (a.kind=b.kind)
 ·exact(aD g1)<|(cI)<|zo [.tmp 4] (hq:=by unfold rR;rw[g1];simp)
 refine(aD g1)<|(zN) ?_
 cases g2:decide (a.part=b.part)
 ·exact(aD g2)<|(cI)<|zo [.tmp 4] (hq:=by unfold rR;rw[g1,g2,wd (by have:=ww g1;omega)];simp)
 exact(aD g2)<|(lj)<|zo [.tmp 4] (hq:=by unfold rR;rw[g1,g2,wd (by have:=ww g1;omega),ww g2,eG];simp)
inductive eS:aY->Prop
 | mk {op:Int} {name value:List Nat} {n extra:Int} {kids:List aY}:(∀b∈name,b<256)->(∀b∈value,b<256)->kids.length<=sj->(∀k∈kids,eS k)->eS (.mk op name value n extra kids)
mutual
def lE:aY->Int->Int
 | .mk _ _ _ _ _ kids,most=>iq kids most 1
def iq:List aY->Int->Int->Int
 | [],_,n=>n
 | k::ks,most,n=>if most<n then n else iq ks most (Co n (lE k (uh most n)))
end
def uw:∀(d:Nat) (f:aY),SizeOf.sizeOf f<d->eS f->∀most:Int,PC Tryz.prog 169 [.ag (aZ f),ab most] (·=ab (lE f most))
 | 0,f,hd,_,_=>un hd (Nat.not_lt_zero _)
 | d+1,.mk op name value n extra kids,hd,hf,most=>by
  cases hf with
  | mk _ _ hlen hks=>
  have hkd:∀k∈kids,SizeOf.sizeOf k<d:=λk hk=>by
   have h1:=List.sizeOf_lt_of_mem hk
   have h2:SizeOf.sizeOf (aY.mk op name value n extra kids)=1+SizeOf.sizeOf op+SizeOf.sizeOf name+SizeOf.sizeOf value+SizeOf.sizeOf n+SizeOf.sizeOf extra+SizeOf.sizeOf kids:=by simp
   omega
  rw[gJ,lE]
  refine pB 31 Tryz.func169 ?_;refine(zV) ?_;refine zZ [(1,ab most),(2,.ip [ab op,ah name,ah value,ab n,ab extra,an 6 kids aZ])] 0 rfl (gw @an.eq_1)<|zA [(1,ab most),(2,.ip [ab op,ah name,ah value,ab n,ab extra,an 6 kids aZ])] [] zH<|(om)<|(zs) ?_;refine Ho kids (λk (acc:Int)=>iq kids most 1=iq (kids.drop k) most acc) (λk acc=>[(1,ab most),(2,.ip [ab op,ah name,ah value,ab n,ab extra,an 6 kids aZ]),(5,ab acc),(6,ab k)]) (λk acc=>[]) (1) zH ii ?_;intro k acc hk hall
  by_cases hlt:k<kids.length;rotate_left
  ·refine(aD (show decide ((k:Int)<(kids.length:Int))=false by simp only[wn];omega))<|(gg) ?_
   rw[List.drop_of_length_le i4,iq] at hall
   exact(zV)<|zo [.tmp 4] (hq:=by rw[hall])
  have hd:=show decide ((k:Int)<(kids.length:Int))=true by simp only[wp];omega
  obtain⟨x,hx⟩:∃x,kids[k]?=some x:=⟨kids[k],jp hlt⟩;rw[eV hx,iq] at hall;have hxm:=List.mem_of_getElem? hx;have ih:=uw d x (hkd x hxm) (hks x hxm);have hxl:((kids.flatMap aZ).drop (k*6)).take 6=aZ x:=aQ (e:=6) (enc:=aZ) jk hx;obtain⟨op',na',va',n',ex',kids'⟩:=x;simp only[gJ] at hxl ih;cases h1:decide (acc<=most)
  ·rw[ut (by have:=wt h1;omega)] at hall
   exact(aD (bu hd h1))<|(gg)<|(zV)<|zo [.tmp 4] (hq:=by rw[hall])
  rw[v6 (by have:=ww h1;omega)] at hall
  refine(aD (bu hd h1))<|(gA)<|(e9 (cJ hlt hxl @ot))<|(zK (ih (uh most acc)))<|(cP @sU)<|(aD (zi hlt hlen)) ?_;refine w8 hlt (Co acc (lE (.mk op' na' va' n' ex' kids') (uh most acc))) zH hall
mutual
def mU:aY->Bool
 | .mk _ name value _ _ kids=>!(decide (300<(name.length:Int)))&&(!(decide (300<(value.length:Int)))&&uf kids)
def uf:List aY->Bool
 | []=>true
 | k::ks=>mU k&&uf ks
end
def sK:∀l:List aY,uf l=l.all mU
 | []=>by rw[uf];rfl
 | k::l=>by rw[uf,sK l,List.all_cons]
def yU:∀(d:Nat) (f:aY),SizeOf.sizeOf f<d->∀most:Int,-1000<=most->most<=1000->1<=lE f most/\(lE f most<=most+1\/lE f most=1)/\(lE f most<=most->eS f->mU f=true->gp f)
 | 0,f,hd,_,_,_=>un hd (Nat.not_lt_zero _)
 | d+1,.mk op name value n extra kids,hd,most,h0,h1=>by
  have hkd:∀k∈kids,SizeOf.sizeOf k<d:=λk hk=>by
   have h1:=List.sizeOf_lt_of_mem hk
   have h2:SizeOf.sizeOf (aY.mk op name value n extra kids)=1+SizeOf.sizeOf op+SizeOf.sizeOf name+SizeOf.sizeOf value+SizeOf.sizeOf n+SizeOf.sizeOf extra+SizeOf.sizeOf kids:=by simp
   omega
  have key:∀(ks:List aY) (acc:Int),(∀k∈ks,k∈kids)->1<=acc->(acc<=most+1\/acc=1)->1<=iq ks most acc/\(iq ks most acc<=most+1\/iq ks most acc=1)/\(iq ks most acc<=most->acc+ks.length<=iq ks most acc/\∀k∈ks,eS k->mU k=true->gp k):=by
   intro ks
   induction ks with
   | nil=>intro acc _ h2 h3;rw[iq];exact⟨h2,h3,λ_=>⟨by simp,λk hk=>by cases hk⟩⟩
   | cons k ks ih=>
    intro acc hm h2 h3;rw[iq];split
    ·rename_i hlt;exact⟨h2,h3,λh=>by omega⟩
    ·rename_i hlt;rw[Kx i4];obtain⟨b1,b2,b3⟩:=yU d k (hkd k (hm k List.mem_cons_self)) (most-acc) i4 i4;rw[Jr i4];obtain⟨c1,c2,c3⟩:=ih (acc+lE k (most-acc)) (λx hx=>hm x (List.mem_cons_of_mem _ hx)) i4 i4;refine⟨c1,c2,λh=>?_⟩;obtain⟨d1,d2⟩:=c3 h;refine⟨by rw[i7];omega,λx hx=>?_⟩
     rcases t7 hx with rfl | hx
     ·exact b3 i4
     ·exact d2 x hx
  rw[lE];obtain⟨c1,c2,c3⟩:=key kids 1 (λ_ h=>h) (Int.le_refl _) (.inr rfl);refine⟨c1,c2,λh hb hs=>?_⟩;obtain⟨d1,d2⟩:=c3 h
  cases hb with
  | mk n1 n2 _ n4=>
  rw[mU,sK] at hs;simp only[Bool.and_eq_true,Bool.not_eq_true',wn,List.all_eq_true] at hs;exact .mk ⟨by omega,n1⟩ ⟨by omega,n2⟩ i4 λk hk=>d2 k hk (n4 k hk) (hs.2.2 k hk)
def uA:∀(d:Nat) (f:aY),SizeOf.sizeOf f<d->eS f->PC Tryz.prog 286 [.ag (aZ f)] (·=ai (mU f))
 | 0,f,hd,_=>un hd (Nat.not_lt_zero _)
 | d+1,.mk op name value n extra kids,hd,hf=>by
  cases hf with
  | mk _ _ hlen hks=>
  have hkd:∀k∈kids,SizeOf.sizeOf k<d:=λk hk=>by
   have h1:=List.sizeOf_lt_of_mem hk
   have h2:SizeOf.sizeOf (aY.mk op name value n extra kids)=1+SizeOf.sizeOf op+SizeOf.sizeOf name+SizeOf.sizeOf value+SizeOf.sizeOf n+SizeOf.sizeOf extra+SizeOf.sizeOf kids:=by simp
   omega
  rw[gJ,mU,sK]
  refine pB 28 Tryz.func286 ?_;refine(zV) ?_;refine zZ [(1,.ip [ab op,ah name,ah value,ab n,ab extra,an 6 kids aZ])] 0 rfl (gw @an.eq_1)<|zA [(1,.ip [ab op,ah name,ah value,ab n,ab extra,an 6 kids aZ])] [] zH ?_
  cases g1:decide (300<(name.length:Int));rotate_left
  ·exact(aD g1)<|(cI)<|zo [.tmp 2]
  cases g2:decide (300<(value.length:Int));rotate_left
  ·exact(aD (bu g1 g2))<|(cI)<|zo [.tmp 2]
  refine(aD (bu g1 g2))<|(lj)<|(zs) ?_;refine zL kids (λk=>(kids.take k).all mU=true) (λk=>[(1,.ip [ab op,ah name,ah value,ab n,ab extra,an 6 kids aZ]),(3,ab k)]) (λk=>[]) zH zp ?_;intro k hk hall
  by_cases hlt:k<kids.length;rotate_left
  ·refine(aD (show decide ((k:Int)<(kids.length:Int))=false by simp only[wn];omega))<|(gg) ?_
   obtain rfl:k=kids.length:=by omega
   rw[List.take_length] at hall
   exact(zV)<|zo [.tmp 2] (hq:=by rw[hall];rfl)
  obtain⟨x,hx⟩:∃x,kids[k]?=some x:=⟨kids[k],jp hlt⟩;have hxm:=List.mem_of_getElem? hx;have ih:=uA d x (hkd x hxm) (hks x hxm);have hxl:((kids.flatMap aZ).drop (k*6)).take 6=aZ x:=aQ (e:=6) (enc:=aZ) jk hx;obtain⟨b,hb⟩:∃b,b=mU x:=⟨_,rfl⟩;rw[<-hb] at ih;obtain⟨op',na',va',n',ex',kids'⟩:=x;simp only[gJ] at hxl ih
  refine(aD (show decide ((k:Int)<(kids.length:Int))=true by simp only[wp];omega))<|(gA)<|(e9 (bu hlt hxl))<|(zK ih) ?_
  cases b
  ·exact(zR)<|(cI)<|zo [.tmp 2] (hq:=by rw[iu hxm hb.symm];rfl)
  ·refine(zR)<|(zN)<|(aD (zi hlt hlen)) ?_;refine zX hlt zH (gF hx hall hb.symm)
def K6(e:aY):Bool:=decide (lE e 80<=80)&&mU e
def JM{e:aY}(h:K6 e=true)(hb:eS e):gp e:=by
 unfold K6 at h;rw[bh] at h;exact(yU _ e (cn _) 80 g9 g9).2.2 (ww h.1) hb h.2
def DL(e:aY)(he:eS e):PC prog 236 [.ag (aZ e)] (·=ai (K6 e)):=by
 have hN:=uw _ e (cn _) he 80;have hS:=uA _ e (cn _) he;unfold K6;generalize lE e 80=q at hN ⊢;generalize mU e=s at hS ⊢;refine pB 10 Tryz.func236 ?_;rw[cz] at hN hS ⊢
 refine(zV) ?_;refine zZ [(1,AH e)] 0 rfl zG<|zA [(1,AH e)] [] zH<|(zC)<|(zK hN) ?_
 cases g:decide (q<=80)
 ·exact(cP g)<|zo [.tmp 2]
 exact(Mf g)<|(zK hS)<|(zR)<|zo [.tmp 2]
def yf(r:iN):Bool:=decide (((r.name.length+r.kind.length:Nat):Int)<=300)&&K6 r.cond
def IM(r:iN)(hr:r.name.length<=sj/\r.kind.length<=sj)(he:eS r.cond):PC prog 153 [.ag (bD r)] (·=ai (Proofs.yf r)):=by
 have hC:=DL r.cond he;unfold Proofs.yf;generalize K6 r.cond=s at hC ⊢;refine pB 16 Tryz.func153 ?_;rw[cz] at hC;rw[eD];have hadd:=xh (P:=prog) (t:=3) (a:=(r.name.length:Int)) (b:=(r.kind.length:Int)) (by have h1:r.name.length<=1000000000000000:=hr.1;have h2:r.kind.length<=1000000000000000:=hr.2;omega);rw[show(r.name.length:Int)+(r.kind.length:Int)=((r.name.length+r.kind.length:Nat):Int) from rfl] at hadd
 refine(zV) ?_;refine zZ [(1,.ip (bD r))] 0 rfl (gw @eD)<|zA [(1,.ip (bD r))] [] zH ?_
 cases g:decide (((r.name.length+r.kind.length:Nat):Int)<=300)
 ·exact(aD (cJ @eD hadd g))<|zo [.tmp 2]
 exact(e9 (cJ @eD hadd g))<|(zK hC)<|(zR)<|zo [.tmp 2]
def sy(l:List iN):Bool:=decide ((l.length:Int)<=5)&&l.all Proofs.yf
def vY(l:List iN)(hlen:l.length<=sj)(hl:∀r∈l,(r.name.length<=sj/\r.kind.length<=sj)/\eS r.cond):PC prog 70 [an 8 l bD,ab 5] (·=ai (Proofs.sy l)):=by
 refine pB 28 Tryz.func70 ?_;unfold Proofs.sy
 refine(om)<|(zs) ?_;refine zL l (λk=>(l.take k).all Proofs.yf=true) (λk=>[(0,an 8 l bD),(1,ab 5),(5,ab k)]) (λk=>[]) zH zp ?_;intro k hk hall
 cases g5:decide ((l.length:Int)<=5)
 ·by_cases hlt:k<l.length
  ·exact(aD (bu (show decide ((k:Int)<(l.length:Int))=true by simp only[wp];omega) g5))<|(gg)<|(aD g5)<|zo [.tmp 4]
  ·exact(aD (bu (show decide ((k:Int)<(l.length:Int))=false by simp only[wn];omega) g5))<|(gg)<|(aD g5)<|zo [.tmp 4]
 by_cases hlt:k<l.length;rotate_left
 ·refine(aD (bu (show decide ((k:Int)<(l.length:Int))=false by simp only[wn];omega) g5))<|(gg) ?_
  obtain rfl:k=l.length:=by omega
  rw[a7] at hall
  exact(aD g5)<|zo [.tmp 4] (hq:=by rw[hall];rfl)
 obtain⟨x,hx⟩:∃x,l[k]?=some x:=⟨l[k],jp hlt⟩;have hxm:=aS hx;have hF:=IM x (hl x hxm).1 (hl x hxm).2;rw[eD] at hF
 refine(aD (bu (show decide ((k:Int)<(l.length:Int))=true by simp only[wp];omega) g5))<|(gA)<|(e9 (cJ hlt (aQ (e:=8) (enc:=bD) ny hx) @eD))<|(zK hF) ?_
 cases g:Proofs.yf x
 ·exact(zR)<|(cI)<|zo [.tmp 4] (hq:=by rw[iu hxm g];rfl)
 ·refine(zR)<|(zN)<|(aD (zi hlt hlen)) ?_;refine zX hlt zH (gF hx hall g)
end Go.Proofs
