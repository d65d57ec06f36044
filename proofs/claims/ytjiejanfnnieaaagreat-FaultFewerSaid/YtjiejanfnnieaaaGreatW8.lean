/- Lemmas of this claim, each with its conditions. -/
import Derived.Test.YtjiejanfnnieaaaGreatW7
import Derived.Test.YtjiejanfnnieaaaGreatW6
import Derived.Test.YtjiejanfnnieaaaGreatW5
import Derived.Test.YtjiejanfnnieaaaGreatW4
import Derived.Test.YtjiejanfnnieaaaGreatW3
import Derived.Test.YtjiejanfnnieaaaGreatW2
import Derived.WalkKit
import Derived.WalkSpells
import Derived.WalkLawsBesides
import Derived.Deep.QuietTactic
import Derived.BigQuiet
import Derived.StillTailTactics
import Derived.Sort.Grow
import Derived.Shelf.SlGeneric
import Derived.Shelf.SlLaysF0
import Derived.Shelf.Small.Strs
import Derived.Shelf.Small.Bits
import Derived.Ground.SlsfProg
import Derived.Ground.NamesProg
import Derived.Test.YtjiejanfnnieaaaGreatProg
import Derived.Shelf.SlSortCmp.Xorshift
import Derived.Shelf.SlSortCmp.InsertionK
import Derived.Shelf.SlSortCmp.WholeK
set_option linter.all false
set_option maxHeartbeats 8000000
open Go.Proofs.Tryz (prog func156 func149 func157 func238 func287 func312 func64 func74 func76)
open List (mem_map map_nil mem_append take_zero mem_filter nil_append cons_append filter_nil foldl_nil Perm)
open List renaming length_map -> ac, mem_cons_of_mem -> am, mem_of_getElem? -> aS, take_length -> a7, getElem?_map -> a8, mem_cons_self -> ba, nodup_nil -> bb, map_append -> be, length_filter_le -> bh, map_cons -> bi, filter_append -> bk, nodup_cons -> bt, not_mem_nil -> bv, append_nil -> bw, foldl_append -> bN, foldl_cons -> b4, length_filterMap_le -> b6, take_of_length_le -> b8, mem_cons -> cb, sizeOf_lt_of_mem -> cc, mem_map_of_mem -> cd, drop_of_length_le -> cl, getElem?_eq_none -> co, pairwise_cons -> c6, flatMap_cons -> dd, all_eq_true -> dt, filter_cons -> dv, mem_flatMap -> dE, any_append -> es, append -> e4, drop_zero -> e5
open Nat renaming reduceLeDiff -> ad, reduceEqDiff -> af, reduceAdd -> aj, reduceLT -> al, le_refl -> ap, reduceMul -> ax, reduceSub -> ay, zero_le -> a6, le_trans -> bc, not_lt_zero -> b7, lt_succ_self -> ck, mul_one -> d6, add_zero -> fl
open Bool renaming and_eq_true -> bd, or_eq_true -> b9, not_eq_true' -> ci, true_and -> cn, false_eq_true -> c4, not_true -> dc, decide_and -> em, not_false -> e3, and_true -> fa, false_or -> fb
open Array renaming getElem?_eq_getElem -> b5, eq_empty_of_size_eq_zero -> ca, getElem?_push -> ch, getElem?_modify -> cp, getElem?_toList -> ct, length_toList -> c0, size_push -> ey
open And renaming intro -> ce
open Go.Proofs.Tryz renaming ntmps77 -> cv, func77 -> dl, func226 -> d7, func233 -> d8, func237 -> d9, ntmps79 -> el, func79 -> e6
open Int renaming lt_trichotomy -> c5
namespace Go.Proofs
open Go.Ev
set_option maxRecDepth 100000
def IM{l:List nh}(e:bC)(hlen:l.length<=1000000)(hok:∀c∈l,c.ok):PC prog 313 [ak 1 l kO,.fn 283 [] [.ip (ar e)]] (·=ab (fP (λc=>!(c.p e)) l)):=by
 refine pB 19 Tryz.func313 ?_;refine(aA @ak.eq_1)<|(zV)<|(zs) ?_;refine zL l (λk=>∀(i:Nat) y,i<k->l[i]?=some y->(!(y.p e))=false) (λk=>[(0,.sl l.length 1 (l.flatMap kO)),(1,.fn 283 [] [.ip (ar e)]),(7,ab l.length),(8,ab k)]) (λk=>[]) zH zp ?_;intro k hk hall;refine zT l k ?_ ?_;rintro rfl;rotate_left;intro x hx hlt;rotate_left
 ·exact(gh)<|(zV)<|zo [.tmp 4] (hq:=by rw[hY hall])
 ·have hxo:=hok x (aS hx);have hd1:=Gm x hxo e;obtain⟨g,cap,h1,h2,_⟩:=hxo;have hxl:=aT (e:=1) (enc:=kO) gc hx;have hn2:∀o:Nat,eG o cap=false:=λo=>cr h2;rw[show kO x=[x.f] from rfl,h1] at hxl;rw[h1] at hd1
  refine(gz)<|(zV)<|(e9 (bx hlt hxl))<|(zK hd1 (hwk:=.cons (.fn .nil (cC.refl h2)) zr)) ?_;refine aK.nil ?_
  change aF _ _ _ _ _;cases hpx:x.p e
  ·exact(cL)<|zo [.tmp 4] (hq:=by rw[lQ (p:=λc=>!(c.p e)) hx (by rw[hpx];rfl) hall])
  ·refine(zN)<|(aA (zi hlt hlen)) ?_;refine zX hlt zH ?_
   intro i y hi hy;by_cases hik:i=k
   ·subst hik;rw[hx] at hy;cases hy;rw[hpx];rfl
   ·exact hall i y i4 hy
def Iw{l:List nh}(e:bC)(hlen:l.length<=1000000)(hok:∀c∈l,c.ok):PC prog 282 [ak 1 l kO,.fn 283 [] [.ip (ar e)]] (·=ai (l.any λc=>!(c.p e))):=by
 refine pB 9 Tryz.func282 ?_;exact(jn)<|(zK (IM (l:=l) e hlen hok))<|(zR)<|zo [.tmp 4] (hq:=by rw[nw])
def vF(conds:List nh)(e:bC):Bool:=!(conds.any λc=>!(c.p e))
def gu(conds:List nh)(l:List bC):List Int:=(l.filter (vF conds)).map bC.day
variable{l:List bC}
def KP{conds:List nh}{k:Nat}{x:bC}(h:l[k]?=some x):gu conds (l.take (k+1))=gu conds (l.take k)++(if vF conds x=true then [x.day] else []):=by
 unfold gu;rw[c9 h,bk,be];cases hp:vF conds x<;>simp[hp]
def zu(l:List bC)(conds:List nh)(hlen:l.length<=100000)(hcl:conds.length<=1000000)(hok:∀c∈conds,c.ok):PC prog 229 [ak 14 l ar,ak 1 conds kO] (·=ak 1 (gu conds l) (aG ab)):=by
 refine pB 25 Tryz.func229 ?_
 have hlenl:l.length<=1000000:=by omega
 refine(og)<|(zV)<|(zs) ?_;refine zL l (λk=>True) (λk=>[(1,ak 1 conds kO),(5,cx 2 1 (gu conds (l.take k)).length),(8,ak 14 l ar),(9,ab l.length),(10,ab k)]) (λk=>OX 2 (gu conds (l.take k)) (aG ab)) (cm (na @take_zero.{0} (show gu conds []=[] from rfl) @i5.{0} @lA @PZ)) zp ?_;intro k hk hall;refine zT l k ?_ ?_;rintro rfl;rotate_left;intro x hx hlt;rotate_left
 ·refine(gh) ?_;rw[a7]
  exact(zV)<|zo [.tmp 4] (r:=ak 1 (gu conds l) (aG ab)) (hw:=QJ (enc:=aG ab) (e:=1) gc (λ_=>rfl) (gu conds l))
 have hsn:=KP (conds:=conds) hx;have hxl:=aT (e:=14) (enc:=ar) gc hx
 have hol:(gu conds (l.take k)).length<=k:=by
  unfold gu;rw[ac];exact bc (bh _ _) (by rw[List.length_take];omega)
 generalize hO:gu conds (l.take k)=out at hol hsn;have hfl:=bg (enc:=aG ab) (e:=1) gc out;have hkc:=λo=>bF (enc:=aG ab) gc o out;have hcf:=Iw x hcl hok;refine(gz) ?_;by_cases hk0:out=[]
 ·rw[show OX 2 out (aG ab)=[] by rw[hk0];rfl,show cx 2 1 out.length=aR by rw[hk0];rfl]
  refine(aA (cO hlt hxl @ar.eq_1))<|zA [(1,ak 1 conds kO),(5,aR),(7,.ptr 0 0),(8,ak 14 l ar),(9,ab l.length),(10,ab k)] [.cells (ar x)] zH ?_;refine zZ [(1,ak 1 conds kO),(5,aR),(7,.ip (ar x)),(8,ak 14 l ar),(9,ab l.length),(10,ab k)] 0 rfl ⟨.inl rfl,.inl rfl,.inr (.ptr rfl (cC.refl (bY x)) (by rw[cK];decide)),zj⟩<|zA [(1,ak 1 conds kO),(5,aR),(7,.ip (ar x)),(8,ak 14 l ar),(9,ab l.length),(10,ab k)] [.gone] zH<|(zC)<|(zK hcf (hfl:=.inr zr))<|(cP (show(!(conds.any λc=>!c.p x))=vF conds x from rfl)) ?_
  cases hpp:vF conds x
  ·rw[hpp,v6 g9,bw] at hsn;refine(zN) ?_
   have f1:cx 2 1 (gu conds (l.take (k+1))).length=aR:=by rw[hsn,hk0];rfl
   have f2:OX 2 (gu conds (l.take (k+1))) (aG ab)=[]:=by rw[hsn,hk0];rfl
   refine(aA (zi hlt hlenl)) ?_;refine zX hlt (cm (bx f1 f2)) trivial
  ·rw[hpp,ut rfl] at hsn;refine(zY) ?_
   have f1:cx 2 1 (gu conds (l.take (k+1))).length=.buf 2 1 1 none:=by rw[hsn,hk0];rfl
   have f2:OX 2 (gu conds (l.take (k+1))) (aG ab)=[.gone,.gone,.cells [ab x.day]]:=by rw[hsn,hk0];rfl
   refine(aA @dz)<|(aA (zi hlt hlenl)) ?_;refine zX hlt (cm (bx f1 f2)) trivial
 ·have hk1:¬out.length=0:=λh=>hk0 (t8 h);rw[NJ hk0,en hk1]
  refine(aA (gr hlt hxl @ar.eq_1 Qq))<|zA [(1,ak 1 conds kO),(5,.buf 2 out.length 1 none),(7,.ptr 3 0),(8,ak 14 l ar),(9,ab l.length),(10,ab k)] [.gone,.gone,.cells (out.flatMap (aG ab)),.cells (ar x)] (cm hkc) ?_;refine zZ [(1,ak 1 conds kO),(5,.buf 2 out.length 1 none),(7,.ip (ar x)),(8,ak 14 l ar),(9,ab l.length),(10,ab k)] 3 rfl ⟨.inl rfl,.inl rfl,.inr (.ptr rfl (cC.refl (bY x)) (by rw[cK];decide)),zj⟩<|zA [(1,ak 1 conds kO),(5,.buf 2 out.length 1 none),(7,.ip (ar x)),(8,ak 14 l ar),(9,ab l.length),(10,ab k)] [.gone,.gone,.cells (out.flatMap (aG ab))] zH<|(zC)<|(zK hcf (hfl:=.inr zr))<|(cP (show(!(conds.any λc=>!c.p x))=vF conds x from rfl)) ?_
  cases hpp:vF conds x
  ·rw[hpp,v6 g9,bw] at hsn;refine(zN) ?_
   have f1:cx 2 1 (gu conds (l.take (k+1))).length=.buf 2 out.length 1 none:=by rw[hsn,en hk1]
   have f2:OX 2 (gu conds (l.take (k+1))) (aG ab)=[.gone,.gone,.cells (out.flatMap (aG ab))]:=by rw[hsn,NJ hk0];rfl
   refine(aA (zi hlt hlenl)) ?_;refine zX hlt (cm (bx f1 f2)) trivial
  ·rw[hpp,ut rfl] at hsn;refine(zY) ?_
   have f1:cx 2 1 (gu conds (l.take (k+1))).length=.buf 2 (out.length+1) 1 none:=by rw[hsn,li];rfl
   have f2:OX 2 (gu conds (l.take (k+1))) (aG ab)=[.gone,.gone,.cells ((out++[x.day]).flatMap (aG ab))]:=by rw[hsn,NK];rfl
   have happ:=mb (enc:=aG ab) (e:=1) gc (λ_=>rfl) 2 out x.day;rw[show aG ab x.day=[ab x.day] from rfl] at happ
   refine(aA (He @dz hfl hkc Qq (show out.length<=1000000 by omega) @ap happ))<|(aA (zi hlt hlenl)) ?_;refine zX hlt (cm (bx f1 f2)) trivial
def G4:dq prog 108=some .ef:=by kernel_rfl
def C9(part:List Nat)(day:Int):nh:=⟨.fn 228 [] [.ip [ah part],.ip [ab day]],Lw part day⟩
def FK(d:ea):nh:=⟨.fn 230 [] [.ip (aQ d)],λe=>decide (e.op=6)&&decide (e.key=d.key)⟩
def xG(d:ea):nh:=⟨.fn 231 [] [.ip (aQ d)],λe=>decide (e.op=d.after)⟩
def JX(part:List Nat)(day:Int):(C9 part day).ok:=⟨_,_,rfl,rfl,λe=>LX e part day⟩
def NI(d:ea):(FK d).ok:=⟨_,_,rfl,rfl,λe=>GI e d⟩
def Kz(d:ea):(xG d).ok:=⟨_,_,rfl,rfl,λe=>Gh e d⟩
def EK(a b:nh)(l:List bC):gu [a,b] l=(l.filter λe=>a.p e&&b.p e).map bC.day:=by
 unfold gu;refine rc _ (List.filter_congr λe _=>?_);unfold vF;cases h1:a.p e<;>cases h2:b.p e<;>simp[h1,h2]
def Hx(d:ea)(l:List bC)(part:List Nat)(day:Int):gu [C9 part day,FK d] l=C2 d l part day:=EK _ _ _
def EJ(d:ea)(l:List bC)(part:List Nat)(day:Int):gu [C9 part day,xG d] l=qT d l part day:=EK _ _ _
def sP(p:bC->Bool)(l:List bC):((l.filter p).map bC.day).length<=l.length:=by rw[List.length_map];exact List.length_filter_le _ _
def IQ(d:ea)(l:List bC)(part:List Nat)(day:Int)(hlen:l.length<=100000)(hw:0<=d.within/\d.within<=40000)(hbd:∀n∈qT d l part day,0<=n/\n<=40000):PC prog 147 [.ag (aQ d),ak 14 l ar,ah part,ab day] (·=.cA [ab (lG d l part day).1,ai (lG d l part day).2]):=by
 have hd1:=zu l [C9 part day,FK d] hlen ge (by intro c hc;rcases t7 hc with rfl | hc;exact JX _ _;rw[t6 hc];exact NI _);have hd2:=zu l [C9 part day,xG d] hlen ge (by intro c hc;rcases t7 hc with rfl | hc;exact JX _ _;rw[t6 hc];exact Kz _);rw[Hx] at hd1;rw[EJ] at hd2;have hnl:(C2 d l part day).length<=l.length:=sP _ _;have hbl:(qT d l part day).length<=l.length:=sP _ _;refine pB 57 Tryz.func147 ?_;unfold lG;generalize C2 d l part day=notes at hd1 hnl ⊢;generalize qT d l part day=begins at hd2 hbl hbd ⊢
 have hlenb:begins.length<=1000000:=by omega
 refine(aA @aQ.eq_1) ?_;refine zZ [(1,ak 14 l ar),(4,.ip (aQ d)),(6,.ptr 1 0),(7,.ptr 2 0)] 0 rfl (gm (bx @ak.eq_1 @aQ.eq_1))<|zZ [(1,ak 14 l ar),(4,.ip (aQ d)),(6,.ip [ah part]),(7,.ptr 2 0)] 1 rfl (gm (bx @ak.eq_1 @aQ.eq_1))<|zZ [(1,ak 14 l ar),(4,.ip (aQ d)),(6,.ip [ah part]),(7,.ip [ab day])] 2 rfl (gm (bx @ak.eq_1 @aQ.eq_1))<|zA [(1,ak 14 l ar),(4,.ip (aQ d)),(6,.ip [ah part]),(7,.ip [ab day])] [] zH<|(zV)<|(e9 (gr @G4 (show AV.ef.cells=[AV.ef] from rfl) @aO.eq_1 @eG.eq_1)) ?_;refine oZ [(22,ak 1 [C9 part day,FK d] kO),(19,ak 14 l ar),(10,.fn 228 [] [.ip [ah part],.ip [ab day]]),(1,ak 14 l ar),(4,.ip (aQ d))] 0 rfl ⟨.inr (.buf rfl (cC.refl rfl) (ap _)),zj⟩<|oA [(22,ak 1 [C9 part day,FK d] kO),(19,ak 14 l ar),(10,.fn 228 [] [.ip [ah part],.ip [ab day]]),(1,ak 14 l ar),(4,.ip (aQ d))] [] zH<|(zK hd1 (hfl:=.inr zr))<|(zR)<|(zV)<|(e9 (gr @G4 (show AV.ef.cells=[AV.ef] from rfl) @aO.eq_1 @eG.eq_1)) ?_;refine oZ [(27,ak 1 [C9 part day,xG d] kO),(24,ak 14 l ar),(10,.fn 228 [] [.ip [ah part],.ip [ab day]]),(1,ak 14 l ar),(4,.ip (aQ d)),(11,ak 1 notes (aG ab)),(12,ab 0),(13,ai false)] 0 rfl ⟨.inr (.buf rfl (cC.refl rfl) (ap _)),zj⟩<|oA [(27,ak 1 [C9 part day,xG d] kO),(24,ak 14 l ar),(10,.fn 228 [] [.ip [ah part],.ip [ab day]]),(1,ak 14 l ar),(4,.ip (aQ d)),(11,ak 1 notes (aG ab)),(12,ab 0),(13,ai false)] [] zH<|(zK hd2 (hfl:=.inr zr))<|(zR)<|(zs) ?_;refine Jg begins (λk (aa:Int×Bool)=>0<=aa.1/\aa=(begins.take k).foldl (qu d notes) (0,false)) (λk aa=>[(4,.ip (aQ d)),(11,ak 1 notes (aG ab)),(12,ab aa.1),(13,ai aa.2),(28,ak 1 begins (aG ab)),(29,ab begins.length),(30,ab k)]) (λk aa=>[]) ((0,false)) zH (by exact⟨Int.le_refl _,rfl⟩) ?_;intro k aa hk hall;refine zT begins k ?_ ?_;rintro rfl;rotate_left;intro x hx hlt;rotate_left
 ·refine(gh) ?_;obtain⟨_,haa⟩:=hall;rw[a7] at haa;rw[<-haa]
  exact(zV)<|jW [.tmp 8,.tmp 9]
 have hst:(begins.take (k+1)).foldl (qu d notes) (0,false)=qu d notes aa x:=by rw[c9 hx,bN,<-hall.2];rfl
 obtain⟨hx0,hx1⟩:=hbd x (aS hx);have hct:=vN (l:=notes) (λn=>decide (x<=n)&&decide (n<=x+d.within)) (fid:=232) (first:=[]) (cap:=[.ip [ab x],.ip (aQ d)]) i4 (λn _=>LS n x d ⟨hx0,hx1⟩ hw) ⟨rfl,rfl⟩;rw[qu] at hst;generalize (notes.any λn=>decide (x<=n)&&decide (n<=x+d.within))=met at hct hst
 refine(gz)<|(aA (cO hlt (aT (e:=1) (enc:=aG ab) gc hx) @aG.eq_1))<|zA [(4,.ip (aQ d)),(11,ak 1 notes (aG ab)),(12,ab aa.1),(13,ai aa.2),(15,.ptr 0 0),(28,ak 1 begins (aG ab)),(29,ab begins.length),(30,ab k)] [.cells [ab x]] zH ?_;refine zZ [(4,.ip (aQ d)),(11,ak 1 notes (aG ab)),(12,ab aa.1),(13,ai aa.2),(15,.ip [ab x]),(28,ak 1 begins (aG ab)),(29,ab begins.length),(30,ab k)] 0 rfl ⟨.inl rfl,.inl rfl,.inl rfl,.inl rfl,.inr (.ptr rfl (cC.refl rfl) (a6 _)),zj⟩<|zA [(4,.ip (aQ d)),(11,ak 1 notes (aG ab)),(12,ab aa.1),(13,ai aa.2),(15,.ip [ab x]),(28,ak 1 begins (aG ab)),(29,ab begins.length),(30,ab k)] [] zH<|(zC)<|(zK hct)<|(zR)<|(aA (bx @aQ.eq_1 (Ee (P:=prog) (t:=3) (show -9223372036854775808<=x+d.within/\x+d.within<=9223372036854775807 from⟨by omega,by omega⟩)))) ?_
 cases met;rotate_left
 ·simp only[dc,Bool.false_and,c4,↓reduceIte] at hst
  refine(Ec)<|(aA (zi hlt hlenb)) ?_;refine xu hlt (aa) zH (⟨hall.1,hst.symm⟩)
 obtain⟨a,fd⟩:=aa;cases fd
 ·simp only[e3,cn,Bool.true_or,↓reduceIte] at hst
  refine(wO)<|(zV)<|(aA (zi hlt hlenb)) ?_;refine xu hlt ((x+d.within,true)) zH (⟨by show 0<=x+d.within;omega,hst.symm⟩)
 simp only[e3,dc,cn,fb] at hst;cases g1:decide (x+d.within<a)
 ·simp only[g1,c4,↓reduceIte] at hst
  refine(aA g1)<|(zN)<|(aA (zi hlt hlenb)) ?_;refine xu hlt ((a,true)) zH (⟨hall.1,hst.symm⟩)
 ·simp only[g1,↓reduceIte] at hst
  refine(aA g1)<|(cL)<|(aA (zi hlt hlenb)) ?_;refine xu hlt ((x+d.within,true)) zH (⟨by show 0<=x+d.within;omega,hst.symm⟩)
def pY(c:List aU):Nat->List bC->List ao->List ao×Int×Int
 | _,[],s=>(s,-1,0)
 | i,e::r,s=>if (aX c s e).2=0 then pY c (i+1) r (aX c s e).1 else ([],(i:Int),(aX c s e).2)
def Kn{c:List aU}{dmg:bE}:∀(l:List bC) (i:Nat) (s:List ao),(pY c i l s).1=(RG false c dmg l s).1/\(pY c i l s).2.2=(RG false c dmg l s).2
 | [],_,_=>⟨rfl,rfl⟩
 | e::r,i,s=>by
  rw[pY,RG];split
  ·rw[v6 ge];exact Kn r (i+1) _
  ·exact⟨rfl,rfl⟩
def Fx(lc:ju)(ok:Bool):SO:=.loop lc (cond ok .ready .done) (cond ok none (some .ret)) [(4,.ptr 1 0),(5,.ptr 2 0),(6,.ptr 3 0),(7,.ptr 4 0),(8,.ptr 5 0)]
def yw(o:Nat)(lc:ju)(ok:Bool)(h:5<o):bI o (Fx lc ok)=Fx lc ok:=by
 have h1:¬1=o:=by omega
 have h2:¬2=o:=by omega
 have h3:¬3=o:=by omega
 have h4:¬4=o:=by omega
 have h5:¬5=o:=by omega
 simp[Fx,bI,bZ,aO,Ev.names,eG,h1,h2,h3,h4,h5]
def uN:Code->Option (Code×Code)
 | .seq a b=>match uN a with
  | some x=>some x
  | none=>uN b
 | .block _ c=>uN c
 | .rangeFunc _ _ a b=>some (a,b)
 | _=>none
def wQ(lc:ju):Prop:=(prog.funcs[(226:Nat)]?.bind λfn=>fn.body.bind uN)=some (lc.a,lc.b)
abbrev C3(lc:ju)(ps:List ao)(k:Nat):List SO:=[Fx lc true,.cells [ak 14 ([]:List ao) ae],.cells [ab 0],.cells [ab 0],.cells [ak 14 ps ae],.cells [ab k]]
abbrev pR:Fm:=[(1000000,.ptr 0 0),(1000001,.ptr 1 0),(1000002,.ptr 2 0),(1000003,.ptr 3 0),(1000004,.ptr 4 0),(1000005,.ptr 5 0)]
def Q7:∀i,i<6->i∉([]:List Nat)->aJ pR (1000000+i)=.ptr i 0:=by
 rintro(_ | _ | _ | _ | _ | _ | i) h _
 all_goals first
  | rfl
  | (exfalso;omega)
def D6(c:List aU)(ev:List bC)(lc:ju)(hcd:wQ lc)(hln:lc.n=30)(hlp:lc.ps=#[19,20])(hc:mu c)(hlen:ev.length<20)(hkm:∀e∈ev,lK e):
 SC prog 312 [.a (.fn (.yield lc.id) [] []),.ip [ak 14 ev ar],.ip [ak 3 c aq]] (C3 lc [] 0) [] (λr S'=>r=.cA []/\((pY c 0 ev []).2.2=0/\(pY c 0 ev []).2.1 = -1/\S'=C3 lc (pY c 0 ev []).1 ev.length\/(pY c 0 ev []).2.2≠0/\(pY c 0 ev []).1=[]/\∃ps k,S'=[Fx lc false,.cells [ak 14 ([]:List ao) ae],.cells [ab (pY c 0 ev []).2.1],.cells [ab (pY c 0 ev []).2.2],.cells [ak 14 ps ae],.cells [ab k]])):=by
 refine SC.body (n:=33) dC func312 rfl rfl g9 (W:=pR) rfl ?_;have hk6:=λok=>yw 6 lc ok g9;have hk7:=λok=>yw 7 lc ok g9;have hk8:=λok=>yw 8 lc ok g9
 have hlen1:ev.length<=1000000:=by omega
 refine(zs) ?_;refine aF.r0 ii (by simp only[cN,bL,ak,aB,m7,m6,↓reduceIte,af,aj,ax,ad,al,an,au,bn,↓hk6,ak];first | done | rfl) ?_;refine(zs) ?_;refine aF.r0 ii (by simp only[cN,bL,ak,aB,m7,m6,↓reduceIte,af,aj,ax,ad,al,an,au,bn,↓hk6,ak];first | done | rfl) ?_;refine zA ((11,ab 0)::(0,.a (.fn (.yield lc.id) [] []))::(1,.ip [ak 14 ev ar])::(2,.ip [ak 3 c aq])::(4,.ptr 6 0)::(9,ak 14 ev ar)::(10,ab ev.length)::pR) [Fx lc true,.cells [ak 14 ([]:List ao) ae],.cells [ab 0],.cells [ab 0],.cells [ak 14 ([]:List ao) ae],.cells [ab 0],.cells [.a (.slice none 0 0 (some 0))]] zH ?_;refine aF.fg (Fg.Tp (S':=[Fx lc true,.cells [ak 14 ([]:List ao) ae],.cells [ab 0],.cells [ab 0],.cells [ak 14 ([]:List ao) ae],.cells [ab 0],.cells [ak 14 ([]:List ao) ae]]) ⟨.inr ⟨by simp,.inl rfl⟩,.inr ⟨by simp,.inl rfl⟩,.inr ⟨by simp,.inl rfl⟩,.inr ⟨by simp,.inl rfl⟩,.inr ⟨by simp,.inl rfl⟩,.inr ⟨by simp,.inl rfl⟩,.inr ⟨by simp,.inr ⟨_,_,rfl,rfl,.cons (.nil _) .nil⟩⟩,trivial⟩) ?_
 (try change aF _ _ _ _ _)
 refine(zs) ?_;refine Jg ev (λk (ps:List ao)=>(pY c 0 ev []=pY c k (ev.drop k) ps/\(∀p∈ps,fq p)/\ps.length<=k)) (λk ps=>(11,ab k)::(0,.a (.fn (.yield lc.id) [] []))::(1,.ip [ak 14 ev ar])::(2,.ip [ak 3 c aq])::(4,.ptr 6 0)::(9,ak 14 ev ar)::(10,ab ev.length)::pR) (λk ps=>C3 lc ps k++[.cells [ak 14 ps ae]]) ([]) zH (by exact⟨rfl,(λp hp=>by cases hp),ap _⟩) ?_;intro k ps hk hall;refine zT ev k ?_ ?_;rintro rfl;rotate_left;intro e hx hlt;rotate_left
 ·refine(zN) ?_;obtain⟨hr,_,_⟩:=hall;rw[List.drop_length] at hr;refine zA pR (C3 lc ps ev.length) zH ?_;refine aF.exit ?_
  (try simp only[eV,dh,cq,bP,if_true])
  exact Kw.of (rs:=[]) rfl rfl rfl ⟨rfl,.inl (by rw[hr];exact⟨rfl,rfl,rfl⟩)⟩ (ap _) Q7
 obtain⟨hr,hps,hpl⟩:=hall;rw[eW hx] at hr;have heo:=hkm e (aS hx);have hap:=zm c ps e hc i4 hps heo;obtain⟨q1,q2,q3,q4⟩:=ot (c:=c) hps heo;rw[pY] at hr;obtain⟨nx,er,hne⟩:∃nx er,aX c ps e=(nx,er):=⟨_,_,rfl⟩;rw[hne] at hap q1 q2 q3 q4 hr;simp only at q1 q2 q3 q4 hr;rw[dz] at hap
 refine(gz)<|(zs) ?_;refine aF.r0 ii (by simp only[cN,bL,ak,aB,m7,m6,↓reduceIte,af,aj,ax,ad,al,an,au,bn,↓hk7,hlt,aT (e:=14) (enc:=ar) gc hx,dz];first | done | rfl) ?_;refine zZ ((6,.ip (eA e))::(11,ab k)::(0,.a (.fn (.yield lc.id) [] []))::(1,.ip [ak 14 ev ar])::(2,.ip [ak 3 c aq])::(4,.ptr 6 0)::(9,ak 14 ev ar)::(10,ab ev.length)::pR) 7 rfl (gm @ak.eq_1) ?_
 (try change aF _ _ _ _ _)
 refine(zC)<|(zK hap (hfl:=.inr zr)) ?_;refine aK.r0 ii (by simp only[cN,bL,ak,aB,m7,m6,↓reduceIte,af,aj,ax,ad,al,an,au,bn,j6,↓hk7,↓hk8];first | done | rfl) ?_;refine zZ ((8,ab er)::(7,.ip [ak 14 nx ae])::(11,ab k)::(0,.a (.fn (.yield lc.id) [] []))::(1,.ip [ak 14 ev ar])::(2,.ip [ak 3 c aq])::(4,.ptr 6 0)::(9,ak 14 ev ar)::(10,ab ev.length)::pR) 8 rfl ⟨.inl rfl,.inr (.ptr rfl (cC.refl rfl) (a6 _)),zj⟩<|zA ((8,ab er)::(7,.ip [ak 14 nx ae])::(11,ab k)::(0,.a (.fn (.yield lc.id) [] []))::(1,.ip [ak 14 ev ar])::(2,.ip [ak 3 c aq])::(4,.ptr 6 0)::(9,ak 14 ev ar)::(10,ab ev.length)::pR) (C3 lc ps k++[.cells [ak 14 ps ae]]) zH<|(zC)<|oA ((22,.a (.fn (.yield lc.id) [] []))::(23,.ag [ak 14 nx ae])::(24,ab er)::(8,ab er)::(7,.ip [ak 14 nx ae])::(11,ab k)::(0,.a (.fn (.yield lc.id) [] []))::(1,.ip [ak 14 ev ar])::(2,.ip [ak 3 c aq])::(4,.ptr 6 0)::(9,ak 14 ev ar)::(10,ab ev.length)::pR) (C3 lc ps k++[.cells [ak 14 ps ae]]) zH ?_;refine aK.y (vs:=[.ag [ak 14 nx ae],ab er]) (oo:=0) ii rfl rfl ii rfl rfl rfl ii rfl (by rw[hlp];rfl) (by rw[hln];rfl) (by rw[hln];decide) (by rw[hlp,hln];rfl) λro'=>?_
 have hcd2:=hcd;unfold wQ at hcd2;rw[d7] at hcd2;have hcd3:=Option.some.inj (hcd2.symm.trans ii);obtain⟨ha,hbb⟩:=Prod.mk.inj hcd3;rw[ha,hlp,hln];change aF _ _ _ ⟨(20,ab er)::(19,.ag [ak 14 nx ae])::(4,.ptr 1 0)::(5,.ptr 2 0)::(6,.ptr 3 0)::(7,.ptr 4 0)::(8,.ptr 5 0)::(20000022,.a (.fn (.yield lc.id) [] []))::(20000023,.ag [ak 14 nx ae])::(20000024,ab er)::(20000008,ab er)::(20000007,.ip [ak 14 nx ae])::(20000011,ab k)::(20000000,.a (.fn (.yield lc.id) [] []))::(20000001,.ip [ak 14 ev ar])::(20000002,.ip [ak 3 c aq])::(20000004,.ptr 6 0)::(20000009,ak 14 ev ar)::(20000010,ab ev.length)::[(21000000,.ptr 0 0),(21000001,.ptr 1 0),(21000002,.ptr 2 0),(21000003,.ptr 3 0),(21000004,.ptr 4 0),(21000005,.ptr 5 0)],30,[Fx lc true,.cells [ak 14 ([]:List ao) ae],.cells [ab 0],.cells [ab 0],.cells [ak 14 ps ae],.cells [ab k],.cells [ak 14 ps ae]],[]⟩ _
 refine zA ((20,ab er)::(19,.ag [ak 14 nx ae])::(4,.ptr 1 0)::(5,.ptr 2 0)::(6,.ptr 3 0)::(7,.ptr 4 0)::(8,.ptr 5 0)::(20000008,ab er)::(20000007,.ip [ak 14 nx ae])::(20000011,ab k)::(20000000,.a (.fn (.yield lc.id) [] []))::(20000001,.ip [ak 14 ev ar])::(20000002,.ip [ak 3 c aq])::(20000004,.ptr 6 0)::(20000009,ak 14 ev ar)::(20000010,ab ev.length)::[(21000000,.ptr 0 0),(21000001,.ptr 1 0),(21000002,.ptr 2 0),(21000003,.ptr 3 0),(21000004,.ptr 4 0),(21000005,.ptr 5 0)]) [Fx lc true,.cells [ak 14 ([]:List ao) ae],.cells [ab 0],.cells [ab 0],.cells [ak 14 ps ae],.cells [ab k],.cells [ak 14 ps ae]] zH<|(zs) ?_;refine aF.r0 ii (by simp only[cN,bL,ak,aB,m7,m6,↓reduceIte,af,aj,ax,ad,al,an,au,bn,↓hk7];first | done | rfl) ?_;refine(zs) ?_;refine aF.r0 ii (by simp only[cN,bL,ak,aB,m7,m6,↓reduceIte,af,aj,ax,ad,al,an,au,bn,↓hk7];first | done | rfl) ?_;refine⟨rfl,0,none,[(4,.ptr 1 0),(5,.ptr 2 0),(6,.ptr 3 0),(7,.ptr 4 0),(8,.ptr 5 0)],rfl,?_⟩
 rw[hbb];change aF _ _ _ ⟨_,30,[.loop lc .busy none [(4,.ptr 1 0),(5,.ptr 2 0),(6,.ptr 3 0),(7,.ptr 4 0),(8,.ptr 5 0)],.cells [ak 14 ([]:List ao) ae],.cells [ab 0],.cells [ab 0],.cells [ak 14 ps ae],.cells [ab k],.cells [ak 14 ps ae],.cells [ak 14 nx ae]],[]⟩ _;refine(zB) ?_;by_cases herr:er=0
 ·rw[ut herr] at hr;subst herr
  refine(Ec)<|(zV)<|(aA (Ee (show -9223372036854775808<=(k:Int)+1/\(k:Int)+1<=9223372036854775807 from⟨by omega,by omega⟩))) ?_;refine⟨rfl,0,.busy,none,[(4,.ptr 1 0),(5,.ptr 2 0),(6,.ptr 3 0),(7,.ptr 4 0),(8,.ptr 5 0)],rfl,?_⟩
  simp only[xV,laid,ad,ay,↓reduceIte]
  refine oA ((25,ai true)::(8,ab 0)::(7,.ip [ak 14 nx ae])::(11,ab k)::(0,.a (.fn (.yield lc.id) [] []))::(1,.ip [ak 14 ev ar])::(2,.ip [ak 3 c aq])::(4,.ptr 6 0)::(9,ak 14 ev ar)::(10,ab ev.length)::pR) (C3 lc nx (k+1)++[.cells [ak 14 ps ae]]) (cm (na @An.eq_1 @Am.eq_1 @xX.eq_1 @xV.eq_1 @Fx.eq_1))<|(zR)<|(lf)<|(aA (zi hlt hlen1)) ?_;refine xu hlt (nx) zH (⟨hr,q1,by omega⟩)
 rw[v6 herr] at hr
 refine(aA (wd herr))<|(zY)<|zA ((10,ab er)::(4,.ptr 1 0)::(5,.ptr 2 0)::(6,.ptr 3 0)::(7,.ptr 4 0)::(8,.ptr 5 0)::(20000008,ab er)::(20000007,.ip [ak 14 nx ae])::(20000011,ab k)::(20000000,.a (.fn (.yield lc.id) [] []))::(20000001,.ip [ak 14 ev ar])::(20000002,.ip [ak 3 c aq])::(20000004,.ptr 6 0)::(20000009,ak 14 ev ar)::(20000010,ab ev.length)::[(21000000,.ptr 0 0),(21000001,.ptr 1 0),(21000002,.ptr 2 0),(21000003,.ptr 3 0),(21000004,.ptr 4 0),(21000005,.ptr 5 0)]) [.loop lc .busy none [(4,.ptr 1 0),(5,.ptr 2 0),(6,.ptr 3 0),(7,.ptr 4 0),(8,.ptr 5 0)],.cells [ak 14 ([]:List ao) ae],.cells [ab 0],.cells [ab 0],.cells [ak 14 ps ae],.cells [ab k],.cells [ak 14 ps ae]] zH ?_;refine aF.fg (Fg.Tp (S':=[.loop lc .busy none [(4,.ptr 1 0),(5,.ptr 2 0),(6,.ptr 3 0),(7,.ptr 4 0),(8,.ptr 5 0)],.cells [.any],.cells [.any],.cells [ab 0],.cells [ak 14 ps ae],.cells [ab k],.cells [ak 14 ps ae]]) ⟨.inr ⟨by simp,.inl rfl⟩,.inr ⟨by simp,.inr ⟨_,_,rfl,rfl,.cons (.any _) .nil⟩⟩,.inr ⟨by simp,.inr ⟨_,_,rfl,rfl,.cons (.any _) .nil⟩⟩,.inr ⟨by simp,.inl rfl⟩,.inr ⟨by simp,.inl rfl⟩,.inr ⟨by simp,.inl rfl⟩,.inr ⟨by simp,.inl rfl⟩,trivial⟩) ?_
 (try change aF _ _ _ _ _)
 (repeat refine aF.seq ?_)
 have hv0:∀(i:Nat) (v:SV),vo (λ_=>False) i v=.any:=λi v=>mY λh=>h;have hv5:∀(i:Nat),i<5->∀v:SV,vo (λj=>j<5) i v=v:=λi h v=>cJ h;refine aF.za 5 8 (λL=>⟨(23,vo L 0 (.ag [aR]))::(24,vo L 1 (ab k))::(25,vo L 2 (ab er))::(10,ab er)::(4,.ptr 1 0)::(5,.ptr 2 0)::(6,.ptr 3 0)::(7,.ptr 4 0)::(8,.ptr 5 0)::(20000008,ab er)::(20000007,.ip [ak 14 nx ae])::(20000011,ab k)::(20000000,.a (.fn (.yield lc.id) [] []))::(20000001,.ip [ak 14 ev ar])::(20000002,.ip [ak 3 c aq])::(20000004,.ptr 6 0)::(20000009,ak 14 ev ar)::(20000010,ab ev.length)::[(21000000,.ptr 0 0),(21000001,.ptr 1 0),(21000002,.ptr 2 0),(21000003,.ptr 3 0),(21000004,.ptr 4 0),(21000005,.ptr 5 0)],30,[.loop lc .busy none [(4,.ptr 1 0),(5,.ptr 2 0),(6,.ptr 3 0),(7,.ptr 4 0),(8,.ptr 5 0)],.cells [vo L 3 aR],.cells [vo L 4 (ab k)],.cells [ab 0],.cells [ak 14 ps ae],.cells [ab k],.cells [ak 14 ps ae]],[]⟩) rfl zW ii g9 zW (cm hv0) (λL=>rfl) ?_ ?_
 ·rintro L i o him hC hr
  rcases i with _ | _ | _ | _ | _ | i
  rotate_right
  ·exact un him i4
  ·cases hr.jr;refine(zR) ?_;exact(cm @bz)
  ·cases hr.jr;refine(zR) ?_;exact(cm @bz)
  ·cases hr.jr;refine(zR) ?_;exact(cm @bz)
  ·cases hr.jr;have d0:L 0:=hr.dep ⟨0,.data⟩ ge rfl;refine(cP (iK d0)) ?_;exact(cm (bx @bz (iK d0)))
  ·cases hr.jr;have d1:L 1:=hr.dep ⟨1,.data⟩ ge rfl;refine(cP (iK d1)) ?_;exact(cm (bx @bz (iK d1)))
 change aK _ _ _ _ _ _
 refine oA ((25,ab er)::(6,.ptr 3 0)::(4,.ptr 1 0)::(5,.ptr 2 0)::(7,.ptr 4 0)::(8,.ptr 5 0)::(20000008,ab er)::(20000007,.ip [ak 14 nx ae])::(20000011,ab k)::(20000000,.a (.fn (.yield lc.id) [] []))::(20000001,.ip [ak 14 ev ar])::(20000002,.ip [ak 3 c aq])::(20000004,.ptr 6 0)::(20000009,ak 14 ev ar)::(20000010,ab ev.length)::[(21000000,.ptr 0 0),(21000001,.ptr 1 0),(21000002,.ptr 2 0),(21000003,.ptr 3 0),(21000004,.ptr 4 0),(21000005,.ptr 5 0)]) [.loop lc .busy none [(4,.ptr 1 0),(5,.ptr 2 0),(6,.ptr 3 0),(7,.ptr 4 0),(8,.ptr 5 0)],.cells [aR],.cells [ab k],.cells [ab 0],.cells [ak 14 ps ae],.cells [ab k],.cells [ak 14 ps ae]] (cm (cO (hv5 2 g9) (hv5 3 g9) (hv5 4 g9)))<|(zR) ?_;refine aF.ret ?_
 (try simp only[eV,dh,cq,bP])
 refine⟨trivial,0,.busy,none,[(4,.ptr 1 0),(5,.ptr 2 0),(6,.ptr 3 0),(7,.ptr 4 0),(8,.ptr 5 0)],rfl,?_⟩;simp only[xV,laid,ad,ay,↓reduceIte]
 refine oA ((25,ai false)::(8,ab er)::(7,.ip [ak 14 nx ae])::(11,ab k)::(0,.a (.fn (.yield lc.id) [] []))::(1,.ip [ak 14 ev ar])::(2,.ip [ak 3 c aq])::(4,.ptr 6 0)::(9,ak 14 ev ar)::(10,ab ev.length)::pR) [Fx lc false,.cells [aR],.cells [ab k],.cells [ab er],.cells [ak 14 ps ae],.cells [ab k],.cells [ak 14 ps ae]] (cm (na @An.eq_1 @Am.eq_1 @xX.eq_1 @xV.eq_1 @Fx.eq_1))<|(zR)<|(zY)<|zA pR [Fx lc false,.cells [aR],.cells [ab k],.cells [ab er],.cells [ak 14 ps ae],.cells [ab k]] zH ?_;refine aF.fg (Fg.Tp (S':=[Fx lc false,.cells [ak 14 ([]:List ao) ae],.cells [ab k],.cells [ab er],.cells [ak 14 ps ae],.cells [ab k]]) ⟨.inr ⟨by simp,.inl rfl⟩,.inr ⟨by simp,.inr ⟨_,_,rfl,rfl,.cons (.nil _) .nil⟩⟩,.inr ⟨by simp,.inl rfl⟩,.inr ⟨by simp,.inl rfl⟩,.inr ⟨by simp,.inl rfl⟩,.inr ⟨by simp,.inl rfl⟩,trivial⟩) ?_;refine aF.ret ?_
 (try simp only[eV,dh,cq,bP])
 exact Kw.of (rs:=[]) rfl rfl rfl ⟨rfl,.inr (by rw[hr];exact⟨herr,rfl,ps,k,rfl⟩)⟩ (ap _) Q7
def D7(c:List aU)(ev:List bC):PC prog 281 [.ag [ak 3 c aq],ak 14 ev ar] (·=.fn 312 [] [.ip [ak 14 ev ar],.ip [ak 3 c aq]]):=by
 refine pB 6 Tryz.func281 ?_;refine(zV) ?_;exact zZ [(2,.ip [ak 3 c aq]),(3,.ptr 1 0)] 0 rfl (gm @ak.eq_1)<|zZ [(2,.ip [ak 3 c aq]),(3,.ip [ak 14 ev ar])] 1 rfl (gm @ak.eq_1)<|zA [(2,.ip [ak 3 c aq]),(3,.ip [ak 14 ev ar])] [] zH<|(zV)<|zo [.tmp 4]
def qF(r:List ao×Int×Int):SV:=.cA [.ag [ak 14 r.1 ae],ab r.2.1,ab r.2.2]
def AI(c:List aU)(l:List bC):List ao×Int×Int:=if qe c=true then pY c 0 (eJ l) [] else ([],-1,1)
def O6.T0{P:Program}{fn:Func}{Q:SV->Prop}{e:Ex}{st:ep}(h:A8 P fn Q e st):O6 P fn Q e st:=by
 obtain⟨he,hd,h⟩:=h;refine⟨he,?_⟩;rw[hd];exact h
def L0(c:List aU)(l:List bC)(hc:mu c)(hlen:l.length<20)(hl:∀e∈l,lK e):PC prog 226 [.ag [ak 3 c aq],ak 14 l ar] (·=qF (AI c l)):=by
 refine PC.sN (n:=30) dC d7 rfl rfl g9 ?_;refine(zV) ?_;refine zZ [(1,ak 14 l ar),(2,.ip [ak 3 c aq]),(4,.ptr 1 0),(5,.ptr 2 0),(6,.ptr 3 0)] 0 rfl (gm @ak.eq_1)<|zA [(1,ak 14 l ar),(2,.ip [ak 3 c aq]),(4,.ptr 1 0),(5,.ptr 2 0),(6,.ptr 3 0)] [.gone,.cells [.a (.slice none 0 0 (some 0))],.cells [ab 0],.cells [ab 0]] zH ?_;refine aF.fg (Fg.rn (f':=[(1,ak 14 l ar),(2,.ip [ak 3 c aq]),(4,.ptr 0 0),(5,.ptr 1 0),(6,.ptr 2 0)]) (n:=30) (S':=[.cells [.a (.slice none 0 0 (some 0))],.cells [ab 0],.cells [ab 0]]) [1,2,3] g9 rfl (by (simp only[si,gx,bL,ak,bq (aD bY l)])<;>(repeat' apply ce)<;>first | trivial | exact .inl rfl | exact .inr rfl | exact .inr trivial | exact .inl trivial) (by (simp only[cN,gx,bL,ak,bq (aD bY l)])<;>(repeat' apply ce)<;>first | rfl | trivial)) ?_
 (try change aF _ _ _ _ _)
 unfold AI;cases h1:qe c
 ·have hv:=nI c hc;rw[h1] at hv
  refine(zC)<|(zK hv)<|(zR)<|(cL) ?_;refine aF.ret ?_
  (try simp only[eV,dh,cq,bP])
  refine O6.T0 ?_;exact zO [.cell 4 46,.cell 5 3,.cell 6 47] (r:=.cA [.ag [.sl 0 14 []],ab (-1),ab 1]) (hw:=zv)
 have hv:=nI c hc;rw[h1] at hv
 refine(zC)<|(zK hv)<|(zR)<|(lf)<|(zV)<|zA [(1,ak 14 l ar),(2,.ip [ak 3 c aq]),(4,.ptr 0 0),(5,.ptr 1 0),(6,.ptr 2 0),(7,.ptr 3 0),(8,.ptr 4 0)] [.cells [.a (.slice none 0 0 (some 0))],.cells [ab 0],.cells [ab 0],.cells [.a (.slice none 0 0 (some 0))],.cells [ab 0]] zH ?_;refine aF.fg (Fg.Tp (S':=[.cells [ak 14 ([]:List ao) ae],.cells [ab 0],.cells [ab 0],.cells [ak 14 ([]:List ao) ae],.cells [ab 0]]) ⟨.inr ⟨by simp,.inr ⟨_,_,rfl,rfl,.cons (.nil _) .nil⟩⟩,.inr ⟨by simp,.inl rfl⟩,.inr ⟨by simp,.inl rfl⟩,.inr ⟨by simp,.inr ⟨_,_,rfl,rfl,.cons (.nil _) .nil⟩⟩,.inr ⟨by simp,.inl rfl⟩,trivial⟩) ?_
 (try change aF _ _ _ _ _)
 have hkm:∀e∈eJ l,lK e:=λe he=>hl e ((uT _ _).mem_iff.1 he)
 have hsl:(eJ l).length<20:=by rw[eJ,ym];exact hlen
 have hso:=vZ l hlen;generalize eJ l=ev at hkm hsl hso ⊢;rw[ut rfl];have hv0:∀(i:Nat) (v:SV),vo (λ_=>False) i v=.any:=λi v=>mY λh=>h;have hv3:∀(i:Nat),i<3->∀v:SV,vo (λj=>j<3) i v=v:=λi h v=>cJ h
 (repeat refine aF.seq ?_)
 refine aF.za 3 6 (λL=>⟨(15,vo L 0 (.ag [ak 3 c aq]))::(16,vo L 1 (ak 14 l ar))::(17,vo L 2 (ak 14 ev ar))::(1,ak 14 l ar)::(2,.ip [ak 3 c aq])::[(4,.ptr 0 0),(5,.ptr 1 0),(6,.ptr 2 0),(7,.ptr 3 0),(8,.ptr 4 0)],30,[.cells [ak 14 ([]:List ao) ae],.cells [ab 0],.cells [ab 0],.cells [ak 14 ([]:List ao) ae],.cells [ab 0]],[]⟩) rfl zW ii g9 zW (cm hv0) (λL=>rfl) ?_ ?_
 ·rintro L i o him hC hr
  rcases i with _ | _ | _ | i
  rotate_right
  ·exact un him i4
  ·cases hr.jr;refine(zR) ?_;exact(cm @bz)
  ·cases hr.jr;refine(zR) ?_;exact(cm @bz)
  ·cases hr.jr;have d1:L 1:=hr.dep ⟨1,.data⟩ ge rfl;refine(zK hso (hc:=Ef (iK d1)) (hfl:=.inr zr)) ?_;refine .nil ?_;exact(cm (bx @bz (iK d1)))
 change aK _ _ _ _ _ _
 refine oA ((15,.ag [ak 3 c aq])::(17,ak 14 ev ar)::[(4,.ptr 0 0),(5,.ptr 1 0),(6,.ptr 2 0),(7,.ptr 3 0),(8,.ptr 4 0)]) [.cells [ak 14 ([]:List ao) ae],.cells [ab 0],.cells [ab 0],.cells [ak 14 ([]:List ao) ae],.cells [ab 0]] (cm (bx (hv3 0 g9) (hv3 2 g9)))<|(zK (D7 c ev) (hfl:=.inr zr)) ?_;refine .nil ?_
 change aF _ _ _ _ _;refine zA ((18,.fn 312 [] [.ip [ak 14 ev ar],.ip [ak 3 c aq]])::[(4,.ptr 0 0),(5,.ptr 1 0),(6,.ptr 2 0),(7,.ptr 3 0),(8,.ptr 4 0)]) [.cells [ak 14 ([]:List ao) ae],.cells [ab 0],.cells [ab 0],.cells [ak 14 ([]:List ao) ae],.cells [ab 0]] zH ?_;refine aF.block ?_;refine aF.tH (f1:=[(4,.ptr 0 0),(5,.ptr 1 0),(6,.ptr 2 0),(7,.ptr 3 0),(8,.ptr 4 0)]) dC ii func312 ii Uf ?_;rintro N lc hid hn hps ha hb
 have hcd:wQ lc:=by
  unfold wQ;rw[d7,ha,hb];rfl
 have hsc:=D6 c ev lc hcd hn hps hc hsl hkm;generalize pY c 0 ev []=q at hsc ⊢;refine⟨[6,0,1,2,3,4],_,_,_,_,hsc,?_,rfl,by decide,?_,?_⟩
 ·simp only[gx,bL,cN,ak,bZ,aO,↓reduceIte,af,aj,ay,hid,List.map,e4,cons_append,nil_append]
  try rfl
 ·rintro(_ | _ | _ | _ | _ | _ | i) so h
  ·cases h;exact⟨6,rfl,by rfl⟩
  ·cases h;exact⟨0,rfl,by rfl⟩
  ·cases h;exact⟨1,rfl,by rfl⟩
  ·cases h;exact⟨2,rfl,by rfl⟩
  ·cases h;exact⟨3,rfl,by rfl⟩
  ·cases h;exact⟨4,rfl,by rfl⟩
  ·cases h
 rintro r S' ⟨rfl,hS'⟩;have hbq:∀(B:Nat) (l:List ao),dF B (ak 14 l ae)=true:=λB l=>gi rfl
 rcases hS' with⟨hq0,hq1,rfl⟩ | ⟨hq0,hq1,ps,k,rfl⟩
 ·refine⟨by simp only[C3,Fx,BV,gx,bL,ak,aj,al,decide_true,↓hbq];first | done | rfl,6,.ready,none,[(4,.ptr 0 0),(5,.ptr 1 0),(6,.ptr 2 0),(7,.ptr 3 0),(8,.ptr 4 0)],by rfl,by decide,by rfl,?_⟩
  have hS2:(dN (dO (dO [.cells [ak 14 ([]:List ao) ae],.cells [ab 0],.cells [ab 0],.cells [ak 14 ([]:List ao) ae],.cells [ab 0]] (SO.mf N)) (SO.loop lc .ready none [(4,.ptr 0 0),(5,.ptr 1 0),(6,.ptr 2 0),(7,.ptr 3 0),(8,.ptr 4 0)])) [6,0,1,2,3,4] [] (C3 lc q.1 ev.length)).set 6 .gone=[.cells [ak 14 ([]:List ao) ae],.cells [ab 0],.cells [ab 0],.cells [ak 14 q.1 ae],.cells [ab ev.length],.mf N,.gone]:=by
   have hrq:∀(r:Nat->Nat),mM r (q.1.flatMap ae)=q.1.flatMap ae:=λr=>bq (aD dA q.1);simp only[dN,dO,cy,di,fR,gw,i7,i5,List.map,ac,li];rfl
  rw[hS2];change aF _ _ _ ⟨[(4,.ptr 0 0),(5,.ptr 1 0),(6,.ptr 2 0),(7,.ptr 3 0),(8,.ptr 4 0)],30,_,[{ fn:=none,Ew:=N,args:=[],cap:=[] }]⟩ _;refine(zV) ?_;refine aF.ret ?_
  (try simp only[eV,dh,cq,bP])
  exact⟨rfl,[(4,.ptr 0 0),(5,.ptr 1 0),(6,.ptr 2 0)],⟨rfl,rfl,rfl,trivial⟩,rfl,.inl ⟨rfl,5,rfl,[.ag [ak 14 q.1 ae],ab (-1),ab 0],.cA [.ag [ak 14 q.1 ae],ab (-1),ab 0],by rfl,.cA (.cons (.ag zr) (.cons (.a _) (.cons (.a _) .nil))),by rw[qF,hq0,hq1]⟩⟩
 ·have hS2:(dN (dO (dO [.cells [ak 14 ([]:List ao) ae],.cells [ab 0],.cells [ab 0],.cells [ak 14 ([]:List ao) ae],.cells [ab 0]] (SO.mf N)) (SO.loop lc .ready none [(4,.ptr 0 0),(5,.ptr 1 0),(6,.ptr 2 0),(7,.ptr 3 0),(8,.ptr 4 0)])) [6,0,1,2,3,4] [] [Fx lc false,.cells [ak 14 ([]:List ao) ae],.cells [ab q.2.1],.cells [ab q.2.2],.cells [ak 14 ps ae],.cells [ab k]]).set 6 .gone=[.cells [ak 14 ([]:List ao) ae],.cells [ab q.2.1],.cells [ab q.2.2],.cells [ak 14 ps ae],.cells [ab k],.mf N,.gone]:=by
   simp only[dN,dO,cy,di,fR,gw,i7,i5,List.map,ac,li];rfl
  refine⟨by simp only[Fx,BV,gx,bL,ak,aj,al,decide_true,↓hbq];first | done | rfl,6,.done,some .ret,[(4,.ptr 0 0),(5,.ptr 1 0),(6,.ptr 2 0),(7,.ptr 3 0),(8,.ptr 4 0)],by rfl,by decide,by rfl,?_⟩;rw[hS2];change aF _ _ _ ⟨[(4,.ptr 0 0),(5,.ptr 1 0),(6,.ptr 2 0),(7,.ptr 3 0),(8,.ptr 4 0)],30,_,[{ fn:=none,Ew:=N,args:=[],cap:=[] }]⟩ _;refine aF.ret ?_
  (try simp only[eV,dh,cq,bP])
  exact⟨rfl,[(4,.ptr 0 0),(5,.ptr 1 0),(6,.ptr 2 0)],⟨rfl,rfl,rfl,trivial⟩,rfl,.inl ⟨rfl,5,rfl,[.ag [ak 14 ([]:List ao) ae],ab q.2.1,ab q.2.2],.cA [.ag [ak 14 ([]:List ao) ae],ab q.2.1,ab q.2.2],by rfl,.cA (.cons (.ag zr) (.cons (.a _) (.cons (.a _) .nil))),by rw[qF,hq1]⟩⟩
def vS(e:bC)(day:Int):PC prog 227 [.ag (ar e),.ip [ab day]] (·=ai (fe day e)):=by
 refine pB 8 Tryz.func227 ?_;exact(aA @dz)<|(zV)<|zo [.tmp 3]
def mL(a b:Nat)(L:Nat->Prop):Nat->Prop:=λ_=>L a/\¬L b
variable{L:Nat->Prop}
def pE{a b i:Nat}(ha:a≠i)(hb:b≠i):mL a b (λj=>L j\/j=i)=mL a b L:=by
 funext x;unfold mL;simp[ha,hb]
def Q4{a b:Nat}(h1:¬L b)(hab:b≠a):mL a b (λj=>L j\/j=a) 0:=⟨.inr rfl,λh=>h.elim h1 hab⟩
def Nz{a b:Nat}:¬mL a b (λj=>L j\/j=b) 0:=λh=>h.2 (.inr rfl)
def PS{a b:Nat}(h:¬L a):¬mL a b L 0:=λk=>h k.1
def OA(c:List aU)(l:List bC)(day:Int)(hc:mu c)(hlen:l.length<20)(hl:∀e∈l,lK e):PC prog 145 [.ag [ak 3 c aq],ak 14 l ar,ab day] (·=qF (AI c (dV (fe day) l))):=by
 refine pB 18 Tryz.func145 ?_;refine(zV) ?_;refine zZ [(1,ak 14 l ar),(3,.ip [ak 3 c aq]),(5,.ptr 1 0),(6,.ptr 2 0)] 0 rfl (gm @ak.eq_1) ?_;refine aF.fg (Fg.rn (f':=(5,.ptr 0 0)::(6,.ptr 1 0)::(1,ak 14 l ar)::[(3,.ip [ak 3 c aq])]) (n:=18) (S':=[.cells [ab day],.cells [.a (.slice none 0 0 (some 0))]]) [1,2] g9 rfl (by (simp only[si,gx,bL,ak,bq (aD bY l)])<;>(repeat' apply ce)<;>first | trivial | exact .inl rfl | exact .inr rfl | exact .inr trivial | exact .inl trivial) (by (simp only[cN,gx,bL,ak,bq (aD bY l)])<;>(repeat' apply ce)<;>first | rfl | trivial)) ?_
 (try change aF _ _ _ _ _)
 obtain⟨kp,hkp⟩:∃kp,kp=dV (fe day) l:=⟨_,rfl⟩
 have hkl:kp.length<=l.length:=by rw[hkp];exact Ff _ _
 have hkm:∀e∈kp,lK e:=λe he=>hl e (by rw[hkp] at he;exact(mem_filter.1 he).1);have hrun:=L0 c kp hc i4 hkm;rw[<-hkp];generalize AI c kp=q at hrun ⊢;have hv0:∀(i:Nat) (v:SV),vo (λ_=>False) i v=.any:=λi v=>mY λh=>h;have hv9:∀(i:Nat),i<9->∀v:SV,vo (λj=>j<9) i v=v:=λi h v=>cJ h;have hnq:∀(o:Nat) (L:Nat->Prop) (i:Nat),Ev.names o (vo L i (qF q))=false:=λo L i=>de o L i _ rfl
 (repeat refine aF.seq ?_)
 by_cases hne:l=[]
 ·subst hne;have hk0:kp=[]:=hkp;subst hk0;refine aF.za 9 14 (λL=>⟨(9,vo L 0 (.ag [ak 3 c aq]))::(10,vo L 1 (ak 14 ([]:List bC) ar))::(11,vo L 2 (.e0 14))::(12,vo L 3 (.fn 227 [] [.ptr 0 0]))::(13,vo L 4 (.e0 14))::(14,vo L 5 (qF q))::(15,vo L 6 (.ag [ak 14 q.1 ae]))::(16,vo L 7 (ab q.2.1))::(17,vo L 8 (ab q.2.2))::(5,.ptr 0 0)::(6,.ptr 1 0)::(1,ak 14 ([]:List bC) ar)::[(3,.ip [ak 3 c aq])],18,[.cells [ab day],.cells [.a (.slice none 0 0 (some 0))]],[]⟩) rfl zW ii g9 zW (cm hv0) (λL=>rfl) ?_ ?_
  ·rintro L i o him hC hr
   rcases i with _ | _ | _ | _ | _ | _ | _ | _ | _ | i
   rotate_right
   ·exact un him i4
   ·cases hr.jr;refine(zR) ?_;exact(cm @bz)
   ·cases hr.jr;refine(zR) ?_;exact(cm @bz)
   ·cases hr.jr;have d1:L 1:=hr.dep ⟨1,.data⟩ ge rfl;refine zS [] @de rV ?_ (hc:=Ef (iK d1));refine .nil ?_;exact(cm (bx @bz (iK d1)))
   ·cases hr.jr;refine(zR) ?_;exact(cm @bz)
   ·cases hr.jr;have d2:L 2:=hr.dep ⟨2,.data⟩ ge rfl;have d3:L 3:=hr.dep ⟨3,.data⟩ ge rfl;refine zS [0] @de (zx 227 [ab day] rfl (fe day) (λx=>vS x day)) ?_ (hc:=Ef (bx (iK d2) (iK d3)));refine .nil ?_;exact(cm (cO @bz (iK d2) (iK d3)))
   ·cases hr.jr;have d0:L 0:=hr.dep ⟨0,.data⟩ ge rfl;have d4:L 4:=hr.dep ⟨4,.data⟩ ge rfl;refine(zK hrun (hc:=Ef (bx (iK d0) (iK d4))) (hwk:=.cons (.ag zr) (.cons (.Ss 14) .nil)) (hfl:=.inr (.cons (.ag zr) (.cons (.Ss 14) .nil)))) ?_;refine .nil ?_;exact(cm (cO @bz (iK d0) (iK d4)))
   ·cases hr.jr;have d5:L 5:=hr.dep ⟨5,.data⟩ ge rfl;refine(cP (bx (iK d5) @qF.eq_1)) ?_;exact(cm (bx @bz (iK d5)))
   ·cases hr.jr;have d5:L 5:=hr.dep ⟨5,.data⟩ ge rfl;refine(cP (bx (iK d5) @qF.eq_1)) ?_;exact(cm (bx @bz (iK d5)))
   ·cases hr.jr;have d5:L 5:=hr.dep ⟨5,.data⟩ ge rfl;refine(cP (bx (iK d5) @qF.eq_1)) ?_;exact(cm (bx @bz (iK d5)))
  ·change aK _ _ _ _ _ _
   refine oA [(15,.ag [ak 14 q.1 ae]),(16,ab q.2.1),(17,ab q.2.2),(6,.ptr 1 0)] [.cells [ab day],.cells [.a (.slice none 0 0 (some 0))]] (cm (cO (hv9 6 g9) (hv9 7 g9) (hv9 8 g9)))<|(zR) ?_
   change aK _ _ _ _ _ _;refine(zR) ?_;change aK _ _ _ _ _ _
   refine(zR)<|(zE) ?_;exact zO [.cell 6 46,.tmp 7,.tmp 8] (r:=.cA [.ag [ak 14 q.1 ae],ab q.2.1,ab q.2.2]) (hw:=zv)
 ·have hne0:¬l.length=0:=λh=>hne (t8 h);have hrq:∀(r:Nat->Nat) (q:List bC),mM r (q.flatMap ar)=q.flatMap ar:=λr q=>bq (aD bY q);have hbq:∀(B:Nat) (q:List bC),iG B (q.flatMap ar)=true:=λB q=>bQ (aD bY q);have hkq:=bF bY;have hcl:=rW l i4 hne;have hdel:=zy 227 [ab day] rfl (fe day) (λx=>vS x day) l i4;rw[<-hkp] at hdel;obtain⟨w,hw⟩:∃w,w=kp++List.replicate (l.length-kp.length) bC.zero:=⟨_,rfl⟩
  have hqt:(w.flatMap ar).take (kp.length*14)=kp.flatMap ar:=by
   rw[jf cK,hw,List.take_append_of_le_length (ap _),b8 (ap _)]
  have hql:(w.flatMap ar).length=l.length*14:=by rw[bg cK,hw,li,List.length_replicate];congr 1;omega
  rw[<-hw] at hdel;have hm0:∀v:SV,vo (mL 2 4 λ_=>False) 0 v=.any:=λv=>mY λh=>h.1;have hw0:∀o:SO,wo (mL 2 4 λ_=>False) 0 o=.gone:=λo=>gg λh=>h.1;have hw9:∀o:SO,wo (mL 2 4 λj=>j<9) 0 o=.gone:=λo=>gg λh=>h.2 g9;refine aF.za 9 14 (λL=>⟨(9,vo L 0 (.ag [ak 3 c aq]))::(10,vo L 1 (ak 14 l ar))::(11,vo (mL 2 4 L) 0 (.buf 3 l.length 14 none))::(12,vo L 3 (.fn 227 [] [.ptr 0 0]))::(13,vo L 4 (ak 14 kp ar))::(14,vo L 5 (qF q))::(15,vo L 6 (.ag [ak 14 q.1 ae]))::(16,vo L 7 (ab q.2.1))::(17,vo L 8 (ab q.2.2))::(5,.ptr 0 0)::(6,.ptr 1 0)::(1,ak 14 l ar)::[(3,.ip [ak 3 c aq])],18,[.cells [ab day],.cells [.a (.slice none 0 0 (some 0))],.gone,wo (mL 2 4 L) 0 (.cells (l.flatMap ar))],[]⟩) rfl zW ii g9 zW (cm (cO hv0 hm0 hw0)) (λL=>rfl) ?_ ?_
  ·rintro L i o him hC hr
   rcases i with _ | _ | _ | _ | _ | _ | _ | _ | _ | i
   rotate_right
   ·exact un him i4
   ·cases hr.jr;refine(zR) ?_;exact(cm (bx @bz (pE (a:=2) (b:=4) (i:=0) (L:=L) g9 g9)))
   ·cases hr.jr;refine(zR) ?_;exact(cm (bx @bz (pE (a:=2) (b:=4) (i:=1) (L:=L) g9 g9)))
   ·cases hr.jr;have d1:L 1:=hr.dep ⟨1,.data⟩ ge rfl;have n2:¬L 2:=hr.new;have n4:¬L 4:=λh=>n2 (hC 4 _ rfl h ⟨2,.data⟩ ge rfl);refine oA ((9,vo L 0 (.ag [ak 3 c aq]))::(10,ak 14 l ar)::(12,vo L 3 (.fn 227 [] [.ptr 0 0]))::(13,vo L 4 (ak 14 kp ar))::(14,vo L 5 (qF q))::(15,vo L 6 (.ag [ak 14 q.1 ae]))::(16,vo L 7 (ab q.2.1))::(17,vo L 8 (ab q.2.2))::(5,.ptr 0 0)::(6,.ptr 1 0)::(1,ak 14 l ar)::[(3,.ip [ak 3 c aq])]) [.cells [ab day],.cells [.a (.slice none 0 0 (some 0))]] (cm (bx (iK d1) (UO (PS (b:=4) n2)))) ?_;refine zS [] (gr @de hrq hbq hkq) hcl ?_;refine .nil ?_;exact(cm (na hnq @bz (iK d1) (iK (show mL 2 4 (λj=>L j\/j=0+1+1) 0 from Q4 n4 g9)) (UP (show mL 2 4 (λj=>L j\/j=0+1+1) 0 from Q4 n4 g9))))
   ·cases hr.jr;refine(zR) ?_;exact(cm (bx @bz (pE (a:=2) (b:=4) (i:=3) (L:=L) g9 g9)))
   ·cases hr.jr;have d2:L 2:=hr.dep ⟨2,.data⟩ ge rfl;have d3:L 3:=hr.dep ⟨3,.data⟩ ge rfl;have n4:¬L 4:=hr.new;refine oA ((9,vo L 0 (.ag [ak 3 c aq]))::(10,vo L 1 (ak 14 l ar))::(11,.buf 3 l.length 14 none)::(12,.fn 227 [] [.ptr 0 0])::(14,vo L 5 (qF q))::(15,vo L 6 (.ag [ak 14 q.1 ae]))::(16,vo L 7 (ab q.2.1))::(17,vo L 8 (ab q.2.2))::(5,.ptr 0 0)::(6,.ptr 1 0)::(1,ak 14 l ar)::[(3,.ip [ak 3 c aq])]) [.cells [ab day],.cells [.a (.slice none 0 0 (some 0))],.gone,.cells (l.flatMap ar)] (cm (cO (iK d3) (iK (show mL 2 4 L 0 from⟨d2,n4⟩)) (UP (show mL 2 4 L 0 from⟨d2,n4⟩)))) ?_;refine zS [3,0] (na @de @yR hrq hbq hkq) hdel ?_;refine .nil ?_;refine Fg.trans (Fg.freeze (f':=(13,ak 14 kp ar)::(9,vo L 0 (.ag [ak 3 c aq]))::(10,vo L 1 (ak 14 l ar))::(12,.fn 227 [] [.ptr 0 0])::(14,vo L 5 (qF q))::(15,vo L 6 (.ag [ak 14 q.1 ae]))::(16,vo L 7 (ab q.2.1))::(17,vo L 8 (ab q.2.2))::(5,.ptr 0 0)::(6,.ptr 1 0)::(1,ak 14 l ar)::[(3,.ip [ak 3 c aq])]) 3 rfl gt ⟨.inr (.buf rfl (by rw[hqt];exact cC.refl (aD bY _)) (by rw[hql];exact Nat.mul_le_mul_right 14 hkl)),zj⟩) ?_;exact(cm (gr @bz (iK d3) (Vc (show ¬mL 2 4 (λj=>L j\/j=0+1+1+1+1) 0 from Nz)) (UO (show ¬mL 2 4 (λj=>L j\/j=0+1+1+1+1) 0 from Nz))))
   ·cases hr.jr;have d0:L 0:=hr.dep ⟨0,.data⟩ ge rfl;have d4:L 4:=hr.dep ⟨4,.data⟩ ge rfl;refine(zK hrun (hc:=Ef (bx (iK d0) (iK d4))) (hfl:=.inr zr)) ?_;refine .nil ?_;exact(cm (gr @bz (pE (a:=2) (b:=4) (i:=5) (L:=L) g9 g9) (iK d0) (iK d4)))
   ·cases hr.jr;have d5:L 5:=hr.dep ⟨5,.data⟩ ge rfl;refine(cP (bx (iK d5) @qF.eq_1)) ?_;exact(cm (cO @bz (pE (a:=2) (b:=4) (i:=6) (L:=L) g9 g9) (iK d5)))
   ·cases hr.jr;have d5:L 5:=hr.dep ⟨5,.data⟩ ge rfl;refine(cP (bx (iK d5) @qF.eq_1)) ?_;exact(cm (cO @bz (pE (a:=2) (b:=4) (i:=7) (L:=L) g9 g9) (iK d5)))
   ·cases hr.jr;have d5:L 5:=hr.dep ⟨5,.data⟩ ge rfl;refine(cP (bx (iK d5) @qF.eq_1)) ?_;exact(cm (cO @bz (pE (a:=2) (b:=4) (i:=8) (L:=L) g9 g9) (iK d5)))
  ·change aK _ _ _ _ _ _
   refine oA [(15,.ag [ak 14 q.1 ae]),(16,ab q.2.1),(17,ab q.2.2),(6,.ptr 1 0)] [.cells [ab day],.cells [.a (.slice none 0 0 (some 0))]] (cm (gr hw9 (hv9 6 g9) (hv9 7 g9) (hv9 8 g9)))<|(zR) ?_
   change aK _ _ _ _ _ _;refine(zR) ?_;change aK _ _ _ _ _ _
   refine(zR)<|(zE) ?_;exact zO [.cell 6 46,.tmp 7,.tmp 8] (r:=.cA [.ag [ak 14 q.1 ae],ab q.2.1,ab q.2.2]) (hw:=zv)
structure kK where
 part:List Nat
 eN:List Nat
 day:Int
 deriving DecidableEq
def kK.av(d:kK):List AV:=[.str d.part,.str d.eN,.int .i64 d.day]
def nN(d:kK):AV:=.agg d.av
def kK.eq(a b:kK):fJ eC a.av b.av=decide (a=b):=by
 obtain⟨a1,a2,a3⟩:=a;obtain⟨b1,b2,b3⟩:=b;simp only[kK.av,fJ,eC,Ay,sf,lq,cn,fa,kK.mk.injEq,em]
def LR:Keys prog 137 nN:=
 uV (ks:=[.s,.s,.i .i64]) zW (by simp only[aB,m6]) (λ_=>rfl) kK.eq λ_=>rfl
def GL{S:List SO}{o:Nat}{l:List (kK×Bool)}(a b:List Nat)(n:Int)(u:Bool)(hS:S[o]?=some (bH nN ai l)):ij prog S 134 (.map o) (.ag [ah a,ah b,ab n]) (.a (.bool u))=some (S.set o (bH nN ai (cD (⟨a,b,n⟩:kK) u l))):=
 Ie (uv:=ai) (k:=(⟨a,b,n⟩:kK)) (kt:=137) (et:=4) (by simp only[aB]) LR hS rfl u
def oD{n:Nat}{l:List (kK×Bool)}:bI n (bH nN ai l)=bH nN ai l:=mi λ_=>lY _
def iY(l:List bC)(part:List Nat)(day:Int)(kind:List Nat)(m:List (kK×Bool))(d:ea):List (kK×Bool):=
 if rO d=true/\d.kind=kind/\(lG d l part day).2=true then cD ⟨part,d.name,(lG d l part day).1⟩ true m else m
def rR(ds:List ea)(c:List aU)(l:List bC)(part:List Nat)(day:Int):List (kK×Bool):=
 match cY (OT c l day).1 part with
 | none=>[]
 | some p=>if (OT c l day).2≠0\/p.cM=true then [] else ds.foldl (iY l part day p.kind) []
def J1{K U:Type}[DecidableEq K]{k:K}{v:U}:∀{m:List (K×U)} {e:K×U},e∈cD k v m->e=(k,v)\/e∈m
 | [],e,h=>by unfold cD at h;exact .inl (t6 h)
 | a::m,e,h=>by
  unfold cD at h;split at h
  ·rcases t7 h with rfl | h
   ·exact .inl rfl
   ·exact .inr (am _ h)
  ·rcases t7 h with rfl | h
   ·exact .inr ba
   ·exact(J1 h).imp id (am _)
def tG{K U:Type}[DecidableEq K]{k:K}{v:U}:∀{m:List (K×U)},(m.map (·.1)).Nodup->((cD k v m).map (·.1)).Nodup
 | [],_=>by unfold cD;simp
 | e::m,h=>by
  rw[bi,bt] at h;unfold cD;split
  ·rename_i hk;rw[bi,bt,hk];exact h
  ·rename_i hk;rw[bi,bt];refine⟨λhm=>?_,tG h.2⟩;obtain⟨x,hx,e1⟩:=mem_map.1 hm
   rcases J1 hx with rfl | hx
   ·exact hk e1
   ·exact h.1 (e1▸cd hx)
def N7{K U:Type}[DecidableEq K]{k x:K}{v:U}{m:List (K×U)}:x∈(cD k v m).map (·.1)↔x=k\/x∈m.map (·.1):=by
 rw[<-kS,<-kS,qo,b9,wp,or_comm]
def JZ(ds:List ea)(c:List aU)(l:List bC)(part:List Nat)(day:Int):((rR ds c l part day).map (·.1)).Nodup/\∀x,x∈(rR ds c l part day).map (·.1)↔x.part=part/\(x.eN,x.day)∈kW ds c l part day:=by
 unfold rR kW
 cases cY (OT c l day).1 part with
 | none=>exact⟨bb,λx=>by simp⟩
 | some p=>
  simp only;split
  ·exact⟨bb,λx=>by simp⟩
  ·have key:∀(ds:List ea) (m:List (kK×Bool)),(m.map (·.1)).Nodup->((ds.foldl (iY l part day p.kind) m).map (·.1)).Nodup/\∀x,x∈(ds.foldl (iY l part day p.kind) m).map (·.1)↔x∈m.map (·.1)\/(x.part=part/\(x.eN,x.day)∈ds.filterMap λd=>if rO d=true/\d.kind=p.kind/\(lG d l part day).2=true then some (d.name,(lG d l part day).1) else none):=by
    intro ds
    induction ds with
    | nil=>exact λm h=>⟨h,λx=>by simp⟩
    | cons d ds ih=>
     intro m h;rw[b4,List.filterMap_cons];rw[show iY l part day p.kind m d=if rO d=true/\d.kind=p.kind/\(lG d l part day).2=true then cD ⟨part,d.name,(lG d l part day).1⟩ true m else m from rfl];by_cases hd:rO d=true/\d.kind=p.kind/\(lG d l part day).2=true
     ·rw[ut hd,ut hd];obtain⟨i1,i2⟩:=ih _ (tG (k:=(⟨part,d.name,(lG d l part day).1⟩:kK)) (v:=true) h);refine⟨i1,λx=>?_⟩;rw[i2,N7,cb];obtain⟨x1,x2,x3⟩:=x;simp only[kK.mk.injEq,m8];constructor
      ·rintro((⟨rfl,rfl,rfl⟩ | h) | ⟨h1,h2⟩)
       ·exact .inr ⟨rfl,.inl ⟨rfl,rfl⟩⟩
       ·exact .inl h
       ·exact .inr ⟨h1,.inr h2⟩
      ·rintro(h | ⟨h1,⟨rfl,rfl⟩ | h2⟩)
       ·exact .inl (.inr h)
       ·exact .inl (.inl ⟨h1,rfl,rfl⟩)
       ·exact .inr ⟨h1,h2⟩
     ·rw[v6 hd,v6 hd];exact ih m h
   obtain⟨k1,k2⟩:=key ds [] bb;exact⟨k1,λx=>by rw[k2];simp⟩
def Cs:∀(s acc:List (List Nat)),acc.Pairwise (λa b=>gB a b=true)->s.Pairwise (λa b=>wz a b=true)->(∀a∈acc,∀b∈s,wz a b=true)->
 (s.foldl (λacc x=>if acc.getLast?=some x then acc else acc++[x]) acc).Pairwise (λa b=>gB a b=true)/\∀x,x∈s.foldl (λacc x=>if acc.getLast?=some x then acc else acc++[x]) acc↔x∈acc\/x∈s
 | [],acc,h,_,_=>⟨h,λx=>by simp⟩
 | y::s,acc,h,hs,ha=>by
  rw[c6] at hs;rw[b4];by_cases hl:acc.getLast?=some y
  ·rw[ut hl];have hy:y∈acc:=List.mem_of_getLast? hl;obtain⟨i1,i2⟩:=Cs s acc h hs.2 λa h1 b h2=>ha a h1 b (am _ h2);refine⟨i1,λx=>?_⟩;rw[i2,cb];constructor
   ·rintro(h | h)
    ·exact .inl h
    ·exact .inr (.inr h)
   ·rintro(h | rfl | h)
    ·exact .inl h
    ·exact .inl hy
    ·exact .inr h
  ·rw[v6 hl]
   have hlt:∀a∈acc,gB a y=true:=by
    intro a hm;have h1:=ha a hm y ba
    rcases lX a y with k | k | k
    ·exact k
    ·exfalso;subst k
     obtain⟨z,hz⟩:∃z,acc.getLast?=some z:=by
      cases hq:acc.getLast? with
      | none=>rw[List.getLast?_eq_none_iff] at hq;subst hq;cases hm
      | some z=>exact⟨z,rfl⟩
     obtain⟨pre,rfl⟩:=List.getLast?_eq_some_iff.1 hz
     rcases mem_append.1 hm with hm | hm
     ·have h2:=(List.pairwise_append.1 h).2.2 a hm z (rx rfl);have h3:=ha z (List.mem_append_right _ (rx rfl)) a ba;unfold wz at h3;rw[h2] at h3;cases h3
     ·rw[t6 hm] at hl;exact hl hz
    ·unfold wz at h1;rw[k] at h1;cases h1
   obtain⟨i1,i2⟩:=Cs s (acc++[y]) (List.pairwise_append.2 ⟨h,List.pairwise_singleton _ _,λa h1 b h2=>by rw[t6 h2];exact hlt a h1⟩) hs.2 (by
    intro a h1 b h2
    rcases mem_append.1 h1 with h1 | h1
    ·exact ha a h1 b (am _ h2)
    ·rw[t6 h1];exact hs.1 b h2)
   refine⟨i1,λx=>?_⟩;rw[i2,mem_append,List.mem_singleton,cb,or_assoc]
def Dg(l:List (List Nat)):(LD l).Pairwise (λa b=>gB a b=true)/\∀x,x∈LD l↔x∈l:=by
 obtain⟨h1,h2⟩:=Cs (ee l) [] .nil (Ge l) λa h=>by cases h
 refine⟨h1,λx=>?_⟩;show x∈rN (ee l)↔_;unfold rN;rw[h2];simp[(rU l).mem_iff]
def Ox{K l:List (List Nat)}(hn:K.Nodup)(hm:∀x,x∈K↔x∈l):ee K=LD l:=by
 obtain⟨h1,h2⟩:=Dg l
 have hd:(LD l).Nodup:=h1.imp λh e=>by rw[e,ff] at h;cases h
 refine(y9 ((List.perm_ext_iff_of_nodup hd hn).2 λx=>by rw[h2,hm]) ?_).symm;unfold qS
 exact h1.imp λ{a b} h=>by
  cases k:gB b a with
  | false=>rfl
  | true=>have:=ig h k;rw[ff] at this;cases this
variable{c:List aU}{ps:List ao}
def Nh{e:bC}(h:(aX c ps e).2=0):gy e=true:=by
 unfold aX at h;cases h1:Proofs.kE c ps
 ·rw[h1,v6 g9] at h;exact un h g9
 cases h2:gy e
 ·rw[h1,ut rfl,h2,v6 g9] at h;exact un h g9
 ·rfl
def E7{u:Bool}{c:List aU}{dmg:bE}:∀(l:List bC) (s:List ao),(RG u c dmg l s).2=0->∀e∈l,gy e=true
 | [],_,_,_,h=>by cases h
 | e::r,s,h,x,hx=>by
  rw[RG] at h;by_cases h0:(aX c s e).2=0
  ·rw[ut h0] at h
   rcases t7 hx with rfl | hx
   ·exact Nh h0
   ·exact E7 r _ h x hx
  ·rw[v6 h0] at h;exact un h h0
variable{day:Int}
def Pc(h:(OT c l day).2=0):∀e∈l,e.day<=day->0<=e.day/\e.day<=40000:=by
 intro e he hd;unfold OT at h;split at h
 ·have:=E7 _ _ h e ((uT _ _).mem_iff.2 (mem_filter.2 ⟨he,by unfold fe;simp;omega⟩));unfold gy at this;simp only[bd,ci,wn] at this;obtain⟨_,h1,h2,_⟩:=this;omega
 ·exact un h g9
def Ry(c:List aU)(l:List bC)(day:Int):(AI c (dV (fe day) l)).1=(OT c l day).1/\(AI c (dV (fe day) l)).2.2=(OT c l day).2:=by
 unfold AI OT;split
 ·exact Kn _ _ _
 ·exact⟨rfl,rfl⟩
def yF(a b:aC):Bool:=decide (a.kind<b.kind)||(decide (a.kind=b.kind)&&(gB a.part b.part||(decide (a.part=b.part)&&gB a.name b.name)))
def Br(x:aC):List aC->List aC
 | []=>[x]
 | y::l=>if yF y x=true then y::Br x l else x::y::l
def gT:List aC->List aC
 | []=>[]
 | x::l=>Br x (gT l)
def tD(l:List aC):List aC:=(l.foldl (λm f=>cD f true m) ([]:List (aC×Bool))).map (·.1)
def fN(c:List aU)(dmg:bE)(b:dy)(l:List bC)(vehicle:List Nat)(day:Int):List aC:=
 match cY (runN c dmg l day).1 vehicle with
 | none=>[⟨4,vehicle,[]⟩]
 | some v=>if (runN c dmg l day).2.2≠0\/v.cM=true\/((dU c v.kind).getD aU.zero).vehicle=false then [⟨4,vehicle,[]⟩]
  else gT (tD (mF c b l (runN c dmg l day).1 vehicle day v))
def sj(x:aC):∀l,(Br x l).Perm (x::l)
 | []=>.refl _
 | y::l=>by
  rw[Br];split
  ·exact((sj x l).cons y).trans (.swap x y l)
  ·exact .refl _
def fG:∀l,(gT l).Perm l
 | []=>.refl _
 | x::l=>(sj x _).trans ((fG l).cons x)
def CU(a b:aC):yF a b=true\/a=b\/yF b a=true:=by
 obtain⟨k,p,n⟩:=a;obtain⟨k2,p2,n2⟩:=b;unfold yF;simp only[b9,bd,wp,aC.mk.injEq]
 rcases c5 k k2 with h | h | h
 ·exact .inl (.inl h)
 ·rcases lX p p2 with h1 | h1 | h1
  ·exact .inl (.inr ⟨h,.inl h1⟩)
  ·rcases lX n n2 with h2 | h2 | h2
   ·exact .inl (.inr ⟨h,.inr ⟨h1,h2⟩⟩)
   ·exact .inr (.inl ⟨h,h1,h2⟩)
   ·exact .inr (.inr (.inr ⟨h.symm,.inr ⟨h1.symm,h2⟩⟩))
  ·exact .inr (.inr (.inr ⟨h.symm,.inl h1⟩))
 ·exact .inr (.inr (.inl h))
def oG{a b c:aC}(h1:yF a b=true)(h2:yF b c=true):yF a c=true:=by
 unfold yF at *;simp only[b9,bd,wp] at *
 rcases h1 with h1 | ⟨e1,h1⟩<;>rcases h2 with h2 | ⟨e2,h2⟩
 ·exact .inl i4
 ·exact .inl i4
 ·exact .inl i4
 ·refine .inr ⟨e1.trans e2,?_⟩
  rcases h1 with h1 | ⟨f1,h1⟩<;>rcases h2 with h2 | ⟨f2,h2⟩
  ·exact .inl (ig h1 h2)
  ·exact .inl (f2▸h1)
  ·exact .inl (f1▸h2)
  ·exact .inr ⟨f1.trans f2,ig h1 h2⟩
def CT(a:aC):yF a a=false:=by
 unfold yF;rw[ff,ff];simp
def Fb{x:aC}:∀{l:List aC},l.Pairwise (λa b=>yF a b=true)->x∉l->(Br x l).Pairwise λa b=>yF a b=true
 | [],_,_=>.cons (λ_ h=>by cases h) .nil
 | y::l,h,hx=>by
  have h0:=h;rw[c6] at h;rw[cb,not_or] at hx;rw[Br];split
  ·rename_i c;refine .cons (λz hz=>?_) (Fb h.2 hx.2)
   rcases t7 ((sj x l).mem_iff.1 hz) with rfl | hz
   ·exact c
   ·exact h.1 z hz
  ·rename_i c
   have hxy:yF x y=true:=by
    rcases CU x y with k | k | k
    ·exact k
    ·exact un k hx.1
    ·exact un k c
   refine .cons (λz hz=>?_) h0
   rcases t7 hz with rfl | hz
   ·exact hxy
   ·exact oG hxy (h.1 z hz)
def rB:∀{l:List aC},l.Nodup->(gT l).Pairwise λa b=>yF a b=true
 | [],_=>.nil
 | x::l,h=>by
  rw[bt] at h;exact Fb (rB h.2) λk=>h.1 ((fG l).mem_iff.1 k)
def FW{k:aC}{v:Bool}:∀{m:List (aC×Bool)} {e:aC×Bool},e∈cD k v m->e=(k,v)\/e∈m
 | [],e,h=>by unfold cD at h;exact .inl (t6 h)
 | a::m,e,h=>by
  unfold cD at h;split at h
  ·rcases t7 h with rfl | h
   ·exact .inl rfl
   ·exact .inr (am _ h)
  ·rcases t7 h with rfl | h
   ·exact .inr ba
   ·exact(FW h).imp id (am _)
def BM{k:aC}{v:Bool}:∀{m:List (aC×Bool)},(m.map (·.1)).Nodup->((cD k v m).map (·.1)).Nodup
 | [],_=>by unfold cD;simp
 | e::m,h=>by
  rw[bi,bt] at h;unfold cD;split
  ·rename_i hk;rw[bi,bt,hk];exact h
  ·rename_i hk;rw[bi,bt];refine⟨λhm=>?_,BM h.2⟩;obtain⟨x,hx,e1⟩:=mem_map.1 hm
   rcases FW hx with rfl | hx
   ·exact hk e1
   ·exact h.1 (e1▸cd hx)
def C4:∀(l:List aC) (m:List (aC×Bool)),(m.map (·.1)).Nodup->((l.foldl (λm f=>cD f true m) m).map (·.1)).Nodup/\∀f,f∈(l.foldl (λm f=>cD f true m) m).map (·.1)↔f∈m.map (·.1)\/f∈l
 | [],m,h=>⟨h,λf=>by simp⟩
 | x::l,m,h=>by
  obtain⟨i1,i2⟩:=C4 l (cD x true m) (BM h);refine⟨i1,λf=>?_⟩;rw[b4,i2,<-kS,<-kS,qo,b9,wp,cb];constructor
  ·rintro((h | h) | h)
   ·exact .inr (.inl h)
   ·exact .inl h
   ·exact .inr (.inr h)
  ·rintro(h | h | h)
   ·exact .inl (.inr h)
   ·exact .inl (.inl h)
   ·exact .inr h
variable{f:aC}
def Lo{l:List aC}:f∈tD l↔f∈l:=by
 have:=(C4 l [] bb).2 f;unfold tD;rw[this];simp
def FM(l:List aC):(tD l).Nodup:=(C4 l [] bb).1
abbrev TP(l:List aC):Prop:=l.Pairwise λa b=>yF a b=true
def Io(l:List aC):TP (gT (tD l))/\∀f,f∈gT (tD l)↔f∈l:=
 ⟨rB (FM _),λf=>by rw[(fG _).mem_iff,Lo]⟩
variable{part:List Nat}
def FQ{d1 d2:List ea}{x:List Nat}:x∈eH (d1++d2) c l part day↔x∈eH d1 c l part day\/x∈eH d2 c l part day:=by
 have h:kW (d1++d2) c l part day=kW d1 c l part day++kW d2 c l part day:=by
  unfold kW;split
  ·rfl
  ·split
   ·rfl
   ·exact List.filterMap_append
 unfold eH;rw[(Dg _).2,(Dg _).2,(Dg _).2,h,bk,be,mem_append]
def Mv{a b:dy}{p:ao}:f∈lg c ⟨a.rules++b.rules,a.bB,a.aW++b.aW,a.cg,a.aL++b.aL,a.holds++b.holds⟩ l ps day p↔f∈lg c a l ps day p\/f∈lg c ⟨b.rules,a.bB,b.aW,a.cg,b.aL,b.holds⟩ l ps day p:=by
 have h3:f∈(eH (a.aW++b.aW) c l p.name day).map (λn=>(⟨3,p.name,n⟩:aC))↔f∈(eH a.aW c l p.name day).map (λn=>(⟨3,p.name,n⟩:aC))\/f∈(eH b.aW c l p.name day).map (λn=>(⟨3,p.name,n⟩:aC)):=by
  simp only[mem_map,FQ];constructor
  ·rintro⟨x,h | h,rfl⟩
   ·exact .inl ⟨x,h,rfl⟩
   ·exact .inr ⟨x,h,rfl⟩
  ·rintro(⟨x,h,rfl⟩ | ⟨x,h,rfl⟩)
   ·exact⟨x,.inl h,rfl⟩
   ·exact⟨x,.inr h,rfl⟩
 unfold lg;simp only[bk,be,mem_append,h3];constructor
 ·rintro((h | h) | (h | h) | (h | h) | h)
  ·exact .inl (.inl h)
  ·exact .inr (.inl h)
  ·exact .inl (.inr (.inl h))
  ·exact .inr (.inr (.inl h))
  ·exact .inl (.inr (.inr (.inl h)))
  ·exact .inr (.inr (.inr (.inl h)))
  ·exact .inl (.inr (.inr (.inr h)))
 ·rintro((h | h | h | h) | (h | h | h | h))
  ·exact .inl (.inl h)
  ·exact .inr (.inl (.inl h))
  ·exact .inr (.inr (.inl (.inl h)))
  ·exact .inr (.inr (.inr h))
  ·exact .inl (.inr h)
  ·exact .inr (.inl (.inr h))
  ·exact .inr (.inr (.inl (.inr h)))
  ·exact .inr (.inr (.inr h))
def HK{a b:dy}{vehicle:List Nat}{v:ao}:f∈mF c ⟨a.rules++b.rules,a.bB,a.aW++b.aW,a.cg,a.aL++b.aL,a.holds++b.holds⟩ l ps vehicle day v↔f∈mF c a l ps vehicle day v\/f∈mF c ⟨b.rules,a.bB,b.aW,a.cg,b.aL,b.holds⟩ l ps vehicle day v:=by
 unfold mF;simp only[bk,be,mem_append,dE,Mv];constructor
 ·rintro((h | h) | ⟨n,hn,h | h⟩ | (h | h))
  ·exact .inl (.inl h)
  ·exact .inr (.inl h)
  ·exact .inl (.inr (.inl ⟨n,hn,h⟩))
  ·exact .inr (.inr (.inl ⟨n,hn,h⟩))
  ·exact .inl (.inr (.inr h))
  ·exact .inr (.inr (.inr h))
 ·rintro((h | ⟨n,hn,h⟩ | h) | (h | ⟨n,hn,h⟩ | h))
  ·exact .inl (.inl h)
  ·exact .inr (.inl ⟨n,hn,.inl h⟩)
  ·exact .inr (.inr (.inl h))
  ·exact .inl (.inr h)
  ·exact .inr (.inl ⟨n,hn,.inr h⟩)
  ·exact .inr (.inr (.inr h))
def Aq{l1 l2:List pS}{eN:List Nat}(h:ns (l1++l2) part eN day=false):ns l1 part eN day=false:=by
 unfold ns at *;rw[es,Bool.or_eq_false_iff] at h;exact h.1
def ve{s1 s2:List uD}(h:fY c s1 ps part day=true):fY c (s1++s2) ps part day=true:=by
 unfold fY at *
 cases hp:cY ps part with
 | none=>rw[hp] at h;exact h
 | some p=>
  rw[hp] at h;simp only at h ⊢;split at h
  ·rename_i h1;rw[ut h1]
  ·rename_i h1;rw[v6 h1]
   cases hq:cY ps p.bu with
   | none=>rw[hq] at h;exact h
   | some q=>
    rw[hq] at h;simp only[es,b9] at h ⊢
    rcases h with h | h
    ·exact .inl h
    ·exact .inr (.inl h)
def Bb{a b:dy}{p:ao}(h:f∈lg c ⟨a.rules,a.bB++b.bB,a.aW,a.cg++b.cg,a.aL,a.holds⟩ l ps day p):f∈lg c a l ps day p:=by
 unfold lg at *;simp only[mem_append] at *
 rcases h with h | h | h | h
 ·refine .inl ?_;obtain⟨r,hr,rfl⟩:=mem_map.1 h;refine mem_map.2 ⟨r,?_,rfl⟩;rw[mem_filter] at hr ⊢;refine⟨hr.1,?_⟩;have h2:=hr.2;rw[bd,bd,ci] at h2 ⊢;exact⟨h2.1,Aq h2.2.1,h2.2.2⟩
 ·exact .inr (.inl h)
 ·exact .inr (.inr (.inl h))
 ·refine .inr (.inr (.inr ?_));split at h
  ·cases h
  ·rename_i h1;rw[v6 λh2=>h1 (ve h2)];exact h
def E6{a b:dy}{vehicle:List Nat}{v:ao}(h:f∈mF c ⟨a.rules,a.bB++b.bB,a.aW,a.cg++b.cg,a.aL,a.holds⟩ l ps vehicle day v):f∈mF c a l ps vehicle day v:=by
 unfold mF at *;simp only[mem_append,dE] at *
 rcases h with h | ⟨n,hn,h⟩ | h
 ·exact .inl (Bb h)
 ·exact .inr (.inl ⟨n,hn,Bb h⟩)
 ·exact .inr (.inr h)
def KZ(c:List aU)(dmg:bE)(a b:dy)(l:List bC)(vehicle:List Nat)(day:Int):∀f∈fN c dmg ⟨a.rules,a.bB++b.bB,a.aW,a.cg++b.cg,a.aL,a.holds⟩ l vehicle day,f∈fN c dmg ⟨a.rules++b.rules,a.bB,a.aW++b.aW,a.cg,a.aL++b.aL,a.holds++b.holds⟩ l vehicle day:=by
 intro f hf;unfold fN at *;split at hf
 ·exact hf
 ·rename_i v hv;split at hf
  ·rename_i h;rw[ut h];exact hf
  ·rename_i h;rw[v6 h];rw[(Io _).2] at hf ⊢;exact HK.2 (.inl (E6 hf))
def Gc{c:List aU}:∀(l:List bC) (i:Nat) (s:List ao),(∀p∈s,fq p)->(∀e∈l,lK e)->(pY c i l s).1.length<=s.length+l.length
 | [],_,s,_,_=>ap _
 | e::r,i,s,hp,he=>by
  obtain⟨q1,q2,_,_⟩:=ot (c:=c) (ps:=s) (e:=e) hp (he e ba);rw[pY];split
  ·have:=Gc (c:=c) r (i+1) (aX c s e).1 q1 λx hx=>he x (am _ hx);rw[i7];omega
  ·exact a6 _
def Oq(hlen:l.length<20)(hl:∀e∈l,lK e):(AI c (dV (fe day) l)).1.length<=20:=by
 unfold AI;split
 ·refine bc (Gc _ _ _ (λp h=>by cases h) λe he=>hl e (xm he)) ?_;have:=Df l (fe day);simp only[i5];omega
 ·exact a6 _
def Hm{d:ea}(h:∀e∈l,e.day<=day->0<=e.day/\e.day<=40000):∀n∈qT d l part day,0<=n/\n<=40000:=by
 intro n hn;obtain⟨e,he,rfl⟩:=mem_map.1 hn;obtain⟨h1,h2⟩:=mem_filter.1 he;rw[bd] at h2;unfold Lw at h2;rw[bd] at h2;exact h e h1 (ww h2.1.2)
def IY(ds:List ea)(c:List aU)(l:List bC)(part:List Nat)(day:Int)(hd:∀d∈ds,B6 d)(hdl:ds.length<=1000000)(hc:mu c)(hlen:l.length<20)(hl:∀e∈l,lK e):PC prog 63 [ak 5 ds aQ,.ag [ak 3 c aq],ak 14 l ar,ah part,ab day] (·=lR nN ai (rR ds c l part day)):=by
 have hat:=OA c l day hc hlen hl;obtain⟨ha1,ha2⟩:=Ry c l day;have had:=Pc (c:=c) (l:=l) (day:=day);have hpl:=Oq (c:=c) (day:=day) hlen hl;obtain⟨R,hR⟩:∃R,R=rR ds c l part day:=⟨_,rfl⟩;rw[<-hR];unfold rR at hR;generalize AI c (dV (fe day) l)=q at hat ha1 ha2 hpl;rw[<-ha2] at had;rw[<-ha1,<-ha2] at hR;clear ha1 ha2;have hf:=iA q.1 part i4
 refine pB 85 Tryz.func63 ?_;refine(zV) ?_;refine zZ ((0,ak 5 ds aQ)::(6,.ip [ak 3 c aq])::(2,ak 14 l ar)::(3,ah part)::[(4,ab day)]) 0 rfl (gm @ak.eq_1)<|zA ((0,ak 5 ds aQ)::(6,.ip [ak 3 c aq])::(2,ak 14 l ar)::(3,ah part)::[(4,ab day)]) [] zH<|(jn)<|(zK hat (hfl:=.inr zr))<|(cP @qF.eq_1)<|zA ((14,ab q.2.2)::(12,.ptr 1 0)::(11,.map 0)::(0,ak 5 ds aQ)::(2,ak 14 l ar)::(3,ah part)::[(4,ab day)]) [bH nN ai [],.cells [ak 14 q.1 ae]] (cm (show SO.map [] [] none=bH nN ai [] from rfl)) ?_;refine zZ ((14,ab q.2.2)::(12,.ip [ak 14 q.1 ae])::(11,.map 0)::(0,ak 5 ds aQ)::(2,ak 14 l ar)::(3,ah part)::[(4,ab day)]) 1 rfl ⟨.inl rfl,.inr (.ptr rfl (cC.refl rfl) (a6 _)),zj⟩<|zA ((14,ab q.2.2)::(12,.ip [ak 14 q.1 ae])::(11,.map 0)::(0,ak 5 ds aQ)::(2,ak 14 l ar)::(3,ah part)::[(4,ab day)]) [bH nN ai []] zH<|(zC) ?_;refine aK.k ii rfl rfl ii rfl zc (hf) (zw) (.inr (cC.refl (by cases cY q.1 part<;>rfl))) ?_
 cases hm:cY q.1 part with
 | none=>
  rw[hm] at hR;simp only at hR;refine(cP (gr @iU.eq_1 @ae.eq_1 @ao.zero.eq_1 @oD)) ?_;cases g0:decide (q.2.2=0)
  ·exact(aA g0)<|(cL)<|zo [.tmp 10] (r:=lR nN ai []) (hw:=l9 (λ_=>rfl) rfl) (hq:=by rw[hR])
  ·exact(aA g0)<|(cL)<|zo [.tmp 10] (r:=lR nN ai []) (hw:=l9 (λ_=>rfl) rfl) (hq:=by rw[hR])
 | some p=>
  rw[hm] at hR;simp only at hR;refine(cP (cO @iU.eq_1 @ae.eq_1 @oD)) ?_;cases g0:decide (q.2.2=0)
  ·exact(aA g0)<|(cL)<|zo [.tmp 10] (r:=lR nN ai []) (hw:=l9 (λ_=>rfl) rfl) (hq:=by rw[hR,ut (.inl (wt g0))])
  cases g1:p.cM;rotate_left
  ·exact(aA (bx g0 g1))<|(cL)<|zo [.tmp 10] (r:=lR nN ai []) (hw:=l9 (λ_=>rfl) rfl) (hq:=by rw[hR,ut (.inr g1)])
  have hq0:=ww g0;have hbd:=λd=>Hm (d:=d) (part:=part) (had hq0);rw[v6 (by rw[g1];simp[hq0])] at hR
  refine(aA (bx g0 g1))<|(lf)<|zA ((50,ab 0)::(49,ab ds.length)::(48,ak 5 ds aQ)::(15,.ptr 1 0)::(11,.map 0)::(2,ak 14 l ar)::(3,ah part)::[(4,ab day)]) [bH nN ai [],.cells [ah p.name,ah p.kind,ah p.bu,ah p.slot,ab p.made,ab p.since,ai false,ak 2 p.props aI,ab p.l1,ab p.l2,ab p.l3,ab p.l4,ab p.l5,ab p.l6]] zH ?_;refine zZ ((50,ab 0)::(49,ab ds.length)::(48,ak 5 ds aQ)::(15,.ip [ah p.name,ah p.kind,ah p.bu,ah p.slot,ab p.made,ab p.since,ai false,ak 2 p.props aI,ab p.l1,ab p.l2,ab p.l3,ab p.l4,ab p.l5,ab p.l6])::(11,.map 0)::(2,ak 14 l ar)::(3,ah part)::[(4,ab day)]) 1 rfl ⟨.inl rfl,.inl rfl,.inl rfl,.inr (.ptr rfl (cC.refl rfl) (a6 _)),zj⟩<|zA ((50,ab 0)::(49,ab ds.length)::(48,ak 5 ds aQ)::(15,.ip [ah p.name,ah p.kind,ah p.bu,ah p.slot,ab p.made,ab p.since,ai false,ak 2 p.props aI,ab p.l1,ab p.l2,ab p.l3,ab p.l4,ab p.l5,ab p.l6])::(11,.map 0)::(2,ak 14 l ar)::(3,ah part)::[(4,ab day)]) [bH nN ai []] zH<|(zs) ?_;refine Jg ds (λk (mm:List (kK×Bool))=>mm=(ds.take k).foldl (iY l part day p.kind) []) (λk mm=>(50,ab k)::(49,ab ds.length)::(48,ak 5 ds aQ)::(15,.ip [ah p.name,ah p.kind,ah p.bu,ah p.slot,ab p.made,ab p.since,ai false,ak 2 p.props aI,ab p.l1,ab p.l2,ab p.l3,ab p.l4,ab p.l5,ab p.l6])::(11,.map 0)::(2,ak 14 l ar)::(3,ah part)::[(4,ab day)]) (λk mm=>[bH nN ai mm]) ([]) zH ii ?_;intro k mm hk hall;refine zT ds k ?_ ?_;rintro rfl;rotate_left;intro d hx hlt;rotate_left
  ·refine(gh) ?_;rw[a7] at hall
   exact(zV)<|zo [.tmp 10] (r:=lR nN ai mm) (hw:=l9 (λ_=>rfl) rfl) (hq:=by rw[hR,<-hall])
  have hsn:(ds.take (k+1)).foldl (iY l part day p.kind) []=iY l part day p.kind mm d:=by rw[c9 hx,bN,<-hall];rfl
  have hdo:=hd d (aS hx);have hdv:=Iy d hdo;rw[show iY l part day p.kind mm d=if rO d=true/\d.kind=p.kind/\(lG d l part day).2=true then cD ⟨part,d.name,(lG d l part day).1⟩ true mm else mm from rfl] at hsn
  refine(gz)<|(aA (gr hlt (aT (e:=5) (enc:=aQ) gc hx) @aQ.eq_1 @oD))<|(aA @oD)<|(zC)<|(zK hdv) ?_
  cases g2:rO d
  ·rw[v6 (by rw[g2];simp)] at hsn
   refine(zR)<|(zY) ?_;refine aF.exit ?_
   (try change aF _ _ _ _ _)
   refine(aA (zi hlt hdl)) ?_;refine xu hlt (mm) zH hsn.symm
  cases g3:decide (d.kind=p.kind)
  ·rw[v6 (by rintro⟨_,h,_⟩;exact wt g3 h)] at hsn
   refine(cP (bx g3 @oD))<|(zY) ?_;refine aF.exit ?_
   (try change aF _ _ _ _ _)
   refine(aA (zi hlt hdl)) ?_;refine xu hlt (mm) zH hsn.symm
  refine(cP (bx g3 @oD))<|(zN) ?_
  have hw:0<=d.within/\d.within<=40000:=by
   unfold rO at g2;simp only[bd,wp] at g2;exact g2.2.2.2.2.2
  have hlast:=IQ d l part day i4 hw (hbd d);generalize lG d l part day=la at hlast hsn
  refine(zC)<|(zK hlast)<|(zR) ?_
  cases g4:la.2
  ·rw[v6 (by rw[g4];simp)] at hsn
   refine(aA g4)<|(zN)<|(aA (zi hlt hdl)) ?_;refine xu hlt (mm) zH hsn.symm
  ·rw[ut ⟨g2,ww g3,g4⟩] at hsn
   refine(aA g4)<|(zY)<|(zs) ?_;refine aF.r0 ii (by simp only[cN,bL,ak,aB,m7,m6,↓reduceIte,af,aj,ax,ad,al,an,au,bn,GL (l:=mm)];first | done | rfl) ?_;refine(aA (zi hlt hdl)) ?_;refine xu hlt (cD ⟨part,d.name,la.1⟩ true mm) zH hsn.symm
def IN(L:List (List Nat×Bool)):PC prog 65 [lR AV.str ai L] (·=.fn 149 [] [.ip [lR AV.str ai L]]):=by
 refine pB 4 Tryz.func65 ?_;refine(zV) ?_;refine zZ [(1,.ip [lR AV.str ai L])] 0 rfl (gm @ak.eq_1) ?_
 (try change aF _ _ _ _ _)
 exact(zV)<|zo [.tmp 2]
def gM(lc:ju):SO:=.loop lc .ready none [(2,.ptr 1 0)]
def HU(o:Nat)(lc:ju)(h:¬1=o):bI o (gM lc)=gM lc:=by
 simp[gM,bI,bZ,aO,Ev.names,h]
def sF(lc:ju):Prop:=(prog.funcs[(233:Nat)]?.bind λfn=>fn.body.bind uN)=some (lc.a,lc.b)
def GA(L:List (List Nat×Bool))(lc:ju)(hcd:sF lc)(hln:lc.n=13)(hlp:lc.ps=#[7])(hlen:L.length<=100000)(hnd:(L.map (·.1)).Nodup):
 SC prog 149 [.a (.fn (.yield lc.id) [] []),.ip [lR AV.str ai L]] [gM lc,.cells [aR],.gone] [2] (λr S'=>r=.cA []/\∃out:List (List Nat),out.Perm (L.map (·.1))/\S'=[gM lc,.cells [cx 2 1 out.length],eY out]):=by
 refine TL 14 func149 ?_;have hk3:=HU 3 lc g9;refine(zC) ?_;refine aK.TH (ks:=L.map λe=>.str e.1) (vs:=L.map λe=>ai e.2) ii rfl rfl ii rfl (by simp only[aB]) ?_;intro bs c hbs;refine aK.r0 ii (by simp only[cN,bL,ak,aB,m7,m6,↓reduceIte,af,aj,ax,ad,al,an,au,bn,↓hk3];first | done | rfl) ?_
 (repeat refine aF.seq ?_)
 refine aF.block (aF.loop (λm st=>∃pos:List Nat,pos.Nodup/\(∀j∈pos,j<L.length)/\L.length-pos.length=m/\st=⟨[(0,.a (.fn (.yield lc.id) [] [])),(5,.ptr 3 0),(1000000,.ptr 0 0),(1000001,.ptr 1 0)],14,[gM lc,.cells [cx 2 1 (bo L pos).length],eY ((bo L pos).map (·.1)),.oB (L.map λe=>.str e.1) (L.map λe=>ai e.2) bs c pos],[]⟩) L.length (cm (xO @bo.eq_1 @List.filterMap_nil.{0,0} @map_nil.{0,0} @i5.{0} @lA @gR)) ⟨[],bb,λj hj=>by simp at hj,rfl,rfl⟩ (by rintro m st ⟨pos,_,_,_,rfl⟩;rfl) ?_);rintro m st ⟨pos,hpn,hpl,rfl,rfl⟩;refine aF.post ?_;refine(zC) ?_;refine aK.TD ii rfl rfl ii rfl rfl (λj hj=>by rw[ac];exact hpl j hj) ?_ ?_
 ·intro hall
  refine(zR)<|(gh) ?_;refine⟨⟨[(1000000,.ptr 0 0),(1000001,.ptr 1 0)],14,[gM lc,.cells [cx 2 1 (bo L pos).length],eY ((bo L pos).map (·.1))],[]⟩,zH,?_⟩
  simp only[eV,dh,cq,bP,if_true];exact zP [] (hq:=by (try simp only[ez,bK]);first | done | (exact⟨trivial,(bo L pos).map (·.1),(mG hpn hpl (λj hj=>hall j (by rw[ac];exact hj))).map _,by rw[ac]⟩))
 ·intro j hj hjn;rw[ac] at hj;obtain⟨e,he⟩:∃e,L[j]?=some e:=⟨L[j],jp hj⟩;obtain⟨q1,q2,q3⟩:=qz hpn hpl hj hjn;have hsn:=kQ L pos he
  refine(zR)<|(gz)<|(zC) ?_;refine aK.Tx (k:=.str e.1) (v:=ai e.2) ii rfl rfl ii rfl rfl (by rw[a8,he];rfl) (by rw[a8,he];rfl) ?_;refine(zR)<|(zC)<|oA [(10,.a (.fn (.yield lc.id) [] [])),(11,ah e.1),(0,.a (.fn (.yield lc.id) [] [])),(5,.ptr 3 0),(1000000,.ptr 0 0),(1000001,.ptr 1 0)] [gM lc,.cells [cx 2 1 (bo L pos).length],eY ((bo L pos).map (·.1)),.oB (L.map λe=>.str e.1) (L.map λe=>ai e.2) bs c (pos++[j])] zH ?_;refine aK.y (vs:=[ah e.1]) (oo:=0) ii rfl rfl ii rfl rfl rfl ii rfl (by rw[hlp];rfl) (by rw[hln];rfl) (by rw[hln];decide) (by rw[hlp,hln];rfl) λro'=>?_
  have hcd2:=hcd;unfold sF at hcd2;rw[d8] at hcd2;have hcd3:=Option.some.inj (hcd2.symm.trans ii);obtain⟨ha,hbb⟩:=Prod.mk.inj hcd3;rw[ha,hlp,hln];have hhl:(bo L pos).length=((bo L pos).map (·.1)).length:=(ac _).symm;rw[hhl]
  have hol:((bo L pos).map (·.1)).length<=100000:=by rw[<-hhl];exact bc (b6 _ _) i4
  generalize hout:(bo L pos).map (·.1)=out at hol;change aF _ _ _ ⟨[(7,ah e.1),(2,.ptr 1 0),(20000010,.a (.fn (.yield lc.id) [] [])),(20000011,ah e.1),(20000000,.a (.fn (.yield lc.id) [] [])),(20000005,.ptr 3 0),(21000000,.ptr 0 0),(21000001,.ptr 1 0)],13,[gM lc,.cells [cx 2 1 out.length],eY out,.oB (L.map λe=>.str e.1) (L.map λe=>ai e.2) bs c (pos++[j])],[]⟩ _;refine(zV) ?_;refine⟨rfl,0,none,[(2,.ptr 1 0)],rfl,?_⟩;rw[hbb];refine(zB) ?_;change aF _ _ _ ⟨_,13,[.loop lc .busy none [(2,.ptr 1 0)],.cells [cx 2 1 out.length],eY out,.oB (L.map λe=>.str e.1) (L.map λe=>ai e.2) bs c (pos++[j])],[]⟩ _;by_cases ho:out=[]
  ·have hE1:cx 2 1 (bo L (pos++[j])).length=.buf 2 1 1 none:=by rw[hsn,li,hhl,hout,ho];rfl
   have hE2:eY ((bo L (pos++[j])).map (·.1))=.cells [ah e.1]:=by rw[hsn,be,hout,ho];rfl
   rw[ho,gR,show cx 2 1 ([]:List (List Nat)).length=aR from rfl];refine(zV) ?_;refine⟨rfl,0,.busy,none,[(2,.ptr 1 0)],rfl,?_⟩;simp only[xV,laid,ad,ay,↓reduceIte]
   refine oA [(12,ai true),(0,.a (.fn (.yield lc.id) [] [])),(5,.ptr 3 0),(1000000,.ptr 0 0),(1000001,.ptr 1 0)] [gM lc,.cells [.buf 2 1 1 none],.cells [ah e.1],.oB (L.map λe=>.str e.1) (L.map λe=>ai e.2) bs c (pos++[j])] (Fg.rn (f':=[(12,ai true),(0,.a (.fn (.yield lc.id) [] [])),(5,.ptr 3 0),(1000000,.ptr 0 0),(1000001,.ptr 1 0)]) (n:=14) (S':=[gM lc,.cells [.buf 2 1 1 none],.cells [ah e.1],.oB (L.map λe=>.str e.1) (L.map λe=>ai e.2) bs c (pos++[j])]) [0,1,5,3] g9 rfl (L6 (na @gM.eq_1 @An.eq_1 @Am.eq_1 @xX.eq_1 @xV.eq_1)) (L7 (na @gM.eq_1 @An.eq_1 @Am.eq_1 @xX.eq_1 @xV.eq_1)))<|(zR)<|(zN) ?_;exact⟨⟨[(0,.a (.fn (.yield lc.id) [] [])),(5,.ptr 3 0),(1000000,.ptr 0 0),(1000001,.ptr 1 0)],14,[gM lc,.cells [.buf 2 1 1 none],.cells [ah e.1],.oB (L.map λe=>.str e.1) (L.map λe=>ai e.2) bs c (pos++[j])],[]⟩,(cm @gM.eq_1),L.length-(pos++[j]).length,_,by rw[li];simp only[i7,i5];omega,(cm (cO @gM.eq_1 hE1 hE2)),pos++[j],q1,q2,rfl,rfl⟩
  ·have hk1:¬out.length=0:=λh=>ho (t8 h)
   have hE1:cx 2 1 (bo L (pos++[j])).length=.buf 2 (out.length+1) 1 none:=by rw[hsn,li,hhl,hout];exact en ge
   have hE2:eY ((bo L (pos++[j])).map (·.1))=.cells ((out++[e.1]).flatMap (aG ah)):=by rw[hsn,be,hout];exact fV ge
   have hcl3:=bg (enc:=aG ah) (e:=1) gc out;have hkc3:=λo=>bF (enc:=aG ah) gc o out;have happ:=mb (enc:=aG ah) (e:=1) gc (λ_=>rfl) 2 out e.1;rw[show aG ah e.1=[ah e.1] from rfl,d6] at happ;rw[d6] at hcl3;rw[fV ho,en hk1];refine(aA (xO hkc3 hcl3 @d6 (show out.length<=1000000 by omega) @ap happ)) ?_;refine⟨rfl,0,.busy,none,[(2,.ptr 1 0)],rfl,?_⟩;simp only[xV,laid,ad,ay,↓reduceIte]
   refine oA [(12,ai true),(0,.a (.fn (.yield lc.id) [] [])),(5,.ptr 3 0),(1000000,.ptr 0 0),(1000001,.ptr 1 0)] [gM lc,.cells [.buf 2 (out.length+1) 1 none],.cells ((out++[e.1]).flatMap (aG ah)),.oB (L.map λe=>.str e.1) (L.map λe=>ai e.2) bs c (pos++[j])] (cm (na @gM.eq_1 @xV.eq_1 @An.eq_1 @Am.eq_1 @xX.eq_1))<|(zR)<|(zN) ?_;exact⟨⟨[(0,.a (.fn (.yield lc.id) [] [])),(5,.ptr 3 0),(1000000,.ptr 0 0),(1000001,.ptr 1 0)],14,[gM lc,.cells [.buf 2 (out.length+1) 1 none],.cells ((out++[e.1]).flatMap (aG ah)),.oB (L.map λe=>.str e.1) (L.map λe=>ai e.2) bs c (pos++[j])],[]⟩,(cm @gM.eq_1),L.length-(pos++[j]).length,_,by rw[li];simp only[i7,i5];omega,(cm (cO @gM.eq_1 hE1 hE2)),pos++[j],q1,q2,rfl,rfl⟩
def Dm(L:List (List Nat×Bool))(hlen:L.length<=100000)(hnd:(L.map (·.1)).Nodup):SC prog 233 [aR,.fn 149 [] [.ip [lR AV.str ai L]]] [] [] (λr S'=>∃out:List (List Nat),out.Perm (L.map (·.1))/\r=cx 0 1 out.length/\S'=[eY out,.gone]):=by
 refine SC.sN (n:=13) dC d8 rfl rfl g9 (W:=[]) rfl g9 ?_;refine(og)<|zA [(2,.ptr 0 0),(6,.fn 149 [] [.ip [lR AV.str ai L]])] [.cells [aR],.gone] zH<|(zB) ?_;refine aF.tH (f1:=[(2,.ptr 0 0)]) dC ii func149 ii Uf ?_
 rintro N lc hid hn hps ha hb
 have hcd:sF lc:=by
  unfold sF;rw[d8,ha,hb];rfl
 have hsc:=GA L lc hcd hn hps hlen hnd;refine⟨[3,0,1],_,_,_,_,hsc,?_,rfl,by decide,?_,?_⟩
 ·simp only[gx,bL,cN,ak,bZ,aO,↓reduceIte,af,aj,ay,hid,List.map,e4,cons_append,nil_append]
  try rfl
 ·rintro(_ | _ | _ | i) so h
  ·cases h;exact⟨3,rfl,by rfl⟩
  ·cases h;exact⟨0,rfl,by rfl⟩
  ·cases h;exact⟨1,rfl,by rfl⟩
  ·cases h
 rintro r S' ⟨rfl,out,hp,rfl⟩
 have hbn:∀n:Nat,dF 3 (cx 2 1 n)=true:=λn=>by
  unfold cx;split
  ·exact gi rfl
  ·rfl
 have hrn3:∀(B n:Nat),pJ (jN [3,0,1] B) (.cells [cx 2 1 n])=.cells [cx 1 1 n]:=λB n=>by
  show SO.cells [fo _ _]=_;rw[dK];rfl
 refine⟨by simp only[gM,BV,gx,bL,ak,aj,al,decide_true,↓gF,↓hbn];first | done | rfl,3,.ready,none,[(2,.ptr 0 0)],by rfl,by decide,by rfl,?_⟩
 have hS2:(dN (dO (dO [SO.cells [aR],SO.gone] (SO.mf N)) (SO.loop lc .ready none [(2,.ptr 0 0)])) [3,0,1] [2] [gM lc,.cells [cx 2 1 out.length],eY out]).set 3 .gone=[.cells [cx 1 1 out.length],eY out,.mf N,.gone]:=by
  simp only[dN,dO,cy,di,fR,gw,i7,i5,List.map,ac,li,↓hrn3,↓eK];rfl
 rw[hS2];change aF _ _ _ ⟨[(2,.ptr 0 0)],13,[.cells [cx 1 1 out.length],eY out,.mf N,.gone],[{ fn:=none,Ew:=N,args:=[],cap:=[] }]⟩ _;refine(zV) ?_;refine zA [(4,cx 0 1 out.length)] [eY out,.mf N] (Fg.rn (f':=[(4,cx 0 1 out.length)]) (n:=13) (S':=[eY out,.mf N]) [1,2] g9 rfl (L6 (bx @dK @eK)) (L7 (bx @dK @eK))) ?_;refine aF.ret ?_
 (try simp only[eV,dh,cq,bP])
 exact⟨rfl,[(4,cx 0 1 out.length)],⟨rfl,trivial⟩,rfl,.inl ⟨rfl,1,rfl,⟨[cx 0 1 out.length],by rfl,out,hp,rfl,rfl⟩,a6 _,λi hi=>un hi (b7 _)⟩⟩
def rX(L:List (List Nat×Bool))(hlen:L.length<=100000)(hnd:(L.map (·.1)).Nodup):SC prog 148 [.fn 149 [] [.ip [lR AV.str ai L]]] [] [] (λr S'=>∃out:List (List Nat),out.Perm (L.map (·.1))/\r=cx 0 1 out.length/\S'=[eY out,.gone]):=by
 refine LB 5 Tryz.func148 ?_;refine(jn) ?_;refine aK.sc [] ii rfl rfl ii rfl zc (Dm L hlen hnd) (by simp only[gx,bL,ak];first | done | rfl) rfl g9 (λi so h=>by simp at h) ?_ ?_
 ·rintro r S' ⟨out,hp,rfl,rfl⟩;exact⟨ft 1 1 _,by simp only[BV,↓gF];first | done | rfl⟩
 ·rintro r S' ⟨out,hp,rfl,rfl⟩;have e1:fo (jN [] ([]:List SO).length) (cx 0 1 out.length)=cx 0 1 out.length:=dK _ 0 1 _
  have e2:dN [] [] [] [eY out,.gone]=[eY out,.gone]:=by
   simp only[dN,di,fR,gw,i7,i5,List.map,↓eK];rfl
  rw[e1,e2]
  refine oA [(4,cx 0 1 out.length)] [eY out,.gone] zH<|(zR)<|(zE) ?_;exact zP [.tmp 2] (hq:=by (try simp only[ez,bK]);first | done | (exact⟨out,hp,rfl,rfl⟩))
def D4(L:List (List Nat×Bool))(hlen:L.length<=100000)(hnd:(L.map (·.1)).Nodup)(hne:L≠[]):SC prog 64 [.fn 149 [] [.ip [lR AV.str ai L]]] [] [] (λr S'=>r=.buf 0 L.length 1 none/\S'=[.cells ((ee (L.map (·.1))).flatMap (aG ah))]):=by
 refine LB 9 func64 ?_;refine(jn) ?_;refine aK.sc [] ii rfl rfl ii rfl zc (rX L hlen hnd) (by simp only[gx,bL,ak];first | done | rfl) rfl g9 (λi so h=>by simp at h) ?_ ?_
 ·rintro r S' ⟨out,hp,rfl,rfl⟩;exact⟨ft 1 1 _,by simp only[BV,↓gF];first | done | rfl⟩
 ·rintro r S' ⟨out,hp,rfl,rfl⟩;have e1:fo (jN [] ([]:List SO).length) (cx 0 1 out.length)=cx 0 1 out.length:=dK _ 0 1 _
  have e2:dN [] [] [] [eY out,.gone]=[eY out,.gone]:=by
   simp only[dN,di,fR,gw,i7,i5,List.map,↓eK];rfl
  rw[e1,e2]
  have hol:out.length=L.length:=by rw[hp.length_eq,ac]
  have hon:out≠[]:=λe=>hne (t8 (by rw[<-hol,e];rfl));have hso:ee out=ee (L.map (·.1)):=sA hp;have hss:=Ae out i4 hon;rw[hso,hol] at hss;have hcs:∀(r:Nat->Nat) (q:List (List Nat)),mM r (q.flatMap (aG ah))=q.flatMap (aG ah):=λr q=>bq (aD (λ_=>rfl) q);have hcb:∀(B:Nat) (q:List (List Nat)),iG B (q.flatMap (aG ah))=true:=λB q=>bQ (aD (λ_=>rfl) q);have hck:∀(o:Nat) (q:List (List Nat)),(q.flatMap (aG ah)).map (aO o)=q.flatMap (aG ah):=λo q=>bF (enc:=aG ah) gc o q;rw[fV hon,hol,en (λh=>hne (t8 h))]
  refine oA [(5,.buf 0 L.length 1 none)] [.cells (out.flatMap (aG ah))] zH<|(zR)<|(zC) ?_;refine zS [0] (cO hcs hcb hck) hss ?_;refine(zR)<|(zV)<|(zE) ?_;exact zP [.tmp 2]
def A1:SC prog 64 [.fn 149 [] [.ip [lR AV.str ai []]]] [] [] (λr S'=>r=aR/\S'=[]):=by
 refine LB 9 func64 ?_;refine(jn) ?_;refine aK.sc [] ii rfl rfl ii rfl zc (rX [] (a6 _) bb) (by simp only[gx,bL,ak];first | done | rfl) rfl g9 (λi so h=>by simp at h) ?_ ?_
 ·rintro r S' ⟨out,hp,rfl,rfl⟩;exact⟨ft 1 1 _,by simp only[BV,↓gF];first | done | rfl⟩
 ·rintro r S' ⟨out,hp,rfl,rfl⟩;obtain rfl:out=[]:=Perm.eq_nil hp
  refine oA [(5,aR)] [] (cm (show fo (jN [] ([]:List SO).length) (cx 0 1 ([]:List (List Nat)).length)=aR from rfl))<|(zR)<|(zC)<|(zK uq)<|(zR)<|(zV)<|(zE) ?_;exact zP [.tmp 2]
def xl{K U:Type}[DecidableEq K]{k:K}{v:U}:∀{m:List (K×U)},(cD k v m).length<=m.length+1
 | []=>by unfold cD;simp
 | a::m=>by
  unfold cD;split
  ·rw[i7,i7];omega
  ·have:=xl (k:=k) (v:=v) (m:=m);rw[i7,i7];omega
def dS(day:Int)(m:List (List Nat×Bool))(x:kK×Bool):List (List Nat×Bool):=if x.1.day<day then cD x.1.eN true m else m
def tv(day:Int):∀(q:List (kK×Bool)) (m:List (List Nat×Bool)),(m.map (·.1)).Nodup->((q.foldl (dS day) m).map (·.1)).Nodup/\∀x,x∈(q.foldl (dS day) m).map (·.1)↔x∈m.map (·.1)\/∃e∈q,e.1.day<day/\e.1.eN=x
 | [],m,h=>⟨h,λx=>by simp⟩
 | y::q,m,h=>by
  rw[b4];by_cases hd:y.1.day<day
  ·rw[show dS day m y=cD y.1.eN true m from ut hd];obtain⟨i1,i2⟩:=tv day q (cD y.1.eN true m) (tG h);refine⟨i1,λx=>?_⟩;rw[i2,N7];constructor
   ·rintro((rfl | h) | ⟨e,he,h1,h2⟩)
    ·exact .inr ⟨y,ba,hd,rfl⟩
    ·exact .inl h
    ·exact .inr ⟨e,am _ he,h1,h2⟩
   ·rintro(h | ⟨e,he,h1,h2⟩)
    ·exact .inl (.inr h)
    ·rcases t7 he with rfl | he
     ·exact .inl (.inl h2.symm)
     ·exact .inr ⟨e,he,h1,h2⟩
  ·rw[show dS day m y=m from v6 hd];obtain⟨i1,i2⟩:=tv day q m h;refine⟨i1,λx=>?_⟩;rw[i2];constructor
   ·rintro(h | ⟨e,he,h1,h2⟩)
    ·exact .inl h
    ·exact .inr ⟨e,am _ he,h1,h2⟩
   ·rintro(h | ⟨e,he,h1,h2⟩)
    ·exact .inl h
    ·rcases t7 he with rfl | he
     ·exact un h1 hd
     ·exact .inr ⟨e,he,h1,h2⟩
def H3{ds:List ea}{q:List (kK×Bool)}(hq:q.Perm (rR ds c l part day)):ee ((q.foldl (dS day) []).map (·.1))=eH ds c l part day:=by
 obtain⟨h1,h2⟩:=tv day q [] bb;obtain⟨_,p2⟩:=JZ ds c l part day;refine Ox h1 λx=>?_;rw[h2];constructor
 ·rintro(h | ⟨e,he,h3,rfl⟩)
  ·cases h
  ·have:=(p2 e.1).1 (cd (hq.mem_iff.1 he));exact mem_map.2 ⟨(e.1.eN,e.1.day),mem_filter.2 ⟨this.2,wl h3⟩,rfl⟩
 ·intro h;obtain⟨e,he,rfl⟩:=mem_map.1 h;obtain⟨h3,h4⟩:=mem_filter.1 he;obtain⟨x,hx,e1⟩:=mem_map.1 ((p2 ⟨part,e.1,e.2⟩).2 ⟨rfl,h3⟩);exact .inr ⟨x,hq.mem_iff.2 hx,by rw[e1];exact ww h4,by rw[e1]⟩
def Lh(day:Int)(q:List (kK×Bool)):(q.foldl (dS day) []).length<=q.length:=by
 have key:∀(q:List (kK×Bool)) (m:List (List Nat×Bool)),(q.foldl (dS day) m).length<=m.length+q.length:=by
  intro q
  induction q with
  | nil=>intro m;exact ap _
  | cons y q ih=>
   intro m;rw[b4,i7]
   have h1:(dS day m y).length<=m.length+1:=by
    unfold dS;split
    ·exact xl
    ·omega
   have:=ih (dS day m y);omega
 have:=key q [];simpa using this
def Qz(d:kK):ua (nN d)=.ag [ah d.part,ah d.eN,ab d.day]:=rfl
def N1(ds:List ea)(c:List aU)(l:List bC)(part:List Nat)(day:Int):(rR ds c l part day).length<=ds.length:=by
 unfold rR;split
 ·exact a6 _
 ·split
  ·exact a6 _
  ·rename_i p _ _
   have key:∀(ds:List ea) (m:List (kK×Bool)),(ds.foldl (iY l part day p.kind) m).length<=m.length+ds.length:=by
    intro q
    induction q with
    | nil=>intro m;exact ap _
    | cons y q ih=>
     intro m;rw[b4,i7]
     have h1:(iY l part day p.kind m y).length<=m.length+1:=by
      unfold iY;split
      ·exact xl
      ·omega
     have:=ih (iY l part day p.kind m y);omega
   have:=key ds [];simpa using this
def IW(ds:List ea)(c:List aU)(l:List bC)(part:List Nat)(day:Int)(hd:∀d∈ds,B6 d)(hdl:ds.length<=100000)(hc:mu c)(hlen:l.length<20)(hl:∀e∈l,lK e):PC prog 22 [ak 5 ds aQ,.ag [ak 3 c aq],ak 14 l ar,ah part,ab day] (·=ak 1 (eH ds c l part day) (aG ah)):=by
 have hp:=IY ds c l part day hd i4 hc hlen hl;have hpl:=N1 ds c l part day;have hpk:=(JZ ds c l part day).1;have hsr:=λq hq=>H3 (ds:=ds) (c:=c) (l:=l) (part:=part) (day:=day) (q:=q) hq;generalize rR ds c l part day=M at hp hpl hpk hsr
 refine pB 35 Tryz.func22 ?_;refine(zV) ?_;refine zZ ((0,ak 5 ds aQ)::(6,.ip [ak 3 c aq])::(2,ak 14 l ar)::(3,ah part)::[(4,ab day)]) 0 rfl (gm @ak.eq_1)<|zA ((0,ak 5 ds aQ)::(6,.ip [ak 3 c aq])::(2,ak 14 l ar)::(3,ah part)::[(4,ab day)]) [] zH<|(jn)<|(zK hp (hfl:=.inr zr)) ?_;refine aK.TH (ks:=M.map λe=>nN e.1) (vs:=M.map λe=>ai e.2) ii rfl rfl ii rfl (by simp only[aB]) ?_
 intro bs c hbs;refine(zR) ?_
 (repeat refine aF.seq ?_)
 refine aF.block (aF.loop (λm st=>∃pos:List Nat,pos.Nodup/\(∀j∈pos,j<M.length)/\M.length-pos.length=m/\st=⟨[(4,ab day),(11,.map 0),(20,.ptr 1 0)],35,[bH AV.str ai ((bo M pos).foldl (dS day) []),.oB (M.map λe=>nN e.1) (M.map λe=>ai e.2) bs c pos],[]⟩) M.length (cm (show SO.map [] [] none=bH AV.str ai ((bo M []).foldl (dS day) []) from rfl)) ⟨[],bb,λj h=>(bv h).elim,rfl,rfl⟩ (by rintro m st ⟨_,_,_,_,rfl⟩;rfl) ?_);rintro m st ⟨pos,hpn,hpl2,rfl,rfl⟩;refine(zC) ?_;refine aK.TD ii rfl rfl ii rfl rfl (λj hj=>by rw[ac];exact hpl2 j hj) ?_ ?_;rotate_left
 ·intro j hj hjn;rw[ac] at hj;obtain⟨e,he⟩:∃e,M[j]?=some e:=⟨M[j],jp hj⟩;obtain⟨q1,q2,q3⟩:=qz hpn hpl2 hj hjn
  have hsn:(bo M (pos++[j])).foldl (dS day) []=dS day ((bo M pos).foldl (dS day) []) e:=by rw[kQ M pos he,bN];rfl
  rw[show ∀m,dS day m e=if e.1.day<day then cD e.1.eN true m else m from λ_=>rfl] at hsn;generalize (bo M pos).foldl (dS day) []=nm at hsn ⊢
  have hmeas:M.length-(pos++[j]).length<M.length-pos.length:=by rw[li];simp only[i7,i5];omega
  refine(cP @qt)<|(gz)<|(zC) ?_;refine aK.Tx (k:=nN e.1) (v:=ai e.2) ii rfl rfl ii rfl rfl (by rw[a8,he];rfl) (by rw[a8,he];rfl) ?_;refine(cP (bx @Qz @qt)) ?_
  by_cases hb:e.1.day<day
  ·rw[ut hb] at hsn
   refine(aA (wl hb))<|(zY)<|(zs) ?_;refine aF.r0 ii (by simp only[cN,bL,ak,aB,m7,m6,↓reduceIte,af,aj,ax,ad,al,an,au,bn,rE (l:=nm),qt];first | done | rfl) ?_;exact⟨M.length-(pos++[j]).length,_,hmeas,(cm hsn),pos++[j],q1,q2,rfl,rfl⟩
  ·rw[v6 hb] at hsn
   refine(aA (wd hb))<|(zN) ?_;exact⟨M.length-(pos++[j]).length,_,hmeas,(cm hsn),pos++[j],q1,q2,rfl,rfl⟩
 intro hall;have hperm:(bo M pos).Perm M:=mG hpn hpl2 λj hj=>hall j (by rw[ac];exact hj);have hkn:=(tv day (bo M pos) [] bb).1;have hkl:=Lh day (bo M pos)
 have hml:(bo M pos).length<=100000:=by rw[hperm.length_eq];omega
 have hso:=hsr _ hperm;rw[<-hso];generalize (bo M pos).foldl (dS day) []=nm at hkn hkl ⊢
 refine(cP @qt)<|(gh) ?_
 (try simp only[eV,dh,cq,bP,if_true])
 refine zZ [(11,lR AV.str ai nm)] 0 rfl ⟨.inr (l9 (λ_=>rfl) rfl),trivial⟩<|zA [(11,lR AV.str ai nm)] [] zH<|(zC)<|(zK (IN nm) (hfl:=.inr zr)) ?_
 by_cases hn0:nm=[]
 ·subst hn0
  refine zS [] trivial A1 ?_;exact(zR)<|zo [.tmp 10] (r:=ak 1 ([]:List (List Nat)) (aG ah)) (hw:=.nil _)
 ·have hss:=D4 nm i4 hkn hn0;have hcs:∀(r:Nat->Nat) (q:List (List Nat)),mM r (q.flatMap (aG ah))=q.flatMap (aG ah):=λr q=>bq (aD (λ_=>rfl) q);have hcb:∀(B:Nat) (q:List (List Nat)),iG B (q.flatMap (aG ah))=true:=λB q=>bQ (aD (λ_=>rfl) q);have hck:∀(o:Nat) (q:List (List Nat)),(q.flatMap (aG ah)).map (aO o)=q.flatMap (aG ah):=λo q=>bF (enc:=aG ah) gc o q
  have hsl:(ee (nm.map (·.1))).length=nm.length:=by rw[(rU _).length_eq,ac]
  refine zS [] (cO hcs hcb hck) hss ?_;exact(zR)<|zo [.tmp 10] (r:=.sl nm.length 1 ((ee (nm.map (·.1))).flatMap (aG ah))) (hw:=.buf rfl (by rw[<-hsl,eD (enc:=aG ah) (e:=1) gc];exact cC.refl (aD (λ_=>rfl) _)) (by rw[bg (enc:=aG ah) (e:=1) gc,hsl];exact ap _)) (hq:=by rw[qG,hsl])
open Go.Ev Go.RowKit Go.Sort
def xT(x y:Int):Int:=if x<y then -1 else if y<x then 1 else 0
def jy(x y:ByteArray):Int:=if Op.bytesLess x.toList y.toList=true then -1 else if (x.toList==y.toList)=true then 0 else 1
def AE(x y z:Int):Int:=if x≠0 then x else if y≠0 then y else z
set_option maxRecDepth 100000 in
def Iv(x y:Int)(W:World):Calls prog 78 #[.int .i64 x,.int .i64 y] W λe w'=>e=.returned (.int .i64 (xT x y))/\w'=W:=by
 unfold xT
 go_enter Tryz.func78,Tryz.ntmps78
 go_wp2
 all_goals (go_ret;exact⟨rfl,rfl⟩)
set_option maxRecDepth 100000 in
def IT(x:ByteArray)(W:World):Calls prog 159 #[.string x] W λe w'=>e=.returned (.bool false)/\w'=W:=by
 go_enter Tryz.func159,Tryz.ntmps159
 go_wp2
 go_ret
 exact⟨rfl,rfl⟩
set_option maxRecDepth 100000 in
def zn(x y:ByteArray)(W:World):Calls prog 79 #[.string x,.string y] W λe w'=>e=.returned (.int .i64 (jy x y))/\w'=W:=by
 have hn:=λz W'=>IT z W';cases h1:Op.bytesLess x.toList y.toList
 ·cases h2:(x.toList==y.toList)
  ·rw[show jy x y=1 by unfold jy;rw[h1,h2];rfl]
   go_enter e6,el
   go_wp2_with (go_at_call 159;refine(hn _ _).mono ?_;rintro e w' ⟨rfl,rfl⟩)
   all_goals (go_ret;exact⟨rfl,rfl⟩)
  ·rw[show jy x y=0 by unfold jy;rw[h1,h2];rfl]
   go_enter e6,el
   go_wp2_with (go_at_call 159;refine(hn _ _).mono ?_;rintro e w' ⟨rfl,rfl⟩)
   all_goals (go_ret;exact⟨rfl,rfl⟩)
 ·rw[show jy x y = -1 by unfold jy;rw[h1];rfl]
  go_enter e6,el
  go_wp2_with (go_at_call 159;refine(hn _ _).mono ?_;rintro e w' ⟨rfl,rfl⟩)
  all_goals (go_ret;exact⟨rfl,rfl⟩)
set_option maxRecDepth 100000 in
def OG(x y z:Int)(W:World)(b c:Nat)(h0:W.cell? ⟨b,0,none⟩=some (.int .i64 x))(h1:W.cell? ⟨b,1,none⟩=some (.int .i64 y))(h2:W.cell? ⟨b,2,none⟩=some (.int .i64 z)):Calls prog 77 #[.slice (some ⟨b,0,none⟩) 3 c] W λe w'=>e=.returned (.int .i64 (AE x y z))/\w'=W:=by
 by_cases g1:x=0
 ·by_cases g2:y=0
  ·rw[show AE x y z=z by unfold AE;simp[g1,g2]];subst g1 g2;by_cases g3:z=0
   ·subst g3
    go_enter dl,cv
    go_wp2
    refine wp_loop_rounds 4 ?_;rw[rounds_succ]
    go_wp2
    rw[rounds_succ]
    go_wp2
    rw[rounds_succ]
    go_wp2
    rw[rounds_succ]
    go_wp2
    all_goals (go_ret;exact⟨rfl,rfl⟩)
   ·go_enter dl,cv
    go_wp2
    refine wp_loop_rounds 3 ?_;rw[rounds_succ]
    go_wp2
    rw[rounds_succ]
    go_wp2
    rw[rounds_succ]
    go_wp2
    all_goals (go_ret;exact⟨rfl,rfl⟩)
  ·rw[show AE x y z=y by unfold AE;simp[g1,g2]];subst g1
   go_enter dl,cv
   go_wp2
   refine wp_loop_rounds 2 ?_;rw[rounds_succ]
   go_wp2
   rw[rounds_succ]
   go_wp2
   all_goals (go_ret;exact⟨rfl,rfl⟩)
 ·rw[show AE x y z=x by unfold AE;simp[g1]]
  go_enter dl,cv
  go_wp2
  refine wp_loop_rounds 1 ?_;rw[rounds_succ]
  go_wp2
  all_goals (go_ret;exact⟨rfl,rfl⟩)
def Lp(W:World)(cs:Array Value)(t:TypeId)(i:Nat):(W.alloc (Obj.cells cs t)).cell? ⟨W.heap.size,i,none⟩=cs[i]?:=by
 unfold World.cell?;rw[show(W.alloc (Obj.cells cs t)).heap=W.heap.push (Obj.cells cs t) from rfl];simp only[ch];rw[ut trivial];rfl
def L3(W:World)(cs ds:Array Value)(t:TypeId):(∀i,(World.drew ((W.alloc (Obj.cells cs t)).alloc (Obj.cells ds t))).cell? ⟨W.heap.size,i,none⟩=cs[i]?)/\(∀i,(World.drew ((W.alloc (Obj.cells cs t)).alloc (Obj.cells ds t))).cell? ⟨W.heap.size+1,i,none⟩=ds[i]?)/\World.drew ((W.alloc (Obj.cells cs t)).alloc (Obj.cells ds t))=grow (W.drewN 1) #[Obj.cells cs t,Obj.cells ds t]:=by
 have e:(World.drew ((W.alloc (Obj.cells cs t)).alloc (Obj.cells ds t))).heap=(W.heap.push (Obj.cells cs t)).push (Obj.cells ds t):=rfl;refine⟨λi=>?_,λi=>?_,?_⟩
 ·unfold World.cell?;rw[e];simp only[ch,ey];rw[v6 i4,ut trivial];rfl
 ·unfold World.cell?;rw[e];simp only[ch,ey];rw[ut trivial];rfl
 ·unfold grow World.drewN World.drew
  congr 1
set_option maxRecDepth 100000 in
def AL(x1 y1:Int)(x2 x3 y2 y3:ByteArray)(W:World):Calls prog 76 #[.agg #[.int .i64 x1,.string x2,.string x3],.agg #[.int .i64 y1,.string y2,.string y3]] W λe w'=>e=.returned (.int .i64 (AE (xT x1 y1) (jy x2 y2) (jy x3 y3)))/\∃q os',w'=grow (W.drewN q) os':=by
 have hI:=λW'=>Iv x1 y1 W';have hS2:=λW'=>zn x2 y2 W';have hS3:=λW'=>zn x3 y3 W'
 go_enter func76,Tryz.ntmps76
 go_wp2
 refine wp_region_still_tail 15 zW zW ?_;change wpStill _ _ (World.drew ((W.alloc (Obj.cells #[Value.int .i64 x1,Value.string x2,Value.string x3] 65)).alloc (Obj.cells #[Value.int .i64 y1,Value.string y2,Value.string y3] 65))) (λa'=>wpList _ _ _ _ a' (World.drew ((W.alloc (Obj.cells #[Value.int .i64 x1,Value.string x2,Value.string x3] 65)).alloc (Obj.cells #[Value.int .i64 y1,Value.string y2,Value.string y3] 65)))) _ _;obtain⟨k1,k2,k3⟩:=L3 W #[Value.int .i64 x1,Value.string x2,Value.string x3] #[Value.int .i64 y1,Value.string y2,Value.string y3] 65;have a0:(World.drew ((W.alloc (Obj.cells #[Value.int .i64 x1,Value.string x2,Value.string x3] 65)).alloc (Obj.cells #[Value.int .i64 y1,Value.string y2,Value.string y3] 65))).cell? ⟨W.heap.size,0,none⟩=some (.int .i64 x1):=k1 0;have a1:(World.drew ((W.alloc (Obj.cells #[Value.int .i64 x1,Value.string x2,Value.string x3] 65)).alloc (Obj.cells #[Value.int .i64 y1,Value.string y2,Value.string y3] 65))).cell? ⟨W.heap.size,1,none⟩=some (.string x2):=k1 1;have a2:(World.drew ((W.alloc (Obj.cells #[Value.int .i64 x1,Value.string x2,Value.string x3] 65)).alloc (Obj.cells #[Value.int .i64 y1,Value.string y2,Value.string y3] 65))).cell? ⟨W.heap.size,2,none⟩=some (.string x3):=k1 2;have b0:(World.drew ((W.alloc (Obj.cells #[Value.int .i64 x1,Value.string x2,Value.string x3] 65)).alloc (Obj.cells #[Value.int .i64 y1,Value.string y2,Value.string y3] 65))).cell? ⟨W.heap.size+1,0,none⟩=some (.int .i64 y1):=k2 0;have b1:(World.drew ((W.alloc (Obj.cells #[Value.int .i64 x1,Value.string x2,Value.string x3] 65)).alloc (Obj.cells #[Value.int .i64 y1,Value.string y2,Value.string y3] 65))).cell? ⟨W.heap.size+1,1,none⟩=some (.string y2):=k2 1;have b2:(World.drew ((W.alloc (Obj.cells #[Value.int .i64 x1,Value.string x2,Value.string x3] 65)).alloc (Obj.cells #[Value.int .i64 y1,Value.string y2,Value.string y3] 65))).cell? ⟨W.heap.size+1,2,none⟩=some (.string y3):=k2 2;have HD:Hid ((World.drew ((W.alloc (Obj.cells #[Value.int .i64 x1,Value.string x2,Value.string x3] 65)).alloc (Obj.cells #[Value.int .i64 y1,Value.string y2,Value.string y3] 65)))=grow (W.drewN 1) #[Obj.cells #[Value.int .i64 x1,Value.string x2,Value.string x3] 65,Obj.cells #[Value.int .i64 y1,Value.string y2,Value.string y3] 65]):=k3;clear k1 k2 k3;generalize (World.drew ((W.alloc (Obj.cells #[Value.int .i64 x1,Value.string x2,Value.string x3] 65)).alloc (Obj.cells #[Value.int .i64 y1,Value.string y2,Value.string y3] 65)))=W2 at a0 a1 a2 b0 b1 b2 HD ⊢;simp only[List.take_succ_cons,take_zero,List.drop_succ_cons,e5]
 still_step
 still_step
 still_step
 still_step
 still_call (hI _)
 still_step
 still_step
 still_step
 still_step
 still_call (hS2 _)
 still_step
 still_step
 still_step
 still_step
 still_call (hS3 _)
 refine wpStill_nil ?_;have hal:∀(W2:World) (cs:Array Value) (t:TypeId) (i:Nat),(W2.alloc (Obj.cells cs t)).cell? ⟨W2.heap.size,i,none⟩=cs[i]?:=Lp
 go_wp2_with (go_at_call 77;refine(OG (xT x1 y1) (jy x2 y2) (jy x3 y3) _ W2.heap.size 3 (hal _ _ _ 0) (hal _ _ _ 1) (hal _ _ _ 2)).mono ?_;rintro e w' ⟨rfl,rfl⟩)
 go_ret
 refine⟨rfl,1,#[Obj.cells #[Value.int .i64 x1,Value.string x2,Value.string x3] 65,Obj.cells #[Value.int .i64 y1,Value.string y2,Value.string y3] 65,Obj.cells #[Value.int .i64 (xT x1 y1),Value.int .i64 (jy x2 y2),Value.int .i64 (jy x3 y3)] 3],?_⟩;rw[HD.out];rfl
open Go.Shelf
def pW:Go.Shelf.Ren:=⟨λ| 6=>156 | 15=>127 | 14=>238 | 28=>212 | 29=>213 | 20=>287 | 21=>288 | 22=>289 | 23=>290 | 24=>291 | 25=>292 | 26=>293 | 27=>294 | 46=>314 | 47=>270 | 48=>271 | 49=>315 | 50=>316 | 57=>326 | n=>n,λ| 22=>41 | 24=>65 | 25=>163 | 3=>3 | 39=>210 | 0=>0 | 53=>281 | 55=>283 | 4=>4 | 46=>274 | 45=>273 | 50=>122 | 5=>5 | 9=>9 | 66=>318 | 70=>322 | 76=>344 | 77=>345 | n=>n,λ| n=>n⟩
def wc:Go.Proofs.SlLaysF0.n6 prog pW:={
 mixed:=by kernel_rfl
 f6:=⟨Tryz.f156.name,by decide,func156.trans (rc some zW)⟩
 f14:=⟨Tryz.f238.name,by decide,func238.trans (rc some zW)⟩
 f15:=Tryz.func127.trans (rc some zW)
 f20:=⟨Tryz.f287.name,by decide,func287.trans (rc some zW)⟩
 f21:=⟨Tryz.f288.name,by decide,Tryz.func288.trans (rc some zW)⟩
 f22:=⟨Tryz.f289.name,by decide,Tryz.func289.trans (rc some zW)⟩
 f23:=⟨Tryz.f290.name,by decide,Tryz.func290.trans (rc some zW)⟩
 f24:=⟨Tryz.f291.name,by decide,Tryz.func291.trans (rc some zW)⟩
 f25:=⟨Tryz.f292.name,by decide,Tryz.func292.trans (rc some zW)⟩
 f26:=⟨Tryz.f293.name,by decide,Tryz.func293.trans (rc some zW)⟩
 f27:=⟨Tryz.f294.name,by decide,Tryz.func294.trans (rc some zW)⟩
 f28:=Tryz.func212.trans (rc some zW)
 f29:=Tryz.func213.trans (rc some zW)
 f46:=⟨Tryz.f314.name,by decide,Tryz.func314.trans (rc some zW)⟩
 f47:=Tryz.func270.trans (rc some zW)
 f48:=Tryz.func271.trans (rc some zW)
 f49:=⟨Tryz.f315.name,by decide,Tryz.func315.trans (rc some zW)⟩
 f50:=⟨Tryz.f316.name,by decide,Tryz.func316.trans (rc some zW)⟩
 f57:=⟨Tryz.f326.name,by decide,Tryz.func326.trans (rc some zW)⟩
 t0:=Tryz.underlying0
 a0:=Tryz.isAgg0
 z0:=Tryz.sizeOf0
 v0:=Tryz.zeroValue0
 t3:=Tryz.underlying3
 a3:=Tryz.isAgg3
 z3:=Tryz.sizeOf3
 v3:=Tryz.zeroValue3
 t4:=Tryz.underlying4
 a4:=Tryz.isAgg4
 z4:=Tryz.sizeOf4
 v4:=Tryz.zeroValue4
 t5:=Tryz.underlying5
 a5:=Tryz.isAgg5
 z5:=Tryz.sizeOf5
 v5:=Tryz.zeroValue5
 t9:=Tryz.underlying9
 a9:=Tryz.isAgg9
 z9:=Tryz.sizeOf9
 v9:=Tryz.zeroValue9
 t22:=Tryz.underlying41
 a22:=Tryz.isAgg41
 z22:=Tryz.sizeOf41
 v22:=Tryz.zeroValue41
 t25:=Tryz.underlying163
 a25:=Tryz.isAgg163
 z25:=Tryz.sizeOf163
 v25:=Tryz.zeroValue163
 t39:=Tryz.underlying210
 a39:=Tryz.isAgg210
 z39:=Tryz.sizeOf210
 v39:=Tryz.zeroValue210
 t45:=Tryz.underlying273
 a45:=Tryz.isAgg273
 z45:=Tryz.sizeOf273
 v45:=Tryz.zeroValue273
 t46:=Tryz.underlying274
 a46:=Tryz.isAgg274
 z46:=Tryz.sizeOf274
 v46:=Tryz.zeroValue274
 t50:=Tryz.underlying122
 a50:=Tryz.isAgg122
 z50:=Tryz.sizeOf122
 v50:=Tryz.zeroValue122
 t53:=Tryz.underlying281
 a53:=Tryz.isAgg281
 z53:=Tryz.sizeOf281
 v53:=Tryz.zeroValue281
 t55:=Tryz.underlying283
 a55:=Tryz.isAgg283
 z55:=Tryz.sizeOf283
 v55:=Tryz.zeroValue283
 t66:=Tryz.underlying318
 a66:=Tryz.isAgg318
 z66:=Tryz.sizeOf318
 v66:=Tryz.zeroValue318
 t70:=Tryz.underlying322
 a70:=Tryz.isAgg322
 z70:=Tryz.sizeOf322
 v70:=Tryz.zeroValue322
 t76:=Tryz.underlying344
 a76:=Tryz.isAgg344
 z76:=Tryz.sizeOf344
 v76:=Tryz.zeroValue344
 t77:=Tryz.underlying345
 a77:=Tryz.isAgg345
 z77:=Tryz.sizeOf345
 v77:=Tryz.zeroValue345 }
open Go.Ev Go.RowKit Go.Shelf Go.Lib Go.Sort
set_option maxRecDepth 100000 in
def IJ(p:Option Addr)(cap:Nat)(fv:Value)(w:World):
 Calls prog 287 #[.slice p 0 cap,.int .i64 0,.int .i64 0,fv] w λe w'=>e=.returned (.tuple #[])/\w'=w:=by
 go_enter func287,Tryz.ntmps287
 go_wp2
 refine wp_loop_rounds 1 ?_;rw[rounds_succ]
 go_wp2
 go_end0
 exact⟨rfl,rfl⟩
set_option maxRecDepth 100000 in
def IX(p:Option Addr)(cap:Nat)(lim:Int)(fv:Value)(w:World):
 Calls prog 238 #[.slice p 0 cap,.int .i64 0,.int .i64 0,.int .i64 lim,fv] w λe w'=>e=.returned (.tuple #[])/\w'=w:=by
 have hi:=λW=>IJ p cap fv W
 go_enter func238,Tryz.ntmps238
 go_wp2
 refine wp_loop_rounds 1 ?_;rw[rounds_succ]
 go_wp2_with (go_at_call 287;refine(hi _).mono ?_;rintro e w' ⟨rfl,rfl⟩)
 (try simp only[Exit.inBlock,Exit.then])
 refine bodyPost_ret (results_none rfl _ _ _) rfl ?_;exact⟨rfl,rfl⟩
set_option maxRecDepth 100000 in
def GO(p:Option Addr)(cap:Nat)(fv:Value)(w:World):
 Calls prog 156 #[.slice p 0 cap,fv] w λe w'=>e=.returned (.tuple #[])/\w'=w:=by
 have hp:=λlim W=>IX p cap lim fv W
 have hl:∀W,Calls prog 127 #[.int .u64 0] W λe w'=>e=.returned (.int .i64 (Lib.bitLen 0:Nat))/\w'=W:=λW=>
  Any.bits_Len (SlLaysF0.n15.bits (P:=prog) (ρ:=pW) { wc with }) 0 W i4 i4
 go_enter func156,Tryz.ntmps156
 go_wp2_with (first | (go_at_call 127;refine(hl _).mono ?_;rintro e w' ⟨rfl,rfl⟩) | (go_at_call 238;refine(hp _ _).mono ?_;rintro e w' ⟨rfl,rfl⟩))
 go_end0
 exact⟨rfl,rfl⟩
abbrev TF:=Int×ByteArray×ByteArray
def lE(x:TF):List Value:=[.int .i64 x.1,.string x.2.1,.string x.2.2]
def iH(x:TF):aC:=⟨x.1,j8 x.2.1,j8 x.2.2⟩
def SH(x y:TF):Int:=AE (xT x.1 y.1) (jy x.2.1 y.2.1) (jy x.2.2 y.2.2)
def aC.av(f:aC):List AV:=[.int .i64 f.kind,.str f.part,.str f.name]
def sO(x y:ByteArray):Op.bytesLess x.toList y.toList=gB (j8 x) (j8 y):=by
 unfold j8;simp only[ByteArray.toList_eq];exact(oH _ _).symm
def ED(x y:ByteArray):(x.toList==y.toList)=decide (j8 x=j8 y):=by
 unfold j8;simp only[ByteArray.toList_eq];by_cases h:x.data.toList=y.data.toList
 ·rw[h];simp
 ·have:¬x.data.toList.map (·.toNat)=y.data.toList.map (·.toNat):=λhe=>h (List.map_inj_right (λx y=>UInt8.toNat_inj.1) |>.1 he);have h2:¬x.data=y.data:=λe=>h (by rw[e]);simp[h2,this]
def CW(x y:TF):ltOf SH x y=yF (iH x) (iH y):=by
 have e1:jy x.2.1 y.2.1=if gB (iH x).part (iH y).part=true then -1 else if (iH x).part=(iH y).part then 0 else 1:=by
  unfold jy;rw[sO,ED];simp only[wp];rfl
 have e2:jy x.2.2 y.2.2=if gB (iH x).name (iH y).name=true then -1 else if (iH x).name=(iH y).name then 0 else 1:=by
  unfold jy;rw[sO,ED];simp only[wp];rfl
 unfold ltOf SH yF;rw[e1,e2,show x.1=(iH x).kind from rfl,show y.1=(iH y).kind from rfl];generalize iH x=a;generalize iH y=b;unfold AE xT
 rcases c5 a.kind b.kind with h | h | h
 ·simp[h]
 ·have h1:¬a.kind<b.kind:=by omega
  have h2:¬b.kind<a.kind:=by omega
  cases g1:gB a.part b.part
  ·by_cases g2:a.part=b.part
   ·cases g3:gB a.name b.name
    ·by_cases g4:a.name=b.name<;>simp[h,g2,g4,ff]
    ·simp[h,g2,ff,g3]
   ·simp[h,g1,g2]
  ·simp[h,g1]
 ·have h1:¬a.kind<b.kind:=by omega
  have h2:¬a.kind=b.kind:=by omega
  simp[h,h1,h2]
def Ub:SWO (ltOf SH) where
 irrefl:=λx=>by rw[CW];exact CT _
 trans:=λx y z h1 h2=>by rw[CW] at *;exact oG h1 h2
 ntrans:=λx y z h1 h2=>by
  rw[CW] at *;cases h:yF (iH x) (iH z)
  ·rfl
  ·rcases CU (iH x) (iH y) with g | g | g
   ·rw[g] at h1;cases h1
   ·rw[g,h2] at h;cases h
   ·have:=oG g h;rw[h2] at this;cases this
def AM(Ew off size:Nat)(w:World):CmpLays prog 76 #[] lE 3 SH Ew off size w:=
 λ_ _ _ _ x y=>AL x.1 y.1 x.2.1 x.2.2 y.2.1 y.2.2 _
def Lq(x:TF):∀v∈lE x,v.oneCell'=true:=by
 intro v hv;simp[lE] at hv
 rcases hv with rfl | rfl | rfl<;>rfl
def S5:Option Value->ByteArray
 | some (.string s)=>s
 | _=>ByteArray.empty
def T4:Option Value->Int
 | some (.int _ n)=>n
 | _=>0
def F3(c:Array Value)(d i:Nat):TF:=(T4 c[d+i*3]?,S5 c[d+i*3+1]?,S5 c[d+i*3+2]?)
def LA{σ:Sg}{c:Array Value}{d:Nat}{ts:List aC}(hV:∀(i:Nat) (a:AV),(ts.map aC.av).flatten[i]?=some a->∃v,c[d+i]?=some v/\V σ a v){i:Nat}{t:aC}(ht:ts[i]?=some t):
 iH (F3 c d i)=t/\∀k,k<3->c[d+i*3+k]?=some (lE (F3 c d i))[k]!:=by
 have hw:∀r∈ts.map aC.av,r.length=3:=by intro r hr;obtain⟨t,_,rfl⟩:=mem_map.1 hr;rfl
 have hg:=(by rw[a8,ht];rfl:(ts.map aC.av)[i]?=some t.av);have h0:=pk hw hg (k:=0) i4;have h1:=pk hw hg (k:=1) i4;have h2:=pk hw hg (k:=2) i4;obtain⟨v0,g0,V0⟩:=hV _ _ (h0.trans (show t.av[0]?=some (.int .i64 t.kind) from rfl));obtain⟨v1,g1,V1⟩:=hV _ _ (h1.trans (show t.av[1]?=some (.str t.part) from rfl));obtain⟨v2,g2,V2⟩:=hV _ _ (h2.trans (show t.av[2]?=some (.str t.name) from rfl));rw[fl] at g0;rw[<-Nat.add_assoc] at g1 g2;cases V0
 cases V1 with
 | @str _ s0 e0=>cases V2 with
  | @str _ s1 e1=>
   have hrd:F3 c d i=(t.kind,s0,s1):=by unfold F3;rw[g0,g1,g2];rfl
   rw[hrd];refine⟨?_,λk hk=>?_⟩
   ·unfold iH j8;simp only[e0,e1]
   ·match k,hk with
    | 0,_=>rw[fl];exact g0
    | 1,_=>exact g1
    | 2,_=>exact g2
def GP(ts:List aC)(id cf:Nat)(h:Ev.H)(ho:h.aV.get id=some (.cells (ts.map aC.av).flatten cf))(hne:ts≠[])(hlen:ts.length<=1000000):
 dZ prog (.func 156) [.slice (some (id,0)) ts.length 3 none,.fn (.func 76) [] []] h (λr h'=>r=.cA []/\∃ts':List aC,ts'.Perm ts/\(ts'.Pairwise λa b=>yF b a=false)/\h.store id 0 (ts'.map aC.av).flatten=some h'):=by
 intro σ w args' hv hr;obtain⟨x,y,rfl,hx,hy⟩:=Et hv
 cases hy with
 | @fn _ _ _ fs' cs' hfy k1 k2 k3 k4=>
 have hfs:fs'=#[]:=ca (by rw[<-k1];rfl);have hcs:cs'=#[]:=ca (by rw[<-k3];rfl);subst hfs;subst hcs
 have hw0:∀r∈ts.map aC.av,r.length=3:=by intro r hr;obtain⟨t,_,rfl⟩:=mem_map.1 hr;rfl
 rw[ec dC func156 ii]
 have hpos:0<ts.length:=by
  cases ts with
  | nil=>exact un rfl hne
  | cons=>exact Nat.succ_pos _
 cases hx with
 | @slice _ _ _ _ _ a p c hs hl hrr hcc ha=>
 have ha:a=⟨p.b,p.d+0,none⟩:=ha.resolve_right i4;subst ha;obtain⟨q,carr,et,hq,hb,hsz,hlen',hVc⟩:=hr.cells ho;rw[hs] at hq;cases hq
 have hfl:(ts.map aC.av).flatten.length=ts.length*3:=by
  have:=jB (s:=3) hw0;rw[ac] at this;exact this
 have hpl:=hr.lt ho hs
 let d:Array TF:=Array.ofFn (n:=ts.length) λi=>F3 carr p.d i.1
 have hdsz:d.size=ts.length:=by simp[d]
 have hdi:∀i,i<ts.length->d[i]! = F3 carr p.d i:=λi hi=>by
  rw[getElem!_pos d i (by rw[hdsz];exact hi)];simp[d]
 have hspec:∀i,i<ts.length->ts[i]?=some (iH (F3 carr p.d i))/\∀k,k<3->carr[p.d+i*3+k]?=some (lE (F3 carr p.d i))[k]!:=λi hi=>
  have g:=LA hVc (jp hi)
  ⟨by rw[jp hi,g.1],g.2⟩
 have hH:HoldsK lE 3 w p.b (p.d+0) d:=by
  intro j hj;rw[size_flatK,hdsz] at hj
  have hi:j/3<ts.length:=by omega
  have hk:j%3<3:=by omega
  rw[get_flatK _ _ _ _ (by rw[hdsz];exact hj),hdi _ hi];have:=(hspec _ hi).2 _ hk;refine⟨?_,uR hb⟩;rw[cell_of hb,show p.d+0+j=p.d+j/3*3+j%3 by omega];exact this
 have hmain:=AnyQ.slices_SortFunc wc 3 Tryz.isAgg65 Tryz.sizeOf65 lE (λ_=>rfl) Lq SH Ub 76 #[] p.b (p.d+0) c d w (enters_of func76 zW rfl)
  (AM p.b (p.d+0) d.size w) hH hpl (by rw[hdsz];omega)
 rw[hdsz] at hmain;change Calls prog 156 _ _ _ at hmain;refine Calls.mono hmain ?_;rintro e w' ⟨rfl,d',n,os,⟨hp1,_,hp3⟩,hsorted,rfl⟩;rw[hdsz] at hp1
 have hdl:d.toList.map iH=ts:=by
  apply List.ext_getElem?;intro i;by_cases hi:i<ts.length
  ·rw[a8,ct,b5 (by rw[hdsz];exact hi),m6,(hspec i hi).1]
   congr 2
   have:=hdi i hi;rw[getElem!_pos d i (by rw[hdsz];exact hi)] at this;exact this
  ·rw[co (by simp[hdsz];omega),co i4]
 have hex:∀a:Array TF,a.size=ts.length->(a.extract 0 ts.length).toList=a.toList:=λa ha=>by
  rw[Array.toList_extract,List.extract_eq_take_drop,e5,Nat.sub_zero,b8 (by simp[ha])]
 rw[hex _ hp1,hex _ hdsz] at hp3
 have hperm:(d'.toList.map iH).Perm ts:=by rw[<-hdl];exact hp3.map _
 have hsx:(d'.toList.map iH).Pairwise λa b=>yF b a=false:=by
  rw[List.pairwise_iff_getElem];intro i j hi hj hij;rw[ac,c0] at hi hj;have:=hsorted i j (a6 _) hij i4;rw[getElem!_pos d' j hj,getElem!_pos d' i hi,CW] at this;simp only[List.getElem_map,Array.getElem_toList];exact this
 have hlen2:(d'.toList.map iH).length=ts.length:=by rw[ac,c0,hp1]
 have hw3:∀r∈(d'.toList.map iH).map aC.av,r.length=3:=by intro r hr;obtain⟨t,_,rfl⟩:=mem_map.1 hr;rfl
 have hb1:(putRowK lE 3 (Sort.ahead w n) p.b (p.d+0) d').heap[p.b]?=some (.cells (putCells _root_.id (p.d+0) (flatK lE 3 d') carr) et (0,0)):=by
  unfold putRowK putRow mapBlock;simp only[cp,if_true];rw[show(Sort.ahead w n).heap[p.b]?=some (.cells carr et (0,0)) from hb];rfl
 have hoth:∀b,b≠p.b->(putRowK lE 3 (Sort.ahead w n) p.b (p.d+0) d').heap[b]?=w.heap[b]?:=λb hbb=>by
  unfold putRowK putRow mapBlock;simp only[cp];rw[v6 (λe=>hbb e.symm)];rfl
 have hVn:∀(i:Nat) (a:AV),((d'.toList.map iH).map aC.av).flatten[i]?=some a->∃v,(putCells _root_.id (p.d+0) (flatK lE 3 d') carr)[p.d+i]?=some v/\V σ a v:=by
  intro i a hia
  have hil:i<ts.length*3:=by
   have:=Nq hia;rw[jB hw3,ac,hlen2] at this;exact this
  have hj:i/3<d'.size:=by omega
  have hrow:((d'.toList.map iH).map aC.av)[i/3]?=some (iH d'[i/3]!).av:=by
   rw[a8,a8,ct,b5 hj,getElem!_pos d' _ hj];rfl
  have hat:=pk hw3 hrow (k:=i%3) i4;rw[show i/3*3+i%3=i by omega,hia] at hat
  have hcl:p.d+i<carr.size:=by omega
  have hput:(putCells _root_.id (p.d+0) (flatK lE 3 d') carr)[p.d+i]?=some ((lE d'[i/3]!)[i%3]!):=by
   unfold putCells;rw[Array.getElem?_mapIdx,b5 hcl,m6,ut ⟨by omega,by rw[size_flatK];omega⟩];rw[show p.d+i-(p.d+0)=i by omega,get_flatK _ _ _ _ i4];rfl
  refine⟨_,hput,?_⟩;generalize d'[i/3]! = x at hat
  have h3:i%3=0\/i%3=1\/i%3=2:=by omega
  rcases h3 with e | e | e<;>rw[e] at hat ⊢
  ·cases hat;exact .int _ _
  ·cases hat;exact .str rfl
  ·cases hat;exact .str rfl
 obtain⟨r1,r2⟩:=hr.rewrite ho hs (cs':=((d'.toList.map iH).map aC.av).flatten) (by rw[jB hw3,ac,hlen2,hfl]) hb hb1 (by unfold putCells;rw[Array.size_mapIdx]) hVn hoth (by unfold putRowK putRow mapBlock;simp[Sort.ahead]) rfl rfl rfl
 have hbel:Below (putRowK lE 3 (Sort.ahead w n) p.b (p.d+0) d').heap.size (putRowK lE 3 (Sort.ahead w n) p.b (p.d+0) d') (grow (putRowK lE 3 (Sort.ahead w n) p.b (p.d+0) d') os):=
  ⟨rfl,rfl,rfl,by rw[size_grow];omega,λk hk=>by unfold grow;simp only;rw[Array.getElem?_append_left hk]⟩
 have hkeep:=sd r1 hbel;refine⟨_,rfl,.cA [],_,⟨rfl,d'.toList.map iH,hperm,hsx,?_⟩,σ,V.lH,hkeep.1,r2.trans hkeep.2⟩
 have hfl2:((d'.toList.map iH).map aC.av).flatten.length=(ts.map aC.av).flatten.length:=by rw[jB hw3,ac,hlen2,hfl]
 have hone:((d'.toList.map iH).map aC.av).flatten.all jR=true:=by
  rw[dt];intro x hx;rw[List.mem_flatten] at hx;obtain⟨r,hr1,hr2⟩:=hx;obtain⟨k,_,rfl⟩:=mem_map.1 hr1;unfold aC.av at hr2;simp only[cb,bv,or_false] at hr2
  rcases hr2 with rfl | rfl | rfl<;>rfl
 unfold H.store;rw[ho];simp only;rw[hfl2,Nat.zero_add,fc (ap _),hone,Bool.and_self,an,take_zero,nil_append,cl (ap _),bw]
def CF:∀l:List aC,iO (l.flatMap aM)=some (l.map aC.av).flatten
 | []=>rfl
 | a::l=>by
  show iO (ab a.kind::ah a.part::ah a.name::l.flatMap aM)=_;rw[iO,iO,iO,CF l];rfl
def JT:∀l:List aC,(l.flatMap aM).all eM=true
 | []=>rfl
 | a::l=>by rw[dd,List.all_append,JT l];rfl
def vK{l ks:List aC}(hp:ks.Perm l)(hn:l.Nodup)(hs:ks.Pairwise λa b=>yF b a=false):ks=gT l:=by
 have h1:=rB hn;have hk:ks.Nodup:=hp.nodup_iff.2 hn
 have h2:ks.Pairwise λa b=>yF a b=true:=by
  refine List.Pairwise.imp₂ ?_ hs hk;intro a b h e
  rcases CU a b with k | k | k
  ·exact k
  ·exact un k e
  ·rw[h] at k;cases k
 exact Perm.eq_of_pairwise (λa b _ _ h3 h4=>by have:=oG h3 h4;rw[CT] at this;cases this) h2 h1 (hp.trans (fG l).symm)
def gZ(f:aC):(aM f).length=3:=rfl
def dm(f:aC):bV (aM f)=true:=rfl
def GR(l:List aC)(hlen:l.length<=1000000)(hne:l≠[])(hn:l.Nodup):SC prog 156 [.buf 0 l.length 3 none,.fn 76 [] []] [.cells (l.flatMap aM)] [] (λr S'=>r=.cA []/\S'=[.cells ((gT l).flatMap aM)]):=by
 refine SC.row (by rw[bg gZ,bg gZ,(fG l).length_eq]) (λθ ρ xs hx=>ma hx (JT _)) ?_;intro E θ ρ h avs asx cf hl hR hA ho hV _;have has:=oq hV (CF l);subst has;rw[aN] at hA;obtain⟨a,r,rfl,hA1,hA⟩:=hA;rw[aN] at hA;obtain⟨b,r,rfl,hA2,hA⟩:=hA;rw[bl] at hA;subst hA;rw[VS] at hA1;rw[VS] at hA2;subst hA1;obtain⟨xs,ys,rfl,hxs,hys⟩:=hA2;rw[bl] at hxs;subst hxs;rw[bl] at hys;subst hys;refine(GP l _ _ h ho hne hlen).mono ?_;rintro v h' ⟨rfl,ts',hp,hs,hst⟩;have:=vK hp hn hs;subst this;refine⟨by rw[VS];exact⟨[],rfl,by rw[bl]⟩,_,?_,hst⟩;exact tg (CF _)
def D3(h:Ev.H):dZ prog (.func 156) [.slice none 0 0 (some 0),.fn (.func 76) [] []] h (λr h'=>r=.cA []/\h'=h):=by
 intro σ w args' hv hr;obtain⟨x,y,rfl,hx,hy⟩:=Et hv;rw[ec dC func156 ii]
 cases hx with
 | gS hl=>
  refine Calls.mono (GO _ _ y w) ?_;rintro e w' ⟨rfl,rfl⟩;exact⟨_,rfl,.cA [],h,⟨rfl,rfl⟩,σ,V.lH,hr,Ext.refl _ _ _⟩
def GQ:PC prog 156 [aR,.fn 76 [] []] (·=.a (.cA [])):=by
 intro ρ h avs _ hA;rw[dQ] at hA;obtain⟨a,r,rfl,hA1,hA⟩:=hA;rw[dQ] at hA;obtain⟨b,r,rfl,hA2,hA⟩:=hA;rw[eU] at hA;subst hA;rw[GS] at hA1;subst hA1;rw[GS] at hA2;obtain⟨xs,ys,rfl,hxs,hys⟩:=hA2;rw[eU] at hxs;subst hxs;rw[eU] at hys;subst hys;refine(D3 h).mono ?_;rintro v h' ⟨rfl,rfl⟩;exact⟨_,ρ,rfl,.refl _ _,λid ob hi=>.inl hi,by rw[GS]⟩
def cX(f:aC):AV:=.agg f.av
def aC.eq(a b:aC):fJ eC a.av b.av=decide (a=b):=by
 obtain⟨a1,a2,a3⟩:=a;obtain⟨b1,b2,b3⟩:=b;simp only[aC.av,fJ,eC,Ay,sf,lq,cn,fa,aC.mk.injEq,em]
def Gz:Keys prog 65 cX:=
 uV (ks:=[.i .i64,.s,.s]) zW (by simp only[aB,m6]) (λ_=>rfl) aC.eq λ_=>rfl
def IZ{S:List SO}{o:Nat}{l:List (aC×Bool)}(n:Int)(a b:List Nat)(u:Bool)(hS:S[o]?=some (bH cX ai l)):ij prog S 99 (.map o) (.ag [ab n,ah a,ah b]) (.a (.bool u))=some (S.set o (bH cX ai (cD (⟨n,a,b⟩:aC) u l))):=
 Ie (uv:=ai) (k:=(⟨n,a,b⟩:aC)) (kt:=65) (et:=4) (by simp only[aB]) Gz hS rfl u
def bm{n:Nat}{l:List (aC×Bool)}:bI n (bH cX ai l)=bH cX ai l:=mi λ_=>lY _
def QA(f:aC):ua (cX f)=.ag [ab f.kind,ah f.part,ah f.name]:=rfl
def jq(l:List aC):SO:=if l=[] then .gone else .cells (l.flatMap aM)
def Ib{l:List aC}(h:¬l=[]):jq l=.cells (l.flatMap aM):=v6 h
def FP:jq []=.gone:=rfl
def tN(r:Nat->Nat)(l:List aC):pJ r (jq l)=jq l:=by
 unfold jq;split
 ·rfl
 ·rw[J8];congr 1;exact bq (aD dm l)
def rf(o:Nat)(l:List aC):bI o (jq l)=jq l:=by
 unfold jq;split
 ·rfl
 ·rw[bI];congr 1;exact bU (aD dm l)
def sM(B:Nat)(l:List aC):mz B (jq l)=true:=by
 unfold jq;split
 ·rfl
 ·rw[mz];exact bQ (aD dm l)
def IP(L:List (aC×Bool)):PC prog 75 [lR cX ai L] (·=.fn 157 [] [.ip [lR cX ai L]]):=by
 refine pB 4 Tryz.func75 ?_;refine(zV) ?_;refine zZ [(1,.ip [lR cX ai L])] 0 rfl (gm @ak.eq_1) ?_
 (try change aF _ _ _ _ _)
 exact(zV)<|zo [.tmp 2]
def gN(lc:ju):SO:=.loop lc .ready none [(2,.ptr 1 0)]
def yv(o:Nat)(lc:ju)(h:¬1=o):bI o (gN lc)=gN lc:=by
 simp[gN,bI,bZ,aO,Ev.names,h]
def sG(lc:ju):Prop:=(prog.funcs[(237:Nat)]?.bind λfn=>fn.body.bind uN)=some (lc.a,lc.b)
def GB(L:List (aC×Bool))(lc:ju)(hcd:sG lc)(hln:lc.n=13)(hlp:lc.ps=#[7])(hlen:L.length<=100000)(hnd:(L.map (·.1)).Nodup):
 SC prog 157 [.a (.fn (.yield lc.id) [] []),.ip [lR cX ai L]] [gN lc,.cells [aR],.gone] [2] (λr S'=>r=.cA []/\∃out:List aC,out.Perm (L.map (·.1))/\S'=[gN lc,.cells [cx 2 3 out.length],jq out]):=by
 refine TL 14 func157 ?_;have hk3:=yv 3 lc g9;have hk4:=yv 4 lc g9;have hn4:=λn=>cF (p:=4) (o:=2) (e:=3) (n:=n) g9;refine(zC) ?_;refine aK.TH (ks:=L.map λe=>cX e.1) (vs:=L.map λe=>ai e.2) ii rfl rfl ii rfl (by simp only[aB]) ?_;intro bs c hbs;refine aK.r0 ii (by simp only[cN,bL,ak,aB,m7,m6,↓reduceIte,af,aj,ax,ad,al,an,au,bn,↓hk3];first | done | rfl) ?_
 (repeat refine aF.seq ?_)
 refine aF.block (aF.loop (λm st=>∃pos:List Nat,pos.Nodup/\(∀j∈pos,j<L.length)/\L.length-pos.length=m/\st=⟨[(0,.a (.fn (.yield lc.id) [] [])),(5,.ptr 3 0),(1000000,.ptr 0 0),(1000001,.ptr 1 0)],14,[gN lc,.cells [cx 2 3 (bo L pos).length],jq ((bo L pos).map (·.1)),.oB (L.map λe=>cX e.1) (L.map λe=>ai e.2) bs c pos],[]⟩) L.length (cm (xO @bo.eq_1 @List.filterMap_nil.{0,0} @map_nil.{0,0} @i5.{0} @lA @FP)) ⟨[],bb,λj hj=>by simp at hj,rfl,rfl⟩ (by rintro m st ⟨pos,_,_,_,rfl⟩;rfl) ?_);rintro m st ⟨pos,hpn,hpl,rfl,rfl⟩;refine aF.post ?_;refine(zC) ?_;refine aK.TD ii rfl rfl ii rfl rfl (λj hj=>by rw[ac];exact hpl j hj) ?_ ?_
 ·intro hall
  refine(zR)<|(gh) ?_;refine⟨⟨[(1000000,.ptr 0 0),(1000001,.ptr 1 0)],14,[gN lc,.cells [cx 2 3 (bo L pos).length],jq ((bo L pos).map (·.1))],[]⟩,zH,?_⟩
  simp only[eV,dh,cq,bP,if_true];exact zP [] (hq:=by (try simp only[ez,bK]);first | done | (exact⟨trivial,(bo L pos).map (·.1),(mG hpn hpl (λj hj=>hall j (by rw[ac];exact hj))).map _,by rw[ac]⟩))
 ·intro j hj hjn;rw[ac] at hj;obtain⟨e,he⟩:∃e,L[j]?=some e:=⟨L[j],jp hj⟩;obtain⟨q1,q2,q3⟩:=qz hpn hpl hj hjn;have hsn:=kQ L pos he
  refine(zR)<|(gz)<|(zC) ?_;refine aK.Tx (k:=cX e.1) (v:=ai e.2) ii rfl rfl ii rfl rfl (by rw[a8,he];rfl) (by rw[a8,he];rfl) ?_;refine aK.r0 ii (by simp only[cN,bL,ak,aB,m7,m6,↓reduceIte,af,aj,ax,ad,al,an,au,bn,QA,↓hk4,hn4,rf];first | done | rfl) ?_;refine(e9 @aM.eq_1) ?_;refine oA [(10,.a (.fn (.yield lc.id) [] [])),(11,.ag (aM e.1)),(0,.a (.fn (.yield lc.id) [] [])),(5,.ptr 3 0),(1000000,.ptr 0 0),(1000001,.ptr 1 0)] [gN lc,.cells [cx 2 3 (bo L pos).length],jq ((bo L pos).map (·.1)),.oB (L.map λe=>cX e.1) (L.map λe=>ai e.2) bs c (pos++[j])] (Fg.less (by (simp only[cN,bL,fF,↓reduceIte,af,aM,↓hk4,hn4,rf])<;>(repeat' apply ce)<;>first | rfl | trivial) (by (simp only[cN,bL,or_true,true_or,aM,↓hk4,hn4,rf])<;>(repeat' apply ce)<;>first | exact .inr rfl | exact .inl rfl | trivial)) ?_;refine aK.y (vs:=[.ag (aM e.1)]) (oo:=0) ii rfl rfl ii rfl rfl rfl ii rfl (by rw[hlp];rfl) (by rw[hln];rfl) (by rw[hln];decide) (by rw[hlp,hln];rfl) λro'=>?_
  have hcd2:=hcd;unfold sG at hcd2;rw[d9] at hcd2;have hcd3:=Option.some.inj (hcd2.symm.trans ii);obtain⟨ha,hbb⟩:=Prod.mk.inj hcd3;rw[ha,hlp,hln];have hhl:(bo L pos).length=((bo L pos).map (·.1)).length:=(ac _).symm;rw[hhl]
  have hol:((bo L pos).map (·.1)).length<=100000:=by rw[<-hhl];exact bc (b6 _ _) i4
  generalize hout:(bo L pos).map (·.1)=out at hol;change aF _ _ _ ⟨[(7,.ag (aM e.1)),(2,.ptr 1 0),(20000010,.a (.fn (.yield lc.id) [] [])),(20000011,.ag (aM e.1)),(20000000,.a (.fn (.yield lc.id) [] [])),(20000005,.ptr 3 0),(21000000,.ptr 0 0),(21000001,.ptr 1 0)],13,[gN lc,.cells [cx 2 3 out.length],jq out,.oB (L.map λe=>cX e.1) (L.map λe=>ai e.2) bs c (pos++[j])],[]⟩ _;refine(zs) ?_;refine aF.r0 ii (by simp only[cN,bL,ak,aB,m7,m6,↓reduceIte,af,aj,ax,ad,al,an,au,bn,aM,↓hk4,hn4,rf];first | done | rfl) ?_;refine⟨rfl,0,none,[(2,.ptr 1 0)],rfl,?_⟩;rw[hbb];refine(zB) ?_;change aF _ _ _ ⟨_,13,[.loop lc .busy none [(2,.ptr 1 0)],.cells [cx 2 3 out.length],jq out,.oB (L.map λe=>cX e.1) (L.map λe=>ai e.2) bs c (pos++[j]),.cells [ab e.1.kind,ah e.1.part,ah e.1.name]],[]⟩ _;by_cases ho:out=[]
  ·have hE1:cx 2 3 (bo L (pos++[j])).length=.buf 2 1 3 none:=by rw[hsn,li,hhl,hout,ho];rfl
   have hE2:jq ((bo L (pos++[j])).map (·.1))=.cells [ab e.1.kind,ah e.1.part,ah e.1.name]:=by rw[hsn,be,hout,ho];rfl
   rw[ho,FP,show cx 2 3 ([]:List aC).length=aR from rfl];refine(zV) ?_;refine⟨rfl,0,.busy,none,[(2,.ptr 1 0)],rfl,?_⟩;simp only[xV,laid,ad,ay,↓reduceIte]
   refine oA [(12,ai true),(0,.a (.fn (.yield lc.id) [] [])),(5,.ptr 3 0),(1000000,.ptr 0 0),(1000001,.ptr 1 0)] [gN lc,.cells [.buf 2 1 3 none],.cells [ab e.1.kind,ah e.1.part,ah e.1.name],.oB (L.map λe=>cX e.1) (L.map λe=>ai e.2) bs c (pos++[j])] (Fg.rn (f':=[(12,ai true),(0,.a (.fn (.yield lc.id) [] [])),(5,.ptr 3 0),(1000000,.ptr 0 0),(1000001,.ptr 1 0)]) (n:=14) (S':=[gN lc,.cells [.buf 2 1 3 none],.cells [ab e.1.kind,ah e.1.part,ah e.1.name],.oB (L.map λe=>cX e.1) (L.map λe=>ai e.2) bs c (pos++[j])]) [0,1,6,3] g9 rfl (L6 (na @gN.eq_1 @An.eq_1 @Am.eq_1 @xX.eq_1 @xV.eq_1)) (L7 (na @gN.eq_1 @An.eq_1 @Am.eq_1 @xX.eq_1 @xV.eq_1)))<|(zR)<|(zN) ?_;exact⟨⟨[(0,.a (.fn (.yield lc.id) [] [])),(5,.ptr 3 0),(1000000,.ptr 0 0),(1000001,.ptr 1 0)],14,[gN lc,.cells [.buf 2 1 3 none],.cells [ab e.1.kind,ah e.1.part,ah e.1.name],.oB (L.map λe=>cX e.1) (L.map λe=>ai e.2) bs c (pos++[j])],[]⟩,(cm @gN.eq_1),L.length-(pos++[j]).length,_,by rw[li];simp only[i7,i5];omega,(cm (cO @gN.eq_1 hE1 hE2)),pos++[j],q1,q2,rfl,rfl⟩
  ·have hk1:¬out.length=0:=λh=>ho (t8 h)
   have hE1:cx 2 3 (bo L (pos++[j])).length=.buf 2 (out.length+1) 3 none:=by rw[hsn,li,hhl,hout];exact en ge
   have hE2:jq ((bo L (pos++[j])).map (·.1))=.cells ((out++[e.1]).flatMap aM):=by rw[hsn,be,hout];exact Ib ge
   have hcl3:=bg gZ out;have hkc3:=λo=>bF dm o out;have happ:=mb gZ dm 2 out e.1;rw[show aM e.1=[ab e.1.kind,ah e.1.part,ah e.1.name] from rfl] at happ;rw[Ib ho,en hk1];refine(aA (na hkc3 hcl3 (show out.length<=1000000 by omega) @ap happ)) ?_;refine⟨rfl,0,.busy,none,[(2,.ptr 1 0)],rfl,?_⟩;simp only[xV,laid,ad,ay,↓reduceIte]
   refine oA [(12,ai true),(0,.a (.fn (.yield lc.id) [] [])),(5,.ptr 3 0),(1000000,.ptr 0 0),(1000001,.ptr 1 0)] [gN lc,.cells [.buf 2 (out.length+1) 3 none],.cells ((out++[e.1]).flatMap aM),.oB (L.map λe=>cX e.1) (L.map λe=>ai e.2) bs c (pos++[j])] (cm (na @gN.eq_1 @xV.eq_1 @An.eq_1 @Am.eq_1 @xX.eq_1))<|(zR)<|(zN) ?_;exact⟨⟨[(0,.a (.fn (.yield lc.id) [] [])),(5,.ptr 3 0),(1000000,.ptr 0 0),(1000001,.ptr 1 0)],14,[gN lc,.cells [.buf 2 (out.length+1) 3 none],.cells ((out++[e.1]).flatMap aM),.oB (L.map λe=>cX e.1) (L.map λe=>ai e.2) bs c (pos++[j])],[]⟩,(cm @gN.eq_1),L.length-(pos++[j]).length,_,by rw[li];simp only[i7,i5];omega,(cm (cO @gN.eq_1 hE1 hE2)),pos++[j],q1,q2,rfl,rfl⟩
def Dn(L:List (aC×Bool))(hlen:L.length<=100000)(hnd:(L.map (·.1)).Nodup):SC prog 237 [aR,.fn 157 [] [.ip [lR cX ai L]]] [] [] (λr S'=>∃out:List aC,out.Perm (L.map (·.1))/\r=cx 0 3 out.length/\S'=[jq out,.gone]):=by
 refine SC.sN (n:=13) dC d9 rfl rfl g9 (W:=[]) rfl g9 ?_;refine(og)<|zA [(2,.ptr 0 0),(6,.fn 157 [] [.ip [lR cX ai L]])] [.cells [aR],.gone] zH<|(zB) ?_;refine aF.tH (f1:=[(2,.ptr 0 0)]) dC ii func157 ii Uf ?_
 rintro N lc hid hn hps ha hb
 have hcd:sG lc:=by
  unfold sG;rw[d9,ha,hb];rfl
 have hsc:=GB L lc hcd hn hps hlen hnd;refine⟨[3,0,1],_,_,_,_,hsc,?_,rfl,by decide,?_,?_⟩
 ·simp only[gx,bL,cN,ak,bZ,aO,↓reduceIte,af,aj,ay,hid,List.map,e4,cons_append,nil_append]
  try rfl
 ·rintro(_ | _ | _ | i) so h
  ·cases h;exact⟨3,rfl,by rfl⟩
  ·cases h;exact⟨0,rfl,by rfl⟩
  ·cases h;exact⟨1,rfl,by rfl⟩
  ·cases h
 rintro r S' ⟨rfl,out,hp,rfl⟩
 have hbn:∀n:Nat,dF 3 (cx 2 3 n)=true:=λn=>by
  unfold cx;split
  ·exact gi rfl
  ·rfl
 have hrn3:∀(B n:Nat),pJ (jN [3,0,1] B) (.cells [cx 2 3 n])=.cells [cx 1 3 n]:=λB n=>by
  show SO.cells [fo _ _]=_;rw[dK];rfl
 refine⟨by simp only[gN,BV,gx,bL,ak,aj,al,decide_true,↓sM,↓hbn];first | done | rfl,3,.ready,none,[(2,.ptr 0 0)],by rfl,by decide,by rfl,?_⟩
 have hS2:(dN (dO (dO [SO.cells [aR],SO.gone] (SO.mf N)) (SO.loop lc .ready none [(2,.ptr 0 0)])) [3,0,1] [2] [gN lc,.cells [cx 2 3 out.length],jq out]).set 3 .gone=[.cells [cx 1 3 out.length],jq out,.mf N,.gone]:=by
  simp only[dN,dO,cy,di,fR,gw,i7,i5,List.map,ac,li,↓hrn3,↓tN];rfl
 rw[hS2];change aF _ _ _ ⟨[(2,.ptr 0 0)],13,[.cells [cx 1 3 out.length],jq out,.mf N,.gone],[{ fn:=none,Ew:=N,args:=[],cap:=[] }]⟩ _;refine(zV) ?_;refine zA [(4,cx 0 3 out.length)] [jq out,.mf N] (Fg.rn (f':=[(4,cx 0 3 out.length)]) (n:=13) (S':=[jq out,.mf N]) [1,2] g9 rfl (L6 (bx @dK @tN)) (L7 (bx @dK @tN))) ?_;refine aF.ret ?_
 (try simp only[eV,dh,cq,bP])
 exact⟨rfl,[(4,cx 0 3 out.length)],⟨rfl,trivial⟩,rfl,.inl ⟨rfl,1,rfl,⟨[cx 0 3 out.length],by rfl,out,hp,rfl,rfl⟩,a6 _,λi hi=>un hi (b7 _)⟩⟩
def rY(L:List (aC×Bool))(hlen:L.length<=100000)(hnd:(L.map (·.1)).Nodup):SC prog 155 [.fn 157 [] [.ip [lR cX ai L]]] [] [] (λr S'=>∃out:List aC,out.Perm (L.map (·.1))/\r=cx 0 3 out.length/\S'=[jq out,.gone]):=by
 refine LB 5 Tryz.func155 ?_;refine(jn) ?_;refine aK.sc [] ii rfl rfl ii rfl zc (Dn L hlen hnd) (by simp only[gx,bL,ak];first | done | rfl) rfl g9 (λi so h=>by simp at h) ?_ ?_
 ·rintro r S' ⟨out,hp,rfl,rfl⟩;exact⟨ft 1 3 _,by simp only[BV,↓sM];first | done | rfl⟩
 ·rintro r S' ⟨out,hp,rfl,rfl⟩;have e1:fo (jN [] ([]:List SO).length) (cx 0 3 out.length)=cx 0 3 out.length:=dK _ 0 3 _
  have e2:dN [] [] [] [jq out,.gone]=[jq out,.gone]:=by
   simp only[dN,di,fR,gw,i7,i5,List.map,↓tN];rfl
  rw[e1,e2]
  refine oA [(4,cx 0 3 out.length)] [jq out,.gone] zH<|(zR)<|(zE) ?_;exact zP [.tmp 2] (hq:=by (try simp only[ez,bK]);first | done | (exact⟨out,hp,rfl,rfl⟩))
def yZ{l out:List aC}(hp:out.Perm l)(hn:l.Nodup):gT out=gT l:=
 vK ((fG out).trans hp) hn ((rB (hp.nodup_iff.2 hn)).imp λ{a b} h=>by
  cases k:yF b a with
  | false=>rfl
  | true=>have:=oG h k;rw[CT] at this;cases this)
def A3:SC prog 74 [.fn 157 [] [.ip [lR cX ai []]],.fn 76 [] []] [] [] (λr S'=>r=aR/\S'=[]):=by
 refine LB 12 func74 ?_;refine(jn) ?_;refine aK.sc [] ii rfl rfl ii rfl zc (rY [] (a6 _) bb) (by simp only[gx,bL,ak];first | done | rfl) rfl g9 (λi so h=>by simp at h) ?_ ?_
 ·rintro r S' ⟨out,hp,rfl,rfl⟩;exact⟨ft 1 3 _,by simp only[BV,↓sM];first | done | rfl⟩
 ·rintro r S' ⟨out,hp,rfl,rfl⟩;obtain rfl:out=[]:=Perm.eq_nil hp
  refine oA [(7,aR),(1,.fn 76 [] [])] [] (cm (show fo (jN [] ([]:List SO).length) (cx 0 3 ([]:List aC).length)=aR from rfl))<|(zR)<|(zC)<|(zK GQ)<|(zR)<|(zV)<|(zE) ?_;exact zP [.tmp 4]
def D5(L:List (aC×Bool))(hlen:L.length<=100000)(hnd:(L.map (·.1)).Nodup)(hne:L≠[]):SC prog 74 [.fn 157 [] [.ip [lR cX ai L]],.fn 76 [] []] [] [] (λr S'=>r=.buf 0 L.length 3 none/\S'=[.cells ((gT (L.map (·.1))).flatMap aM)]):=by
 refine LB 12 func74 ?_;refine(jn) ?_;refine aK.sc [] ii rfl rfl ii rfl zc (rY L hlen hnd) (by simp only[gx,bL,ak];first | done | rfl) rfl g9 (λi so h=>by simp at h) ?_ ?_
 ·rintro r S' ⟨out,hp,rfl,rfl⟩;exact⟨ft 1 3 _,by simp only[BV,↓sM];first | done | rfl⟩
 ·rintro r S' ⟨out,hp,rfl,rfl⟩;have e1:fo (jN [] ([]:List SO).length) (cx 0 3 out.length)=cx 0 3 out.length:=dK _ 0 3 _
  have e2:dN [] [] [] [jq out,.gone]=[jq out,.gone]:=by
   simp only[dN,di,fR,gw,i7,i5,List.map,↓tN];rfl
  rw[e1,e2]
  have hol:out.length=L.length:=by rw[hp.length_eq,ac]
  have hon:out≠[]:=λe=>hne (t8 (by rw[<-hol,e];rfl));have hss:=GR out i4 hon (hp.nodup_iff.2 hnd);rw[yZ hp hnd,hol] at hss;have hcs:∀(r:Nat->Nat) (q:List aC),mM r (q.flatMap aM)=q.flatMap aM:=λr q=>bq (aD dm q);have hcb:∀(B:Nat) (q:List aC),iG B (q.flatMap aM)=true:=λB q=>bQ (aD dm q);have hck:∀(o:Nat) (q:List aC),(q.flatMap aM).map (aO o)=q.flatMap aM:=λo q=>bF dm o q;rw[Ib hon,hol,en (λh=>hne (t8 h))]
  refine oA [(7,.buf 0 L.length 3 none),(1,.fn 76 [] [])] [.cells (out.flatMap aM)] zH<|(zR)<|(zC) ?_;refine zS [0] (cO hcs hcb hck) hss ?_;refine(zR)<|(zV)<|(zE) ?_;exact zP [.tmp 4]
def r8(L:List (aC×Bool))(hlen:L.length<=100000)(hnd:(L.map (·.1)).Nodup):PC prog 30 [lR cX ai L] (·=ak 3 (gT (L.map (·.1))) aM):=by
 refine pB 6 Tryz.func30 ?_;refine(jn)<|(zK (IP L) (hfl:=.inr zr)) ?_
 by_cases hn0:L=[]
 ·subst hn0
  refine zS [] trivial A3 ?_;exact(zR)<|zo [.tmp 2] (r:=ak 3 ([]:List aC) aM) (hw:=.nil _)
 ·have hss:=D5 L hlen hnd hn0;have hcs:∀(r:Nat->Nat) (q:List aC),mM r (q.flatMap aM)=q.flatMap aM:=λr q=>bq (aD dm q);have hcb:∀(B:Nat) (q:List aC),iG B (q.flatMap aM)=true:=λB q=>bQ (aD dm q);have hck:∀(o:Nat) (q:List aC),(q.flatMap aM).map (aO o)=q.flatMap aM:=λo q=>bF dm o q
  have hsl:(gT (L.map (·.1))).length=L.length:=by rw[(fG _).length_eq,ac]
  refine zS [] (cO hcs hcb hck) hss ?_;exact(zR)<|zo [.tmp 2] (r:=.sl L.length 3 ((gT (L.map (·.1))).flatMap aM)) (hw:=.buf rfl (by rw[<-hsl,eD gZ];exact cC.refl (aD dm _)) (by rw[bg gZ,hsl];exact ap _)) (hq:=by rw[qG,hsl])
abbrev eE(m:List (aC×Bool))(L:List aC):List (aC×Bool):=L.foldl (λm f=>cD f true m) m
def uU(m:List (aC×Bool))(L:List aC)(f:aC):eE m (L++[f])=cD f true (eE m L):=by unfold eE;rw[List.foldl_append];rfl
def oz(m:List (aC×Bool))(L K:List aC):eE m (L++K)=eE (eE m L) K:=by unfold eE;rw[List.foldl_append]
def iF(r:Nat->Nat)(m:List (aC×Bool)):pJ r (bH cX ai m)=bH cX ai m:=by
 unfold bH;rw[pJ,bq (pw (uv:=ai) (λ_=>rfl) m)]
def eQ(B:Nat)(m:List (aC×Bool)):mz B (bH cX ai m)=true:=by
 unfold bH;rw[mz,bQ (pw (uv:=ai) (λ_=>rfl) m)]
def mq(m0:List (aC×Bool))(kind:Int)(part:List Nat)(names:List (List Nat))(hlen:names.length<=1000000):
 SC prog 29 [.map 0,ab kind,ah part,ak 1 names (aG ah)] [bH cX ai m0] [] (λr S'=>r=.cA []/\S'=[bH cX ai (eE m0 (names.map λn=>⟨kind,part,n⟩))]):=by
 refine Ot 22 Tryz.func29 ?_;refine(zV)<|(zs) ?_;refine zL names (λk=>True) (λk=>[(0,.map 0),(1,ab kind),(2,ah part),(10,ak 1 names (aG ah)),(11,ab names.length),(12,ab k),(1000000,.ptr 0 0)]) (λk=>[bH cX ai (eE m0 ((names.take k).map λn=>⟨kind,part,n⟩))]) (cm (cO @take_zero.{0} @map_nil.{0,0} @foldl_nil.{0,0})) zp ?_;intro k hk hall;refine zT names k ?_ ?_;rintro rfl;rotate_left;intro n hx hlt;rotate_left
 ·refine(gh) ?_;simp only[eV,dh,cq,bP,if_true];rw[a7];exact zP []
 refine(gz) ?_;obtain⟨M,hM⟩:∃M,M=eE m0 ((names.take k).map λn=>⟨kind,part,n⟩):=⟨_,rfl⟩
 have hnx:eE m0 ((names.take (k+1)).map λn=>⟨kind,part,n⟩)=cD ⟨kind,part,n⟩ true M:=by rw[c9 hx,be,bi,map_nil,uU,<-hM]
 rw[<-hM];clear hM
 refine(aA (cO hlt (aT (e:=1) (enc:=aG ah) gc hx) @aG.eq_1))<|(zs) ?_;refine aF.r0 ii (by simp only[cN,bL,ak,aB,m7,m6,↓reduceIte,af,aj,ax,ad,al,an,au,bn,IZ (l:=M)];first | done | rfl) ?_;refine(aA (zi hlt hlen)) ?_;refine zX hlt (cm hnx) trivial
def KM(l:List (List Nat)):(rN l).length<=l.length:=by
 have:∀n (l:List (List Nat)),l.length=n->(rN l).length<=l.length:=by
  intro n
  induction n with
  | zero=>intro l h;rw[t8 h];exact ap _
  | succ n ih=>
   intro l h
   rcases List.eq_nil_or_concat l with rfl | ⟨a,x,rfl⟩
   ·exact ap _
   ·have ha:a.length=n:=by simpa using h
    have:=ih a ha;rw[List.concat_eq_append,Hw];split<;>simp<;>omega
 exact this _ l rfl
structure jX (b:dy):Prop where
 eN:∀r∈b.rules,gn r.cond
 qC:∀r∈b.aL,gn r.cond
 Hy:∀d∈b.aW,B6 d
 hold:∀h∈b.holds,h.members.length<=1000000/\h.back.length<=1000000
 lr:b.rules.length<=100
 lc:b.aL.length<=100
 ld:b.aW.length<=100
 lh:b.holds.length<=100
 ls:b.bB.length<=1000000
 lx:b.cg.length<=1000000
def eB(r:iL):bj r=[ah r.name,ah r.kind,ab r.cond.op,ah r.cond.name,ah r.cond.value,ab r.cond.n,ab r.cond.extra,.sl r.cond.kids.length 6 (r.cond.kids.flatMap bf)]:=by
 unfold bj;rw[cE]
def nr(r:iL):(bj r).length=8:=by rw[eB];rfl
def tQ(b:dy)(ps:List ao)(day:Int)(p:ao)(r:iL):Bool:=decide (r.kind=p.kind)&&(!ns b.cg p.name r.name day&&!(decide (nR ps r.cond p.name day=2)))
def nD(ps:List ao)(day:Int)(p:ao)(r:iL):Bool:=decide (r.kind=p.kind)&&!(decide (nR ps r.cond p.name day=0))
variable{m:List (aC×Bool)}
def EX{q:iL->Bool}{g:iL->aC}{l:List iL}{k:Nat}{r:iL}(h:l[k]?=some r):eE m (((l.take (k+1)).filter q).map g)=if q r=true then cD (g r) true (eE m (((l.take k).filter q).map g)) else eE m (((l.take k).filter q).map g):=by
 rw[c9 h,bk,dv,filter_nil];split
 ·rw[be,bi,map_nil,uU]
 ·rw[bw]
def FT(ds:List ea)(c:List aU)(l:List bC)(part:List Nat)(day:Int):(eH ds c l part day).length<=ds.length:=by
 unfold eH LD;refine bc (KM _) ?_;rw[(rU _).length_eq,ac];refine bc (bh _ _) ?_;unfold kW;split
 ·exact a6 _
 ·split
  ·exact a6 _
  ·exact b6 _ _
abbrev qP(c:List aU)(dmg:bE)(b:dy)(l:List bC)(ps:List ao)(day:Int)(p:ao):Fm:=[(7,.ip (ae p)),(1,.ip (az b)),(2,.ip [ab day]),(3,.ip [ak 14 ps ae]),(4,.ptr 0 0),(5,.ip (ak 3 c aq::aE dmg)),(6,.ip [ak 14 l ar]),(1000000,.ptr 0 0),(1000001,.ptr 1 0)]
def Gg(c:List aU)(dmg:bE)(b:dy)(l:List bC)(ps:List ao)(day:Int)(p:ao)(m0:List (aC×Bool))(hb:jX b)(hc:mu c)(hl:l.length<20)(hle:∀e∈l,lK e)(hps:ps.length<=100000)(hpr:∀p∈ps,p.props.length<=1000000):
 SC prog 31 [.ag (ae p),.ip (az b),.ip [ab day],.ip [ak 14 ps ae],.ptr 0 0,.ip (ak 3 c aq::aE dmg),.ip [ak 14 l ar]] [.cells [.map 1],bH cX ai m0] [] (λr S'=>r=.cA []/\S'=[.cells [.map 1],bH cX ai (eE m0 (lg c b l ps day p))]):=by
 refine Rj 113 Tryz.func31 ?_;refine(zV) ?_;refine zZ (qP c dmg b l ps day p) 2 rfl (gm (bx @ak.eq_1 @ae.eq_1))<|zA (qP c dmg b l ps day p) [.cells [.map 1],bH cX ai m0] (cm @bm)<|(aA @az.eq_1) ?_
 have hlr:b.rules.length<=1000000:=bc hb.lr g9;have hlc:b.aL.length<=1000000:=bc hb.lc g9;rw[show lg c b l ps day p=((b.rules.filter (tQ b ps day p)).map λr=>⟨1,p.name,r.name⟩)++(((b.aL.filter (nD ps day p)).map λr=>⟨5,p.name,r.name⟩)++((eH b.aW c l p.name day).map (λn=>⟨3,p.name,n⟩)++(if fY c b.bB ps p.name day=true then [] else [⟨2,p.name,p.slot⟩]))) from rfl,oz,oz,oz]
 refine zA ((13,ak 8 b.rules bj)::(14,ab b.rules.length)::(15,ab 0)::qP c dmg b l ps day p) [.cells [.map 1],bH cX ai m0] zH<|(zs) ?_;refine zL b.rules (λk=>True) (λk=>(13,ak 8 b.rules bj)::(14,ab b.rules.length)::(15,ab k)::qP c dmg b l ps day p) (λk=>[.cells [.map 1],bH cX ai (eE m0 (((b.rules.take k).filter (tQ b ps day p)).map λr=>⟨1,p.name,r.name⟩))]) (cm (gr @take_zero.{0} @filter_nil.{0} @map_nil.{0,0} @foldl_nil.{0,0})) zp ?_;intro k hk hall;refine zT b.rules k ?_ ?_;rintro rfl;rotate_left;intro r hx hlt;rotate_left
 rotate_left
 ·obtain⟨M,hM⟩:∃M,M=eE m0 (((b.rules.take k).filter (tQ b ps day p)).map λr=>⟨1,p.name,r.name⟩):=⟨_,rfl⟩;have hnx:=EX (m:=m0) (q:=tQ b ps day p) (g:=λr=>⟨1,p.name,r.name⟩) hx;rw[<-hM] at hnx ⊢;clear hM;have hre:=eB r;have hh:=vR ps r.cond p.name day hps hpr (hb.eN r (aS hx));rw[cE] at hh;have hadd:=mq M 1 p.name [r.name] (by show 1<=1000000;decide);rw[show eE M ([r.name].map λn=>(⟨1,p.name,n⟩:aC))=cD ⟨1,p.name,r.name⟩ true M from rfl] at hadd
  refine(gz)<|(aA (gr hlt (aT (e:=8) (enc:=bj) nr hx) hre @bm))<|zA ((9,.ptr 2 0)::(13,ak 8 b.rules bj)::(14,ab b.rules.length)::(15,ab k)::qP c dmg b l ps day p) [.cells [.map 1],bH cX ai M,.cells [ah r.name,ah r.kind,ab r.cond.op,ah r.cond.name,ah r.cond.value,ab r.cond.n,ab r.cond.extra,.sl r.cond.kids.length 6 (r.cond.kids.flatMap bf)]] (cm @bm) ?_
  cases g1:decide (r.kind=p.kind)
  ·rw[v6 (by unfold tQ;rw[g1];simp)] at hnx
   refine(aA (bx g1 @ae.eq_1))<|(zN)<|(aA (zi hlt hlr)) ?_;refine zX hlt (cm hnx) trivial
  refine(e9 (cO g1 @ae.eq_1 @az.eq_1))<|(zK (DB b.cg p.name r.name day hb.lx)) ?_
  cases g2:ns b.cg p.name r.name day;rotate_left
  ·rw[v6 (by unfold tQ;rw[g2];simp)] at hnx
   refine(zR)<|(zN)<|(aA (zi hlt hlr)) ?_;refine zX hlt (cm hnx) trivial
  refine(L5 @ae.eq_1)<|(zK hh) ?_
  cases g3:decide (nR ps r.cond p.name day=2);rotate_left
  ·rw[v6 (by unfold tQ;rw[g3];simp)] at hnx
   refine(cP g3)<|(zN)<|(aA (zi hlt hlr)) ?_;refine zX hlt (cm hnx) trivial
  rw[ut (by unfold tQ;rw[g1,g2,g3];rfl)] at hnx
  refine(cP g3)<|(zY)<|(e9 (bx @ae.eq_1 @bm)) ?_;refine oZ ((50,ak 1 [r.name] (aG ah))::(47,ah p.name)::(45,.map 1)::(13,ak 8 b.rules bj)::(14,ab b.rules.length)::(15,ab k)::qP c dmg b l ps day p) 3 rfl ⟨.inr (.buf rfl (cC.refl rfl) (ap _)),zj⟩<|oA ((50,ak 1 [r.name] (aG ah))::(47,ah p.name)::(45,.map 1)::(13,ak 8 b.rules bj)::(14,ab b.rules.length)::(15,ab k)::qP c dmg b l ps day p) [.cells [.map 1],bH cX ai M] (cm @bm) ?_;refine zS [1] (cO @bm @iF @eQ) hadd ?_;refine(zR)<|(aA (zi hlt hlr)) ?_;refine zX hlt (cm hnx) trivial
 refine(gh) ?_;simp only[eV,dh,cq,bP,if_true];rw[a7];generalize eE m0 ((b.rules.filter (tQ b ps day p)).map λr=>⟨1,p.name,r.name⟩)=m1
 refine(aA @az.eq_1)<|zA ((54,ak 8 b.aL bj)::(55,ab b.aL.length)::(56,ab 0)::qP c dmg b l ps day p) [.cells [.map 1],bH cX ai m1] zH<|(zs) ?_;refine zL b.aL (λk=>True) (λk=>(54,ak 8 b.aL bj)::(55,ab b.aL.length)::(56,ab k)::qP c dmg b l ps day p) (λk=>[.cells [.map 1],bH cX ai (eE m1 (((b.aL.take k).filter (nD ps day p)).map λr=>⟨5,p.name,r.name⟩))]) (cm (gr @take_zero.{0} @filter_nil.{0} @map_nil.{0,0} @foldl_nil.{0,0})) zp ?_;intro k hk hall;refine zT b.aL k ?_ ?_;rintro rfl;rotate_left;intro r hx hlt;rotate_left
 rotate_left
 ·obtain⟨M,hM⟩:∃M,M=eE m1 (((b.aL.take k).filter (nD ps day p)).map λr=>⟨5,p.name,r.name⟩):=⟨_,rfl⟩;have hnx:=EX (m:=m1) (q:=nD ps day p) (g:=λr=>⟨5,p.name,r.name⟩) hx;rw[<-hM] at hnx ⊢;clear hM;have hre:=eB r;have hh:=vR ps r.cond p.name day hps hpr (hb.qC r (aS hx));rw[cE] at hh;have hadd:=mq M 5 p.name [r.name] (by show 1<=1000000;decide);rw[show eE M ([r.name].map λn=>(⟨5,p.name,n⟩:aC))=cD ⟨5,p.name,r.name⟩ true M from rfl] at hadd
  refine(gz)<|(aA (gr hlt (aT (e:=8) (enc:=bj) nr hx) hre @bm))<|zA ((11,.ptr 2 0)::(54,ak 8 b.aL bj)::(55,ab b.aL.length)::(56,ab k)::qP c dmg b l ps day p) [.cells [.map 1],bH cX ai M,.cells [ah r.name,ah r.kind,ab r.cond.op,ah r.cond.name,ah r.cond.value,ab r.cond.n,ab r.cond.extra,.sl r.cond.kids.length 6 (r.cond.kids.flatMap bf)]] (cm @bm) ?_
  cases g1:decide (r.kind=p.kind)
  ·rw[v6 (by unfold nD;rw[g1];simp)] at hnx
   refine(aA (bx g1 @ae.eq_1))<|(zN)<|(aA (zi hlt hlc)) ?_;refine zX hlt (cm hnx) trivial
  refine(e9 (cO g1 @ae.eq_1 @az.eq_1))<|(zK hh) ?_
  cases g3:decide (nR ps r.cond p.name day=0);rotate_left
  ·rw[v6 (by unfold nD;rw[g3];simp)] at hnx
   refine(cP g3)<|(zN)<|(aA (zi hlt hlc)) ?_;refine zX hlt (cm hnx) trivial
  rw[ut (by unfold nD;rw[g1,g3];rfl)] at hnx
  refine(cP g3)<|(zY)<|(e9 (bx @ae.eq_1 @bm)) ?_;refine oZ ((80,ak 1 [r.name] (aG ah))::(77,ah p.name)::(75,.map 1)::(54,ak 8 b.aL bj)::(55,ab b.aL.length)::(56,ab k)::qP c dmg b l ps day p) 3 rfl ⟨.inr (.buf rfl (cC.refl rfl) (ap _)),zj⟩<|oA ((80,ak 1 [r.name] (aG ah))::(77,ah p.name)::(75,.map 1)::(54,ak 8 b.aL bj)::(55,ab b.aL.length)::(56,ab k)::qP c dmg b l ps day p) [.cells [.map 1],bH cX ai M] (cm @bm) ?_;refine zS [1] (cO @bm @iF @eQ) hadd ?_;refine(zR)<|(aA (zi hlt hlc)) ?_;refine zX hlt (cm hnx) trivial
 refine(gh) ?_;simp only[eV,dh,cq,bP,if_true];rw[a7];generalize eE m1 ((b.aL.filter (nD ps day p)).map λr=>⟨5,p.name,r.name⟩)=m2;refine zA (qP c dmg b l ps day p) [.cells [.map 1],bH cX ai m2] zH ?_;have hov:=IW b.aW c l p.name day hb.Hy (bc hb.ld g9) hc hl hle;have hovl:(eH b.aW c l p.name day).length<=1000000:=bc (FT _ _ _ _ _) (bc hb.ld g9);have hpm:=wK c b.bB ps p.name day hc hb.ls i4;generalize eH b.aW c l p.name day=ov at hov hovl ⊢;generalize fY c b.bB ps p.name day=pm at hpm ⊢;have hadd:=mq m2 3 p.name ov hovl;generalize eE m2 (ov.map λn=>⟨3,p.name,n⟩)=m3 at hadd ⊢;have hadd2:=mq m3 2 p.name [p.slot] (by show 1<=1000000;decide);rw[show eE m3 ([p.slot].map λn=>(⟨2,p.name,n⟩:aC))=eE m3 [⟨2,p.name,p.slot⟩] from rfl] at hadd2;refine(zs) ?_;refine kZ [0,0,2,0,8,0,32,0,0,256,0,2040,4095] ?_;refine(xf (bx @ae.eq_1 @az.eq_1)) ?_;refine eP.kg ii rfl rfl ii rfl rfl zc hov (λS=>cC.refl rfl) rfl ?_;refine eP.Pd (f':=qP c dmg b l ps day p) (S':=[.cells [.map 1],bH cX ai m3]) zW rfl (λds_ K_ hK_=>?_) ?_
 ·refine zS [1] (cO @bm @iF @eQ) hadd ?_;refine oA (qP c dmg b l ps day p) [.cells [.map 1],bH cX ai m3] zH ?_;exact .nil hK_
 refine(kN)<|(e9 (bx @ae.eq_1 @az.eq_1))<|(zK hpm) ?_
 cases pm
 ·refine(zR)<|(zY)<|(e9 (bx @ae.eq_1 @bm)) ?_;refine oZ ((111,ak 1 [p.slot] (aG ah))::(108,ah p.name)::(106,.map 1)::qP c dmg b l ps day p) 2 rfl ⟨.inr (.buf rfl (cC.refl rfl) (ap _)),zj⟩<|oA ((111,ak 1 [p.slot] (aG ah))::(108,ah p.name)::(106,.map 1)::qP c dmg b l ps day p) [.cells [.map 1],bH cX ai m3] (cm @bm) ?_;refine zS [1] (cO @bm @iF @eQ) hadd2 ?_;refine(zR) ?_;exact zP []
 ·refine(zR)<|(zN) ?_;exact zP []
def Bs:∀(L:List aC) {m:List (aC×Bool)},(m.map (·.1)).Nodup->((eE m L).map (·.1)).Nodup
 | [],_,h=>h
 | f::L,_,h=>Bs L (tG (k:=f) (v:=true) h)
def yn:∀(L:List aC) (m:List (aC×Bool)),(eE m L).length<=m.length+L.length
 | [],_=>ap _
 | f::L,m=>by
  have h1:=yn L (cD f true m);have h2:=xl (k:=f) (v:=true) (m:=m);rw[i7];show(eE (cD f true m) L).length<=_;omega
def wU(c:List aU)(b:dy)(l:List bC)(ps:List ao)(day:Int)(p:ao):(lg c b l ps day p).length<=b.rules.length+b.aL.length+b.aW.length+1:=by
 unfold lg;rw[li,li,li,ac,ac,ac];have h1:=bh (λr:iL=>decide (r.kind=p.kind)&&(!ns b.cg p.name r.name day&&!(decide (nR ps r.cond p.name day=2)))) b.rules;have h2:=bh (λr:iL=>decide (r.kind=p.kind)&&!(decide (nR ps r.cond p.name day=0))) b.aL;have h3:=FT b.aW c l p.name day
 have h4:(if fY c b.bB ps p.name day=true then [] else [(⟨2,p.name,p.slot⟩:aC)]).length<=1:=by split<;>simp
 omega
def JV{α:Type}(enc:α->List SV)(z:α)(o:Option α):iU enc z o=.cA [.ag (enc (o.getD z)),ai o.isSome]:=by cases o<;>rfl
def BQ{dmg:bE}(hl:∀e∈l,lK e):(runN c dmg l day).1.length<=l.length:=by
 have key:∀(l:List bC) (i:Nat) (s:List ao),(∀p∈s,fq p)->(∀e∈l,lK e)->(oO c dmg i l s).1.length<=s.length+l.length:=by
  intro l
  induction l with
  | nil=>exact λi s _ _=>ap _
  | cons e r ih=>
   intro i s hs he;obtain⟨q1,q2,_,_⟩:=ot (c:=c) (ps:=s) (e:=e) hs (he e ba);rw[oO,i7];split
   ·split
    ·have:=ih (i+1) _ (xp (dmg:=dmg) (e:=e) q1).1 λx hx=>he x (am _ hx);rw[(xp (dmg:=dmg) (e:=e) q1).2] at this;omega
    ·have:=ih (i+1) _ q1 λx hx=>he x (am _ hx);omega
   ·exact a6 _
 unfold runN;split
 ·have:=key (eJ (dV (fe day) l)) 0 [] (λp h=>un h bv) λe he=>hl e (xm he);have:=Df l (fe day);simp only[i5] at *;omega
 ·exact a6 _
def Ij{dmg:bE}(hl:∀e∈l,lK e):∀p∈(runN c dmg l day).1,fq p:=by
 have key:∀(l:List bC) (i:Nat) (s:List ao),(∀p∈s,fq p)->(∀e∈l,lK e)->∀p∈(oO c dmg i l s).1,fq p:=by
  intro l
  induction l with
  | nil=>exact λi s h _=>h
  | cons e r ih=>
   intro i s hs he;obtain⟨q1,q2,_,_⟩:=ot (c:=c) (ps:=s) (e:=e) hs (he e ba);rw[oO];split
   ·split
    ·exact ih _ _ (xp q1).1 λx hx=>he x (am _ hx)
    ·exact ih _ _ q1 λx hx=>he x (am _ hx)
   ·exact λp h=>un h bv
 unfold runN;split
 ·exact key _ _ _ (λp h=>un h bv) λe he=>hl e (xm he)
 ·exact λp h=>un h bv
def K3{g:List Nat->List aC}{l:List (List Nat)}{k:Nat}{n:List Nat}(h:l[k]?=some n):eE m ((l.take (k+1)).flatMap g)=eE (eE m ((l.take k).flatMap g)) (g n):=by
 rw[c9 h,List.flatMap_append,oz,dd,List.flatMap_nil,bw]
def K6{q:mw->Bool}{g:mw->aC}{l:List mw}{k:Nat}{r:mw}(h:l[k]?=some r):eE m (((l.take (k+1)).filter q).map g)=if q r=true then cD (g r) true (eE m (((l.take k).filter q).map g)) else eE m (((l.take k).filter q).map g):=by
 rw[c9 h,bk,dv,filter_nil];split
 ·rw[be,bi,map_nil,uU]
 ·rw[bw]
abbrev QI(c:List aU)(dmg:bE)(b:dy)(l:List bC)(vehicle:List Nat)(day:Int):Fm:=[(3,ah vehicle),(5,.ip (ak 3 c aq::aE dmg)),(6,.ip (az b)),(7,.ip [ak 14 l ar]),(9,.ip [ab day])]
abbrev ng(c:List aU)(dmg:bE)(b:dy)(l:List bC)(ps:List ao)(vehicle:List Nat)(day:Int):Fm:=(11,.ptr 1 0)::(12,.ip [ak 14 ps ae])::QI c dmg b l vehicle day
def sB(c:List aU)(dmg:bE)(b:dy)(l:List bC)(vehicle:List Nat)(day:Int)(hb:jX b)(hc:mu c)(hf:gC dmg)(hl:l.length<20)(hle:∀e∈l,lK e):
 PC prog 12 [.ag (ak 3 c aq::aE dmg),.ag (az b),ak 14 l ar,ah vehicle,ab day] (·=ak 3 (fN c dmg b l vehicle day) aM):=by
 have hfl:(aE dmg).length=3:=eX dmg;have hft:(aE dmg).take 3=aE dmg:=b8 (by rw[hfl];exact ap _);have hfk:=λo:Nat=>bU (o:=o) (aY dmg);have hfn:=λo:Nat=>cr (o:=o) (aY dmg);have hru:=I3 c dmg l day hc hf hl hle;have hpl:(runN c dmg l day).1.length<=20:=bc (BQ hle) i4;have hpo:=Ij (c:=c) (dmg:=dmg) (day:=day) hle;unfold Tb at hru;obtain⟨R,hR⟩:∃R,R=fN c dmg b l vehicle day:=⟨_,rfl⟩;rw[<-hR];unfold fN at hR;generalize runN c dmg l day=rr at hru hpl hpo hR;have hfi:=λn=>iA rr.1 n i4;simp only[JV] at hfi;have hki:=λn=>kC c n hc.len;simp only[JV] at hki
 refine pB 116 Tryz.func12 ?_;refine(aA (cO hfk hfn @az.eq_1)) ?_;refine zZ [(3,ah vehicle),(5,.ip (ak 3 c aq::aE dmg)),(6,.ptr 1 0),(7,.ptr 2 0),(9,.ptr 3 0)] 0 rfl ⟨.inl rfl,.inr (.ptr rfl (cC.refl (aY dmg)) (a6 _)),zj⟩<|zZ [(3,ah vehicle),(5,.ip (ak 3 c aq::aE dmg)),(6,.ip (az b)),(7,.ptr 2 0),(9,.ptr 3 0)] 1 rfl (gm (bx @ak.eq_1 @az.eq_1))<|zZ [(3,ah vehicle),(5,.ip (ak 3 c aq::aE dmg)),(6,.ip (az b)),(7,.ip [ak 14 l ar]),(9,.ptr 3 0)] 2 rfl (gm @ak.eq_1)<|zZ (QI c dmg b l vehicle day) 3 rfl (gm @ak.eq_1)<|zA (QI c dmg b l vehicle day) [] zH<|(zV)<|zA ((11,.ptr 1 0)::QI c dmg b l vehicle day) [bH cX ai [],.cells [.map 0]] (cm (show SO.map [] [] none=bH cX ai [] from rfl))<|(e9 (bx hfl hft))<|(zK hru (hwk:=(.cons (.ag (cC.refl (aY dmg))) zr)) (hfl:=.inr (.cons (.ag (cC.refl (aY dmg))) zr)))<|(cP @bm) ?_
 generalize rr.1=ps at *
 refine zZ ((14,ab rr.2.2)::ng c dmg b l ps vehicle day) 2 rfl (gm @ak.eq_1)<|zA ((14,ab rr.2.2)::ng c dmg b l ps vehicle day) [bH cX ai [],.cells [.map 0]] (cm @bm)<|(zC)<|(zK (hfi vehicle) (hfl:=.inr zr)) ?_
 obtain⟨v,hv⟩:∃v,v=(cY ps vehicle).getD ao.zero:=⟨_,rfl⟩;obtain⟨is,his⟩:∃is,is=(cY ps vehicle).isSome:=⟨_,rfl⟩;rw[<-hv,<-his];have hek:ae v=[ah v.name,ah v.kind,ah v.bu,ah v.slot,ab v.made,ab v.since,ai v.cM,ak 2 v.props aI,ab v.l1,ab v.l2,ab v.l3,ab v.l4,ab v.l5,ab v.l6]:=rfl
 refine(cP (bx @bm hek)) ?_;refine zZ ((16,ai is)::(15,.ip (ae v))::(14,ab rr.2.2)::ng c dmg b l ps vehicle day) 2 rfl (gm (bx @ak.eq_1 @ae.eq_1))<|zA ((16,ai is)::(15,.ip (ae v))::(14,ab rr.2.2)::ng c dmg b l ps vehicle day) [bH cX ai [],.cells [.map 0]] (cm @bm)<|(e9 @ae.eq_1)<|(zK (hki v.kind) (hfl:=.inr zr)) ?_
 obtain⟨kd,hkd⟩:∃kd,kd=(dU c v.kind).getD aU.zero:=⟨_,rfl⟩;rw[<-hkd];generalize (dU c v.kind).isSome=kis
 refine(cP (bx @bm @aq.eq_1)) ?_;refine zZ ((17,.ip (aq kd))::(16,ai is)::(15,.ip (ae v))::(14,ab rr.2.2)::ng c dmg b l ps vehicle day) 2 rfl (gm (cO @ak.eq_1 @ae.eq_1 @aq.eq_1))<|zA ((17,.ip (aq kd))::(16,ai is)::(15,.ip (ae v))::(14,ab rr.2.2)::ng c dmg b l ps vehicle day) [bH cX ai [],.cells [.map 0]] (cm @bm) ?_
 obtain⟨bad,hbad⟩:∃bad:Bool,bad=(!(decide (rr.2.2=0))||(!is||(v.cM||!kd.vehicle))):=⟨_,rfl⟩
 (repeat refine aF.seq ?_)
 refine aF.mono (Q:=λex st=>ex=.normal/\Fg st ⟨(63,ai bad)::(15,.ip (ae v))::ng c dmg b l ps vehicle day,116,[bH cX ai [],.cells [.map 0]],[]⟩) ?_ ?_
 ·cases g0:decide (rr.2.2=0)
  ·rw[g0] at hbad;subst hbad;refine(aA g0) ?_;exact⟨rfl,(cm @bm)⟩
  cases g1:is
  ·rw[g0,g1] at hbad;subst hbad;refine(aA g0) ?_;exact⟨rfl,(cm @bm)⟩
  cases g2:v.cM;rotate_left
  ·rw[g0,g1,g2] at hbad;subst hbad;refine(aA (cO g0 @ae.eq_1 g2)) ?_;exact⟨rfl,(cm (cO @bm @ae.eq_1 g2))⟩
  cases g3:kd.vehicle
  ·rw[g0,g1,g2,g3] at hbad;subst hbad;refine(aA (na g0 @ae.eq_1 g2 @aq.eq_1 g3)) ?_;exact⟨rfl,(cm (cO @bm @ae.eq_1 g2))⟩
  ·rw[g0,g1,g2,g3] at hbad;subst hbad;refine(aA (na g0 @ae.eq_1 g2 @aq.eq_1 g3)) ?_;exact⟨rfl,(cm (cO @bm @ae.eq_1 g2))⟩
 rintro _ _ ⟨rfl,hfg⟩;simp only[dh];refine aF.fg hfg ?_;clear hfg
 have hRb:R=if bad=true then [⟨4,vehicle,[]⟩] else gT (tD (mF c b l ps vehicle day v)):=by
  rw[hR,hbad]
  cases hm:cY ps vehicle with
  | none=>rw[his,hm];simp
  | some w=>
   rw[hm] at hv his;have hv:v=w:=hv;subst hv;simp only[his,Option.isSome_some,dc,fb,<-hkd];by_cases k0:rr.2.2=0
   ·cases v.cM<;>cases kd.vehicle<;>simp[k0]
   ·simp[k0]
 cases bad;rotate_left
 ·rw[ut rfl] at hRb;have hadd:=mq [] 4 vehicle [[]] (by show 1<=1000000;decide);rw[show eE [] ([[]].map λn=>(⟨4,vehicle,n⟩:aC))=[(⟨4,vehicle,[]⟩,true)] from rfl] at hadd;have hord:=r8 [(⟨4,vehicle,[]⟩,true)] (by show 1<=100000;decide) ge;rw[show gT ([((⟨4,vehicle,[]⟩:aC),true)].map (·.1))=R from hRb.symm] at hord
  refine(zY)<|(e9 @bm) ?_;refine oZ ((66,ak 1 [([]:List Nat)] (aG ah))::(65,ah vehicle)::(64,.map 0)::ng c dmg b l ps vehicle day) 2 rfl ⟨.inr (.buf rfl (cC.refl rfl) (ap _)),zj⟩<|oA ((66,ak 1 [([]:List Nat)] (aG ah))::(65,ah vehicle)::(64,.map 0)::ng c dmg b l ps vehicle day) [bH cX ai [],.cells [.map 0]] (cm @bm) ?_;refine zS [0] (cO @bm @iF @eQ) hadd ?_;refine(zR) ?_;refine aF.fg (Fg.lP (f':=[(11,.ptr 1 0)]) (S':=[.gone,.cells [lR cX ai [(⟨4,vehicle,[]⟩,true)]]]) 0 rfl gt zj ⟨.inl rfl,.inr ⟨by decide,.inr ⟨_,_,rfl,rfl,.cons (l9 (λ_=>rfl) rfl) .nil⟩⟩,trivial⟩) ?_;exact zZ [(11,.ip [lR cX ai [((⟨4,vehicle,[]⟩:aC),true)]])] 1 rfl ⟨.inr (.ptr rfl (cC.refl rfl) (a6 _)),trivial⟩<|zA [(11,.ip [lR cX ai [((⟨4,vehicle,[]⟩:aC),true)]])] [] zH<|(zC)<|(zK hord (hfl:=.inr zr))<|(zR)<|zo [.tmp 10] (r:=ak 3 R aM) (hw:=Wk.refl rfl)
 rw[v6 Bool.false_ne_true] at hRb;have hpr:∀p∈ps,p.props.length<=1000000:=λp hp=>(hpo p hp).len;have hask:=λp m=>Gg c dmg b l ps day p m hb hc hl hle i4 hpr;have hin:=qI ps vehicle i4;have hil:=mH ps vehicle;unfold mF at hRb;generalize fQ ps vehicle=I at hin hil hRb;have hrc:∀(r:Nat->Nat) (l:List (List Nat)),mM r (l.flatMap (aG ah))=l.flatMap (aG ah):=λr l=>bq (aD (λ_=>rfl) l);have hbc:∀(B:Nat) (l:List (List Nat)),iG B (l.flatMap (aG ah))=true:=λB l=>bQ (aD (λ_=>rfl) l);have hkc:∀(o:Nat) (l:List (List Nat)),(l.flatMap (aG ah)).map (aO o)=l.flatMap (aG ah):=λo l=>bF (enc:=aG ah) gc o l
 have hlI:I.length<=1000000:=by omega
 have hlh:b.holds.length<=1000000:=bc hb.lh g9
 refine(lf)<|zA ((19,.fn 31 [] [.ip (az b),.ip [ab day],.ip [ak 14 ps ae],.ptr 1 0,.ip (ak 3 c aq::aE dmg),.ip [ak 14 l ar]])::(15,.ip (ae v))::ng c dmg b l ps vehicle day) [bH cX ai [],.cells [.map 0]] (cm @bm)<|(e9 @ae.eq_1) ?_;refine zS [1,0] (cO @bm @iF @eQ) (hask v []) ?_ (hc:=Ef (bx @cons_append.{0} @nil_append.{0}));refine(zR) ?_
 obtain⟨m1,hm1⟩:∃m1,m1=eE [] (lg c b l ps day v):=⟨_,rfl⟩;rw[<-hm1];refine zA ((19,.fn 31 [] [.ip (az b),.ip [ab day],.ip [ak 14 ps ae],.ptr 1 0,.ip (ak 3 c aq::aE dmg),.ip [ak 14 l ar]])::ng c dmg b l ps vehicle day) [bH cX ai m1,.cells [.map 0]] (cm @bm) ?_
 (repeat refine aF.seq ?_)
 refine aF.mono (Q:=λex st=>ex=.normal/\Fg st ⟨(76,ak 1 I (aG ah))::(77,ab I.length)::(78,ab 0)::(19,.fn 31 [] [.ip (az b),.ip [ab day],.ip [ak 14 ps ae],.ptr 1 0,.ip (ak 3 c aq::aE dmg),.ip [ak 14 l ar]])::ng c dmg b l ps vehicle day,116,[bH cX ai m1,.cells [.map 0]],[]⟩) ?_ ?_
 ·by_cases hL:I=[]
  ·subst hL;rw[show cx 0 1 ([]:List (List Nat)).length=aR from rfl,gR] at hin;refine(zC) ?_;refine aK.sk [] ii rfl rfl ii rfl zc (hin) (by simp only[gx,bL,ak,↓reduceIte,af,aj,ay,ax,ad,al,↓bm,iF,eQ];first | done | rfl) rfl g9 (by simp only[CH,gx,bL,ak,↓bm,iF,eQ]<;>(repeat' apply ce)<;>first | trivial | rfl | (intro hh;cases hh)) (by simp only[BV,gx,bL,ak,aj,al,decide_true,↓bm,iF,eQ];first | done | rfl) (by simp only[BV,gx,bL,ak,aj,al,decide_true,↓bm,iF,eQ];first | done | rfl) (by simp only[gx,bL,ak,↓reduceIte,af,aj,ay,ax,ad,al,↓bm,iF,eQ];first | done | rfl) (by simp only[gx,bL,ak,↓reduceIte,af,aj,ay,ax,ad,al,↓bm,iF,eQ,bZ,cy,bI,aO,cN];first | done | rfl) (by simp only[gx,bL,ak,↓reduceIte,af,aj,ay,ax,ad,al,↓bm,iF,eQ,bZ,cy,bI,aO,cN];first | done | rfl) ?_;refine(zR) ?_;exact⟨rfl,Fg.trans (Fg.wk (f':=(76,ak 1 ([]:List (List Nat)) (aG ah))::(77,ab (([]:List (List Nat)).length))::(78,ab 0)::(19,.fn 31 [] [.ip (az b),.ip [ab day],.ip [ak 14 ps ae],.ptr 1 0,.ip (ak 3 c aq::aE dmg),.ip [ak 14 l ar]])::ng c dmg b l ps vehicle day) ⟨.inr (Wk.nil 1),zj⟩) (cm @bm)⟩
  ·have hL0:¬I.length=0:=λh=>hL (t8 h);rw[en (o:=0) (e:=1) hL0,fV hL] at hin;refine(zC) ?_;refine aK.sk [] ii rfl rfl ii rfl zc (hin) (by simp only[gx,bL,ak,↓reduceIte,af,aj,ay,ax,ad,al,↓bm,iF,eQ,hrc,hbc,hkc];first | done | rfl) rfl g9 (by simp only[CH,gx,bL,ak,↓bm,iF,eQ,hrc,hbc,hkc]<;>(repeat' apply ce)<;>first | trivial | rfl | (intro hh;cases hh)) (by simp only[BV,gx,bL,ak,aj,al,decide_true,↓bm,iF,eQ,hrc,hbc,hkc];first | done | rfl) (by simp only[BV,gx,bL,ak,aj,al,decide_true,↓bm,iF,eQ,hrc,hbc,hkc];first | done | rfl) (by simp only[gx,bL,ak,↓reduceIte,af,aj,ay,ax,ad,al,↓bm,iF,eQ,hrc,hbc,hkc];first | done | rfl) (by simp only[gx,bL,ak,↓reduceIte,af,aj,ay,ax,ad,al,↓bm,iF,eQ,hrc,hbc,hkc,bZ,cy,bI,aO,cN];first | done | rfl) (by simp only[gx,bL,ak,↓reduceIte,af,aj,ay,ax,ad,al,↓bm,iF,eQ,hrc,hbc,hkc,bZ,cy,bI,aO,cN];first | done | rfl) ?_;refine(zR) ?_;exact⟨rfl,Fg.trans (Fg.freeze (f':=(76,ak 1 I (aG ah))::(77,ab I.length)::(78,ab 0)::(19,.fn 31 [] [.ip (az b),.ip [ab day],.ip [ak 14 ps ae],.ptr 1 0,.ip (ak 3 c aq::aE dmg),.ip [ak 14 l ar]])::ng c dmg b l ps vehicle day) 2 rfl gt ⟨.inr (.buf rfl (by rw[eD (enc:=aG ah) (e:=1) gc];exact cC.refl (aD (λ_=>rfl) _)) (by rw[bg (enc:=aG ah) (e:=1) gc];exact ap _)),zj⟩) (cm @bm)⟩
 rintro _ _ ⟨rfl,hfg⟩;simp only[dh];refine aF.fg hfg ?_;clear hfg hin;refine(zs) ?_;refine zL I (λk=>True) (λk=>(76,ak 1 I (aG ah))::(77,ab I.length)::(78,ab k)::(19,.fn 31 [] [.ip (az b),.ip [ab day],.ip [ak 14 ps ae],.ptr 1 0,.ip (ak 3 c aq::aE dmg),.ip [ak 14 l ar]])::ng c dmg b l ps vehicle day) (λk=>[bH cX ai (eE m1 ((I.take k).flatMap λn=>lg c b l ps day (dM ps n))),.cells [.map 0]]) (cm (cO @take_zero.{0} @List.flatMap_nil.{0,0} @foldl_nil.{0,0})) zp ?_;intro k hk hall;refine zT I k ?_ ?_;rintro rfl;rotate_left;intro n hx hlt;rotate_left;rotate_left
 ·have hnx:=K3 (m:=m1) (g:=λn=>lg c b l ps day (dM ps n)) hx;generalize eE m1 ((I.take k).flatMap λn=>lg c b l ps day (dM ps n))=M at hnx ⊢
  refine(gz)<|(aA (gr hlt (aT (e:=1) (enc:=aG ah) gc hx) @aG.eq_1 @bm))<|(zC)<|(zK (hfi n) (hfl:=.inr zr)) ?_
  rw[show(cY ps n).getD ao.zero=dM ps n from rfl];generalize (cY ps n).isSome=nis;have hnx:eE m1 ((I.take (k+1)).flatMap λn=>lg c b l ps day (dM ps n))=eE M (lg c b l ps day (dM ps n)):=hnx;generalize dM ps n=v at hnx ⊢;have hek:ae v=[ah v.name,ah v.kind,ah v.bu,ah v.slot,ab v.made,ab v.since,ai v.cM,ak 2 v.props aI,ab v.l1,ab v.l2,ab v.l3,ab v.l4,ab v.l5,ab v.l6]:=rfl
  refine(cP (bx @bm hek)) ?_;refine zZ ((22,.ip (ae v))::(76,ak 1 I (aG ah))::(77,ab I.length)::(78,ab k)::(19,.fn 31 [] [.ip (az b),.ip [ab day],.ip [ak 14 ps ae],.ptr 1 0,.ip (ak 3 c aq::aE dmg),.ip [ak 14 l ar]])::ng c dmg b l ps vehicle day) 2 rfl (gm (bx @ak.eq_1 @ae.eq_1))<|zA ((22,.ip (ae v))::(76,ak 1 I (aG ah))::(77,ab I.length)::(78,ab k)::(19,.fn 31 [] [.ip (az b),.ip [ab day],.ip [ak 14 ps ae],.ptr 1 0,.ip (ak 3 c aq::aE dmg),.ip [ak 14 l ar]])::ng c dmg b l ps vehicle day) [bH cX ai M,.cells [.map 0]] (cm @bm)<|(e9 @ae.eq_1) ?_;refine zS [1,0] (cO @bm @iF @eQ) (hask v M) ?_ (hc:=Ef (bx @cons_append.{0} @nil_append.{0}));refine(zR)<|(aA (zi hlt hlI)) ?_;refine zX hlt (cm hnx) trivial
 refine(gh) ?_;simp only[eV,dh,cq,bP,if_true];rw[a7];obtain⟨m2,hm2⟩:∃m2,m2=eE m1 (I.flatMap λn=>lg c b l ps day (dM ps n)):=⟨_,rfl⟩;rw[<-hm2]
 refine(aA @az.eq_1)<|zA ((93,ak 4 b.holds bG)::(94,ab b.holds.length)::(95,ab 0)::ng c dmg b l ps vehicle day) [bH cX ai m2,.cells [.map 0]] (cm @bm)<|(zs) ?_;refine zL b.holds (λk=>True) (λk=>(93,ak 4 b.holds bG)::(94,ab b.holds.length)::(95,ab k)::ng c dmg b l ps vehicle day) (λk=>[bH cX ai (eE m2 (((b.holds.take k).filter λh=>decide (h.vehicle=vehicle)&&AF h).map λh=>⟨6,vehicle,h.id⟩)),.cells [.map 0]]) (cm (gr @take_zero.{0} @filter_nil.{0} @map_nil.{0,0} @foldl_nil.{0,0})) zp ?_;intro k hk hall;refine zT b.holds k ?_ ?_;rintro rfl;rotate_left;intro h hx hlt;rotate_left
 rotate_left
 ·have hnx:=K6 (m:=m2) (q:=λh=>decide (h.vehicle=vehicle)&&AF h) (g:=λh=>⟨6,vehicle,h.id⟩) hx;generalize eE m2 (((b.holds.take k).filter λh=>decide (h.vehicle=vehicle)&&AF h).map λh=>⟨6,vehicle,h.id⟩)=M at hnx ⊢;have hadd:=mq M 6 vehicle [h.id] (by show 1<=1000000;decide);rw[show eE M ([h.id].map λn=>(⟨6,vehicle,n⟩:aC))=cD ⟨6,vehicle,h.id⟩ true M from rfl] at hadd;have hho:=hb.hold h (aS hx);have hout:=LW h hho.1 hho.2
  refine(gz)<|(aA (gr hlt (aT (e:=4) (enc:=bG) gc hx) @bG.eq_1 @bm))<|zA ((25,.ptr 2 0)::(93,ak 4 b.holds bG)::(94,ab b.holds.length)::(95,ab k)::ng c dmg b l ps vehicle day) [bH cX ai M,.cells [.map 0],.cells [ah h.id,ah h.vehicle,ak 1 h.members (aG ab),ak 1 h.back (aG ab)]] (cm @bm) ?_
  cases g1:decide (h.vehicle=vehicle)
  ·rw[v6 (by rw[g1];simp)] at hnx
   refine(aA g1)<|(zN)<|(aA (zi hlt hlh)) ?_;refine zX hlt (cm hnx) trivial
  refine(e9 g1)<|(zK hout) ?_
  cases g2:AF h
  ·rw[v6 (by rw[g2];simp)] at hnx
   refine(zR)<|(zN)<|(aA (zi hlt hlh)) ?_;refine zX hlt (cm hnx) trivial
  rw[ut (by rw[g1,g2];rfl)] at hnx
  refine(zR)<|(zY)<|(e9 @bm) ?_;refine oZ ((111,ak 1 [h.id] (aG ah))::(108,ah vehicle)::(107,.map 0)::(93,ak 4 b.holds bG)::(94,ab b.holds.length)::(95,ab k)::ng c dmg b l ps vehicle day) 3 rfl ⟨.inr (.buf rfl (cC.refl rfl) (ap _)),zj⟩<|oA ((111,ak 1 [h.id] (aG ah))::(108,ah vehicle)::(107,.map 0)::(93,ak 4 b.holds bG)::(94,ab b.holds.length)::(95,ab k)::ng c dmg b l ps vehicle day) [bH cX ai M,.cells [.map 0]] (cm @bm) ?_;refine zS [0] (cO @bm @iF @eQ) hadd ?_;refine(zR)<|(aA (zi hlt hlh)) ?_;refine zX hlt (cm hnx) trivial
 refine(gh) ?_;simp only[eV,dh,cq,bP,if_true];rw[a7];obtain⟨m3,hm3⟩:∃m3,m3=eE m2 ((b.holds.filter λh=>decide (h.vehicle=vehicle)&&AF h).map λh=>⟨6,vehicle,h.id⟩):=⟨_,rfl⟩;rw[<-hm3]
 have hm:m3=eE [] (lg c b l ps day v++((I.flatMap λn=>lg c b l ps day (dM ps n))++(b.holds.filter λh=>decide (h.vehicle=vehicle)&&AF h).map λh=>⟨6,vehicle,h.id⟩)):=by rw[oz,oz,<-hm1,<-hm2,<-hm3]
 have hk3:(m3.map (·.1)).Nodup:=by rw[hm];exact Bs _ bb
 have hl3:m3.length<=100000:=by
  rw[hm];refine bc (yn _ _) ?_;rw[i5,li,li,ac,List.length_flatMap];have q1:=wU c b l ps day v;have q2:=bh (λh:mw=>decide (h.vehicle=vehicle)&&AF h) b.holds
  have q3:(I.map λn=>(lg c b l ps day (dM ps n)).length).sum<=I.length*301:=by
   have:∀J:List (List Nat),(J.map λn=>(lg c b l ps day (dM ps n)).length).sum<=J.length*301:=by
    intro J
    induction J with
    | nil=>exact ap _
    | cons n J ih=>
     have q:=wU c b l ps day (dM ps n);have:=hb.lr;have:=hb.lc;have:=hb.ld;rw[bi,List.sum_cons,i7];omega
   exact this I
  have:=hb.lr;have:=hb.lc;have:=hb.ld;have:=hb.lh;omega
 have hord:=r8 m3 hl3 hk3;rw[show gT (m3.map (·.1))=R by rw[hRb,hm];rfl] at hord;clear hm hm3 hRb
 refine zA [(11,.ptr 1 0)] [bH cX ai m3,.cells [.map 0]] zH ?_;refine aF.fg (Fg.lP (f':=[(11,.ptr 1 0)]) (S':=[.gone,.cells [lR cX ai m3]]) 0 rfl gt zj ⟨.inl rfl,.inr ⟨by decide,.inr ⟨_,_,rfl,rfl,.cons (l9 (λ_=>rfl) rfl) .nil⟩⟩,trivial⟩) ?_;exact zZ [(11,.ip [lR cX ai m3])] 1 rfl ⟨.inr (.ptr rfl (cC.refl rfl) (a6 _)),trivial⟩<|zA [(11,.ip [lR cX ai m3])] [] zH<|(zC)<|(zK hord (hfl:=.inr zr))<|(zR)<|zo [.tmp 10] (r:=ak 3 R aM) (hw:=Wk.refl rfl)
end Go.Proofs
namespace Go.Ev
def Pe{P:Program}{t:TypeId}{xs ys:List AV}{b:Bool}(h:dk P .eql t (.agg xs) (.agg ys)=some (.bool b)):dk P .neq t (.agg xs) (.agg ys)=some (.bool (!b)):=by
 change cond (P.eqGuardType P.depth t) none ((ll P 8 t (.agg xs) (.agg ys)).map AV.bool)=_ at h;show cond (P.eqGuardType P.depth t) none ((ll P 8 t (.agg xs) (.agg ys)).map λb=>AV.bool (!b))=_
 revert h
 cases P.eqGuardType P.depth t
 ·cases ll P 8 t (.agg xs) (.agg ys)
  ·intro h;cases h
  ·intro h;injection h with h;injection h with h;subst h;rfl
 ·intro h;cases h
end Go.Ev
namespace Go.Proofs
open Go.Ev
set_option maxRecDepth 100000
def Gr(a b:aC):dk prog .eql 65 (.agg [.int .i64 a.kind,.str a.part,.str a.name]) (.agg [.int .i64 b.kind,.str b.part,.str b.name])=some (.bool (decide (a=b))):=
 sK (ks:=[.i .i64,.s,.s]) zW zW (by simp only[aB,m6]) rfl rfl (aC.eq a b)
def I4(a b:List aC)(ha:a.length<=1000000):PC prog 11 [ak 3 a aM,ak 3 b aM] (·=ai (decide (a=b))):=by
 refine pB 26 Tryz.func11 ?_;refine(zV) ?_;cases g:decide ((a.length:Int)=b.length)
 ·exact(aA g)<|(cL)<|zo [.tmp 4] (hq:=by rw[wd (λh=>wt g (by rw[h]))])
 refine(aA g)<|(lf) ?_
 have hl:a.length=b.length:=Int.ofNat.inj (ww g);refine(zs) ?_;refine zL a (λk=>a.take k=b.take k) (λk=>[(0,ak 3 a aM),(1,ak 3 b aM),(5,ab k)]) (λk=>[]) zH zp ?_;intro k hk hall;by_cases hlt:k<a.length;rotate_left
 ·obtain rfl:k=a.length:=by omega
  rw[a7,hl,a7] at hall
  exact(aA (show decide ((a.length:Int)<(a.length:Int))=false by simp))<|(gh)<|(zV)<|zo [.tmp 4] (hq:=by rw[wl hall])
 have hd:=show decide ((k:Int)<(a.length:Int))=true by simp only[wp];omega
 obtain⟨x,hx⟩:∃x,a[k]?=some x:=⟨a[k],jp hlt⟩
 have hlt2:k<b.length:=by omega
 obtain⟨y,hy⟩:∃y,b[k]?=some y:=⟨b[k],jp hlt2⟩
 refine(aA hd)<|(gz) ?_
 have hn:=Pe (Gr x y);refine(zs) ?_;refine oe [0,0,3,7,0,0,48,112,255] ?_;cases he:decide (x=y)
 ·rw[he] at hn
  exact(uA (xO hlt hlt2 (aT (e:=3) (enc:=aM) gc hx) (aT (e:=3) (enc:=aM) gc hy) @aM.eq_1 hn))<|(zM)<|(cL)<|zo [.tmp 4] (hq:=by rw[wd (λh=>by subst h;rw[hx] at hy;exact wt he (Option.some.inj hy))])
 ·rw[he] at hn
  refine(uA (xO hlt hlt2 (aT (e:=3) (enc:=aM) gc hx) (aT (e:=3) (enc:=aM) gc hy) @aM.eq_1 hn))<|(zM)<|(zN)<|(aA (zi hlt ha)) ?_;refine zX hlt zH (by rw[c9 hx,c9 hy,hall,ww he])
def No(l:List aC)(x:aC):Bool:=l.any λy=>decide (y=x)
def Np{l:List aC}{x:aC}:No l x=true↔x∈l:=by
 unfold No;rw[List.any_eq_true];exact⟨λ⟨y,h,e⟩=>ww e▸h,λh=>⟨x,h,wl rfl⟩⟩
def OE(l:List aC)(x:aC)(hlen:l.length<=1000000):PC prog 18 [ak 3 l aM,.ag (aM x)] (·=ai (No l x)):=by
 refine pB 18 Tryz.func18 ?_;refine(aA @aM.eq_1) ?_;refine zZ [(0,ak 3 l aM),(3,.ip (aM x))] 0 rfl (gm (bx @ak.eq_1 @aM.eq_1))<|zA [(0,ak 3 l aM),(3,.ip (aM x))] [] zH<|(zV)<|(zs) ?_;refine zL l (λk=>∀(i:Nat) y,i<k->l[i]?=some y->decide (y=x)=false) (λk=>[(0,ak 3 l aM),(3,.ip (aM x)),(5,ab k)]) (λk=>[]) zH zp ?_;intro k hk hall
 by_cases hlt:k<l.length;rotate_left
 ·exact(aA (show decide ((k:Int)<(l.length:Int))=false by simp only[wn];omega))<|(gh)<|(zV)<|zo [.tmp 4] (hq:=by rw[No,Cf λi y hi hy=>hall i y i4 hy])
 obtain⟨y,hx⟩:∃y,l[k]?=some y:=⟨l[k],jp hlt⟩
 refine(aA (show decide ((k:Int)<(l.length:Int))=true by simp only[wp];omega))<|(gz) ?_
 have hn:=Gr y x;refine(zs) ?_;refine oe [0,0,3,7,0,31] ?_;cases he:decide (y=x)
 ·rw[he] at hn
  refine(OZ (gr hlt (aT (e:=3) (enc:=aM) gc hx) @aM.eq_1 hn))<|(zM)<|(zN)<|(aA (zi hlt hlen)) ?_;refine zX hlt (cm @aM.eq_1) ?_
  intro i z hi hz;by_cases hik:i=k
  ·subst hik;rw[hx] at hz;cases hz;exact he
  ·exact hall i z i4 hz
 ·rw[he] at hn
  exact(OZ (gr hlt (aT (e:=3) (enc:=aM) gc hx) @aM.eq_1 hn))<|(zM)<|(cL)<|zo [.tmp 4] (hq:=by rw[No,Ce hx he])
inductive eS:aZ->Prop
 | mk {op:Int} {name value:List Nat} {n extra:Int} {kids:List aZ}:(∀b∈name,b<256)->(∀b∈value,b<256)->kids.length<=r9->(∀k∈kids,eS k)->eS (.mk op name value n extra kids)
mutual
def lB:aZ->Int->Int
 | .mk _ _ _ _ _ kids,most=>ik kids most 1
def ik:List aZ->Int->Int->Int
 | [],_,n=>n
 | k::ks,most,n=>if most<n then n else ik ks most (Cc n (lB k (tZ most n)))
end
def uj:∀(d:Nat) (f:aZ),SizeOf.sizeOf f<d->eS f->∀most:Int,PC Tryz.prog 169 [.ag (bf f),ab most] (·=ab (lB f most))
 | 0,f,hd,_,_=>un hd (Nat.not_lt_zero _)
 | d+1,.mk op name value n extra kids,hd,hf,most=>by
  cases hf with
  | mk _ _ hlen hks=>
  have hkd:∀k∈kids,SizeOf.sizeOf k<d:=λk hk=>by
   have h1:=List.sizeOf_lt_of_mem hk
   have h2:SizeOf.sizeOf (aZ.mk op name value n extra kids)=1+SizeOf.sizeOf op+SizeOf.sizeOf name+SizeOf.sizeOf value+SizeOf.sizeOf n+SizeOf.sizeOf extra+SizeOf.sizeOf kids:=by simp
   omega
  rw[gI,lB]
  refine pB 31 Tryz.func169 ?_;refine(zV) ?_;refine zZ [(1,ab most),(2,.ip [ab op,ah name,ah value,ab n,ab extra,ak 6 kids bf])] 0 rfl (gm @ak.eq_1)<|zA [(1,ab most),(2,.ip [ab op,ah name,ah value,ab n,ab extra,ak 6 kids bf])] [] zH<|(og)<|(zs) ?_;refine Jg kids (λk (acc:Int)=>ik kids most 1=ik (kids.drop k) most acc) (λk acc=>[(1,ab most),(2,.ip [ab op,ah name,ah value,ab n,ab extra,ak 6 kids bf]),(5,ab acc),(6,ab k)]) (λk acc=>[]) (1) zH ii ?_;intro k acc hk hall
  by_cases hlt:k<kids.length;rotate_left
  ·refine(aA (show decide ((k:Int)<(kids.length:Int))=false by simp only[wn];omega))<|(gh) ?_
   rw[List.drop_of_length_le i4,ik] at hall
   exact(zV)<|zo [.tmp 4] (hq:=by rw[hall])
  have hd:=show decide ((k:Int)<(kids.length:Int))=true by simp only[wp];omega
  obtain⟨x,hx⟩:∃x,kids[k]?=some x:=⟨kids[k],jp hlt⟩;rw[eW hx,ik] at hall;have hxm:=List.mem_of_getElem? hx;have ih:=uj d x (hkd x hxm) (hks x hxm);have hxl:((kids.flatMap bf).drop (k*6)).take 6=bf x:=aT (e:=6) (enc:=bf) jh hx;obtain⟨op',na',va',n',ex',kids'⟩:=x;simp only[gI] at hxl ih;cases h1:decide (acc<=most)
  ·rw[ut (by have:=wt h1;omega)] at hall
   exact(aA (bx hd h1))<|(gh)<|(zV)<|zo [.tmp 4] (hq:=by rw[hall])
  rw[v6 (by have:=ww h1;omega)] at hall
  refine(aA (bx hd h1))<|(gz)<|(e9 (cO hlt hxl @oi))<|(zK (ih (tZ most acc)))<|(cP @sJ)<|(aA (zi hlt hlen)) ?_;refine xu hlt (Cc acc (lB (.mk op' na' va' n' ex' kids') (tZ most acc))) zH hall
mutual
def mR:aZ->Bool
 | .mk _ name value _ _ kids=>!(decide (300<(name.length:Int)))&&(!(decide (300<(value.length:Int)))&&tX kids)
def tX:List aZ->Bool
 | []=>true
 | k::ks=>mR k&&tX ks
end
def sz:∀l:List aZ,tX l=l.all mR
 | []=>by rw[tX];rfl
 | k::l=>by rw[tX,sz l,List.all_cons]
def yM:∀(d:Nat) (f:aZ),SizeOf.sizeOf f<d->∀most:Int,-1000<=most->most<=1000->1<=lB f most/\(lB f most<=most+1\/lB f most=1)/\(lB f most<=most->eS f->mR f=true->gn f)
 | 0,f,hd,_,_,_=>un hd (Nat.not_lt_zero _)
 | d+1,.mk op name value n extra kids,hd,most,h0,h1=>by
  have hkd:∀k∈kids,SizeOf.sizeOf k<d:=λk hk=>by
   have h1:=List.sizeOf_lt_of_mem hk
   have h2:SizeOf.sizeOf (aZ.mk op name value n extra kids)=1+SizeOf.sizeOf op+SizeOf.sizeOf name+SizeOf.sizeOf value+SizeOf.sizeOf n+SizeOf.sizeOf extra+SizeOf.sizeOf kids:=by simp
   omega
  have key:∀(ks:List aZ) (acc:Int),(∀k∈ks,k∈kids)->1<=acc->(acc<=most+1\/acc=1)->1<=ik ks most acc/\(ik ks most acc<=most+1\/ik ks most acc=1)/\(ik ks most acc<=most->acc+ks.length<=ik ks most acc/\∀k∈ks,eS k->mR k=true->gn k):=by
   intro ks
   induction ks with
   | nil=>intro acc _ h2 h3;rw[ik];exact⟨h2,h3,λ_=>⟨by simp,λk hk=>by cases hk⟩⟩
   | cons k ks ih=>
    intro acc hm h2 h3;rw[ik];split
    ·rename_i hlt;exact⟨h2,h3,λh=>by omega⟩
    ·rename_i hlt;rw[Kr i4];obtain⟨b1,b2,b3⟩:=yM d k (hkd k (hm k List.mem_cons_self)) (most-acc) i4 i4;rw[Jj i4];obtain⟨c1,c2,c3⟩:=ih (acc+lB k (most-acc)) (λx hx=>hm x (List.mem_cons_of_mem _ hx)) i4 i4;refine⟨c1,c2,λh=>?_⟩;obtain⟨d1,d2⟩:=c3 h;refine⟨by rw[i7];omega,λx hx=>?_⟩
     rcases t7 hx with rfl | hx
     ·exact b3 i4
     ·exact d2 x hx
  rw[lB];obtain⟨c1,c2,c3⟩:=key kids 1 (λ_ h=>h) (Int.le_refl _) (.inr rfl);refine⟨c1,c2,λh hb hs=>?_⟩;obtain⟨d1,d2⟩:=c3 h
  cases hb with
  | mk n1 n2 _ n4=>
  rw[mR,sz] at hs;simp only[Bool.and_eq_true,Bool.not_eq_true',wn,List.all_eq_true] at hs;exact .mk ⟨by omega,n1⟩ ⟨by omega,n2⟩ i4 λk hk=>d2 k hk (n4 k hk) (hs.2.2 k hk)
def uo:∀(d:Nat) (f:aZ),SizeOf.sizeOf f<d->eS f->PC Tryz.prog 286 [.ag (bf f)] (·=ai (mR f))
 | 0,f,hd,_=>un hd (Nat.not_lt_zero _)
 | d+1,.mk op name value n extra kids,hd,hf=>by
  cases hf with
  | mk _ _ hlen hks=>
  have hkd:∀k∈kids,SizeOf.sizeOf k<d:=λk hk=>by
   have h1:=List.sizeOf_lt_of_mem hk
   have h2:SizeOf.sizeOf (aZ.mk op name value n extra kids)=1+SizeOf.sizeOf op+SizeOf.sizeOf name+SizeOf.sizeOf value+SizeOf.sizeOf n+SizeOf.sizeOf extra+SizeOf.sizeOf kids:=by simp
   omega
  rw[gI,mR,sz]
  refine pB 28 Tryz.func286 ?_;refine(zV) ?_;refine zZ [(1,.ip [ab op,ah name,ah value,ab n,ab extra,ak 6 kids bf])] 0 rfl (gm @ak.eq_1)<|zA [(1,.ip [ab op,ah name,ah value,ab n,ab extra,ak 6 kids bf])] [] zH ?_
  cases g1:decide (300<(name.length:Int));rotate_left
  ·exact(aA g1)<|(cL)<|zo [.tmp 2]
  cases g2:decide (300<(value.length:Int));rotate_left
  ·exact(aA (bx g1 g2))<|(cL)<|zo [.tmp 2]
  refine(aA (bx g1 g2))<|(lf)<|(zs) ?_;refine zL kids (λk=>(kids.take k).all mR=true) (λk=>[(1,.ip [ab op,ah name,ah value,ab n,ab extra,ak 6 kids bf]),(3,ab k)]) (λk=>[]) zH zp ?_;intro k hk hall
  by_cases hlt:k<kids.length;rotate_left
  ·refine(aA (show decide ((k:Int)<(kids.length:Int))=false by simp only[wn];omega))<|(gh) ?_
   obtain rfl:k=kids.length:=by omega
   rw[List.take_length] at hall
   exact(zV)<|zo [.tmp 2] (hq:=by rw[hall];rfl)
  obtain⟨x,hx⟩:∃x,kids[k]?=some x:=⟨kids[k],jp hlt⟩;have hxm:=List.mem_of_getElem? hx;have ih:=uo d x (hkd x hxm) (hks x hxm);have hxl:((kids.flatMap bf).drop (k*6)).take 6=bf x:=aT (e:=6) (enc:=bf) jh hx;obtain⟨b,hb⟩:∃b,b=mR x:=⟨_,rfl⟩;rw[<-hb] at ih;obtain⟨op',na',va',n',ex',kids'⟩:=x;simp only[gI] at hxl ih
  refine(aA (show decide ((k:Int)<(kids.length:Int))=true by simp only[wp];omega))<|(gz)<|(e9 (bx hlt hxl))<|(zK ih) ?_
  cases b
  ·exact(zR)<|(cL)<|zo [.tmp 2] (hq:=by rw[iq hxm hb.symm];rfl)
  ·refine(zR)<|(zN)<|(aA (zi hlt hlen)) ?_;refine zX hlt zH (gE hx hall hb.symm)
def KY(e:aZ):Bool:=decide (lB e 80<=80)&&mR e
def JE{e:aZ}(h:KY e=true)(hb:eS e):gn e:=by
 unfold KY at h;rw[bd] at h;exact(yM _ e (ck _) 80 g9 g9).2.2 (ww h.1) hb h.2
def DC(e:aZ)(he:eS e):PC prog 236 [.ag (bf e)] (·=ai (KY e)):=by
 have hN:=uj _ e (ck _) he 80;have hS:=uo _ e (ck _) he;unfold KY;generalize lB e 80=q at hN ⊢;generalize mR e=s at hS ⊢;refine pB 10 Tryz.func236 ?_;rw[cE] at hN hS ⊢
 refine(zV) ?_;refine zZ [(1,Ax e)] 0 rfl zG<|zA [(1,Ax e)] [] zH<|(zC)<|(zK hN) ?_
 cases g:decide (q<=80)
 ·exact(cP g)<|zo [.tmp 2]
 exact(L5 g)<|(zK hS)<|(zR)<|zo [.tmp 2]
def x7(r:iL):Bool:=decide (((r.name.length+r.kind.length:Nat):Int)<=300)&&KY r.cond
def IC(r:iL)(hr:r.name.length<=r9/\r.kind.length<=r9)(he:eS r.cond):PC prog 153 [.ag (bj r)] (·=ai (Proofs.x7 r)):=by
 have hC:=DC r.cond he;unfold Proofs.x7;generalize KY r.cond=s at hC ⊢;refine pB 16 Tryz.func153 ?_;rw[cE] at hC;rw[eB];have hadd:=wY (P:=prog) (t:=3) (a:=(r.name.length:Int)) (b:=(r.kind.length:Int)) (by have h1:r.name.length<=1000000000000000:=hr.1;have h2:r.kind.length<=1000000000000000:=hr.2;omega);rw[show(r.name.length:Int)+(r.kind.length:Int)=((r.name.length+r.kind.length:Nat):Int) from rfl] at hadd
 refine(zV) ?_;refine zZ [(1,.ip (bj r))] 0 rfl (gm @eB)<|zA [(1,.ip (bj r))] [] zH ?_
 cases g:decide (((r.name.length+r.kind.length:Nat):Int)<=300)
 ·exact(aA (cO @eB hadd g))<|zo [.tmp 2]
 exact(e9 (cO @eB hadd g))<|(zK hC)<|(zR)<|zo [.tmp 2]
def sg(l:List iL):Bool:=decide ((l.length:Int)<=5)&&l.all Proofs.x7
def vQ(l:List iL)(hlen:l.length<=r9)(hl:∀r∈l,(r.name.length<=r9/\r.kind.length<=r9)/\eS r.cond):PC prog 70 [ak 8 l bj,ab 5] (·=ai (Proofs.sg l)):=by
 refine pB 28 Tryz.func70 ?_;unfold Proofs.sg
 refine(og)<|(zs) ?_;refine zL l (λk=>(l.take k).all Proofs.x7=true) (λk=>[(0,ak 8 l bj),(1,ab 5),(5,ab k)]) (λk=>[]) zH zp ?_;intro k hk hall
 cases g5:decide ((l.length:Int)<=5)
 ·by_cases hlt:k<l.length
  ·exact(aA (bx (show decide ((k:Int)<(l.length:Int))=true by simp only[wp];omega) g5))<|(gh)<|(aA g5)<|zo [.tmp 4]
  ·exact(aA (bx (show decide ((k:Int)<(l.length:Int))=false by simp only[wn];omega) g5))<|(gh)<|(aA g5)<|zo [.tmp 4]
 by_cases hlt:k<l.length;rotate_left
 ·refine(aA (bx (show decide ((k:Int)<(l.length:Int))=false by simp only[wn];omega) g5))<|(gh) ?_
  obtain rfl:k=l.length:=by omega
  rw[a7] at hall
  exact(aA g5)<|zo [.tmp 4] (hq:=by rw[hall];rfl)
 obtain⟨x,hx⟩:∃x,l[k]?=some x:=⟨l[k],jp hlt⟩;have hxm:=aS hx;have hF:=IC x (hl x hxm).1 (hl x hxm).2;rw[eB] at hF
 refine(aA (bx (show decide ((k:Int)<(l.length:Int))=true by simp only[wp];omega) g5))<|(gz)<|(e9 (cO hlt (aT (e:=8) (enc:=bj) nr hx) @eB))<|(zK hF) ?_
 cases g:Proofs.x7 x
 ·exact(zR)<|(cL)<|zo [.tmp 4] (hq:=by rw[iq hxm g];rfl)
 ·refine(zR)<|(zN)<|(aA (zi hlt hlen)) ?_;refine zX hlt zH (gE hx hall g)
end Go.Proofs
