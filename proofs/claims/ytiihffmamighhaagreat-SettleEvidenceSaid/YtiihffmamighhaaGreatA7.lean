/- Lemmas of this claim, each with its conditions. -/
import Derived.Test.YtiihffmamighhaaGreatA6
import Derived.Test.YtiihffmamighhaaGreatA5
import Derived.Test.YtiihffmamighhaaGreatA4
import Derived.Test.YtiihffmamighhaaGreatA2
set_option linter.all false
set_option maxHeartbeats 8000000
open Go.Proofs.Tryz (prog func108 func119)
open List (map_cons mem_append mem_filter mem_map nil_append contains_iff_mem map_nil mem_range flatMap_cons flatMap_nil mem_filterMap all_eq_true foldl_nil take_zero Perm map_eq_nil_iff nodup_range pairwise_cons any_eq_false mem_flatMap set_set)
open Prod (fst snd ext)
open Nat (beq ble blt)
open Nat renaming reduceEqDiff -> ac, reduceLeDiff -> ad, reduceAdd -> aj, reduceLT -> ax, reduceMul -> ay, le_refl -> a6, reduceSub -> a9, mul_one -> bd, zero_le -> b7, not_lt_zero -> d6, strongRecOn -> d8, le_trans -> el, sub_self -> em, sub_zero -> en, min_eq_left -> fm, lt_succ_of_lt -> gb, lt_succ_self -> go, ne_of_lt -> gv, zero_add -> gY, beq_refl -> hW, le_total -> hX, zero_mul -> hZ
open List renaming length_map -> al, mem_of_getElem? -> ap, mem_cons_self -> aS, mem_cons_of_mem -> a0, getElem?_map -> a7, mem_singleton -> ba, getD_eq_getElem?_getD -> bc, ext_getElem? -> be, mem_append_left -> bh, filter_cons -> bi, sum_cons -> bk, foldl_cons -> bo, length_set -> bt, getElem?_set -> bw, nodup_cons -> bX, getElem?_set_self -> bZ, filterMap_cons -> b6, getElem?_eq_none -> b9, map_append -> ca, zip_cons_cons -> cb, take_length -> cd, getElem?_set_ne -> cf, range -> ci, append_assoc -> cj, append_nil -> cl, mem_map_of_mem -> cn, filter_append -> cp, mem_append_right -> ct, perm_ext_iff_of_nodup -> cv, replicate -> c0, getElem?_zip_eq_some -> dc, mem_of_find?_eq_some -> dd, map_congr_left -> dk, cons_append -> dv, length_take -> dN, foldl_append -> d9, not_mem_nil -> ey, getElem?_append_right -> eB, map_map -> eF, replicate_succ -> e5, mem_or_eq_of_mem_set -> fb, length_filterMap_le -> fl, filterMap_append -> fs, length_singleton -> fu, mem_cons -> fy, getElem?_append -> f4, range_succ -> f6, filter_filter -> f9, find?_eq_none -> ga, length_range -> gd, flatMap_def -> g5, map_set -> g7, length_zip -> hD, range_zero -> hK, nodup_nil -> hM, append -> h6
open Bool renaming and_eq_true -> a8, not_eq_true' -> bv, false_eq_true -> bx, or_eq_false_iff -> er, false_ne_true -> fd, or_eq_true -> f3, not_eq_false' -> f8, not_eq_true -> g4, false_or -> hV
open Int renaming le_of_lt -> b8, le_refl -> cc, le_trans -> cs, ofNat -> e6
open And renaming intro -> dt
open Option renaming isSome_some -> g6
open Go.Proofs.Tryz renaming func176 -> g8, func23 -> hU
namespace Go.Proofs
open Go.Ev
set_option maxRecDepth 100000
abbrev v6:Fm:=[(1000000,.ptr 0 0),(1000001,.ptr 1 0),(1000002,.ptr 2 0),(1000003,.ptr 3 0),(1000004,.ptr 4 0),(1000005,.ptr 5 0)]
abbrev v5:Fm:=[(1000000,.ptr 0 0),(1000001,.ptr 1 0),(1000003,.ptr 3 0),(1000004,.ptr 4 0),(1000005,.ptr 5 0)]
abbrev c6(c:List aF)(l:List aN)(lc:hY):Fm:=(1,.ip [an 3 c ao])::(2,.ip [an 2 l ae])::(3,.ptr 3 0)::(4,.ip [.a (.fn (.yield lc.id) [] [])])::(5,.ptr 5 0)::(6,.ptr 6 0)::v6
abbrev c5(c:List aF)(l:List aN)(lc:hY):Fm:=(1,.ip [an 3 c ao])::(2,.ip [an 2 l ae])::(3,.ptr 3 0)::(4,.ip [.a (.fn (.yield lc.id) [] [])])::(5,.ptr 5 0)::(6,.ptr 6 0)::v5
def QJ(ch:List Int):Prop:=∀n∈ch,n<0->n = -1
def CQ(c:List aF)(l:List aN)(lc:hY)(most:Int)(hcd:uX lc)(hln:lc.n=39)(hlp:lc.ps=#[26])(hc:kq c)(hl:∀r∈l,eu r)(hlen:l.length<20)(hl0:l≠[])(hm:most<=4096):∀(F i:Nat) (ch:List Int) (out:List (List Int)),i<=l.length->l.length<F+i->ch.length=l.length->QJ ch->(out.length:Int)<most->
 SC Tryz.prog 109 [aa i,.ip [an 3 c ao],.ip [an 2 l ae],.ptr 3 0,.ip [.a (.fn (.yield lc.id) [] [])],.ptr 5 0] (Ww c l lc most true out ch) [2] (λr S'=>r=au (dO c l most F i ch out).1/\S'=Ww c l lc most (dO c l most F i ch out).1 (dO c l most F i ch out).2 ch)
 | 0,i,ch,out,h1,h2,_,_,_=>by omega
 | F+1,i,ch,out,hi,hF,hch,hop,hout=>by
  have ih:=CQ c l lc most hcd hln hlp hc hl hlen hl0 hm F;have h0:ch≠[]:=λe=>hl0 (rx (by rw[<-hch,e];rfl));have hcl:=aM (enc:=aw aa) (e:=1) ce ch;have hal:=dw (enc:=aw aa) (e:=1) ce ch;have hkc:=λo=>bf (enc:=aw aa) ce o ch;have hk6:=λok=>nZ 6 lc most ok gc;have hn6:∀n,Ev.names 6 (bn 2 1 n)=false:=λn=>cC gc;refine SC.tU (n:=60) dQ Tryz.func109 rfl rfl gc (W:=v6) rfl (md rfl) ?_;unfold Ww
  refine(zs) ?_;refine aD.r0 ge (by simp only[cG,bG,an,az,m7,m6,↓reduceIte,Nat.reduceEqDiff,Nat.reduceAdd,Nat.reduceMul,Nat.reduceLeDiff,Nat.reduceLT,ah,ar,bD,↓mE,↓hk6,hn6,hkc,bl];first | done | rfl) ?_;refine(zC)<|(zK (G9 c l ch hc hl hlen gt) (hwk:=cS.cons (.ag zr) (.cons (.sl _ _ _) (.cons (.buf rfl (by rw[hal];exact cS.refl (aB (λ_=>rfl) ch)) (by rw[hcl];exact Nat.le_refl _)) .nil)))) ?_
  cases hfa:sh c l ch;rotate_left
  ·have hN:dO c l most (F+1) i ch out=(true,out):=by rw[dO,hfa];rfl
   refine(zR)<|(cN) ?_
   rw[hN];refine zA ((7,au true)::v6) (Ww c l lc most true out ch) (bK (br @Ww.eq_1 @bl.eq_1)) ?_;refine aD.ret ?_
   (try simp only[gK,eI,cQ,cr])
   exact⟨rfl,⟨[au true],by rfl,rfl,rfl⟩,Nat.le_refl _,(by rintro(_ | _ | _ | _ | _ | _ | i) hi2 hm2<;>first | rfl | (exfalso;omega) | (exfalso;simp only[i7,g9] at hi2;omega) | exact t7 f5 hm2)⟩
  refine(zR)<|(zN) ?_
  (repeat refine aD.seq ?_)
  refine aD.block (aD.loop (λm st=>∃k:Nat,(i<=k/\k<=l.length)/\gD ch k=gD ch i/\l.length-k=m/\st=⟨(c6 c l lc),60,[cR lc most true,.cells [bn 2 1 out.length],tR out,.cells [.buf 4 ch.length 1 (some ch.length)],.cells (ch.flatMap (aw aa)),.cells [bl c l lc],.cells [aa k]],[]⟩) (l.length-i) (bK @bl.eq_1) ⟨i,⟨Nat.le_refl _,hi⟩,rfl,rfl,rfl⟩ (by rintro m st ⟨k,_,_,_,rfl⟩;rfl) ?_);rintro m st ⟨k,⟨hik,hk⟩,hsk,rfl,rfl⟩;by_cases hlt:k<l.length
  ·have hkl:k<ch.length:=by omega
   obtain⟨n,hn⟩:∃n,ch[k]?=some n:=⟨ch[k],jp hkl⟩
   have hcell:(ch.flatMap (aw aa))[k]?=some (aa n):=by
    have h1:((ch.flatMap (aw aa)).drop (k*1)).take 1=[aa n]:=aH (e:=1) (enc:=aw aa) ce hn;have h2:=n9 (λl=>l[0]?) h1;simp only[List.getElem?_take,List.getElem?_drop,Nat.add_zero,Nat.mul_one] at h2;exact h2
   cases g:decide (0<=n);rotate_left
   ·refine(aA (ik (show decide ((k:Int)<(l.length:Int))=true by simp only[wp];omega) hkl hcell @Nat.mul_one g))<|(gJ)<|(aA (xn (show -9223372036854775808<=(k:Int)+1/\(k:Int)+1<=9223372036854775807 from⟨by omega,by omega⟩))) ?_;exact⟨l.length-(k+1),_,by omega,(bK @bl.eq_1),k+1,⟨by omega,by omega⟩,by rw[<-hsk,E7 hn (ww g)],rfl,rfl⟩
   have hk2:gD ch i=k:=by rw[<-hsk,E6 hn (wt g)]
   obtain⟨r,hr⟩:∃r,l[k]?=some r:=⟨l[k],jp hlt⟩
   have hN:dO c l most (F+1) i ch out=mX (λn out=>dO c l most F (k+1) (ch.set k n) out) (bp r).toNat 0 out:=by rw[dO,hfa,ul gc,hk2,hr]
   refine(aA (ik (show decide ((k:Int)<(l.length:Int))=true by simp only[wp];omega) hkl hcell @Nat.mul_one g))<|(fC) ?_
   (try change aD _ _ _ _ _)
   refine(aA (show decide ((k:Int)=(l.length:Int))=false by simp only[wd];omega))<|(zN) ?_
   have hn1:n = -1:=hop n (List.mem_of_getElem? hn) (by have:=wt g;omega)
   have hch0:ch.set k (-1)=ch:=by
    apply List.ext_getElem?;intro j;by_cases hj:k=j
    ·subst hj;rw[List.getElem?_set_self hkl,hn,hn1]
    ·rw[List.getElem?_set_ne hj]
   have hset:∀x y:Int,((ch.set k x).flatMap (aw aa)).take k++(aa y::((ch.set k x).flatMap (aw aa)).drop (k+1))=(ch.set k y).flatMap (aw aa):=by
    intro x y;have hs:=nL (enc:=aw aa) (e:=1) ce (l:=ch.set k x) (i:=k) y (by rw[List.length_set];exact hkl);rw[show aw aa y=[aa y] from rfl,List.cons_append,List.nil_append,Nat.mul_one,List.set_set] at hs;exact hs
   have hcl2:∀x:Int,((ch.set k x).flatMap (aw aa)).length=ch.length:=λx=>by rw[aM (enc:=aw aa) (e:=1) ce,List.length_set,Nat.mul_one]
   have hkc2:=λ(x:Int) (o:Nat)=>bf (enc:=aw aa) ce o (ch.set k x);have hrk:eu r:=hl r (List.mem_of_getElem? hr);have hr1:=hrk.len;have hcr:=uk r;rw[hN];generalize hG:(λ(n:Nat) out=>dO c l most F (k+1) (ch.set k (n:Int)) out)=G;generalize hFin:mX G (bp r).toNat 0 out=fin;refine(zC) ?_;refine aJ.defer ge rfl rfl ge gc rfl rfl rfl ge λa ha=>?_;change aJ _ _ _ _ ⟨(7000000,_)::_,_,_,_⟩ _;refine(zR) ?_
   have hret:∀x:Int,Xx Tryz.prog Tryz.f109 6 [2] (λr S'=>r=au fin.1/\S'=[cR lc most fin.1,.cells [bn 2 1 fin.2.length],tR fin.2,.cells [.buf 4 ch.length 1 (some ch.length)],.cells (ch.flatMap (aw aa)),.cells [bl c l lc]]) .ret ⟨[(7,au fin.1),(1000000,.ptr 0 0),(1000001,.ptr 1 0),(1000003,.ptr 3 0),(1000004,.ptr 4 0),(1000005,.ptr 5 0),(7000000,.fn 113 [] [.ptr 3 0,.ptr 6 0])],60,[cR lc most fin.1,.cells [bn 2 1 fin.2.length],tR fin.2,.cells [.buf 4 ch.length 1 (some ch.length)],.cells ((ch.set k x).flatMap (aw aa)),.cells [bl c l lc],.cells [aa k]],[a]⟩:=by
    intro x;refine⟨rfl,((7,au fin.1)::v5),by simp only[uY,aP,Nat.reduceEqDiff,↓reduceIte,and_self],rfl,.inr ⟨113,[],[.ptr 3 0,.ptr 6 0],_,_,5,ha,rfl,Tryz.func113,rfl,rfl,by decide,?_⟩⟩;refine aD.post ?_;change aD _ _ _ ⟨[(0,.ptr 3 0),(1,.ptr 6 0),(20000007,au fin.1),(21000000,.ptr 0 0),(21000001,.ptr 1 0),(21000003,.ptr 3 0),(21000004,.ptr 4 0),(21000005,.ptr 5 0)],5,_,[]⟩ _;refine(aA (ik hkl hcl2 @Nat.mul_one (show k+1<=ch.length by omega) hset)) ?_;refine⟨⟨[(20000007,au fin.1),(21000000,.ptr 0 0),(21000001,.ptr 1 0),(21000003,.ptr 3 0),(21000004,.ptr 4 0),(21000005,.ptr 5 0)],5,[cR lc most fin.1,.cells [bn 2 1 fin.2.length],tR fin.2,.cells [.buf 4 ch.length 1 (some ch.length)],.cells (ch.flatMap (aw aa)),.cells [bl c l lc]],[]⟩,(bK (br @bl.eq_1 hch0)),rfl,rfl,⟨[],rfl⟩,⟨[au fin.1],by rfl,rfl,rfl⟩,Nat.le_refl _,(by rintro(_ | _ | _ | _ | _ | _ | i) hi2 hm2<;>first | rfl | (exfalso;omega) | (exfalso;simp only[i7,g9] at hi2;omega) | exact t7 f5 hm2)⟩
   refine(jH (cA hlt (aH (e:=2) (enc:=ae) ce hr) @ae.eq_1))<|(zK (jv r hrk))<|(zR) ?_
   rw[show(ch.flatMap (aw aa))=((ch.set k (-1)).flatMap (aw aa)) by rw[hch0]]
   (repeat refine aD.seq ?_)
   refine aD.block (aD.loop (λm st=>∃(nn:Nat) (x:Int) (o:List (List Int)),(nn<=(bp r).toNat/\mX G ((bp r).toNat-nn) nn o=fin/\(o.length:Int)<most)/\(bp r).toNat-nn=m/\st=⟨[(46,aa (bp r)),(47,aa nn),(1,.ip [an 3 c ao]),(2,.ip [an 2 l ae]),(3,.ptr 3 0),(4,.ip [.a (.fn (.yield lc.id) [] [])]),(5,.ptr 5 0),(6,.ptr 6 0),(1000000,.ptr 0 0),(1000001,.ptr 1 0),(1000003,.ptr 3 0),(1000004,.ptr 4 0),(1000005,.ptr 5 0),(7000000,.fn 113 [] [.ptr 3 0,.ptr 6 0])],60,[cR lc most true,.cells [bn 2 1 o.length],tR o,.cells [.buf 4 ch.length 1 (some ch.length)],.cells ((ch.set k x).flatMap (aw aa)),.cells [bl c l lc],.cells [aa k]],[a]⟩) ((bp r).toNat) (bK @bl.eq_1) ⟨0,-1,out,⟨Nat.zero_le _,hFin,hout⟩,rfl,rfl⟩ (by rintro m st ⟨_,_,_,_,_,rfl⟩;rfl) ?_);rintro m st ⟨nn,x,o,⟨hnn,htr,ho⟩,rfl,rfl⟩;by_cases hC:(nn:Int)<bp r
   ·obtain⟨s,hs⟩:∃s,(bp r).toNat-nn=s+1:=⟨(bp r).toNat-nn-1,by omega⟩;rw[hs,mX] at htr
    refine(aA (show decide ((nn:Int)<bp r)=true from ut hC))<|(gJ)<|(zV)<|(aA (ik hkl hcl2 @Nat.mul_one (show k+1<=ch.length by omega) hset)) ?_
    have hi:=ih (k+1) (ch.set k (nn:Int)) o gt gt (by rw[List.length_set];exact hch) (λy hy hy0=>(List.mem_or_eq_of_mem_set hy).elim (λh=>hop y h hy0) (λh=>by omega)) ho;unfold Ww at hi
    have hGn:dO c l most F (k+1) (ch.set k (nn:Int)) o=G nn o:=by rw[<-hG]
    rw[List.length_set,hGn] at hi
    have hqlt:(G nn o).1=true->((G nn o).2.length:Int)<most:=by rw[<-hGn];exact BD F _ _ _ ho
    generalize G nn o=q at hi htr hqlt;have hrc:∀(r:Nat->Nat) (x:Int),me r ((ch.set k x).flatMap (aw aa))=(ch.set k x).flatMap (aw aa):=λr x=>bg (aB (λ_=>rfl) _);have hbc:∀(B:Nat) (x:Int),ia B ((ch.set k x).flatMap (aw aa))=true:=λB x=>bH (aB (λ_=>rfl) _);refine(jH (br @bl.eq_1 (xn (show -9223372036854775808<=(k:Int)+1/\(k:Int)+1<=9223372036854775807 from⟨by omega,by omega⟩)))) ?_;rw[show((k+1:Nat):Int)=(k:Int)+1 by omega] at hi;have hrl:∀(B:Nat) (ok:Bool),oI (kM [0,1,2,3,4,5] B) (cR lc most ok)=cR lc most ok:=λB ok=>Cm _ lc most ok rfl;have hbl:∀ok:Bool,lG 6 (cR lc most ok)=true:=λok=>xr 6 lc most ok gc;have hrn:∀(B n:Nat),gF (kM [0,1,2,3,4,5] B) (bn 2 1 n)=bn 2 1 n:=λB n=>eK _ 2 1 n
    have hbn:∀n:Nat,dT 6 (bn 2 1 n)=true:=λn=>by
     unfold bn;split
     ·exact gx rfl
     ·rfl
    refine aJ.sk [0,1,2,3,4,5] ge rfl rfl ge rfl (Nb @bl.eq_1) (hi) (by simp only[gh,bG,an,↓reduceIte,Nat.reduceEqDiff,Nat.reduceAdd,Nat.reduceSub,Nat.reduceMul,Nat.reduceLeDiff,Nat.reduceLT,hrc,hbc,↓ko,↓gM,bl,↓hrl,↓hbl,↓hrn,↓hbn];first | done | rfl) rfl gc (by simp only[BK,gh,bG,an,hrc,hbc,↓ko,↓gM,bl,↓hrl,↓hbl,↓hrn,↓hbn]<;>(repeat' apply And.intro)<;>first | trivial | rfl | (intro hh;cases hh)) (by simp only[GZ,gh,bG,an,Nat.reduceAdd,Nat.reduceLT,decide_true,hrc,hbc,↓ko,↓gM,bl,↓hrl,↓hbl,↓hrn,↓hbn];first | done | rfl) (by simp only[GZ,gh,bG,an,Nat.reduceAdd,Nat.reduceLT,decide_true,hrc,hbc,↓ko,↓gM,bl,↓hrl,↓hbl,↓hrn,↓hbn];first | done | rfl) (by simp only[gh,bG,an,↓reduceIte,Nat.reduceEqDiff,Nat.reduceAdd,Nat.reduceSub,Nat.reduceMul,Nat.reduceLeDiff,Nat.reduceLT,hrc,hbc,↓ko,↓gM,bl,↓hrl,↓hbl,↓hrn,↓hbn];first | done | rfl) (by simp only[gh,bG,an,↓reduceIte,Nat.reduceEqDiff,Nat.reduceAdd,Nat.reduceSub,Nat.reduceMul,Nat.reduceLeDiff,Nat.reduceLT,hrc,hbc,↓ko,↓gM,bl,↓hrl,↓hbl,↓hrn,↓hbn,eg,eC,cx,aW,cG];first | done | rfl) (by simp only[gh,bG,an,↓reduceIte,Nat.reduceEqDiff,Nat.reduceAdd,Nat.reduceSub,Nat.reduceMul,Nat.reduceLeDiff,Nat.reduceLT,hrc,hbc,↓ko,↓gM,bl,↓hrl,↓hbl,↓hrn,↓hbn,eg,eC,cx,aW,cG];first | done | rfl) ?_;refine(zR) ?_;cases hq1:q.1;rotate_left
    ·rw[hq1,t8 rfl] at htr
     refine(zN)<|(aA (xn (show -9223372036854775808<=(nn:Int)+1/\(nn:Int)+1<=9223372036854775807 from⟨by omega,by omega⟩))) ?_;exact⟨(bp r).toNat-(nn+1),_,by omega,(bK @bl.eq_1),nn+1,(nn:Int),q.2,⟨by omega,by rw[show(bp r).toNat-(nn+1)=s by omega];exact htr,hqlt hq1⟩,rfl,rfl⟩
    ·rw[hq1,ul gc] at htr;subst htr
     refine(cN)<|zA [(7,au false),(1000000,.ptr 0 0),(1000001,.ptr 1 0),(1000003,.ptr 3 0),(1000004,.ptr 4 0),(1000005,.ptr 5 0),(7000000,.fn 113 [] [.ptr 3 0,.ptr 6 0])] [cR lc most false,.cells [bn 2 1 q.2.length],tR q.2,.cells [.buf 4 ch.length 1 (some ch.length)],.cells ((ch.set k (nn:Int)).flatMap (aw aa)),.cells [bl c l lc],.cells [aa k]] (bK @bl.eq_1) ?_;refine aD.ret ?_
     (try simp only[gK,eI,cQ,cr])
     rw[hch0];exact hret nn
   ·refine(aA (show decide ((nn:Int)<bp r)=false from un hC))<|(fC) ?_
    (try change aD _ _ _ _ _)
    rw[show(bp r).toNat-nn=0 by omega,mX] at htr;refine(zV) ?_;subst htr;refine zA [(7,au true),(1000000,.ptr 0 0),(1000001,.ptr 1 0),(1000003,.ptr 3 0),(1000004,.ptr 4 0),(1000005,.ptr 5 0),(7000000,.fn 113 [] [.ptr 3 0,.ptr 6 0])] [cR lc most true,.cells [bn 2 1 o.length],tR o,.cells [.buf 4 ch.length 1 (some ch.length)],.cells ((ch.set k x).flatMap (aw aa)),.cells [bl c l lc],.cells [aa k]] (bK @bl.eq_1) ?_;refine aD.ret ?_
    (try simp only[gK,eI,cQ,cr])
    rw[hch0];exact hret x
  obtain rfl:k=l.length:=by omega
  have hk2:gD ch i=l.length:=by rw[<-hsk,yh gt]
  have hN:dO c l most (F+1) i ch out=if AN c l ch=true then (!(decide ((out.length:Int)+1=most)),out++[ch]) else (true,out):=by rw[dO,hfa,ul gc,hk2,List.getElem?_eq_none (Nat.le_refl _)]
  refine(aA (show decide ((l.length:Int)<(l.length:Int))=false by simp))<|(fC) ?_
  (try change aD _ _ _ _ _)
  refine(aA (show decide ((l.length:Int)=(l.length:Int))=true by simp))<|(zY) ?_
  (repeat refine aD.seq ?_)
  have hv0:∀(i:Nat) (v:SV),vo (λ_=>False) i v=.any:=λi v=>uT λh=>h;have hv9:∀(i:Nat),i<9->∀v:SV,vo (λj=>j<9) i v=v:=λi h v=>dC h;cases hb:AN c l ch
  ·rw[hb,ul gc] at hN;refine aD.y9 9 12 (λL=>⟨(30,vo L 0 (.ag [an 3 c ao]))::(31,vo L 1 (an 2 l ae))::(32,vo L 2 (.buf 4 ch.length 1 (some ch.length)))::(33,vo L 3 (au false))::(34,vo L 4 (au (!false)))::(35,vo L 5 (au (!false)))::(36,vo L 6 (.a kJ))::(37,vo L 7 (.a kJ))::(38,vo L 8 (.a kJ))::c6 c l lc,60,[cR lc most true,.cells [bn 2 1 out.length],tR out,.cells [.buf 4 ch.length 1 (some ch.length)],.cells (ch.flatMap (aw aa)),.cells [bl c l lc],.cells [aa l.length]],[]⟩) rfl zW ge gc zW (bK (br @bl.eq_1 hv0)) (λL=>rfl) ?_ ?_
   ·rintro L i o him hC hr
    rcases i with _ | _ | _ | _ | _ | _ | _ | _ | _ | i
    rotate_right
    ·exact t7 him gt
    ·cases hr.gw;refine(zR) ?_;exact(bK (br @bl.eq_1 @aT))
    ·cases hr.gw;refine(zR) ?_;exact(bK (br @bl.eq_1 @aT))
    ·cases hr.gw;refine(zR) ?_;exact(bK (br @bl.eq_1 @aT))
    ·cases hr.gw;have d0:L 0:=hr.dep ⟨0,.data⟩ f5 rfl;have d1:L 1:=hr.dep ⟨1,.data⟩ f5 rfl;have d2:L 2:=hr.dep ⟨2,.data⟩ f5 rfl;have his:=Fj c l ch hc hl hlen gt;rw[hb] at his;refine(zK his (hc:=Nb (cA (ee d0) (ee d1) (ee d2))) (hwk:=cS.cons (.ag zr) (.cons (.sl _ _ _) (.cons (.buf rfl (by rw[hal];exact cS.refl (aB (λ_=>rfl) ch)) (by rw[hcl];exact Nat.le_refl _)) .nil)))) ?_;refine .nil ?_;exact(bK (ik @bl.eq_1 @aT (ee d0) (ee d1) (ee d2)))
    ·cases hr.gw;have d3:L 3:=hr.dep ⟨3,.data⟩ f5 rfl;refine(cO (ee d3)) ?_;exact(bK (cA @bl.eq_1 @aT (ee d3)))
    ·cases hr.gw;have d4:L 4:=hr.dep ⟨4,.data⟩ f5 rfl;refine(cO (ee d4)) ?_;exact(bK (cA @bl.eq_1 @aT (ee d4)))
    ·cases hr.gw;have d5:L 5:=hr.dep ⟨5,.guard⟩ f5 rfl;refine(cO (ee d5)) ?_;exact(bK (cA @bl.eq_1 @aT (ee d5)))
    ·cases hr.gw;have d5:L 5:=hr.dep ⟨5,.guard⟩ f5 rfl;refine(cO (ee d5)) ?_;exact(bK (cA @bl.eq_1 @aT (ee d5)))
    ·cases hr.gw;have d5:L 5:=hr.dep ⟨5,.guard⟩ f5 rfl;have d7:L 7:=hr.dep ⟨7,.data⟩ f5 rfl;refine(cO (br (ee d5) (ee d7))) ?_;exact(bK (jB @bl.eq_1 @aT (ee d5) (ee d7)))
   ·change aJ _ _ _ _ _ _
    refine oA ((35,au true)::v6) [cR lc most true,.cells [bn 2 1 out.length],tR out,.cells [.buf 4 ch.length 1 (some ch.length)],.cells (ch.flatMap (aw aa)),.cells [bl c l lc],.cells [aa l.length]] (bK (br @bl.eq_1 (hv9 5 gc)))<|(zR) ?_
    change aJ _ _ _ _ _ _;refine(zR) ?_;change aJ _ _ _ _ _ _;refine(zR) ?_;rw[hN];refine zA ((7,au true)::v6) [cR lc most true,.cells [bn 2 1 out.length],tR out,.cells [.buf 4 ch.length 1 (some ch.length)],.cells (ch.flatMap (aw aa)),.cells [bl c l lc]] (bK @bl.eq_1) ?_;refine aD.ret ?_
    (try simp only[gK,eI,cQ,cr])
    exact⟨rfl,⟨[au true],by rfl,rfl,rfl⟩,Nat.le_refl _,(by rintro(_ | _ | _ | _ | _ | _ | i) hi2 hm2<;>first | rfl | (exfalso;omega) | (exfalso;simp only[i7,g9] at hi2;omega) | exact t7 f5 hm2)⟩
  ·rw[hb,t8 rfl] at hN;refine aD.y9 9 12 (λL=>⟨(30,vo L 0 (.ag [an 3 c ao]))::(31,vo L 1 (an 2 l ae))::(32,vo L 2 (.buf 4 ch.length 1 (some ch.length)))::(33,vo L 3 (au true))::(34,vo L 4 (au (!true)))::(35,vo L 5 (au (!true)))::(36,vo L 6 (.a (.fn (.yield lc.id) [] [])))::(37,vo L 7 (.buf 4 ch.length 1 (some ch.length)))::(38,vo L 8 (an 1 ch (aw aa)))::c6 c l lc,60,[cR lc most true,.cells [bn 2 1 out.length],tR out,.cells [.buf 4 ch.length 1 (some ch.length)],.cells (ch.flatMap (aw aa)),.cells [bl c l lc],.cells [aa l.length]],[]⟩) rfl zW ge gc zW (bK (br @bl.eq_1 hv0)) (λL=>rfl) ?_ ?_
   ·rintro L i o him hC hr
    rcases i with _ | _ | _ | _ | _ | _ | _ | _ | _ | i
    rotate_right
    ·exact t7 him gt
    ·cases hr.gw;refine(zR) ?_;exact(bK (br @bl.eq_1 @aT))
    ·cases hr.gw;refine(zR) ?_;exact(bK (br @bl.eq_1 @aT))
    ·cases hr.gw;refine(zR) ?_;exact(bK (br @bl.eq_1 @aT))
    ·cases hr.gw;have d0:L 0:=hr.dep ⟨0,.data⟩ f5 rfl;have d1:L 1:=hr.dep ⟨1,.data⟩ f5 rfl;have d2:L 2:=hr.dep ⟨2,.data⟩ f5 rfl;have his:=Fj c l ch hc hl hlen gt;rw[hb] at his;refine(zK his (hc:=Nb (cA (ee d0) (ee d1) (ee d2))) (hwk:=cS.cons (.ag zr) (.cons (.sl _ _ _) (.cons (.buf rfl (by rw[hal];exact cS.refl (aB (λ_=>rfl) ch)) (by rw[hcl];exact Nat.le_refl _)) .nil)))) ?_;refine .nil ?_;exact(bK (ik @bl.eq_1 @aT (ee d0) (ee d1) (ee d2)))
    ·cases hr.gw;have d3:L 3:=hr.dep ⟨3,.data⟩ f5 rfl;refine(cO (ee d3)) ?_;exact(bK (cA @bl.eq_1 @aT (ee d3)))
    ·cases hr.gw;have d4:L 4:=hr.dep ⟨4,.data⟩ f5 rfl;refine(cO (ee d4)) ?_;exact(bK (cA @bl.eq_1 @aT (ee d4)))
    ·cases hr.gw;have d5:L 5:=hr.dep ⟨5,.guard⟩ f5 rfl;refine(cO (ee d5)) ?_;exact(bK (cA @bl.eq_1 @aT (ee d5)))
    ·cases hr.gw;have d5:L 5:=hr.dep ⟨5,.guard⟩ f5 rfl;refine(cO (ee d5)) ?_;exact(bK (cA @bl.eq_1 @aT (ee d5)))
    ·cases hr.gw;have d5:L 5:=hr.dep ⟨5,.guard⟩ f5 rfl;have d7:L 7:=hr.dep ⟨7,.data⟩ f5 rfl;have hn8:¬L 8:=hr.new;have hrc0:∀r:Nat->Nat,me r (ch.flatMap (aw aa))=ch.flatMap (aw aa):=λr=>bg (aB (λ_=>rfl) _);have hbc0:∀B:Nat,ia B (ch.flatMap (aw aa))=true:=λB=>bH (aB (λ_=>rfl) _);have hkl7:=λok=>nZ 7 lc most ok gc;have hn7:∀n,Ev.names 7 (bn 2 1 n)=false:=λn=>cC gc;have hcp:=G7 ch h0 gt (some ch.length);refine oA ((30,vo L 0 (.ag [an 3 c ao]))::(31,vo L 1 (an 2 l ae))::(32,vo L 2 (.buf 4 ch.length 1 (some ch.length)))::(33,vo L 3 (au true))::(34,vo L 4 (au (!true)))::(35,au false)::(36,vo L 6 (.a (.fn (.yield lc.id) [] [])))::(37,(.buf 4 ch.length 1 (some ch.length)))::c6 c l lc) [cR lc most true,.cells [bn 2 1 out.length],tR out,.cells [.buf 4 ch.length 1 (some ch.length)],.cells (ch.flatMap (aw aa)),.cells [bl c l lc],.cells [aa l.length]] (bK (cA @bl.eq_1 (ee d5) (ee d7))) ?_;refine aJ.sk [4] ge rfl rfl ge rfl (Nb @an.eq_1) (hcp) (by simp only[gh,bG,an,↓reduceIte,Nat.reduceEqDiff,Nat.reduceAdd,Nat.reduceSub,Nat.reduceMul,Nat.reduceLeDiff,Nat.reduceLT,hrc0,hbc0,cq,↓mE,↓hkl7,hn7,bl,hkc,g9,List.flatMap_nil];first | done | rfl) rfl gc (by simp only[BK,gh,bG,an,hrc0,hbc0,cq,↓mE,↓hkl7,hn7,bl,hkc,g9,List.flatMap_nil]<;>(repeat' apply And.intro)<;>first | trivial | rfl | (intro hh;cases hh)) (by simp only[GZ,gh,bG,an,Nat.reduceAdd,Nat.reduceLT,decide_true,hrc0,hbc0,cq,↓mE,↓hkl7,hn7,bl,hkc,g9,List.flatMap_nil];first | done | rfl) (by simp only[GZ,gh,bG,an,Nat.reduceAdd,Nat.reduceLT,decide_true,hrc0,hbc0,cq,↓mE,↓hkl7,hn7,bl,hkc,g9,List.flatMap_nil];first | done | rfl) (by simp only[gh,bG,an,↓reduceIte,Nat.reduceEqDiff,Nat.reduceAdd,Nat.reduceSub,Nat.reduceMul,Nat.reduceLeDiff,Nat.reduceLT,hrc0,hbc0,cq,↓mE,↓hkl7,hn7,bl,hkc,g9,List.flatMap_nil];first | done | rfl) (by simp only[gh,bG,an,↓reduceIte,Nat.reduceEqDiff,Nat.reduceAdd,Nat.reduceSub,Nat.reduceMul,Nat.reduceLeDiff,Nat.reduceLT,hrc0,hbc0,cq,↓mE,↓hkl7,hn7,bl,hkc,g9,List.flatMap_nil,eg,eC,cx,aW,cG];first | done | rfl) (by simp only[gh,bG,an,↓reduceIte,Nat.reduceEqDiff,Nat.reduceAdd,Nat.reduceSub,Nat.reduceMul,Nat.reduceLeDiff,Nat.reduceLT,hrc0,hbc0,cq,↓mE,↓hkl7,hn7,bl,hkc,g9,List.flatMap_nil,eg,eC,cx,aW,cG];first | done | rfl) ?_;refine .nil ?_;refine Fg.trans (Fg.freeze (f':=(38,an 1 ch (aw aa))::(30,vo L 0 (.ag [an 3 c ao]))::(31,vo L 1 (an 2 l ae))::(32,vo L 2 (.buf 4 ch.length 1 (some ch.length)))::(33,vo L 3 (au true))::(34,vo L 4 (au (!true)))::(35,au false)::(36,vo L 6 (.a (.fn (.yield lc.id) [] [])))::(37,(.buf 4 ch.length 1 (some ch.length)))::c6 c l lc) 7 rfl f7 ⟨.inr (by rw[pN 1 ch (aw aa)];exact .buf rfl (by rw[hal];exact cS.refl (aB (λ_=>rfl) ch)) (by rw[hcl];exact Nat.le_refl _)),zj⟩) (bK (jB @bl.eq_1 @aT (ee d5) (ee d7)))
   ·change aJ _ _ _ _ _ _;refine oA ((35,au false)::(36,.a (.fn (.yield lc.id) [] []))::(38,an 1 ch (aw aa))::v6) [cR lc most true,.cells [bn 2 1 out.length],tR out,.cells [.buf 4 ch.length 1 (some ch.length)],.cells (ch.flatMap (aw aa)),.cells [bl c l lc],.cells [aa l.length]] (bK (jB @bl.eq_1 (hv9 5 gc) (hv9 6 gc) (hv9 8 gc))) ?_;refine aJ.y (vs:=[an 1 ch (aw aa)]) (oo:=0) ge rfl rfl ge rfl rfl rfl ge rfl (by rw[hlp];rfl) (by rw[hln];rfl) (by rw[hln];decide) (by rw[hlp,hln];rfl) λro'=>?_;have hcd2:=hcd;unfold uX at hcd2;rw[Tryz.func23] at hcd2;have hcd3:=Option.some.inj (hcd2.symm.trans ge);obtain⟨ha,hbb⟩:=Prod.mk.inj hcd3;rw[ha,hlp,hln];change aD _ _ _ ⟨[(26,an 1 ch (aw aa)),(5,.ip [aa most]),(9,.ptr 1 0),(20000035,au false),(20000036,.a (.fn (.yield lc.id) [] [])),(20000038,an 1 ch (aw aa)),(21000000,.ptr 0 0),(21000001,.ptr 1 0),(21000002,.ptr 2 0),(21000003,.ptr 3 0),(21000004,.ptr 4 0),(21000005,.ptr 5 0)],39,[cR lc most true,.cells [bn 2 1 out.length],tR out,.cells [.buf 4 ch.length 1 (some ch.length)],.cells (ch.flatMap (aw aa)),.cells [bl c l lc],.cells [aa l.length]],[]⟩ _;refine(zV) ?_;refine⟨rfl,0,none,[(5,.ip [aa most]),(9,.ptr 1 0)],rfl,?_⟩;rw[hbb];refine(zB) ?_;change aD _ _ _ ⟨_,39,[.loop lc .busy none [(5,.ip [aa most]),(9,.ptr 1 0)],.cells [bn 2 1 out.length],tR out,.cells [.buf 4 ch.length 1 (some ch.length)],.cells (ch.flatMap (aw aa)),.cells [bl c l lc],.cells [aa l.length]],[]⟩ _;have hrc0:∀r:Nat->Nat,me r (ch.flatMap (aw aa))=ch.flatMap (aw aa):=λr=>bg (aB (λ_=>rfl) _);by_cases ho:out=[]
    ·subst ho;have e1:bn 2 1 [ch].length=.buf 2 1 1 none:=rfl;have e2:tR [ch]=.cells (gj ch):=rfl;rw[Gp,show bn 2 1 ([]:List (List Int)).length=cY from rfl];refine(aA (br hkc @bl.eq_1)) ?_;cases hmo:decide ((1:Int)=most)
     ·have hN:dO c l most (F+1) i ch []=(true,[]++[ch]):=by rw[hN];show(!(decide ((0:Int)+1=most)),_)=_;rw[show((0:Int)+1)=1 from rfl,hmo];rfl
      refine(aA (show decide (((1:Nat):Int)=most)=false from hmo))<|(zN) ?_;refine⟨rfl,0,.busy,none,[(5,.ip [aa most]),(9,.ptr 1 0)],rfl,?_⟩
      simp only[w9,laid,Nat.reduceLeDiff,Nat.reduceSub,↓reduceIte];refine oA ((39,au true)::(35,au false)::v5) [cR lc most true,.cells [.buf 2 1 1 none],.cells (gj ch),.cells [.buf 4 ch.length 1 (some ch.length)],.cells (ch.flatMap (aw aa)),.cells [bl c l lc],.cells [aa l.length]] (Fg.rn (f':=(39,au true)::(35,au false)::v5) (n:=60) (S':=[cR lc most true,.cells [.buf 2 1 1 none],.cells (gj ch),.cells [.buf 4 ch.length 1 (some ch.length)],.cells (ch.flatMap (aw aa)),.cells [bl c l lc],.cells [aa l.length]]) [0,1,8,3,4,5,6] gc rfl (KM (KO @cR.eq_1 @bl.eq_1 hrc0 @gj.eq_1 @xE.eq_1 @xC.eq_1 @xD.eq_1 @w9.eq_1)) (KN (KO @cR.eq_1 @bl.eq_1 hrc0 @gj.eq_1 @xE.eq_1 @xC.eq_1 @xD.eq_1 @w9.eq_1))) ?_;refine .nil ?_;change aJ _ _ _ _ _ _;refine(zR) ?_;change aJ _ _ _ _ _ _;refine(zR) ?_;rw[hN];simp only[List.nil_append,e1,e2];refine zA ((7,au true)::v5) [cR lc most true,.cells [.buf 2 1 1 none],.cells (gj ch),.cells [.buf 4 ch.length 1 (some ch.length)],.cells (ch.flatMap (aw aa)),.cells [bl c l lc]] (bK @bl.eq_1) ?_;refine aD.ret ?_
      (try simp only[gK,eI,cQ,cr])
      exact⟨rfl,⟨[au true],by rfl,rfl,rfl⟩,Nat.le_refl _,(by rintro(_ | _ | _ | _ | _ | _ | i) hi2 hm2<;>first | rfl | (exfalso;omega) | (exfalso;simp only[i7,g9] at hi2;omega) | exact t7 f5 hm2)⟩
     ·have hN:dO c l most (F+1) i ch []=(false,[]++[ch]):=by rw[hN];show(!(decide ((0:Int)+1=most)),_)=_;rw[show((0:Int)+1)=1 from rfl,hmo];rfl
      refine(aA (show decide (((1:Nat):Int)=most)=true from hmo)) ?_
      (repeat refine aD.seq ?_)
      refine aD.yes rfl ?_;refine aD.exit ?_;refine⟨rfl,0,.busy,none,[(5,.ip [aa most]),(9,.ptr 1 0)],rfl,?_⟩;simp only[w9,laid,Nat.reduceLeDiff,Nat.reduceSub,↓reduceIte];refine oA ((39,au false)::(35,au false)::v5) [cR lc most false,.cells [.buf 2 1 1 none],.cells (gj ch),.cells [.buf 4 ch.length 1 (some ch.length)],.cells (ch.flatMap (aw aa)),.cells [bl c l lc],.cells [aa l.length]] (Fg.rn (f':=(39,au false)::(35,au false)::v5) (n:=60) (S':=[cR lc most false,.cells [.buf 2 1 1 none],.cells (gj ch),.cells [.buf 4 ch.length 1 (some ch.length)],.cells (ch.flatMap (aw aa)),.cells [bl c l lc],.cells [aa l.length]]) [0,1,8,3,4,5,6] gc rfl (KM (KO @cR.eq_1 @bl.eq_1 hrc0 @gj.eq_1 @xE.eq_1 @xC.eq_1 @xD.eq_1 @w9.eq_1)) (KN (KO @cR.eq_1 @bl.eq_1 hrc0 @gj.eq_1 @xE.eq_1 @xC.eq_1 @xD.eq_1 @w9.eq_1))) ?_;refine .nil ?_;change aJ _ _ _ _ _ _;refine(zR) ?_;change aJ _ _ _ _ _ _;refine(zR) ?_;rw[hN];simp only[List.nil_append,e1,e2];refine zA ((7,au false)::v5) [cR lc most false,.cells [.buf 2 1 1 none],.cells (gj ch),.cells [.buf 4 ch.length 1 (some ch.length)],.cells (ch.flatMap (aw aa)),.cells [bl c l lc]] (bK @bl.eq_1) ?_;refine aD.ret ?_
      (try simp only[gK,eI,cQ,cr])
      exact⟨rfl,⟨[au false],by rfl,rfl,rfl⟩,Nat.le_refl _,(by rintro(_ | _ | _ | _ | _ | _ | i) hi2 hm2<;>first | rfl | (exfalso;omega) | (exfalso;simp only[i7,g9] at hi2;omega) | exact t7 f5 hm2)⟩
    ·have hk1:¬out.length=0:=λh=>ho (rx h)
     have e1:bn 2 1 (out++[ch]).length=.buf 2 (out.length+1) 1 none:=by rw[li];exact bR f5
     have e2:tR (out++[ch])=.cells ((out++[ch]).flatMap gj):=Sl f5;have hcl3:=aM tf out;have hkc3:=λo=>bf nI o out;have happ:=eV tf nI 2 out ch;rw[show gj ch=[an 1 ch (aw aa)] from rfl,Nat.mul_one] at happ;simp only[an] at happ;rw[Sl ho,bR hk1];rw[Nat.mul_one] at hcl3;refine(aA (KO hkc hkc3 @bl.eq_1 hcl3 @Nat.mul_one (show out.length<=1000000 by omega) @Nat.le_refl happ)) ?_;cases hmo:decide ((out.length:Int)+1=most)
     ·have hN:dO c l most (F+1) i ch out=(true,out++[ch]):=by rw[hN,hmo];rfl
      refine(aA (br hmo @dU))<|(zN) ?_;refine⟨rfl,0,.busy,none,[(5,.ip [aa most]),(9,.ptr 1 0)],rfl,?_⟩
      simp only[w9,laid,Nat.reduceLeDiff,Nat.reduceSub,↓reduceIte];refine oA ((39,au true)::(35,au false)::v5) [cR lc most true,.cells [.buf 2 (out.length+1) 1 none],.cells ((out++[ch]).flatMap gj),.cells [.buf 4 ch.length 1 (some ch.length)],.cells (ch.flatMap (aw aa)),.cells [bl c l lc],.cells [aa l.length]] (bK (sa @bl.eq_1 @cR.eq_1 @w9.eq_1 @xE.eq_1 @xC.eq_1 @xD.eq_1)) ?_;refine .nil ?_;change aJ _ _ _ _ _ _;refine(zR) ?_;change aJ _ _ _ _ _ _;refine(zR) ?_;rw[hN];simp only[e1,e2];refine zA ((7,au true)::v5) [cR lc most true,.cells [.buf 2 (out.length+1) 1 none],.cells ((out++[ch]).flatMap gj),.cells [.buf 4 ch.length 1 (some ch.length)],.cells (ch.flatMap (aw aa)),.cells [bl c l lc]] (bK @bl.eq_1) ?_;refine aD.ret ?_
      (try simp only[gK,eI,cQ,cr])
      exact⟨rfl,⟨[au true],by rfl,rfl,rfl⟩,Nat.le_refl _,(by rintro(_ | _ | _ | _ | _ | _ | i) hi2 hm2<;>first | rfl | (exfalso;omega) | (exfalso;simp only[i7,g9] at hi2;omega) | exact t7 f5 hm2)⟩
     ·have hN:dO c l most (F+1) i ch out=(false,out++[ch]):=by rw[hN,hmo];rfl
      refine(aA (br hmo @dU)) ?_
      (repeat refine aD.seq ?_)
      refine aD.yes rfl ?_;refine aD.exit ?_;refine⟨rfl,0,.busy,none,[(5,.ip [aa most]),(9,.ptr 1 0)],rfl,?_⟩;simp only[w9,laid,Nat.reduceLeDiff,Nat.reduceSub,↓reduceIte];refine oA ((39,au false)::(35,au false)::v5) [cR lc most false,.cells [.buf 2 (out.length+1) 1 none],.cells ((out++[ch]).flatMap gj),.cells [.buf 4 ch.length 1 (some ch.length)],.cells (ch.flatMap (aw aa)),.cells [bl c l lc],.cells [aa l.length]] (bK (sa @bl.eq_1 @cR.eq_1 @w9.eq_1 @xE.eq_1 @xC.eq_1 @xD.eq_1)) ?_;refine .nil ?_;change aJ _ _ _ _ _ _;refine(zR) ?_;change aJ _ _ _ _ _ _;refine(zR) ?_;rw[hN];simp only[e1,e2];refine zA ((7,au false)::v5) [cR lc most false,.cells [.buf 2 (out.length+1) 1 none],.cells ((out++[ch]).flatMap gj),.cells [.buf 4 ch.length 1 (some ch.length)],.cells (ch.flatMap (aw aa)),.cells [bl c l lc]] (bK @bl.eq_1) ?_;refine aD.ret ?_
      (try simp only[gK,eI,cQ,cr])
      exact⟨rfl,⟨[au false],by rfl,rfl,rfl⟩,Nat.le_refl _,(by rintro(_ | _ | _ | _ | _ | _ | i) hi2 hm2<;>first | rfl | (exfalso;omega) | (exfalso;simp only[i7,g9] at hi2;omega) | exact t7 f5 hm2)⟩
def fh(l:List aN):List Int:=l.map λr=>if 1<bp r then -1 else 0
def na(c:List aF)(l:List aN)(most:Int):Bool×List (List Int):=dO c l most (l.length+1) 0 (fh l) []
def Ma(l:List aN):QJ (fh l):=by
 intro n hn h0;obtain⟨r,_,rfl⟩:=mem_map.1 hn;split
 ·rfl
 ·rename_i h;rw[ul h] at h0;omega
def CS(c:List aF)(l:List aN):PC prog 55 [.ag [an 3 c ao],an 2 l ae] (·=.fn 108 [] [.ip [an 2 l ae],.ip [an 3 c ao]]):=by
 refine pB 6 Tryz.func55 ?_;refine(zV) ?_;refine zZ [(2,.ip [an 3 c ao]),(3,.ptr 1 0)] 0 rfl (tK @an.eq_1)<|zZ [(2,.ip [an 3 c ao]),(3,.ip [an 2 l ae])] 1 rfl (tK @an.eq_1) ?_
 (try change aD _ _ _ _ _)
 exact(zV)<|zo [.tmp 4]
def MI(n:Nat)(h:n<=1000000):iV prog 43 (.int .i64 (n:Int)) (.int .i64 (n:Int))=some (n,1,n,rep [.int .i64 0] n):=by
 have q1:(prog.info? 3).map (λi=>(i.size,ble i.bytes 10000))=some (1,true):=by kernel_rfl
 obtain⟨i,hi,e⟩:=Option.map_eq_some_iff.1 q1;have e1:i.size=1:=n9 fst e;have e2:ble i.bytes 10000=true:=n9 snd e;unfold iV;rw[show prog.underlying 43=some (.slice 3) by kernel_rfl];simp only;rw[show dx (.int .i64 (n:Int))=some n from rfl,m7,m7,hi,m7,show dE prog 3=some (.int .i64 0) by simp only[az],m7,e1,e2,fH (a6 n),fH h];rfl
def yW:∀n,(rep [AV.int .i64 0] n).map SV.a=(c0 n (0:Int)).flatMap (aw aa)
 | 0=>rfl
 | n+1=>by rw[rep,ca,yW n,e5,flatMap_cons];rfl
def uo(l:List aN)(k:Nat):List Int:=(fh l).take k++c0 (l.length-k) 0
def Nw(l:List aN)(k:Nat)(h:k<=l.length):(uo l k).length=l.length:=by
 unfold uo fh;rw[li,dN,al,List.length_replicate];omega
def Uk{l:List aN}{k:Nat}{v:Int}(h:(fh l)[k]?=some v):(uo l k).set k v=uo l (k+1):=by
 have hk:k<(fh l).length:=aR h;have hsl:(fh l).length=l.length:=al _;unfold uo;rw[bz h,List.set_append_right _ _ (by rw[dN];omega),dN,fm gt,em,show l.length-k=(l.length-(k+1))+1 by omega,e5,List.set_cons_zero,cj]
 try rfl
def Rt{l:List aN}{k:Nat}(h:(fh l)[k]?=some 0):uo l (k+1)=uo l k:=by
 have hk:k<(fh l).length:=aR h;have hsl:(fh l).length=l.length:=al _;unfold uo;rw[bz h,show l.length-k=(l.length-(k+1))+1 by omega,e5,cj]
 try rfl
def Mu(c:List aF)(l:List aN)(lc:hY)(most:Int)(hcd:uX lc)(hln:lc.n=39)(hlp:lc.ps=#[26])(hc:kq c)(hl:∀r∈l,eu r)(hlen:l.length<20)(hl0:l≠[])(hm:most<=4096)(hm0:0<most):
 SC prog 108 [.a (.fn (.yield lc.id) [] []),.ip [an 2 l ae],.ip [an 3 c ao]] [cR lc most true,.cells [cY],.gone] [2] (λr S'=>r=.bB []/\S'=[cR lc most (na c l most).1,.cells [bn 2 1 (na c l most).2.length],tR (na c l most).2]):=by
 refine Ys 28 func108 ?_;have hsl:(fh l).length=l.length:=al _;have hfr:=CQ c l lc most hcd hln hlp hc hl hlen hl0 hm (l.length+1) 0 (fh l) [] (b7 _) gt hsl (Ma l) hm0;unfold Ww at hfr;rw[show dO c l most (l.length+1) 0 (fh l) []=na c l most from rfl,hsl,g9,fv,Gp,show((0:Nat):Int)=0 from rfl] at hfr;generalize na c l most=q at hfr ⊢;have hk3:=λok=>nZ 3 lc most ok gc;have hk4:=λok=>nZ 4 lc most ok gc;have hk5:=λok=>nZ 5 lc most ok gc;have hkc:=λ(o:Nat) (q:List Int)=>bf (enc:=aw aa) ce o q;have hrc:∀(r:Nat->Nat) (x:List Int),me r (x.flatMap (aw aa))=x.flatMap (aw aa):=λr x=>bg (aB (λ_=>rfl) _);have hbc:∀(B:Nat) (x:List Int),ia B (x.flatMap (aw aa))=true:=λB x=>bH (aB (λ_=>rfl) _);have hrl:∀(B:Nat) (ok:Bool),oI (kM [0,1,2,5,4] B) (cR lc most ok)=cR lc most ok:=λB ok=>Cm _ lc most ok rfl;refine(zs) ?_;refine aD.r0 ge (by simp only[cG,bG,an,az,m7,m6,↓reduceIte,ac,aj,ay,ad,ax,ah,ar,bD,↓hk3];first | done | rfl) ?_;refine zZ [(0,.a (.fn (.yield lc.id) [] [])),(1,.ip [an 2 l ae]),(2,.ip [an 3 c ao]),(3,.ip [.a (.fn (.yield lc.id) [] [])]),(1000000,.ptr 0 0),(1000001,.ptr 1 0),(1000002,.ptr 2 0)] 3 rfl (tK @an.eq_1) ?_
 (try change aD _ _ _ _ _)
 refine(zs) ?_;refine aD.r0 ge (by simp only[cG,bG,an,az,m7,m6,↓reduceIte,ac,aj,ay,ad,ax,ah,ar,bD,↓hk4,↓hk5,MI l.length gt,yW,hkc];first | done | rfl) ?_;refine zA [(0,.a (.fn (.yield lc.id) [] [])),(1,.ip [an 2 l ae]),(2,.ip [an 3 c ao]),(3,.ip [.a (.fn (.yield lc.id) [] [])]),(4,.ptr 3 0),(1000000,.ptr 0 0),(1000001,.ptr 1 0),(1000002,.ptr 2 0)] [cR lc most true,.cells [cY],.gone,.cells [.buf 4 l.length 1 (some l.length)],.cells ((c0 l.length (0:Int)).flatMap (aw aa))] (Fg.rn [0,1,2,5,4] gc rfl (by (simp only[su,gh,bG,an,↓hrl,hrc])<;>(repeat' apply dt)<;>first | trivial | exact .inl rfl | exact .inr rfl | exact .inr trivial | exact .inl trivial) (by (simp only[cG,gh,bG,an,↓hrl,hrc])<;>(repeat' apply dt)<;>first | rfl | trivial)) ?_;rw[show c0 l.length (0:Int)=uo l 0 by unfold uo;rw[take_zero,nil_append,en]];refine(zV) ?_
 have hlen6:l.length<=1000000:=by omega
 refine(zs) ?_;refine zL l (λk=>True) (λk=>[(0,.a (.fn (.yield lc.id) [] [])),(1,.ip [an 2 l ae]),(2,.ip [an 3 c ao]),(3,.ip [.a (.fn (.yield lc.id) [] [])]),(4,.ptr 3 0),(11,an 2 l ae),(12,aa l.length),(13,aa k),(1000000,.ptr 0 0),(1000001,.ptr 1 0),(1000002,.ptr 2 0)]) (λk=>[cR lc most true,.cells [cY],.gone,.cells [.buf 4 l.length 1 (some l.length)],.cells ((uo l k).flatMap (aw aa))]) zH zp ?_;intro k hk hall;refine zT l k ?_ ?_;rintro rfl;rotate_left;intro r hx hlt;rotate_left
 ·refine(fC) ?_
  (try change aD _ _ _ _ _)
  rw[show uo l l.length=fh l by unfold uo;rw[<-hsl,cd,hsl,em];simp];refine(zs) ?_;refine aD.r0 ge (by simp only[cG,bG,an,az,m7,m6,↓reduceIte,ac,aj,ay,ad,ax,ah,ar,bD,↓hk5,hkc];first | done | rfl) ?_;refine(zV) ?_;have hrl6:∀(B:Nat) (ok:Bool),oI (kM [0,1,2,3,4,5] B) (cR lc most ok)=cR lc most ok:=λB ok=>Cm _ lc most ok rfl;have hbl:∀ok:Bool,lG 6 (cR lc most ok)=true:=λok=>xr 6 lc most ok gc;have hrn:∀(B n:Nat),gF (kM [0,1,2,3,4,5] B) (bn 2 1 n)=bn 2 1 n:=λB n=>eK _ 2 1 n
  have hbn:∀n:Nat,dT 6 (bn 2 1 n)=true:=λn=>by
   unfold bn;split
   ·exact gx rfl
   ·rfl
  refine aD.post ?_;refine(zC) ?_;refine aJ.sk [0,1,2,3,4,5] ge rfl rfl ge rfl (Nb @bl.eq_1) (hfr) (by simp only[gh,bG,an,↓reduceIte,ac,aj,a9,ay,ad,ax,hrc,hbc,↓ko,↓gM,bl,↓hrl6,↓hbl,↓hrn,↓hbn];first | done | rfl) rfl gc (by simp only[BK,gh,bG,an,hrc,hbc,↓ko,↓gM,bl,↓hrl6,↓hbl,↓hrn,↓hbn]<;>(repeat' apply dt)<;>first | trivial | rfl | (intro hh;cases hh)) (by simp only[GZ,gh,bG,an,aj,ax,decide_true,hrc,hbc,↓ko,↓gM,bl,↓hrl6,↓hbl,↓hrn,↓hbn];first | done | rfl) (by simp only[GZ,gh,bG,an,aj,ax,decide_true,hrc,hbc,↓ko,↓gM,bl,↓hrl6,↓hbl,↓hrn,↓hbn];first | done | rfl) (by simp only[gh,bG,an,↓reduceIte,ac,aj,a9,ay,ad,ax,hrc,hbc,↓ko,↓gM,bl,↓hrl6,↓hbl,↓hrn,↓hbn];first | done | rfl) (by simp only[gh,bG,an,↓reduceIte,ac,aj,a9,ay,ad,ax,hrc,hbc,↓ko,↓gM,bl,↓hrl6,↓hbl,↓hrn,↓hbn,eg,eC,cx,aW,cG];first | done | rfl) (by simp only[gh,bG,an,↓reduceIte,ac,aj,a9,ay,ad,ax,hrc,hbc,↓ko,↓gM,bl,↓hrl6,↓hbl,↓hrn,↓hbn,eg,eC,cx,aW,cG];first | done | rfl) ?_;refine(zR) ?_;refine⟨⟨[(1000000,.ptr 0 0),(1000001,.ptr 1 0)],28,[cR lc most q.1,.cells [bn 2 1 q.2.length],tR q.2],[]⟩,zH,?_⟩;exact zP []
 have hrk:eu r:=hl r (ap hx);have hr1:=hrk.len
 have hv:(fh l)[k]?=some (if 1<bp r then -1 else 0):=by unfold fh;rw[a7,hx];rfl
 have hcl:((uo l k).flatMap (aw aa)).length=l.length:=by rw[aM (enc:=aw aa) (e:=1) ce,Nw l k hk,bd]
 refine(gJ)<|(zs) ?_;refine aD.r0 ge (by simp only[cG,bG,an,az,m7,m6,↓reduceIte,ac,aj,ay,ad,ax,ah,ar,bD,hlt,aH (e:=2) (enc:=ae) ce hx,ae,↓hk5,hkc];first | done | rfl) ?_;refine(zC)<|(zK (jv r hrk)) ?_
 cases g:decide (1<bp r)
 ·rw[ul (wt g)] at hv
  refine(cO g)<|(zN)<|(aA (zi hlt hlen6)) ?_;refine zX hlt (bK (Rt hv)) trivial
 ·rw[t8 (ww g)] at hv;have hset:=nL (enc:=aw aa) (e:=1) ce (l:=uo l k) (i:=k) (-1:Int) (by rw[Nw l k hk];exact hlt);rw[show aw aa (-1)=[aa (-1)] from rfl,dv,nil_append,bd,Uk hv] at hset
  refine(cO g)<|(zY)<|(aA (ik hlt hcl @bd (show k+1<=l.length by omega) hset))<|(aA (zi hlt hlen6)) ?_;refine zX hlt zH trivial
def OF.YI{P:Program}{fn:Func}{Q:SV->Prop}{e:Ex}{st:eU}(h:ue P fn Q e st):OF P fn Q e st:=by
 obtain⟨he,hd,h⟩:=h;refine⟨he,?_⟩;rw[hd];exact h
def fk(c:List aF)(l:List aN)(most:Int):List (List Int)×Int:=if most<1 then ([],1) else if 4096<most then ([],1) else if ft c l=0 then (if (na c l most).2=[] then ([],21) else ((na c l most).2,0)) else ([],ft c l)
def CH(c:List aF)(l:List aN)(most:Int)(hc:kq c)(hl:∀r∈l,eu r)(hlen:l.length<20)(hl0:l≠[]):PC prog 23 [.ag [an 3 c ao],an 2 l ae,aa most] (·=.bB [an 1 (fk c l most).1 gj,aa (fk c l most).2]):=by
 refine PC.tU (n:=39) dQ hU rfl rfl gc ?_;refine(zV) ?_;refine zZ [(1,an 2 l ae),(3,.ip [an 3 c ao]),(5,.ptr 1 0),(6,cY),(7,aa 0)] 0 rfl (tK @an.eq_1)<|zZ [(1,an 2 l ae),(3,.ip [an 3 c ao]),(5,.ip [aa most])] 1 rfl (tK @an.eq_1)<|zA [(1,an 2 l ae),(3,.ip [an 3 c ao]),(5,.ip [aa most])] [] zH ?_
 cases h1:decide (most<1);rotate_left
 ·refine(aA h1)<|(cN) ?_;refine aD.ret ?_
  (try simp only[gK,eI,cQ,cr])
  refine OF.YI ?_;exact ue.of (rs:=[.tmp 6,.tmp 7]) (r:=.bB [.sl 0 1 [],aa 1]) rfl rfl zl zv (by (try simp only[dA,aY]);first | done | (rw[show fk c l most=([],1) by rw[fk,t8 (ww h1)]];rfl))
 cases h2:decide (4096<most);rotate_left
 ·refine(aA (br h1 h2))<|(cN) ?_;refine aD.ret ?_
  (try simp only[gK,eI,cQ,cr])
  refine OF.YI ?_;exact ue.of (rs:=[.tmp 6,.tmp 7]) (r:=.bB [.sl 0 1 [],aa 1]) rfl rfl zl zv (by (try simp only[dA,aY]);first | done | (rw[show fk c l most=([],1) by rw[fk,ul (wt h1),t8 (ww h2)]];rfl))
 refine(aA (br h1 h2))<|(zN) ?_
 have hN:=show fk c l most=if ft c l=0 then (if (na c l most).2=[] then ([],21) else ((na c l most).2,0)) else ([],ft c l) by rw[fk,ul (wt h1),ul (wt h2)]
 have h1':=wt h1;have h2':=wt h2
 refine(zC)<|(zK (Du c l hc hl gt))<|(zR) ?_
 cases h3:decide (ft c l=0)
 ·refine(aA h3)<|(cN) ?_;refine aD.ret ?_
  (try simp only[gK,eI,cQ,cr])
  refine OF.YI ?_;exact ue.of (rs:=[.tmp 6,.tmp 7]) (r:=.bB [.sl 0 1 [],aa (ft c l)]) rfl rfl zl zv (by (try simp only[dA,aY]);first | done | (rw[hN,ul (wt h3)];rfl))
 refine(aA h3)<|(zN) ?_
 rw[t8 (ww h3)] at hN
 refine(lJ)<|(zK (CS c l) (hfl:=.inr zr))<|(zR)<|zA [(5,.ip [aa most]),(9,.ptr 0 0),(25,.fn 108 [] [.ip [an 2 l ae],.ip [an 3 c ao]])] [.cells [cY],.gone] zH<|(zB) ?_;refine aD.wc (f1:=[(5,.ip [aa most]),(9,.ptr 0 0)]) dQ ge func108 ge Ye ?_
 rintro N lc hid hn hps ha hb
 have hcd:uX lc:=by
  unfold uX;rw[hU,ha,hb];rfl
 have hsc:=Mu c l lc most hcd hn hps hc hl hlen hl0 gt gt;generalize na c l most=q at hN hsc;refine⟨[3,0,1],_,_,_,_,hsc,?_,rfl,by decide,?_,?_⟩
 ·simp only[gh,bG,cG,an,eg,aW,↓reduceIte,ac,aj,a9,hid,List.map,h6,dv,nil_append]
 ·rintro(_ | _ | _ | i) so h
  ·cases h;exact⟨3,rfl,by rfl⟩
  ·cases h;exact⟨0,rfl,by rfl⟩
  ·cases h;exact⟨1,rfl,by rfl⟩
  ·cases h
 rintro r S' ⟨rfl,rfl⟩
 have hbn:∀n:Nat,dT 3 (bn 2 1 n)=true:=λn=>by
  unfold bn;split
  ·exact gx rfl
  ·rfl
 refine⟨by simp only[GZ,gh,bG,an,aj,ax,decide_true,↓gM,↓hbn,↓xr 3 lc most q.1 gc];first | done | rfl,3,cond q.1 .ready .done,cond q.1 none (some (.exit 0)),[(5,.ip [aa most]),(9,.ptr 0 0)],by rfl,by cases q.1<;>decide,by rfl,?_⟩;have hrl3:∀(B:Nat) (ok:Bool),oI (kM [3,0,1] B) (cR lc most ok)=.loop lc (cond ok .ready .done) (cond ok none (some (.exit 0))) [(5,.ip [aa most]),(9,.ptr 0 0)]:=λB ok=>rfl
 have hrn3:∀(B n:Nat),oI (kM [3,0,1] B) (.cells [bn 2 1 n])=.cells [bn 1 1 n]:=λB n=>by
  show SO.cells [gF _ _]=_;rw[eK];rfl
 have hS2:(gu (iX (iX [SO.cells [cY],SO.gone] (SO.pT N)) (SO.loop lc .ready none [(5,.ip [aa most]),(9,.ptr 0 0)])) [3,0,1] [2] [cR lc most q.1,.cells [bn 2 1 q.2.length],tR q.2]).set 3 .gone=[.cells [bn 1 1 q.2.length],tR q.2,.pT N,.gone]:=by
  simp only[gu,iX,eC,ek,kh,kI,i7,g9,List.map,al,li,↓hrl3,↓hrn3,↓ko];rfl
 rw[hS2];cases hq1:q.1
 all_goals
  (first | refine aD.exit ?_ | skip)
  change aD _ _ _ ⟨[(5,.ip [aa most]),(9,.ptr 0 0)],39,[.cells [bn 1 1 q.2.length],tR q.2,.pT N,.gone],[{ fn:=none,sZ:=N,args:=[],cap:=[] }]⟩ _;by_cases ho:q.2=[]
  ·rw[t8 ho] at hN;rw[ho,Gp,show bn 1 1 ([]:List (List Int)).length=cY from rfl]
   refine(Ab)<|(zV) ?_;refine aD.ret ?_
   (try simp only[gK,eI,cQ,cr])
   exact⟨rfl,[(6,cY),(7,aa 21)],⟨rfl,rfl,trivial⟩,rfl,.inl ⟨rfl,2,rfl,[cY,aa 21],.bB [.sl 0 1 [],aa 21],by rfl,.bB (.cons (.nil _) (.cons (.a _) .nil)),by rw[hN];rfl⟩⟩
  ·rw[ul ho] at hN;have hk1:¬q.2.length=0:=λh=>ho (rx h);rw[Sl ho,bR hk1]
   refine(aA (show decide ((q.2.length:Int)=0)=false by simp only[wd];omega))<|(jG) ?_;refine aD.ret ?_
   (try simp only[gK,eI,cQ,cr])
   exact⟨rfl,[(6,.buf 1 q.2.length 1 none),(7,aa 0)],⟨rfl,rfl,trivial⟩,rfl,.inl ⟨rfl,2,rfl,[.buf 1 q.2.length 1 none,aa 0],.bB [an 1 q.2 gj,aa 0],by rfl,.bB (.cons (.buf rfl (by rw[dw tf];exact cS.refl (aB nI _)) (by rw[aM tf];exact a6 _)) (.cons (.a _) .nil)),by rw[hN]⟩⟩
variable{fid:FuncId}{first:List SV}{cap:List SV}
open Go.Proofs.Tryz renaming func46 -> vaa in
open Go.Ev renaming Jd -> vab in
open Go.Proofs renaming ae -> vac in
def Ke{l:List (aN)}(p:aN->Bool)(hlen:l.length<=1000000)(hp:∀x∈l,PC prog fid ((first++[.ag (ae x)])++cap) (·=au (p x)))(hg:cg first=true/\cg cap=true):PC prog 46 [an 2 l ae,.fn fid first cap] (·=aa (kg p l)):=by
 have vad:=@ae.eq_1;exact Br
def zf{l:List (aN)}(p:aN->Bool)(hlen:l.length<=1000000)(hp:∀x∈l,PC prog fid ((first++[.ag (ae x)])++cap) (·=au (p x)))(hg:cg first=true/\cg cap=true):PC prog 17 [an 2 l ae,.fn fid first cap] (·=au (l.any p)):=by
 refine pB 9 Tryz.func17 ?_;exact(lJ)<|(zK (Ke p hlen hp hg) (hwk:=.cons (Wk.sl _ _ _) (.cons (.fn (cS.refl hg.1) (cS.refl hg.2)) .nil)))<|(zR)<|zo [.tmp 4] (hq:=by rw[AM])
def MW(r:aN)(hr:eu r):PC prog 48 [.ag (ae r)] (·=au (!(Proofs.cT r))):=by
 refine pB 6 Tryz.func48 ?_;exact(aA @ae.eq_1)<|(zC)<|(zK (pj r hr))<|(zR)<|zo [.tmp 2]
def pC(c:List aF)(l:List aN):List Int×Int:=if (fk c l 1).2=0 then ((fk c l 1).1.headD [],0) else ([],(fk c l 1).2)
def rZ{c:List aF}{l:List aN}{most:Int}(h:(fk c l most).2=0):(fk c l most).1≠[]:=by
 unfold fk at h ⊢;split at h
 ·cases h
 split at h
 ·cases h
 rename_i h1 h2;rw[ul h1,ul h2];split at h
 ·rename_i h3;rw[t8 h3];split at h
  ·cases h
  ·rename_i h4;rw[ul h4];exact h4
 ·rename_i h3;exact t7 h h3
open Go.Proofs.Tryz renaming func66 -> vaa in
open Go.Ev renaming XI -> vab in
open Go.Proofs renaming bJ -> vac in
def Mz{l:List (Wy)}(p:Wy->Bool)(hlen:l.length<=1000000)(hp:∀x∈l,PC prog fid ((first++[.ag (bJ x)])++cap) (·=au (p x)))(hg:cg first=true/\cg cap=true):PC prog 66 [an 5 l bJ,.fn fid first cap] (·=aa (kg p l)):=by
 have vad:=@my;exact Br
def Mc(p:ai)(x:AV):Pt:=⟨p.name,p.kind,p.aO,p.slot,p.made,p.since,p.bI,x,p.l1,p.l2,p.l3,p.l4,p.l5,p.l6⟩
abbrev Nk(l:List (List Nat×Int)):SV:=pD AV.str aa l
def jJ(ws:List Wy)(ps:List ai)(c:Co):List (List Nat×Int):=qS ws ((bF ps c.part).map λp=>Mc p kJ) c
def G8(w:Wy)(p:ai)(c:Co)(hd:0<=c.day/\c.day<=40000):PC prog 64 [.ag (bJ w),.ip (ak p),.ip (c8 c)] (·=au (nf (Mc p kJ) c w)):=by
 refine pB 35 Tryz.func64 ?_;have hv:=Ky p c.day hd;rw[my,eN]
 refine(aA @ak.eq_1)<|(zC)<|(zK hv)<|(zR) ?_
 have hN:nf (Mc p kJ) c w=(decide (w.kind=p.kind)&&(decide (lZ c.day p.made<=w.days)&&decide (p.l2<=w.km))):=rfl;rw[hN];cases g1:decide (w.kind=p.kind)
 ·exact(aA g1)<|zo [.tmp 4]
 cases g2:decide (lZ c.day p.made<=w.days)
 ·exact(aA (br g1 g2))<|zo [.tmp 4]
 refine(aA (br g1 g2))<|(zE) ?_;exact ue.of (rs:=[.tmp 4]) rfl rfl zl (Wk.refl rfl) zq
variable{S:List SO}{l:List (List Nat×Int)}
def zx{o:Nat}(s:List Nat)(ok:Bool)(hS:S[o]?=some (bu AV.str aa l)):eJ prog S 104 (.map o) (.a (.str s)) ok=some (cond ok (.bB [aa (getM 0 s l),au (cz s l)]) (aa (getM 0 s l))):=
 Eu (uv:=aa) (u0:=0) (k:=s) (kt:=9) (et:=3) (z:=.int .i64 0) (by simp only[az]) gq (by simp only[az]) rfl hS rfl ok
def uP{o:Nat}(s:List Nat)(u:Int)(hS:S[o]?=some (bu AV.str aa l)):gn prog S 104 (.map o) (.a (.str s)) (aa u)=some (S.set o (bu AV.str aa (bU s u l))):=
 Jw (uv:=aa) (kt:=9) (et:=3) (by simp only[az]) gq hS rfl u
def Ux{α:Type}{p:α->Bool}{l:List α}:(l.find? p=none/\kg p l = -1)\/∃(k:Nat) (x:α),l.find? p=some x/\l[k]?=some x/\kg p l=(k:Int):=by
 cases h:l.findIdx? p with
 | none=>
  refine .inl ⟨?_,by unfold kg;rw[h]⟩;rw[ga];intro x hx;rw[List.findIdx?_eq_none_iff.1 h x hx];decide
 | some k=>
  obtain⟨hlt,h1,h2⟩:=List.findIdx?_eq_some_iff_getElem.1 h;refine .inr ⟨k,l[k],?_,jp hlt,by unfold kg;rw[h]⟩;rw[List.find?_eq_some_iff_getElem];exact⟨h1,k,hlt,rfl,λj hj=>by have:=h2 j hj;simpa using this⟩
def wK(ws:List Wy)(ps:List ai)(c:Co)(hlw:ws.length<=1000)(hlp:ps.length<=100000)(hok:eH ws c=true):PC prog 32 [an 5 ws bJ,.ag [an 14 ps ak],.ag (c8 c)] (·=.bB [Nk (jJ ws ps c),au (bF ps c.part).isSome]):=by
 have hko:(∀w∈ws,w.ok=true)/\c.ok=true:=by
  unfold eH at hok;rw[a8,all_eq_true] at hok;exact hok
 have hday:0<=c.day/\c.day<=40000:=by
  have:=hko.2;unfold Co.ok Lt at this;simp only[a8,wp] at this;omega
 have hcov:=λ(p:ai) (w:Wy)=>G8 w p c hday;refine pB 65 Tryz.func32 ?_;rw[eN]
 refine(zV) ?_;refine zZ [(0,an 5 ws bJ),(4,.ip [an 14 ps ak]),(5,.ptr 1 0)] 0 rfl (tK @an.eq_1)<|zZ [(0,an 5 ws bJ),(4,.ip [an 14 ps ak]),(5,.ip (c8 c))] 1 rfl (tK (br @an.eq_1 @eN))<|zA [(0,an 5 ws bJ),(4,.ip [an 14 ps ak]),(5,.ip (c8 c))] [] zH ?_
 have hfi:=Ha ps c.part gt;have hbm:jJ ws ps c=qS ws ((bF ps c.part).map λp=>Mc p kJ) c:=rfl;generalize bF ps c.part=fo at hfi hbm
 obtain⟨p,hp⟩:∃p,qy ak ai.zero fo=.bB [.ag (ak p),au fo.isSome]/\∀q,fo=some q->q=p:=by
  cases fo with
  | none=>exact⟨ai.zero,rfl,λq h=>by cases h⟩
  | some q=>exact⟨q,rfl,λq h=>by cases h;rfl⟩
 rw[hp.1] at hfi
 refine(jH @eN)<|(zK hfi (hfl:=.inr zr))<|(cO @ak.eq_1) ?_;refine zZ [(0,an 5 ws bJ),(5,.ip (c8 c)),(8,.ip (ak p)),(9,au fo.isSome)] 0 rfl (tK (br @an.eq_1 @ak.eq_1))<|zA [(0,an 5 ws bJ),(5,.ip (c8 c)),(8,.ip (ak p)),(9,au fo.isSome)] [] zH ?_
 have hm0:SO.map [] [] none=bu AV.str aa []:=rfl
 refine(zs) ?_;refine aD.r0 ge (by simp only[cG,bG,an,az,m7,m6,↓reduceIte,ac,aj,ay,ad,ax,ah,ar,bD,eN,hm0,uP (l:=[])];first | done | rfl) ?_;refine zA [(0,an 5 ws bJ),(5,.ip (c8 c)),(8,.ip (ak p)),(9,au fo.isSome),(10,.map 0)] [bu AV.str aa [(c.owner,c.am)]] (bK (jB @bu.eq_1 @map_cons.{0,0} @map_nil.{0,0} @nil_append.{0}))<|(lJ)<|(zK (Mz (l:=ws) (nf (Mc p kJ) c) (first:=[]) (cap:=[.ip (ak p),.ip (c8 c)]) gt (λx _=>hcov p x) ⟨rfl,rfl⟩))<|(zR) ?_
 cases hfo:fo with
 | none=>
  rw[hfo] at hbm
  refine(zs) ?_;refine aD.r0 ge (by simp only[cG,bG,an,az,m7,m6,↓reduceIte,ac,aj,ay,ad,ax,ah,ar,bD,Option.isSome_none];first | done | rfl) ?_;exact(zN)<|(aA hm0)<|ji [.tmp 6,.tmp 7] (r:=.bB [Nk [(c.owner,c.am)],au false]) (hw:=.bB (.cons (pn (λ_=>rfl) rfl) zr)) (hq:=by rw[hbm];rfl)
 | some q=>
  have hq:=hp.2 q hfo;subst hq;rw[hfo,m6] at hbm
  rcases Ux (p:=nf (Mc q kJ) c) (l:=ws) with⟨h1,h2⟩ | ⟨k,w,h1,hx,h2⟩
  ·rw[h2]
   have hb:jJ ws ps c=[(c.owner,c.am)]:=by rw[hbm];simp only[qS,h1]
   refine(zs) ?_;refine aD.r0 ge (by simp only[cG,bG,an,az,m7,m6,↓reduceIte,ac,aj,ay,ad,ax,ah,ar,bD,g6];first | done | rfl) ?_;exact(zN)<|(aA hm0)<|ji [.tmp 6,.tmp 7] (r:=.bB [Nk [(c.owner,c.am)],au true]) (hw:=.bB (.cons (pn (λ_=>rfl) rfl) zr)) (hq:=by rw[hb];rfl)
  ·rw[h2];obtain⟨_,hamr,hpr⟩:=ES (hko.1 w (ap hx)) hko.2;have hpb:=NZ hamr hpr;have hpc:=DI c.am w.yc hamr hpr
   have hb:jJ ws ps c=bU w.cX (getM 0 w.cX (bU c.owner (c.am-rW c.am w.yc) [(c.owner,c.am)])+rW c.am w.yc) (bU c.owner (c.am-rW c.am w.yc) [(c.owner,c.am)]):=by rw[hbm];simp only[qS,h1]
   generalize rW c.am w.yc=n at hpb hpc hb
   have hg1:getM (0:Int) c.owner [(c.owner,c.am)]=c.am:=by simp[getM]
   have hgb:0<=getM (0:Int) w.cX (bU c.owner (c.am-n) [(c.owner,c.am)])/\getM (0:Int) w.cX (bU c.owner (c.am-n) [(c.owner,c.am)])<=1000000000000:=by
    rw[di];split
    ·omega
    ·rename_i hne;rw[show getM (0:Int) w.cX [(c.owner,c.am)]=0 by simp[getM,hne]];omega
   have hlt:k<ws.length:=aR hx;generalize hB:bU c.owner (c.am-n) [(c.owner,c.am)]=B at hb hgb;generalize hgg:getM (0:Int) w.cX B=g at hb hgb;refine(zs) ?_;refine aD.r0 ge (by simp only[cG,bG,an,az,m7,m6,↓reduceIte,ac,aj,ay,ad,ax,ah,ar,bD,g6,show decide ((0:Int)<=(k:Int))=true by simp];first | done | rfl) ?_;refine(zY) ?_
   (repeat refine aD.seq ?_)
   refine(zs) ?_;refine uW [0,1,0,0,12,28,60,127,255,511,511,1023,4095] ?_;refine(tT (jB hlt (aH (e:=5) (enc:=bJ) ce hx) @my @eN))<|(Nc (hpc))<|(zD)<|(zM)<|(zs) ?_;refine aD.r0 ge (by simp only[cG,bG,an,az,m7,m6,↓reduceIte,ac,aj,ay,ad,ax,ah,ar,bD,eN,hm0,zx (l:=[(c.owner,c.am)]),hg1,AF (P:=prog) (t:=3) (show -9223372036854775808<=c.am-n/\c.am-n<=9223372036854775807 from⟨by omega,by omega⟩),uP (l:=[(c.owner,c.am)])];first | done | rfl) ?_;refine(zs) ?_;refine aD.r0 ge (by simp only[cG,bG,an,az,m7,m6,↓reduceIte,ac,aj,ay,ad,ax,ah,ar,bD,hlt,aH (e:=5) (enc:=bJ) ce hx,my,zx (l:=B),uP (l:=B),hB,hgg,qT (P:=prog) (t:=3) (show -9223372036854775808<=g+n/\g+n<=9223372036854775807 from⟨by omega,by omega⟩)];first | done | rfl) ?_;refine(zs) ?_;refine aD.r0 ge zl ?_;refine(zE) ?_;exact ue.of (rs:=[.tmp 6,.tmp 7]) (r:=.bB [Nk (bU w.cX (g+n) B),au true]) rfl rfl zl (by exact .bB (.cons (pn (λ_=>rfl) rfl) zr)) (by (try simp only[dA,aY]);first | done | (rw[hb];rfl))
def MC(L:List (List Nat×Int)):PC prog 69 [pD AV.str aa L] (·=.fn 119 [] [.ip [pD AV.str aa L]]):=by
 refine pB 4 Tryz.func69 ?_;refine(zV) ?_;refine zZ [(1,.ip [pD AV.str aa L])] 0 rfl (tK @an.eq_1) ?_
 (try change aD _ _ _ _ _)
 exact(zV)<|zo [.tmp 2]
def iU(lc:hY):SO:=.loop lc .ready none [(2,.ptr 1 0)]
def Lx(o:Nat)(lc:hY)(h:¬1=o):cx o (iU lc)=iU lc:=by
 simp[iU,cx,eg,aW,Ev.names,h]
def AB(lc:hY):Prop:=(prog.funcs[(176:Nat)]?.bind λfn=>fn.body.bind p7)=some (lc.a,lc.b)
def MB(L:List (List Nat×Int))(lc:hY)(hcd:AB lc)(hln:lc.n=13)(hlp:lc.ps=#[7])(hlen:L.length<=100000)(hnd:(L.map (·.1)).Nodup):
 SC prog 119 [.a (.fn (.yield lc.id) [] []),.ip [pD AV.str aa L]] [iU lc,.cells [cY],.gone] [2] (λr S'=>r=.bB []/\∃out:List (List Nat),out.Perm (L.map (·.1))/\S'=[iU lc,.cells [bn 2 1 out.length],fU out]):=by
 refine Ys 14 func119 ?_;have hk3:=Lx 3 lc gc;refine(zC) ?_;refine aJ.Yr (ks:=L.map λe=>.str e.1) (vs:=L.map λe=>aa e.2) ge rfl rfl ge rfl (by simp only[az]) ?_;intro bs c hbs;refine aJ.r0 ge (by simp only[cG,bG,an,az,m7,m6,↓reduceIte,ac,aj,ay,ad,ax,ah,ar,bD,↓hk3];first | done | rfl) ?_
 (repeat refine aD.seq ?_)
 refine aD.block (aD.loop (λm st=>∃pos:List Nat,pos.Nodup/\(∀j∈pos,j<L.length)/\L.length-pos.length=m/\st=⟨[(0,.a (.fn (.yield lc.id) [] [])),(5,.ptr 3 0),(1000000,.ptr 0 0),(1000001,.ptr 1 0)],14,[iU lc,.cells [bn 2 1 (bq L pos).length],fU ((bq L pos).map (·.1)),.qj (L.map λe=>.str e.1) (L.map λe=>aa e.2) bs c pos],[]⟩) L.length (bK (sa @bq.eq_1 @List.filterMap_nil.{0,0} @map_nil.{0,0} @g9.{0} @fv @lx)) ⟨[],hM,λj hj=>by simp at hj,rfl,rfl⟩ (by rintro m st ⟨pos,_,_,_,rfl⟩;rfl) ?_);rintro m st ⟨pos,hpn,hpl,rfl,rfl⟩;refine aD.post ?_;refine(zC) ?_;refine aJ.Yn ge rfl rfl ge rfl rfl (λj hj=>by rw[al];exact hpl j hj) ?_ ?_
 ·intro hall
  refine(zR)<|(fC) ?_;refine⟨⟨[(1000000,.ptr 0 0),(1000001,.ptr 1 0)],14,[iU lc,.cells [bn 2 1 (bq L pos).length],fU ((bq L pos).map (·.1))],[]⟩,zH,?_⟩
  simp only[gK,eI,cQ,cr,if_true];exact zP [] (hq:=by (try simp only[dA,aY]);first | done | (exact⟨trivial,(bq L pos).map (·.1),(nX hpn hpl (λj hj=>hall j (by rw[al];exact hj))).map _,by rw[al]⟩))
 ·intro j hj hjn;rw[al] at hj;obtain⟨e,he⟩:∃e,L[j]?=some e:=⟨L[j],jp hj⟩;obtain⟨q1,q2,q3⟩:=qA hpn hpl hj hjn;have hsn:=mA L pos he
  refine(zR)<|(gJ)<|(zC) ?_;refine aJ.Yk (k:=.str e.1) (v:=aa e.2) ge rfl rfl ge rfl rfl (by rw[a7,he];rfl) (by rw[a7,he];rfl) ?_;refine(zR)<|(zC)<|oA [(10,.a (.fn (.yield lc.id) [] [])),(11,ab e.1),(0,.a (.fn (.yield lc.id) [] [])),(5,.ptr 3 0),(1000000,.ptr 0 0),(1000001,.ptr 1 0)] [iU lc,.cells [bn 2 1 (bq L pos).length],fU ((bq L pos).map (·.1)),.qj (L.map λe=>.str e.1) (L.map λe=>aa e.2) bs c (pos++[j])] zH ?_;refine aJ.y (vs:=[ab e.1]) (oo:=0) ge rfl rfl ge rfl rfl rfl ge rfl (by rw[hlp];rfl) (by rw[hln];rfl) (by rw[hln];decide) (by rw[hlp,hln];rfl) λro'=>?_
  have hcd2:=hcd;unfold AB at hcd2;rw[g8] at hcd2;have hcd3:=Option.some.inj (hcd2.symm.trans ge);obtain⟨ha,hbb⟩:=Prod.mk.inj hcd3;rw[ha,hlp,hln];have hhl:(bq L pos).length=((bq L pos).map (·.1)).length:=(al _).symm;rw[hhl]
  have hol:((bq L pos).map (·.1)).length<=100000:=by rw[<-hhl];exact el (fl _ _) gt
  generalize hout:(bq L pos).map (·.1)=out at hol;change aD _ _ _ ⟨[(7,ab e.1),(2,.ptr 1 0),(20000010,.a (.fn (.yield lc.id) [] [])),(20000011,ab e.1),(20000000,.a (.fn (.yield lc.id) [] [])),(20000005,.ptr 3 0),(21000000,.ptr 0 0),(21000001,.ptr 1 0)],13,[iU lc,.cells [bn 2 1 out.length],fU out,.qj (L.map λe=>.str e.1) (L.map λe=>aa e.2) bs c (pos++[j])],[]⟩ _;refine(zV) ?_;refine⟨rfl,0,none,[(2,.ptr 1 0)],rfl,?_⟩;rw[hbb];refine(zB) ?_;change aD _ _ _ ⟨_,13,[.loop lc .busy none [(2,.ptr 1 0)],.cells [bn 2 1 out.length],fU out,.qj (L.map λe=>.str e.1) (L.map λe=>aa e.2) bs c (pos++[j])],[]⟩ _;by_cases ho:out=[]
  ·have hE1:bn 2 1 (bq L (pos++[j])).length=.buf 2 1 1 none:=by rw[hsn,li,hhl,hout,ho];rfl
   have hE2:fU ((bq L (pos++[j])).map (·.1))=.cells [ab e.1]:=by rw[hsn,ca,hout,ho];rfl
   rw[ho,lx,show bn 2 1 ([]:List (List Nat)).length=cY from rfl];refine(zV) ?_;refine⟨rfl,0,.busy,none,[(2,.ptr 1 0)],rfl,?_⟩;simp only[w9,laid,ad,a9,↓reduceIte]
   refine oA [(12,au true),(0,.a (.fn (.yield lc.id) [] [])),(5,.ptr 3 0),(1000000,.ptr 0 0),(1000001,.ptr 1 0)] [iU lc,.cells [.buf 2 1 1 none],.cells [ab e.1],.qj (L.map λe=>.str e.1) (L.map λe=>aa e.2) bs c (pos++[j])] (Fg.rn (f':=[(12,au true),(0,.a (.fn (.yield lc.id) [] [])),(5,.ptr 3 0),(1000000,.ptr 0 0),(1000001,.ptr 1 0)]) (n:=14) (S':=[iU lc,.cells [.buf 2 1 1 none],.cells [ab e.1],.qj (L.map λe=>.str e.1) (L.map λe=>aa e.2) bs c (pos++[j])]) [0,1,5,3] gc rfl (KM (ik @iU.eq_1 @xE.eq_1 @xC.eq_1 @xD.eq_1 @w9.eq_1)) (KN (ik @iU.eq_1 @xE.eq_1 @xC.eq_1 @xD.eq_1 @w9.eq_1)))<|(zR)<|(zN) ?_;exact⟨⟨[(0,.a (.fn (.yield lc.id) [] [])),(5,.ptr 3 0),(1000000,.ptr 0 0),(1000001,.ptr 1 0)],14,[iU lc,.cells [.buf 2 1 1 none],.cells [ab e.1],.qj (L.map λe=>.str e.1) (L.map λe=>aa e.2) bs c (pos++[j])],[]⟩,(bK @iU.eq_1),L.length-(pos++[j]).length,_,by rw[li];simp only[i7,g9];omega,(bK (cA @iU.eq_1 hE1 hE2)),pos++[j],q1,q2,rfl,rfl⟩
  ·have hk1:¬out.length=0:=λh=>ho (rx h)
   have hE1:bn 2 1 (bq L (pos++[j])).length=.buf 2 (out.length+1) 1 none:=by rw[hsn,li,hhl,hout];exact bR f5
   have hE2:fU ((bq L (pos++[j])).map (·.1))=.cells ((out++[e.1]).flatMap (aw ab)):=by rw[hsn,ca,hout];exact iZ f5
   have hcl3:=aM (enc:=aw ab) (e:=1) ce out;have hkc3:=λo=>bf (enc:=aw ab) ce o out;have happ:=eV (enc:=aw ab) (e:=1) ce (λ_=>rfl) 2 out e.1;rw[show aw ab e.1=[ab e.1] from rfl,bd] at happ;rw[bd] at hcl3;rw[iZ ho,bR hk1];refine(aA (sa hkc3 hcl3 @bd (show out.length<=1000000 by omega) @a6 happ)) ?_;refine⟨rfl,0,.busy,none,[(2,.ptr 1 0)],rfl,?_⟩;simp only[w9,laid,ad,a9,↓reduceIte]
   refine oA [(12,au true),(0,.a (.fn (.yield lc.id) [] [])),(5,.ptr 3 0),(1000000,.ptr 0 0),(1000001,.ptr 1 0)] [iU lc,.cells [.buf 2 (out.length+1) 1 none],.cells ((out++[e.1]).flatMap (aw ab)),.qj (L.map λe=>.str e.1) (L.map λe=>aa e.2) bs c (pos++[j])] (bK (ik @iU.eq_1 @w9.eq_1 @xE.eq_1 @xC.eq_1 @xD.eq_1))<|(zR)<|(zN) ?_;exact⟨⟨[(0,.a (.fn (.yield lc.id) [] [])),(5,.ptr 3 0),(1000000,.ptr 0 0),(1000001,.ptr 1 0)],14,[iU lc,.cells [.buf 2 (out.length+1) 1 none],.cells ((out++[e.1]).flatMap (aw ab)),.qj (L.map λe=>.str e.1) (L.map λe=>aa e.2) bs c (pos++[j])],[]⟩,(bK @iU.eq_1),L.length-(pos++[j]).length,_,by rw[li];simp only[i7,g9];omega,(bK (cA @iU.eq_1 hE1 hE2)),pos++[j],q1,q2,rfl,rfl⟩
def JX(L:List (List Nat×Int))(hlen:L.length<=100000)(hnd:(L.map (·.1)).Nodup):SC prog 176 [cY,.fn 119 [] [.ip [pD AV.str aa L]]] [] [] (λr S'=>∃out:List (List Nat),out.Perm (L.map (·.1))/\r=bn 0 1 out.length/\S'=[fU out,.gone]):=by
 refine SC.tU (n:=13) dQ g8 rfl rfl gc (W:=[]) rfl gc ?_;refine(nP)<|zA [(2,.ptr 0 0),(6,.fn 119 [] [.ip [pD AV.str aa L]])] [.cells [cY],.gone] zH<|(zB) ?_;refine aD.wc (f1:=[(2,.ptr 0 0)]) dQ ge func119 ge Ye ?_
 rintro N lc hid hn hps ha hb
 have hcd:AB lc:=by
  unfold AB;rw[g8,ha,hb];rfl
 have hsc:=MB L lc hcd hn hps hlen hnd;refine⟨[3,0,1],_,_,_,_,hsc,?_,rfl,by decide,?_,?_⟩
 ·simp only[gh,bG,cG,an,eg,aW,↓reduceIte,ac,aj,a9,hid,List.map,h6,dv,nil_append]
  try rfl
 ·rintro(_ | _ | _ | i) so h
  ·cases h;exact⟨3,rfl,by rfl⟩
  ·cases h;exact⟨0,rfl,by rfl⟩
  ·cases h;exact⟨1,rfl,by rfl⟩
  ·cases h
 rintro r S' ⟨rfl,out,hp,rfl⟩
 have hbn:∀n:Nat,dT 3 (bn 2 1 n)=true:=λn=>by
  unfold bn;split
  ·exact gx rfl
  ·rfl
 have hrn3:∀(B n:Nat),oI (kM [3,0,1] B) (.cells [bn 2 1 n])=.cells [bn 1 1 n]:=λB n=>by
  show SO.cells [gF _ _]=_;rw[eK];rfl
 refine⟨by simp only[iU,GZ,gh,bG,an,aj,ax,decide_true,↓jK,↓hbn];first | done | rfl,3,.ready,none,[(2,.ptr 0 0)],by rfl,by decide,by rfl,?_⟩
 have hS2:(gu (iX (iX [SO.cells [cY],SO.gone] (SO.pT N)) (SO.loop lc .ready none [(2,.ptr 0 0)])) [3,0,1] [2] [iU lc,.cells [bn 2 1 out.length],fU out]).set 3 .gone=[.cells [bn 1 1 out.length],fU out,.pT N,.gone]:=by
  simp only[gu,iX,eC,ek,kh,kI,i7,g9,List.map,al,li,↓hrn3,↓fE];rfl
 rw[hS2];change aD _ _ _ ⟨[(2,.ptr 0 0)],13,[.cells [bn 1 1 out.length],fU out,.pT N,.gone],[{ fn:=none,sZ:=N,args:=[],cap:=[] }]⟩ _;refine(zV) ?_;refine zA [(4,bn 0 1 out.length)] [fU out,.pT N] (Fg.rn (f':=[(4,bn 0 1 out.length)]) (n:=13) (S':=[fU out,.pT N]) [1,2] gc rfl (KM (br @eK @fE)) (KN (br @eK @fE))) ?_;refine aD.ret ?_
 (try simp only[gK,eI,cQ,cr])
 exact⟨rfl,[(4,bn 0 1 out.length)],⟨rfl,trivial⟩,rfl,.inl ⟨rfl,1,rfl,⟨[bn 0 1 out.length],by rfl,out,hp,rfl,rfl⟩,b7 _,λi hi=>t7 hi (d6 _)⟩⟩
def Dy(L:List (List Nat×Int))(hlen:L.length<=100000)(hnd:(L.map (·.1)).Nodup):SC prog 118 [.fn 119 [] [.ip [pD AV.str aa L]]] [] [] (λr S'=>∃out:List (List Nat),out.Perm (L.map (·.1))/\r=bn 0 1 out.length/\S'=[fU out,.gone]):=by
 refine On 5 Tryz.func118 ?_;refine(lJ) ?_;refine aJ.sc [] ge rfl rfl ge rfl zc (JX L hlen hnd) (by simp only[gh,bG,an];first | done | rfl) rfl gc (λi so h=>by simp at h) ?_ ?_
 ·rintro r S' ⟨out,hp,rfl,rfl⟩;exact⟨kQ 1 1 _,by simp only[GZ,↓jK];first | done | rfl⟩
 ·rintro r S' ⟨out,hp,rfl,rfl⟩;have e1:gF (kM [] ([]:List SO).length) (bn 0 1 out.length)=bn 0 1 out.length:=eK _ 0 1 _
  have e2:gu [] [] [] [fU out,.gone]=[fU out,.gone]:=by
   simp only[gu,ek,kh,kI,i7,g9,List.map,↓fE];rfl
  rw[e1,e2]
  refine oA [(4,bn 0 1 out.length)] [fU out,.gone] zH<|(zR)<|(zE) ?_;exact zP [.tmp 2] (hq:=by (try simp only[dA,aY]);first | done | (exact⟨out,hp,rfl,rfl⟩))
def HC(L:List (List Nat×Int))(hlen:L.length<=100000)(hnd:(L.map (·.1)).Nodup)(hne:L≠[]):SC prog 68 [.fn 119 [] [.ip [pD AV.str aa L]]] [] [] (λr S'=>r=.buf 0 L.length 1 none/\S'=[.cells ((dZ (L.map (·.1))).flatMap (aw ab))]):=by
 refine On 9 Tryz.func68 ?_;refine(lJ) ?_;refine aJ.sc [] ge rfl rfl ge rfl zc (Dy L hlen hnd) (by simp only[gh,bG,an];first | done | rfl) rfl gc (λi so h=>by simp at h) ?_ ?_
 ·rintro r S' ⟨out,hp,rfl,rfl⟩;exact⟨kQ 1 1 _,by simp only[GZ,↓jK];first | done | rfl⟩
 ·rintro r S' ⟨out,hp,rfl,rfl⟩;have e1:gF (kM [] ([]:List SO).length) (bn 0 1 out.length)=bn 0 1 out.length:=eK _ 0 1 _
  have e2:gu [] [] [] [fU out,.gone]=[fU out,.gone]:=by
   simp only[gu,ek,kh,kI,i7,g9,List.map,↓fE];rfl
  rw[e1,e2]
  have hol:out.length=L.length:=by rw[hp.length_eq,al]
  have hon:out≠[]:=λe=>hne (rx (by rw[<-hol,e];rfl));have hso:dZ out=dZ (L.map (·.1)):=uL hp;have hss:=uR out gt hon;rw[hso,hol] at hss;have hcs:∀(r:Nat->Nat) (q:List (List Nat)),me r (q.flatMap (aw ab))=q.flatMap (aw ab):=λr q=>bg (aB (λ_=>rfl) q);have hcb:∀(B:Nat) (q:List (List Nat)),ia B (q.flatMap (aw ab))=true:=λB q=>bH (aB (λ_=>rfl) q);have hck:∀(o:Nat) (q:List (List Nat)),(q.flatMap (aw ab)).map (aW o)=q.flatMap (aw ab):=λo q=>bf (enc:=aw ab) ce o q;rw[iZ hon,hol,bR (λh=>hne (rx h))]
  refine oA [(5,.buf 0 L.length 1 none)] [.cells (out.flatMap (aw ab))] zH<|(zR)<|(zC) ?_;refine zS [0] (cA hcs hcb hck) hss ?_;refine(zR)<|(zV)<|(zE) ?_;exact zP [.tmp 2]
def e8(s:Sh):List SV:=[ab s.pt,aa s.am]
def xB(s:Sh):(e8 s).length=2:=rfl
def xz(s:Sh):cg (e8 s)=true:=rfl
def jg(s:List Nat)(ok:Bool):eJ prog S 104 (pD AV.str aa l) (.a (.str s)) ok=some (cond ok (.bB [aa (getM 0 s l),au (cz s l)]) (aa (getM 0 s l))):=
 R8 (uv:=aa) (u0:=0) (k:=s) (kt:=9) (et:=3) (z:=.int .i64 0) (by simp only[az]) gq (by simp only[az]) rfl rfl ok
def jx(L:List (List Nat×Int)):List Sh:=xd L (dZ (L.map (·.1)))
def CY(L:List (List Nat×Int))(hlen:L.length<=100000)(hnd:(L.map (·.1)).Nodup)(hne:L≠[]):PC prog 33 [pD AV.str aa L] (·=an 2 (jx L) e8):=by
 refine pB 28 Tryz.func33 ?_;refine(nP)<|(zC)<|(zK (MC L) (hfl:=.inr zr)) ?_
 have hso:=HC L hlen hnd hne;unfold jx
 have hkl:(dZ (L.map (·.1))).length=L.length:=by rw[(qG _).length_eq,al]
 generalize dZ (L.map (·.1))=ks at hso hkl ⊢;have hcs:∀(r:Nat->Nat) (q:List (List Nat)),me r (q.flatMap (aw ab))=q.flatMap (aw ab):=λr q=>bg (aB (λ_=>rfl) q);have hcb:∀(B:Nat) (q:List (List Nat)),ia B (q.flatMap (aw ab))=true:=λB q=>bH (aB (λ_=>rfl) q);refine zS [] (br hcs hcb) hso ?_;refine(zR) ?_;refine zZ [(0,pD AV.str aa L),(3,cY),(8,an 1 ks (aw ab)),(9,aa ks.length),(10,aa 0)] 0 rfl ⟨.inl rfl,.inl rfl,.inr (by rw[pN 1 ks (aw ab),hkl];exact .buf rfl (by rw[<-hkl,dw (enc:=aw ab) (e:=1) ce];exact cS.refl (aB (λ_=>rfl) _)) (by rw[aM (enc:=aw ab) (e:=1) ce,hkl];exact a6 _)),.inl (by rw[hkl];rfl),.inl rfl,trivial⟩ ?_
 (try change aD _ _ _ _ _)
 have hlen6:ks.length<=1000000:=by omega
 refine(zs) ?_;refine zL ks (λk=>True) (λk=>[(0,pD AV.str aa L),(3,bn 1 2 (xd L (ks.take k)).length),(8,an 1 ks (aw ab)),(9,aa ks.length),(10,aa k)]) (λk=>sD 1 (xd L (ks.take k)) e8) (bK (Af @take_zero.{0} @xd.eq_1 @List.filter_nil.{0} @map_nil.{0,0} @g9.{0} @fv @ny)) zp ?_;intro k hk hall;refine zT ks k ?_ ?_;rintro rfl;rotate_left;intro key hx hlt;rotate_left
 ·refine(fC) ?_;rw[cd]
  exact(zV)<|zo [.tmp 2] (r:=an 2 (xd L ks) e8) (hw:=OA xB xz _)
 have hfm:=Tv L (ks.take k) key;rw[<-bz hx] at hfm;have hol:(xd L (ks.take k)).length<=k:=el (GQ _ _) (by rw[dN];omega);generalize hO:xd L (ks.take k)=out at hol hfm;refine(gJ) ?_;have hcl:=aM xB out;have hkc:=λo=>bf xz o out;by_cases hk0:out=[]
 ·rw[show sD 1 out e8=[] by rw[hk0];rfl,show bn 1 2 out.length=cY by rw[hk0];rfl];refine(aA (cA hlt (aH (e:=1) (enc:=aw ab) ce hx) @aw.eq_1)) ?_;cases g:decide (0<getM 0 key L)
  ·rw[ul (wt g)] at hfm
   have f1:bn 1 2 (xd L (ks.take (k+1))).length=cY:=by rw[hfm,hk0];rfl
   have f2:sD 1 (xd L (ks.take (k+1))) e8=[]:=by rw[hfm,hk0];rfl
   refine(zs) ?_;refine aD.r0 ge (by simp only[cG,bG,an,az,m7,m6,↓reduceIte,ac,aj,ay,ad,ax,ah,ar,bD,jg (l:=L),g];first | done | rfl) ?_;refine(zs) ?_;refine aD.no rfl ?_;(try (refine aD.skip ?_;try change aD _ _ _ _ _));refine(zs) ?_;refine aD.r0 ge (fF (xn (rf hlt hlen6 gc))) ?_;refine⟨ks.length-(k+1),_,by omega,(Fg.less (Xb (br f1 f2)) (Xc (br f1 f2))),k+1,by omega,rfl,trivial,rfl⟩
  ·rw[t8 (ww g)] at hfm
   have f1:bn 1 2 (xd L (ks.take (k+1))).length=.buf 1 1 2 none:=by rw[hfm,hk0];rfl
   have f2:sD 1 (xd L (ks.take (k+1))) e8=[.gone,.cells (e8 (⟨key,getM 0 key L⟩:Sh))]:=by rw[hfm,hk0];rfl
   refine(zs) ?_;refine aD.r0 ge (by simp only[cG,bG,an,az,m7,m6,↓reduceIte,ac,aj,ay,ad,ax,ah,ar,bD,jg (l:=L),g];first | done | rfl) ?_;refine(zs) ?_;refine aD.yes rfl ?_;(try (refine aD.skip ?_;try change aD _ _ _ _ _));refine(zs) ?_;refine aD.r0 ge (by simp only[cG,bG,an,az,m7,m6,↓reduceIte,ac,aj,ay,ad,ax,ah,ar,bD,jg (l:=L)];first | done | rfl) ?_;refine(aA (zi hlt hlen6)) ?_;refine zX hlt (bK (cA f1 f2 @e8.eq_1)) trivial
 ·have hk1:¬out.length=0:=λh=>hk0 (rx h);rw[jS hk0,bR hk1];refine(aA (ik hlt (aH (e:=1) (enc:=aw ab) ce hx) @aw.eq_1 sH hkc)) ?_;cases g:decide (0<getM 0 key L)
  ·rw[ul (wt g)] at hfm
   have f1:bn 1 2 (xd L (ks.take (k+1))).length=.buf 1 out.length 2 none:=by rw[hfm,bR hk1]
   have f2:sD 1 (xd L (ks.take (k+1))) e8=[.gone,.cells (out.flatMap e8)]:=by rw[hfm,jS hk0];rfl
   refine(zs) ?_;refine aD.r0 ge (by simp only[cG,bG,an,az,m7,m6,↓reduceIte,ac,aj,ay,ad,ax,ah,ar,bD,jg (l:=L),g,c0,hkc];first | done | rfl) ?_;refine(zs) ?_;refine aD.no rfl ?_;(try (refine aD.skip ?_;try change aD _ _ _ _ _));refine(zs) ?_;refine aD.r0 ge (fF (xn (rf hlt hlen6 gc))) ?_;refine⟨ks.length-(k+1),_,by omega,(Fg.less (Xb (br f1 f2)) (Xc (br f1 f2))),k+1,by omega,rfl,trivial,rfl⟩
  ·rw[t8 (ww g)] at hfm
   have f1:bn 1 2 (xd L (ks.take (k+1))).length=.buf 1 (out.length+1) 2 none:=by rw[hfm,li];rfl
   have f2:sD 1 (xd L (ks.take (k+1))) e8=[.gone,.cells ((out++[(⟨key,getM 0 key L⟩:Sh)]).flatMap e8)]:=by rw[hfm,og];rfl
   refine(zs) ?_;refine aD.r0 ge (by simp only[cG,bG,an,az,m7,m6,↓reduceIte,ac,aj,ay,ad,ax,ah,ar,bD,jg (l:=L),g,c0,hkc];first | done | rfl) ?_;refine(zs) ?_;refine aD.yes rfl ?_;(try (refine aD.skip ?_;try change aD _ _ _ _ _));have happ:=eV xB xz 1 out (⟨key,getM 0 key L⟩:Sh);rw[show e8 (⟨key,getM 0 key L⟩:Sh)=[ab key,aa (getM 0 key L)] from rfl] at happ;refine(zs) ?_;refine aD.r0 ge (by simp only[cG,bG,an,az,m7,m6,↓reduceIte,ac,aj,ay,ad,ax,ah,ar,bD,jg (l:=L),hcl,hkc,c0,show out.length<=1000000 by omega,a6,happ];first | done | rfl) ?_;refine(aA (zi hlt hlen6)) ?_;refine zX hlt (bK (br f1 f2)) trivial
end Go.Proofs
namespace Go.Ev
noncomputable section
section
variable {P:Program} {ro:Option Nat} {S:List SO} {f:Fm} {n:Nat} {ds:List jy}
def aJ.YG{all:List Oper}{o:Oper}{l:List Oper}{K:eU->Prop}{d t yt:Nat}{x:Operand}{y:Value}{ks:List AV}{vs:List SV}(hst:eD all n [o]=true)(hop:o.op=.binOp .eql t x (.const y) yt)(hdst:o.dst=some d)(hw:cH all f o.guard=some true)
 (hx:fp f x=some (.im ks vs)) (hy:mM mQ y=some (.map none)) (ht:jw P t=.map) (hg:P.eqGuardType P.depth t=false) (hk:aJ P ro all l ⟨(d,.a (.bool false))::f,n,S,ds⟩ K):aJ P ro all (o::l) ⟨f,n,S,ds⟩ K:=by
 rintro ρ0 h0 ⟨af,n',h,ds'⟩ ⟨rfl,rfl,θ,ρ,hR,hF⟩;obtain⟨hd,_⟩:=eR hst;rw[hdst] at hd;obtain⟨a,ha,ka⟩:=bE hF hx;have ha':ev (dy af n') x=some a:=ha;obtain⟨kt,et,hu⟩:=F7 ht;have hyv:ev (dy af n') (.const y)=some (.map none):=hy;rw[VS,GS] at ka;obtain⟨id,lm,c,rfl,_⟩:=ka
 have hb:cW P .eql t (.map (some id)) (.map none)=some (.bool false):=by
  unfold cW;simp only[hg,ar,mL,hu,m6]
 refine .v hop hdst (cE hF (dR hst hw)) rfl hd (by rw[LQ,ha',hyv,m7,m7,hb];rfl) ?_;exact hk ρ0 h0 _ ⟨rfl,rfl,θ,ρ,hR,hF.put (fY hd) (by rw[VS])⟩
def aJ.ta{all:List Oper}{o:Oper}{l:List Oper}{K:eU->Prop}{d tt xt:Nat}{x:Operand}{v:SV}{kt et:TypeId}(hst:eD all n [o]=true)(hop:o.op=.typeAssert x xt tt false)(hdst:o.dst=some d)(hw:cH all f o.guard=some true)
 (hx:fp f x=some (.iface tt v)) (hu:P.underlying tt=some (.map kt et)) (hk:aJ P ro all l ⟨(d,v)::f,n,S,ds⟩ K):aJ P ro all (o::l) ⟨f,n,S,ds⟩ K:=by
 rintro ρ0 h0 ⟨af,n',h,ds'⟩ ⟨rfl,rfl,θ,ρ,hR,hF⟩;obtain⟨hd,_⟩:=eR hst;rw[hdst] at hd;obtain⟨a,ha,ka⟩:=bE hF hx;have ha':ev (dy af n') x=some a:=ha;rw[VS] at ka;obtain⟨y,rfl,ky⟩:=ka
 have hrun:eS P (dy af n') h (.typeAssert x xt tt false)=some [(some y,h)]:=by
  simp only[eS,hu,ha',hW,ah,ar];rfl
 refine .v hop hdst (cE hF (dR hst hw)) rfl hd hrun ?_;exact hk ρ0 h0 _ ⟨rfl,rfl,θ,ρ,hR,hF.put (fY hd) ky⟩
end
def SC.clone{P:Program}{g:FuncId}(hx:C8 P g .clone)(t:TypeId)(ks:List AV)(vs:List SV)(hg:cg vs=true):SC P g [.iface t (.im ks vs)] [] [] (λr S'=>r=.iface t (.map 0)/\S'=[.map ks vs none]):=by
 intro E θ ρ h avs hE hR hA;rw[aG] at hA;obtain⟨a,r,rfl,h1,h2⟩:=hA;rw[aU] at h2;subst h2;rw[VS] at h1;obtain⟨y,rfl,h1⟩:=h1;rw[VS,GS] at h1;obtain⟨id,l,c,rfl,k1,k2,k3⟩:=h1
 have hm:h.mapOf id=some (l,c):=by
  have:=(hR.row id _ k1).2.1;rw[hE] at this;unfold H.mapOf;rw[show h.aV.get id=some (.map l c) from this]
 have hid:id<h.next:=by
  have:=(hR.row id _ k1).1;rw[hE] at this;exact this
 have key:h.low<=h.next->dK P (.func g) [.iface t (.map (some id))] h (λv h'=>∃r S' θ' ρ' h1,(r=SV.iface t (.map 0)/\S'=[SO.map ks vs none])/\h'={ h1 with low:=ic h.low h1.low }/\RS θ' ρ ρ' E h1 S'/\VS θ' ρ' r v/\([]:List SO).length<=S'.length/\∀i,i<([]:List SO).length->i∉([]:List Nat)->(θ' i).id=(θ i).id):=by
  intro hlow;refine(dK.XN hx (a:=.iface t (.map (some h.next))) (h':={ h.lay h.next (.map l c) with next:=h.next+1 }) (by unfold xA;simp only[hm,m6])).mono ?_;rintro a' h'' ⟨rfl,rfl⟩
  have hn:=hR.Sk (so:=.map ks vs none) (ob:=.map l c) ⟨l,c,da _ _ _,k2,by
   show df _ _ (vs.map (aW _)) _
   rw[bL hg];exact k3.vs⟩
  have e:iX [] (SO.map ks vs none)=[SO.map ks vs none]:=by
   show[SO.map ks (vs.map (aW 0)) none]=_;rw[bL hg]
  rw[hE,e] at hn;refine⟨_,_,_,ρ,_,⟨rfl,rfl⟩,?_,hn,?_,b7 _,λi hi=>t7 hi (d6 _)⟩
  ·show _=_;simp only[H.lay];rw[tu hlow]
  ·rw[VS];exact⟨_,rfl,by rw[VS];rfl⟩
 intro σ w args' hv hr;exact key hr.B0 σ w args' hv hr
end
end Go.Ev
namespace Go.Proofs
open Go.Ev
set_option maxRecDepth 100000
def G3(L:List (List Nat×Int)):SC prog 102 [pD AV.str aa L] [] [] (λr S'=>r=.map 0/\S'=[bu AV.str aa L]):=by
 refine On 9 Tryz.func102 ?_;have hcl:=SC.clone (P:=prog) KA 104 (L.map λe=>.str e.1) (L.map λe=>aa e.2) (fD (uv:=aa) (λ_=>rfl) L)
 refine(lJ) ?_;refine aJ.YG ge rfl rfl ge rfl rfl (by simp only[az]) zW ?_;refine(zR)<|(Vy)<|oA [(6,.iface 104 (pD AV.str aa L))] [] zH ?_
 have hrg:∀r:Nat->Nat,me r (L.map λe=>aa e.2)=L.map λe=>aa e.2:=λr=>bg (fD (uv:=aa) (λ_=>rfl) L);have hbg:∀B:Nat,ia B (L.map λe=>aa e.2)=true:=λB=>bH (fD (uv:=aa) (λ_=>rfl) L)
 refine zS [] (br hrg hbg) hcl ?_;refine aJ.ta (v:=.map 0) (kt:=9) (et:=3) ge rfl rfl ge rfl zW ?_;refine(zR)<|(zE) ?_;exact zP [.tmp 2]
def LG(b:List (List Nat×Int))(e:List Nat×Int):List Nat×Int:=(e.1,dI e.2 (getM 0 e.1 b))
def nv(out b:List (List Nat×Int)):List (List Nat×Int):=out.map (LG b)
def mT:List (List (List Nat×Int))->List (List Nat×Int)
 | []=>[]
 | b::bs=>bs.foldl nv b
def rp(out b:List (List Nat×Int))(pos:List Nat):List (List Nat×Int):=out.mapIdx λj e=>if j∈pos then LG b e else e
def vQ(out b:List (List Nat×Int))(pos:List Nat):(rp out b pos).length=out.length:=List.length_mapIdx
def qu(out b:List (List Nat×Int))(pos:List Nat)(j:Nat):(rp out b pos)[j]?=(out[j]?).map λe=>if j∈pos then LG b e else e:=by
 unfold rp;rw[List.getElem?_mapIdx]
def Se(out b:List (List Nat×Int)):rp out b []=out:=by
 apply be;intro j;rw[qu];cases out[j]?<;>simp
variable{out:List (List Nat×Int)}
def Sd{b:List (List Nat×Int)}{pos:List Nat}(h:∀j,j<out.length->j∈pos):rp out b pos=nv out b:=by
 apply be;intro j;rw[qu];unfold nv;rw[a7]
 cases hj:out[j]? with
 | none=>rfl
 | some e=>simp[h j (aR hj)]
def PI{b:List (List Nat×Int)}{pos:List Nat}{j:Nat}{e:List Nat×Int}(he:out[j]?=some e):rp out b (pos++[j])=(rp out b pos).set j (LG b e):=by
 apply be;intro i;rw[qu];by_cases hij:j=i
 ·subst hij;rw[bZ (by rw[vQ];exact aR he),he];simp
 ·rw[cf hij,qu]
  have hm:i∈pos++[j]↔i∈pos:=by simp[Ne.symm hij]
  simp only[hm]
def PH(out b:List (List Nat×Int))(pos:List Nat):(rp out b pos).map (·.1)=out.map (·.1):=by
 apply be;intro j;rw[a7,qu,a7]
 cases out[j]? with
 | none=>rfl
 | some e=>
  show some (if j∈pos then LG b e else e).1=some e.1;split<;>rfl
def PG(out b:List (List Nat×Int)):(nv out b).map (·.1)=out.map (·.1):=by
 unfold nv;rw[eF];rfl
def dH(b:List (List Nat×Int)):List SV:=[pD AV.str aa b]
def x5(r:List (List Nat×Int))(bs:List Nat)(c:Nat):SO:=.map (r.map λe=>.str e.1) (r.map λe=>aa e.2) (some (bs,c))
def Ps(o:Nat)(r:List (List Nat×Int))(bs:List Nat)(c:Nat):cx o (x5 r bs c)=x5 r bs c:=by
 unfold x5;rw[cx]
 congr 1
 exact bL (fD (uv:=aa) (λ_=>rfl) r)
variable{S:List SO}
def Kl{o:Nat}{l:List (List Nat×Int)}{bs:List Nat}{c:Nat}(s:List Nat)(ok:Bool)(hS:S[o]?=some (x5 l bs c)):eJ prog S 104 (.map o) (.a (.str s)) ok=some (cond ok (.bB [aa (getM 0 s l),au (cz s l)]) (aa (getM 0 s l))):=
 vL (kv:=AV.str) (uv:=aa) (u0:=0) (k:=s) (kt:=9) (et:=3) (z:=.int .i64 0) (by simp only[az]) gq (by simp only[az]) rfl (by simp only[Ah,hS,x5]) rfl ok
def MM{o:Nat}{l:List (List Nat×Int)}{bs:List Nat}{c:Nat}(s:List Nat)(u:Int)(hS:S[o]?=some (x5 l bs c))(hh:cz s l=true):gn prog S 104 (.map o) (.a (.str s)) (aa u)=some (S.set o (x5 (bU s u l) bs c)):=by
 have hm:c9 prog 104=some (9,3):=by simp only[az]
 have hk:=gq;unfold gn;rw[hm,m7];simp only;rw[show cU (.a (.str s))=some (.str s) from rfl,m7,hk.ck,ah,hS];simp only[x5];rw[nK hk,m7]
 cases hp:qz s l 0 with
 | none=>
  have hn:=jt hp;rw[hn] at hh;cases hh
 | some i=>
  obtain⟨_,u',h2,_,h4,_⟩:=iw hp;rw[en] at h2;have h4:=h4 u;rw[en] at h4;simp only[a7,h2,m6,m7,hk.st,ah,h4,g7]
def T7{l:List (List Nat×Int)}{j:Nat}{e:List Nat×Int}(hn:(l.map (·.1)).Nodup)(he:l[j]?=some e):getM 0 e.1 l=e.2/\(∀v,bU e.1 v l=l.set j (e.1,v))/\cz e.1 l=true:=by
 cases hp:qz e.1 l 0 with
 | none=>
  have h1:=jt hp;simp only[cz,any_eq_false,wp] at h1;exact t7 rfl (h1 e (ap he))
 | some i=>
  obtain⟨_,u,h2,h3,h4,h5⟩:=iw hp;rw[en] at h2 h4
  have hij:i=j:=by
   refine(List.getElem?_inj (l:=l.map (·.1)) (by rw[al];exact aR h2) hn).1 ?_;simp only[a7,h2,he,m6]
  subst hij;rw[he] at h2;have hu:e.2=u:=n9 snd (Option.some.inj h2);exact⟨by rw[hu];exact h3 0,h4,h5⟩
def D5:∀(bs:List (List (List Nat×Int))) (o:List (List Nat×Int)),(bs.foldl nv o).map (·.1)=o.map (·.1)
 | [],o=>rfl
 | b::bs,o=>by rw[bo,D5 bs,PG]
def Kj(b0:List (List Nat×Int))(bs:List (List (List Nat×Int)))(hlen:bs.length<=100000)(hnd:(b0.map (·.1)).Nodup):PC prog 51 [an 1 (b0::bs) dH] (·=pD AV.str aa (mT (b0::bs))):=by
 refine pB 35 Tryz.func51 ?_;have h0:0<(b0::bs).length:=Nat.zero_lt_succ _;have hat:=aH (e:=1) (enc:=dH) ce (show(b0::bs)[0]?=some b0 from rfl);rw[hZ] at hat
 refine(zV)<|(jH (jB h0 hat @hZ @dH.eq_1)) ?_
 have hrg:∀(r:Nat->Nat) (L:List (List Nat×Int)),me r (L.map λe=>aa e.2)=L.map λe=>aa e.2:=λr L=>bg (fD (uv:=aa) (λ_=>rfl) L);have hbg:∀(B:Nat) (L:List (List Nat×Int)),ia B (L.map λe=>aa e.2)=true:=λB L=>bH (fD (uv:=aa) (λ_=>rfl) L);refine zS [] (cA @bu.eq_1 hrg hbg) (G3 b0) ?_;refine(zR) ?_;have hn1:1<=(b0::bs).length:=h0;refine(aA (br hn1 @bd)) ?_;have hfa:=dw (enc:=dH) (e:=1) ce bs;rw[bd] at hfa
 have e12:SV.sl ((b0::bs).length-1) 1 (List.take ((b0::bs).length-1) (List.drop 1 ((b0::bs).flatMap dH)))=.sl bs.length 1 (bs.flatMap dH):=by
  show SV.sl bs.length 1 (List.take bs.length (bs.flatMap dH))=_;rw[hfa]
 refine zA [(3,.map 0),(12,an 1 bs dH),(13,aa bs.length),(14,aa 0)] [bu AV.str aa b0] (bK (br @bu.eq_1 e12)) ?_
 have hlen6:bs.length<=1000000:=by omega
 refine(zs) ?_;refine zL bs (λk=>True) (λk=>[(3,.map 0),(12,an 1 bs dH),(13,aa bs.length),(14,aa k)]) (λk=>[bu AV.str aa ((bs.take k).foldl nv b0)]) (bK (cA @bu.eq_1 @take_zero.{0} @foldl_nil.{0,0})) zp ?_;intro k hk hall;refine zT bs k ?_ ?_;rintro rfl;rotate_left;intro b hx hlt;rotate_left
 ·refine(fC) ?_;rw[cd]
  exact(zV)<|zo [.tmp 2] (r:=pD AV.str aa (bs.foldl nv b0)) (hw:=pn (λ_=>rfl) rfl)
 have hst:(bs.take (k+1)).foldl nv b0=nv ((bs.take k).foldl nv b0) b:=by rw[bz hx,d9];rfl
 have hok:(((bs.take k).foldl nv b0).map (·.1)).Nodup:=by rw[D5];exact hnd
 generalize (bs.take k).foldl nv b0=o at hst hok
 refine(gJ)<|(aA (cA hlt (aH (e:=1) (enc:=dH) ce hx) @dH.eq_1))<|(zC) ?_;refine aJ.Y9 (oo:=0) (ks:=o.map λe=>.str e.1) (vs:=o.map λe=>aa e.2) (b:=none) ge rfl rfl ge rfl rfl (by simp only[az]) ?_
 intro bb c hbb;rw[al] at hbb;change aJ _ _ _ _ ⟨_,_,iX [x5 o bb c] _,_⟩ _;refine(cO @Ps) ?_
 (repeat refine aD.seq ?_)
 refine aD.block (aD.loop (λm st=>∃pos:List Nat,pos.Nodup/\(∀j∈pos,j<o.length)/\o.length-pos.length=m/\st=⟨[(3,.map 0),(5,pD AV.str aa b),(12,an 1 bs dH),(13,aa bs.length),(14,aa k),(19,.ptr 1 0)],35,[x5 (rp o b pos) bb c,.iter (.map 0) bb c pos],[]⟩) o.length (bK @Se) ⟨[],hM,λj hj=>by simp at hj,rfl,rfl⟩ (by rintro m st ⟨pos,_,_,_,rfl⟩;rfl) ?_);rintro m st ⟨pos,hpn,hpl,rfl,rfl⟩;refine(zC) ?_;refine aJ.Y7 (ks:=(rp o b pos).map λe=>.str e.1) (vs:=(rp o b pos).map λe=>aa e.2) ge rfl rfl ge rfl rfl rfl (λj hj=>by rw[al,vQ];exact hpl j hj) ?_ ?_
 ·intro hal
  refine(zR)<|(fC) ?_
  have hmin:rp o b pos=nv o b:=Sd λj hj=>hal j (by rw[al,vQ];exact hj);rw[hmin];refine aD.fg (Fg.trans (Fg.M5 (S:=[x5 (nv o b) bb c,.iter (.map 0) bb c pos]) (ks:=(nv o b).map λe=>.str e.1) (vs:=(nv o b).map λe=>aa e.2) (b:=some (bb,c)) 0 rfl) (b:=_) (c:=⟨[(3,.map 0),(12,an 1 bs dH),(13,aa bs.length),(14,aa k)],35,[bu AV.str aa (nv o b)],[]⟩) (bK @bu.eq_1)) ?_
  (try change aD _ _ _ _ _)
  refine(aA (zi hlt hlen6)) ?_;refine zX hlt (bK hst) trivial
 ·intro j hj hjn;rw[al,vQ] at hj;obtain⟨e,he⟩:∃e,o[j]?=some e:=⟨o[j],jp hj⟩;obtain⟨q1,q2,q3⟩:=qA hpn hpl hj hjn
  have hme:(rp o b pos)[j]?=some e:=by rw[qu,he];simp[hjn]
  obtain⟨l1,l2,l3⟩:=T7 (by rw[PH];exact hok) hme
  have hsn:rp o b (pos++[j])=bU e.1 (dI e.2 (getM 0 e.1 b)) (rp o b pos):=by rw[PI he,l2];rfl
  refine(zR)<|(gJ)<|(zC) ?_;refine aJ.Y4 (ks:=(rp o b pos).map λe=>.str e.1) (vs:=(rp o b pos).map λe=>aa e.2) (k:=.str e.1) (v:=aa e.2) ge rfl rfl ge rfl rfl rfl (by rw[a7,hme];rfl) (by rw[a7,hme];rfl) ?_;refine(zR) ?_
  have hlk:=Kl (S:=[x5 (rp o b pos) bb c,.iter (.map 0) bb c (pos++[j])]) (o:=0) e.1 false rfl;have hpt:=MM (S:=[x5 (rp o b pos) bb c,.iter (.map 0) bb c (pos++[j])]) (o:=0) e.1 (dI e.2 (getM 0 e.1 b)) rfl l3;rw[l1] at hlk;refine(zs) ?_;refine aD.r0 ge (by simp only[cG,bG,an,az,m7,m6,↓reduceIte,ac,aj,ay,ad,ax,ah,ar,bD,hlk,jg (l:=b),js,hpt];first | done | rfl) ?_;exact⟨o.length-(pos++[j]).length,_,by rw[li];simp only[i7,g9];omega,(bK hsn),pos++[j],q1,q2,rfl,rfl⟩
def kn(ss:List Sh)(party:List Nat):Int:=match ss.find? λs=>decide (s.pt=party) with
 | some s=>s.am
 | none=>0
variable{ml:List (List Nat×Int)}{ss:List Sh}
def lK.of(h:lK ml ss)(k:List Nat):kn ss k=if 0<getM 0 k ml then getM 0 k ml else 0:=by
 obtain⟨ks,hp,_,rfl⟩:=h.ex;unfold kn
 cases hf:(xd ml ks).find? (λs=>decide (s.pt=k)) with
 | some s=>
  have h1:=List.find?_some hf;have h2:=dd hf;unfold xd at h2;obtain⟨k',hk',rfl⟩:=mem_map.1 h2;obtain⟨_,hpos⟩:=mem_filter.1 hk'
  have:k'=k:=by simpa using h1
  subst this;rw[t8 (by simpa using hpos)]
 | none=>
  rw[ga] at hf;by_cases hpos:0<getM 0 k ml
  ·have hh:cz k ml=true:=by
    cases hh:cz k ml
    ·rw[qf (u0:=(0:Int)) hh] at hpos;exact t7 hpos gc
    ·rfl
   have hk:k∈ks:=hp.mem_iff.2 (vB.1 hh);have:=hf ⟨k,getM 0 k ml⟩ (mem_map.2 ⟨k,mem_filter.2 ⟨hk,by simpa using hpos⟩,rfl⟩);simp at this
  ·rw[ul hpos]
def lK.WG(hn:(ml.map (·.1)).Nodup)(h:lK ml ss):ss.Pairwise λa b=>fZ a.pt b.pt=true:=by
 obtain⟨ks,hp,hs,rfl⟩:=h.ex;have hkn:ks.Nodup:=hp.nodup_iff.2 hn
 have hst:ks.Pairwise λa b=>fZ a b=true:=by
  have:=List.Pairwise.and hs hkn;refine this.imp λ{a b} ⟨h1,h2⟩=>?_
  rcases j6 a b with h | h | h
  ·exact h
  ·exact t7 h h2
  ·rw[h1] at h;cases h
 unfold xd;rw[List.pairwise_map];exact hst.sublist List.filter_sublist
def lK.mem(h:lK ml ss)(s:Sh):s∈ss↔s.pt∈ml.map (·.1)/\0<getM 0 s.pt ml/\s.am=getM 0 s.pt ml:=by
 obtain⟨ks,hp,_,rfl⟩:=h.ex;unfold xd;rw[mem_map];constructor
 ·rintro⟨k,hk,rfl⟩;obtain⟨h1,h2⟩:=mem_filter.1 hk;exact⟨hp.mem_iff.1 h1,by simpa using h2,rfl⟩
 ·rintro⟨h1,h2,h3⟩;exact⟨s.pt,mem_filter.2 ⟨hp.mem_iff.2 h1,by simpa using h2⟩,by cases s;simp only at h3 ⊢;rw[h3]⟩
def lK.one{k:List Nat}{n:Int}(h0:0<=n)(h:lK [(k,n)] ss):(ss.map Sh.am).sum=n/\ss.length<=2/\kn ss k=n:=by
 obtain⟨ks,hp,_,rfl⟩:=h.ex;have hks:ks=[k]:=List.perm_singleton.1 hp;subst hks
 have hg:getM (0:Int) k [(k,n)]=n:=by simp[getM]
 refine⟨?_,?_,?_⟩
 ·unfold xd;by_cases hpos:0<n
  ·simp[hg,hpos]
  ·simp[hg,hpos];omega
 ·exact el (GQ _ _) f5
 ·rw[h.of,hg];split<;>omega
def lK.two{k l:List Nat}{n m:Int}(hne:k≠l)(h0:0<=n)(h1:0<=m)(h:lK [(k,n),(l,m)] ss):(ss.map Sh.am).sum=n+m/\ss.length<=2/\kn ss l=m:=by
 have hgk:getM (0:Int) k [(k,n),(l,m)]=n:=by simp[getM]
 have hgl:getM (0:Int) l [(k,n),(l,m)]=m:=by simp[getM,Ne.symm hne]
 have hof:=h.of l;obtain⟨ks,hp,_,rfl⟩:=h.ex;have hp:ks.Perm [k,l]:=hp;have hlen:ks.length=2:=hp.length_eq;refine⟨?_,?_,?_⟩
 ·have hcase:ks=[k,l]\/ks=[l,k]:=by
   match ks,hlen with
   | [a,b],_=>
    have ha:a∈[k,l]:=hp.mem_iff.1 f5;have hb:b∈[k,l]:=hp.mem_iff.1 f5;have hnd:[a,b].Nodup:=hp.nodup_iff.2 (by simp[hne]);simp only[fy,ey,or_false] at ha hb;simp only[bX,ba] at hnd
    rcases ha with rfl | rfl<;>rcases hb with rfl | rfl
    ·exact t7 rfl hnd.1
    ·exact .inl rfl
    ·exact .inr rfl
    ·exact t7 rfl hnd.1
  rcases hcase with rfl | rfl<;>unfold xd<;>by_cases p1:0<n<;>by_cases p2:0<m<;>simp[hgk,hgl,p1,p2]<;>omega
 ·exact el (GQ _ _) gt
 ·rw[hof,hgl];split<;>omega
variable{ws:List Wy}
def sJ{c:Co}(h:eH ws c=true):(∀w∈ws,w.ok=true)/\c.ok=true:=by
 unfold eH at h;rw[a8,all_eq_true] at h;exact h
def VD{c:Co}(h:c.ok=true):0<=c.am/\c.am<=1000000000000:=by
 unfold Co.ok Dg at h;simp only[a8,wp] at h;omega
def OL{p:Pt}{c:Co}(hr:eH ws c=true):
 (qS ws (some p) c=[(c.owner,c.am)]/\(ws.find? (nf p c)=none\/∃w,ws.find? (nf p c)=some w/\w.cX=c.owner))\/
 ∃w,ws.find? (nf p c)=some w/\w.cX≠c.owner/\qS ws (some p) c=[(c.owner,c.am-rW c.am w.yc),(w.cX,rW c.am w.yc)]/\0<=rW c.am w.yc/\rW c.am w.yc<=c.am:=by
 obtain⟨hws,hc⟩:=sJ hr
 cases hf:ws.find? (nf p c) with
 | none=>exact .inl ⟨by simp only[qS,hf],.inl rfl⟩
 | some w=>
  obtain⟨_,hamr,hpr⟩:=ES (hws w (dd hf)) hc;obtain⟨hn0,hn1⟩:=NZ hamr hpr;by_cases hm:w.cX=c.owner
  ·refine .inl ⟨?_,.inr ⟨w,rfl,hm⟩⟩;simp only[qS,hf,hm,bU,getM,if_true]
   have:c.am-rW c.am w.yc+rW c.am w.yc=c.am:=by omega
   rw[this]
  ·refine .inr ⟨w,rfl,hm,?_,hn0,hn1⟩;simp[qS,hf,bU,getM,hm]
abbrev w6:=List (List Nat×Nat)
def sO{o:Nat}{l:w6}(s:List Nat)(ok:Bool)(hS:S[o]?=some (bu AV.str cI l)):eJ prog S 103 (.map o) (.a (.str s)) ok=some (cond ok (.bB [cI (getM 0 s l),au (cz s l)]) (cI (getM 0 s l))):=
 Eu (uv:=cI) (u0:=0) (k:=s) (kt:=9) (et:=3) (z:=.int .i64 0) (by simp only[az]) gq (by simp only[az]) rfl hS rfl ok
def MO{o:Nat}{l:w6}(s:List Nat)(u:Nat)(hS:S[o]?=some (bu AV.str cI l)):gn prog S 103 (.map o) (.a (.str s)) (.a (.int .i64 (u:Int)))=some (S.set o (bu AV.str cI (bU s u l))):=
 Jw (uv:=cI) (kt:=9) (et:=3) (by simp only[az]) gq hS rfl u
def lf{n:Nat}{l:w6}:cx n (bu AV.str cI l)=bu AV.str cI l:=lU λ_=>lk _
def mF(i:Nat)(st:List Nat×w6)(part:List Nat):List Nat×w6:=
 if cz part st.2=true then (vH st.1 (getM 0 part st.2) i,st.2) else (st.1,bU part i st.2)
def vJ(st:List Nat×w6)(r:aN):List Nat×w6:=(gS r).foldl (mF st.1.length) (st.1++[st.1.length],st.2)
def dW(l:List aN):List Nat×w6:=l.foldl vJ ([],[])
structure mn (n:Nat) (st:List Nat×w6):Prop where
 f:eh st.1
 l:st.1.length=n
 m:∀part,cz part st.2=true->getM 0 part st.2<n
def mn.part{n i:Nat}{st:List Nat×w6}(h:mn n st)(hi:i<n)(part:List Nat):mn n (mF i st part):=by
 unfold mF;split
 ·rename_i hh;obtain⟨a,b⟩:=UA h.f (i:=getM 0 part st.2) (k:=i) (by rw[h.l];exact h.m part hh) (by rw[h.l];exact hi);exact⟨a,b.trans h.l,h.m⟩
 ·refine⟨h.f,h.l,λq hq=>?_⟩;rw[di];rw[qh] at hq;split
  ·exact hi
  ·rename_i hne;refine h.m q ?_;simpa [hne] using hq
def mn.parts{n i:Nat}(hi:i<n):∀(ps:List (List Nat)) {st:List Nat×w6},mn n st->mn n (ps.foldl (mF i) st)
 | [],_,h=>h
 | p::ps,_,h=>mn.parts hi ps (h.part hi p)
variable{n:Nat}
def mn.new{st:List Nat×w6}(h:mn n st):mn (n+1) (st.1++[st.1.length],st.2):=by
 refine⟨?_,by simp[h.l],λq hq=>gb (h.m q hq)⟩;intro j x hx;rw[f4] at hx;split at hx
 ·exact h.f j x hx
 ·rename_i hj
  cases hjj:j-st.1.length with
  | zero=>rw[hjj] at hx;simp at hx;omega
  | succ q=>rw[hjj] at hx;simp at hx
def mn.rep{st:List Nat×w6}(h:mn n st)(r:aN):mn (n+1) (vJ st r):=by
 unfold vJ;exact mn.parts (by rw[h.l];omega) _ h.new
def mn.sH:∀(l:List aN) {n:Nat} {st:List Nat×w6},mn n st->mn (n+l.length) (l.foldl vJ st)
 | [],_,_,h=>h
 | r::l,n,st,h=>by
  have:=mn.sH l (h.rep r);rw[i7,show n+(l.length+1)=n+1+l.length by omega];exact this
def tm(l:List aN):mn l.length (dW l):=by
 have:=mn.sH l (n:=0) (st:=([],[])) ⟨λj x hx=>by simp at hx,rfl,λq hq=>by simp[cz] at hq⟩
 rwa [gY] at this
def O4(l:List (List Nat)):(fG l).length<=l.length:=by
 have:∀n (l:List (List Nat)),l.length=n->(fG l).length<=l.length:=by
  intro n
  induction n with
  | zero=>intro l h;rw[rx h];exact a6 _
  | succ n ih=>
   intro l h
   rcases List.eq_nil_or_concat l with rfl | ⟨a,x,rfl⟩
   ·exact a6 _
   ·have ha:a.length=n:=by simpa using h
    have:=ih a ha;rw[List.concat_eq_append,um];split<;>simp<;>omega
 exact this _ l rfl
def LJ(r:aN):(gS r).length<=2*r.opts.length:=by
 unfold gS JM;split
 ·simp
 ·have h1:=O4 (dZ (r.opts.map cu).flatten);have h2:(dZ (r.opts.map cu).flatten).length=(r.opts.map cu).flatten.length:=(qG _).length_eq;have h3:=FX 0 r.opts;omega
def XF(st:List Nat×w6):List SO:=bu AV.str cI st.2::(if st.1=[] then [] else [.gone,.cells (st.1.flatMap (aw cI))])
def AR(m:w6):XF ([],m)=[bu AV.str cI m]:=rfl
variable{f:List Nat}
def IM{m:w6}(h:¬f=[]):XF (f,m)=[bu AV.str cI m,.gone,.cells (f.flatMap (aw cI))]:=by unfold XF;rw[ul h]
def Kk(l:List aN)(hl:∀r∈l,eu r)(hl2:∀r∈l,r.opts.length<=400000)(hlen:l.length<=1000000):
 SC prog 99 [an 2 l ae] [] [] (λr S'=>r=.bB [bn 2 1 l.length,.map 0]/\S'=XF (dW l)):=by
 refine On 49 Tryz.func99 ?_;refine(nP)<|(nP)<|(zs) ?_;refine zL l (λk=>True) (λk=>[(0,an 2 l ae),(4,bn 2 1 k),(5,.map 0),(13,aa l.length),(14,aa k)]) (λk=>XF (dW (l.take k))) (bK (Af @take_zero.{0} @fv @dW.eq_1 @foldl_nil.{0,0} @AR @bu.eq_1 @map_nil.{0,0})) zp ?_;intro k hk hall;refine zT l k ?_ ?_;rintro rfl;rotate_left;intro r hx hlt;rotate_left
 ·refine(fC) ?_;rw[cd];have hok:=tm l;obtain⟨f,m,hfm⟩:∃f m,dW l=(f,m):=⟨_,_,rfl⟩;rw[hfm] at hok ⊢;by_cases h0:f=[]
  ·have h1:l.length=0:=by rw[<-hok.l,h0];rfl
   rw[h0,AR,show bn 2 1 l.length=cY by rw[h1];rfl]
   refine(zV)<|(zE) ?_;exact zP [.tmp 2,.tmp 3]
  ·have h1:¬l.length=0:=by rw[<-hok.l];exact λh=>h0 (rx h)
   rw[IM h0,bR h1]
   refine(zV)<|(zE) ?_;exact zP [.tmp 2,.tmp 3]
 have hrk:eu r:=hl r (ap hx);have hr2:=hl2 r (ap hx)
 have hok:mn k (dW (l.take k)):=by
  have:=tm (l.take k);rwa [dN,fm hk] at this
 have hnext:dW (l.take (k+1))=vJ (dW (l.take k)) r:=by
  unfold dW;rw[bz hx,d9];rfl
 obtain⟨f,mm,hfm⟩:∃f mm,dW (l.take k)=(f,mm):=⟨_,_,rfl⟩;rw[hfm] at hok hnext ⊢;have hfl:f.length=k:=hok.l;refine(gJ) ?_;have happ:=eV (enc:=aw cI) (e:=1) ce (λ_=>rfl) 2 f k;rw[hfl,show aw cI k=[cI k] from rfl,bd] at happ
 have hcl:(f.flatMap (aw cI)).length=k:=by rw[vV,hfl]
 refine(zV) ?_
 (repeat refine aD.seq ?_)
 refine aD.mono (Q:=λe st=>e=.normal/\Fg st ⟨[(0,an 2 l ae),(4,.buf 2 (k+1) 1 none),(5,.map 0),(6,cI k),(13,aa l.length),(14,aa k)],49,[bu AV.str cI mm,.gone,.cells ((f++[k]).flatMap (aw cI))],[]⟩) ?_ ?_
 ·by_cases h0:f=[]
  ·have hk0:k=0:=by rw[<-hfl,h0];rfl
   rw[h0,AR,show bn 2 1 k=cY by rw[hk0];rfl];refine(aA @lf) ?_;refine⟨rfl,(bK (sa h0 @nil_append.{0} @flatMap_cons.{0,0} @flatMap_nil.{0,0} @aw.eq_1 hk0))⟩
  ·have h1:¬k=0:=λh=>h0 (rx (by rw[hfl,h]));rw[IM h0,bR h1];refine(aA (Af @lf @iT hcl happ @bd @a6 (show k<=1000000 by omega))) ?_;refine⟨rfl,zH⟩
 rintro e st ⟨rfl,hfg⟩;refine aD.fg hfg ?_;clear hfg
 (try change aD _ _ _ _ _)
 refine(jH (cA hlt (aH (e:=2) (enc:=ae) ce hx) @ae.eq_1))<|(zK (MJ r hrk hr2) (hfl:=.inr zr)) ?_
 have hst0:mn (k+1) (f++[k],mm):=by
  have:=hok.new;rw[hfl] at this;exact this
 have hnext2:dW (l.take (k+1))=(gS r).foldl (mF k) (f++[k],mm):=by
  rw[hnext,vJ];simp only;rw[hfl]
 have hns:=LJ r;generalize gS r=ns at hnext2 hns
 have hnsl:ns.length<=1000000:=by omega
 refine(zR) ?_;have hinv:∀j,mn (k+1) ((ns.take j).foldl (mF k) (f++[k],mm)):=λj=>mn.parts gt _ hst0;refine(zs) ?_;refine zL ns (λk2=>True) (λk2=>[(0,an 2 l ae),(4,.buf 2 (k+1) 1 none),(5,.map 0),(6,cI k),(13,aa l.length),(14,aa k),(25,an 1 ns (aw ab)),(26,aa ns.length),(27,aa k2)]) (λk2=>[bu AV.str cI ((ns.take k2).foldl (mF k) (f++[k],mm)).2,.gone,.cells (((ns.take k2).foldl (mF k) (f++[k],mm)).1.flatMap (aw cI))]) (bK (br @take_zero.{0} @foldl_nil.{0,0})) zp ?_;intro k2 hk2 hall2;refine zT ns k2 ?_ ?_;rintro rfl;rotate_left;intro part hx2 hlt2;rotate_left
 ·refine(fC) ?_;rw[cd,<-hnext2]
  have hok3:mn (k+1) (dW (l.take (k+1))):=by rw[hnext2];have:=hinv ns.length;rwa [cd] at this
  obtain⟨g,m3,hg⟩:∃g m3,dW (l.take (k+1))=(g,m3):=⟨_,_,rfl⟩;rw[hg] at hok3 ⊢
  have hg0:¬g=[]:=λh=>by have:=hok3.l;rw[h] at this;simp at this
  refine(zs) ?_;refine aD.r0 ge (fF (xn (rf hlt hlen gc))) ?_;refine⟨l.length-(k+1),_,by omega,(Fg.less (by (simp only[cG,bG,dU,↓reduceIte,ac,an,hg,IM hg0,Gl])<;>(repeat' apply dt)<;>first | rfl | trivial) (by (simp only[cG,bG,or_true,true_or,an,hg,IM hg0,Gl])<;>(repeat' apply dt)<;>first | exact .inr rfl | exact .inl rfl | trivial)),k+1,by omega,rfl,trivial,rfl⟩
 have hq1:(ns.take (k2+1)).foldl (mF k) (f++[k],mm)=mF k ((ns.take k2).foldl (mF k) (f++[k],mm)) part:=by
  rw[bz hx2,d9];rfl
 have hok2:=hinv k2;obtain⟨g,m2,hg⟩:∃g m2,(ns.take k2).foldl (mF k) (f++[k],mm)=(g,m2):=⟨_,_,rfl⟩;rw[hg] at hok2 hq1 ⊢;have hgl:g.length=k+1:=hok2.l
 refine(gJ)<|(aA (cA hlt2 (aH (e:=1) (enc:=aw ab) ce hx2) @aw.eq_1))<|(zs) ?_;refine aD.r0 ge (by simp only[cG,bG,an,az,m7,m6,↓reduceIte,ac,aj,ay,ad,ax,ah,ar,bD,sO (l:=m2)];first | done | rfl) ?_;refine(zV) ?_
 cases h1:cz part m2
 ·refine(zN)<|(zs) ?_;refine aD.r0 ge (by simp only[cG,bG,an,az,m7,m6,↓reduceIte,ac,aj,ay,ad,ax,ah,ar,bD,MO (l:=m2)];first | done | rfl) ?_
  rw[mF,ul (by simp only;rw[h1];decide)] at hq1;refine(aA (zi hlt2 hnsl)) ?_;refine zX hlt2 (bK hq1) trivial
 ·refine(zY) ?_;have hp:=hok2.m part h1;have hj:=Qo g (getM 0 part m2) k hok2.f (by rw[hgl];exact hp) gt gt;rw[hgl] at hj;refine(zC) ?_;refine zS [2] (jB @sK @oM @iT @lf) hj ?_;refine(zR) ?_;rw[mF,t8 (by simp only;exact h1)] at hq1;refine(aA (zi hlt2 hnsl)) ?_;refine zX hlt2 (bK hq1) trivial
def Cb(k:Nat)(st:List Nat×List Nat)(i:Nat):List Nat×List Nat:=
 ((eP (eP st.1 i).2 k).2,if (eP st.1 i).1=(eP (eP st.1 i).2 k).1 then st.2++[i] else st.2)
def lr(k:Nat)(f:List Nat)(n:Nat):List Nat×List Nat:=(ci n).foldl (Cb k) (f,[])
def eo(l:List aN)(part:List Nat):List Nat:=
 if cz part (dW l).2=true then (lr (getM 0 part (dW l).2) (dW l).1 l.length).2 else []
def Gr(k:Nat)(f:List Nat)(n:Nat):lr k f (n+1)=Cb k (lr k f n) n:=by
 unfold lr;rw[f6,d9];rfl
def vR{k:Nat}{f:List Nat}(hf:eh f)(hk:k<f.length):∀n,n<=f.length->eh (lr k f n).1/\(lr k f n).1.length=f.length/\(lr k f n).2.length<=n/\∀i∈(lr k f n).2,i<n
 | 0,_=>⟨hf,rfl,a6 _,λi hi=>by simp[lr] at hi⟩
 | n+1,hn=>by
  obtain⟨a1,a2,a3,a4⟩:=vR hf hk n gt;rw[Gr,Cb];obtain⟨b1,b2,_⟩:=mf (i:=n) a1 gt;obtain⟨c1,c2,_⟩:=mf (i:=k) b1 gt;refine⟨c1,by rw[c2,b2,a2],?_,?_⟩
  ·simp only;split
   ·rw[li,fu];omega
   ·omega
  ·intro i hi;simp only at hi;split at hi
   ·rcases mem_append.1 hi with h | h
    ·have:=a4 i h;omega
    ·have:=rc h;omega
   ·have:=a4 i hi;omega
def Xo(m:w6)(st:List Nat×List Nat):List SO:=bu AV.str cI m::.gone::.cells (st.1.flatMap (aw cI))::(if st.2=[] then [] else [.gone,.cells (st.2.flatMap (aw cI))])
def vS(m:w6)(f:List Nat):Xo m (f,[])=[bu AV.str cI m,.gone,.cells (f.flatMap (aw cI))]:=rfl
def Jf{m:w6}{o:List Nat}(h:¬o=[]):Xo m (f,o)=[bu AV.str cI m,.gone,.cells (f.flatMap (aw cI)),.gone,.cells (o.flatMap (aw cI))]:=by unfold Xo;rw[ul h]
def UN(l:List Nat):(l.flatMap (aw cI)).take (l.length*1)=l.flatMap (aw cI):=dw (enc:=aw cI) ce l
def RO(l:w6):cg (l.map λe=>cI e.2)=true:=fD (λ_=>rfl) l
def E0{r:Nat->Nat}{l:w6}:oI r (bu AV.str cI l)=bu AV.str cI l:=by
 unfold bu;rw[JF,bg (RO l)]
def xq{B:Nat}{l:w6}:lG B (bu AV.str cI l)=true:=by
 unfold bu;rw[lG];exact bH (RO l)
def Qu(l:List aN)(part:List Nat)(hl:∀r∈l,eu r)(hl2:∀r∈l,r.opts.length<=400000)(hlen:l.length<=1000000):
 PC prog 49 [an 2 l ae,ab part] (·=an 1 (eo l part) (aw cI)):=by
 refine pB 42 Tryz.func49 ?_;have hL:=Kk l hl hl2 hlen;have hok:=tm l;obtain⟨f,mm,hfm⟩:∃f mm,dW l=(f,mm):=⟨_,_,rfl⟩
 have hO:eo l part=if cz part mm=true then (lr (getM 0 part mm) f l.length).2 else []:=by unfold eo;rw[hfm]
 rw[hfm] at hL hok;have hfl:f.length=l.length:=hok.l;refine(lJ) ?_;by_cases h0:f=[]
 ·have hk0:l.length=0:=by rw[<-hfl,h0];rfl
  have h1:cz part mm=false:=by
   cases h:cz part mm with
   | false=>rfl
   | true=>
    have:=hok.m part h;omega
  rw[h1] at hO;rw[h0,AR,show bn 2 1 l.length=cY by rw[hk0];rfl] at hL
  refine zS [] (cA @E0 @xq @lf) hL ?_;refine(zR)<|(zs) ?_;refine aD.r0 ge (by simp only[cG,bG,an,az,m7,m6,↓reduceIte,ac,aj,ay,ad,ax,ah,ar,bD,sO (l:=mm)];first | done | rfl) ?_;exact(aA h1)<|(cN)<|zo [.tmp 4] (r:=.sl 0 1 []) (hw:=Wk.nil _) (hq:=by rw[hO];rfl)
 have hk0:¬l.length=0:=by rw[<-hfl];exact λh=>h0 (rx h)
 rw[IM h0,bR hk0] at hL
 refine zS [] (sa @E0 @xq @lf @sK @oM @iT) hL ?_;refine(zR)<|(zs) ?_;refine aD.r0 ge (by simp only[cG,bG,an,az,m7,m6,↓reduceIte,ac,aj,ay,ad,ax,ah,ar,bD,sO (l:=mm)];first | done | rfl) ?_
 cases h1:cz part mm
 ·rw[h1] at hO
  exact(aA h1)<|(cN)<|zo [.tmp 4] (r:=.sl 0 1 []) (hw:=Wk.nil _) (hq:=by rw[hO];rfl)
 rw[h1,t8 rfl] at hO;have hkl:=hok.m part h1;generalize hkk:getM 0 part mm=kk at hO hkl;have hf0:eh f:=hok.f;have hF:=vR (k:=kk) hf0 (by rw[hfl];exact hkl)
 refine(aA h1)<|(jG)<|(zV)<|(zs) ?_;refine zL l (λk=>True) (λk=>[(5,.buf 2 l.length 1 none),(7,cI kk),(9,bn 4 1 (lr kk f k).2.length),(25,aa l.length),(26,aa k)]) (λk=>Xo mm (lr kk f k)) (Fg.less (by (simp only[cG,bG,dU,↓reduceIte,ac,an,hkk,lr,hK,foldl_nil,fv,g9,vS])<;>(repeat' apply dt)<;>first | rfl | trivial) (by (simp only[cG,bG,or_true,true_or,an,hkk,lr,hK,foldl_nil,fv,g9,vS])<;>(repeat' apply dt)<;>first | exact .inr rfl | exact .inl rfl | trivial)) zp ?_;intro k hk hall;refine zT l k ?_ ?_;rintro rfl;rotate_left;intro r hx hlt;rotate_left
 ·refine(fC) ?_;obtain⟨a1,a2,a3,a4⟩:=hF l.length gt;obtain⟨g,o,hg⟩:∃g o,lr kk f l.length=(g,o):=⟨_,_,rfl⟩;rw[hg] at hO a3 ⊢;by_cases ho:o=[]
  ·subst ho;rw[vS,show bn 4 1 ([]:List Nat).length=cY from rfl]
   exact(zV)<|zo [.tmp 4] (r:=.sl 0 1 []) (hw:=Wk.nil _) (hq:=by rw[hO];rfl)
  ·rw[Jf ho,bR (λh=>ho (rx h))]
   exact(zV)<|zo [.tmp 4] (r:=an 1 o (aw cI)) (hw:=.buf rfl (by rw[UN];exact cS.refl (aB (λ_=>rfl) o)) (by rw[vV,bd];exact a6 _)) (hq:=by rw[hO])
 have hstep:=Gr kk f k;obtain⟨a1,a2,a3,a4⟩:=hF k gt;obtain⟨g,o,hg⟩:∃g o,lr kk f k=(g,o):=⟨_,_,rfl⟩;rw[hg] at a1 a2 a3 hstep ⊢;have hgl:g.length=l.length:=a2.trans hfl;have hr1:=tG g k a1 (by rw[hgl];exact hlt) (by rw[hgl];exact hlen);have k1:=mf (i:=k) a1 (by rw[hgl];exact hlt);rw[Cb] at hstep;obtain⟨a,g1,hA⟩:∃a g1,eP g k=(a,g1):=⟨_,_,rfl⟩;simp only[hA] at hr1 k1 hstep;rw[hgl] at hr1;obtain⟨q1,q2,q3⟩:=k1;have hr2:=tG g1 kk q1 (by rw[q2,hgl];exact hkl) (by rw[q2,hgl];exact hlen);obtain⟨b,g2,hB⟩:∃b g2,eP g1 kk=(b,g2):=⟨_,_,rfl⟩;simp only[hB] at hr2 hstep;rw[q2,hgl] at hr2
 have hol:o.length<=1000000:=by
  have:o.length<=k:=a3;omega
 refine(gJ) ?_;by_cases ho:o=[]
 ·subst ho;rw[vS,show bn 4 1 ([]:List Nat).length=cY from rfl];refine(lJ) ?_;refine zS [2] (sa @E0 @xq @lf @sK @oM @iT) hr1 ?_;refine(zQ) ?_;refine zS [2] (sa @E0 @xq @lf @sK @oM @iT) hr2 ?_;by_cases hab:a=b
  ·rw[t8 hab] at hstep
   refine(cO (show decide ((a:Int)=(b:Int))=true by simp;omega))<|(zY)<|(aA (br @lf @iT))<|(aA (zi hlt hlen)) ?_;refine zX hlt (bK (ik hkk hstep @nil_append.{0} (show Xo mm (g2,[k])=[bu AV.str cI mm,.gone,.cells (g2.flatMap (aw cI)),.gone,.cells [cI k]] from rfl) (show bn 4 1 [k].length=.buf 4 1 1 none from rfl))) trivial
  ·rw[ul hab] at hstep
   refine(cO (show decide ((a:Int)=(b:Int))=false by simp;omega))<|(zN)<|(aA (zi hlt hlen)) ?_;refine zX hlt (bK (jB hkk hstep @vS (show bn 4 1 ([]:List Nat).length=cY from rfl))) trivial
 ·have ho1:¬o.length=0:=λh=>ho (rx h);have happ:=eV (enc:=aw cI) (e:=1) ce (λ_=>rfl) 4 o k;rw[show aw cI k=[cI k] from rfl,bd] at happ;have hcl:=vV (c:=cI) o;rw[Jf ho,bR ho1];refine(lJ) ?_;refine zS [2] (sa @E0 @xq @lf @sK @oM @iT) hr1 ?_;refine(zQ) ?_;refine zS [2] (sa @E0 @xq @lf @sK @oM @iT) hr2 ?_;by_cases hab:a=b
  ·rw[t8 hab] at hstep
   refine(cO (show decide ((a:Int)=(b:Int))=true by simp;omega))<|(zY) ?_
   have hs2:Xo mm (g2,o++[k])=[bu AV.str cI mm,.gone,.cells (g2.flatMap (aw cI)),.gone,.cells ((o++[k]).flatMap (aw cI))]:=Jf f5
   have hs3:bn 4 1 (o++[k]).length=.buf 4 (o.length+1) 1 none:=by rw[li];rfl
   refine(aA (Af @lf @iT hcl happ @bd @a6 hol))<|(aA (zi hlt hlen)) ?_;refine zX hlt (bK (jB hkk hstep hs2 hs3)) trivial
  ·rw[ul hab] at hstep
   refine(cO (show decide ((a:Int)=(b:Int))=false by simp;omega))<|(zN)<|(zs) ?_;refine aD.r0 ge (fF (xn (rf hlt hlen gc))) ?_;refine⟨l.length-(k+1),_,by omega,(Fg.less (by (simp only[cG,bG,dU,↓reduceIte,ac,an,hkk,hstep,Jf ho,bR ho1])<;>(repeat' apply dt)<;>first | rfl | trivial) (by (simp only[cG,bG,or_true,true_or,an,hkk,hstep,Jf ho,bR ho1])<;>(repeat' apply dt)<;>first | exact .inr rfl | exact .inl rfl | trivial)),k+1,by omega,rfl,trivial,rfl⟩
def qn(l:List aN)(part:List Nat):(eo l part).length<=l.length/\∀i∈eo l part,i<l.length:=by
 have hok:=tm l;unfold eo;split
 ·rename_i h;have hkl:=hok.m part h;have hF:=vR (k:=getM 0 part (dW l).2) hok.f (by rw[hok.l];exact hkl) l.length (by rw[hok.l];exact a6 _);exact⟨hF.2.2.1,hF.2.2.2⟩
 ·exact⟨b7 _,λi hi=>by cases hi⟩
def gg(l:List aN)(part:List Nat):List aN:=(eo l part).filterMap (l[·]?)
def GA(l:List aN)(part:List Nat):(gg l part).length<=l.length:=el (fl _ _) (qn l part).1
variable{l:List aN}{r:aN}
def rz{part:List Nat}(h:r∈gg l part):r∈l:=by
 obtain⟨i,_,hi⟩:=mem_filterMap.1 h;exact ap hi
def SK{is:List Nat}{k i:Nat}(hk:is[k]?=some i)(hr:l[i]?=some r):(is.take (k+1)).filterMap (l[·]?)=(is.take k).filterMap (l[·]?)++[r]:=by
 rw[bz hk,fs];simp[hr]
def JT{p:List Int->Prop}{g:Nat->List (List Int)->Bool×List (List Int)}(hg:∀n out,(∀ch∈out,p ch)->∀ch∈(g n out).2,p ch):∀(m n:Nat) (out:List (List Int)),(∀ch∈out,p ch)->∀ch∈(mX g m n out).2,p ch
 | 0,n,out,h=>h
 | m+1,n,out,h=>by
  rw[mX];split
  ·exact JT hg m (n+1) _ (hg n out h)
  ·exact hg n out h
def D9{c:List aF}{l:List aN}{most:Int}:∀(F i:Nat) (ch:List Int) (out:List (List Int)),(∀h∈out,AN c l h=true)->∀h∈(dO c l most F i ch out).2,AN c l h=true
 | 0,i,ch,out,h=>h
 | F+1,i,ch,out,h=>by
  rw[dO];split
  ·exact h
  ·split
   ·split
    ·rename_i h3;intro x hx
     rcases mem_append.1 hx with hx | hx
     ·exact h x hx
     ·rw[rc hx];exact h3
    ·exact h
   ·exact JT (λn out h=>D9 F _ _ _ h) _ _ _ h
def Fe{g:Nat->List (List Int)->Bool×List (List Int)}{most:Int}(hg:∀n out,(out.length:Int)<most->((g n out).2.length:Int)<=most)(hg2:∀n out,(out.length:Int)<most->(g n out).1=true->((g n out).2.length:Int)<most):∀(m n:Nat) (out:List (List Int)),(out.length:Int)<most->((mX g m n out).2.length:Int)<=most
 | 0,n,out,h=>b8 h
 | m+1,n,out,h=>by
  rw[mX];split
  ·rename_i h1;exact Fe hg hg2 m (n+1) _ (hg2 n out h h1)
  ·exact hg n out h
def BF{c:List aF}{l:List aN}{most:Int}:∀(F i:Nat) (ch:List Int) (out:List (List Int)),(out.length:Int)<most->((dO c l most F i ch out).2.length:Int)<=most
 | 0,i,ch,out,h=>b8 h
 | F+1,i,ch,out,h=>by
  rw[dO];split
  ·exact b8 h
  ·split
   ·split
    ·rw[li];show((out.length+1:Nat):Int)<=most;omega
    ·exact b8 h
   ·exact Fe (λn out h=>BF F _ _ _ h) (λn out h h2=>BD F _ _ _ h h2) _ _ _ h
variable{c:List aF}{ch:List Int}
def RW(h:AN c l ch=true):l.length=ch.length:=by
 unfold AN pA at h;split at h
 ·rename_i hg;exact xQ hg
 ·cases h
variable{most:Int}
def A9(h:ch∈(fk c l most).1):AN c l ch=true:=by
 unfold fk at h;split at h
 ·cases h
 split at h
 ·cases h
 split at h
 ·split at h
  ·cases h
  ·unfold na at h;exact D9 _ _ _ _ (λ_ h=>by cases h) _ h
 ·cases h
def HQ(hm:0<most):((fk c l most).1.length:Int)<=most:=by
 unfold fk;split
 ·exact b8 hm
 split
 ·exact b8 hm
 split
 ·split
  ·exact b8 hm
  ·unfold na;exact BF _ _ _ _ hm
 ·exact b8 hm
abbrev kN:=List (List Nat×Int)
def dV(ws:List Wy)(co:Co)(b:kN):Prop:=(∃x,0<=x/\x<=co.am/\b=[(co.owner,x)])\/∃w∈ws,w.cX≠co.owner/\∃x y,0<=x/\0<=y/\x+y<=co.am/\b=[(co.owner,x),(w.cX,y)]
variable{co:Co}
def K1{ps:List ai}(hr:eH ws co=true):jJ ws ps co=[(co.owner,co.am)]\/∃w∈ws,w.cX≠co.owner/\∃n,0<=n/\n<=co.am/\jJ ws ps co=[(co.owner,co.am-n),(w.cX,n)]:=by
 unfold jJ
 cases bF ps co.part with
 | none=>exact .inl rfl
 | some p=>
  rw[m6]
  rcases OL (p:=Mc p kJ) hr with⟨h,_⟩ | ⟨w,h1,h2,h3,h4,h5⟩
  ·exact .inl h
  ·exact .inr ⟨w,dd h1,h2,_,h4,h5,h3⟩
def HY{ps:List ai}(hr:eH ws co=true):dV ws co (jJ ws ps co):=by
 have ha:=VD (sJ hr).2
 rcases K1 (ps:=ps) hr with h | ⟨w,hw,hm,n,h1,h2,h⟩
 ·exact .inl ⟨_,ha.1,cc _,h⟩
 ·exact .inr ⟨w,hw,hm,_,n,by omega,h1,by omega,h⟩
variable{b:kN}
def dV.nodup(h:dV ws co b):(b.map (·.1)).Nodup:=by
 rcases h with⟨x,_,_,rfl⟩ | ⟨w,_,hm,x,y,_,_,_,rfl⟩
 ·simp
 ·simp[Ne.symm hm]
def dV.ne(h:dV ws co b):b≠[]:=by
 rcases h with⟨x,_,_,rfl⟩ | ⟨w,_,hm,x,y,_,_,_,rfl⟩<;>simp
def dV.len(h:dV ws co b):b.length<=2:=by
 rcases h with⟨x,_,_,rfl⟩ | ⟨w,_,hm,x,y,_,_,_,rfl⟩<;>simp
def dV.nn(h:dV ws co b)(p:List Nat):0<=getM 0 p b:=by
 rcases h with⟨x,h1,_,rfl⟩ | ⟨w,_,hm,x,y,h1,h2,_,rfl⟩
 ·simp only[getM];split<;>omega
 ·simp only[getM];split
  ·omega
  ·split<;>omega
def UI{o:kN}(h:dV ws co o)(hb:∀p,0<=getM 0 p b):dV ws co (nv o b):=by
 have hmin:∀x p,0<=x->0<=dI x (getM 0 p b)/\dI x (getM 0 p b)<=x:=λx p h=>by
  have:=hb p;unfold dI;split<;>omega
 rcases h with⟨x,h1,h2,rfl⟩ | ⟨w,hw,hm,x,y,h1,h2,h3,rfl⟩
 ·have:=hmin x co.owner h1;exact .inl ⟨_,this.1,by omega,rfl⟩
 ·have g1:=hmin x co.owner h1;have g2:=hmin y w.cX h2;exact .inr ⟨w,hw,hm,_,_,g1.1,g2.1,by omega,rfl⟩
def IK{ws:List Wy}{co:Co}:∀{bs:List kN} {b0:kN},dV ws co b0->(∀b∈bs,dV ws co b)->dV ws co (bs.foldl nv b0)
 | [],b0,h,_=>h
 | b::bs,b0,h,hb=>IK (bs:=bs) (UI h (hb b aS).nn) λx hx=>hb x (a0 _ hx)
def Sc(o b:kN)(p:List Nat):getM 0 p (nv o b)=if cz p o=true then dI (getM 0 p o) (getM 0 p b) else 0:=by
 unfold nv
 induction o with
 | nil=>rfl
 | cons e o ih=>
  rw[map_cons];by_cases hp:p=e.1
  ·subst hp;simp[LG,getM,cz]
  ·have hp2:¬e.1=p:=λh=>hp h.symm;simp only[cz,List.any_cons,un hp,hV] at ih ⊢;simp only[LG,getM,hp,hp2,if_false];exact ih
def PF{o:kN}{p:List Nat}(hb:0<=getM 0 p b):getM 0 p (nv o b)=dI (getM 0 p o) (getM 0 p b):=by
 rw[Sc];split
 ·rfl
 ·rename_i h;rw[qf (Bool.eq_false_iff.2 h),dI,t8 hb]
def Eo{p:List Nat}:∀{bs:List kN} {b0:kN},(∀b∈bs,0<=getM 0 p b)->getM 0 p (bs.foldl nv b0)=(bs.map (getM 0 p)).foldl dI (getM 0 p b0)
 | [],b0,_=>rfl
 | b::bs,b0,h=>by
  rw[bo,Eo (bs:=bs) (λx hx=>h x (a0 _ hx)),PF (h b aS),map_cons,bo]
def vK(b:kN):lK b (jx b):=by
 refine⟨⟨dZ (b.map (·.1)),by exact qG _,?_,rfl⟩⟩;have h2:(dZ (b.map (·.1))).Pairwise λa b=>BV a b=true:=JO _
 exact h2.imp λ{a b} h=>by
  simpa [BV] using h
def jZ(own:List aN)(ch:List Int):List bj:=(mc own ch).getD []
def eY(c:List aF)(dmg:aX)(ws:List Wy)(own:List aN)(co:Co)(all:List (List Int)):List kN:=all.map λch=>jJ ws (runN c dmg (jZ own ch) co.day).1 co
def oY(n:Int)(l:List Sh):Int:=n-(l.map Sh.am).sum
def gL(c:List aF)(dmg:aX)(ws:List Wy)(l:List aN)(co:Co):Bool:=!(j9 c&&eb dmg)||(!(eH ws co)||l.any λr=>!(Proofs.cT r))
def za(c:List aF)(dmg:aX)(ws:List Wy)(own:List aN)(co:Co):List Sh×Int×Int:=
 if own=[] then ([],0,2)
 else if (fk c own 4096).2=0 then
  (if (fk c own 4096).1.length=4096 then ([],0,7)
  else (jx (mT (eY c dmg ws own co (fk c own 4096).1)),oY co.am (jx (mT (eY c dmg ws own co (fk c own 4096).1))),0))
 else ([],0,(fk c own 4096).2)
def cP(c:List aF)(dmg:aX)(ws:List Wy)(l:List aN)(co:Co):List Sh×Int×Int:=if gL c dmg ws l co=true then ([],0,1) else za c dmg ws (gg l co.part) co
structure Part (chp ch:List Int):Prop where
 l:chp.length=ch.length
 e:∀(i:Nat) (n:Int),chp[i]?=some n->n<0\/ch[i]?=some n
def NT(m:Int):∀(es:List bj) (n:Int),(es.foldl (fa n) m<=m)/\(n<0->∀e∈es,es.foldl (fa n) m<=e.day)
 | [],_=>⟨cc _,λ_ e h=>by cases h⟩
 | x::es,n=>by
  obtain⟨h1,h2⟩:=NT (fa n m x) es n
  have hs:fa n m x<=m/\(n<0->fa n m x<=x.day):=by
   unfold fa;split
   ·exact⟨(vP _ _).1,λ_=>(vP _ _).2⟩
   ·rename_i h;exact⟨cc _,λk=>t7 k h⟩
  rw[bo];refine⟨cs h1 hs.1,λhn e he=>?_⟩
  rcases rt he with rfl | he
  ·exact cs h1 (hs.2 hn)
  ·exact h2 hn e he
def I3:∀(L:List (aN×Int)) (m:Int),oW m L<=m/\∀p∈L,p.2<0->∀e∈p.1.opts,oW m L<=e.day
 | [],_=>⟨cc _,λp h=>by cases h⟩
 | p::L,m=>by
  obtain⟨h1,h2⟩:=NT m p.1.opts p.2;obtain⟨i1,i2⟩:=I3 L (p.1.opts.foldl (fa p.2) m);have hs:oW m (p::L)=oW (p.1.opts.foldl (fa p.2) m) L:=rfl;rw[hs];refine⟨cs i1 h1,λq hq hn e he=>?_⟩
  rcases rt hq with rfl | hq
  ·exact cs i1 (h2 hn e he)
  ·exact i2 q hq hn e he
def Ik{m:Int}:∀{l:List aN} {chp ch:List Int},Part chp ch->(∀p∈l.zip chp,p.2<0->∀e∈p.1.opts,m<=e.day)->(sg l chp).filter (λe=>decide (e.day<m))=(sg l ch).filter λe=>decide (e.day<m)
 | [],_,_,_,_=>by simp[sg]
 | r::l,[],[],_,_=>rfl
 | r::l,[],b::ch,h,_=>by have:=h.l;simp at this
 | r::l,a::chp,[],h,_=>by have:=h.l;simp at this
 | r::l,a::chp,b::ch,h,hm=>by
  have ih:=Ik (l:=l) (chp:=chp) (ch:=ch) ⟨by have:=h.l;simpa using this,λi n k=>by have:=h.e (i+1) n k;simpa using this⟩ λp hp=>hm p (by rw[cb];exact a0 _ hp);unfold sg at ih ⊢;rw[cb,cb,flatMap_cons,flatMap_cons,cp,cp,ih]
  congr 1
  rcases h.e 0 a rfl with h0 | h0
  ·have hp:=hm (r,a) (by rw[cb];exact aS) h0;have h1:N3 (r,a)=[]:=t8 h0;rw[h1];refine(List.filter_eq_nil_iff.2 λe he=>?_).symm;have:=hp e (GC (p:=(r,b)) he);rw[wp];omega
  ·cases h0;rfl
def fR{k:Int}:gO c l ch k=true↔j9 c=true/\l.length=ch.length/\∀p∈l.zip ch,LP k p=true:=by
 unfold gO;rw[a8,a8,wp,all_eq_true]
def ru{k:Int}{p:aN×Int}:LP k p=true↔bp p.1≠0/\k<=p.2/\p.2<bp p.1:=by
 unfold LP;simp only[a8,bv,wd,Int.not_le,Int.not_lt,ne_eq]
variable{dmg:aX}
def NH{u:Bool}{l:List bj}{q:bj->Bool}(hq:∀a b:bj,a.day<=b.day->q b=true->q a=true)(h:(qg u c dmg (cL l) []).2=0):(qg u c dmg (cL (l.filter q)) []).2=0:=by
 rw[<-pO];rw[Cy hq (Qd l)] at h;exact RP _ _ _ h
def RD{chp:List Int}(hd:qL l)(h:AN c l ch=true)(hp:Part chp ch):sh c l chp=false:=by
 obtain⟨_,h2⟩:=(rj (dmg:=.mk 0 0 []) hd).1 h;unfold sh;obtain⟨_,hm⟩:=I3 (l.zip chp) 40001;rw[D8 (dmg:=.mk 0 0 []) hd,Ik hp hm,NH (λa b h1 h2=>by rw[wp] at h2 ⊢;omega) h2];exact Bool.and_false _
def GV{ch:List Int}:∀(d k:Nat),ch.length-k<=d->k<=gD ch k/\(∀j n,k<=j->j<gD ch k->ch[j]?=some n->0<=n)/\(∀n,ch[gD ch k]?=some n->n<0)
 | 0,k,h=>by
  rw[yh gt];refine⟨a6 _,λj n h1 h2=>by omega,λn h1=>?_⟩;have:=aR h1;omega
 | d+1,k,h=>by
  cases hk:ch[k]? with
  | none=>
   rw[yh (by simpa using hk)];exact⟨a6 _,λj n h1 h2=>by omega,λn h1=>by rw[hk] at h1;cases h1⟩
  | some n=>
   have hlt:=aR hk;by_cases hn:0<=n
   ·rw[E7 hk hn];obtain⟨h1,h2,h3⟩:=GV (ch:=ch) d (k+1) gt;refine⟨by omega,λj m j1 j2 j3=>?_,h3⟩;by_cases e:j=k
    ·subst e;rw[hk] at j3;cases j3;exact hn
    ·exact h2 j m gt j2 j3
   ·rw[E6 hk hn];exact⟨a6 _,λj m h1 h2=>by omega,λm h1=>by rw[hk] at h1;cases h1;omega⟩
def yo{g:Nat->List (List Int)->Bool×List (List Int)}(hg:∀n out,∀x∈out,x∈(g n out).2):∀(m n:Nat) (out:List (List Int)),∀x∈out,x∈(mX g m n out).2
 | 0,_,_,x,h=>h
 | m+1,n,out,x,h=>by
  rw[mX];split
  ·exact yo hg m _ _ x (hg n out x h)
  ·exact hg n out x h
def BE{c:List aF}{l:List aN}{most:Int}:∀(F i:Nat) (ch:List Int) (out:List (List Int)),∀x∈out,x∈(dO c l most F i ch out).2
 | 0,_,_,_,x,h=>h
 | F+1,i,ch,out,x,h=>by
  rw[dO];split
  ·exact h
  ·split
   ·split
    ·exact bh _ h
    ·exact h
   ·exact yo (λn out x h=>BE F _ _ _ x h) _ _ _ x h
def Fc{g:Nat->List (List Int)->Bool×List (List Int)}{most:Int}(hg:∀n out,(g n out).1=false->((g n out).2.length:Int)=most):∀(m n:Nat) (out:List (List Int)),(mX g m n out).1=false->((mX g m n out).2.length:Int)=most
 | 0,_,_,h=>by cases h
 | m+1,n,out,h=>by
  rw[mX] at h ⊢;split at h
  ·rename_i h1;rw[t8 h1];exact Fc hg m _ _ h
  ·rename_i h1;rw[ul h1];exact hg n out (by simpa using h1)
def uz{c:List aF}{l:List aN}{most:Int}:∀(F i:Nat) (ch:List Int) (out:List (List Int)),(dO c l most F i ch out).1=false->((dO c l most F i ch out).2.length:Int)=most
 | 0,_,_,_,h=>by cases h
 | F+1,i,ch,out,h=>by
  rw[dO] at h ⊢;split at h
  ·cases h
  rename_i h1;rw[ul h1];split at h
  ·split at h
   ·rename_i h3;rw[t8 h3];simp only[f8,wp] at h;rw[li];exact h
   ·cases h
  ·exact Fc (λn out h=>uz F _ _ _ h) _ _ _ h
def JV{g:Nat->List (List Int)->Bool×List (List Int)}(hm:∀n out,∀x∈out,x∈(g n out).2){x:List Int}:∀(m s:Nat) (out:List (List Int)),(mX g m s out).1=true->∀n,s<=n->n<s+m->(∀out,(g n out).1=true->x∈(g n out).2)->x∈(mX g m s out).2
 | 0,_,_,_,n,h1,h2,_=>by omega
 | m+1,s,out,h,n,h1,h2,hx=>by
  rw[mX] at h ⊢;split at h
  ·rename_i k;rw[t8 k];by_cases e:n=s
   ·subst e;exact yo hm m _ _ x (hx out k)
   ·exact JV hm m _ _ h n gt gt hx
  ·cases h
def xO{c:List aF}{l:List aN}{most:Int}{ch:List Int}(hd:qL l)(h:AN c l ch=true):∀(F i:Nat) (chp:List Int) (out:List (List Int)),Part chp ch->(∀j n,j<i->chp[j]?=some n->0<=n)->i<=l.length->l.length<F+i->(dO c l most F i chp out).1=true->ch∈(dO c l most F i chp out).2
 | 0,i,chp,out,hp,hi,hil,hF,_=>by omega
 | F+1,i,chp,out,hp,hi,hil,hF,ht=>by
  have hl:=RW h;obtain⟨hg,_⟩:=(rj (dmg:=.mk 0 0 []) hd).1 h;obtain⟨_,_,hg⟩:=fR.1 hg;obtain⟨k1,k2,k3⟩:=GV (ch:=chp) _ i (Nat.le_refl _)
  have hdone:∀j n,j<gD chp i->chp[j]?=some n->0<=n:=λj n hj hn=>by
   by_cases e:j<i
   ·exact hi j n e hn
   ·exact k2 j n gt hj hn
  rw[dO,RD hd h hp,ul Bool.false_ne_true] at ht ⊢
  cases hr:l[gD chp i]? with
  | none=>
   have hge:l.length<=gD chp i:=by simpa using hr
   have e:chp=ch:=by
    apply List.ext_getElem?;intro j
    cases hj:chp[j]? with
    | none=>
     have:chp.length<=j:=by simpa using hj
     have h2:=hp.l;exact(List.getElem?_eq_none gt).symm
    | some n=>
     have hjl:=aR hj;have h2:=hp.l;have:=hdone j n gt hj
     rcases hp.e j n hj with k | k
     ·omega
     ·exact k.symm
   subst e;simp only;rw[t8 h];exact List.mem_append_right _ (qr rfl)
  | some r=>
   rw[hr] at ht;simp only at ht ⊢;have hlt:=aR hr;obtain⟨n,hn⟩:∃n,ch[gD chp i]?=some n:=⟨_,jp gt⟩;have hz:(r,n)∈l.zip ch:=List.mem_of_getElem? (i:=gD chp i) (by rw[List.getElem?_zip_eq_some];exact⟨hr,hn⟩);obtain⟨_,o1,o2⟩:=ru.1 (hg _ hz);simp only at o1 o2;refine JV (λn out x h=>BE F _ _ _ x h) _ _ _ ht n.toNat (Nat.zero_le _) gt λout ho=>xO hd h F _ _ out ⟨by rw[List.length_set];exact hp.l,λj m hj=>?_⟩ (λj m hj hm=>?_) gt gt ho
   ·rw[List.getElem?_set] at hj;split at hj
    ·rename_i e;subst e;split at hj
     ·cases hj;right;rw[hn,Int.toNat_of_nonneg o1]
     ·cases hj
    ·exact hp.e j m hj
   ·rw[List.getElem?_set] at hm;split at hm
    ·split at hm
     ·cases hm;exact Int.natCast_nonneg _
     ·cases hm
    ·rename_i e;exact hdone j m gt hm
def Cz(hg:gO c l ch 0=true):Part (fh l) ch:=by
 obtain⟨_,hl,hg⟩:=fR.1 hg;refine⟨by unfold fh;rw[al];exact hl,λi n hn=>?_⟩;obtain⟨r,hr,rfl⟩:=BG hn;have hlt:=aR hr;obtain⟨m,hm⟩:∃m,ch[i]?=some m:=⟨_,jp gt⟩;have hz:(r,m)∈l.zip ch:=ap (i:=i) (by rw[dc];exact⟨hr,hm⟩);obtain⟨_,o1,o2⟩:=ru.1 (hg _ hz);simp only at o1 o2;split
 ·exact .inl gc
 ·right;rw[hm];congr 1;omega
def Nh(hd:qL l)(h0:(fk c l most).2=0)(hn:((fk c l most).1.length:Int)≠most)(h:AN c l ch=true):ch∈(fk c l most).1:=by
 unfold fk at h0 hn ⊢;split at h0
 ·cases h0
 rename_i k1;rw[ul k1] at hn ⊢;split at h0
 ·cases h0
 rename_i k2;rw[ul k2] at hn ⊢;split at h0;rotate_left
 ·exact t7 h0 ‹_›
 rename_i k3;rw[t8 k3] at hn ⊢;split at h0
 ·cases h0
 rename_i k4;rw[ul k4] at hn ⊢;simp only at hn ⊢;unfold na at hn ⊢;have hg:=((rj (dmg:=.mk 0 0 []) hd).1 h).1;refine xO hd h _ _ _ _ (Cz hg) (λj n hj=>t7 hj (d6 _)) (b7 _) gt ?_;cases ht:(dO c l most (l.length+1) 0 (fh l) []).1
 ·exact t7 (uz _ _ _ _ ht) hn
 ·rfl
def Vf(f:List Nat):Nat->Nat->Nat
 | 0,i=>i
 | s+1,i=>if f.getD i 0=i then i else Vf f s (f.getD i 0)
def kG(f:List Nat)(i:Nat):Nat:=Vf f i i
def ku(h:eh f){i:Nat}(hi:i<f.length):f.getD i 0<=i:=by
 rw[bc,jp hi];exact h i _ (jp hi)
def Tk(h:eh f):∀(s i:Nat),i<f.length->i<=s->Vf f s i=Vf f i i:=by
 intro s
 induction s using d8 with
 | _ s ih=>
  intro i hi hs;have hle:=ku h hi
  cases s with
  | zero=>
   obtain rfl:i=0:=by omega
   rfl
  | succ s=>
   cases i with
   | zero=>
    have h0:f.getD 0 0=0:=by omega
    show(if f.getD 0 0=0 then 0 else Vf f s (f.getD 0 0))=0;rw[t8 h0]
   | succ i=>
    rw[Vf,Vf];split
    ·rfl
    ·rw[ih s gt _ gt gt];by_cases hsi:s=i
     ·subst hsi;rw[ih s gt _ gt gt]
     ·rw[ih i gt _ gt gt]
def jT(h:eh f){i:Nat}(hi:i<f.length):kG f i=kG f (f.getD i 0):=by
 have hle:=ku h hi;by_cases e:f.getD i 0=i
 ·rw[e]
 ·unfold kG
  cases i with
  | zero=>omega
  | succ i=>
   rw[Vf,ul e];exact Tk h i (f.getD (i+1) 0) gt gt
def gV{i:Nat}(e:f.getD i 0=i):kG f i=i:=by
 unfold kG
 cases i with
 | zero=>rfl
 | succ i=>rw[Vf,t8 e]
def GL(h:eh f):∀i,i<f.length->kG f i<=i/\f.getD (kG f i) 0=kG f i:=by
 intro i
 induction i using d8 with
 | _ i ih=>
  intro hi;have hle:=ku h hi;by_cases e:f.getD i 0=i
  ·rw[gV e];exact⟨a6 _,e⟩
  ·rw[jT h hi];have:=ih (f.getD i 0) gt gt;exact⟨by omega,this.2⟩
def qe{i x j:Nat}(hi:i<f.length):(f.set i x).getD j 0=if j=i then x else f.getD j 0:=by
 rw[bc,bc];by_cases e:j=i
 ·subst e;rw[t8 rfl,bZ hi];rfl
 ·rw[ul e,cf (λh=>e h.symm)]
def Tl(h:eh f){i x:Nat}(hi:i<f.length)(hx:x<=i)(hr:kG f x=kG f i)(hne:x=i->f.getD i 0=i):∀j,j<f.length->kG (f.set i x) j=kG f j:=by
 have hF:=h.set (y:=x) hx;intro j
 induction j using d8 with
 | _ j ih=>
  intro hj
  have hj2:j<(f.set i x).length:=by rw[bt];exact hj
  rw[jT hF hj2,qe hi];split
  ·rename_i e;subst e;by_cases e:x=j
   ·subst e;rw[gV (show(f.set x x).getD x 0=x by rw[qe hi,t8 rfl]),gV (hne rfl)]
   ·rw[ih x gt gt,hr]
  ·have hle:=ku h hj;by_cases e:f.getD j 0=j
   ·rename_i hji;rw[e,gV e,gV (show(f.set i x).getD j 0=j by rw[qe hi,ul hji,e])]
   ·rw[ih _ gt gt,<-jT h hj]
def JH:∀(s:Nat) (f:List Nat) (i:Nat),eh f->i<f.length->i<=s->(rT s f i).1=kG f i/\∀j,j<f.length->kG (rT s f i).2 j=kG f j
 | 0,f,i,h,hi,hs=>by
  obtain rfl:i=0:=by omega
  exact⟨rfl,λ_ _=>rfl⟩
 | s+1,f,i,h,hi,hs=>by
  have hle:=ku h hi;unfold rT;split
  ·rename_i e;exact⟨(gV e).symm,λ_ _=>rfl⟩
  ·rename_i e
   have hp:f.getD i 0<f.length:=by omega
   have hle2:=ku h hp
   have hr:kG f (f.getD (f.getD i 0) 0)=kG f i:=by rw[<-jT h hp,<-jT h hi]
   have hF:=h.set (i:=i) (y:=f.getD (f.getD i 0) 0) gt;have hh:=Tl h hi gt hr (λe2=>by omega);obtain⟨k1,k2⟩:=JH s _ (f.getD (f.getD i 0) 0) hF (by rw[List.length_set];omega) gt;refine⟨by rw[k1,hh _ gt,hr],λj hj=>?_⟩;rw[k2 j (by rw[List.length_set];exact hj),hh j hj]
def wq{i:Nat}(h:eh f)(hi:i<f.length):(eP f i).1=kG f i/\∀j,j<f.length->kG (eP f i).2 j=kG f j:=JH i f i h hi (a6 _)
def Tm(h:eh f){a b:Nat}(hb:b<f.length)(hab:a<=b)(ha:f.getD a 0=a)(hbb:f.getD b 0=b):∀j,j<f.length->kG (f.set b a) j=if kG f j=b then a else kG f j:=by
 have hF:=h.set (y:=a) hab;intro j
 induction j using d8 with
 | _ j ih=>
  intro hj
  have hj2:j<(f.set b a).length:=by rw[bt];exact hj
  by_cases e:j=b
  ·subst e;rw[gV hbb,t8 rfl,jT hF hj2,qe hb,t8 rfl];refine gV ?_;rw[qe hb];split
   ·rfl
   ·exact ha
  ·have hg:(f.set b a).getD j 0=f.getD j 0:=by rw[qe hb,ul e]
   have hle:=ku h hj;by_cases e2:f.getD j 0=j
   ·rw[gV (hg.trans e2),gV e2,ul e]
   ·rw[jT hF hj2,hg,ih _ gt gt,<-jT h hj]
def UB{i k:Nat}(h:eh f)(hi:i<f.length)(hk:k<f.length):∀j,j<f.length->kG (vH f i k) j=if kG f j=max (kG f i) (kG f k) then min (kG f i) (kG f k) else kG f j:=by
 obtain⟨a1,a2,a3⟩:=mf h hi;obtain⟨a4,a5⟩:=wq h hi
 have hk2:k<(eP f i).2.length:=by rw[a2];exact hk
 obtain⟨b1,b2,b3⟩:=mf (i:=k) a1 hk2;obtain⟨b4,b5⟩:=wq (i:=k) a1 hk2
 have c5:∀j,j<f.length->kG (eP (eP f i).2 k).2 j=kG f j:=λj hj=>by rw[b5 j (by rw[a2];exact hj),a5 j hj]
 have ra:=GL h i hi;have rb:=GL h k hk;intro j hj;unfold vH;rw[a4,b4,a5 k hk]
 have hl:(eP (eP f i).2 k).2.length=f.length:=by rw[b2,a2]
 have fx:∀r,r<f.length->kG f r=r->(eP (eP f i).2 k).2.getD r 0=r:=λr hr e=>by
  have h1:=GL b1 r (by rw[hl];exact hr);rw[c5 r hr,e] at h1;exact h1.2
 have e1:kG f (kG f i)=kG f i:=gV ra.2;have e2:kG f (kG f k)=kG f k:=gV rb.2;rw[Tm b1 (by rw[hl];omega) gt ?_ ?_ j (by rw[hl];exact hj),c5 j hj]
 ·rcases hX (kG f i) (kG f k) with hh | hh
  ·rw[fm hh];exact fx _ gt e1
  ·rw[Nat.min_eq_right hh];exact fx _ gt e2
 ·rcases hX (kG f i) (kG f k) with hh | hh
  ·rw[Nat.max_eq_right hh];exact fx _ gt e2
  ·rw[Nat.max_eq_left hh];exact fx _ gt e1
inductive iI (M:List (Nat×List Nat)):Nat->Nat->Prop
 | refl (i):iI M i i
 | step {i j k p}:iI M i j->(j,p)∈M->(k,p)∈M->iI M i k
variable{M:List (Nat×List Nat)}
def iI.trans{i j k:Nat}(h:iI M i j)(h2:iI M j k):iI M i k:=by
 induction h2 with
 | refl=>exact h
 | step _ a b ih=>exact .step ih a b
def iI.symm{i j:Nat}(h:iI M i j):iI M j i:=by
 induction h with
 | refl=>exact .refl _
 | step _ a b ih=>exact(iI.step (.refl _) b a).trans ih
def iI.mono{N:List (Nat×List Nat)}(hs:∀x∈M,x∈N){i j:Nat}(h:iI M i j):iI N i j:=by
 induction h with
 | refl=>exact .refl _
 | step _ a b ih=>exact .step ih (hs _ a) (hs _ b)
structure oJ (n:Nat) (M:List (Nat×List Nat)) (st:List Nat×w6):Prop where
 ok:mn n st
 lt:∀x∈M,x.1<n
 has:∀p,cz p st.2=true↔∃i,(i,p)∈M
 first:∀p,cz p st.2=true->(getM 0 p st.2,p)∈M
 conn:∀i j,i<n->j<n->(kG st.1 i=kG st.1 j↔iI M i j)
def Rp{x:Nat×List Nat}(hx:∀i,(i,x.2)∈M->i=x.1){i j:Nat}(h:iI (M++[x]) i j):iI M i j:=by
 induction h with
 | refl=>exact .refl _
 | @step j k p _ a b ih=>
  rcases mem_append.1 a with a | a
  ·rcases mem_append.1 b with b | b
   ·exact .step ih a b
   ·rw[ba] at b;have:=hx j (by rw[<-b];exact a);rw[show k=j by rw[this,<-b]];exact ih
  ·rw[ba] at a
   rcases mem_append.1 b with b | b
   ·have:=hx k (by rw[<-a];exact b);rw[show k=j by rw[this,<-a]];exact ih
   ·rw[ba] at b;rw[show k=j from(by rw[<-b] at a;exact(n9 fst a).symm)];exact ih
def oJ.part{n i:Nat}{M:List (Nat×List Nat)}{st:List Nat×w6}(h:oJ n M st)(hi:i<n)(p:List Nat):oJ n (M++[(i,p)]) (mF i st p):=by
 have hok:=h.ok.part hi p
 have hlt:∀x∈M++[(i,p)],x.1<n:=λx hx=>by
  rcases mem_append.1 hx with hx | hx
  ·exact h.lt x hx
  ·rw[ba] at hx;rw[hx];exact hi
 unfold mF at hok ⊢;cases hh:cz p st.2
 ·rw[hh] at hok;simp only[bx,if_false] at hok ⊢
  have hno:∀j,(j,p)∈M->False:=λj hj=>by have:=(h.has p).2 ⟨j,hj⟩;rw[hh] at this;cases this
  refine⟨hok,hlt,λq=>?_,λq hq=>?_,λa b ha hb=>?_⟩
  ·rw[qh,f3,wp,h.has];constructor
   ·rintro(rfl | ⟨j,hj⟩)
    ·exact⟨i,ct _ aS⟩
    ·exact⟨j,bh _ hj⟩
   ·rintro⟨j,hj⟩
    rcases mem_append.1 hj with hj | hj
    ·exact .inr ⟨j,hj⟩
    ·rw[ba] at hj;exact .inl (n9 snd hj)
  ·rw[di];split
   ·rename_i e;subst e;exact ct _ aS
   ·rename_i e;rw[qh,f3,wp] at hq;exact bh _ (h.first q (hq.resolve_left e))
  ·rw[h.conn a b ha hb];exact⟨iI.mono λx hx=>bh _ hx,Rp λj hj=>(hno j hj).elim⟩
 ·rw[hh] at hok;simp only[if_true] at hok ⊢;have hf:=h.first p hh;have hg:=h.lt _ hf;refine⟨hok,hlt,λq=>?_,λq hq=>bh _ (h.first q hq),λa b ha hb=>?_⟩
  ·rw[h.has];constructor
   ·rintro⟨j,hj⟩;exact⟨j,bh _ hj⟩
   ·rintro⟨j,hj⟩
    rcases mem_append.1 hj with hj | hj
    ·exact⟨j,hj⟩
    ·rw[ba] at hj;rw[show q=p from n9 snd hj];exact⟨_,hf⟩
  ·have hl:=h.ok.l;have hja:=UB h.ok.f (i:=getM 0 p st.2) (k:=i) (by rw[hl];exact hg) (by rw[hl];exact hi);rw[hja a (by rw[hl];exact ha),hja b (by rw[hl];exact hb)];have hg1:=h.conn;have up:∀{x y},iI M x y->iI (M++[(i,p)]) x y:=λhc=>hc.mono λx hx=>bh _ hx;have hgi:iI (M++[(i,p)]) (getM 0 p st.2) i:=.step (.refl _) (bh _ hf) (ct _ aS)
   have key:iI (M++[(i,p)]) a b↔iI M a b\/(iI M a (getM 0 p st.2)/\iI M i b)\/(iI M a i/\iI M (getM 0 p st.2) b):=by
    constructor
    ·intro hc
     induction hc with
     | refl=>exact .inl (.refl _)
     | @step j k q hc ha2 hb2 ih=>
      have ih:=ih (by
       rcases mem_append.1 ha2 with h2 | h2
       ·exact h.lt _ h2
       ·rw[ba] at h2;rw[show j=i from n9 fst h2];exact hi)
      have tail:∀{x},iI M x j->(j,q)∈M->(k,q)∈M->iI M x k:=λc1 c2 c3=>.step c1 c2 c3
      rcases mem_append.1 ha2 with h2 | h2
      ·rcases mem_append.1 hb2 with h3 | h3
       ·rcases ih with c | ⟨c1,c2⟩ | ⟨c1,c2⟩
        ·exact .inl (.step c h2 h3)
        ·exact .inr (.inl ⟨c1,.step c2 h2 h3⟩)
        ·exact .inr (.inr ⟨c1,.step c2 h2 h3⟩)
       ·rw[ba] at h3;obtain⟨e1,e2⟩:k=i/\q=p:=⟨n9 fst h3,n9 snd h3⟩;subst e1;subst e2;have hjg:iI M j (getM 0 q st.2):=.step (.refl _) h2 hf
        rcases ih with c | ⟨c1,c2⟩ | ⟨c1,c2⟩
        ·exact .inr (.inl ⟨c.trans hjg,.refl _⟩)
        ·exact .inr (.inl ⟨c1,.refl _⟩)
        ·exact .inl c1
      ·rw[ba] at h2;obtain⟨e1,e2⟩:j=i/\q=p:=⟨n9 fst h2,n9 snd h2⟩;subst e1;subst e2
       rcases mem_append.1 hb2 with h3 | h3
       ·have hgk:iI M (getM 0 q st.2) k:=.step (.refl _) hf h3
        rcases ih with c | ⟨c1,c2⟩ | ⟨c1,c2⟩
        ·exact .inr (.inr ⟨c,hgk⟩)
        ·exact .inl (c1.trans hgk)
        ·exact .inr (.inr ⟨c1,hgk⟩)
       ·rw[ba] at h3;rw[show k=j from n9 fst h3];exact ih
    ·rintro(c | ⟨c1,c2⟩ | ⟨c1,c2⟩)
     ·exact up c
     ·exact(up c1).trans (hgi.trans (up c2))
     ·exact(up c1).trans (hgi.symm.trans (up c2))
   rw[key,<-hg1 a b ha hb,<-hg1 a _ ha hg,<-hg1 i b hi hb,<-hg1 a i ha hi,<-hg1 _ b hg hb];generalize kG st.1 a=ra;generalize kG st.1 b=rb;generalize kG st.1 i=ri;generalize kG st.1 (getM 0 p st.2)=rg;split<;>split<;>omega
def oJ.parts{n i:Nat}(hi:i<n):∀(ps:List (List Nat)) {M:List (Nat×List Nat)} {st:List Nat×w6},oJ n M st->oJ n (M++ps.map λp=>(i,p)) (ps.foldl (mF i) st)
 | [],M,st,h=>by rw[map_nil,cl];exact h
 | p::ps,M,st,h=>by
  have:=oJ.parts hi ps (h.part hi p);rw[cj] at this;exact this
def nu:Nat->List aN->List (Nat×List Nat)
 | _,[]=>[]
 | k,r::l=>(gS r).map (λp=>(k,p))++nu (k+1) l
def IY{p:List Nat}:∀{l:List aN} {k i:Nat},(i,p)∈nu k l↔∃r,k<=i/\l[i-k]?=some r/\p∈gS r
 | [],k,i=>by simp[nu]
 | r::l,k,i=>by
  rw[nu,mem_append,IY,mem_map];constructor
  ·rintro(⟨q,hq,e⟩ | ⟨r',h1,h2,h3⟩)
   ·cases e;exact⟨r,a6 _,by rw[em];rfl,hq⟩
   ·exact⟨r',by omega,by rw[show i-k=(i-(k+1))+1 by omega];exact h2,h3⟩
  ·rintro⟨r',h1,h2,h3⟩;by_cases e:i=k
   ·subst e;rw[em] at h2;cases h2;exact .inl ⟨p,h3,rfl⟩
   ·rw[show i-k=(i-(k+1))+1 by omega] at h2;exact .inr ⟨r',by omega,h2,h3⟩
def I0:∀(l:List aN) (k:Nat) (r:aN),nu k (l++[r])=nu k l++(gS r).map λp=>(k+l.length,p)
 | [],k,r=>by simp[nu]
 | x::l,k,r=>by
  rw[dv,nu,nu,I0 l,cj,i7,show k+1+l.length=k+(l.length+1) by omega]
def Ui{i j:Nat}(h:iI M i j):i=j\/((∃p,(i,p)∈M)/\∃p,(j,p)∈M):=by
 induction h with
 | refl=>exact .inl rfl
 | step _ a b ih=>
  rcases ih with rfl | ⟨h1,_⟩
  ·exact .inr ⟨⟨_,a⟩,⟨_,b⟩⟩
  ·exact .inr ⟨h1,⟨_,b⟩⟩
def GK(h:eh f):∀j,j<f.length->kG (f++[f.length]) j=kG f j:=by
 have hF:eh (f++[f.length]):=by
  intro j x hx;rw[f4] at hx;split at hx
  ·exact h j x hx
  ·rename_i hj
   cases hjj:j-f.length with
   | zero=>rw[hjj] at hx;simp at hx;omega
   | succ q=>rw[hjj] at hx;simp at hx
 intro j
 induction j using d8 with
 | _ j ih=>
  intro hj
  have hg:(f++[f.length]).getD j 0=f.getD j 0:=by
   rw[bc,bc,List.getElem?_append_left hj]
  have hle:=ku h hj;by_cases e:f.getD j 0=j
  ·rw[gV (hg.trans e),gV e]
  ·rw[jT hF (by rw[li];omega),hg,ih (f.getD j 0) gt gt,<-jT h hj]
def oJ.new{n:Nat}{M:List (Nat×List Nat)}{st:List Nat×w6}(h:oJ n M st):oJ (n+1) M (st.1++[st.1.length],st.2):=by
 refine⟨h.ok.new,λx hx=>gb (h.lt x hx),h.has,h.first,?_⟩;have hl:=h.ok.l
 have hn:kG (st.1++[st.1.length]) n=n:=by
  refine gV ?_;rw[bc,eB gt,hl,em];rfl
 have ho:∀{j},¬iI M n j\/n=j:=by
  intro j;by_cases e:n=j
  ·exact .inr e
  ·refine .inl λhc=>?_
   rcases Ui hc with e2 | ⟨⟨p,hp⟩,_⟩
   ·exact e e2
   ·have:=h.lt _ hp;simp only at this;omega
 have hlow:∀{j},j<n->kG (st.1++[st.1.length]) j<n:=λ{j} hj=>by
  rw[GK h.ok.f j gt];have:=(GL h.ok.f j gt).1;omega
 intro i j hi hj;simp only;by_cases ei:i=n
 ·subst ei;by_cases ej:j=i
  ·subst ej;exact⟨λ_=>.refl _,λ_=>rfl⟩
  ·rw[hn];refine⟨λe=>?_,λhc=>?_⟩
   ·have:=hlow (j:=j) gt;omega
   ·exact t7 (ho.resolve_left λh=>h hc) λe=>ej e.symm
 ·by_cases ej:j=n
  ·subst ej;rw[hn];refine⟨λe=>?_,λhc=>?_⟩
   ·have:=hlow (j:=i) gt;omega
   ·exact t7 (ho.resolve_left λh=>h hc.symm) λe=>ei e.symm
  ·rw[GK h.ok.f i gt,GK h.ok.f j gt];exact h.conn i j gt gt
def BX(l:List aN):oJ l.length (nu 0 l) (dW l):=by
 have h:∀(l2 l1:List aN) (st:List Nat×w6),oJ l1.length (nu 0 l1) st->oJ (l1++l2).length (nu 0 (l1++l2)) (l2.foldl vJ st):=by
  intro l2
  induction l2 with
  | nil=>intro l1 st h;rw[cl];exact h
  | cons r l2 ih=>
   intro l1 st h;have h2:=oJ.parts (i:=l1.length) (go _) (gS r) h.new
   have h3:=ih (l1++[r]) (vJ st r) (by
    rw[li,fu,I0,gY];unfold vJ;rw[h.ok.l] at h2 ⊢
    exact h2)
   rw[cj] at h3;exact h3
 have:=h l [] ([],[]) ⟨⟨λj x hx=>by simp at hx,rfl,λq hq=>by simp[cz] at hq⟩,λx hx=>by simp[nu] at hx,λp=>by simp[cz,nu],λp hp=>by simp[cz] at hp,λi j hi=>t7 hi (d6 _)⟩;exact this
def Je{k:Nat}{f:List Nat}(hf:eh f)(hk:k<f.length):∀n,n<=f.length->(∀j,j<f.length->kG (lr k f n).1 j=kG f j)/\(lr k f n).2=(ci n).filter λi=>decide (kG f i=kG f k)
 | 0,_=>⟨λ_ _=>rfl,rfl⟩
 | n+1,hn=>by
  obtain⟨a1,a2⟩:=Je hf hk n gt;obtain⟨b1,b2,_⟩:=vR hf hk n gt;rw[Gr,Cb];obtain⟨c1,c2,_⟩:=mf (i:=n) b1 gt;obtain⟨c4,c5⟩:=wq (i:=n) b1 gt;obtain⟨d4,d5⟩:=wq (i:=k) c1 gt;refine⟨λj hj=>?_,?_⟩
  ·show kG (eP (eP (lr k f n).1 n).2 k).2 j=_;rw[d5 j gt,c5 j gt,a1 j hj]
  ·show(if _ then _ else _)=_;rw[d4,c4,c5 k gt,a1 n gt,a1 k hk,a2,f6,cp];by_cases e:kG f n=kG f k
   ·rw[t8 e];simp[e]
   ·rw[ul e];simp[e]
def Er(l:List aN)(part:List Nat):eo l part=if cz part (dW l).2=true then (ci l.length).filter (λi=>decide (kG (dW l).1 i=kG (dW l).1 (getM 0 part (dW l).2))) else []:=by
 unfold eo;split
 ·rename_i h;have hi:=BX l;have hk:=hi.lt _ (hi.first part h);have hl:=hi.ok.l;exact(Je hi.ok.f (by rw[hl];exact hk) l.length gt).2
 ·rfl
def kj{part:List Nat}{i:Nat}:i∈eo l part↔i<l.length/\∃k,(k,part)∈nu 0 l/\iI (nu 0 l) k i:=by
 have hi:=BX l;rw[Er];split
 ·rename_i h;have hf:=hi.first part h;have hk:=hi.lt _ hf;rw[mem_filter,mem_range,wp];constructor
  ·rintro⟨h1,h2⟩;exact⟨h1,_,hf,(hi.conn _ _ hk h1).1 h2.symm⟩
  ·rintro⟨h1,k,h2,h3⟩;exact⟨h1,((hi.conn _ _ hk h1).2 ((iI.step (.refl _) hf h2).trans h3)).symm⟩
 ·rename_i h;refine⟨λh=>(by cases h),?_⟩;rintro⟨_,k,h2,_⟩;exact t7 ((hi.has part).2 ⟨k,h2⟩) h
def pI(l:List aN)(part:List Nat):(eo l part).Pairwise (·<·):=by
 rw[Er];split
 ·exact List.Pairwise.filter _ List.pairwise_lt_range
 ·exact .nil
def q8{α β:Type}{f g:α->List β}{l:List α}(h:∀x∈l,f x=g x):l.flatMap f=l.flatMap g:=by
 rw[g5,g5,dk h]
def IX{p:List Nat}:∀(l acc:List (List Nat)),p∈l.foldl (λacc x=>if acc.getLast?=some x then acc else acc++[x]) acc↔p∈acc\/p∈l
 | [],acc=>by simp
 | x::l,acc=>by
  rw[bo,IX l];split
  ·rename_i h;have:=List.mem_of_getLast? h;rw[fy];constructor
   ·rintro(h1 | h1)
    ·exact .inl h1
    ·exact .inr (.inr h1)
   ·rintro(h1 | rfl | h1)
    ·exact .inl h1
    ·exact .inl this
    ·exact .inr h1
  ·rw[mem_append,ba,fy,or_assoc]
def Sa{p:List Nat}{l:List (List Nat)}:p∈JM l↔p∈l:=by
 unfold JM fG;rw[IX,(qG l).mem_iff];simp
def nN(hv:cT r=true){p:List Nat}:p∈gS r↔∃e∈r.opts,p∈cu e:=by
 unfold gS;rw[hv,ul gc,Sa,List.mem_flatten];constructor
 ·rintro⟨l,h1,h2⟩;obtain⟨e,he,rfl⟩:=mem_map.1 h1;exact⟨e,he,h2⟩
 ·rintro⟨e,he,h⟩;exact⟨_,cn he,h⟩
def Ce:∀{es:List bj} {seen:List (bj×Bool)},oi seen es=true->∀e∈es,dD e=true
 | [],_,_,e,h=>by cases h
 | x::es,seen,hv,e,h=>by
  rw[oi,a8,bv,er] at hv
  rcases rt h with rfl | h
  ·simpa using hv.1.2
  ·exact Ce hv.2 e h
variable{e:bj}
def tw(hv:cT r=true)(he:e∈r.opts):dD e=true:=by
 unfold cT at hv;simp only[a8] at hv;exact Ce hv.2.2 e he
def tb(hv:∀r∈l,cT r=true):qL l:=λr hr e he=>by
 have:=pY (tw (hv r hr) he);exact⟨this.1,this.2.1⟩
def Ij(he:dD e=true):e.part∈cu e/\(e.op=2->e.aO∈cu e):=by
 unfold cu;rw[he,ul gc];split
 ·unfold Gi Ge;cases h1:fZ e.part e.aO
  ·rw[hV,ar,AI];by_cases h2:e.part=e.aO
   ·rw[ut h2,ah];simp[h2]
   ·rw[un h2,ar];simp
  ·simp
 ·rename_i h;exact⟨qr rfl,λk=>t7 k h⟩
def qF(l:List aN)(S:Nat->Bool)(name:List Nat):Bool:=(ci l.length).any λi=>S i&&((l[i]?.map λr=>(gS r).contains name).getD false)
def Cv{S:Nat->Bool}{name:List Nat}:qF l S name=true↔∃i r,S i=true/\l[i]?=some r/\name∈gS r:=by
 unfold qF;rw[List.any_eq_true];constructor
 ·rintro⟨i,_,h⟩;rw[a8] at h
  cases hr:l[i]? with
  | none=>rw[hr] at h;cases h.2
  | some r=>rw[hr] at h;exact⟨i,r,h.1,hr,contains_iff_mem.1 h.2⟩
 ·rintro⟨i,r,h1,h2,h3⟩;refine⟨i,mem_range.2 (aR h2),?_⟩;rw[h1,h2];exact contains_iff_mem.2 h3
def QQ(l:List aN)(S:Nat->Bool):Prop:=∀i j p,S i=true->(i,p)∈nu 0 l->(j,p)∈nu 0 l->S j=true
def qt{i:Nat}{p:List Nat}:(i,p)∈nu 0 l↔∃r,l[i]?=some r/\p∈gS r:=by
 rw[IY];exact⟨λ⟨r,_,h⟩=>⟨r,h⟩,λ⟨r,h⟩=>⟨r,b7 _,h⟩⟩
def GU{S:Nat->Bool}(hS:QQ l S){i:Nat}(hr:l[i]?=some r)(hv:cT r=true)(he:e∈r.opts):qF l S e.part=S i/\qM (qF l S) e:=by
 have key:∀p,p∈gS r->qF l S p=S i:=λp hp=>by
  cases hi:S i
  ·cases h:qF l S p
   ·rfl
   ·obtain⟨j,q,h1,h2,h3⟩:=Cv.1 h;rw[hS j i p h1 (qt.2 ⟨q,h2,h3⟩) (qt.2 ⟨r,hr,hp⟩)] at hi;cases hi
  ·exact Cv.2 ⟨i,r,hi,hr,hp⟩
 obtain⟨n1,n2⟩:=Ij (tw hv he);have h1:=key _ ((nN hv).2 ⟨e,he,n1⟩);exact⟨h1,λk=>by rw[h1];exact key _ ((nN hv).2 ⟨e,he,n2 k⟩)⟩
def yE(l:List aN)(g:Nat->Int)(i:Nat):List bj:=match l[i]? with
 | some r=>N3 (r,g i)
 | none=>[]
def pq(l:List aN)(g:Nat->Int):∀I:List Nat,(∀i∈I,i<l.length)->(I.filterMap (l[·]?)).zip (I.map g)=I.filterMap λi=>l[i]?.map λr=>(r,g i)
 | [],_=>rfl
 | i::I,h=>by
  have ih:=pq l g I λj hj=>h j (a0 _ hj);obtain⟨r,hr⟩:∃r,l[i]?=some r:=⟨_,jp (h i aS)⟩;rw[b6,b6,hr,map_cons];simp only[m6];rw[cb,ih]
def vk(l:List aN)(g:Nat->Int)(I:List Nat)(h:∀i∈I,i<l.length):sg (I.filterMap (l[·]?)) (I.map g)=I.flatMap (yE l g):=by
 unfold sg;rw[pq l g I h];clear h
 induction I with
 | nil=>rfl
 | cons i I ih=>
  rw[b6,flatMap_cons,<-ih];unfold yE
  cases l[i]? with
  | none=>rfl
  | some r=>rfl
def AJ{g:Nat->Int}{i:Nat}(h:e∈yE l g i):∃r,l[i]?=some r/\e∈r.opts:=by
 unfold yE at h;split at h
 ·rename_i r hr;exact⟨r,hr,GC h⟩
 ·cases h
def mJ{l:List aN}{S:Nat->Bool}(hS:QQ l S)(hv:∀r∈l,cT r=true)(g:Nat->Int)(T:(List Nat->Bool)->List Nat->Bool)(U:Bool->Bool)(hT:∀A n,T A n=U (A n)):∀I:List Nat,(I.flatMap (yE l g)).filter (λe=>T (qF l S) e.part)=(I.filter λi=>U (S i)).flatMap (yE l g)
 | []=>rfl
 | i::I=>by
  have ih:=mJ hS hv g T U hT I
  have hi:∀e∈yE l g i,T (qF l S) e.part=U (S i):=λe he=>by
   obtain⟨r,hr,h⟩:=AJ he;rw[hT,(GU hS hr (hv r (ap hr)) h).1]
  rw[flatMap_cons,cp,ih,bi];split
  ·rename_i h;rw[flatMap_cons,List.filter_eq_self.2 λe he=>by rw[hi e he];exact h]
  ·rename_i h;rw[List.filter_eq_nil_iff.2 λe he=>by rw[hi e he];exact h,nil_append]
def ND:∀(I:List Nat) (ch:List Int),I.Nodup->I.length=ch.length->∃g:Nat->Int,I.map g=ch
 | [],[],_,_=>⟨λ_=>0,rfl⟩
 | [],b::ch,_,h=>by simp at h
 | i::I,[],_,h=>by simp at h
 | i::I,b::ch,hn,h=>by
  rw[bX] at hn;obtain⟨g,hg⟩:=ND I ch hn.2 (by simpa using h);refine⟨λj=>if j=i then b else g j,?_⟩;rw[map_cons,t8 rfl,<-hg]
  congr 1
  exact dk λj hj=>ul λe=>hn.1 (by rw[<-e];exact hj)
def tx(l:List aN):(ci l.length).filterMap (l[·]?)=l:=by
 apply be;intro i
 have h:∀n,n<=l.length->(ci n).filterMap (l[·]?)=l.take n:=λn=>by
  induction n with
  | zero=>intro _;rfl
  | succ n ih=>
   intro hn;rw[f6,fs,ih gt,List.take_add_one,b6];cases l[n]?<;>rfl
 rw[h _ (a6 _),cd]
def Bq(h:gO c l ch 0=true):jZ l ch=sg l ch:=by
 obtain⟨_,hl,hg⟩:=fR.1 h;unfold jZ mc;rw[t8 hl,t8 (all_eq_true.2 λp hp=>?_)]
 ·unfold sg;show(l.zip ch).flatMap gH=_;refine q8 λp hp=>?_;obtain⟨_,h1,_⟩:=ru.1 (hg p hp);unfold gH N3;rw[ul gt]
 ·obtain⟨_,h1,h2⟩:=ru.1 (hg p hp);unfold LO;simp only[a8,bv,wd];omega
def FU(l:List aN)(ch:List Int):(sg l ch).length<=l.length:=by
 unfold sg
 have:∀L:List (aN×Int),(L.flatMap N3).length<=L.length:=λL=>by
  induction L with
  | nil=>exact a6 _
  | cons p L ih=>
   rw[flatMap_cons,li,i7]
   have:(N3 p).length<=1:=by
    unfold N3;split
    ·exact b7 _
    ·cases p.1.opts[p.2.toNat]?<;>simp
   omega
 have:=this (l.zip ch);rw[hD] at this;omega
def Cx(l:List bj):(cL l).length=l.length:=vF _ _
def L8{l:List bj}(h:e∈cL l):e∈l:=(xT (Am qY) l).mem_iff.1 h
def Ft(hc:j9 c=true):cM c []=true:=by unfold cM;rw[hc];rfl
def OJ{A:List Nat->Bool}:mi A []:=λp h=>by cases h
def lz{u:Bool}{A:List Nat->Bool}{l:List bj}(hc:j9 c=true)(hl:l.length<=20000)(hI:∀e∈l,qM A e):
 ((qg u c dmg (cL l) []).2=0↔(qg u c dmg (cL (l.filter λe=>A e.part)) []).2=0/\(qg u c dmg (cL (l.filter λe=>nt A e.part)) []).2=0)/\
 ((qg u c dmg (cL l) []).2=0->bP A (qg u c dmg (cL l) []).1=(qg u c dmg (cL (l.filter λe=>A e.part)) []).1):=by
 have:=BI (u:=u) (dmg:=dmg) (cL l) (A:=A) (s:=[]) (λe he=>hI e (L8 he)) OJ (Ft hc) (by rw[Cx];simpa using hl);rw[pO,pO] at this;exact this
def xe(l less:List aN)(k n:Nat):Prop:=∃r o,l[k]?=some r/\r.opts[n]?=some o/\less=l.set k ⟨[o],false⟩
variable{less:List aN}
def xe.get{k:Nat}(h:xe l less k n):∃r o,l[k]?=some r/\r.opts[n]?=some o/\less[k]?=some ⟨[o],false⟩/\(∀i,i≠k->less[i]?=l[i]?)/\less.length=l.length:=by
 obtain⟨r,o,h1,h2,rfl⟩:=h;exact⟨r,o,h1,h2,bZ (aR h1),λi hi=>cf λe=>hi e.symm,bt⟩
def xe.nu{l less:List aN}{k n:Nat}(h:xe l less k n)(hv:∀r∈l,cT r=true)(hv2:∀r∈less,cT r=true):∀x∈nu 0 less,x∈nu 0 l:=by
 rintro⟨i,p⟩ hx;obtain⟨r,o,h1,h2,h3,h4,_⟩:=h.get;rw[qt] at hx ⊢;obtain⟨q,hq,hp⟩:=hx;by_cases e:i=k
 ·subst e;rw[h3] at hq;cases hq;obtain⟨e,he,hp⟩:=(nN (hv2 _ (ap h3))).1 hp;rw[rc he] at hp;exact⟨r,h1,(nN (hv _ (ap h1))).2 ⟨o,ap h2,hp⟩⟩
 ·rw[h4 i e] at hq;exact⟨q,hq,hp⟩
def xe.sub{l less:List aN}{k n:Nat}(h:xe l less k n)(hv:∀r∈l,cT r=true)(hv2:∀r∈less,cT r=true){part:List Nat}{i:Nat}(hi:i∈eo less part):i∈eo l part:=by
 obtain⟨h1,j,h2,h3⟩:=kj.1 hi;obtain⟨_,_,_,_,_,_,hl⟩:=h.get;have hm:=h.nu hv hv2;exact kj.2 ⟨by rw[<-hl];exact h1,j,hm _ h2,h3.mono hm⟩
def x4(l:List aN)(part:List Nat):QQ l λi=>(eo l part).contains i:=by
 intro i j p h1 h2 h3;rw[contains_iff_mem] at h1 ⊢;obtain⟨_,k,k2,k3⟩:=kj.1 h1;obtain⟨r,hr,_⟩:=qt.1 h3;exact kj.2 ⟨aR hr,k,k2,.step k3 h2 h3⟩
def mix{k:Nat}{part:List Nat}{H:List Int}(L:xe l less k n)(hv:∀r∈l,cT r=true)(hv2:∀r∈less,cT r=true)(hlen:l.length<20000)(h0:AN c less H=true):
 ∃back:List Int->List Int,∀ch2,AN c (gg less part) ch2=true->∃ch,AN c (gg l part) ch=true/\back ch=ch2/\∀(dmg:aX) (ws:List Wy) (co:Co),co.part=part->
  (gg less part≠[]->jJ ws (runN c dmg (jZ (gg l part) ch) co.day).1 co=jJ ws (runN c dmg (jZ (gg less part) ch2) co.day).1 co)/\(gg less part=[]->jJ ws (runN c dmg (jZ (gg l part) ch) co.day).1 co=[(co.owner,co.am)]):=by
 refine⟨λch=>(eo less part).map λi=>if i=k then 0 else (((eo l part).zip ch).lookup i).getD 0,λch2 h2=>?_⟩;obtain⟨r,o,l1,l2,l3,l4,l5⟩:=L.get;have hsub:=λi=>L.sub hv hv2 (part:=part) (i:=i);have dl:=tb hv;have d2:=tb hv2;have do1:qL (gg l part):=λr hr=>dl r (rz hr);have do2:qL (gg less part):=λr hr=>d2 r (rz hr);have dmg0:aX:=.mk 0 0 [];obtain⟨g0,f0⟩:=(rj (dmg:=dmg0) d2).1 h0;obtain⟨g2,f2⟩:=(rj (dmg:=dmg0) do2).1 h2;obtain⟨hc,gl0,ga0⟩:=fR.1 g0;obtain⟨_,gl2,ga2⟩:=fR.1 g2;have i1:=(qn l part).2;have i2:=(qn less part).2;have s1:=pI l part;have s2:=pI less part;have nd1:(eo l part).Nodup:=s1.imp λh=>gv h;have nd2:(eo less part).Nodup:=s2.imp λh=>gv h;unfold gg at gl2 ga2 f2 ⊢
 have hfl:∀(q:List aN) (I:List Nat),(∀i∈I,i<q.length)->(I.filterMap (q[·]?)).length=I.length:=λq I=>by
  induction I with
  | nil=>intro _;rfl
  | cons i I ih=>
   intro h;rw[b6,jp (h i aS)];simp only[i7,ih λj hj=>h j (a0 _ hj)]
 obtain⟨G2,hG2⟩:=ND (eo less part) ch2 nd2 (by rw[<-hfl less _ i2];exact gl2);obtain⟨G0,hG0⟩:=ND (ci less.length) H nodup_range (by rw[gd];exact gl0);have shut2:=x4 less part;have shut1:=x4 l part;generalize hI:eo l part=I at *;generalize hJ:eo less part=J at *
 obtain⟨G,hG⟩:∃G:Nat->Int,∀i,G i=if J.contains i=true then G2 i else G0 i:=⟨_,λ_=>rfl⟩
 have hz0:∀i r,less[i]?=some r->LP 0 (r,G0 i)=true:=λi r hr=>by
  refine ga0 _ ?_;have hz:=pq less G0 _ λi hi=>mem_range.1 hi;rw[tx,hG0] at hz;rw[hz];exact mem_filterMap.2 ⟨i,mem_range.2 (aR hr),by rw[hr];rfl⟩
 have hzG:∀i r,less[i]?=some r->LP 0 (r,G i)=true:=λi r hr=>by
  rw[hG];split
  ·rename_i h;refine ga2 _ ?_;rw[<-hG2,pq less G2 J i2];exact mem_filterMap.2 ⟨i,contains_iff_mem.1 h,by rw[hr];rfl⟩
  ·exact hz0 i r hr
 have hk0:G k=0:=by
  obtain⟨_,o1,o2⟩:=ru.1 (hzG k _ l3);unfold bp at o2;rw[hv2 _ (ap l3)] at o2;simp at o1 o2;omega
 have hev:∀i,yE l (λi=>if i=k then (n:Int) else G i) i=yE less G i:=λi=>by
  unfold yE;by_cases e:i=k
  ·rw[e,l1,l3];show N3 (r,if k=k then (n:Int) else G k)=N3 (⟨[o],false⟩,G k);rw[t8 rfl,hk0];unfold N3;rw[ul gt,ul gt,Int.toNat_natCast,l2];rfl
  ·rw[l4 i e];simp only[ul e]
 have hE:sg (I.filterMap (l[·]?)) (I.map λi=>if i=k then (n:Int) else G i)=I.flatMap (yE less G):=by
  rw[vk l _ I i1];exact q8 λi _=>hev i
 have hJI:∀i∈J,i∈I:=hsub
 have hE2:J.flatMap (yE less G)=sg (J.filterMap (less[·]?)) ch2:=by
  rw[<-hG2,vk less _ J i2];refine q8 λi hi=>?_;unfold yE;rw[hG,t8 (contains_iff_mem.2 hi)]
 have hIJ:(I.filter λi=>J.contains i)=J:=by
  refine Perm.eq_of_pairwise (le:=(·<·)) (λa b _ _ h1 h2=>by omega) (s1.filter _) s2 ((cv (nd1.filter _) nd2).2 λi=>?_);rw[mem_filter,contains_iff_mem];exact⟨λh=>h.2,λh=>⟨hJI i h,h⟩⟩
 have hIl:∀i∈I,i<less.length:=λi hi=>by rw[l5];exact i1 i hi
 have hbound:(I.flatMap (yE less G)).length<=20000:=by
  rw[<-hE];have h1:=FU (I.filterMap (l[·]?)) (I.map λi=>if i=k then (n:Int) else G i)
  have h2:(I.filterMap (l[·]?)).length<=l.length:=by
   have:=GA l part;unfold gg at this;rw[hI] at this;exact this
  omega
 have hside:∀{S:Nat->Bool},QQ less S->∀(g:Nat->Int) (K:List Nat),∀e∈K.flatMap (yE less g),qM (qF less S) e:=λ{S} hS g K e he=>by
  obtain⟨i,_,he⟩:=mem_flatMap.1 he;obtain⟨q,hq,he⟩:=AJ he;exact(GU hS hq (hv2 _ (ap hq)) he).2
 have shutR:QQ less λi=>I.contains i&&!J.contains i:=λi j p h1 h2 h3=>by
  simp only[a8,bv] at h1 ⊢;have hm:=L.nu hv hv2;refine⟨shut1 i j p h1.1 (hm _ h2) (hm _ h3),?_⟩;cases hj:J.contains j
  ·rfl
  ·have h9:J.contains i=true:=shut2 j i p hj h3 h2;rw[h9] at h1;cases h1.2
 have hrest:(qg false c dmg0 (cL ((I.filter λi=>!J.contains i).flatMap (yE less G))) []).2=0:=by
  have hf:=f0;rw[<-hG0] at hf
  have hfe:sg less ((ci less.length).map G0)=(ci less.length).flatMap (yE less G0):=by
   have:=vk less G0 _ λi hi=>mem_range.1 hi;rw[tx] at this;exact this
  rw[hfe] at hf
  have hb0:((ci less.length).flatMap (yE less G0)).length<=20000:=by
   rw[<-hfe];have:=FU less ((ci less.length).map G0);omega
  have hs:=((lz (u:=false) (dmg:=dmg0) hc hb0 (hside shutR G0 _)).1.1 hf).1;rw[mJ shutR hv2 G0 (λA n=>A n) (λb=>b) (λ_ _=>rfl)] at hs
  have e1:((ci less.length).filter λi=>I.contains i&&!J.contains i)=I.filter λi=>!J.contains i:=by
   refine Perm.eq_of_pairwise (le:=(·<·)) (λa b _ _ h1 h2=>by omega) (List.pairwise_lt_range.filter _) (s1.filter _) ((cv (nodup_range.filter _) (nd1.filter _)).2 λi=>?_);rw[mem_filter,mem_filter,mem_range,a8,contains_iff_mem];exact⟨λh=>h.2,λh=>⟨hIl i h.1,h⟩⟩
  rw[e1] at hs;rw[<-hs]
  congr 3
  refine q8 λi hi=>?_;unfold yE;rw[hG,ul (by simpa using(mem_filter.1 hi).2)]
 have hA:=mJ shut2 hv2 G (λA n=>A n) (λb=>b) (λ_ _=>rfl) I;have hB:=mJ shut2 hv2 G nt (λb=>!b) (λ_ _=>rfl) I;rw[hIJ,hE2] at hA;have hOn:=hside shut2 G I
 have hok:(qg false c dmg0 (cL (I.flatMap (yE less G))) []).2=0:=by
  refine(lz hc hbound hOn).1.2 ⟨?_,?_⟩
  ·rw[hA];exact f2
  ·rw[hB];exact hrest
 have hgiv:gO c (I.filterMap (l[·]?)) (I.map λi=>if i=k then (n:Int) else G i) 0=true:=by
  refine fR.2 ⟨hc,by rw[hfl l I i1,al],λp hp=>?_⟩;rw[pq l _ I i1] at hp;obtain⟨i,hi,h⟩:=mem_filterMap.1 hp
  cases hr:l[i]? with
  | none=>rw[hr] at h;cases h
  | some q=>
   rw[hr] at h;cases h;by_cases e:i=k
   ·subst e;rw[l1] at hr;cases hr;rw[t8 rfl];have hvr:=hv _ (ap l1);have hn:=aR l2;refine ru.2 ?_;unfold bp;rw[hvr];simp only[Bool.true_eq_false,if_false];split<;>omega
   ·rw[ul e];exact hzG i q (by rw[l4 i e];exact hr)
 refine⟨I.map λi=>if i=k then (n:Int) else G i,(rj (dmg:=dmg0) (by unfold gg at do1;rw[hI] at do1;exact do1)).2 ⟨hgiv,by rw[hE];exact hok⟩,?_,λdmg ws co hco=>?_⟩
 ·rw[<-hG2];refine dk λi hi=>?_
  have hGi:G i=G2 i:=by rw[hG,t8 (contains_iff_mem.2 hi)]
  have hlk:∀(f:Nat->Int) (K:List Nat),i∈K->(K.zip (K.map f)).lookup i=some (f i):=λf K=>by
   induction K with
   | nil=>intro h;cases h
   | cons j K ih=>
    intro h;rw[map_cons,cb,List.lookup_cons];by_cases e:i=j
    ·subst e;rw[beq_self_eq_true]
    ·rw[beq_eq_false_iff_ne.2 e];exact ih ((rt h).resolve_left e)
  by_cases e:i=k
  ·rw[t8 e,<-hGi,e,hk0]
  ·rw[ul e,hlk _ I (hJI i hi),ul e];exact hGi
 have hg2:gO c (J.filterMap (less[·]?)) ch2 0=true:=by
  have:=g2;unfold gg at this;rw[hJ] at this;exact this
 rw[Bq hgiv,Bq hg2,hE];by_cases hcv:(j9 c&&eb dmg)=true;rotate_left
 ·unfold runN;rw[ul hcv,ul hcv];exact⟨λ_=>rfl,λ_=>rfl⟩
 unfold runN;rw[t8 hcv,t8 hcv,GM,GM];unfold fK
 have hkept:∀a b:bj,a.day<=b.day->(!gA co.day b)=true->(!gA co.day a)=true:=λa b h1 h2=>by
  unfold gA at h2 ⊢;simp only[bv,wd] at h2 ⊢;omega
 have hlf:((I.flatMap (yE less G)).filter λe=>!gA co.day e).length<=20000:=el (List.length_filter_le _ _) hbound
 have hrun:(qg true c dmg (cL ((I.flatMap (yE less G)).filter λe=>!gA co.day e)) []).2=0:=by
  rw[<-NG _ [] (Ft hc) (by rw[Cx];simpa using hlf)];have h1:=NH hkept hok
  have nodmg:∀(es:List bj) (s:List ai),qg false c dmg es s=qg false c dmg0 es s:=λes=>by
   induction es with
   | nil=>intro s;rfl
   | cons e es ih=>
    intro s;rw[qg,qg];split
    ·rw[ul λk:false=true/\_=>fd k.1,ul λk:false=true/\_=>fd k.1];exact ih _
    ·rfl
  rw[map_nil,nodmg];exact h1
 have hone:=(lz (u:=true) (dmg:=dmg) (A:=qF less λi=>J.contains i) hc hlf λe he=>hOn e (mem_filter.1 he).1).2 hrun;rw[f9] at hone
 have hsw:((I.flatMap (yE less G)).filter λe=>(qF less λi=>J.contains i) e.part&&!gA co.day e)=(sg (J.filterMap (less[·]?)) ch2).filter λe=>!gA co.day e:=by
  rw[<-hA,f9];exact List.filter_congr λe _=>Bool.and_comm _ _
 rw[hsw] at hone
 have hpart:J≠[]->qF less (λi=>J.contains i) part=true:=λhne=>by
  obtain⟨i,hi⟩:∃i,i∈J:=by
   cases J with
   | nil=>exact t7 rfl hne
   | cons i J=>exact⟨i,aS⟩
  rw[<-hJ] at hi;obtain⟨_,j,j1,_⟩:=kj.1 hi;obtain⟨q,q1,q2⟩:=qt.1 j1;refine Cv.2 ⟨j,q,contains_iff_mem.2 ?_,q1,q2⟩;rw[<-hJ];exact kj.2 ⟨aR q1,j,j1,.refl _⟩
 refine⟨λhne=>?_,λhnil=>?_⟩
 ·unfold jJ;rw[<-hone,jn (by rw[hco];exact hpart λe=>hne (by rw[e];rfl))]
 ·have hJ0:J=[]:=by
   cases J with
   | nil=>rfl
   | cons i J=>
    have:=hfl less (i::J) i2;rw[hnil] at this;simp at this
  have hno:∀i r,less[i]?=some r->¬part∈gS r:=λi r hr hp=>by
   have:i∈J:=by
    rw[<-hJ];exact kj.2 ⟨aR hr,i,qt.2 ⟨r,hr,hp⟩,.refl _⟩
   rw[hJ0] at this;cases this
  have hev0:∀e∈I.flatMap (yE less G),e.part≠part/\(e.op=2->e.aO≠part):=λe he=>by
   obtain⟨i,_,he⟩:=mem_flatMap.1 he;obtain⟨q,hq,he⟩:=AJ he;have hvq:=hv2 _ (ap hq);obtain⟨n1,n2⟩:=Ij (tw hvq he);exact⟨λk=>hno i q hq (by rw[<-k];exact(nN hvq).2 ⟨e,he,n1⟩),λh k=>hno i q hq (by rw[<-k];exact(nN hvq).2 ⟨e,he,n2 h⟩)⟩
  have h9:=(lz (u:=true) (dmg:=dmg) (A:=λnm=>decide (nm=part)) hc hlf λe he k=>by
   obtain⟨n1,n2⟩:=hev0 e (mem_filter.1 he).1
   simp only[n1,n2 k,decide_false]).2 hrun
  have hz:((I.flatMap (yE less G)).filter λe=>!gA co.day e).filter (λe=>decide (e.part=part))=[]:=List.filter_eq_nil_iff.2 λe he=>by simpa using(hev0 e (mem_filter.1 he).1).1
  rw[hz] at h9;have h8:=jn (A:=λnm=>decide (nm=part)) (name:=part) f5 (qg true c dmg (cL ((I.flatMap (yE less G)).filter λe=>!gA co.day e)) []).1;rw[h9] at h8;unfold jJ;rw[hco,<-h8];rfl
def dV.of{ws:List Wy}{co:Co}{b:kN}(h:dV ws co b)(p:List Nat):kn (jx b) p=getM 0 p b:=by
 rw[(vK b).of];have:=h.nn p;split<;>omega
def dV.sum{ws:List Wy}{co:Co}{b:kN}(h:dV ws co b):((jx b).map Sh.am).sum=(b.map (·.2)).sum/\(jx b).length<=2:=by
 have hl:=vK b
 rcases h with⟨x,h1,_,rfl⟩ | ⟨w,_,hm,x,y,h1,h2,_,rfl⟩
 ·obtain⟨a,b,_⟩:=lK.one h1 hl;exact⟨by rw[a];simp,b⟩
 ·obtain⟨a,b,_⟩:=lK.two (Ne.symm hm) h1 h2 hl;exact⟨by rw[a];simp,b⟩
def dV.YZ(h:dV ws co b):0<=(b.map (·.2)).sum/\(b.map (·.2)).sum<=co.am:=by
 rcases h with⟨x,h1,_,rfl⟩ | ⟨w,_,hm,x,y,h1,h2,_,rfl⟩
 ·simp;omega
 ·simp;omega
def dV.am{ws:List Wy}{co:Co}{b:kN}(h:dV ws co b){s:Sh}(hs:s∈jx b):0<s.am/\s.am<=co.am/\(s.pt=co.owner\/∃w∈ws,s.pt=w.cX):=by
 obtain⟨g1,g2,g3⟩:=((vK b).mem s).1 hs
 rcases h with⟨x,h1,_,rfl⟩ | ⟨w,hw,hm,x,y,h1,h2,_,rfl⟩
 ·simp only[map_cons,map_nil,ba] at g1;rw[g1] at g2 g3;simp only[getM,if_true] at g2 g3;exact⟨by omega,by omega,.inl g1⟩
 ·simp only[map_cons,map_nil,fy,ey,or_false] at g1
  rcases g1 with g1 | g1<;>rw[g1] at g2 g3<;>simp[getM,hm] at g2 g3
  ·exact⟨by omega,by omega,.inl g1⟩
  ·exact⟨by omega,by omega,.inr ⟨w,hw,g1⟩⟩
def dV.WG{ws:List Wy}{co:Co}{b:kN}(h:dV ws co b):(jx b).Pairwise λa b=>fZ a.pt b.pt=true:=(vK b).WG h.nodup
variable{bs:List kN}
def xZ(hne:bs≠[])(h:∀b∈bs,dV ws co b):dV ws co (mT bs):=by
 cases bs with
 | nil=>exact t7 rfl hne
 | cons b bs=>exact IK (h b aS) λx hx=>h x (a0 _ hx)
def Pz(h:∀x∈b::bs,dV ws co x)(p:List Nat):kn (jx (mT (b::bs))) p=(bs.map (getM 0 p)).foldl dI (getM 0 p b):=by
 rw[(xZ f5 h).of,mT,Eo λx hx=>(h x (a0 _ hx)).nn p]
def r4{own:List aN}{all:List (List Int)}(hr:eH ws co=true):∀b∈eY c dmg ws own co all,dV ws co b:=by
 intro b hb;obtain⟨ch,_,rfl⟩:=mem_map.1 hb;exact HY hr
structure KW (ws:List Wy) (co:Co) (r:List Sh×Int×Int):Prop where
 err:r.2.2≠0->r.1=[]/\r.2.1=0
 am:∀s∈r.1,0<s.am/\s.am<=co.am/\(s.pt=co.owner\/∃w∈ws,s.pt=w.cX)
 WG:r.1.Pairwise λa b=>fZ a.pt b.pt=true
 len:r.1.length<=2
 YL:r.2.2=0->0<=r.2.1/\r.2.1=co.am-(r.1.map Sh.am).sum
 sum:0<=(r.1.map Sh.am).sum/\(r.1≠[]->(r.1.map Sh.am).sum<=co.am)
 right:r.2.2=0->eH ws co=true
def KW.no{e:Int}(he:e≠0):KW ws co ([],0,e):=⟨λ_=>⟨rfl,rfl⟩,λs h=>(ey h).elim,.nil,b7 _,λh=>t7 h he,⟨by simp,λh=>t7 rfl h⟩,λh=>t7 h he⟩
def rK(c:List aF)(dmg:aX)(ws:List Wy)(l:List aN)(co:Co):KW ws co (cP c dmg ws l co):=by
 unfold cP;split
 ·exact .no gc
 rename_i hb
 have hr:eH ws co=true:=by
  unfold gL at hb;cases h:eH ws co
  ·rw[h] at hb;simp at hb
  ·rfl
 unfold za;split
 ·exact .no gc
 split
 ·rename_i h2;split
  ·exact .no gc
  ·have hne:=rZ (c:=c) (l:=gg l co.part) (most:=4096) h2;have hk:=xZ (ws:=ws) (co:=co) (bs:=eY c dmg ws (gg l co.part) co (fk c (gg l co.part) 4096).1) (by unfold eY;exact λe=>hne (map_eq_nil_iff.1 e)) (r4 hr);generalize mT _=b at hk;have hs:=hk.sum;have hv:=hk.YZ;have hx:((jx b).map Sh.am).sum=(b.map (·.2)).sum:=hs.1;refine⟨λh=>t7 rfl h,λs h=>hk.am h,hk.WG,hs.2,λ_=>⟨?_,rfl⟩,⟨by show 0<=((jx b).map Sh.am).sum;omega,λ_=>by show((jx b).map Sh.am).sum<=co.am;omega⟩,λ_=>hr⟩;show 0<=oY _ _;unfold oY;rw[hs.1];omega
 ·rename_i h2;exact .no h2
def Ly(p:List Nat):List kN->Int
 | []=>0
 | b::bs=>(bs.map (getM 0 p)).foldl dI (getM 0 p b)
def uM(hne:bs≠[])(h:∀b∈bs,dV ws co b)(p:List Nat):kn (jx (mT bs)) p=Ly p bs:=by
 cases bs with
 | nil=>exact t7 rfl hne
 | cons b bs=>exact Pz h p
def min_le:∀(xs:List Int) (x:Int),xs.foldl dI x<=x/\∀y∈xs,xs.foldl dI x<=y
 | [],_=>⟨cc _,λy h=>by cases h⟩
 | z::xs,x=>by
  obtain⟨h1,h2⟩:=min_le xs (dI x z);have hm:=vP x z;rw[bo];refine⟨cs h1 hm.1,λy hy=>?_⟩
  rcases rt hy with rfl | hy
  ·exact cs h1 hm.2
  ·exact h2 y hy
def min_mem:∀(xs:List Int) (x:Int),xs.foldl dI x=x\/xs.foldl dI x∈xs
 | [],_=>.inl rfl
 | z::xs,x=>by
  rw[bo]
  rcases min_mem xs (dI x z) with h | h
  ·rw[h];unfold dI;split
   ·exact .inl rfl
   ·exact .inr aS
  ·exact .inr (a0 _ h)
def Em{p:List Nat}(h:b∈bs):Ly p bs<=getM 0 p b:=by
 cases bs with
 | nil=>cases h
 | cons a bs=>
  obtain⟨h1,h2⟩:=min_le (bs.map (getM 0 p)) (getM 0 p a)
  rcases rt h with rfl | h
  ·exact h1
  ·exact h2 _ (cn h)
def Lz{p:List Nat}(h:bs≠[]):∃b∈bs,Ly p bs=getM 0 p b:=by
 cases bs with
 | nil=>exact t7 rfl h
 | cons a bs=>
  rcases min_mem (bs.map (getM 0 p)) (getM 0 p a) with h | h
  ·exact⟨a,aS,h⟩
  ·obtain⟨b,h1,h2⟩:=mem_map.1 h;exact⟨b,a0 _ h1,h2.symm⟩
def qx(s:Sh)(B:List Sh)(p:List Nat):kn (s::B) p=if s.pt=p then s.am else kn B p:=by
 unfold kn;rw[List.find?_cons];by_cases h:s.pt=p
 ·rw[t8 h,ut h]
 ·rw[ul h,un h]
def Gs{p:List Nat}:∀{B:List Sh},(∀s∈B,0<=s.am)->0<=kn B p
 | [],_=>cc _
 | s::B,h=>by
  rw[qx];split
  ·exact h s aS
  ·exact Gs λx hx=>h x (a0 _ hx)
def Jr{f:List Nat->Int}{q:List Nat}{a:Int}(ha:0<=a)(hf:∀p,0<=f p):∀P:List (List Nat),P.Nodup->(P.map λp=>if q=p then a else f p).sum<=a+(P.map f).sum
 | [],_=>by simpa using ha
 | p::P,h=>by
  rw[bX] at h;have ih:=Jr (q:=q) ha hf P h.2;have:=hf p;rw[map_cons,map_cons,bk,bk];by_cases e:q=p
  ·rw[t8 e,dk (g:=f) λx hx=>ul λk=>h.1 (by rw[<-e,k];exact hx)];omega
  ·rw[ul e];omega
def Sp:∀(B:List Sh),(∀s∈B,0<=s.am)->∀P:List (List Nat),P.Nodup->(P.map (kn B)).sum<=(B.map Sh.am).sum
 | [],_,P,_=>by
  have:∀P:List (List Nat),(P.map (kn [])).sum=0:=λP=>by
   induction P with
   | nil=>rfl
   | cons p P ih=>rw[map_cons,bk,ih];rfl
  rw[this];exact cc _
 | s::B,h,P,hP=>by
  have hB:∀x∈B,0<=x.am:=λx hx=>h x (a0 _ hx);have ih:=Sp B hB P hP;rw[show kn (s::B)=λp=>if s.pt=p then s.am else kn B p from funext (qx s B),map_cons,bk];have:=Jr (f:=kn B) (q:=s.pt) (h s aS) (λp=>Gs (p:=p) hB) P hP;omega
def xo(h:¬gL c dmg ws l co=true):eH ws co=true/\∀r∈l,cT r=true:=by
 unfold gL at h;simp only[g4,er,f8] at h;exact⟨h.2.1,λr hr=>by simpa using any_eq_false.1 h.2.2 r hr⟩
def CC{own:List aN}(h:(za c dmg ws own co).2.2=0):own≠[]/\(fk c own 4096).2=0/\(fk c own 4096).1.length≠4096/\(za c dmg ws own co).1=jx (mT (eY c dmg ws own co (fk c own 4096).1)):=by
 unfold za at h ⊢;split at h
 ·cases h
 rename_i h1;rw[ul h1];split at h
 ·rename_i h2;rw[t8 h2];split at h
  ·cases h
  rename_i h3;rw[ul h3];exact⟨h1,h2,h3,rfl⟩
 ·rename_i h2;exact t7 h h2
def Tz{k:Nat}(L:xe l less k n)(hlen:l.length<20000)(hf:(pC c less).2=0)(h1:(cP c dmg ws l co).2.2=0)(h2:(cP c dmg ws less co).2.2=0):
 (∀p,kn (cP c dmg ws l co).1 p<=kn (cP c dmg ws less co).1 p)/\(∀s∈(cP c dmg ws l co).1,s.am=kn (cP c dmg ws l co).1 s.pt)/\(cP c dmg ws less co).2.1<=(cP c dmg ws l co).2.1:=by
 have k1:=rK c dmg ws l co;have k2:=rK c dmg ws less co
 have key:∀p,kn (cP c dmg ws l co).1 p<=kn (cP c dmg ws less co).1 p:=λp=>by
  clear k1 k2;unfold cP at h1 h2 ⊢;split at h1
  ·cases h1
  rename_i b1;rw[ul b1];split at h2
  ·cases h2
  rename_i b2;rw[ul b2];obtain⟨hr,hv⟩:=xo b1;obtain⟨_,hv2⟩:=xo b2;obtain⟨_,a2,a3,a4⟩:=CC h1;obtain⟨e1,e2,_,e4⟩:=CC h2
  obtain⟨H,hH⟩:∃H,AN c less H=true:=by
   unfold pC at hf;split at hf
   ·rename_i h0;have hne:=rZ h0
    cases ha:(fk c less 1).1 with
    | nil=>exact t7 ha hne
    | cons x _=>exact⟨x,A9 (most:=1) (by rw[ha];exact aS)⟩
   ·rename_i h0;exact t7 hf h0
  have d1:=tb hv;have n1:=rZ a2;have n2:=rZ e2;have m1:eY c dmg ws (gg l co.part) co (fk c (gg l co.part) 4096).1≠[]:=λk=>n1 (map_eq_nil_iff.1 k);have m2:eY c dmg ws (gg less co.part) co (fk c (gg less co.part) 4096).1≠[]:=λk=>n2 (map_eq_nil_iff.1 k);rw[a4,e4,uM m1 (r4 hr),uM m2 (r4 hr)];obtain⟨b,hb,hbe⟩:=Lz (p:=p) m2;obtain⟨ch2,hc2,rfl⟩:=mem_map.1 hb;obtain⟨_,hm⟩:=mix (part:=co.part) L hv hv2 hlen hH;obtain⟨ch,m1,_,m2⟩:=hm ch2 (A9 hc2);rw[hbe,<-(m2 dmg ws co rfl).1 e1];exact Em (mem_map.2 ⟨ch,Nh (λr hr=>d1 r (rz hr)) a2 (λk=>a3 gt) m1,rfl⟩)
 have self:∀s∈(cP c dmg ws l co).1,s.am=kn (cP c dmg ws l co).1 s.pt:=by
  have:∀A:List Sh,A.Pairwise (λa b=>fZ a.pt b.pt=true)->∀s∈A,s.am=kn A s.pt:=λA=>by
   induction A with
   | nil=>intro _ s h;cases h
   | cons a A ih=>
    intro h s hs;rw[pairwise_cons] at h;rw[qx]
    rcases rt hs with rfl | hs
    ·rw[t8 rfl]
    ·have:=h.1 s hs;rw[ul λe=>by rw[e,dz] at this;cases this];exact ih h.2 s hs
  exact this _ k1.WG
 refine⟨key,self,?_⟩;rw[(k1.YL h1).2,(k2.YL h2).2];have nd:((cP c dmg ws l co).1.map Sh.pt).Nodup:=List.pairwise_map.2 (k1.WG.imp λh e=>by rw[e,dz] at h;cases h);have s1:=Sp (cP c dmg ws less co).1 (λs hs=>b8 (k2.am s hs).1) _ nd
 have s2:((cP c dmg ws l co).1.map Sh.am).sum<=(((cP c dmg ws l co).1.map Sh.pt).map (kn (cP c dmg ws less co).1)).sum:=by
  have:∀A:List Sh,(∀s∈A,s.am<=kn (cP c dmg ws less co).1 s.pt)->(A.map Sh.am).sum<=((A.map Sh.pt).map (kn (cP c dmg ws less co).1)).sum:=λA=>by
   induction A with
   | nil=>intro _;exact cc _
   | cons a A ih=>
    intro h;have h1:=h a aS;have h2:=ih λs hs=>h s (a0 _ hs);simp only[map_cons,bk] at h2 ⊢;omega
  exact this _ λs hs=>by rw[self s hs];exact key s.pt
 omega
def Jb{α:Type}[DecidableEq α]:∀{l m:List α},l.Nodup->(∀x∈l,x∈m)->l.length<=m.length
 | [],_,_,_=>b7 _
 | a::l,m,h,hm=>by
  rw[bX] at h;have ha:=hm a aS;have:=Jb (m:=m.erase a) h.2 λx hx=>(List.mem_erase_of_ne λe=>h.1 (by rw[<-e];exact hx)).2 (hm x (a0 _ hx));rw[List.length_erase_of_mem ha] at this;have:=List.length_pos_of_mem ha;rw[i7];omega
def JU{g:Nat->List (List Int)->Bool×List (List Int)}{Q:Nat->List Int->Prop}(hQ:∀{m n x},Q m x->Q n x->m=n)(hg:∀n out,∃new,(g n out).2=out++new/\new.Nodup/\∀x∈new,Q n x):∀(m s:Nat) (out:List (List Int)),∃new,(mX g m s out).2=out++new/\new.Nodup/\∀x∈new,∃n,s<=n/\Q n x
 | 0,s,out=>⟨[],(cl _).symm,.nil,λx h=>by cases h⟩
 | m+1,s,out=>by
  obtain⟨a,a1,a2,a3⟩:=hg s out;rw[mX];split
  ·obtain⟨b,b1,b2,b3⟩:=JU (g:=g) (Q:=Q) hQ hg m (s+1) (g s out).2;refine⟨a++b,by rw[b1,a1,cj],List.nodup_append.2 ⟨a2,b2,λx hx y hy e=>?_⟩,λx hx=>?_⟩
   ·subst e;obtain⟨n,n1,n2⟩:=b3 x hy;have:=hQ (a3 x hx) n2;omega
   ·rcases mem_append.1 hx with hx | hx
    ·exact⟨s,a6 _,a3 x hx⟩
    ·obtain⟨n,n1,n2⟩:=b3 x hx;exact⟨n,by omega,n2⟩
  ·exact⟨a,a1,a2,λx hx=>⟨s,a6 _,a3 x hx⟩⟩
def Ea{c:List aF}{l:List aN}{most:Int}:∀(F i:Nat) (ch:List Int) (out:List (List Int)),ch.length=l.length->∃new,(dO c l most F i ch out).2=out++new/\new.Nodup/\∀x∈new,∀j,j<i->x[j]?=ch[j]?
 | 0,_,_,_,_=>⟨[],(cl _).symm,.nil,λx h=>by cases h⟩
 | F+1,i,ch,out,hl=>by
  rw[dO];split
  ·exact⟨[],(cl _).symm,.nil,λx h=>by cases h⟩
  ·split
   ·split
    ·exact⟨[ch],rfl,by simp,λx hx=>by rw[rc hx];exact λ_ _=>rfl⟩
    ·exact⟨[],(cl _).symm,.nil,λx h=>by cases h⟩
   ·rename_i r hr;have hk:=aR hr;have hki:=(GV (ch:=ch) _ i (a6 _)).1
    obtain⟨new,h1,h2,h3⟩:=JU (Q:=λn x=>x[gD ch i]?=some (n:Int)/\∀j,j<i->x[j]?=ch[j]?) (λ{m n x} h1 h2=>by have:=Option.some.inj (h1.1.symm.trans h2.1);omega)
     (g:=λn out=>dO c l most F (gD ch i+1) (ch.set (gD ch i) n) out) (λn out=>by
      obtain⟨new,a1,a2,a3⟩:=Ea (c:=c) (l:=l) (most:=most) F (gD ch i+1) (ch.set (gD ch i) n) out (by rw[bt];exact hl);refine⟨new,a1,a2,λx hx=>⟨?_,λj hj=>?_⟩⟩
      ·rw[a3 x hx _ (go _),bZ gt]
      ·rw[a3 x hx j gt,cf gt]) (bp r).toNat 0 out
    exact⟨new,h1,h2,λx hx=>by obtain⟨n,_,h⟩:=h3 x hx;exact h.2⟩
def OH:(fk c l most).1.Nodup:=by
 unfold fk;split
 ·exact .nil
 split
 ·exact .nil
 split
 ·split
  ·exact .nil
  ·obtain⟨new,h1,h2,_⟩:=Ea (c:=c) (l:=l) (most:=most) (l.length+1) 0 (fh l) [] (by unfold fh;rw[al]);show(na c l most).2.Nodup;unfold na;rw[h1];exact h2
 ·exact .nil
def T6(hv:∀r∈l,cT r=true)(hlen:l.length<20)(h:AN c l ch=true):(fk c l 4096).2=0:=by
 have hd:=tb hv;have hg:=((rj (dmg:=.mk 0 0 []) hd).1 h).1;obtain⟨hc,hl,ha⟩:=fR.1 hg
 have hch:ft c l=0:=by
  unfold ft;rw[t8 hc,t8 (all_eq_true.2 λr hr=>?_),ul]
  ·have:jY l<=l.length:=List.countP_le_length;omega
  ·obtain⟨i,hi⟩:=List.getElem?_of_mem hr;obtain⟨n,hn⟩:∃n,ch[i]?=some n:=⟨_,jp (by have:=aR hi;omega)⟩;have:=(ru.1 (ha (r,n) (ap (i:=i) (by rw[dc];exact⟨hi,hn⟩)))).1;simp only[bv,wd];exact this
 unfold fk;rw[ul gc,ul gc,t8 hch,ul];intro h0;unfold na at h0
 have h1:(dO c l 4096 (l.length+1) 0 (fh l) []).1=true:=by
  cases ht:(dO c l 4096 (l.length+1) 0 (fh l) []).1
  ·have:=uz _ _ _ _ ht;rw[h0] at this;cases this
  ·rfl
 have:=xO hd h (l.length+1) 0 (fh l) [] (Cz hg) (λj n hj=>t7 hj (d6 _)) (b7 _) gt h1;rw[h0] at this;cases this
def M7{k:Nat}(L:xe l less k n)(hv:∀r∈l,cT r=true):∀r∈less,cT r=true:=by
 obtain⟨r,o,h1,h2,rfl⟩:=L;intro x hx
 rcases fb hx with h | rfl
 ·exact hv x h
 ·have:=tw (hv r (ap h1)) (ap h2);unfold cT oi oi;rw[this];rfl
def P1{H:List Int}(part:List Nat)(hv:∀r∈l,cT r=true)(hlen:l.length<20000)(h0:AN c l H=true):∃ch,AN c (gg l part) ch=true:=by
 have dl:=tb hv;have do1:qL (gg l part):=λr hr=>dl r (rz hr);have dmg0:aX:=.mk 0 0 [];obtain⟨g0,f0⟩:=(rj (dmg:=dmg0) dl).1 h0;obtain⟨hc,gl0,ga0⟩:=fR.1 g0;have i1:=(qn l part).2;have s1:=pI l part;have nd1:(eo l part).Nodup:=s1.imp λh=>gv h;obtain⟨G0,hG0⟩:=ND (ci l.length) H nodup_range (by rw[gd];exact gl0);have hrl:∀i∈ci l.length,i<l.length:=λi hi=>mem_range.1 hi;have hfe:=vk l G0 _ hrl;rw[tx,hG0] at hfe;have hzz:=pq l G0 _ hrl;rw[tx,hG0] at hzz;have shut:=x4 l part
 have hs:=((lz (u:=false) (dmg:=dmg0) (A:=qF l λi=>(eo l part).contains i) hc (by have:=FU l H;omega) λe he=>by
  rw[hfe] at he;obtain⟨i,_,he⟩:=mem_flatMap.1 he;obtain⟨q,hq,he⟩:=AJ he
  exact(GU shut hq (hv _ (ap hq)) he).2).1.1 f0).1
 rw[hfe,mJ shut hv G0 (λA n=>A n) (λb=>b) (λ_ _=>rfl)] at hs
 have e1:((ci l.length).filter λi=>(eo l part).contains i)=eo l part:=by
  refine Perm.eq_of_pairwise (le:=(·<·)) (λa b _ _ h1 h2=>by omega) (List.pairwise_lt_range.filter _) s1 ((cv (nodup_range.filter _) nd1).2 λi=>?_);rw[mem_filter,mem_range,contains_iff_mem];exact⟨λh=>h.2,λh=>⟨i1 i h,h⟩⟩
 rw[e1] at hs;refine⟨(eo l part).map G0,(rj (dmg:=dmg0) do1).2 ⟨fR.2 ⟨hc,?_,λp hp=>?_⟩,?_⟩⟩
 ·unfold gg;have:=n9 List.length (pq l G0 _ i1);rw[hD,al] at this
  have hle:∀K:List Nat,(∀i∈K,i<l.length)->(K.filterMap (l[·]?)).length=K.length:=λK=>by
   induction K with
   | nil=>intro _;rfl
   | cons i K ih=>
    intro h;rw[b6,jp (h i aS)];simp only[i7,ih λj hj=>h j (a0 _ hj)]
  rw[hle _ i1,al]
 ·unfold gg at hp;rw[pq l G0 _ i1] at hp;obtain⟨i,hi,h⟩:=mem_filterMap.1 hp;refine ga0 p ?_;rw[hzz];exact mem_filterMap.2 ⟨i,mem_range.2 (i1 i hi),h⟩
 ·unfold gg;rw[vk l G0 _ i1];exact hs
def tV(c:List aF)(dmg:aX)(ws:List Wy)(l:List aN)(co:Co)(p:List Nat):Int:=if (cP c dmg ws l co).2.2=0 then kn (cP c dmg ws l co).1 p else 0
def Rb{k:Nat}{p:List Nat}(L:xe l less k n)(hlen:l.length<20)(hf:(pC c less).2=0)(hp:p≠co.owner):tV c dmg ws l co p<=tV c dmg ws less co p:=by
 have nn:∀l,0<=tV c dmg ws l co p:=λl=>by
  unfold tV;split
  ·exact Gs λs hs=>b8 ((rK c dmg ws l co).am s hs).1
  ·exact cc _
 by_cases h1:(cP c dmg ws l co).2.2=0;rotate_left
 ·rw[show tV c dmg ws l co p=0 from ul h1];exact nn _
 by_cases h2:(cP c dmg ws less co).2.2=0
 ·unfold tV;rw[t8 h1,t8 h2];exact(Tz L gt hf h1 h2).1 p
 rw[show tV c dmg ws less co p=0 from ul h2];unfold tV;rw[t8 h1];unfold cP at h1 h2 ⊢;split at h1
 ·cases h1
 rename_i b1;rw[ul b1];obtain⟨hr,hv⟩:=xo b1;have hv2:=M7 L hv;obtain⟨_,_,_,_,_,_,hll⟩:=L.get
 have b2:¬gL c dmg ws less co=true:=by
  unfold gL at b1 ⊢;simp only[g4,er] at b1 ⊢;exact⟨b1.1,b1.2.1,any_eq_false.2 λr hr=>by rw[hv2 r hr];decide⟩
 rw[ul b2] at h2;obtain⟨_,a2,a3,a4⟩:=CC h1;have n1:=rZ a2;have m1:eY c dmg ws (gg l co.part) co (fk c (gg l co.part) 4096).1≠[]:=λk=>n1 (map_eq_nil_iff.1 k)
 obtain⟨H,hH⟩:∃H,AN c less H=true:=by
  unfold pC at hf;split at hf
  ·rename_i h0;have hne:=rZ h0
   cases ha:(fk c less 1).1 with
   | nil=>exact t7 ha hne
   | cons x _=>exact⟨x,A9 (most:=1) (by rw[ha];exact aS)⟩
  ·rename_i h0;exact t7 hf h0
 obtain⟨back,hm⟩:=mix (part:=co.part) L hv hv2 gt hH;obtain⟨Q,hQ⟩:=P1 co.part hv2 gt hH;have has:∀ch,AN c (gg l co.part) ch=true->ch∈(fk c (gg l co.part) 4096).1:=λch h=>Nh (λr hr=>tb hv r (rz hr)) a2 (λk=>a3 gt) h;rw[a4,uM m1 (r4 hr)]
 have hnil:gg less co.part=[]:=by
  refine Classical.byContradiction λhne=>h2 ?_;have hvo:∀r∈gg less co.part,cT r=true:=λr hr=>hv2 r (rz hr);have k2:(fk c (gg less co.part) 4096).2=0:=T6 hvo (by have:=GA less co.part;omega) hQ
  have k3:(fk c (gg less co.part) 4096).1.length≠4096:=λk=>by
   have:=Jb (l:=(fk c (gg less co.part) 4096).1) (m:=((fk c (gg l co.part) 4096).1).map back) OH λx hx=>by
    obtain⟨ch,d1,d2,_⟩:=hm x (A9 hx);exact mem_map.2 ⟨ch,has ch d1,d2⟩
   have hmost:=HQ (c:=c) (l:=gg l co.part) (most:=4096) gc;rw[al,k] at this;omega
  unfold za;rw[ul hne,t8 k2,ul k3]
 obtain⟨ch,c1,_,c2⟩:=hm _ hQ;refine cs (Em (mem_map.2 ⟨ch,has ch c1,rfl⟩)) ?_;rw[(c2 dmg ws co rfl).2 hnil];simp[getM,hp]
end Go.Proofs
namespace Go.Ev
noncomputable section
section
variable {P:Program} {ro:Option Nat} {all:List Oper} {o:Oper} {l:List Oper} {f:Fm} {S:List SO} {n d oo i:Nat} {ds:List jy} {K:eU->Prop} {x y s:Operand} {ks:List AV} {vs:List SV} {b:Option (List Nat×Nat)} {tt kt et:TypeId} {kv v w:SV} {ka k0:AV}
def aJ.ZJ(hst:eD all n [o]=true)(hop:o.op=.mapEntry tt x y)(hdst:o.dst=some d)(hw:cH all f o.guard=some true)(hx:fp f x=some (.map oo))(hy:fp f y=some kv)(hf:cU kv=some ka)(hS:S[oo]?=some (.map ks vs b))
 (hm:c9 P tt=some (kt,et)) (hkey:vI P kt ka=true) (hfd:sj P kt ka ks 0=some (some i)) (hk0:ks[i]?=some k0) (hst0:stays ka k0=true) (hv:vs[i]?=some v)
 (hk:∀(bs:List Nat) (c sb:Nat),(∀p,b=some p->(bs,c)=p)->bs[i]?=some sb->aJ P ro all l ⟨(d,.bB [v,.a (.int .i64 (e6 sb))])::f,n,S.set oo (.map (ks.set i ka) vs (some (bs,c))),ds⟩ K):aJ P ro all (o::l) ⟨f,n,S,ds⟩ K:=by
 rintro ρ0 h0 ⟨af,n',h,ds'⟩ ⟨rfl,rfl,θ,ρ,hR,hF⟩
 have hd:blt d n'=true:=by
  have:=(eR hst).1;rw[hdst] at this;exact this
 obtain⟨a,ha,kx⟩:=bE hF hx;rw[VS] at kx;subst kx;obtain⟨a2,ha2,ky⟩:=bE hF hy;have:=iS ky hf;subst this;obtain⟨_,lm,c,q1,⟨q2,qb,qp⟩,q3⟩:=hR.obj oo _ hS f7
 have hmo:h.mapOf (θ oo).id=some (lm,c):=by unfold H.mapOf;rw[q1]
 have hk0':=hk0;rw[<-q2,a7] at hk0';obtain⟨e3,he3,rfl⟩:=aq hk0';obtain⟨z,hz,kz⟩:=q3.get hv;rw[a7,he3] at hz;cases hz
 have hb:(setAt (a2,e3.2.1,e3.2.2) lm i).map (·.2.2)=lm.map (·.2.2):=by
  rw[jr];apply be;intro j;rw[bw];split
  ·rename_i e;subst e;split
   ·rw[a7,he3];rfl
   ·rename_i hl;rw[al] at hl;rw[b9 (by rw[al];omega)]
  ·rfl
 have hvv:(setAt (a2,e3.2.1,e3.2.2) lm i).map (·.2.1)=lm.map (·.2.1):=by
  rw[jr];apply be;intro j;rw[bw];split
  ·rename_i e;subst e;split
   ·rw[a7,he3];rfl
   ·rename_i hl;rw[al] at hl;rw[b9 (by rw[al];omega)]
  ·rfl
 have hrun:eS P (dy af n') h (.mapEntry tt x y)=some [(some (.bB [e3.2.1,.int .i64 (e6 e3.2.2)]),h.set (θ oo).id (.map (setAt (a2,e3.2.1,e3.2.2) lm i) c))]:=by
  rw[yP,show ev (dy af n') x=_ from ha,show ev (dy af n') y=_ from ha2];simp only[m7];unfold nM;rw[hm,m7];simp only;rw[hkey,ah,hmo,m7];simp only;rw[p6,q2,hfd,m7];simp only;rw[he3,m7,hst0,ah];rfl
 refine .v hop hdst (cE hF (dR hst hw)) rfl hd hrun ?_;refine hk (lm.map (·.2.2)) c e3.2.2 (λp hp=>ext (qp p hp).1 (qp p hp).2) (by rw[a7,he3];rfl) ρ0 h0 _ ⟨rfl,rfl,θ,ρ,hR.PJ hS ⟨by rw[jr,q2],qb.Gu hb,λp hp=>by cases hp;exact⟨hb,rfl⟩⟩ (by rw[hvv];exact q3),hF.put (fY hd) ?_⟩;rw[VS];refine⟨_,rfl,?_⟩;rw[aG];refine⟨_,_,rfl,kz,?_⟩;rw[aG];exact⟨_,_,rfl,by rw[VS],by rw[aU]⟩
def aJ.ZI{z:AV}(hst:eD all n [o]=true)(hop:o.op=.mapEntry tt x y)(hdst:o.dst=some d)(hw:cH all f o.guard=some true)(hx:fp f x=some (.map oo))(hy:fp f y=some kv)(hf:cU kv=some ka)(hS:S[oo]?=some (.map ks vs b))
 (hm:c9 P tt=some (kt,et)) (hkey:vI P kt ka=true) (hfd:sj P kt ka ks 0=some none) (hz:dE P et=some z)
 (hk:∀(bs:List Nat) (c:Nat),(∀p,b=some p->(bs,c)=p)->bs.length=ks.length->aJ P ro all l ⟨(d,.bB [.a z,.a (.int .i64 (e6 c))])::f,n,S.set oo (.map (ks++[ka]) (vs++[.a z]) (some (bs++[c],c+1))),ds⟩ K):aJ P ro all (o::l) ⟨f,n,S,ds⟩ K:=by
 rintro ρ0 h0 ⟨af,n',h,ds'⟩ ⟨rfl,rfl,θ,ρ,hR,hF⟩
 have hd:blt d n'=true:=by
  have:=(eR hst).1;rw[hdst] at this;exact this
 obtain⟨a,ha,kx⟩:=bE hF hx;rw[VS] at kx;subst kx;obtain⟨a2,ha2,ky⟩:=bE hF hy;have:=iS ky hf;subst this;obtain⟨_,lm,c,q1,⟨q2,qb,qp⟩,q3⟩:=hR.obj oo _ hS f7
 have hmo:h.mapOf (θ oo).id=some (lm,c):=by unfold H.mapOf;rw[q1]
 have hrun:eS P (dy af n') h (.mapEntry tt x y)=some [(some (.bB [z,.int .i64 (e6 c)]),h.set (θ oo).id (.map (lm++[(a2,z,c)]) (c+1)))]:=by
  rw[yP,show ev (dy af n') x=_ from ha,show ev (dy af n') y=_ from ha2];simp only[m7];unfold nM;rw[hm,m7];simp only;rw[hkey,ah,hmo,m7];simp only;rw[p6,q2,hfd,m7];simp only;rw[hz];rfl
 refine .v hop hdst (cE hF (dR hst hw)) rfl hd hrun ?_;refine hk (lm.map (·.2.2)) c (λp hp=>ext (qp p hp).1 (qp p hp).2) (by rw[al,<-q2,al]) ρ0 h0 _ ⟨rfl,rfl,θ,ρ,hR.PJ hS ⟨by rw[ca,q2];rfl,qb.snoc _ _,λp hp=>by cases hp;exact⟨by rw[ca];rfl,rfl⟩⟩ ?_,hF.put (fY hd) ?_⟩
 ·rw[ca];refine q3.app ?_;rw[map_cons,map_nil,aG];exact⟨_,[],rfl,by rw[VS],by rw[aU]⟩
 ·rw[VS];refine⟨_,rfl,?_⟩;rw[aG];refine⟨_,_,rfl,by rw[VS],?_⟩;rw[aG];exact⟨_,_,rfl,by rw[VS],by rw[aU]⟩
def DT{sb:Nat}:∀{es:List (AV×AV×Nat)} {i k:Nat},(es.map (·.2.2)).Nodup->(es.map (·.2.2))[i]?=some sb->jA sb es k=some (k+i)
 | [],i,k,_,h=>by simp at h
 | e::es,0,k,_,h=>by
  simp only[map_cons,List.getElem?_cons_zero,n8] at h;rw[jA,h,hW];rfl
 | e::es,i+1,k,hn,h=>by
  rw[map_cons,bX] at hn;have hne:¬e.2.2=sb:=λe'=>hn.1 (e'▸ap (by simpa using h))
  have:beq e.2.2 sb=false:=by
   cases hb:beq e.2.2 sb
   ·rfl
   ·exact t7 (cZ hb) hne
  rw[jA,this,ar,DT hn.2 (by simpa using h)]
  congr 1;omega
def aJ.es{sb:Nat}{bs:List Nat}{c:Nat}(hst:eD all n [o]=true)(hop:o.op=.entryStore tt x s y)(hdst:o.dst=none)(hw:cH all f o.guard=some true)(hx:fp f x=some (.map oo))(hs:fp f s=some (.a (.int .i64 (e6 sb))))(hy:fp f y=some w)(hS:S[oo]?=some (.map ks vs (some (bs,c))))
 (hi:bs[i]?=some sb) (hk:aJ P ro all l ⟨f,n,S.set oo (.map ks (vs.set i w) (some (bs,c))),ds⟩ K):aJ P ro all (o::l) ⟨f,n,S,ds⟩ K:=by
 rintro ρ0 h0 ⟨af,n',h,ds'⟩ ⟨rfl,rfl,θ,ρ,hR,hF⟩;obtain⟨a,ha,kx⟩:=bE hF hx;rw[VS] at kx;subst kx;obtain⟨a1,ha1,k1⟩:=bE hF hs;rw[VS] at k1;subst k1;obtain⟨a2,ha2,ky⟩:=bE hF hy;obtain⟨_,lm,c',q1,⟨q2,qb,qp⟩,q3⟩:=hR.obj oo _ hS f7;obtain⟨hbs,rfl⟩:=qp _ rfl;simp only at hbs
 have hmo:h.mapOf (θ oo).id=some (lm,c'):=by unfold H.mapOf;rw[q1]
 rw[<-hbs] at hi;have hba:=DT (k:=0) qb.1 hi;rw[gY] at hba;rw[a7] at hi;obtain⟨e3,he3,rfl⟩:=aq hi
 have same:∀g:AV×AV×Nat->AV×Nat,(∀e,g e=(e.1,e.2.2))->(setAt (e3.1,a2,e3.2.2) lm i).map g=lm.map g:=by
  intro g hg;rw[jr];apply be;intro j;rw[bw];split
  ·rename_i e;subst e;split
   ·rw[a7,he3];simp only[hg,m6]
   ·rename_i hl;rw[al] at hl;rw[b9 (by rw[al];omega)]
  ·rfl
 have s0:=same (λe=>(e.1,e.2.2)) λ_=>rfl
 have s1:(setAt (e3.1,a2,e3.2.2) lm i).map (·.1)=lm.map (·.1):=by
  have:=n9 (List.map fst) s0;rw[eF,eF] at this;exact this
 have s2:(setAt (e3.1,a2,e3.2.2) lm i).map (·.2.2)=lm.map (·.2.2):=by
  have:=n9 (List.map snd) s0;rw[eF,eF] at this;exact this
 have hrun:eS P (dy af n') h (.entryStore tt x s y)=some [(none,h.set (θ oo).id (.map (setAt (e3.1,a2,e3.2.2) lm i) c'))]:=by
  rw[Dn,show ev (dy af n') x=_ from ha,show ev (dy af n') s=_ from ha1,show ev (dy af n') y=_ from ha2];simp only[m7];unfold mz;simp only;rw[hmo,m7];simp only;rw[show dx (.int .i64 (e6 e3.2.2))=some e3.2.2 from od _ _,m7,hba,m7,he3];rfl
 refine .u hop hdst (cE hF (dR hst hw)) rfl hrun ?_;exact hk ρ0 h0 _ ⟨rfl,rfl,θ,ρ,hR.PJ hS ⟨by rw[s1,q2],qb.Gu s2,λp hp=>by cases hp;exact⟨by rw[s2,hbs],rfl⟩⟩ (by rw[jr];exact q3.set i ky),hF⟩
end
section
variable {P:Program} {ro:Option Nat} {all:List Oper} {o:Oper} {ol:List Oper} {f:Fm} {S:List SO} {n d oo:Nat} {ds:List jy} {Q:eU->Prop} {x y s:Operand} {tt kt et:TypeId} {K U:Type} [DecidableEq K] {kv:K->AV} {uv:U->SV} {l:List (K×U)} {k:K} {u0:U} {ky:SV} {z:AV}
def jP(kv:K->AV)(uv:U->SV)(l:List (K×U))(b:Option (List Nat×Nat)):SO:=.map (l.map λe=>kv e.1) (l.map λe=>uv e.2) b
variable{b:List Nat×Nat}
def aJ.YD{sb:Nat}{u:U}(hst:eD all n [o]=true)(hop:o.op=.entryStore tt x s y)(hdst:o.dst=none)(hw:cH all f o.guard=some true)(hx:fp f x=some (.map oo))(hs:fp f s=some (.a (.int .i64 (e6 sb))))(hy:fp f y=some (uv u))
 (hS:S[oo]?=some (jP kv uv (gE u0 k l) (some b))) (hi:b.1[Js k l]?=some sb) (hQ:aJ P ro all ol ⟨f,n,S.set oo (bu kv uv (bU k u l)),ds⟩ Q):aJ P ro all (o::ol) ⟨f,n,S,ds⟩ Q:=by
 obtain⟨p1,p2,u1,p3⟩:=P7 (u0:=u0) (l:=l) k u;refine aJ.es (w:=uv u) hst hop hdst hw hx hs hy hS hi ?_;have hlt:=aR hS;refine aJ.fg (Fg.M5 oo (by rw[bw,t8 rfl,t8 hlt])) ?_;rw[set_set]
 have e1:((gE u0 k l).map λe=>uv e.2).set (Js k l) (uv u)=(bU k u l).map λe=>uv e.2:=by rw[<-p1,g7]
 have e2:((gE u0 k l).map λe=>kv e.1)=(bU k u l).map λe=>kv e.1:=by
  rw[<-p1,g7];apply be;intro j;rw[bw];split
  ·rename_i e;subst e;rw[a7,p3];simp only[m6];rw[t8 (by rw[al];exact p2)]
  ·rfl
 rw[e1,e2];exact hQ
def pQ(b:List Nat×Nat)(k:K)(l:List (K×U)):Nat:=match qz k l 0 with
 | some i=>b.1.getD i 0
 | none=>b.2
def jF(b:List Nat×Nat)(k:K)(l:List (K×U)):List Nat×Nat:=if cz k l then b else (b.1++[b.2],b.2+1)
def ym(hb:b.1.length=l.length):(jF b k l).1[Js k l]?=some (pQ b k l):=by
 unfold jF Js pQ
 cases hp:qz k l 0 with
 | none=>
  rw[jt hp];simp only[bx,if_false];rw[eB gt,hb,em];rfl
 | some i=>
  obtain⟨_,u,h2,_,_,h5⟩:=iw hp;rw[en] at h2;rw[h5];simp only[if_true];have:=aR h2;rw[bc,jp gt];rfl
def aJ.YH(hst:eD all n [o]=true)(hop:o.op=.mapEntry tt x y)(hdst:o.dst=some d)(hw:cH all f o.guard=some true)(hx:fp f x=some (.map oo))(hy:fp f y=some ky)(hf:cU ky=some (kv k))(hS:S[oo]?=some (jP kv uv l (some b)))
 (hm:c9 P tt=some (kt,et)) (hk:Keys P kt kv) (hz:dE P et=some z) (hu:SV.a z=uv u0)
 (hQ:aJ P ro all ol ⟨(d,.bB [uv (getM u0 k l),.a (.int .i64 (e6 (pQ b k l)))])::f,n,S.set oo (jP kv uv (gE u0 k l) (some (jF b k l))),ds⟩ Q):aJ P ro all (o::ol) ⟨f,n,S,ds⟩ Q:=by
 have hfd:=nK hk k l 0
 cases hp:qz k l 0 with
 | none=>
  have hn:=jt hp;rw[hp] at hfd
  have ht:gE u0 k l=l++[(k,u0)]:=by unfold gE;rw[hn];rfl
  refine aJ.ZI hst hop hdst hw hx hy hf hS hm (hk.ck k) hfd hz λbs c he hb=>?_;have e:=he _ rfl;subst e
  have e1:pQ (bs,c) k l=c:=by unfold pQ;rw[hp]
  have e2:jF (bs,c) k l=(bs++[c],c+1):=by unfold jF;rw[hn];rfl
  rw[ht,qf hn,e1,e2] at hQ;simp only[jP,ca,map_cons,map_nil] at hQ;rw[hu];exact hQ
 | some i=>
  obtain⟨_,u,h2,h3,_,h5⟩:=iw hp;rw[en] at h2;rw[hp] at hfd
  have ht:gE u0 k l=l:=by unfold gE;rw[h5];rfl
  refine aJ.ZJ hst hop hdst hw hx hy hf hS hm (hk.ck k) hfd (k0:=kv k) (by rw[a7,h2];rfl) (hk.st k) (v:=uv u) (by rw[a7,h2];rfl) λbs c sb he hb=>?_;have e:=he _ rfl;subst e
  have e1:pQ (bs,c) k l=sb:=by unfold pQ;rw[hp];simp only;rw[bc,hb];rfl
  have e2:jF (bs,c) k l=(bs,c):=by unfold jF;rw[h5];rfl
  rw[ht,h3 u0,e1,e2] at hQ
  have hset:(l.map λe=>kv e.1).set i (kv k)=l.map λe=>kv e.1:=by
   apply be;intro j;rw[bw];split
   ·rename_i e;subst e;rw[a7,h2];simp only[m6];rw[t8 (by rw[al];exact aR h2)]
   ·rfl
  rw[hset];exact hQ
end
def aD.born{P:Program}{ro:Option Nat}{f:Fm}{S:List SO}{n:Nat}{ds:List jy}{x:Code}{Q:Ex->eU->Prop}{ks:List AV}{vs:List SV}{b:Option (List Nat×Nat)}(oo:Nat)(hS:S[oo]?=some (.map ks vs b))
 (h:∀bs c,bs.length=ks.length->aD P ro x ⟨f,n,S.set oo (.map ks vs (some (bs,c))),ds⟩ Q):aD P ro x ⟨f,n,S,ds⟩ Q:=by
 rintro ρ0 h0 ⟨af,n',hh,ds'⟩ ⟨rfl,rfl,θ,ρ,hR,hF⟩;obtain⟨_,lm,c,h1,h2,h3⟩:=hR.obj oo _ hS f7;have hR0:RS θ ρ0 ρ h0 hh (S.set oo (.map ks vs (some (lm.map (·.2.2),c)))):=hR.YP hS f7 λ_=>⟨lm,c,h1,⟨h2.1,h2.2.1,λp hp=>by cases hp;exact⟨rfl,rfl⟩⟩,h3⟩;exact h _ _ (by rw[al,<-h2.1,al]) ρ0 h0 _ ⟨rfl,rfl,θ,ρ,hR0,hF⟩
end
end Go.Ev
namespace Go.Proofs
open Go.Ev
set_option maxRecDepth 100000
abbrev Pr:=List Nat×List Nat
structure Xf where
 fr:List Nat
 to:List Nat
 am:Int
 deriving DecidableEq
def bC(t:Xf):List SV:=[ab t.fr,ab t.to,aa t.am]
def ij(p:Pr):AV:=.agg [.str p.1,.str p.2]
abbrev cV:=List (Pr×Int)
def kK(n:Int)(m:cV)(t:Xf):cV:=bU (t.fr,t.to) (getM 0 (t.fr,t.to) m+n*t.am) m
def AT(a b:Xf):Bool:=fZ a.fr b.fr||(decide (a.fr=b.fr)&&fZ a.to b.to)
def F9(a b:Xf):Bool:=!AT b a
def Pp(x:Xf):List Xf->List Xf
 | []=>[x]
 | y::l=>if F9 x y then x::y::l else y::Pp x l
def gX:List Xf->List Xf
 | []=>[]
 | x::l=>Pp x (gX l)
def W2(e:Pr×Int):Xf:=⟨e.1.1,e.1.2,e.2⟩
def ja(m:cV):List Xf:=(m.filter λe=>decide (0<e.2)).map W2
def dB(m:cV):List Xf×Int:=if m.any (λe=>decide (1000000000000<e.2)) then ([],13) else (gX (ja m),0)
def xU(x:Xf):∀l,(Pp x l).Perm (x::l)
 | []=>.refl _
 | y::l=>by
  rw[Pp];split
  ·exact .refl _
  ·exact((xU x l).cons y).trans (.swap x y l)
def eQ:∀l,(gX l).Perm l
 | []=>.refl _
 | x::l=>(xU x _).trans ((eQ l).cons x)
def Gg{k:Pr}{v:Int}:∀{m:cV} {e:Pr×Int},e∈bU k v m->e=(k,v)\/e∈m
 | [],e,h=>by unfold bU at h;exact .inl (rc h)
 | a::m,e,h=>by
  unfold bU at h;split at h
  ·rcases rt h with rfl | h
   ·exact .inl rfl
   ·exact .inr (a0 _ h)
  ·rcases rt h with rfl | h
   ·exact .inr aS
   ·exact(Gg h).imp id (a0 _)
def Gd(a b:Xf):AT a b=true\/(a.fr=b.fr/\a.to=b.to)\/AT b a=true:=by
 unfold AT
 rcases j6 a.fr b.fr with h | h | h
 ·exact .inl (by rw[h];rfl)
 ·rcases j6 a.to b.to with g | g | g
  ·exact .inl (by rw[h,g];simp)
  ·exact .inr (.inl ⟨h,g⟩)
  ·exact .inr (.inr (by rw[h,g];simp))
 ·exact .inr (.inr (by rw[h];rfl))
def tq{a b c:Xf}(h1:AT a b=true)(h2:AT b c=true):AT a c=true:=by
 unfold AT at *;simp only[f3,a8,wp] at *
 rcases h1 with h1 | ⟨e1,h1⟩<;>rcases h2 with h2 | ⟨e2,h2⟩
 ·exact .inl (fO h1 h2)
 ·exact .inl (e2▸h1)
 ·exact .inl (e1▸h2)
 ·exact .inr ⟨e1.trans e2,fO h1 h2⟩
def R9{a b:Xf}(h:a.fr=b.fr/\a.to=b.to)(c:Xf):AT a c=AT b c/\AT c a=AT c b:=by
 unfold AT;rw[h.1,h.2];exact⟨rfl,rfl⟩
def NP(a:Xf):AT a a=false:=by unfold AT;rw[dz,dz];simp
def Py(a b c:Xf)(h1:F9 a b=true)(h2:F9 b c=true):F9 a c=true:=by
 unfold F9 at *;simp only[bv] at *;cases h:AT c a
 ·rfl
 ·rcases Gd a b with g | g | g
  ·have:=tq h g;rw[h2] at this;cases this
  ·rw[(R9 g c).2,h2] at h;cases h
  ·rw[h1] at g;cases g
def Px(a b:Xf):(F9 a b||F9 b a)=true:=by
 unfold F9;cases h:AT b a
 ·rfl
 ·cases g:AT a b
  ·rfl
  ·have:=tq h g;rw[NP] at this;cases this
def R4{a b:Xf}(h1:F9 a b=true)(h2:F9 b a=true):a.fr=b.fr/\a.to=b.to:=by
 unfold F9 at h1 h2;simp only[bv] at h1 h2
 rcases Gd a b with g | g | g
 ·rw[h2] at g;cases g
 ·exact g
 ·rw[h1] at g;cases g
def yK(x:Xf):∀l,l.Pairwise (λa b=>F9 a b=true)->(Pp x l).Pairwise λa b=>F9 a b=true
 | [],_=>List.pairwise_singleton ..
 | y::l,h=>by
  obtain⟨h1,h2⟩:=pairwise_cons.1 h;rw[Pp];split
  ·rename_i g;refine pairwise_cons.2 ⟨λz hz=>?_,h⟩
   rcases rt hz with rfl | hz
   ·exact g
   ·exact Py _ _ _ g (h1 z hz)
  ·rename_i g;refine pairwise_cons.2 ⟨λz hz=>?_,yK x l h2⟩
   rcases rt ((xU x l).mem_iff.1 hz) with rfl | hz
   ·have:=Px z y;rw[show F9 z y=false by simpa using g] at this;simpa using this
   ·exact h1 z hz
def mh:∀l,(gX l).Pairwise λa b=>F9 a b=true
 | []=>.nil
 | x::l=>yK x _ (mh l)
def Dh(t:Xf):Pr:=(t.fr,t.to)
def nodup_keys{l:List Xf}(hn:(l.map Dh).Nodup){a b:Xf}(ha:a∈l)(hb:b∈l)(h:Dh a=Dh b):a=b:=by
 induction l with
 | nil=>cases ha
 | cons x l ih=>
  rw[map_cons,bX] at hn
  rcases rt ha with ha' | ha'<;>rcases rt hb with hb' | hb'
  ·rw[ha',hb']
  ·exact t7 (by rw[<-ha',h];exact cn hb') hn.1
  ·exact t7 (by rw[<-hb',<-h];exact cn ha') hn.1
  ·exact ih hn.2 ha' hb'
def sL{l q:List Xf}(hn:(l.map Dh).Nodup)(hp:q.Perm l)(hs:q.Pairwise λa b=>AT b a=false):q=gX l:=by
 have h1:q.Pairwise λa b=>F9 a b=true:=hs.imp λh=>by unfold F9;rw[h];rfl
 refine Perm.eq_of_pairwise (λa b ha hb g1 g2=>?_) h1 (mh l) (hp.trans (eQ l).symm);obtain⟨e1,e2⟩:=R4 g1 g2;exact nodup_keys hn (hp.mem_iff.1 ha) ((eQ l).mem_iff.1 hb) (ext e1 e2)
def ye(m:cV)(hn:(m.map (·.1)).Nodup):((ja m).map Dh).Nodup:=by
 have:(ja m).map Dh=(m.filter λe=>decide (0<e.2)).map (·.1):=by
  unfold ja;rw[eF];rfl
 rw[this];exact hn.sublist (List.filter_sublist.map _)
def sG{k:Pr}{v:Int}:∀{m:cV},(m.map (·.1)).Nodup->((bU k v m).map (·.1)).Nodup
 | [],_=>by unfold bU;simp
 | e::m,h=>by
  rw[map_cons,bX] at h;unfold bU;split
  ·rename_i hk;rw[map_cons,bX,hk];exact h
  ·rename_i hk;rw[map_cons,bX];refine⟨λhm=>?_,sG h.2⟩;obtain⟨x,hx,e1⟩:=mem_map.1 hm
   rcases Gg hx with rfl | hx
   ·exact hk e1
   ·exact h.1 (e1▸cn hx)
def fj(ss:List Sh)(own:List Nat)(m:cV):cV:=ss.foldl (λm y=>if y.pt=own then m else kK 1 m ⟨y.pt,own,y.am⟩) m
def gk(c:List aF)(dmg:aX)(ws:List Wy)(l:List aN)(costs:List Co)(m:cV):cV:=costs.foldl (λm co=>if (cP c dmg ws l co).2.2=0 then fj (cP c dmg ws l co).1 co.owner m else m) m
def rR(to:List Nat)(m:cV):Int:=((m.filter λe=>decide (e.1.2=to)).map (·.2)).sum
def BH(to:List Nat)(l:List Xf):Int:=((l.filter λt=>decide (t.to=to)).map Xf.am).sum
def EB(to:List Nat)(costs:List Co):Int:=((costs.filter λco=>decide (co.owner=to)&&co.ok).map Co.am).sum
def Iz(to:List Nat)(k:Pr)(v:Int):∀m:cV,rR to (bU k v m)=rR to m+(if k.2=to then v-getM 0 k m else 0)
 | []=>by
  unfold bU rR getM;by_cases h:k.2=to<;>simp[h]
 | e::m=>by
  have ih:=Iz to k v m;unfold rR at ih ⊢;rw[bU,getM];by_cases hk:k=e.1
  ·rw[t8 hk,t8 hk];by_cases h:k.2=to
   ·have h2:e.1.2=to:=by rw[<-hk];exact h
    simp only[List.filter_cons,h,h2,decide_true,if_true,List.map_cons,List.sum_cons];omega
   ·have h2:¬e.1.2=to:=by rw[<-hk];exact h
    simp only[List.filter_cons,h,h2,decide_false,Bool.false_eq_true,if_false];omega
  ·rw[ul hk,ul hk];by_cases h2:e.1.2=to
   ·simp only[List.filter_cons,h2,decide_true,if_true,List.map_cons,List.sum_cons];rw[ih];omega
   ·simp only[List.filter_cons,h2,decide_false,Bool.false_eq_true,if_false];exact ih
def RN(to:List Nat)(n:Int)(m:cV)(t:Xf):rR to (kK n m t)=rR to m+(if t.to=to then n*t.am else 0):=by
 unfold kK;rw[Iz];split<;>omega
structure KV (ws:List Wy) (costs:List Co) (m:cV):Prop where
 YC:∀e∈m,0<=e.2/\(∃w∈ws,w.cX=e.1.1)/\∃co∈costs,co.owner=e.1.2/\co.ok=true
 most:∀to,rR to m<=EB to costs
def Wx{m:cV}(h:∀e∈m,0<=e.2)(k:Pr):0<=getM 0 k m:=by
 induction m with
 | nil=>exact cc 0
 | cons a m ih=>
  rw[getM];split
  ·exact h _ aS
  ·exact ih λe he=>h e (a0 _ he)
def UH{n:Int}{m:cV}{t:Xf}{e:Pr×Int}(h:e∈kK n m t):e=((t.fr,t.to),getM 0 (t.fr,t.to) m+n*t.am)\/e∈m:=Gg h
def Ch{ws:List Wy}{costs:List Co}{co:Co}(hco:co.ok=true):∀{ss:List Sh} {m:cV},(∀s∈ss,0<s.am/\(s.pt=co.owner\/∃w∈ws,s.pt=w.cX))->(∀e∈m,0<=e.2/\(∃w∈ws,w.cX=e.1.1)/\∃x∈costs++[co],x.owner=e.1.2/\x.ok=true)->
 (∀e∈fj ss co.owner m,0<=e.2/\(∃w∈ws,w.cX=e.1.1)/\∃x∈costs++[co],x.owner=e.1.2/\x.ok=true)/\∀to,rR to (fj ss co.owner m)<=rR to m+(if co.owner=to then (ss.map Sh.am).sum else 0)
 | [],m,_,hm=>⟨hm,λto=>by show rR to m<=_;split<;>simp⟩
 | y::ss,m,hs,hm=>by
  obtain⟨h1,h2⟩:=hs y List.mem_cons_self;have hr:=λs hs'=>hs s (List.mem_cons_of_mem _ hs');by_cases hy:y.pt=co.owner
  ·have e:fj (y::ss) co.owner m=fj ss co.owner m:=by unfold fj;rw[List.foldl_cons,t8 hy]
   rw[e];obtain⟨g1,g2⟩:=Ch (costs:=costs) hco (ss:=ss) hr hm;refine⟨g1,λto=>?_⟩;have:=g2 to;rw[List.map_cons,List.sum_cons];split at this<;>rename_i hh
   ·rw[t8 hh];omega
   ·rw[ul hh];omega
  ·have e:fj (y::ss) co.owner m=fj ss co.owner (kK 1 m ⟨y.pt,co.owner,y.am⟩):=by unfold fj;rw[List.foldl_cons,ul hy]
   rw[e]
   obtain⟨g1,g2⟩:=Ch (costs:=costs) hco (ss:=ss) (m:=kK 1 m ⟨y.pt,co.owner,y.am⟩) hr (by
    intro x hx
    rcases UH hx with rfl | hx
    ·refine⟨?_,?_,co,by simp,rfl,hco⟩
     ·have:=Wx (λe he=>(hm e he).1) (y.pt,co.owner);show 0<=getM 0 (y.pt,co.owner) m+1*y.am;omega
     ·obtain⟨w,hw,e⟩:=h2.resolve_left hy;exact⟨w,hw,e.symm⟩
    ·exact hm x hx)
   refine⟨g1,λto=>?_⟩;have:=g2 to;rw[RN] at this;simp only at this;rw[List.map_cons,List.sum_cons];split at this<;>rename_i hh
   ·rw[t8 hh];omega
   ·rw[ul hh];omega
def B6(to:List Nat)(costs:List Co)(co:Co):EB to (costs++[co])=EB to costs+(if (decide (co.owner=to)&&co.ok)=true then co.am else 0):=by
 unfold EB;rw[cp,ca,List.sum_append]
 congr 1
 cases h:(decide (co.owner=to)&&co.ok)
 ·simp[bi,h]
 ·simp[bi,h]
def VX{co:Co}(h:co.ok=true):0<=co.am/\co.am<=1000000000000:=by
 unfold Co.ok Dg at h;simp only[a8,wp] at h;exact h.2.2.2
def Jn(c:List aF)(dmg:aX)(ws:List Wy)(l:List aN):∀(costs done:List Co) (m:cV),KV ws done m->KV ws (done++costs) (gk c dmg ws l costs m)
 | [],done,m,h=>by rw[cl];exact h
 | co::costs,done,m,h=>by
  have e:gk c dmg ws l (co::costs) m=gk c dmg ws l costs (if (cP c dmg ws l co).2.2=0 then fj (cP c dmg ws l co).1 co.owner m else m):=rfl;rw[e,show done++co::costs=(done++[co])++costs by simp];refine Jn c dmg ws l costs (done++[co]) _ ?_;have hs:=rK c dmg ws l co
  have hm:∀e∈m,0<=e.2/\(∃w∈ws,w.cX=e.1.1)/\∃x∈done++[co],x.owner=e.1.2/\x.ok=true:=λe he=>by
   obtain⟨a,b,x,hx,hy⟩:=h.YC e he;exact⟨a,b,x,bh _ hx,hy⟩
  split
  ·rename_i h0
   have hco:co.ok=true:=by
    have:=hs.right h0;unfold eH at this;rw[a8] at this;exact this.2
   obtain⟨g1,g2⟩:=Ch (costs:=done) hco (λs hs'=>⟨(hs.am s hs').1,(hs.am s hs').2.2⟩) hm;refine⟨g1,λto=>cs (g2 to) ?_⟩;rw[B6,hco,Bool.and_true];have h1:=h.most to;have h2:=hs.YL h0;split<;>rename_i hh
   ·rw[t8 (ut hh)];omega
   ·rw[ul (by simpa using hh)];omega
  ·refine⟨hm,λto=>?_⟩;rw[B6];have h1:=h.most to;split
   ·rename_i hh;have:=VX (co:=co) (by rw[a8] at hh;exact hh.2);omega
   ·omega
def ET(to:List Nat):∀m:cV,(∀e∈m,0<=e.2)->BH to (ja m)=rR to m
 | [],_=>rfl
 | e::m,h=>by
  have ih:=ET to m λx hx=>h x (List.mem_cons_of_mem _ hx);have h0:=h e List.mem_cons_self;unfold BH rR ja at ih ⊢;by_cases hp:0<e.2
  ·by_cases ht:e.1.2=to
   ·simp only[List.filter_cons,hp,ht,decide_true,if_true,List.map_cons,W2,List.sum_cons];rw[<-ih]
   ·simp only[List.filter_cons,hp,ht,decide_true,decide_false,if_true,List.map_cons,W2,Bool.false_eq_true,if_false];exact ih
  ·have hz:e.2=0:=by omega
   by_cases ht:e.1.2=to
   ·simp only[List.filter_cons,hp,ht,decide_true,decide_false,if_true,List.map_cons,Bool.false_eq_true,if_false,List.sum_cons,hz,Int.zero_add];exact ih
   ·simp only[List.filter_cons,hp,ht,decide_false,Bool.false_eq_true,if_false];exact ih
def SL{a b:List Int}(h:a.Perm b):a.sum=b.sum:=by
 induction h with
 | nil=>rfl
 | cons _ _ ih=>rw[bk,bk,ih]
 | swap x y l=>simp only[bk];omega
 | trans _ _ h1 h2=>exact h1.trans h2
def Pj(to:List Nat){a b:List Xf}(h:a.Perm b):BH to a=BH to b:=by
 unfold BH;exact SL ((h.filter _).map _)
def TS(c:List aF)(dmg:aX)(ws:List Wy)(l:List aN)(costs:List Co){t:Xf}(ht:t∈(dB (gk c dmg ws l costs [])).1):
 (∃w∈ws,w.cX=t.fr)/\(∃co∈costs,co.owner=t.to/\co.ok=true)/\BH t.to (dB (gk c dmg ws l costs [])).1<=EB t.to costs/\1<=t.am:=by
 have hok:KV ws costs (gk c dmg ws l costs []):=by
  have:=Jn c dmg ws l costs [] [] ⟨λe he=>(ey he).elim,λto=>cc _⟩
  rwa [nil_append] at this
 generalize gk c dmg ws l costs []=m at ht hok ⊢;unfold dB at ht ⊢;split at ht
 ·cases ht
 rename_i hb;rw[ul hb];simp only at ht ⊢;have hp:=eQ (ja m);have hm:=hp.mem_iff.1 ht;unfold ja at hm;obtain⟨e,he,rfl⟩:=mem_map.1 hm;obtain⟨he1,he2⟩:=mem_filter.1 he;have he2:=ww he2;obtain⟨_,h2,h3⟩:=hok.YC e he1;refine⟨h2,h3,?_,by show 1<=e.2;omega⟩;rw[Pj _ hp,ET _ m λe he=>(hok.YC e he).1];exact hok.most _
def Cg{own:List Nat}:∀{ss:List Sh} {m:cV},(m.map (·.1)).Nodup->((fj ss own m).map (·.1)).Nodup
 | [],_,h=>h
 | y::ss,m,h=>by
  unfold fj;rw[bo];refine Cg (ss:=ss) ?_;split
  ·exact h
  ·exact sG h
def ry{c:List aF}{dmg:aX}{ws:List Wy}{l:List aN}:∀{costs:List Co} {m:cV},(m.map (·.1)).Nodup->((gk c dmg ws l costs m).map (·.1)).Nodup
 | [],_,h=>h
 | co::costs,m,h=>by
  unfold gk;rw[bo];refine ry (costs:=costs) ?_;split
  ·exact Cg h
  ·exact h
noncomputable def io(L:Nat->Prop)(i:Nat)(x y:SO):SO:=@ite _ (L i) (Classical.propDecidable _) x y
def pF{L:Nat->Prop}{i:Nat}{x y:SO}(h:L i):io L i x y=x:=t8 h
def gy{L:Nat->Prop}{i:Nat}{x y:SO}(h:¬L i):io L i x y=y:=ul h
def bO(L:Nat->Prop)(i k:Nat)(x y:SO):io (λj=>L j\/j=i) k x y=if k=i then x else io L k x y:=by
 by_cases h:k=i
 ·rw[t8 h];exact pF (.inr h)
 ·rw[ul h];by_cases hl:L k
  ·rw[pF hl,pF (.inl hl)]
  ·rw[gy hl,gy λh'=>h'.elim hl h]
def F6(o:Nat)(L:Nat->Prop)(i:Nat)(x y:SO):cx o (io L i x y)=io L i (cx o x) (cx o y):=by
 unfold io;split<;>rfl
def E1(r:Nat->Nat)(L:Nat->Prop)(i:Nat)(x y:SO):oI r (io L i x y)=io L i (oI r x) (oI r y):=by
 unfold io;split<;>rfl
end Go.Proofs
