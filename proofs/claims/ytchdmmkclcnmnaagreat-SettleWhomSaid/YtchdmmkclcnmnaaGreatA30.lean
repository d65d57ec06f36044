/- Lemmas of this claim, each with its conditions. -/
import Derived.Test.YtchdmmkclcnmnaaGreatA29
import Derived.Test.YtchdmmkclcnmnaaGreatA19
set_option linter.all false
open Nat (ble)
open Nat renaming reduceLeDiff -> aa, reduceEqDiff -> ac, reduceAdd -> ad, reduceLT -> af, reduceMul -> al, reduceSub -> ap, le_refl -> ax, mul_one -> ay, sub_self -> be
open List renaming length_nil -> aj, length_cons -> aR, flatMap_nil -> a0, nil_append -> a1, length_map -> a2, mem_of_getElem? -> a3, replicate_succ -> a4, length_set -> a5, length_append -> a7, getElem?_eq_getElem -> a8, replicate -> a9, cons_append -> ba, length_take -> bb, append_assoc -> bd
open Option renaming bind_some -> aS, map_some -> a6
open And renaming intro -> bc
namespace Go.Proofs
open Go.Ev
set_option maxRecDepth 100000
abbrev v6:Fm:=[(1000000,.ptr 0 0),(1000001,.ptr 1 0),(1000002,.ptr 2 0),(1000003,.ptr 3 0),(1000004,.ptr 4 0),(1000005,.ptr 5 0)]
abbrev v5:Fm:=[(1000000,.ptr 0 0),(1000001,.ptr 1 0),(1000003,.ptr 3 0),(1000004,.ptr 4 0),(1000005,.ptr 5 0)]
abbrev c6(c:List aP)(l:List bu)(lc:gr):Fm:=(1,.ip [ak 3 c ao])::(2,.ip [ak 2 l aD])::(3,.ptr 3 0)::(4,.ip [.a (.fn (.yield lc.id) [] [])])::(5,.ptr 5 0)::(6,.ptr 6 0)::v6
abbrev c5(c:List aP)(l:List bu)(lc:gr):Fm:=(1,.ip [ak 3 c ao])::(2,.ip [ak 2 l aD])::(3,.ptr 3 0)::(4,.ip [.a (.fn (.yield lc.id) [] [])])::(5,.ptr 5 0)::(6,.ptr 6 0)::v5
def M3(ch:List Int):Prop:=∀n∈ch,n<0->n = -1
set_option maxHeartbeats 4000000 in
def AB(c:List aP)(l:List bu)(lc:gr)(most:Int)(hcd:sX lc)(hln:lc.n=39)(hlp:lc.ps=#[26])(hc:jD c)(hl:∀r∈l,ea r)(hlen:l.length<20)(hl0:l≠[])(hm:most<=4096):∀(F i:Nat) (ch:List Int) (out:List (List Int)),i<=l.length->l.length<F+i->ch.length=l.length->M3 ch->(out.length:Int)<most->
 SC Tryz.prog 146 [ab i,.ip [ak 3 c ao],.ip [ak 2 l aD],.ptr 3 0,.ip [.a (.fn (.yield lc.id) [] [])],.ptr 5 0] (Rx c l lc most true out ch) [2] (λr S'=>r=az (fJ c l most F i ch out).1/\S'=Rx c l lc most (fJ c l most F i ch out).1 (fJ c l most F i ch out).2 ch)
 | 0,i,ch,out,h1,h2,_,_,_=>by omega
 | F+1,i,ch,out,hi,hF,hch,hop,hout=>by
  have ih:=AB c l lc most hcd hln hlp hc hl hlen hl0 hm F;have h0:ch≠[]:=λe=>hl0 (List.length_eq_zero_iff.1 (by rw[<-hch,e];rfl));have hcl:=aJ (enc:=aA ab) (e:=1) (λ_=>rfl) ch;have hal:=cV (enc:=aA ab) (e:=1) (λ_=>rfl) ch;have hkc:=λo=>aZ (enc:=aA ab) (λ_=>rfl) o ch;have hk6:=λok=>mM 6 lc most ok (by decide);have hn6:∀n,Ev.names 6 (bn 2 1 n)=false:=λn=>cz (by decide);refine SC.rV (n:=60) dG Tryz.func146 rfl rfl (by decide) (W:=v6) rfl (Nat.le_of_ble_eq_true rfl) ?_;unfold Rx;refine zs ?_;refine ar.r0 (by rfl) (by simp only[bP,bg,ak,aw,Option.bind_some,Option.map_some,↓reduceIte,Nat.reduceEqDiff,Nat.reduceAdd,Nat.reduceMul,Nat.reduceLeDiff,Nat.reduceLT,ai,an,aU,↓lr,↓hk6,hn6,hkc,bl];first | done | rfl) ?_;refine zC ?_;refine zK (Ef c l ch hc hl hlen (by omega)) ?_ (hwk:=bp.cons (.ag (bp.refl rfl)) (.cons (.sl _ _ _) (.cons (.buf rfl (by rw[hal];exact bp.refl (aB (λ_=>rfl) ch)) (by rw[hcl];exact Nat.le_refl _)) .nil)));cases hfa:vf c l ch;rotate_left
  ·have hN:fJ c l most (F+1) i ch out=(true,out):=by rw[fJ,hfa];rfl
   refine zR ?_;refine cL ?_;rw[hN];refine ar.fg (st':=⟨(7,az true)::v6,60,Rx c l lc most true out ch,[]⟩) (bL (n2 @Rx.eq_1 @bl.eq_1)) ?_;refine ar.ret ?_
   (try simp only[fV,dS,cE,cq])
   exact⟨rfl,⟨[az true],by rfl,rfl,rfl⟩,Nat.le_refl _,(by rintro(_ | _ | _ | _ | _ | _ | i) hi2 hm2<;>first | rfl | (exfalso;omega) | (exfalso;simp only[List.length_cons,List.length_nil] at hi2;omega) | exact t8 (by simp) hm2)⟩
  refine zR ?_;refine zN ?_
  (repeat refine ar.seq ?_)
  refine ar.block (ar.loop (λm st=>∃k:Nat,(i<=k/\k<=l.length)/\nO ch k=nO ch i/\l.length-k=m/\st=⟨(c6 c l lc),60,[cP lc most true,.cells [bn 2 1 out.length],rS out,.cells [.buf 4 ch.length 1 (some ch.length)],.cells (ch.flatMap (aA ab)),.cells [bl c l lc],.cells [ab k]],[]⟩) (l.length-i) (bL @bl.eq_1) ⟨i,⟨Nat.le_refl _,hi⟩,rfl,rfl,rfl⟩ (by rintro m st ⟨k,_,_,_,rfl⟩;rfl) ?_);rintro m st ⟨k,⟨hik,hk⟩,hsk,rfl,rfl⟩;by_cases hlt:k<l.length
  ·have hkl:k<ch.length:=by omega
   obtain⟨n,hn⟩:∃n,ch[k]?=some n:=⟨ch[k],List.getElem?_eq_getElem hkl⟩
   have hcell:(ch.flatMap (aA ab))[k]?=some (ab n):=by
    have h1:((ch.flatMap (aA ab)).drop (k*1)).take 1=[ab n]:=aG (e:=1) (enc:=aA ab) (λ_=>rfl) hn;have h2:=congrArg (λl=>l[0]?) h1;simp only[List.getElem?_take,List.getElem?_drop,Nat.add_zero,Nat.mul_one] at h2;exact h2
   cases g:decide (0<=n);rotate_left
   ·refine aC (n5 (show decide ((k:Int)<(l.length:Int))=true by simp only[wr];omega) hkl hcell @Nat.mul_one g) ?_;refine eQ ?_;refine aC (p9 (show -9223372036854775808<=(k:Int)+1/\(k:Int)+1<=9223372036854775807 from⟨by omega,by omega⟩)) ?_;exact⟨l.length-(k+1),_,by omega,(bL @bl.eq_1),k+1,⟨by omega,by omega⟩,by rw[<-hsk,Mz hn (ww g)],rfl,rfl⟩
   have hk2:nO ch i=k:=by rw[<-hsk,My hn (wt g)]
   obtain⟨r,hr⟩:∃r,l[k]?=some r:=⟨l[k],List.getElem?_eq_getElem hlt⟩
   have hN:fJ c l most (F+1) i ch out=sO (λn out=>fJ c l most F (k+1) (ch.set k n) out) (bF r).toNat 0 out:=by rw[fJ,hfa,un (by decide),hk2,hr]
   refine aC (n5 (show decide ((k:Int)<(l.length:Int))=true by simp only[wr];omega) hkl hcell @Nat.mul_one g) ?_;refine dZ ?_
   (try change ar _ _ _ _ _)
   refine aC (show decide ((k:Int)=(l.length:Int))=false by simp only[wp];omega) ?_;refine zN ?_;have hn1:n = -1:=hop n (List.mem_of_getElem? hn) (by have:=wt g;omega)
   have hch0:ch.set k (-1)=ch:=by
    apply List.ext_getElem?;intro j;by_cases hj:k=j
    ·subst hj;rw[List.getElem?_set_self hkl,hn,hn1]
    ·rw[List.getElem?_set_ne hj]
   have hset:∀x y:Int,((ch.set k x).flatMap (aA ab)).take k++(ab y::((ch.set k x).flatMap (aA ab)).drop (k+1))=(ch.set k y).flatMap (aA ab):=by
    intro x y;have hs:=gB (enc:=aA ab) (e:=1) (λ_=>rfl) (l:=ch.set k x) (i:=k) y (by rw[List.length_set];exact hkl);rw[show aA ab y=[ab y] from rfl,List.cons_append,List.nil_append,Nat.mul_one,List.set_set] at hs;exact hs
   have hcl2:∀x:Int,((ch.set k x).flatMap (aA ab)).length=ch.length:=λx=>by rw[aJ (enc:=aA ab) (e:=1) (λ_=>rfl),List.length_set,Nat.mul_one]
   have hkc2:=λ(x:Int) (o:Nat)=>aZ (enc:=aA ab) (λ_=>rfl) o (ch.set k x);have hrk:ea r:=hl r (List.mem_of_getElem? hr);have hr1:=hrk.len;have hcr:=sn r;rw[hN];generalize hG:(λ(n:Nat) out=>fJ c l most F (k+1) (ch.set k (n:Int)) out)=G;generalize hFin:sO G (bF r).toNat 0 out=fin;refine zC ?_;refine aI.defer (by rfl) rfl rfl (by rfl) (by decide) rfl rfl rfl (by rfl) λa ha=>?_;change aI _ _ _ _ ⟨(7000000,_)::_,_,_,_⟩ _;refine zR ?_
   have hret:∀x:Int,Sv Tryz.prog Tryz.f146 6 [2] (λr S'=>r=az fin.1/\S'=[cP lc most fin.1,.cells [bn 2 1 fin.2.length],rS fin.2,.cells [.buf 4 ch.length 1 (some ch.length)],.cells (ch.flatMap (aA ab)),.cells [bl c l lc]]) .ret ⟨[(7,az fin.1),(1000000,.ptr 0 0),(1000001,.ptr 1 0),(1000003,.ptr 3 0),(1000004,.ptr 4 0),(1000005,.ptr 5 0),(7000000,.fn 150 [] [.ptr 3 0,.ptr 6 0])],60,[cP lc most fin.1,.cells [bn 2 1 fin.2.length],rS fin.2,.cells [.buf 4 ch.length 1 (some ch.length)],.cells ((ch.set k x).flatMap (aA ab)),.cells [bl c l lc],.cells [ab k]],[a]⟩:=by
    intro x;refine⟨rfl,((7,az fin.1)::v5),by simp only[rL,aX,Nat.reduceEqDiff,↓reduceIte,and_self],rfl,.inr ⟨150,[],[.ptr 3 0,.ptr 6 0],_,_,5,ha,rfl,Tryz.func150,rfl,rfl,by decide,?_⟩⟩;refine ar.post ?_;change ar _ _ _ ⟨[(0,.ptr 3 0),(1,.ptr 6 0),(20000007,az fin.1),(21000000,.ptr 0 0),(21000001,.ptr 1 0),(21000003,.ptr 3 0),(21000004,.ptr 4 0),(21000005,.ptr 5 0)],5,_,[]⟩ _;refine aC (n5 hkl hcl2 @Nat.mul_one (show k+1<=ch.length by omega) hset) ?_;refine⟨⟨[(20000007,az fin.1),(21000000,.ptr 0 0),(21000001,.ptr 1 0),(21000003,.ptr 3 0),(21000004,.ptr 4 0),(21000005,.ptr 5 0)],5,[cP lc most fin.1,.cells [bn 2 1 fin.2.length],rS fin.2,.cells [.buf 4 ch.length 1 (some ch.length)],.cells (ch.flatMap (aA ab)),.cells [bl c l lc]],[]⟩,(bL (n2 @bl.eq_1 hch0)),rfl,rfl,⟨[],rfl⟩,⟨[az fin.1],by rfl,rfl,rfl⟩,Nat.le_refl _,(by rintro(_ | _ | _ | _ | _ | _ | i) hi2 hm2<;>first | rfl | (exfalso;omega) | (exfalso;simp only[List.length_cons,List.length_nil] at hi2;omega) | exact t8 (by simp) hm2)⟩
   refine gG (n3 hlt (aG (e:=2) (enc:=aD) (λ_=>rfl) hr) @aD.eq_1) ?_;refine zK (iJ r hrk) ?_;refine zR ?_;rw[show(ch.flatMap (aA ab))=((ch.set k (-1)).flatMap (aA ab)) by rw[hch0]]
   (repeat refine ar.seq ?_)
   refine ar.block (ar.loop (λm st=>∃(nn:Nat) (x:Int) (o:List (List Int)),(nn<=(bF r).toNat/\sO G ((bF r).toNat-nn) nn o=fin/\(o.length:Int)<most)/\(bF r).toNat-nn=m/\st=⟨[(46,ab (bF r)),(47,ab nn),(1,.ip [ak 3 c ao]),(2,.ip [ak 2 l aD]),(3,.ptr 3 0),(4,.ip [.a (.fn (.yield lc.id) [] [])]),(5,.ptr 5 0),(6,.ptr 6 0),(1000000,.ptr 0 0),(1000001,.ptr 1 0),(1000003,.ptr 3 0),(1000004,.ptr 4 0),(1000005,.ptr 5 0),(7000000,.fn 150 [] [.ptr 3 0,.ptr 6 0])],60,[cP lc most true,.cells [bn 2 1 o.length],rS o,.cells [.buf 4 ch.length 1 (some ch.length)],.cells ((ch.set k x).flatMap (aA ab)),.cells [bl c l lc],.cells [ab k]],[a]⟩) ((bF r).toNat) (bL @bl.eq_1) ⟨0,-1,out,⟨Nat.zero_le _,hFin,hout⟩,rfl,rfl⟩ (by rintro m st ⟨_,_,_,_,_,rfl⟩;rfl) ?_);rintro m st ⟨nn,x,o,⟨hnn,htr,ho⟩,rfl,rfl⟩;by_cases hC:(nn:Int)<bF r
   ·obtain⟨s,hs⟩:∃s,(bF r).toNat-nn=s+1:=⟨(bF r).toNat-nn-1,by omega⟩;rw[hs,sO] at htr;refine aC (show decide ((nn:Int)<bF r)=true from wd hC) ?_;refine eQ ?_;refine zV ?_;refine aC (n5 hkl hcl2 @Nat.mul_one (show k+1<=ch.length by omega) hset) ?_;have hi:=ih (k+1) (ch.set k (nn:Int)) o (by omega) (by omega) (by rw[List.length_set];exact hch) (λy hy hy0=>(List.mem_or_eq_of_mem_set hy).elim (λh=>hop y h hy0) (λh=>by omega)) ho;unfold Rx at hi
    have hGn:fJ c l most F (k+1) (ch.set k (nn:Int)) o=G nn o:=by rw[<-hG]
    rw[List.length_set,hGn] at hi
    have hqlt:(G nn o).1=true->((G nn o).2.length:Int)<most:=by rw[<-hGn];exact yL F _ _ _ ho
    generalize G nn o=q at hi htr hqlt;have hrc:∀(r:Nat->Nat) (x:Int),kh r ((ch.set k x).flatMap (aA ab))=(ch.set k x).flatMap (aA ab):=λr x=>aY (aB (λ_=>rfl) _);have hbc:∀(B:Nat) (x:Int),fq B ((ch.set k x).flatMap (aA ab))=true:=λB x=>bC (aB (λ_=>rfl) _);refine gG (n2 @bl.eq_1 (p9 (show -9223372036854775808<=(k:Int)+1/\(k:Int)+1<=9223372036854775807 from⟨by omega,by omega⟩))) ?_;rw[show((k+1:Nat):Int)=(k:Int)+1 by omega] at hi;have hrl:∀(B:Nat) (ok:Bool),nk (jC [0,1,2,3,4,5] B) (cP lc most ok)=cP lc most ok:=λB ok=>Ad _ lc most ok rfl;have hbl:∀ok:Bool,kl 6 (cP lc most ok)=true:=λok=>uW 6 lc most ok (by decide);have hrn:∀(B n:Nat),fU (jC [0,1,2,3,4,5] B) (bn 2 1 n)=bn 2 1 n:=λB n=>dY _ 2 1 n
    have hbn:∀n:Nat,dI 6 (bn 2 1 n)=true:=λn=>by
     unfold bn;split
     ·exact fF rfl
     ·rfl
    refine aI.sk [0,1,2,3,4,5] (by rfl) rfl rfl (by rfl) rfl (J3 @bl.eq_1) (hi) (by simp only[ef,bg,ak,↓reduceIte,Nat.reduceEqDiff,Nat.reduceAdd,Nat.reduceSub,Nat.reduceMul,Nat.reduceLeDiff,Nat.reduceLT,hrc,hbc,↓jv,↓fZ,bl,↓hrl,↓hbl,↓hrn,↓hbn];first | done | rfl) rfl (by decide) (by simp only[sD,ef,bg,ak,hrc,hbc,↓jv,↓fZ,bl,↓hrl,↓hbl,↓hrn,↓hbn]<;>(repeat' apply And.intro)<;>first | trivial | rfl | (intro hh;cases hh)) (by simp only[xw,ef,bg,ak,Nat.reduceAdd,Nat.reduceLT,decide_true,hrc,hbc,↓jv,↓fZ,bl,↓hrl,↓hbl,↓hrn,↓hbn];first | done | rfl) (by simp only[xw,ef,bg,ak,Nat.reduceAdd,Nat.reduceLT,decide_true,hrc,hbc,↓jv,↓fZ,bl,↓hrl,↓hbl,↓hrn,↓hbn];first | done | rfl) (by simp only[ef,bg,ak,↓reduceIte,Nat.reduceEqDiff,Nat.reduceAdd,Nat.reduceSub,Nat.reduceMul,Nat.reduceLeDiff,Nat.reduceLT,hrc,hbc,↓jv,↓fZ,bl,↓hrl,↓hbl,↓hrn,↓hbn];first | done | rfl) (by simp only[ef,bg,ak,↓reduceIte,Nat.reduceEqDiff,Nat.reduceAdd,Nat.reduceSub,Nat.reduceMul,Nat.reduceLeDiff,Nat.reduceLT,hrc,hbc,↓jv,↓fZ,bl,↓hrl,↓hbl,↓hrn,↓hbn,dJ,dB,bQ,bf,bP];first | done | rfl) (by simp only[ef,bg,ak,↓reduceIte,Nat.reduceEqDiff,Nat.reduceAdd,Nat.reduceSub,Nat.reduceMul,Nat.reduceLeDiff,Nat.reduceLT,hrc,hbc,↓jv,↓fZ,bl,↓hrl,↓hbl,↓hrn,↓hbn,dJ,dB,bQ,bf,bP];first | done | rfl) ?_;refine zR ?_;cases hq1:q.1;rotate_left
    ·rw[hq1,ul rfl] at htr;refine zN ?_;refine aC (p9 (show -9223372036854775808<=(nn:Int)+1/\(nn:Int)+1<=9223372036854775807 from⟨by omega,by omega⟩)) ?_;exact⟨(bF r).toNat-(nn+1),_,by omega,(bL @bl.eq_1),nn+1,(nn:Int),q.2,⟨by omega,by rw[show(bF r).toNat-(nn+1)=s by omega];exact htr,hqlt hq1⟩,rfl,rfl⟩
    ·rw[hq1,un (by decide)] at htr;subst htr;refine cL ?_;refine ar.fg (st':=⟨[(7,az false),(1000000,.ptr 0 0),(1000001,.ptr 1 0),(1000003,.ptr 3 0),(1000004,.ptr 4 0),(1000005,.ptr 5 0),(7000000,.fn 150 [] [.ptr 3 0,.ptr 6 0])],60,[cP lc most false,.cells [bn 2 1 q.2.length],rS q.2,.cells [.buf 4 ch.length 1 (some ch.length)],.cells ((ch.set k (nn:Int)).flatMap (aA ab)),.cells [bl c l lc],.cells [ab k]],[a]⟩) (bL @bl.eq_1) ?_;refine ar.ret ?_
     (try simp only[fV,dS,cE,cq])
     rw[hch0];exact hret nn
   ·refine aC (show decide ((nn:Int)<bF r)=false from ut hC) ?_;refine dZ ?_
    (try change ar _ _ _ _ _)
    rw[show(bF r).toNat-nn=0 by omega,sO] at htr;refine zV ?_;subst htr;refine ar.fg (st':=⟨[(7,az true),(1000000,.ptr 0 0),(1000001,.ptr 1 0),(1000003,.ptr 3 0),(1000004,.ptr 4 0),(1000005,.ptr 5 0),(7000000,.fn 150 [] [.ptr 3 0,.ptr 6 0])],60,[cP lc most true,.cells [bn 2 1 o.length],rS o,.cells [.buf 4 ch.length 1 (some ch.length)],.cells ((ch.set k x).flatMap (aA ab)),.cells [bl c l lc],.cells [ab k]],[a]⟩) (bL @bl.eq_1) ?_;refine ar.ret ?_
    (try simp only[fV,dS,cE,cq])
    rw[hch0];exact hret x
  obtain rfl:k=l.length:=by omega
  have hk2:nO ch i=l.length:=by rw[<-hsk,Mx (by omega)]
  have hN:fJ c l most (F+1) i ch out=if Px c l ch=true then (!(decide ((out.length:Int)+1=most)),out++[ch]) else (true,out):=by rw[fJ,hfa,un (by decide),hk2,List.getElem?_eq_none (Nat.le_refl _)]
  refine aC (show decide ((l.length:Int)<(l.length:Int))=false by simp) ?_;refine dZ ?_
  (try change ar _ _ _ _ _)
  refine aC (show decide ((l.length:Int)=(l.length:Int))=true by simp) ?_;refine zY ?_
  (repeat refine ar.seq ?_)
  have hv0:∀(i:Nat) (v:SV),vo (λ_=>False) i v=.any:=λi v=>qX λh=>h;have hv9:∀(i:Nat),i<9->∀v:SV,vo (λj=>j<9) i v=v:=λi h v=>dq h;cases hb:Px c l ch
  ·rw[hb,un (by decide)] at hN;refine ar.wL 9 12 (λL=>⟨(30,vo L 0 (.ag [ak 3 c ao]))::(31,vo L 1 (ak 2 l aD))::(32,vo L 2 (.buf 4 ch.length 1 (some ch.length)))::(33,vo L 3 (az false))::(34,vo L 4 (az (!false)))::(35,vo L 5 (az (!false)))::(36,vo L 6 (.a kn))::(37,vo L 7 (.a kn))::(38,vo L 8 (.a kn))::c6 c l lc,60,[cP lc most true,.cells [bn 2 1 out.length],rS out,.cells [.buf 4 ch.length 1 (some ch.length)],.cells (ch.flatMap (aA ab)),.cells [bl c l lc],.cells [ab l.length]],[]⟩) rfl (by kernel_rfl) (by rfl) (by decide) (by kernel_rfl) (bL (n2 @bl.eq_1 hv0)) (λL=>rfl) ?_ ?_
   ·rintro L i o him hC hr
    rcases i with _ | _ | _ | _ | _ | _ | _ | _ | _ | i
    rotate_right
    ·exact t8 him (by omega)
    ·cases hr.fE;refine zR ?_;exact(bL (n2 @bl.eq_1 @aO))
    ·cases hr.fE;refine zR ?_;exact(bL (n2 @bl.eq_1 @aO))
    ·cases hr.fE;refine zR ?_;exact(bL (n2 @bl.eq_1 @aO))
    ·cases hr.fE;have d0:L 0:=hr.dep ⟨0,.data⟩ (by simp) rfl;have d1:L 1:=hr.dep ⟨1,.data⟩ (by simp) rfl;have d2:L 2:=hr.dep ⟨2,.data⟩ (by simp) rfl;have his:=CJ c l ch hc hl hlen (by omega);rw[hb] at his;refine zK his ?_ (hc:=J3 (n3 (dP d0) (dP d1) (dP d2))) (hwk:=bp.cons (.ag (bp.refl rfl)) (.cons (.sl _ _ _) (.cons (.buf rfl (by rw[hal];exact bp.refl (aB (λ_=>rfl) ch)) (by rw[hcl];exact Nat.le_refl _)) .nil)));refine .nil ?_;exact(bL (n5 @bl.eq_1 @aO (dP d0) (dP d1) (dP d2)))
    ·cases hr.fE;have d3:L 3:=hr.dep ⟨3,.data⟩ (by simp) rfl;refine cM (dP d3) ?_;exact(bL (n3 @bl.eq_1 @aO (dP d3)))
    ·cases hr.fE;have d4:L 4:=hr.dep ⟨4,.data⟩ (by simp) rfl;refine cM (dP d4) ?_;exact(bL (n3 @bl.eq_1 @aO (dP d4)))
    ·cases hr.fE;have d5:L 5:=hr.dep ⟨5,.guard⟩ (by simp) rfl;refine cM (dP d5) ?_;exact(bL (n3 @bl.eq_1 @aO (dP d5)))
    ·cases hr.fE;have d5:L 5:=hr.dep ⟨5,.guard⟩ (by simp) rfl;refine cM (dP d5) ?_;exact(bL (n3 @bl.eq_1 @aO (dP d5)))
    ·cases hr.fE;have d5:L 5:=hr.dep ⟨5,.guard⟩ (by simp) rfl;have d7:L 7:=hr.dep ⟨7,.data⟩ (by simp) rfl;refine cM (n2 (dP d5) (dP d7)) ?_;exact(bL (n4 @bl.eq_1 @aO (dP d5) (dP d7)))
   ·change aI _ _ _ _ _ _;refine aI.fg (st':=⟨(35,az true)::v6,60,[cP lc most true,.cells [bn 2 1 out.length],rS out,.cells [.buf 4 ch.length 1 (some ch.length)],.cells (ch.flatMap (aA ab)),.cells [bl c l lc],.cells [ab l.length]],[]⟩) (bL (n2 @bl.eq_1 (hv9 5 (by decide)))) ?_;refine zR ?_;change aI _ _ _ _ _ _;refine zR ?_;change aI _ _ _ _ _ _;refine zR ?_;rw[hN];refine ar.fg (st':=⟨(7,az true)::v6,60,[cP lc most true,.cells [bn 2 1 out.length],rS out,.cells [.buf 4 ch.length 1 (some ch.length)],.cells (ch.flatMap (aA ab)),.cells [bl c l lc]],[]⟩) (bL @bl.eq_1) ?_;refine ar.ret ?_
    (try simp only[fV,dS,cE,cq])
    exact⟨rfl,⟨[az true],by rfl,rfl,rfl⟩,Nat.le_refl _,(by rintro(_ | _ | _ | _ | _ | _ | i) hi2 hm2<;>first | rfl | (exfalso;omega) | (exfalso;simp only[List.length_cons,List.length_nil] at hi2;omega) | exact t8 (by simp) hm2)⟩
  ·rw[hb,ul rfl] at hN;refine ar.wL 9 12 (λL=>⟨(30,vo L 0 (.ag [ak 3 c ao]))::(31,vo L 1 (ak 2 l aD))::(32,vo L 2 (.buf 4 ch.length 1 (some ch.length)))::(33,vo L 3 (az true))::(34,vo L 4 (az (!true)))::(35,vo L 5 (az (!true)))::(36,vo L 6 (.a (.fn (.yield lc.id) [] [])))::(37,vo L 7 (.buf 4 ch.length 1 (some ch.length)))::(38,vo L 8 (ak 1 ch (aA ab)))::c6 c l lc,60,[cP lc most true,.cells [bn 2 1 out.length],rS out,.cells [.buf 4 ch.length 1 (some ch.length)],.cells (ch.flatMap (aA ab)),.cells [bl c l lc],.cells [ab l.length]],[]⟩) rfl (by kernel_rfl) (by rfl) (by decide) (by kernel_rfl) (bL (n2 @bl.eq_1 hv0)) (λL=>rfl) ?_ ?_
   ·rintro L i o him hC hr
    rcases i with _ | _ | _ | _ | _ | _ | _ | _ | _ | i
    rotate_right
    ·exact t8 him (by omega)
    ·cases hr.fE;refine zR ?_;exact(bL (n2 @bl.eq_1 @aO))
    ·cases hr.fE;refine zR ?_;exact(bL (n2 @bl.eq_1 @aO))
    ·cases hr.fE;refine zR ?_;exact(bL (n2 @bl.eq_1 @aO))
    ·cases hr.fE;have d0:L 0:=hr.dep ⟨0,.data⟩ (by simp) rfl;have d1:L 1:=hr.dep ⟨1,.data⟩ (by simp) rfl;have d2:L 2:=hr.dep ⟨2,.data⟩ (by simp) rfl;have his:=CJ c l ch hc hl hlen (by omega);rw[hb] at his;refine zK his ?_ (hc:=J3 (n3 (dP d0) (dP d1) (dP d2))) (hwk:=bp.cons (.ag (bp.refl rfl)) (.cons (.sl _ _ _) (.cons (.buf rfl (by rw[hal];exact bp.refl (aB (λ_=>rfl) ch)) (by rw[hcl];exact Nat.le_refl _)) .nil)));refine .nil ?_;exact(bL (n5 @bl.eq_1 @aO (dP d0) (dP d1) (dP d2)))
    ·cases hr.fE;have d3:L 3:=hr.dep ⟨3,.data⟩ (by simp) rfl;refine cM (dP d3) ?_;exact(bL (n3 @bl.eq_1 @aO (dP d3)))
    ·cases hr.fE;have d4:L 4:=hr.dep ⟨4,.data⟩ (by simp) rfl;refine cM (dP d4) ?_;exact(bL (n3 @bl.eq_1 @aO (dP d4)))
    ·cases hr.fE;have d5:L 5:=hr.dep ⟨5,.guard⟩ (by simp) rfl;refine cM (dP d5) ?_;exact(bL (n3 @bl.eq_1 @aO (dP d5)))
    ·cases hr.fE;have d5:L 5:=hr.dep ⟨5,.guard⟩ (by simp) rfl;refine cM (dP d5) ?_;exact(bL (n3 @bl.eq_1 @aO (dP d5)))
    ·cases hr.fE;have d5:L 5:=hr.dep ⟨5,.guard⟩ (by simp) rfl;have d7:L 7:=hr.dep ⟨7,.data⟩ (by simp) rfl;have hn8:¬L 8:=hr.new;have hrc0:∀r:Nat->Nat,kh r (ch.flatMap (aA ab))=ch.flatMap (aA ab):=λr=>aY (aB (λ_=>rfl) _);have hbc0:∀B:Nat,fq B (ch.flatMap (aA ab))=true:=λB=>bC (aB (λ_=>rfl) _);have hkl7:=λok=>mM 7 lc most ok (by decide);have hn7:∀n,Ev.names 7 (bn 2 1 n)=false:=λn=>cz (by decide);have hcp:=Ed ch h0 (by omega) (some ch.length);refine aI.fg (st':=⟨(30,vo L 0 (.ag [ak 3 c ao]))::(31,vo L 1 (ak 2 l aD))::(32,vo L 2 (.buf 4 ch.length 1 (some ch.length)))::(33,vo L 3 (az true))::(34,vo L 4 (az (!true)))::(35,az false)::(36,vo L 6 (.a (.fn (.yield lc.id) [] [])))::(37,(.buf 4 ch.length 1 (some ch.length)))::c6 c l lc,60,[cP lc most true,.cells [bn 2 1 out.length],rS out,.cells [.buf 4 ch.length 1 (some ch.length)],.cells (ch.flatMap (aA ab)),.cells [bl c l lc],.cells [ab l.length]],[]⟩) (bL (n3 @bl.eq_1 (dP d5) (dP d7))) ?_;refine aI.sk [4] (by rfl) rfl rfl (by rfl) rfl (J3 @ak.eq_1) (hcp) (by simp only[ef,bg,ak,↓reduceIte,Nat.reduceEqDiff,Nat.reduceAdd,Nat.reduceSub,Nat.reduceMul,Nat.reduceLeDiff,Nat.reduceLT,hrc0,hbc0,cu,↓lr,↓hkl7,hn7,bl,hkc,List.length_nil,List.flatMap_nil];first | done | rfl) rfl (by decide) (by simp only[sD,ef,bg,ak,hrc0,hbc0,cu,↓lr,↓hkl7,hn7,bl,hkc,List.length_nil,List.flatMap_nil]<;>(repeat' apply And.intro)<;>first | trivial | rfl | (intro hh;cases hh)) (by simp only[xw,ef,bg,ak,Nat.reduceAdd,Nat.reduceLT,decide_true,hrc0,hbc0,cu,↓lr,↓hkl7,hn7,bl,hkc,List.length_nil,List.flatMap_nil];first | done | rfl) (by simp only[xw,ef,bg,ak,Nat.reduceAdd,Nat.reduceLT,decide_true,hrc0,hbc0,cu,↓lr,↓hkl7,hn7,bl,hkc,List.length_nil,List.flatMap_nil];first | done | rfl) (by simp only[ef,bg,ak,↓reduceIte,Nat.reduceEqDiff,Nat.reduceAdd,Nat.reduceSub,Nat.reduceMul,Nat.reduceLeDiff,Nat.reduceLT,hrc0,hbc0,cu,↓lr,↓hkl7,hn7,bl,hkc,List.length_nil,List.flatMap_nil];first | done | rfl) (by simp only[ef,bg,ak,↓reduceIte,Nat.reduceEqDiff,Nat.reduceAdd,Nat.reduceSub,Nat.reduceMul,Nat.reduceLeDiff,Nat.reduceLT,hrc0,hbc0,cu,↓lr,↓hkl7,hn7,bl,hkc,List.length_nil,List.flatMap_nil,dJ,dB,bQ,bf,bP];first | done | rfl) (by simp only[ef,bg,ak,↓reduceIte,Nat.reduceEqDiff,Nat.reduceAdd,Nat.reduceSub,Nat.reduceMul,Nat.reduceLeDiff,Nat.reduceLT,hrc0,hbc0,cu,↓lr,↓hkl7,hn7,bl,hkc,List.length_nil,List.flatMap_nil,dJ,dB,bQ,bf,bP];first | done | rfl) ?_;refine .nil ?_;refine Fg.trans (Fg.freeze (f':=(38,ak 1 ch (aA ab))::(30,vo L 0 (.ag [ak 3 c ao]))::(31,vo L 1 (ak 2 l aD))::(32,vo L 2 (.buf 4 ch.length 1 (some ch.length)))::(33,vo L 3 (az true))::(34,vo L 4 (az (!true)))::(35,az false)::(36,vo L 6 (.a (.fn (.yield lc.id) [] [])))::(37,(.buf 4 ch.length 1 (some ch.length)))::c6 c l lc) 7 rfl (λh=>by cases h) ⟨.inr (by rw[lM 1 ch (aA ab)];exact .buf rfl (by rw[hal];exact bp.refl (aB (λ_=>rfl) ch)) (by rw[hcl];exact Nat.le_refl _)),.inl rfl,.inl rfl,.inl rfl,.inl rfl,.inl rfl,.inl rfl,.inl rfl,.inl rfl,.inl rfl,.inl rfl,.inl rfl,.inl rfl,.inl rfl,.inl rfl,.inl rfl,.inl rfl,.inl rfl,.inl rfl,.inl rfl,.inl rfl,trivial⟩) (bL (n4 @bl.eq_1 @aO (dP d5) (dP d7)))
   ·change aI _ _ _ _ _ _;refine aI.fg (st':=⟨(35,az false)::(36,.a (.fn (.yield lc.id) [] []))::(38,ak 1 ch (aA ab))::v6,60,[cP lc most true,.cells [bn 2 1 out.length],rS out,.cells [.buf 4 ch.length 1 (some ch.length)],.cells (ch.flatMap (aA ab)),.cells [bl c l lc],.cells [ab l.length]],[]⟩) (bL (n4 @bl.eq_1 (hv9 5 (by decide)) (hv9 6 (by decide)) (hv9 8 (by decide)))) ?_;refine aI.y (vs:=[ak 1 ch (aA ab)]) (oo:=0) (by rfl) rfl rfl (by rfl) rfl rfl rfl (by rfl) rfl (by rw[hlp];rfl) (by rw[hln];rfl) (by rw[hln];decide) (by rw[hlp,hln];rfl) λro'=>?_;have hcd2:=hcd;unfold sX at hcd2;rw[Tryz.func53] at hcd2;have hcd3:=Option.some.inj (hcd2.symm.trans (by rfl));obtain⟨ha,hbb⟩:=Prod.mk.inj hcd3;rw[ha,hlp,hln];change ar _ _ _ ⟨[(26,ak 1 ch (aA ab)),(5,.ip [ab most]),(9,.ptr 1 0),(20000035,az false),(20000036,.a (.fn (.yield lc.id) [] [])),(20000038,ak 1 ch (aA ab)),(21000000,.ptr 0 0),(21000001,.ptr 1 0),(21000002,.ptr 2 0),(21000003,.ptr 3 0),(21000004,.ptr 4 0),(21000005,.ptr 5 0)],39,[cP lc most true,.cells [bn 2 1 out.length],rS out,.cells [.buf 4 ch.length 1 (some ch.length)],.cells (ch.flatMap (aA ab)),.cells [bl c l lc],.cells [ab l.length]],[]⟩ _;refine zV ?_;refine⟨rfl,0,none,[(5,.ip [ab most]),(9,.ptr 1 0)],rfl,?_⟩;rw[hbb];refine zB ?_;change ar _ _ _ ⟨_,39,[.loop lc .busy none [(5,.ip [ab most]),(9,.ptr 1 0)],.cells [bn 2 1 out.length],rS out,.cells [.buf 4 ch.length 1 (some ch.length)],.cells (ch.flatMap (aA ab)),.cells [bl c l lc],.cells [ab l.length]],[]⟩ _;have hrc0:∀r:Nat->Nat,kh r (ch.flatMap (aA ab))=ch.flatMap (aA ab):=λr=>aY (aB (λ_=>rfl) _);by_cases ho:out=[]
    ·subst ho;have e1:bn 2 1 [ch].length=.buf 2 1 1 none:=rfl;have e2:rS [ch]=.cells (fX ch):=rfl;rw[DG,show bn 2 1 ([]:List (List Int)).length=cN from rfl];refine aC (n2 hkc @bl.eq_1) ?_;cases hmo:decide ((1:Int)=most)
     ·have hN:fJ c l most (F+1) i ch []=(true,[]++[ch]):=by rw[hN];show(!(decide ((0:Int)+1=most)),_)=_;rw[show((0:Int)+1)=1 from rfl,hmo];rfl
      refine aC (show decide (((1:Nat):Int)=most)=false from hmo) ?_;refine zN ?_;refine⟨rfl,0,.busy,none,[(5,.ip [ab most]),(9,.ptr 1 0)],rfl,?_⟩;simp only[uM,laid,Nat.reduceLeDiff,Nat.reduceSub,↓reduceIte];refine aI.fg (st':=⟨(39,az true)::(35,az false)::v5,60,[cP lc most true,.cells [.buf 2 1 1 none],.cells (fX ch),.cells [.buf 4 ch.length 1 (some ch.length)],.cells (ch.flatMap (aA ab)),.cells [bl c l lc],.cells [ab l.length]],[]⟩) (Fg.rn (f':=(39,az true)::(35,az false)::v5) (n:=60) (S':=[cP lc most true,.cells [.buf 2 1 1 none],.cells (fX ch),.cells [.buf 4 ch.length 1 (some ch.length)],.cells (ch.flatMap (aA ab)),.cells [bl c l lc],.cells [ab l.length]]) [0,1,8,3,4,5,6] (by decide) rfl (HY (n8 @cP.eq_1 @bl.eq_1 hrc0 @fX.eq_1 @vd.eq_1 @vb.eq_1 @vc.eq_1 @uM.eq_1)) (HZ (n8 @cP.eq_1 @bl.eq_1 hrc0 @fX.eq_1 @vd.eq_1 @vb.eq_1 @vc.eq_1 @uM.eq_1))) ?_;refine .nil ?_;change aI _ _ _ _ _ _;refine zR ?_;change aI _ _ _ _ _ _;refine zR ?_;rw[hN];simp only[List.nil_append,e1,e2];refine ar.fg (st':=⟨(7,az true)::v5,60,[cP lc most true,.cells [.buf 2 1 1 none],.cells (fX ch),.cells [.buf 4 ch.length 1 (some ch.length)],.cells (ch.flatMap (aA ab)),.cells [bl c l lc]],[]⟩) (bL @bl.eq_1) ?_;refine ar.ret ?_
      (try simp only[fV,dS,cE,cq])
      exact⟨rfl,⟨[az true],by rfl,rfl,rfl⟩,Nat.le_refl _,(by rintro(_ | _ | _ | _ | _ | _ | i) hi2 hm2<;>first | rfl | (exfalso;omega) | (exfalso;simp only[List.length_cons,List.length_nil] at hi2;omega) | exact t8 (by simp) hm2)⟩
     ·have hN:fJ c l most (F+1) i ch []=(false,[]++[ch]):=by rw[hN];show(!(decide ((0:Int)+1=most)),_)=_;rw[show((0:Int)+1)=1 from rfl,hmo];rfl
      refine aC (show decide (((1:Nat):Int)=most)=true from hmo) ?_
      (repeat refine ar.seq ?_)
      refine ar.yes rfl ?_;refine ar.exit ?_;refine⟨rfl,0,.busy,none,[(5,.ip [ab most]),(9,.ptr 1 0)],rfl,?_⟩;simp only[uM,laid,Nat.reduceLeDiff,Nat.reduceSub,↓reduceIte];refine aI.fg (st':=⟨(39,az false)::(35,az false)::v5,60,[cP lc most false,.cells [.buf 2 1 1 none],.cells (fX ch),.cells [.buf 4 ch.length 1 (some ch.length)],.cells (ch.flatMap (aA ab)),.cells [bl c l lc],.cells [ab l.length]],[]⟩) (Fg.rn (f':=(39,az false)::(35,az false)::v5) (n:=60) (S':=[cP lc most false,.cells [.buf 2 1 1 none],.cells (fX ch),.cells [.buf 4 ch.length 1 (some ch.length)],.cells (ch.flatMap (aA ab)),.cells [bl c l lc],.cells [ab l.length]]) [0,1,8,3,4,5,6] (by decide) rfl (HY (n8 @cP.eq_1 @bl.eq_1 hrc0 @fX.eq_1 @vd.eq_1 @vb.eq_1 @vc.eq_1 @uM.eq_1)) (HZ (n8 @cP.eq_1 @bl.eq_1 hrc0 @fX.eq_1 @vd.eq_1 @vb.eq_1 @vc.eq_1 @uM.eq_1))) ?_;refine .nil ?_;change aI _ _ _ _ _ _;refine zR ?_;change aI _ _ _ _ _ _;refine zR ?_;rw[hN];simp only[List.nil_append,e1,e2];refine ar.fg (st':=⟨(7,az false)::v5,60,[cP lc most false,.cells [.buf 2 1 1 none],.cells (fX ch),.cells [.buf 4 ch.length 1 (some ch.length)],.cells (ch.flatMap (aA ab)),.cells [bl c l lc]],[]⟩) (bL @bl.eq_1) ?_;refine ar.ret ?_
      (try simp only[fV,dS,cE,cq])
      exact⟨rfl,⟨[az false],by rfl,rfl,rfl⟩,Nat.le_refl _,(by rintro(_ | _ | _ | _ | _ | _ | i) hi2 hm2<;>first | rfl | (exfalso;omega) | (exfalso;simp only[List.length_cons,List.length_nil] at hi2;omega) | exact t8 (by simp) hm2)⟩
    ·have hk1:¬out.length=0:=λh=>ho (List.length_eq_zero_iff.1 h)
     have e1:bn 2 1 (out++[ch]).length=.buf 2 (out.length+1) 1 none:=by rw[List.length_append];exact bV (by simp)
     have e2:rS (out++[ch])=.cells ((out++[ch]).flatMap fX):=On (by simp);have hcl3:=aJ ra out;have hkc3:=λo=>aZ mu o out;have happ:=eh ra mu 2 out ch;rw[show fX ch=[ak 1 ch (aA ab)] from rfl,Nat.mul_one] at happ;simp only[ak] at happ;rw[On ho,bV hk1];rw[Nat.mul_one] at hcl3;refine aC (n8 hkc hkc3 @bl.eq_1 hcl3 @Nat.mul_one (show out.length<=1000000 by omega) @Nat.le_refl happ) ?_;cases hmo:decide ((out.length:Int)+1=most)
     ·have hN:fJ c l most (F+1) i ch out=(true,out++[ch]):=by rw[hN,hmo];rfl
      refine aC (n2 hmo @dr) ?_;refine zN ?_;refine⟨rfl,0,.busy,none,[(5,.ip [ab most]),(9,.ptr 1 0)],rfl,?_⟩;simp only[uM,laid,Nat.reduceLeDiff,Nat.reduceSub,↓reduceIte];refine aI.fg (st':=⟨(39,az true)::(35,az false)::v5,60,[cP lc most true,.cells [.buf 2 (out.length+1) 1 none],.cells ((out++[ch]).flatMap fX),.cells [.buf 4 ch.length 1 (some ch.length)],.cells (ch.flatMap (aA ab)),.cells [bl c l lc],.cells [ab l.length]],[]⟩) (bL (n6 @bl.eq_1 @cP.eq_1 @uM.eq_1 @vd.eq_1 @vb.eq_1 @vc.eq_1)) ?_;refine .nil ?_;change aI _ _ _ _ _ _;refine zR ?_;change aI _ _ _ _ _ _;refine zR ?_;rw[hN];simp only[e1,e2];refine ar.fg (st':=⟨(7,az true)::v5,60,[cP lc most true,.cells [.buf 2 (out.length+1) 1 none],.cells ((out++[ch]).flatMap fX),.cells [.buf 4 ch.length 1 (some ch.length)],.cells (ch.flatMap (aA ab)),.cells [bl c l lc]],[]⟩) (bL @bl.eq_1) ?_;refine ar.ret ?_
      (try simp only[fV,dS,cE,cq])
      exact⟨rfl,⟨[az true],by rfl,rfl,rfl⟩,Nat.le_refl _,(by rintro(_ | _ | _ | _ | _ | _ | i) hi2 hm2<;>first | rfl | (exfalso;omega) | (exfalso;simp only[List.length_cons,List.length_nil] at hi2;omega) | exact t8 (by simp) hm2)⟩
     ·have hN:fJ c l most (F+1) i ch out=(false,out++[ch]):=by rw[hN,hmo];rfl
      refine aC (n2 hmo @dr) ?_
      (repeat refine ar.seq ?_)
      refine ar.yes rfl ?_;refine ar.exit ?_;refine⟨rfl,0,.busy,none,[(5,.ip [ab most]),(9,.ptr 1 0)],rfl,?_⟩;simp only[uM,laid,Nat.reduceLeDiff,Nat.reduceSub,↓reduceIte];refine aI.fg (st':=⟨(39,az false)::(35,az false)::v5,60,[cP lc most false,.cells [.buf 2 (out.length+1) 1 none],.cells ((out++[ch]).flatMap fX),.cells [.buf 4 ch.length 1 (some ch.length)],.cells (ch.flatMap (aA ab)),.cells [bl c l lc],.cells [ab l.length]],[]⟩) (bL (n6 @bl.eq_1 @cP.eq_1 @uM.eq_1 @vd.eq_1 @vb.eq_1 @vc.eq_1)) ?_;refine .nil ?_;change aI _ _ _ _ _ _;refine zR ?_;change aI _ _ _ _ _ _;refine zR ?_;rw[hN];simp only[e1,e2];refine ar.fg (st':=⟨(7,az false)::v5,60,[cP lc most false,.cells [.buf 2 (out.length+1) 1 none],.cells ((out++[ch]).flatMap fX),.cells [.buf 4 ch.length 1 (some ch.length)],.cells (ch.flatMap (aA ab)),.cells [bl c l lc]],[]⟩) (bL @bl.eq_1) ?_;refine ar.ret ?_
      (try simp only[fV,dS,cE,cq])
      exact⟨rfl,⟨[az false],by rfl,rfl,rfl⟩,Nat.le_refl _,(by rintro(_ | _ | _ | _ | _ | _ | i) hi2 hm2<;>first | rfl | (exfalso;omega) | (exfalso;simp only[List.length_cons,List.length_nil] at hi2;omega) | exact t8 (by simp) hm2)⟩
def iT(l:List bu):List Int:=l.map λr=>if 1<bF r then -1 else 0
def pS(c:List aP)(l:List bu)(most:Int):Bool×List (List Int):=fJ c l most (l.length+1) 0 (iT l) []
def I6(l:List bu):M3 (iT l):=by
 intro n hn h0;obtain⟨r,_,rfl⟩:=List.mem_map.1 hn;split
 ·rfl
 ·rename_i h;rw[un h] at h0;omega
def AH(c:List aP)(l:List bu):PC Tryz.prog 107 [.ag [ak 3 c ao],ak 2 l aD] (·=.fn 145 [] [.ip [ak 2 l aD],.ip [ak 3 c ao]]):=by
 refine pB 6 Tryz.func107 ?_;refine zV ?_;refine ar.fg (Fg.freeze (f':=[(2,.ip [ak 3 c ao]),(3,.ptr 1 0)]) 0 rfl (λh=>by cases h) (rK @ak.eq_1)) ?_;refine ar.fg (Fg.freeze (f':=[(2,.ip [ak 3 c ao]),(3,.ip [ak 2 l aD])]) 1 rfl (λh=>by cases h) (rK @ak.eq_1)) ?_
 (try change ar _ _ _ _ _)
 refine zV ?_;exact zo [.tmp 4]
def JD(n:Nat)(h:n<=1000000):ic Tryz.prog 119 (.int .i64 (n:Int)) (.int .i64 (n:Int))=some (n,1,n,rep [.int .i64 0] n):=by
 have q1:(Tryz.prog.info? 3).map (λi=>(i.size,ble i.bytes 10000))=some (1,true):=by kernel_rfl
 obtain⟨i,hi,e⟩:=Option.map_eq_some_iff.1 q1;have e1:i.size=1:=congrArg Prod.fst e;have e2:ble i.bytes 10000=true:=congrArg Prod.snd e;unfold ic;rw[show Tryz.prog.underlying 119=some (.slice 3) by kernel_rfl];simp only;rw[show di (.int .i64 (n:Int))=some n from rfl,aS,aS,hi,aS,show du Tryz.prog 3=some (.int .i64 0) by simp only[aw],aS,e1,e2,eN (ax n),eN h];rfl
def wH:∀n,(rep [AV.int .i64 0] n).map SV.a=(a9 n (0:Int)).flatMap (aA ab)
 | 0=>rfl
 | n+1=>by rw[rep,List.map_append,wH n,a4,List.flatMap_cons];rfl
def su(l:List bu)(k:Nat):List Int:=(iT l).take k++a9 (l.length-k) 0
def Km(l:List bu)(k:Nat)(h:k<=l.length):(su l k).length=l.length:=by
 unfold su iT;rw[a7,bb,a2,List.length_replicate];omega
def PU{l:List bu}{k:Nat}{v:Int}(h:(iT l)[k]?=some v):(su l k).set k v=su l (k+1):=by
 have hk:k<(iT l).length:=bD h;have hsl:(iT l).length=l.length:=a2 _;unfold su;rw[br h,List.set_append_right _ _ (by rw[bb];omega),bb,Nat.min_eq_left (by omega),be,show l.length-k=(l.length-(k+1))+1 by omega,a4,List.set_cons_zero,bd]
 try rfl
def NA{l:List bu}{k:Nat}(h:(iT l)[k]?=some 0):su l (k+1)=su l k:=by
 have hk:k<(iT l).length:=bD h;have hsl:(iT l).length=l.length:=a2 _;unfold su;rw[br h,show l.length-k=(l.length-(k+1))+1 by omega,a4,bd]
 try rfl
set_option maxHeartbeats 4000000 in
def Jp(c:List aP)(l:List bu)(lc:gr)(most:Int)(hcd:sX lc)(hln:lc.n=39)(hlp:lc.ps=#[26])(hc:jD c)(hl:∀r∈l,ea r)(hlen:l.length<20)(hl0:l≠[])(hm:most<=4096)(hm0:0<most):
 SC Tryz.prog 145 [.a (.fn (.yield lc.id) [] []),.ip [ak 2 l aD],.ip [ak 3 c ao]] [cP lc most true,.cells [cN],.gone] [2] (λr S'=>r=.bE []/\S'=[cP lc most (pS c l most).1,.cells [bn 2 1 (pS c l most).2.length],rS (pS c l most).2]):=by
 refine S4 28 Tryz.func145 ?_;have hsl:(iT l).length=l.length:=a2 _;have hfr:=AB c l lc most hcd hln hlp hc hl hlen hl0 hm (l.length+1) 0 (iT l) [] (Nat.zero_le _) (by omega) hsl (I6 l) hm0;unfold Rx at hfr;rw[show fJ c l most (l.length+1) 0 (iT l) []=pS c l most from rfl,hsl,aj,eH,DG,show((0:Nat):Int)=0 from rfl] at hfr;generalize pS c l most=q at hfr ⊢;have hk3:=λok=>mM 3 lc most ok (by decide);have hk4:=λok=>mM 4 lc most ok (by decide);have hk5:=λok=>mM 5 lc most ok (by decide);have hkc:=λ(o:Nat) (q:List Int)=>aZ (enc:=aA ab) (λ_=>rfl) o q;have hrc:∀(r:Nat->Nat) (x:List Int),kh r (x.flatMap (aA ab))=x.flatMap (aA ab):=λr x=>aY (aB (λ_=>rfl) _);have hbc:∀(B:Nat) (x:List Int),fq B (x.flatMap (aA ab))=true:=λB x=>bC (aB (λ_=>rfl) _);have hrl:∀(B:Nat) (ok:Bool),nk (jC [0,1,2,5,4] B) (cP lc most ok)=cP lc most ok:=λB ok=>Ad _ lc most ok rfl;refine zs ?_;refine ar.r0 (by rfl) (by simp only[bP,bg,ak,aw,aS,a6,↓reduceIte,ac,ad,al,aa,af,ai,an,aU,↓hk3];first | done | rfl) ?_;refine ar.fg (Fg.freeze (f':=[(0,.a (.fn (.yield lc.id) [] [])),(1,.ip [ak 2 l aD]),(2,.ip [ak 3 c ao]),(3,.ip [.a (.fn (.yield lc.id) [] [])]),(1000000,.ptr 0 0),(1000001,.ptr 1 0),(1000002,.ptr 2 0)]) 3 rfl (λh=>by cases h) (rK @ak.eq_1)) ?_
 (try change ar _ _ _ _ _)
 refine zs ?_;refine ar.r0 (by rfl) (by simp only[bP,bg,ak,aw,aS,a6,↓reduceIte,ac,ad,al,aa,af,ai,an,aU,↓hk4,↓hk5,JD l.length (by omega),wH,hkc];first | done | rfl) ?_;refine ar.fg (st':=⟨[(0,.a (.fn (.yield lc.id) [] [])),(1,.ip [ak 2 l aD]),(2,.ip [ak 3 c ao]),(3,.ip [.a (.fn (.yield lc.id) [] [])]),(4,.ptr 3 0),(1000000,.ptr 0 0),(1000001,.ptr 1 0),(1000002,.ptr 2 0)],28,[cP lc most true,.cells [cN],.gone,.cells [.buf 4 l.length 1 (some l.length)],.cells ((a9 l.length (0:Int)).flatMap (aA ab))],[]⟩) (Fg.rn [0,1,2,5,4] (by decide) rfl (by (simp only[qw,ef,bg,ak,↓hrl,hrc])<;>(repeat' apply bc)<;>first | trivial | exact .inl rfl | exact .inr rfl | exact .inr trivial | exact .inl trivial) (by (simp only[bP,ef,bg,ak,↓hrl,hrc])<;>(repeat' apply bc)<;>first | rfl | trivial)) ?_;rw[show a9 l.length (0:Int)=su l 0 by unfold su;rw[List.take_zero,a1,Nat.sub_zero]];refine zV ?_
 have hlen6:l.length<=1000000:=by omega
 refine zs ?_;refine zL l (λk=>True) (λk=>[(0,.a (.fn (.yield lc.id) [] [])),(1,.ip [ak 2 l aD]),(2,.ip [ak 3 c ao]),(3,.ip [.a (.fn (.yield lc.id) [] [])]),(4,.ptr 3 0),(11,ak 2 l aD),(12,ab l.length),(13,ab k),(1000000,.ptr 0 0),(1000001,.ptr 1 0),(1000002,.ptr 2 0)]) (λk=>[cP lc most true,.cells [cN],.gone,.cells [.buf 4 l.length 1 (some l.length)],.cells ((su l k).flatMap (aA ab))]) zH zp ?_;intro k hk hall;refine zT l k ?_ ?_;rintro rfl;rotate_left;intro r hx hlt;rotate_left
 ·refine dZ ?_
  (try change ar _ _ _ _ _)
  rw[show su l l.length=iT l by unfold su;rw[<-hsl,List.take_length,hsl,be];simp];refine zs ?_;refine ar.r0 (by rfl) (by simp only[bP,bg,ak,aw,aS,a6,↓reduceIte,ac,ad,al,aa,af,ai,an,aU,↓hk5,hkc];first | done | rfl) ?_;refine zV ?_;have hrl6:∀(B:Nat) (ok:Bool),nk (jC [0,1,2,3,4,5] B) (cP lc most ok)=cP lc most ok:=λB ok=>Ad _ lc most ok rfl;have hbl:∀ok:Bool,kl 6 (cP lc most ok)=true:=λok=>uW 6 lc most ok (by decide);have hrn:∀(B n:Nat),fU (jC [0,1,2,3,4,5] B) (bn 2 1 n)=bn 2 1 n:=λB n=>dY _ 2 1 n
  have hbn:∀n:Nat,dI 6 (bn 2 1 n)=true:=λn=>by
   unfold bn;split
   ·exact fF rfl
   ·rfl
  refine ar.post ?_;refine zC ?_;refine aI.sk [0,1,2,3,4,5] (by rfl) rfl rfl (by rfl) rfl (J3 @bl.eq_1) (hfr) (by simp only[ef,bg,ak,↓reduceIte,ac,ad,ap,al,aa,af,hrc,hbc,↓jv,↓fZ,bl,↓hrl6,↓hbl,↓hrn,↓hbn];first | done | rfl) rfl (by decide) (by simp only[sD,ef,bg,ak,hrc,hbc,↓jv,↓fZ,bl,↓hrl6,↓hbl,↓hrn,↓hbn]<;>(repeat' apply bc)<;>first | trivial | rfl | (intro hh;cases hh)) (by simp only[xw,ef,bg,ak,ad,af,decide_true,hrc,hbc,↓jv,↓fZ,bl,↓hrl6,↓hbl,↓hrn,↓hbn];first | done | rfl) (by simp only[xw,ef,bg,ak,ad,af,decide_true,hrc,hbc,↓jv,↓fZ,bl,↓hrl6,↓hbl,↓hrn,↓hbn];first | done | rfl) (by simp only[ef,bg,ak,↓reduceIte,ac,ad,ap,al,aa,af,hrc,hbc,↓jv,↓fZ,bl,↓hrl6,↓hbl,↓hrn,↓hbn];first | done | rfl) (by simp only[ef,bg,ak,↓reduceIte,ac,ad,ap,al,aa,af,hrc,hbc,↓jv,↓fZ,bl,↓hrl6,↓hbl,↓hrn,↓hbn,dJ,dB,bQ,bf,bP];first | done | rfl) (by simp only[ef,bg,ak,↓reduceIte,ac,ad,ap,al,aa,af,hrc,hbc,↓jv,↓fZ,bl,↓hrl6,↓hbl,↓hrn,↓hbn,dJ,dB,bQ,bf,bP];first | done | rfl) ?_;refine zR ?_;refine⟨⟨[(1000000,.ptr 0 0),(1000001,.ptr 1 0)],28,[cP lc most q.1,.cells [bn 2 1 q.2.length],rS q.2],[]⟩,zH,?_⟩;exact zP []
 have hrk:ea r:=hl r (a3 hx);have hr1:=hrk.len
 have hv:(iT l)[k]?=some (if 1<bF r then -1 else 0):=by unfold iT;rw[List.getElem?_map,hx];rfl
 have hcl:((su l k).flatMap (aA ab)).length=l.length:=by rw[aJ (enc:=aA ab) (e:=1) (λ_=>rfl),Km l k hk,ay]
 refine eQ ?_;refine zs ?_;refine ar.r0 (by rfl) (by simp only[bP,bg,ak,aw,aS,a6,↓reduceIte,ac,ad,al,aa,af,ai,an,aU,hlt,aG (e:=2) (enc:=aD) (λ_=>rfl) hx,aD,↓hk5,hkc];first | done | rfl) ?_;refine zC ?_;refine zK (iJ r hrk) ?_;cases g:decide (1<bF r)
 ·rw[un (wt g)] at hv;refine cM g ?_;refine zN ?_;refine aC (zi hlt hlen6) ?_;refine zX hlt (bL (NA hv)) trivial
 ·rw[ul (ww g)] at hv;have hset:=gB (enc:=aA ab) (e:=1) (λ_=>rfl) (l:=su l k) (i:=k) (-1:Int) (by rw[Km l k hk];exact hlt);rw[show aA ab (-1)=[ab (-1)] from rfl,ba,a1,ay,PU hv] at hset;refine cM g ?_;refine zY ?_;refine aC (n5 hlt hcl @ay (show k+1<=l.length by omega) hset) ?_;refine aC (zi hlt hlen6) ?_;refine zX hlt zH trivial
def Lk.TW{P:Program}{fn:Func}{Q:SV->Prop}{e:Ex}{st:eB}(h:sf P fn Q e st):Lk P fn Q e st:=by
 obtain⟨he,hd,h⟩:=h;refine⟨he,?_⟩;rw[hd];exact h
def k8(c:List aP)(l:List bu)(most:Int):List (List Int)×Int:=if most<1 then ([],1) else if 4096<most then ([],1) else if fG c l=0 then (if (pS c l most).2=[] then ([],21) else ((pS c l most).2,0)) else ([],fG c l)
set_option maxHeartbeats 4000000 in
def Jd(c:List aP)(l:List bu)(most:Int)(hc:jD c)(hl:∀r∈l,ea r)(hlen:l.length<20)(hl0:l≠[]):PC Tryz.prog 53 [.ag [ak 3 c ao],ak 2 l aD,ab most] (·=.bE [ak 1 (k8 c l most).1 fX,ab (k8 c l most).2]):=by
 refine PC.rV (n:=39) dG Tryz.func53 rfl rfl (by decide) ?_;refine zV ?_;refine ar.fg (Fg.freeze (f':=[(1,ak 2 l aD),(3,.ip [ak 3 c ao]),(5,.ptr 1 0),(6,cN),(7,ab 0)]) 0 rfl (λh=>by cases h) (rK @ak.eq_1)) ?_;refine ar.fg (Fg.freeze (f':=[(1,ak 2 l aD),(3,.ip [ak 3 c ao]),(5,.ip [ab most])]) 1 rfl (λh=>by cases h) (rK @ak.eq_1)) ?_;refine ar.fg (st':=⟨[(1,ak 2 l aD),(3,.ip [ak 3 c ao]),(5,.ip [ab most])],39,[],[]⟩) zH ?_
 (try change ar _ _ _ _ _)
 cases h1:decide (most<1);rotate_left
 ·refine aC h1 ?_;refine cL ?_;refine ar.ret ?_
  (try simp only[fV,dS,cE,cq])
  refine Lk.TW ?_;exact sf.of (rs:=[.tmp 6,.tmp 7]) (r:=.bE [.sl 0 1 [],ab 1]) rfl rfl zl zv (by (try simp only[dh,aW]);first | done | (rw[show k8 c l most=([],1) by rw[k8,ul (ww h1)]];rfl))
 cases h2:decide (4096<most);rotate_left
 ·refine aC (n2 h1 h2) ?_;refine cL ?_;refine ar.ret ?_
  (try simp only[fV,dS,cE,cq])
  refine Lk.TW ?_;exact sf.of (rs:=[.tmp 6,.tmp 7]) (r:=.bE [.sl 0 1 [],ab 1]) rfl rfl zl zv (by (try simp only[dh,aW]);first | done | (rw[show k8 c l most=([],1) by rw[k8,un (wt h1),ul (ww h2)]];rfl))
 refine aC (n2 h1 h2) ?_;refine zN ?_
 have hN:=show k8 c l most=if fG c l=0 then (if (pS c l most).2=[] then ([],21) else ((pS c l most).2,0)) else ([],fG c l) by rw[k8,un (wt h1),un (wt h2)]
 have h1':=wt h1;have h2':=wt h2;refine zC ?_;refine zK (Bh c l hc hl (by omega)) ?_;refine zR ?_;cases h3:decide (fG c l=0)
 ·refine aC h3 ?_;refine cL ?_;refine ar.ret ?_
  (try simp only[fV,dS,cE,cq])
  refine Lk.TW ?_;exact sf.of (rs:=[.tmp 6,.tmp 7]) (r:=.bE [.sl 0 1 [],ab (fG c l)]) rfl rfl zl zv (by (try simp only[dh,aW]);first | done | (rw[hN,un (wt h3)];rfl))
 refine aC h3 ?_;refine zN ?_;rw[ul (ww h3)] at hN;refine kD ?_;refine zK (AH c l) ?_ (hfl:=.inr (bp.refl rfl));refine zR ?_;refine ar.fg (st':=⟨[(5,.ip [ab most]),(9,.ptr 0 0),(25,.fn 145 [] [.ip [ak 2 l aD],.ip [ak 3 c ao]])],39,[.cells [cN],.gone],[]⟩) zH ?_;refine zB ?_;refine ar.tW (f1:=[(5,.ip [ab most]),(9,.ptr 0 0)]) dG (by rfl) Tryz.func145 (by rfl) Tn ?_;rintro N lc hid hn hps ha hb
 have hcd:sX lc:=by
  unfold sX;rw[Tryz.func53,ha,hb];rfl
 have hsc:=Jp c l lc most hcd hn hps hc hl hlen hl0 (by omega) (by omega);generalize pS c l most=q at hN hsc;refine⟨[3,0,1],_,_,_,_,hsc,?_,rfl,by decide,?_,?_⟩
 ·simp only[ef,bg,bP,ak,dJ,bf,↓reduceIte,ac,ad,ap,hid,List.map,List.append,ba,a1]
 ·rintro(_ | _ | _ | i) so h
  ·cases h;exact⟨3,rfl,by rfl⟩
  ·cases h;exact⟨0,rfl,by rfl⟩
  ·cases h;exact⟨1,rfl,by rfl⟩
  ·cases h
 rintro r S' ⟨rfl,rfl⟩
 have hbn:∀n:Nat,dI 3 (bn 2 1 n)=true:=λn=>by
  unfold bn;split
  ·exact fF rfl
  ·rfl
 refine⟨by simp only[xw,ef,bg,ak,ad,af,decide_true,↓fZ,↓hbn,↓uW 3 lc most q.1 (by decide)];first | done | rfl,3,cond q.1 .ready .done,cond q.1 none (some (.exit 0)),[(5,.ip [ab most]),(9,.ptr 0 0)],by rfl,by cases q.1<;>decide,by rfl,?_⟩;have hrl3:∀(B:Nat) (ok:Bool),nk (jC [3,0,1] B) (cP lc most ok)=.loop lc (cond ok .ready .done) (cond ok none (some (.exit 0))) [(5,.ip [ab most]),(9,.ptr 0 0)]:=λB ok=>rfl
 have hrn3:∀(B n:Nat),nk (jC [3,0,1] B) (.cells [bn 2 1 n])=.cells [bn 1 1 n]:=λB n=>by
  show SO.cells [fU _ _]=_;rw[dY];rfl
 have hS2:(fD (gO (gO [SO.cells [cN],SO.gone] (SO.ox N)) (SO.loop lc .ready none [(5,.ip [ab most]),(9,.ptr 0 0)])) [3,0,1] [2] [cP lc most q.1,.cells [bn 2 1 q.2.length],rS q.2]).set 3 .gone=[.cells [bn 1 1 q.2.length],rS q.2,.ox N,.gone]:=by
  simp only[fD,gO,dB,dQ,jt,jB,aR,aj,List.map,a2,a7,↓hrl3,↓hrn3,↓jv];rfl
 rw[hS2];cases hq1:q.1
 all_goals
  (first | refine ar.exit ?_ | skip)
  change ar _ _ _ ⟨[(5,.ip [ab most]),(9,.ptr 0 0)],39,[.cells [bn 1 1 q.2.length],rS q.2,.ox N,.gone],[{ fn:=none,qe:=N,args:=[],cap:=[] }]⟩ _;by_cases ho:q.2=[]
  ·rw[ul ho] at hN;rw[ho,DG,show bn 1 1 ([]:List (List Int)).length=cN from rfl];refine xd ?_;refine zV ?_;refine ar.ret ?_
   (try simp only[fV,dS,cE,cq])
   exact⟨rfl,[(6,cN),(7,ab 21)],⟨rfl,rfl,trivial⟩,rfl,.inl ⟨rfl,2,rfl,[cN,ab 21],.bE [.sl 0 1 [],ab 21],by rfl,.bE (.cons (.nil _) (.cons (.a _) .nil)),by rw[hN];rfl⟩⟩
  ·rw[un ho] at hN;have hk1:¬q.2.length=0:=λh=>ho (List.length_eq_zero_iff.1 h);rw[On ho,bV hk1];refine aC (show decide ((q.2.length:Int)=0)=false by simp only[wp];omega) ?_;refine iK ?_;refine ar.ret ?_
   (try simp only[fV,dS,cE,cq])
   exact⟨rfl,[(6,.buf 1 q.2.length 1 none),(7,ab 0)],⟨rfl,rfl,trivial⟩,rfl,.inl ⟨rfl,2,rfl,[.buf 1 q.2.length 1 none,ab 0],.bE [ak 1 q.2 fX,ab 0],by rfl,.bE (.cons (.buf rfl (by rw[cV ra];exact bp.refl (aB mu _)) (by rw[aJ ra];exact ax _)) (.cons (.a _) .nil)),by rw[hN]⟩⟩
def Hg{l:List (bu)}(p:bu->Bool){fid:FuncId}{first cap:List SV}(hlen:l.length<=1000000)(hp:∀x∈l,PC Tryz.prog fid ((first++[.ag (aD x)])++cap) (·=az (p x)))(hg:cr first=true/\cr cap=true):PC Tryz.prog 49 [ak 2 l aD,.fn fid first cap] (·=ab (js p l)):=by
 refine pB 19 Tryz.func49 ?_;refine aC @ak.eq_1 ?_;refine zV ?_;refine zs ?_;refine zL l (λk=>∀(i:Nat) y,i<k->l[i]?=some y->p y=false) (λk=>[(0,.sl l.length 2 (l.flatMap aD)),(1,.fn fid first cap),(7,ab l.length),(8,ab k)]) (λk=>[]) zH zp ?_;intro k hk hall;refine zT l k ?_ ?_;rintro rfl;rotate_left;intro x hx hlt;rotate_left
 ·refine dZ ?_;refine zV ?_;exact zo [.tmp 4] (hq:=by rw[iC hall])
 ·refine eQ ?_;refine zV ?_;refine gG (n3 hlt (aG (e:=2) (enc:=aD) (λ_=>rfl) hx) @aD.eq_1) ?_;refine zK (hp x (List.mem_iff_getElem?.2 ⟨k,hx⟩)) ?_ (hwk:=((bp.refl hg.1).app (bp.refl rfl)).app (bp.refl hg.2));refine aI.nil ?_;change ar _ _ _ _ _;cases hpx:p x
  ·refine zN ?_;refine aC (zi hlt hlen) ?_;refine zX hlt zH ?_;intro i y hi hy;by_cases hik:i=k
   ·subst hik;rw[hx] at hy;cases hy;exact hpx
   ·exact hall i y (by omega) hy
  ·refine cL ?_;exact zo [.tmp 4] (hq:=by rw[lY hx hpx hall])
def wO{l:List (bu)}(p:bu->Bool){fid:FuncId}{first cap:List SV}(hlen:l.length<=1000000)(hp:∀x∈l,PC Tryz.prog fid ((first++[.ag (aD x)])++cap) (·=az (p x)))(hg:cr first=true/\cr cap=true):PC Tryz.prog 18 [ak 2 l aD,.fn fid first cap] (·=az (l.any p)):=by
 refine pB 9 Tryz.func18 ?_;refine kD ?_;refine zK (Hg p hlen hp hg) ?_ (hwk:=.cons (Wk.sl _ _ _) (.cons (.fn (bp.refl hg.1) (bp.refl hg.2)) .nil));refine zR ?_;exact zo [.tmp 4] (hq:=by rw[xU])
def JR(r:bu)(hr:ea r):PC Tryz.prog 51 [.ag (aD r)] (·=az (!(Proofs.fR r))):=by
 refine pB 6 Tryz.func51 ?_;refine aC @aD.eq_1 ?_;refine zC ?_;refine zK (nS r hr) ?_;refine zR ?_;exact zo [.tmp 2]
def TP(c:List aP)(l:List bu):List Int×Int:=if (k8 c l 1).2=0 then ((k8 c l 1).1.headD [],0) else ([],(k8 c l 1).2)
def Ng{c:List aP}{l:List bu}{most:Int}(h:(k8 c l most).2=0):(k8 c l most).1≠[]:=by
 unfold k8 at h ⊢;split at h
 ·cases h
 split at h
 ·cases h
 rename_i h1 h2;rw[un h1,un h2];split at h
 ·rename_i h3;rw[ul h3];split at h
  ·cases h
  ·rename_i h4;rw[un h4];exact h4
 ·rename_i h3;exact t8 h h3
end Go.Proofs
