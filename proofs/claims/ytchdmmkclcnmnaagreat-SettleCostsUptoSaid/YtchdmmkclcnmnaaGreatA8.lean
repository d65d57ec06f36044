/- Lemmas of this claim, each with its conditions. -/
import Derived.Test.YtchdmmkclcnmnaaGreatA7
import Derived.Test.YtchdmmkclcnmnaaGreatA6
import Derived.Test.YtchdmmkclcnmnaaGreatA5
import Derived.Test.YtchdmmkclcnmnaaGreatA4
import Derived.Test.YtchdmmkclcnmnaaGreatA3
import Derived.Test.YtchdmmkclcnmnaaGreatA2
set_option linter.all false
set_option maxHeartbeats 8000000
open Go.Proofs.Tryz (prog func121 func145 func53)
open List (map_cons length_nil length_eq_zero_iff map_nil take_zero mem_cons mem_singleton nil_append mem_map foldl_nil all_eq_true mem_filter set_cons_zero flatMap_cons mem_append)
open Prod (ext snd fst)
open Nat (beq ble blt)
open Nat renaming reduceEqDiff -> ac, reduceLeDiff -> aj, reduceAdd -> ap, reduceLT -> aS, reduceMul -> a0, le_refl -> a9, mul_one -> bi, zero_le -> bY, reduceSub -> b4, le_trans -> b8, sub_zero -> cj, sub_self -> el, min_eq_left -> em, not_lt_zero -> ey, beq_refl -> fl, zero_add -> fm, zero_mul -> fs
open Option renaming bind_some -> ad, map_some -> ax, isSome_some -> eB
open List renaming length_map -> al, getElem?_map -> ay, mem_of_getElem? -> a5, length_append -> a6, length_cons -> a7, take_length -> a8, mem_cons_of_mem -> ba, getElem?_eq_getElem -> bc, mem_cons_self -> bd, filter_cons -> be, ext_getElem? -> bh, map_append -> bk, foldl_append -> bt, length_take -> bv, sum_cons -> bw, length_filterMap_le -> bZ, getElem?_set -> b3, not_mem_nil -> b5, replicate -> b9, foldl_cons -> ca, mem_of_find?_eq_some -> cb, nodup_cons -> cc, take_of_length_le -> cd, find?_eq_some_iff_getElem -> cf, getElem?_eq_none -> ci, getD_eq_getElem?_getD -> cn, map_map -> cp, mem_map_of_mem -> cs, replicate_succ -> ct, find?_eq_none -> cv, nodup_nil -> c0, cons_append -> dc, length_filter_le -> dd, all_append -> dk, filter_append -> dl, append_assoc -> dB, map_set -> eC, sum_nil -> e4, range_zero -> e6, sum_append -> fb, append -> fu
open Bool renaming and_eq_true -> bo, false_eq_true -> bx, and_true -> dt, not_eq_true' -> dv
open And renaming intro -> b6
open Int renaming le_of_lt -> b7, ofNat -> ce, tmod_eq_emod_of_nonneg -> cl, le_refl -> c4, sub_zero -> fd
open Go.Proofs.Tryz renaming func179 -> e5
namespace Go.Proofs
open Go.Ev
set_option maxRecDepth 100000
def iW(l:List br):List Int:=l.map λr=>if 1<bD r then -1 else 0
def qt(c:List aQ)(l:List br)(most:Int):Bool×List (List Int):=fP c l most (l.length+1) 0 (iW l) []
def Kb(l:List br):On (iW l):=by
 intro n hn h0;obtain⟨r,_,rfl⟩:=mem_map.1 hn;split
 ·rfl
 ·rename_i h;rw[ul h] at h0;omega
def Bl(c:List aQ)(l:List br):PC prog 107 [.ag [ah 3 c ao],ah 2 l aB] (·=.fn 145 [] [.ip [ah 2 l aB],.ip [ah 3 c ao]]):=by
 refine pB 6 Tryz.func107 ?_;refine(zV) ?_;refine aq.fg (Fg.freeze (f':=[(2,.ip [ah 3 c ao]),(3,.ptr 1 0)]) 0 rfl (λh=>by cases h) (sh @ah.eq_1)) ?_;refine aq.fg (Fg.freeze (f':=[(2,.ip [ah 3 c ao]),(3,.ip [ah 2 l aB])]) 1 rfl (λh=>by cases h) (sh @ah.eq_1)) ?_
 (try change aq _ _ _ _ _)
 exact(zV)<|zo [.tmp 4]
def KM(n:Nat)(h:n<=1000000):ij prog 119 (.int .i64 (n:Int)) (.int .i64 (n:Int))=some (n,1,n,rep [.int .i64 0] n):=by
 have q1:(prog.info? 3).map (λi=>(i.size,ble i.bytes 10000))=some (1,true):=by kernel_rfl
 obtain⟨i,hi,e⟩:=Option.map_eq_some_iff.1 q1;have e1:i.size=1:=congrArg fst e;have e2:ble i.bytes 10000=true:=congrArg snd e;unfold ij;rw[show prog.underlying 119=some (.slice 3) by kernel_rfl];simp only;rw[show de (.int .i64 (n:Int))=some n from rfl,ad,ad,hi,ad,show dm prog 3=some (.int .i64 0) by simp only[an],ad,e1,e2,eZ (a9 n),eZ h];rfl
def xp:∀n,(rep [AV.int .i64 0] n).map SV.a=(b9 n (0:Int)).flatMap (aw aa)
 | 0=>rfl
 | n+1=>by rw[rep,bk,xp n,ct,flatMap_cons];rfl
def sW(l:List br)(k:Nat):List Int:=(iW l).take k++b9 (l.length-k) 0
def Lv(l:List br)(k:Nat)(h:k<=l.length):(sW l k).length=l.length:=by
 unfold sW iW;rw[a6,bv,al,List.length_replicate];omega
def Ro{l:List br}{k:Nat}{v:Int}(h:(iW l)[k]?=some v):(sW l k).set k v=sW l (k+1):=by
 have hk:k<(iW l).length:=bf h;have hsl:(iW l).length=l.length:=al _;unfold sW;rw[bz h,List.set_append_right _ _ (by rw[bv];omega),bv,em (by omega),el,show l.length-k=(l.length-(k+1))+1 by omega,ct,set_cons_zero,dB]
 try rfl
def OZ{l:List br}{k:Nat}(h:(iW l)[k]?=some 0):sW l (k+1)=sW l k:=by
 have hk:k<(iW l).length:=bf h;have hsl:(iW l).length=l.length:=al _;unfold sW;rw[bz h,show l.length-k=(l.length-(k+1))+1 by omega,ct,dB]
 try rfl
def Kx(c:List aQ)(l:List br)(lc:gB)(most:Int)(hcd:tG lc)(hln:lc.n=39)(hlp:lc.ps=#[26])(hc:jI c)(hl:∀r∈l,eh r)(hlen:l.length<20)(hl0:l≠[])(hm:most<=4096)(hm0:0<most):
 SC prog 145 [.a (.fn (.yield lc.id) [] []),.ip [ah 2 l aB],.ip [ah 3 c ao]] [cN lc most true,.cells [cI],.gone] [2] (λr S'=>r=.bC []/\S'=[cN lc most (qt c l most).1,.cells [bp 2 1 (qt c l most).2.length],sw (qt c l most).2]):=by
 refine U0 28 func145 ?_;have hsl:(iW l).length=l.length:=al _;have hfr:=Bj c l lc most hcd hln hlp hc hl hlen hl0 hm (l.length+1) 0 (iW l) [] (bY _) (by omega) hsl (Kb l) hm0;unfold TD at hfr;rw[show fP c l most (l.length+1) 0 (iW l) []=qt c l most from rfl,hsl,length_nil,eO,EA,show((0:Nat):Int)=0 from rfl] at hfr;generalize qt c l most=q at hfr ⊢;have hk3:=λok=>na 3 lc most ok (by decide);have hk4:=λok=>na 4 lc most ok (by decide);have hk5:=λok=>na 5 lc most ok (by decide);have hkc:=λ(o:Nat) (q:List Int)=>aY (enc:=aw aa) (λ_=>rfl) o q;have hrc:∀(r:Nat->Nat) (x:List Int),lr r (x.flatMap (aw aa))=x.flatMap (aw aa):=λr x=>bg (aA (λ_=>rfl) _);have hbc:∀(B:Nat) (x:List Int),gC B (x.flatMap (aw aa))=true:=λB x=>bF (aA (λ_=>rfl) _);have hrl:∀(B:Nat) (ok:Bool),nM (jH [0,1,2,5,4] B) (cN lc most ok)=cN lc most ok:=λB ok=>AS _ lc most ok rfl;refine(zs) ?_;refine aq.r0 (by rfl) (by simp only[bI,bj,ah,an,ad,ax,↓reduceIte,ac,ap,a0,aj,aS,ae,ai,aN,↓hk3];first | done | rfl) ?_;refine aq.fg (Fg.freeze (f':=[(0,.a (.fn (.yield lc.id) [] [])),(1,.ip [ah 2 l aB]),(2,.ip [ah 3 c ao]),(3,.ip [.a (.fn (.yield lc.id) [] [])]),(1000000,.ptr 0 0),(1000001,.ptr 1 0),(1000002,.ptr 2 0)]) 3 rfl (λh=>by cases h) (sh @ah.eq_1)) ?_
 (try change aq _ _ _ _ _)
 refine(zs) ?_;refine aq.r0 (by rfl) (by simp only[bI,bj,ah,an,ad,ax,↓reduceIte,ac,ap,a0,aj,aS,ae,ai,aN,↓hk4,↓hk5,KM l.length (by omega),xp,hkc];first | done | rfl) ?_;refine aq.fg (st':=⟨[(0,.a (.fn (.yield lc.id) [] [])),(1,.ip [ah 2 l aB]),(2,.ip [ah 3 c ao]),(3,.ip [.a (.fn (.yield lc.id) [] [])]),(4,.ptr 3 0),(1000000,.ptr 0 0),(1000001,.ptr 1 0),(1000002,.ptr 2 0)],28,[cN lc most true,.cells [cI],.gone,.cells [.buf 4 l.length 1 (some l.length)],.cells ((b9 l.length (0:Int)).flatMap (aw aa))],[]⟩) (Fg.rn [0,1,2,5,4] (by decide) rfl (by (simp only[qU,eM,bj,ah,↓hrl,hrc])<;>(repeat' apply b6)<;>first | trivial | exact .inl rfl | exact .inr rfl | exact .inr trivial | exact .inl trivial) (by (simp only[bI,eM,bj,ah,↓hrl,hrc])<;>(repeat' apply b6)<;>first | rfl | trivial)) ?_;rw[show b9 l.length (0:Int)=sW l 0 by unfold sW;rw[take_zero,nil_append,cj]];refine(zV) ?_
 have hlen6:l.length<=1000000:=by omega
 refine(zs) ?_;refine zL l (λk=>True) (λk=>[(0,.a (.fn (.yield lc.id) [] [])),(1,.ip [ah 2 l aB]),(2,.ip [ah 3 c ao]),(3,.ip [.a (.fn (.yield lc.id) [] [])]),(4,.ptr 3 0),(11,ah 2 l aB),(12,aa l.length),(13,aa k),(1000000,.ptr 0 0),(1000001,.ptr 1 0),(1000002,.ptr 2 0)]) (λk=>[cN lc most true,.cells [cI],.gone,.cells [.buf 4 l.length 1 (some l.length)],.cells ((sW l k).flatMap (aw aa))]) zH zp ?_;intro k hk hall;refine zT l k ?_ ?_;rintro rfl;rotate_left;intro r hx hlt;rotate_left
 ·refine(eN) ?_
  (try change aq _ _ _ _ _)
  rw[show sW l l.length=iW l by unfold sW;rw[<-hsl,a8,hsl,el];simp];refine(zs) ?_;refine aq.r0 (by rfl) (by simp only[bI,bj,ah,an,ad,ax,↓reduceIte,ac,ap,a0,aj,aS,ae,ai,aN,↓hk5,hkc];first | done | rfl) ?_;refine(zV) ?_;have hrl6:∀(B:Nat) (ok:Bool),nM (jH [0,1,2,3,4,5] B) (cN lc most ok)=cN lc most ok:=λB ok=>AS _ lc most ok rfl;have hbl:∀ok:Bool,kD 6 (cN lc most ok)=true:=λok=>vC 6 lc most ok (by decide);have hrn:∀(B n:Nat),fY (jH [0,1,2,3,4,5] B) (bp 2 1 n)=bp 2 1 n:=λB n=>eg _ 2 1 n
  have hbn:∀n:Nat,dG 6 (bp 2 1 n)=true:=λn=>by
   unfold bp;split
   ·exact fN rfl
   ·rfl
  refine aq.post ?_;refine(zC) ?_;refine aG.sk [0,1,2,3,4,5] (by rfl) rfl rfl (by rfl) rfl (IY @bm.eq_1) (hfr) (by simp only[eM,bj,ah,↓reduceIte,ac,ap,b4,a0,aj,aS,hrc,hbc,↓jz,↓gi,bm,↓hrl6,↓hbl,↓hrn,↓hbn];first | done | rfl) rfl (by decide) (by simp only[vW,eM,bj,ah,hrc,hbc,↓jz,↓gi,bm,↓hrl6,↓hbl,↓hrn,↓hbn]<;>(repeat' apply b6)<;>first | trivial | rfl | (intro hh;cases hh)) (by simp only[BU,eM,bj,ah,ap,aS,decide_true,hrc,hbc,↓jz,↓gi,bm,↓hrl6,↓hbl,↓hrn,↓hbn];first | done | rfl) (by simp only[BU,eM,bj,ah,ap,aS,decide_true,hrc,hbc,↓jz,↓gi,bm,↓hrl6,↓hbl,↓hrn,↓hbn];first | done | rfl) (by simp only[eM,bj,ah,↓reduceIte,ac,ap,b4,a0,aj,aS,hrc,hbc,↓jz,↓gi,bm,↓hrl6,↓hbl,↓hrn,↓hbn];first | done | rfl) (by simp only[eM,bj,ah,↓reduceIte,ac,ap,b4,a0,aj,aS,hrc,hbc,↓jz,↓gi,bm,↓hrl6,↓hbl,↓hrn,↓hbn,di,dx,bO,aM,bI];first | done | rfl) (by simp only[eM,bj,ah,↓reduceIte,ac,ap,b4,a0,aj,aS,hrc,hbc,↓jz,↓gi,bm,↓hrl6,↓hbl,↓hrn,↓hbn,di,dx,bO,aM,bI];first | done | rfl) ?_;refine(zR) ?_;refine⟨⟨[(1000000,.ptr 0 0),(1000001,.ptr 1 0)],28,[cN lc most q.1,.cells [bp 2 1 q.2.length],sw q.2],[]⟩,zH,?_⟩;exact zP []
 have hrk:eh r:=hl r (a5 hx);have hr1:=hrk.len
 have hv:(iW l)[k]?=some (if 1<bD r then -1 else 0):=by unfold iW;rw[ay,hx];rfl
 have hcl:((sW l k).flatMap (aw aa)).length=l.length:=by rw[aL (enc:=aw aa) (e:=1) (λ_=>rfl),Lv l k hk,bi]
 refine(gh)<|(zs) ?_;refine aq.r0 (by rfl) (by simp only[bI,bj,ah,an,ad,ax,↓reduceIte,ac,ap,a0,aj,aS,ae,ai,aN,hlt,aH (e:=2) (enc:=aB) (λ_=>rfl) hx,aB,↓hk5,hkc];first | done | rfl) ?_;refine(zC)<|(zK (iM r hrk)) ?_
 cases g:decide (1<bD r)
 ·rw[ul (wt g)] at hv
  refine(cK g)<|(zN)<|(az (zi hlt hlen6)) ?_;refine zX hlt (bK (OZ hv)) trivial
 ·rw[t8 (ww g)] at hv;have hset:=kS (enc:=aw aa) (e:=1) (λ_=>rfl) (l:=sW l k) (i:=k) (-1:Int) (by rw[Lv l k hk];exact hlt);rw[show aw aa (-1)=[aa (-1)] from rfl,dc,nil_append,bi,Ro hv] at hset
  refine(cK g)<|(zY)<|(az (n5 hlt hcl @bi (show k+1<=l.length by omega) hset))<|(az (zi hlt hlen6)) ?_;refine zX hlt zH trivial
def MA.VJ{P:Program}{fn:Func}{Q:SV->Prop}{e:Ex}{st:ez}(h:sP P fn Q e st):MA P fn Q e st:=by
 obtain⟨he,hd,h⟩:=h;refine⟨he,?_⟩;rw[hd];exact h
def ly(c:List aQ)(l:List br)(most:Int):List (List Int)×Int:=if most<1 then ([],1) else if 4096<most then ([],1) else if fO c l=0 then (if (qt c l most).2=[] then ([],21) else ((qt c l most).2,0)) else ([],fO c l)
def Ki(c:List aQ)(l:List br)(most:Int)(hc:jI c)(hl:∀r∈l,eh r)(hlen:l.length<20)(hl0:l≠[]):PC prog 53 [.ag [ah 3 c ao],ah 2 l aB,aa most] (·=.bC [ah 1 (ly c l most).1 fZ,aa (ly c l most).2]):=by
 refine PC.sA (n:=39) dE func53 rfl rfl (by decide) ?_;refine(zV) ?_;refine aq.fg (Fg.freeze (f':=[(1,ah 2 l aB),(3,.ip [ah 3 c ao]),(5,.ptr 1 0),(6,cI),(7,aa 0)]) 0 rfl (λh=>by cases h) (sh @ah.eq_1)) ?_;refine aq.fg (Fg.freeze (f':=[(1,ah 2 l aB),(3,.ip [ah 3 c ao]),(5,.ip [aa most])]) 1 rfl (λh=>by cases h) (sh @ah.eq_1)) ?_;refine aq.fg (st':=⟨[(1,ah 2 l aB),(3,.ip [ah 3 c ao]),(5,.ip [aa most])],39,[],[]⟩) zH ?_
 (try change aq _ _ _ _ _)
 cases h1:decide (most<1);rotate_left
 ·refine(az h1)<|(cM) ?_;refine aq.ret ?_
  (try simp only[fG,dH,cB,bX])
  refine MA.VJ ?_;exact sP.of (rs:=[.tmp 6,.tmp 7]) (r:=.bC [.sl 0 1 [],aa 1]) rfl rfl zl zv (by (try simp only[df,aX]);first | done | (rw[show ly c l most=([],1) by rw[ly,t8 (ww h1)]];rfl))
 cases h2:decide (4096<most);rotate_left
 ·refine(az (n2 h1 h2))<|(cM) ?_;refine aq.ret ?_
  (try simp only[fG,dH,cB,bX])
  refine MA.VJ ?_;exact sP.of (rs:=[.tmp 6,.tmp 7]) (r:=.bC [.sl 0 1 [],aa 1]) rfl rfl zl zv (by (try simp only[df,aX]);first | done | (rw[show ly c l most=([],1) by rw[ly,ul (wt h1),t8 (ww h2)]];rfl))
 refine(az (n2 h1 h2))<|(zN) ?_
 have hN:=show ly c l most=if fO c l=0 then (if (qt c l most).2=[] then ([],21) else ((qt c l most).2,0)) else ([],fO c l) by rw[ly,ul (wt h1),ul (wt h2)]
 have h1':=wt h1;have h2':=wt h2
 refine(zC)<|(zK (BV c l hc hl (by omega)))<|(zR) ?_
 cases h3:decide (fO c l=0)
 ·refine(az h3)<|(cM) ?_;refine aq.ret ?_
  (try simp only[fG,dH,cB,bX])
  refine MA.VJ ?_;exact sP.of (rs:=[.tmp 6,.tmp 7]) (r:=.bC [.sl 0 1 [],aa (fO c l)]) rfl rfl zl zv (by (try simp only[df,aX]);first | done | (rw[hN,ul (wt h3)];rfl))
 refine(az h3)<|(zN) ?_
 rw[t8 (ww h3)] at hN
 refine(kK)<|(zK (Bl c l) (hfl:=.inr (bl.refl rfl)))<|(zR) ?_;refine aq.fg (st':=⟨[(5,.ip [aa most]),(9,.ptr 0 0),(25,.fn 145 [] [.ip [ah 2 l aB],.ip [ah 3 c ao]])],39,[.cells [cI],.gone],[]⟩) zH ?_;refine(zB) ?_;refine aq.uF (f1:=[(5,.ip [aa most]),(9,.ptr 0 0)]) dE (by rfl) func145 (by rfl) Ut ?_
 rintro N lc hid hn hps ha hb
 have hcd:tG lc:=by
  unfold tG;rw[func53,ha,hb];rfl
 have hsc:=Kx c l lc most hcd hn hps hc hl hlen hl0 (by omega) (by omega);generalize qt c l most=q at hN hsc;refine⟨[3,0,1],_,_,_,_,hsc,?_,rfl,by decide,?_,?_⟩
 ·simp only[eM,bj,bI,ah,di,aM,↓reduceIte,ac,ap,b4,hid,List.map,fu,dc,nil_append]
 ·rintro(_ | _ | _ | i) so h
  ·cases h;exact⟨3,rfl,by rfl⟩
  ·cases h;exact⟨0,rfl,by rfl⟩
  ·cases h;exact⟨1,rfl,by rfl⟩
  ·cases h
 rintro r S' ⟨rfl,rfl⟩
 have hbn:∀n:Nat,dG 3 (bp 2 1 n)=true:=λn=>by
  unfold bp;split
  ·exact fN rfl
  ·rfl
 refine⟨by simp only[BU,eM,bj,ah,ap,aS,decide_true,↓gi,↓hbn,↓vC 3 lc most q.1 (by decide)];first | done | rfl,3,cond q.1 .ready .done,cond q.1 none (some (.exit 0)),[(5,.ip [aa most]),(9,.ptr 0 0)],by rfl,by cases q.1<;>decide,by rfl,?_⟩;have hrl3:∀(B:Nat) (ok:Bool),nM (jH [3,0,1] B) (cN lc most ok)=.loop lc (cond ok .ready .done) (cond ok none (some (.exit 0))) [(5,.ip [aa most]),(9,.ptr 0 0)]:=λB ok=>rfl
 have hrn3:∀(B n:Nat),nM (jH [3,0,1] B) (.cells [bp 2 1 n])=.cells [bp 1 1 n]:=λB n=>by
  show SO.cells [fY _ _]=_;rw[eg];rfl
 have hS2:(fJ (gS (gS [SO.cells [cI],SO.gone] (SO.oT N)) (SO.loop lc .ready none [(5,.ip [aa most]),(9,.ptr 0 0)])) [3,0,1] [2] [cN lc most q.1,.cells [bp 2 1 q.2.length],sw q.2]).set 3 .gone=[.cells [bp 1 1 q.2.length],sw q.2,.oT N,.gone]:=by
  simp only[fJ,gS,dx,dT,jx,jF,a7,length_nil,List.map,al,a6,↓hrl3,↓hrn3,↓jz];rfl
 rw[hS2];cases hq1:q.1
 all_goals
  (first | refine aq.exit ?_ | skip)
  change aq _ _ _ ⟨[(5,.ip [aa most]),(9,.ptr 0 0)],39,[.cells [bp 1 1 q.2.length],sw q.2,.oT N,.gone],[{ fn:=none,qG:=N,args:=[],cap:=[] }]⟩ _;by_cases ho:q.2=[]
  ·rw[t8 ho] at hN;rw[ho,EA,show bp 1 1 ([]:List (List Int)).length=cI from rfl]
   refine(xS)<|(zV) ?_;refine aq.ret ?_
   (try simp only[fG,dH,cB,bX])
   exact⟨rfl,[(6,cI),(7,aa 21)],⟨rfl,rfl,trivial⟩,rfl,.inl ⟨rfl,2,rfl,[cI,aa 21],.bC [.sl 0 1 [],aa 21],by rfl,.bC (.cons (.nil _) (.cons (.a _) .nil)),by rw[hN];rfl⟩⟩
  ·rw[ul ho] at hN;have hk1:¬q.2.length=0:=λh=>ho (length_eq_zero_iff.1 h);rw[PO ho,bU hk1]
   refine(az (show decide ((q.2.length:Int)=0)=false by simp only[wd];omega))<|(iY) ?_;refine aq.ret ?_
   (try simp only[fG,dH,cB,bX])
   exact⟨rfl,[(6,.buf 1 q.2.length 1 none),(7,aa 0)],⟨rfl,rfl,trivial⟩,rfl,.inl ⟨rfl,2,rfl,[.buf 1 q.2.length 1 none,aa 0],.bC [ah 1 q.2 fZ,aa 0],by rfl,.bC (.cons (.buf rfl (by rw[c9 rN];exact bl.refl (aA mH _)) (by rw[aL rN];exact a9 _)) (.cons (.a _) .nil)),by rw[hN]⟩⟩
open Go.Proofs.Tryz renaming func49 -> vaa in
open Go.Ev renaming Hj -> vab in
open Go.Proofs renaming aB -> vac in
def Ig{l:List (br)}(p:br->Bool){fid:FuncId}{first cap:List SV}(hlen:l.length<=1000000)(hp:∀x∈l,PC prog fid ((first++[.ag (aB x)])++cap) (·=au (p x)))(hg:cm first=true/\cm cap=true):PC prog 49 [ah 2 l aB,.fn fid first cap] (·=aa (jv p l)):=by
 have vad:=@aB.eq_1;exact zy
def xB{l:List (br)}(p:br->Bool){fid:FuncId}{first cap:List SV}(hlen:l.length<=1000000)(hp:∀x∈l,PC prog fid ((first++[.ag (aB x)])++cap) (·=au (p x)))(hg:cm first=true/\cm cap=true):PC prog 18 [ah 2 l aB,.fn fid first cap] (·=au (l.any p)):=by
 refine pB 9 Tryz.func18 ?_;exact(kK)<|(zK (Ig p hlen hp hg) (hwk:=.cons (Wk.sl _ _ _) (.cons (.fn (bl.refl hg.1) (bl.refl hg.2)) .nil)))<|(zR)<|zo [.tmp 4] (hq:=by rw[yw])
def KZ(r:br)(hr:eh r):PC prog 51 [.ag (aB r)] (·=au (!(Proofs.fX r))):=by
 refine pB 6 Tryz.func51 ?_;exact(az @aB.eq_1)<|(zC)<|(zK (oA r hr))<|(zR)<|zo [.tmp 2]
def VE(c:List aQ)(l:List br):List Int×Int:=if (ly c l 1).2=0 then ((ly c l 1).1.headD [],0) else ([],(ly c l 1).2)
def OC{c:List aQ}{l:List br}{most:Int}(h:(ly c l most).2=0):(ly c l most).1≠[]:=by
 unfold ly at h ⊢;split at h
 ·cases h
 split at h
 ·cases h
 rename_i h1 h2;rw[ul h1,ul h2];split at h
 ·rename_i h3;rw[t8 h3];split at h
  ·cases h
  ·rename_i h4;rw[ul h4];exact h4
 ·rename_i h3;exact t7 h h3
def bJ(w:Wy):List SV:=[ab w.kind,ab w.cR,aa w.days,aa w.km,aa w.wy]
def bN(c:Co):List SV:=[ab c.part,ab c.owner,aa c.day,aa c.am]
def lC(w:Wy):bJ w=[ab w.kind,ab w.cR,aa w.days,aa w.km,aa w.wy]:=rfl
def dV(c:Co):bN c=[ab c.part,ab c.owner,aa c.day,aa c.am]:=rfl
def Dw(n:Int):PC prog 66 [aa n] (·=au (GQ n)):=by
 refine pB 9 Tryz.func66 ?_;unfold GQ;refine(zV) ?_;cases g:decide (0<=n)
 ·exact(az g)<|zo [.tmp 2]
 ·exact(az g)<|zo [.tmp 2]
def HW(n:Int):PC prog 67 [aa n] (·=au (x4 n)):=by
 refine pB 9 Tryz.func67 ?_;unfold x4;refine(zV) ?_;cases g:decide (0<=n)
 ·exact(az g)<|zo [.tmp 2]
 ·exact(az g)<|zo [.tmp 2]
def xM(ws:List Wy)(c:Co)(hw:∀w∈ws,w.fits)(hc:c.fits)(hlen:ws.length<=1000):PC prog 34 [ah 5 ws bJ,.ag (bN c)] (·=au (ej ws c)):=by
 refine pB 70 Tryz.func34 ?_;rw[dV];refine(zV) ?_;refine aq.fg (Fg.freeze (f':=[(0,ah 5 ws bJ),(3,.ip [ab c.part,ab c.owner,aa c.day,aa c.am])]) 0 rfl (λh=>by cases h) (sh @ah.eq_1)) ?_;refine aq.fg (st':=⟨[(0,ah 5 ws bJ),(3,.ip [ab c.part,ab c.owner,aa c.day,aa c.am])],70,[],[]⟩) zH ?_
 (try change aq _ _ _ _ _)
 refine(mO)<|(zV) ?_
 have hlen6:ws.length<=1000000:=by omega
 refine(zs) ?_;refine zL ws (λk=>(ws.take k).all Wy.ok=true) (λk=>[(3,.ip [ab c.part,ab c.owner,aa c.day,aa c.am]),(5,.fn 66 [] []),(6,.fn 67 [] []),(9,ah 5 ws bJ),(10,aa ws.length),(11,aa k)]) (λk=>[]) zH zp ?_;intro k hk hall;refine zT ws k ?_ ?_;rintro rfl;rotate_left;intro w hx hlt;rotate_left
 ·refine(eN) ?_;rw[a8] at hall
  have hN:ej ws c=c.ok:=by rw[ej,hall];rfl
  rw[hN];unfold Co.ok
  refine(zC)<|(zK (ft c.part ⟨hc.p,hc.pb⟩)) ?_
  cases h1:cC c.part
  ·exact(zR)<|zo [.tmp 4]
  refine(zQ)<|(zK (ft c.owner ⟨hc.o,hc.ob⟩)) ?_
  cases h2:cC c.owner
  ·exact(zR)<|zo [.tmp 4]
  refine(zQ)<|(zK (Dw c.day)) ?_
  cases h3:GQ c.day
  ·exact(zR)<|zo [.tmp 4]
  exact(zQ)<|(zK (HW c.am))<|(zR)<|zo [.tmp 4]
 have hwm:=a5 hx;have hwf:=hw w hwm
 have hbad:w.ok=false->ej ws c=false:=λh=>by
  have:ws.all Wy.ok=false:=Bool.eq_false_iff.2 λh2=>by
   have:=all_eq_true.1 h2 w hwm;rw[h] at this;cases this
  rw[ej,this];rfl
 have hgood:w.ok=true->(ws.take (k+1)).all Wy.ok=true:=λh=>by
  rw[bz hx,dk,hall];show(true&&(w.ok&&true))=true;rw[h];rfl
 refine(gh)<|(az (n3 hlt (aH (e:=5) (enc:=bJ) (λ_=>rfl) hx) @lC))<|(zC)<|(zK (ft w.kind ⟨hwf.k,hwf.kb⟩)) ?_
 cases h1:cC w.kind
 ·exact(zR)<|(cM)<|zo [.tmp 4] (hq:=by rw[hbad (by rw[Wy.ok,h1];rfl)])
 refine(zQ)<|(zK (ft w.cR ⟨hwf.m,hwf.mb⟩)) ?_
 cases h2:cC w.cR
 ·exact(zR)<|(cM)<|zo [.tmp 4] (hq:=by rw[hbad (by rw[Wy.ok,h1,h2];rfl)])
 refine(zQ)<|(zK (Dw w.days)) ?_
 cases h3:GQ w.days
 ·exact(zR)<|(cM)<|zo [.tmp 4] (hq:=by rw[hbad (by rw[Wy.ok,h1,h2,h3];rfl)])
 refine(zQ)<|(zK (HW w.km)) ?_
 cases h4:x4 w.km
 ·exact(zR)<|(cM)<|zo [.tmp 4] (hq:=by rw[hbad (by rw[Wy.ok,h1,h2,h3,h4];rfl)])
 cases h5:decide (w.wy<0);rotate_left
 ·exact(cK h5)<|(cM)<|zo [.tmp 4] (hq:=by rw[hbad (by rw[Wy.ok,show decide (0<=w.wy)=false by have:=ww h5;simp;omega];simp)])
 cases h6:decide (100<w.wy);rotate_left
 ·exact(cK (n2 h5 h6))<|(cM)<|zo [.tmp 4] (hq:=by rw[hbad (by rw[Wy.ok,show decide (w.wy<=100)=false by have:=ww h6;simp;omega];simp)])
 refine(cK (n2 h5 h6))<|(zN) ?_
 have hok:w.ok=true:=by
  have:=wt h5;have:=wt h6;rw[Wy.ok,h1,h2,h3,h4,show decide (0<=w.wy)=true by simp;omega,show decide (w.wy<=100)=true by simp;omega];rfl
 refine(az (zi hlt hlen6)) ?_;refine zX hlt zH (hgood hok)
def sM(x lo hi:Int):PC prog 119 [aa x,aa lo,aa hi] (·=au (decide (lo<=x)&&decide (x<=hi))):=by
 refine pB 15 Tryz.func119 ?_;refine(zV) ?_;cases g:decide (lo<=x)
 ·exact(az g)<|zo [.tmp 6]
 ·exact(az g)<|zo [.tmp 6]
def B9(a p:Int)(ha:0<=a/\a<=1000000000000)(hp:0<=p/\p<=100):PC prog 72 [aa a,aa p] (·=.bC [aa (qy a p),aa 0]):=by
 refine pB 40 Tryz.func72 ?_;obtain⟨m1,m2⟩:=LM ha hp;have hm:=yo (P:=prog) (t:=3) (a:=a) (b:=p) ⟨by omega,by omega⟩
 have hpn:qy a p=if 100<2*(a*p%100)\/(2*(a*p%100)=100/\a*p/100%2≠0) then a*p/100+1 else a*p/100:=rfl
 rw[hpn];clear hpn;generalize a*p=m at *;have t1:m.tdiv 100=m/100:=Int.tdiv_eq_ediv_of_nonneg m1;have t2:m.tmod 100=m%100:=cl m1;have hq:=Rh (P:=prog) (t:=3) (a:=m) (b:=100) (by decide) (by rw[t1];omega);have hr:=Lj (P:=prog) (t:=3) (a:=m) (b:=100) (by decide);rw[t1] at hq;rw[t2] at hr;have h2:=yo (P:=prog) (t:=3) (a:=2) (b:=m%100) ⟨by omega,by omega⟩;have t3:(m/100).tmod 2=m/100%2:=cl (by omega);have hr2:=Lj (P:=prog) (t:=3) (a:=m/100) (b:=2) (by decide);rw[t3] at hr2
 refine(kK)<|(zK (sM a 0 1000000000000)) ?_
 rw[show(decide (0<=a)&&decide (a<=1000000000000))=true by simp;omega]
 refine(zQ)<|(zK (sM p 0 100)) ?_
 rw[show(decide (0<=p)&&decide (p<=100))=true by simp;omega]
 refine(zR)<|(zN)<|(az (n3 hm hq hr)) ?_
 cases c1:decide (100<2*(m%100))
 ·have c1':=wt c1;cases c2:decide (2*(m%100)=100)
  ·have c2':=wt c2
   exact(az (n3 h2 c1 c2))<|(iY)<|iP [.tmp 4,.tmp 5] (hq:=by rw[ul (by omega)])
  ·have c2':=ww c2;cases c3:decide (m/100%2=0)
   ·have c3':=wt c3
    refine(az (n5 h2 hr2 c1 c2 c3))<|(zY)<|(zs) ?_;refine aq.r0 (by rfl) (iZ (bA (m/100) 1 (by omega))) ?_;exact(zV)<|iP [.tmp 4,.tmp 5] (hq:=by rw[t8 (by omega)])
   ·have c3':=ww c3
    exact(az (n5 h2 hr2 c1 c2 c3))<|(iY)<|iP [.tmp 4,.tmp 5] (hq:=by rw[ul (by omega)])
 ·have c1':=ww c1
  refine(az (n2 h2 c1))<|(zY)<|(zs) ?_;refine aq.r0 (by rfl) (iZ (bA (m/100) 1 (by omega))) ?_;exact(zV)<|iP [.tmp 4,.tmp 5] (hq:=by rw[t8 (by omega)])
def Iu(day fr:Int)(hd:0<=day/\day<=40000):PC prog 173 [aa day,aa fr] (·=.ag [aa (ld day fr),aa (ld day fr)]):=by
 refine pB 19 Tryz.func173 ?_;refine(zV) ?_;cases g:decide (day<=fr)
 ·have hg:=wt g
  have hs:ld day fr=day-(if day-1000000000000<=fr then fr else day-1000000000000):=by rw[ld,ul hg]
  have hm:ee fr (day-1000000000000)=if day-1000000000000<=fr then fr else day-1000000000000:=rfl
  rw[<-hm] at hs
  have hb:fr<=ee fr (day-1000000000000)/\day-1000000000000<=ee fr (day-1000000000000)/\ee fr (day-1000000000000)<=40000:=by unfold ee;split<;>omega
  rw[hs];have hx:=fE fr (day-1000000000000);generalize ee fr (day-1000000000000)=m at hb hx
  exact(az g)<|(zN)<|(az (n3 (QV (P:=prog) (t:=3) (show -9223372036854775808<=day-1000000000000/\day-1000000000000<=9223372036854775807 from⟨by omega,by omega⟩)) hx (QV (P:=prog) (t:=3) (show -9223372036854775808<=day-m/\day-m<=9223372036854775807 from⟨by omega,by omega⟩))))<|(zV)<|zo [.cell 4 54]
 ·have hs:ld day fr=0:=by rw[ld,t8 (ww g)]
  rw[hs]
  exact(az g)<|(cM)<|zo [.cell 4 54]
def NW(p:aI)(day:Int)(hd:0<=day/\day<=40000):PC prog 178 [.ag (ak p),aa day,.ip [.fn 173 [] []]] (·=.ag [aa (ld day p.made),aa (ld day p.made)]):=by
 refine pB 11 Tryz.func178 ?_;exact(az @ak.eq_1)<|(zC)<|(zK (Iu day p.made hd))<|(zR)<|zo [.cell 5 54]
abbrev Tp:=List (List Nat×SV)
def pF{S:List SO}{o:Nat}{l:Tp}(s:List Nat)(u:SV)(hS:S[o]?=some (bB AV.str id l)):fD prog S 216 (.map o) (.a (.str s)) u=some (S.set o (bB AV.str id (cr s u l))):=
 HD (uv:=id) (kt:=9) (et:=214) (by simp only[an]) fF hS rfl u
def Rj:SV:=.ip [.fn 173 [] []]
def OY:Tp:=cr [97,103,101] (.fn 178 [] [Rj]) (cr [100,97,121,115] (.fn 177 [] [Rj]) (cr [100,97,109,97,103,101] (.fn 176 [] []) (cr [99,121,99,108,101,115] (.fn 175 [] []) (cr [107,109] (.fn 174 [] []) []))))
def Kj:PC prog 118 [] (·=oI AV.str id OY):=by
 refine pB 6 Tryz.func118 ?_;refine(mO) ?_;refine aq.fg (Fg.freeze (f':=[(1,.ip [.fn 173 [] []])]) 0 rfl (λh=>by cases h) zG) ?_;refine aq.fg (st':=⟨[(1,.ip [.fn 173 [] []])],6,[],[]⟩) zH ?_
 (try change aq _ _ _ _ _)
 have hm0:SO.map [] [] none=bB AV.str (id:SV->SV) []:=rfl;have p1:=λu=>pF (S:=[bB AV.str id []]) (o:=0) (l:=[]) [107,109] u rfl;have p2:=λ(l:Tp) u=>pF (S:=[bB AV.str id l]) (o:=0) (l:=l) [99,121,99,108,101,115] u rfl;have p3:=λ(l:Tp) u=>pF (S:=[bB AV.str id l]) (o:=0) (l:=l) [100,97,109,97,103,101] u rfl;have p4:=λ(l:Tp) u=>pF (S:=[bB AV.str id l]) (o:=0) (l:=l) [100,97,121,115] u rfl;have p5:=λ(l:Tp) u=>pF (S:=[bB AV.str id l]) (o:=0) (l:=l) [97,103,101] u rfl
 refine(az (n7 hm0 p1 p2 p3 p4 p5 @set_cons_zero.{0}))<|(zE) ?_;exact sP.of (rs:=[.tmp 0]) (r:=oI AV.str id OY) rfl rfl zl (by exact .map rfl (bl.refl rfl)) zq
def KK{S:List SO}{l:Tp}(s:List Nat)(ok:Bool):ec prog S 216 (oI AV.str id l) (.a (.str s)) ok=some (cond ok (.bC [getM (A6 (.fw)) s l,au (dr s l)]) (getM (A6 (.fw)) s l)):=
 PA (uv:=id) (u0:=A6 (.fw)) (k:=s) (kt:=9) (et:=214) (z:=.fw) (by simp only[an]) fF (by kernel_rfl) rfl rfl ok
def Wt:List Nat:=[97,103,101]
def IL(p:aI)(day:Int)(hd:0<=day/\day<=40000):PC prog 70 [.ag (ak p),ab [97,103,101],aa day] (·=.bC [.ag [aa (ld day p.made),aa (ld day p.made)],aa 0]):=by
 refine pB 32 Tryz.func70 ?_;refine(az @ak.eq_1) ?_;refine aq.fg (Fg.freeze (f':=[(1,ab [97,103,101]),(2,aa day),(3,.ip (ak p)),(6,.ptr 1 0),(7,aa 0)]) 0 rfl (λh=>by cases h) (sh @ak.eq_1)) ?_
 (try change aq _ _ _ _ _)
 have hg:getM (A6 (.fw)) [97,103,101] OY=.fn 178 [] [Rj]:=rfl;have hh:dr [97,103,101] OY=true:=rfl
 refine(zC)<|(zK Kj (hfl:=.inr (bl.refl rfl))) ?_;refine aG.r0 (by rfl) (by simp only[bI,bj,ah,an,ad,ax,↓reduceIte,ac,ap,a0,aj,aS,ae,ai,aN,KK (l:=OY) [97,103,101],hg,hh];first | done | rfl) ?_;exact(zB)<|(I4)<|(az (n2 (show decide (day<0)=false by simp only[wd];omega) (show decide (40000<day)=false by simp only[wd];omega)))<|(zN)<|(iC (n2 @ak.eq_1 @Rj.eq_1))<|(zK (NW p day hd))<|(zR)<|iP [.cell 6 54,.tmp 7]
def mU(ps:List aI)(name:List Nat):Option aI:=ps.find? λp=>decide (p.name=name)
def Pd{ps:List aI}{name:List Nat}{k:Nat}{p:aI}(hx:ps[k]?=some p)(hp:p.name=name)(hb:((ps.take k).all λp=>!(decide (p.name=name)))=true):mU ps name=some p:=by
 unfold mU;rw[cf];obtain⟨hlt,he⟩:=List.getElem?_eq_some_iff.1 hx;refine⟨by simpa using hp,k,hlt,he,λj hj=>?_⟩;have h1:=all_eq_true.1 hb (ps[j]'(by omega)) (by rw[List.mem_iff_getElem?];exact⟨j,by rw[List.getElem?_take,t8 hj];exact bc (by omega)⟩);simpa using h1
def Pe{ps:List aI}{name:List Nat}(hb:(ps.all λp=>!(decide (p.name=name)))=true):mU ps name=none:=by
 unfold mU;rw[cv];intro p hp;have h1:=all_eq_true.1 hb p hp;simpa using h1
def IZ:List SV:=[ab [],ab [],ab [],ab [],aa 0,aa 0,au false,cI,aa 0,aa 0,aa 0,aa 0,aa 0,aa 0]
def E9(ps:List aI)(name:List Nat)(hlen:ps.length<=1000000):PC prog 68 [.ag [ah 14 ps ak],ab name] (·=pw ak aI.zero (mU ps name)):=by
 refine pB 22 Tryz.func68 ?_;refine(zV) ?_;refine aq.fg (Fg.freeze (f':=[(1,ab name),(2,.ip [ah 14 ps ak]),(4,.ptr 1 0)]) 0 rfl (λh=>by cases h) (sh @ah.eq_1)) ?_
 (try change aq _ _ _ _ _)
 refine(zV)<|(zs) ?_;refine zL ps (λk=>((ps.take k).all λp=>!(decide (p.name=name)))=true) (λk=>[(1,ab name),(4,.ptr 1 0),(9,ah 14 ps ak),(10,aa ps.length),(11,aa k)]) (λk=>[.gone,.cells IZ]) (bK @IZ.eq_1) zp ?_;intro k hk hall;refine zT ps k ?_ ?_;rintro rfl;rotate_left;intro p hx hlt;rotate_left
 ·refine(eN) ?_;rw[a8] at hall;rw[Pe hall]
  exact(az @IZ.eq_1)<|iP [.cell 4 73,.tmp 5] (r:=.bC [.ag (ak aI.zero),au false]) (hw:=.bC (.cons (.ag (.cons (.a _) (.cons (.a _) (.cons (.a _) (.cons (.a _) (.cons (.a _) (.cons (.a _) (.cons (.a _) (.cons (.nil 2) (bl.refl rfl)))))))))) (bl.refl rfl)))
 refine(gh)<|(az (n4 hlt (aH (e:=14) (enc:=ak) (λ_=>rfl) hx) @ak.eq_1 @IZ.eq_1)) ?_
 cases he:decide (p.name=name)
 ·refine(az he)<|(zN)<|(az (zi hlt hlen)) ?_;refine zX hlt (bK (n2 @ak.eq_1 @IZ.eq_1)) (by rw[bz hx,dk,hall];show(true&&(!(decide (p.name=name))&&true))=true;rw[he];rfl)
 ·rw[Pd hx (ww he) hall]
  exact(az he)<|(zY)<|(az @ak.eq_1)<|iP [.cell 4 73,.tmp 5]
open Go.Proofs.Tryz renaming func71 -> vaa in
open Go.Ev renaming UK -> vab in
open Go.Proofs renaming bJ -> vac in
def KC{l:List (Wy)}(p:Wy->Bool){fid:FuncId}{first cap:List SV}(hlen:l.length<=1000000)(hp:∀x∈l,PC prog fid ((first++[.ag (bJ x)])++cap) (·=au (p x)))(hg:cm first=true/\cm cap=true):PC prog 71 [ah 5 l bJ,.fn fid first cap] (·=aa (jv p l)):=by
 have vad:=@lC;exact zy
def Ke(p:aI)(x:AV):Pt:=⟨p.name,p.kind,p.bG,p.slot,p.made,p.since,p.eP,x,p.l1,p.l2,p.l3,p.l4,p.l5,p.l6⟩
abbrev Li(l:List (List Nat×Int)):SV:=oI AV.str aa l
def l9(ws:List Wy)(ps:List aI)(c:Co):List (List Nat×Int):=pM ws ((mU ps c.part).map λp=>Ke p jG) c
def E7(w:Wy)(p:aI)(c:Co)(hd:0<=c.day/\c.day<=40000):PC prog 69 [.ag (bJ w),.ip (ak p),.ip (bN c)] (·=au (mh (Ke p jG) c w)):=by
 refine pB 35 Tryz.func69 ?_;have hv:=IL p c.day hd;rw[lC,dV]
 refine(az @ak.eq_1)<|(zC)<|(zK hv)<|(zR) ?_
 have hN:mh (Ke p jG) c w=(decide (w.kind=p.kind)&&(decide (ld c.day p.made<=w.days)&&decide (p.l2<=w.km))):=rfl;rw[hN];cases g1:decide (w.kind=p.kind)
 ·exact(az g1)<|zo [.tmp 4]
 cases g2:decide (ld c.day p.made<=w.days)
 ·exact(az (n2 g1 g2))<|zo [.tmp 4]
 refine(az (n2 g1 g2))<|(zE) ?_;exact sP.of (rs:=[.tmp 4]) rfl rfl zl (Wk.refl rfl) zq
def xH{S:List SO}{o:Nat}{l:List (List Nat×Int)}(s:List Nat)(ok:Bool)(hS:S[o]?=some (bB AV.str aa l)):ec prog S 101 (.map o) (.a (.str s)) ok=some (cond ok (.bC [aa (getM 0 s l),au (dr s l)]) (aa (getM 0 s l))):=
 CX (uv:=aa) (u0:=0) (k:=s) (kt:=9) (et:=3) (z:=.int .i64 0) (by simp only[an]) fF (by simp only[an]) rfl hS rfl ok
def tx{S:List SO}{o:Nat}{l:List (List Nat×Int)}(s:List Nat)(u:Int)(hS:S[o]?=some (bB AV.str aa l)):fD prog S 101 (.map o) (.a (.str s)) (aa u)=some (S.set o (bB AV.str aa (cr s u l))):=
 HD (uv:=aa) (kt:=9) (et:=3) (by simp only[an]) fF hS rfl u
def RB{α:Type}{p:α->Bool}{l:List α}:(l.find? p=none/\jv p l = -1)\/∃(k:Nat) (x:α),l.find? p=some x/\l[k]?=some x/\jv p l=(k:Int):=by
 cases h:l.findIdx? p with
 | none=>
  refine .inl ⟨?_,by unfold jv;rw[h]⟩;rw[cv];intro x hx;rw[List.findIdx?_eq_none_iff.1 h x hx];decide
 | some k=>
  obtain⟨hlt,h1,h2⟩:=List.findIdx?_eq_some_iff_getElem.1 h;refine .inr ⟨k,l[k],?_,bc hlt,by unfold jv;rw[h]⟩;rw[cf];exact⟨h1,k,hlt,rfl,λj hj=>by have:=h2 j hj;simpa using this⟩
def uY(ws:List Wy)(ps:List aI)(c:Co)(hlw:ws.length<=1000)(hlp:ps.length<=100000)(hok:ej ws c=true):PC prog 35 [ah 5 ws bJ,.ag [ah 14 ps ak],.ag (bN c)] (·=.bC [Li (l9 ws ps c),au (mU ps c.part).isSome]):=by
 have hko:(∀w∈ws,w.ok=true)/\c.ok=true:=by
  unfold ej at hok;rw[bo,all_eq_true] at hok;exact hok
 have hday:0<=c.day/\c.day<=40000:=by
  have:=hko.2;unfold Co.ok GQ at this;simp only[bo,wp] at this;omega
 have hcov:=λ(p:aI) (w:Wy)=>E7 w p c hday;refine pB 65 Tryz.func35 ?_;rw[dV];refine(zV) ?_;refine aq.fg (Fg.freeze (f':=[(0,ah 5 ws bJ),(4,.ip [ah 14 ps ak]),(5,.ptr 1 0)]) 0 rfl (λh=>by cases h) (sh @ah.eq_1)) ?_;refine aq.fg (Fg.freeze (f':=[(0,ah 5 ws bJ),(4,.ip [ah 14 ps ak]),(5,.ip (bN c))]) 1 rfl (λh=>by cases h) (sh (n2 @ah.eq_1 @dV))) ?_;refine aq.fg (st':=⟨[(0,ah 5 ws bJ),(4,.ip [ah 14 ps ak]),(5,.ip (bN c))],65,[],[]⟩) zH ?_
 (try change aq _ _ _ _ _)
 have hfi:=E9 ps c.part (by omega);have hbm:l9 ws ps c=pM ws ((mU ps c.part).map λp=>Ke p jG) c:=rfl;generalize mU ps c.part=fo at hfi hbm
 obtain⟨p,hp⟩:∃p,pw ak aI.zero fo=.bC [.ag (ak p),au fo.isSome]/\∀q,fo=some q->q=p:=by
  cases fo with
  | none=>exact⟨aI.zero,rfl,λq h=>by cases h⟩
  | some q=>exact⟨q,rfl,λq h=>by cases h;rfl⟩
 rw[hp.1] at hfi
 refine(iC @dV)<|(zK hfi (hfl:=.inr (bl.refl rfl)))<|(cK @ak.eq_1) ?_;refine aq.fg (Fg.freeze (f':=[(0,ah 5 ws bJ),(5,.ip (bN c)),(8,.ip (ak p)),(9,au fo.isSome)]) 0 rfl (λh=>by cases h) (sh (n2 @ah.eq_1 @ak.eq_1))) ?_;refine aq.fg (st':=⟨[(0,ah 5 ws bJ),(5,.ip (bN c)),(8,.ip (ak p)),(9,au fo.isSome)],65,[],[]⟩) zH ?_
 (try change aq _ _ _ _ _)
 have hm0:SO.map [] [] none=bB AV.str aa []:=rfl;refine(zs) ?_;refine aq.r0 (by rfl) (by simp only[bI,bj,ah,an,ad,ax,↓reduceIte,ac,ap,a0,aj,aS,ae,ai,aN,dV,hm0,tx (l:=[])];first | done | rfl) ?_;refine aq.fg (st':=⟨[(0,ah 5 ws bJ),(5,.ip (bN c)),(8,.ip (ak p)),(9,au fo.isSome),(10,.map 0)],65,[bB AV.str aa [(c.owner,c.am)]],[]⟩) (bK (n4 @bB.eq_1 @map_cons.{0,0} @map_nil.{0,0} @nil_append.{0})) ?_
 (try change aq _ _ _ _ _)
 refine(kK)<|(zK (KC (l:=ws) (mh (Ke p jG) c) (first:=[]) (cap:=[.ip (ak p),.ip (bN c)]) (by omega) (λx _=>hcov p x) ⟨rfl,rfl⟩))<|(zR) ?_
 cases hfo:fo with
 | none=>
  rw[hfo] at hbm
  refine(zs) ?_;refine aq.r0 (by rfl) (by simp only[bI,bj,ah,an,ad,ax,↓reduceIte,ac,ap,a0,aj,aS,ae,ai,aN,Option.isSome_none];first | done | rfl) ?_;exact(zN)<|(az hm0)<|iP [.tmp 6,.tmp 7] (r:=.bC [Li [(c.owner,c.am)],au false]) (hw:=.bC (.cons (oC (λ_=>rfl) rfl) (bl.refl rfl))) (hq:=by rw[hbm];rfl)
 | some q=>
  have hq:=hp.2 q hfo;subst hq;rw[hfo,ax] at hbm
  rcases RB (p:=mh (Ke q jG) c) (l:=ws) with⟨h1,h2⟩ | ⟨k,w,h1,hx,h2⟩
  ·rw[h2]
   have hb:l9 ws ps c=[(c.owner,c.am)]:=by rw[hbm];simp only[pM,h1]
   refine(zs) ?_;refine aq.r0 (by rfl) (by simp only[bI,bj,ah,an,ad,ax,↓reduceIte,ac,ap,a0,aj,aS,ae,ai,aN,eB];first | done | rfl) ?_;exact(zN)<|(az hm0)<|iP [.tmp 6,.tmp 7] (r:=.bC [Li [(c.owner,c.am)],au true]) (hw:=.bC (.cons (oC (λ_=>rfl) rfl) (bl.refl rfl))) (hq:=by rw[hb];rfl)
  ·rw[h2];obtain⟨_,hamr,hpr⟩:=Dd (hko.1 w (a5 hx)) hko.2;have hpb:=L3 hamr hpr;have hpc:=B9 c.am w.wy hamr hpr
   have hb:l9 ws ps c=cr w.cR (getM 0 w.cR (cr c.owner (c.am-qy c.am w.wy) [(c.owner,c.am)])+qy c.am w.wy) (cr c.owner (c.am-qy c.am w.wy) [(c.owner,c.am)]):=by rw[hbm];simp only[pM,h1]
   generalize qy c.am w.wy=n at hpb hpc hb
   have hg1:getM (0:Int) c.owner [(c.owner,c.am)]=c.am:=by simp[getM]
   have hgb:0<=getM (0:Int) w.cR (cr c.owner (c.am-n) [(c.owner,c.am)])/\getM (0:Int) w.cR (cr c.owner (c.am-n) [(c.owner,c.am)])<=1000000000000:=by
    rw[ic];split
    ·omega
    ·rename_i hne;rw[show getM (0:Int) w.cR [(c.owner,c.am)]=0 by simp[getM,hne]];omega
   have hlt:k<ws.length:=bf hx;generalize hB:cr c.owner (c.am-n) [(c.owner,c.am)]=B at hb hgb;generalize hgg:getM (0:Int) w.cR B=g at hb hgb;refine(zs) ?_;refine aq.r0 (by rfl) (by simp only[bI,bj,ah,an,ad,ax,↓reduceIte,ac,ap,a0,aj,aS,ae,ai,aN,eB,show decide ((0:Int)<=(k:Int))=true by simp];first | done | rfl) ?_;refine(zY) ?_
   (repeat refine aq.seq ?_)
   refine(zs) ?_;refine nQ [0,1,0,0,12,28,60,127,255,511,511,1023,4095] ?_;refine(me (n4 hlt (aH (e:=5) (enc:=bJ) (λ_=>rfl) hx) @lC @dV)) ?_;refine SD.k (by rfl) rfl rfl (by rfl) rfl rfl zc (hpc) (zw) rfl ?_;refine(zD)<|(zM)<|(zs) ?_;refine aq.r0 (by rfl) (by simp only[bI,bj,ah,an,ad,ax,↓reduceIte,ac,ap,a0,aj,aS,ae,ai,aN,dV,hm0,xH (l:=[(c.owner,c.am)]),hg1,yp (P:=prog) (t:=3) (show -9223372036854775808<=c.am-n/\c.am-n<=9223372036854775807 from⟨by omega,by omega⟩),tx (l:=[(c.owner,c.am)])];first | done | rfl) ?_;refine(zs) ?_;refine aq.r0 (by rfl) (by simp only[bI,bj,ah,an,ad,ax,↓reduceIte,ac,ap,a0,aj,aS,ae,ai,aN,hlt,aH (e:=5) (enc:=bJ) (λ_=>rfl) hx,lC,xH (l:=B),tx (l:=B),hB,hgg,rJ (P:=prog) (t:=3) (show -9223372036854775808<=g+n/\g+n<=9223372036854775807 from⟨by omega,by omega⟩)];first | done | rfl) ?_;refine(zs) ?_;refine aq.r0 (by rfl) zl ?_;refine(zE) ?_;exact sP.of (rs:=[.tmp 6,.tmp 7]) (r:=.bC [Li (cr w.cR (g+n) B),au true]) rfl rfl zl (by exact .bC (.cons (oC (λ_=>rfl) rfl) (bl.refl rfl))) (by (try simp only[df,aX]);first | done | (rw[hb];rfl))
def KG(L:List (List Nat×Int)):PC prog 74 [oI AV.str aa L] (·=.fn 121 [] [.ip [oI AV.str aa L]]):=by
 refine pB 4 Tryz.func74 ?_;refine(zV) ?_;refine aq.fg (Fg.freeze (f':=[(1,.ip [oI AV.str aa L])]) 0 rfl (λh=>by cases h) (sh @ah.eq_1)) ?_
 (try change aq _ _ _ _ _)
 exact(zV)<|zo [.tmp 2]
def ig(lc:gB):SO:=.loop lc .ready none [(2,.ptr 1 0)]
def JF(o:Nat)(lc:gB)(h:¬1=o):bO o (ig lc)=ig lc:=by
 simp[ig,bO,di,aM,Ev.names,h]
def yi(lc:gB):Prop:=(prog.funcs[(179:Nat)]?.bind λfn=>fn.body.bind oZ)=some (lc.a,lc.b)
def KF(L:List (List Nat×Int))(lc:gB)(hcd:yi lc)(hln:lc.n=13)(hlp:lc.ps=#[7])(hlen:L.length<=100000)(hnd:(L.map (·.1)).Nodup):
 SC prog 121 [.a (.fn (.yield lc.id) [] []),.ip [oI AV.str aa L]] [ig lc,.cells [cI],.gone] [2] (λr S'=>r=.bC []/\∃out:List (List Nat),out.Perm (L.map (·.1))/\S'=[ig lc,.cells [bp 2 1 out.length],ff out]):=by
 refine U0 14 func121 ?_;have hk3:=JF 3 lc (by decide);refine(zC) ?_;refine aG.Vt (ks:=L.map λe=>.str e.1) (vs:=L.map λe=>aa e.2) (by rfl) rfl rfl (by rfl) rfl (by simp only[an]) ?_;intro bs c hbs;refine aG.r0 (by rfl) (by simp only[bI,bj,ah,an,ad,ax,↓reduceIte,ac,ap,a0,aj,aS,ae,ai,aN,↓hk3];first | done | rfl) ?_
 (repeat refine aq.seq ?_)
 refine aq.block (aq.loop (λm st=>∃pos:List Nat,pos.Nodup/\(∀j∈pos,j<L.length)/\L.length-pos.length=m/\st=⟨[(0,.a (.fn (.yield lc.id) [] [])),(5,.ptr 3 0),(1000000,.ptr 0 0),(1000001,.ptr 1 0)],14,[ig lc,.cells [bp 2 1 (bq L pos).length],ff ((bq L pos).map (·.1)),.pd (L.map λe=>.str e.1) (L.map λe=>aa e.2) bs c pos],[]⟩) L.length (bK (n6 @bq.eq_1 @List.filterMap_nil.{0,0} @map_nil.{0,0} @length_nil.{0} @eO @kg)) ⟨[],c0,λj hj=>by simp at hj,rfl,rfl⟩ (by rintro m st ⟨pos,_,_,_,rfl⟩;rfl) ?_);rintro m st ⟨pos,hpn,hpl,rfl,rfl⟩;refine aq.post ?_;refine(zC) ?_;refine aG.Vp (by rfl) rfl rfl (by rfl) rfl rfl (λj hj=>by rw[al];exact hpl j hj) ?_ ?_
 ·intro hall
  refine(zR)<|(eN) ?_;refine⟨⟨[(1000000,.ptr 0 0),(1000001,.ptr 1 0)],14,[ig lc,.cells [bp 2 1 (bq L pos).length],ff ((bq L pos).map (·.1))],[]⟩,zH,?_⟩
  simp only[fG,dH,cB,bX,if_true];exact zP [] (hq:=by (try simp only[df,aX]);first | done | (exact⟨trivial,(bq L pos).map (·.1),(mY hpn hpl (λj hj=>hall j (by rw[al];exact hj))).map _,by rw[al]⟩))
 ·intro j hj hjn;rw[al] at hj;obtain⟨e,he⟩:∃e,L[j]?=some e:=⟨L[j],bc hj⟩;obtain⟨q1,q2,q3⟩:=pA hpn hpl hj hjn;have hsn:=lE L pos he
  refine(zR)<|(gh)<|(zC) ?_;refine aG.Vl (k:=.str e.1) (v:=aa e.2) (by rfl) rfl rfl (by rfl) rfl rfl (by rw[ay,he];rfl) (by rw[ay,he];rfl) ?_;refine(zR)<|(zC) ?_;refine aG.fg (st':=⟨[(10,.a (.fn (.yield lc.id) [] [])),(11,ab e.1),(0,.a (.fn (.yield lc.id) [] [])),(5,.ptr 3 0),(1000000,.ptr 0 0),(1000001,.ptr 1 0)],14,[ig lc,.cells [bp 2 1 (bq L pos).length],ff ((bq L pos).map (·.1)),.pd (L.map λe=>.str e.1) (L.map λe=>aa e.2) bs c (pos++[j])],[]⟩) zH ?_;refine aG.y (vs:=[ab e.1]) (oo:=0) (by rfl) rfl rfl (by rfl) rfl rfl rfl (by rfl) rfl (by rw[hlp];rfl) (by rw[hln];rfl) (by rw[hln];decide) (by rw[hlp,hln];rfl) λro'=>?_
  have hcd2:=hcd;unfold yi at hcd2;rw[e5] at hcd2;have hcd3:=Option.some.inj (hcd2.symm.trans (by rfl));obtain⟨ha,hbb⟩:=Prod.mk.inj hcd3;rw[ha,hlp,hln];have hhl:(bq L pos).length=((bq L pos).map (·.1)).length:=(al _).symm;rw[hhl]
  have hol:((bq L pos).map (·.1)).length<=100000:=by rw[<-hhl];exact b8 (bZ _ _) (by omega)
  generalize hout:(bq L pos).map (·.1)=out at hol;change aq _ _ _ ⟨[(7,ab e.1),(2,.ptr 1 0),(20000010,.a (.fn (.yield lc.id) [] [])),(20000011,ab e.1),(20000000,.a (.fn (.yield lc.id) [] [])),(20000005,.ptr 3 0),(21000000,.ptr 0 0),(21000001,.ptr 1 0)],13,[ig lc,.cells [bp 2 1 out.length],ff out,.pd (L.map λe=>.str e.1) (L.map λe=>aa e.2) bs c (pos++[j])],[]⟩ _;refine(zV) ?_;refine⟨rfl,0,none,[(2,.ptr 1 0)],rfl,?_⟩;rw[hbb];refine(zB) ?_;change aq _ _ _ ⟨_,13,[.loop lc .busy none [(2,.ptr 1 0)],.cells [bp 2 1 out.length],ff out,.pd (L.map λe=>.str e.1) (L.map λe=>aa e.2) bs c (pos++[j])],[]⟩ _;by_cases ho:out=[]
  ·have hE1:bp 2 1 (bq L (pos++[j])).length=.buf 2 1 1 none:=by rw[hsn,a6,hhl,hout,ho];rfl
   have hE2:ff ((bq L (pos++[j])).map (·.1))=.cells [ab e.1]:=by rw[hsn,bk,hout,ho];rfl
   rw[ho,kg,show bp 2 1 ([]:List (List Nat)).length=cI from rfl];refine(zV) ?_;refine⟨rfl,0,.busy,none,[(2,.ptr 1 0)],rfl,?_⟩;simp only[vp,laid,aj,b4,↓reduceIte]
   refine aG.fg (st':=⟨[(12,au true),(0,.a (.fn (.yield lc.id) [] [])),(5,.ptr 3 0),(1000000,.ptr 0 0),(1000001,.ptr 1 0)],14,[ig lc,.cells [.buf 2 1 1 none],.cells [ab e.1],.pd (L.map λe=>.str e.1) (L.map λe=>aa e.2) bs c (pos++[j])],[]⟩) (Fg.rn (f':=[(12,au true),(0,.a (.fn (.yield lc.id) [] [])),(5,.ptr 3 0),(1000000,.ptr 0 0),(1000001,.ptr 1 0)]) (n:=14) (S':=[ig lc,.cells [.buf 2 1 1 none],.cells [ab e.1],.pd (L.map λe=>.str e.1) (L.map λe=>aa e.2) bs c (pos++[j])]) [0,1,5,3] (by decide) rfl (I0 (n5 @ig.eq_1 @vK.eq_1 @vI.eq_1 @vJ.eq_1 @vp.eq_1)) (I1 (n5 @ig.eq_1 @vK.eq_1 @vI.eq_1 @vJ.eq_1 @vp.eq_1))) ?_;refine(zR)<|(zN) ?_;exact⟨⟨[(0,.a (.fn (.yield lc.id) [] [])),(5,.ptr 3 0),(1000000,.ptr 0 0),(1000001,.ptr 1 0)],14,[ig lc,.cells [.buf 2 1 1 none],.cells [ab e.1],.pd (L.map λe=>.str e.1) (L.map λe=>aa e.2) bs c (pos++[j])],[]⟩,(bK @ig.eq_1),L.length-(pos++[j]).length,_,by rw[a6];simp only[a7,length_nil];omega,(bK (n3 @ig.eq_1 hE1 hE2)),pos++[j],q1,q2,rfl,rfl⟩
  ·have hk1:¬out.length=0:=λh=>ho (length_eq_zero_iff.1 h)
   have hE1:bp 2 1 (bq L (pos++[j])).length=.buf 2 (out.length+1) 1 none:=by rw[hsn,a6,hhl,hout];exact bU (by simp)
   have hE2:ff ((bq L (pos++[j])).map (·.1))=.cells ((out++[e.1]).flatMap (aw ab)):=by rw[hsn,bk,hout];exact iq (by simp)
   have hcl3:=aL (enc:=aw ab) (e:=1) (λ_=>rfl) out;have hkc3:=λo=>aY (enc:=aw ab) (λ_=>rfl) o out;have happ:=en (enc:=aw ab) (e:=1) (λ_=>rfl) (λ_=>rfl) 2 out e.1;rw[show aw ab e.1=[ab e.1] from rfl,bi] at happ;rw[bi] at hcl3;rw[iq ho,bU hk1];refine(az (n6 hkc3 hcl3 @bi (show out.length<=1000000 by omega) @a9 happ)) ?_;refine⟨rfl,0,.busy,none,[(2,.ptr 1 0)],rfl,?_⟩;simp only[vp,laid,aj,b4,↓reduceIte]
   refine aG.fg (st':=⟨[(12,au true),(0,.a (.fn (.yield lc.id) [] [])),(5,.ptr 3 0),(1000000,.ptr 0 0),(1000001,.ptr 1 0)],14,[ig lc,.cells [.buf 2 (out.length+1) 1 none],.cells ((out++[e.1]).flatMap (aw ab)),.pd (L.map λe=>.str e.1) (L.map λe=>aa e.2) bs c (pos++[j])],[]⟩) (bK (n5 @ig.eq_1 @vp.eq_1 @vK.eq_1 @vI.eq_1 @vJ.eq_1)) ?_;refine(zR)<|(zN) ?_;exact⟨⟨[(0,.a (.fn (.yield lc.id) [] [])),(5,.ptr 3 0),(1000000,.ptr 0 0),(1000001,.ptr 1 0)],14,[ig lc,.cells [.buf 2 (out.length+1) 1 none],.cells ((out++[e.1]).flatMap (aw ab)),.pd (L.map λe=>.str e.1) (L.map λe=>aa e.2) bs c (pos++[j])],[]⟩,(bK @ig.eq_1),L.length-(pos++[j]).length,_,by rw[a6];simp only[a7,length_nil];omega,(bK (n3 @ig.eq_1 hE1 hE2)),pos++[j],q1,q2,rfl,rfl⟩
def HX(L:List (List Nat×Int))(hlen:L.length<=100000)(hnd:(L.map (·.1)).Nodup):SC prog 179 [cI,.fn 121 [] [.ip [oI AV.str aa L]]] [] [] (λr S'=>∃out:List (List Nat),out.Perm (L.map (·.1))/\r=bp 0 1 out.length/\S'=[ff out,.gone]):=by
 refine SC.sA (n:=13) dE e5 rfl rfl (by decide) (W:=[]) rfl (by decide) ?_;refine(mO) ?_;refine aq.fg (st':=⟨[(2,.ptr 0 0),(6,.fn 121 [] [.ip [oI AV.str aa L]])],13,[.cells [cI],.gone],[]⟩) zH ?_;refine(zB) ?_;refine aq.uF (f1:=[(2,.ptr 0 0)]) dE (by rfl) func121 (by rfl) Ut ?_;rintro N lc hid hn hps ha hb
 have hcd:yi lc:=by
  unfold yi;rw[e5,ha,hb];rfl
 have hsc:=KF L lc hcd hn hps hlen hnd;refine⟨[3,0,1],_,_,_,_,hsc,?_,rfl,by decide,?_,?_⟩
 ·simp only[eM,bj,bI,ah,di,aM,↓reduceIte,ac,ap,b4,hid,List.map,fu,dc,nil_append]
  try rfl
 ·rintro(_ | _ | _ | i) so h
  ·cases h;exact⟨3,rfl,by rfl⟩
  ·cases h;exact⟨0,rfl,by rfl⟩
  ·cases h;exact⟨1,rfl,by rfl⟩
  ·cases h
 rintro r S' ⟨rfl,out,hp,rfl⟩
 have hbn:∀n:Nat,dG 3 (bp 2 1 n)=true:=λn=>by
  unfold bp;split
  ·exact fN rfl
  ·rfl
 have hrn3:∀(B n:Nat),nM (jH [3,0,1] B) (.cells [bp 2 1 n])=.cells [bp 1 1 n]:=λB n=>by
  show SO.cells [fY _ _]=_;rw[eg];rfl
 refine⟨by simp only[ig,BU,eM,bj,ah,ap,aS,decide_true,↓je,↓hbn];first | done | rfl,3,.ready,none,[(2,.ptr 0 0)],by rfl,by decide,by rfl,?_⟩
 have hS2:(fJ (gS (gS [SO.cells [cI],SO.gone] (SO.oT N)) (SO.loop lc .ready none [(2,.ptr 0 0)])) [3,0,1] [2] [ig lc,.cells [bp 2 1 out.length],ff out]).set 3 .gone=[.cells [bp 1 1 out.length],ff out,.oT N,.gone]:=by
  simp only[fJ,gS,dx,dT,jx,jF,a7,length_nil,List.map,al,a6,↓hrn3,↓eW];rfl
 rw[hS2];change aq _ _ _ ⟨[(2,.ptr 0 0)],13,[.cells [bp 1 1 out.length],ff out,.oT N,.gone],[{ fn:=none,qG:=N,args:=[],cap:=[] }]⟩ _;refine(zV) ?_;refine aq.fg (st':=⟨[(4,bp 0 1 out.length)],13,[ff out,.oT N],[{ fn:=none,qG:=N,args:=[],cap:=[] }]⟩) (Fg.rn (f':=[(4,bp 0 1 out.length)]) (n:=13) (S':=[ff out,.oT N]) [1,2] (by decide) rfl (I0 (n2 @eg @eW)) (I1 (n2 @eg @eW))) ?_;refine aq.ret ?_
 (try simp only[fG,dH,cB,bX])
 exact⟨rfl,[(4,bp 0 1 out.length)],⟨rfl,trivial⟩,rfl,.inl ⟨rfl,1,rfl,⟨[bp 0 1 out.length],by rfl,out,hp,rfl,rfl⟩,bY _,λi hi=>t7 hi (ey _)⟩⟩
def BZ(L:List (List Nat×Int))(hlen:L.length<=100000)(hnd:(L.map (·.1)).Nodup):SC prog 120 [.fn 121 [] [.ip [oI AV.str aa L]]] [] [] (λr S'=>∃out:List (List Nat),out.Perm (L.map (·.1))/\r=bp 0 1 out.length/\S'=[ff out,.gone]):=by
 refine Mk 5 Tryz.func120 ?_;refine(kK) ?_;refine aG.sc [] (by rfl) rfl rfl (by rfl) rfl zc (HX L hlen hnd) (by simp only[eM,bj,ah];first | done | rfl) rfl (by decide) (λi so h=>by simp at h) ?_ ?_
 ·rintro r S' ⟨out,hp,rfl,rfl⟩;exact⟨jO 1 1 _,by simp only[BU,↓je];first | done | rfl⟩
 ·rintro r S' ⟨out,hp,rfl,rfl⟩;have e1:fY (jH [] ([]:List SO).length) (bp 0 1 out.length)=bp 0 1 out.length:=eg _ 0 1 _
  have e2:fJ [] [] [] [ff out,.gone]=[ff out,.gone]:=by
   simp only[fJ,dT,jx,jF,a7,length_nil,List.map,↓eW];rfl
  rw[e1,e2]
  refine aG.fg (st':=⟨[(4,bp 0 1 out.length)],5,[ff out,.gone],[]⟩) zH ?_;refine(zR)<|(zE) ?_;exact zP [.tmp 2] (hq:=by (try simp only[df,aX]);first | done | (exact⟨out,hp,rfl,rfl⟩))
def FE(L:List (List Nat×Int))(hlen:L.length<=100000)(hnd:(L.map (·.1)).Nodup)(hne:L≠[]):SC prog 73 [.fn 121 [] [.ip [oI AV.str aa L]]] [] [] (λr S'=>r=.buf 0 L.length 1 none/\S'=[.cells ((dM (L.map (·.1))).flatMap (aw ab))]):=by
 refine Mk 9 Tryz.func73 ?_;refine(kK) ?_;refine aG.sc [] (by rfl) rfl rfl (by rfl) rfl zc (BZ L hlen hnd) (by simp only[eM,bj,ah];first | done | rfl) rfl (by decide) (λi so h=>by simp at h) ?_ ?_
 ·rintro r S' ⟨out,hp,rfl,rfl⟩;exact⟨jO 1 1 _,by simp only[BU,↓je];first | done | rfl⟩
 ·rintro r S' ⟨out,hp,rfl,rfl⟩;have e1:fY (jH [] ([]:List SO).length) (bp 0 1 out.length)=bp 0 1 out.length:=eg _ 0 1 _
  have e2:fJ [] [] [] [ff out,.gone]=[ff out,.gone]:=by
   simp only[fJ,dT,jx,jF,a7,length_nil,List.map,↓eW];rfl
  rw[e1,e2]
  have hol:out.length=L.length:=by rw[hp.length_eq,al]
  have hon:out≠[]:=λe=>hne (length_eq_zero_iff.1 (by rw[<-hol,e];rfl));have hso:dM out=dM (L.map (·.1)):=tp hp;have hss:=tC out (by omega) hon;rw[hso,hol] at hss;have hcs:∀(r:Nat->Nat) (q:List (List Nat)),lr r (q.flatMap (aw ab))=q.flatMap (aw ab):=λr q=>bg (aA (λ_=>rfl) q);have hcb:∀(B:Nat) (q:List (List Nat)),gC B (q.flatMap (aw ab))=true:=λB q=>bF (aA (λ_=>rfl) q);have hck:∀(o:Nat) (q:List (List Nat)),(q.flatMap (aw ab)).map (aM o)=q.flatMap (aw ab):=λo q=>aY (enc:=aw ab) (λ_=>rfl) o q;rw[iq hon,hol,bU (λh=>hne (length_eq_zero_iff.1 h))]
  refine aG.fg (st':=⟨[(5,.buf 0 L.length 1 none)],9,[.cells (out.flatMap (aw ab))],[]⟩) zH ?_;refine(zR)<|(zC) ?_;refine zS [0] (n3 hcs hcb hck) hss ?_;refine(zR)<|(zV)<|(zE) ?_;exact zP [.tmp 2]
def eG(s:Sh):List SV:=[ab s.pt,aa s.am]
def vH(s:Sh):(eG s).length=2:=rfl
def vG(s:Sh):cm (eG s)=true:=rfl
def iA{S:List SO}{l:List (List Nat×Int)}(s:List Nat)(ok:Bool):ec prog S 101 (oI AV.str aa l) (.a (.str s)) ok=some (cond ok (.bC [aa (getM 0 s l),au (dr s l)]) (aa (getM 0 s l))):=
 PA (uv:=aa) (u0:=0) (k:=s) (kt:=9) (et:=3) (z:=.int .i64 0) (by simp only[an]) fF (by simp only[an]) rfl rfl ok
def kH(L:List (List Nat×Int)):List Sh:=vr L (dM (L.map (·.1)))
def Bq(L:List (List Nat×Int))(hlen:L.length<=100000)(hnd:(L.map (·.1)).Nodup)(hne:L≠[]):PC prog 36 [oI AV.str aa L] (·=ah 2 (kH L) eG):=by
 refine pB 28 Tryz.func36 ?_;refine(mO)<|(zC)<|(zK (KG L) (hfl:=.inr (bl.refl rfl))) ?_
 have hso:=FE L hlen hnd hne;unfold kH
 have hkl:(dM (L.map (·.1))).length=L.length:=by rw[(rp _).length_eq,al]
 generalize dM (L.map (·.1))=ks at hso hkl ⊢;have hcs:∀(r:Nat->Nat) (q:List (List Nat)),lr r (q.flatMap (aw ab))=q.flatMap (aw ab):=λr q=>bg (aA (λ_=>rfl) q);have hcb:∀(B:Nat) (q:List (List Nat)),gC B (q.flatMap (aw ab))=true:=λB q=>bF (aA (λ_=>rfl) q);refine zS [] (n2 hcs hcb) hso ?_;refine(zR) ?_;refine aq.fg (Fg.freeze (f':=[(0,oI AV.str aa L),(3,cI),(8,ah 1 ks (aw ab)),(9,aa ks.length),(10,aa 0)]) 0 rfl (λh=>by cases h) ⟨.inl rfl,.inl rfl,.inr (by rw[ny 1 ks (aw ab),hkl];exact .buf rfl (by rw[<-hkl,c9 (enc:=aw ab) (e:=1) (λ_=>rfl)];exact bl.refl (aA (λ_=>rfl) _)) (by rw[aL (enc:=aw ab) (e:=1) (λ_=>rfl),hkl];exact a9 _)),.inl (by rw[hkl];rfl),.inl rfl,trivial⟩) ?_
 (try change aq _ _ _ _ _)
 have hlen6:ks.length<=1000000:=by omega
 refine(zs) ?_;refine zL ks (λk=>True) (λk=>[(0,oI AV.str aa L),(3,bp 1 2 (vr L (ks.take k)).length),(8,ah 1 ks (aw ab)),(9,aa ks.length),(10,aa k)]) (λk=>q8 1 (vr L (ks.take k)) eG) (bK (n7 @take_zero.{0} @vr.eq_1 @List.filter_nil.{0} @map_nil.{0,0} @length_nil.{0} @eO @mA)) zp ?_;intro k hk hall;refine zT ks k ?_ ?_;rintro rfl;rotate_left;intro key hx hlt;rotate_left
 ·refine(eN) ?_;rw[a8]
  exact(zV)<|zo [.tmp 2] (r:=ah 2 (vr L ks) eG) (hw:=Mv vH vG _)
 have hfm:=QI L (ks.take k) key;rw[<-bz hx] at hfm;have hol:(vr L (ks.take k)).length<=k:=b8 (EW _ _) (by rw[bv];omega);generalize hO:vr L (ks.take k)=out at hol hfm;refine(gh) ?_;have hcl:=aL vH out;have hkc:=λo=>aY vG o out;by_cases hk0:out=[]
 ·rw[show q8 1 out eG=[] by rw[hk0];rfl,show bp 1 2 out.length=cI by rw[hk0];rfl];refine(az (n3 hlt (aH (e:=1) (enc:=aw ab) (λ_=>rfl) hx) @aw.eq_1)) ?_;cases g:decide (0<getM 0 key L)
  ·rw[ul (wt g)] at hfm
   have f1:bp 1 2 (vr L (ks.take (k+1))).length=cI:=by rw[hfm,hk0];rfl
   have f2:q8 1 (vr L (ks.take (k+1))) eG=[]:=by rw[hfm,hk0];rfl
   refine(zs) ?_;refine aq.r0 (by rfl) (by simp only[bI,bj,ah,an,ad,ax,↓reduceIte,ac,ap,a0,aj,aS,ae,ai,aN,iA (l:=L),g];first | done | rfl) ?_;refine(zs) ?_;refine aq.no rfl ?_;(try (refine aq.skip ?_;try change aq _ _ _ _ _));refine(zs) ?_;refine aq.r0 (by rfl) (iZ (qA (oH hlt hlen6 (by decide)))) ?_;refine⟨ks.length-(k+1),_,by omega,(Fg.less (Ue (n2 f1 f2)) (Uf (n2 f1 f2))),k+1,by omega,rfl,trivial,rfl⟩
  ·rw[t8 (ww g)] at hfm
   have f1:bp 1 2 (vr L (ks.take (k+1))).length=.buf 1 1 2 none:=by rw[hfm,hk0];rfl
   have f2:q8 1 (vr L (ks.take (k+1))) eG=[.gone,.cells (eG (⟨key,getM 0 key L⟩:Sh))]:=by rw[hfm,hk0];rfl
   refine(zs) ?_;refine aq.r0 (by rfl) (by simp only[bI,bj,ah,an,ad,ax,↓reduceIte,ac,ap,a0,aj,aS,ae,ai,aN,iA (l:=L),g];first | done | rfl) ?_;refine(zs) ?_;refine aq.yes rfl ?_;(try (refine aq.skip ?_;try change aq _ _ _ _ _));refine(zs) ?_;refine aq.r0 (by rfl) (by simp only[bI,bj,ah,an,ad,ax,↓reduceIte,ac,ap,a0,aj,aS,ae,ai,aN,iA (l:=L)];first | done | rfl) ?_;refine(az (zi hlt hlen6)) ?_;refine zX hlt (bK (n3 f1 f2 @eG.eq_1)) trivial
 ·have hk1:¬out.length=0:=λh=>hk0 (length_eq_zero_iff.1 h);rw[jk hk0,bU hk1];refine(az (n5 hlt (aH (e:=1) (enc:=aw ab) (λ_=>rfl) hx) @aw.eq_1 rh hkc)) ?_;cases g:decide (0<getM 0 key L)
  ·rw[ul (wt g)] at hfm
   have f1:bp 1 2 (vr L (ks.take (k+1))).length=.buf 1 out.length 2 none:=by rw[hfm,bU hk1]
   have f2:q8 1 (vr L (ks.take (k+1))) eG=[.gone,.cells (out.flatMap eG)]:=by rw[hfm,jk hk0];rfl
   refine(zs) ?_;refine aq.r0 (by rfl) (by simp only[bI,bj,ah,an,ad,ax,↓reduceIte,ac,ap,a0,aj,aS,ae,ai,aN,iA (l:=L),g,b9,hkc];first | done | rfl) ?_;refine(zs) ?_;refine aq.no rfl ?_;(try (refine aq.skip ?_;try change aq _ _ _ _ _));refine(zs) ?_;refine aq.r0 (by rfl) (iZ (qA (oH hlt hlen6 (by decide)))) ?_;refine⟨ks.length-(k+1),_,by omega,(Fg.less (Ue (n2 f1 f2)) (Uf (n2 f1 f2))),k+1,by omega,rfl,trivial,rfl⟩
  ·rw[t8 (ww g)] at hfm
   have f1:bp 1 2 (vr L (ks.take (k+1))).length=.buf 1 (out.length+1) 2 none:=by rw[hfm,a6];rfl
   have f2:q8 1 (vr L (ks.take (k+1))) eG=[.gone,.cells ((out++[(⟨key,getM 0 key L⟩:Sh)]).flatMap eG)]:=by rw[hfm,ng];rfl
   refine(zs) ?_;refine aq.r0 (by rfl) (by simp only[bI,bj,ah,an,ad,ax,↓reduceIte,ac,ap,a0,aj,aS,ae,ai,aN,iA (l:=L),g,b9,hkc];first | done | rfl) ?_;refine(zs) ?_;refine aq.yes rfl ?_;(try (refine aq.skip ?_;try change aq _ _ _ _ _));have happ:=en vH vG 1 out (⟨key,getM 0 key L⟩:Sh);rw[show eG (⟨key,getM 0 key L⟩:Sh)=[ab key,aa (getM 0 key L)] from rfl] at happ;refine(zs) ?_;refine aq.r0 (by rfl) (by simp only[bI,bj,ah,an,ad,ax,↓reduceIte,ac,ap,a0,aj,aS,ae,ai,aN,iA (l:=L),hcl,hkc,b9,show out.length<=1000000 by omega,a9,happ];first | done | rfl) ?_;refine(az (zi hlt hlen6)) ?_;refine zX hlt (bK (n2 f1 f2)) trivial
end Go.Proofs
namespace Go.Ev
noncomputable section
section
variable {P:Program} {ro:Option Nat} {S:List SO} {f:Fm} {n:Nat} {ds:List ja}
def aG.VH{all:List Oper}{o:Oper}{l:List Oper}{K:ez->Prop}{d t yt:Nat}{x:Operand}{y:Value}{ks:List AV}{vs:List SV}(hst:dJ all n [o]=true)(hop:o.op=.binOp .eql t x (.const y) yt)(hdst:o.dst=some d)(hw:cg all f o.guard=some true)
 (hx:eI f x=some (.im ks vs)) (hy:lO lR y=some (.map none)) (ht:iO P t=.map) (hg:P.eqGuardType P.depth t=false) (hk:aG P ro all l ⟨(d,.a (.bool false))::f,n,S,ds⟩ K):aG P ro all (o::l) ⟨f,n,S,ds⟩ K:=by
 rintro ρ0 h0 ⟨af,n',h,ds'⟩ ⟨rfl,rfl,θ,ρ,hR,hF⟩;obtain⟨hd,_⟩:=eJ hst;rw[hdst] at hd;obtain⟨a,ha,ka⟩:=bE hF hx;have ha':ev (dg af n') x=some a:=ha;obtain⟨kt,et,hu⟩:=Ek ht;have hyv:ev (dg af n') (.const y)=some (.map none):=hy;rw[VS,GS] at ka;obtain⟨id,lm,c,rfl,_⟩:=ka
 have hb:cS P .eql t (.map (some id)) (.map none)=some (.bool false):=by
  unfold cS;simp only[hg,ai,lM,hu,ax]
 refine .v hop hdst (cH hF (dN hst hw)) rfl hd (by rw[JW,ha',hyv,ad,ad,hb];rfl) ?_;exact hk ρ0 h0 _ ⟨rfl,rfl,θ,ρ,hR,hF.put (fz hd) (by rw[VS])⟩
def aG.ta{all:List Oper}{o:Oper}{l:List Oper}{K:ez->Prop}{d tt xt:Nat}{x:Operand}{v:SV}{kt et:TypeId}(hst:dJ all n [o]=true)(hop:o.op=.typeAssert x xt tt false)(hdst:o.dst=some d)(hw:cg all f o.guard=some true)
 (hx:eI f x=some (.iface tt v)) (hu:P.underlying tt=some (.map kt et)) (hk:aG P ro all l ⟨(d,v)::f,n,S,ds⟩ K):aG P ro all (o::l) ⟨f,n,S,ds⟩ K:=by
 rintro ρ0 h0 ⟨af,n',h,ds'⟩ ⟨rfl,rfl,θ,ρ,hR,hF⟩;obtain⟨hd,_⟩:=eJ hst;rw[hdst] at hd;obtain⟨a,ha,ka⟩:=bE hF hx;have ha':ev (dg af n') x=some a:=ha;rw[VS] at ka;obtain⟨y,rfl,ky⟩:=ka
 have hrun:ek P (dg af n') h (.typeAssert x xt tt false)=some [(some y,h)]:=by
  simp only[ek,hu,ha',fl,ae,ai];rfl
 refine .v hop hdst (cH hF (dN hst hw)) rfl hd hrun ?_;exact hk ρ0 h0 _ ⟨rfl,rfl,θ,ρ,hR,hF.put (fz hd) ky⟩
end
def SC.clone{P:Program}{g:FuncId}(hx:Bz P g .clone)(t:TypeId)(ks:List AV)(vs:List SV)(hg:cm vs=true):SC P g [.iface t (.im ks vs)] [] [] (λr S'=>r=.iface t (.map 0)/\S'=[.map ks vs none]):=by
 intro E θ ρ h avs hE hR hA;rw[aJ] at hA;obtain⟨a,r,rfl,h1,h2⟩:=hA;rw[aT] at h2;subst h2;rw[VS] at h1;obtain⟨y,rfl,h1⟩:=h1;rw[VS,GS] at h1;obtain⟨id,l,c,rfl,k1,k2,k3⟩:=h1
 have hm:h.mapOf id=some (l,c):=by
  have:=(hR.row id _ k1).2.1;rw[hE] at this;unfold H.mapOf;rw[show h.aU.get id=some (.map l c) from this]
 have hid:id<h.next:=by
  have:=(hR.row id _ k1).1;rw[hE] at this;exact this
 have key:h.low<=h.next->dy P (.func g) [.iface t (.map (some id))] h (λv h'=>∃r S' θ' ρ' h1,(r=SV.iface t (.map 0)/\S'=[SO.map ks vs none])/\h'={ h1 with low:=gE h.low h1.low }/\RS θ' ρ ρ' E h1 S'/\VS θ' ρ' r v/\([]:List SO).length<=S'.length/\∀i,i<([]:List SO).length->i∉([]:List Nat)->(θ' i).id=(θ i).id):=by
  intro hlow;refine(dy.UO hx (a:=.iface t (.map (some h.next))) (h':={ h.lay h.next (.map l c) with next:=h.next+1 }) (by unfold xA;simp only[hm,ax])).mono ?_;rintro a' h'' ⟨rfl,rfl⟩
  have hn:=hR.PN (so:=.map ks vs none) (ob:=.map l c) ⟨l,c,cX _ _ _,k2,by
   show cZ _ _ (vs.map (aM _)) _
   rw[bL hg];exact k3.vs⟩
  have e:gS [] (SO.map ks vs none)=[SO.map ks vs none]:=by
   show[SO.map ks (vs.map (aM 0)) none]=_;rw[bL hg]
  rw[hE,e] at hn;refine⟨_,_,_,ρ,_,⟨rfl,rfl⟩,?_,hn,?_,bY _,λi hi=>t7 hi (ey _)⟩
  ·show _=_;simp only[H.lay];rw[rY hlow]
  ·rw[VS];exact⟨_,rfl,by rw[VS];rfl⟩
 intro σ w args' hv hr;exact key hr.Ar σ w args' hv hr
end
end Go.Ev
namespace Go.Proofs
open Go.Ev
set_option maxRecDepth 100000
def E2(L:List (List Nat×Int)):SC prog 109 [oI AV.str aa L] [] [] (λr S'=>r=.map 0/\S'=[bB AV.str aa L]):=by
 refine Mk 9 Tryz.func109 ?_;have hcl:=SC.clone (P:=prog) IN 101 (L.map λe=>.str e.1) (L.map λe=>aa e.2) (eU (uv:=aa) (λ_=>rfl) L)
 refine(kK) ?_;refine aG.VH (by rfl) rfl rfl (by rfl) rfl rfl (by simp only[an]) (by kernel_rfl) ?_;refine(zR)<|(Sx) ?_;refine aG.fg (st':=⟨[(6,.iface 101 (oI AV.str aa L))],9,[],[]⟩) zH ?_
 have hrg:∀r:Nat->Nat,lr r (L.map λe=>aa e.2)=L.map λe=>aa e.2:=λr=>bg (eU (uv:=aa) (λ_=>rfl) L);have hbg:∀B:Nat,gC B (L.map λe=>aa e.2)=true:=λB=>bF (eU (uv:=aa) (λ_=>rfl) L)
 refine zS [] (n2 hrg hbg) hcl ?_;refine aG.ta (v:=.map 0) (kt:=9) (et:=3) (by rfl) rfl rfl (by rfl) rfl (by kernel_rfl) ?_;refine(zR)<|(zE) ?_;exact zP [.tmp 2]
def PG(b:List (List Nat×Int))(e:List Nat×Int):List Nat×Int:=(e.1,eX e.2 (getM 0 e.1 b))
def pk(out b:List (List Nat×Int)):List (List Nat×Int):=out.map (PG b)
def qY:List (List (List Nat×Int))->List (List Nat×Int)
 | []=>[]
 | b::bs=>bs.foldl pk b
def p8(out b:List (List Nat×Int))(pos:List Nat):List (List Nat×Int):=out.mapIdx λj e=>if j∈pos then PG b e else e
def uw(out b:List (List Nat×Int))(pos:List Nat):(p8 out b pos).length=out.length:=List.length_mapIdx
def pn(out b:List (List Nat×Int))(pos:List Nat)(j:Nat):(p8 out b pos)[j]?=(out[j]?).map λe=>if j∈pos then PG b e else e:=by
 unfold p8;rw[List.getElem?_mapIdx]
def PI(out b:List (List Nat×Int)):p8 out b []=out:=by
 apply bh;intro j;rw[pn];cases out[j]?<;>simp
def PH{out b:List (List Nat×Int)}{pos:List Nat}(h:∀j,j<out.length->j∈pos):p8 out b pos=pk out b:=by
 apply bh;intro j;rw[pn];unfold pk;rw[ay]
 cases hj:out[j]? with
 | none=>rfl
 | some e=>simp[h j (bf hj)]
def Np{out b:List (List Nat×Int)}{pos:List Nat}{j:Nat}{e:List Nat×Int}(he:out[j]?=some e):p8 out b (pos++[j])=(p8 out b pos).set j (PG b e):=by
 apply bh;intro i;rw[pn];by_cases hij:j=i
 ·subst hij;rw[List.getElem?_set_self (by rw[uw];exact bf he),he];simp
 ·rw[List.getElem?_set_ne hij,pn]
  have hm:i∈pos++[j]↔i∈pos:=by simp[Ne.symm hij]
  simp only[hm]
def No(out b:List (List Nat×Int))(pos:List Nat):(p8 out b pos).map (·.1)=out.map (·.1):=by
 apply bh;intro j;rw[ay,pn,ay]
 cases out[j]? with
 | none=>rfl
 | some e=>
  show some (if j∈pos then PG b e else e).1=some e.1;split<;>rfl
def Nn(out b:List (List Nat×Int)):(pk out b).map (·.1)=out.map (·.1):=by
 unfold pk;rw[cp];rfl
def dw(b:List (List Nat×Int)):List SV:=[oI AV.str aa b]
def wh(r:List (List Nat×Int))(bs:List Nat)(c:Nat):SO:=.map (r.map λe=>.str e.1) (r.map λe=>aa e.2) (some (bs,c))
def Nb(o:Nat)(r:List (List Nat×Int))(bs:List Nat)(c:Nat):bO o (wh r bs c)=wh r bs c:=by
 unfold wh;rw[bO]
 congr 1
 exact bL (eU (uv:=aa) (λ_=>rfl) r)
def Io{S:List SO}{o:Nat}{l:List (List Nat×Int)}{bs:List Nat}{c:Nat}(s:List Nat)(ok:Bool)(hS:S[o]?=some (wh l bs c)):ec prog S 101 (.map o) (.a (.str s)) ok=some (cond ok (.bC [aa (getM 0 s l),au (dr s l)]) (aa (getM 0 s l))):=
 uq (kv:=AV.str) (uv:=aa) (u0:=0) (k:=s) (kt:=9) (et:=3) (z:=.int .i64 0) (by simp only[an]) fF (by simp only[an]) rfl (by simp only[sY,hS,wh]) rfl ok
def KQ{S:List SO}{o:Nat}{l:List (List Nat×Int)}{bs:List Nat}{c:Nat}(s:List Nat)(u:Int)(hS:S[o]?=some (wh l bs c))(hh:dr s l=true):fD prog S 101 (.map o) (.a (.str s)) (aa u)=some (S.set o (wh (cr s u l) bs c)):=by
 have hm:cW prog 101=some (9,3):=by simp only[an]
 have hk:=fF;unfold fD;rw[hm,ad];simp only;rw[show cE (.a (.str s))=some (.str s) from rfl,ad,hk.ck,ae,hS];simp only[wh];rw[mJ hk,ad]
 cases hp:pz s l 0 with
 | none=>
  have hn:=iK hp;rw[hn] at hh;cases hh
 | some i=>
  obtain⟨_,u',h2,_,h4,_⟩:=gI hp;rw[cj] at h2;have h4:=h4 u;rw[cj] at h4;simp only[ay,h2,ax,ad,hk.st,ae,h4,eC]
def Rf{l:List (List Nat×Int)}{j:Nat}{e:List Nat×Int}(hn:(l.map (·.1)).Nodup)(he:l[j]?=some e):getM 0 e.1 l=e.2/\(∀v,cr e.1 v l=l.set j (e.1,v))/\dr e.1 l=true:=by
 cases hp:pz e.1 l 0 with
 | none=>
  have h1:=iK hp;simp only[dr,List.any_eq_false,wp] at h1;exact t7 rfl (h1 e (a5 he))
 | some i=>
  obtain⟨_,u,h2,h3,h4,h5⟩:=gI hp;rw[cj] at h2 h4
  have hij:i=j:=by
   refine(List.getElem?_inj (l:=l.map (·.1)) (by rw[al];exact bf h2) hn).1 ?_;simp only[ay,h2,he,ax]
  subst hij;rw[he] at h2;have hu:e.2=u:=congrArg snd (Option.some.inj h2);exact⟨by rw[hu];exact h3 0,h4,h5⟩
def CC:∀(bs:List (List (List Nat×Int))) (o:List (List Nat×Int)),(bs.foldl pk o).map (·.1)=o.map (·.1)
 | [],o=>rfl
 | b::bs,o=>by rw[ca,CC bs,Nn]
def Il(b0:List (List Nat×Int))(bs:List (List (List Nat×Int)))(hlen:bs.length<=100000)(hnd:(b0.map (·.1)).Nodup):PC prog 55 [ah 1 (b0::bs) dw] (·=oI AV.str aa (qY (b0::bs))):=by
 refine pB 35 Tryz.func55 ?_;have h0:0<(b0::bs).length:=Nat.zero_lt_succ _;have hat:=aH (e:=1) (enc:=dw) (λ_=>rfl) (show(b0::bs)[0]?=some b0 from rfl);rw[fs] at hat
 refine(zV)<|(iC (n4 h0 hat @fs @dw.eq_1)) ?_
 have hrg:∀(r:Nat->Nat) (L:List (List Nat×Int)),lr r (L.map λe=>aa e.2)=L.map λe=>aa e.2:=λr L=>bg (eU (uv:=aa) (λ_=>rfl) L);have hbg:∀(B:Nat) (L:List (List Nat×Int)),gC B (L.map λe=>aa e.2)=true:=λB L=>bF (eU (uv:=aa) (λ_=>rfl) L);refine zS [] (n3 @bB.eq_1 hrg hbg) (E2 b0) ?_;refine(zR) ?_;have hn1:1<=(b0::bs).length:=h0;refine(az (n2 hn1 @bi)) ?_;have hfa:=c9 (enc:=dw) (e:=1) (λ_=>rfl) bs;rw[bi] at hfa
 have e12:SV.sl ((b0::bs).length-1) 1 (List.take ((b0::bs).length-1) (List.drop 1 ((b0::bs).flatMap dw)))=.sl bs.length 1 (bs.flatMap dw):=by
  show SV.sl bs.length 1 (List.take bs.length (bs.flatMap dw))=_;rw[hfa]
 refine aq.fg (st':=⟨[(3,.map 0),(12,ah 1 bs dw),(13,aa bs.length),(14,aa 0)],35,[bB AV.str aa b0],[]⟩) (bK (n2 @bB.eq_1 e12)) ?_
 have hlen6:bs.length<=1000000:=by omega
 refine(zs) ?_;refine zL bs (λk=>True) (λk=>[(3,.map 0),(12,ah 1 bs dw),(13,aa bs.length),(14,aa k)]) (λk=>[bB AV.str aa ((bs.take k).foldl pk b0)]) (bK (n3 @bB.eq_1 @take_zero.{0} @foldl_nil.{0,0})) zp ?_;intro k hk hall;refine zT bs k ?_ ?_;rintro rfl;rotate_left;intro b hx hlt;rotate_left
 ·refine(eN) ?_;rw[a8]
  exact(zV)<|zo [.tmp 2] (r:=oI AV.str aa (bs.foldl pk b0)) (hw:=oC (λ_=>rfl) rfl)
 have hst:(bs.take (k+1)).foldl pk b0=pk ((bs.take k).foldl pk b0) b:=by rw[bz hx,bt];rfl
 have hok:(((bs.take k).foldl pk b0).map (·.1)).Nodup:=by rw[CC];exact hnd
 generalize (bs.take k).foldl pk b0=o at hst hok
 refine(gh)<|(az (n3 hlt (aH (e:=1) (enc:=dw) (λ_=>rfl) hx) @dw.eq_1))<|(zC) ?_;refine aG.Wl (oo:=0) (ks:=o.map λe=>.str e.1) (vs:=o.map λe=>aa e.2) (b:=none) (by rfl) rfl rfl (by rfl) rfl rfl (by simp only[an]) ?_
 intro bb c hbb;rw[al] at hbb;change aG _ _ _ _ ⟨_,_,gS [wh o bb c] _,_⟩ _;refine(cK @Nb) ?_
 (repeat refine aq.seq ?_)
 refine aq.block (aq.loop (λm st=>∃pos:List Nat,pos.Nodup/\(∀j∈pos,j<o.length)/\o.length-pos.length=m/\st=⟨[(3,.map 0),(5,oI AV.str aa b),(12,ah 1 bs dw),(13,aa bs.length),(14,aa k),(19,.ptr 1 0)],35,[wh (p8 o b pos) bb c,.iter (.map 0) bb c pos],[]⟩) o.length (bK @PI) ⟨[],c0,λj hj=>by simp at hj,rfl,rfl⟩ (by rintro m st ⟨pos,_,_,_,rfl⟩;rfl) ?_);rintro m st ⟨pos,hpn,hpl,rfl,rfl⟩;refine(zC) ?_;refine aG.Wh (ks:=(p8 o b pos).map λe=>.str e.1) (vs:=(p8 o b pos).map λe=>aa e.2) (by rfl) rfl rfl (by rfl) rfl rfl rfl (λj hj=>by rw[al,uw];exact hpl j hj) ?_ ?_
 ·intro hal
  refine(zR)<|(eN) ?_
  have hmin:p8 o b pos=pk o b:=PH λj hj=>hal j (by rw[al,uw];exact hj);rw[hmin];refine aq.fg (Fg.trans (Fg.K6 (S:=[wh (pk o b) bb c,.iter (.map 0) bb c pos]) (ks:=(pk o b).map λe=>.str e.1) (vs:=(pk o b).map λe=>aa e.2) (b:=some (bb,c)) 0 rfl) (b:=_) (c:=⟨[(3,.map 0),(12,ah 1 bs dw),(13,aa bs.length),(14,aa k)],35,[bB AV.str aa (pk o b)],[]⟩) (bK @bB.eq_1)) ?_
  (try change aq _ _ _ _ _)
  refine(az (zi hlt hlen6)) ?_;refine zX hlt (bK hst) trivial
 ·intro j hj hjn;rw[al,uw] at hj;obtain⟨e,he⟩:∃e,o[j]?=some e:=⟨o[j],bc hj⟩;obtain⟨q1,q2,q3⟩:=pA hpn hpl hj hjn
  have hme:(p8 o b pos)[j]?=some e:=by rw[pn,he];simp[hjn]
  obtain⟨l1,l2,l3⟩:=Rf (by rw[No];exact hok) hme
  have hsn:p8 o b (pos++[j])=cr e.1 (eX e.2 (getM 0 e.1 b)) (p8 o b pos):=by rw[Np he,l2];rfl
  refine(zR)<|(gh)<|(zC) ?_;refine aG.We (ks:=(p8 o b pos).map λe=>.str e.1) (vs:=(p8 o b pos).map λe=>aa e.2) (k:=.str e.1) (v:=aa e.2) (by rfl) rfl rfl (by rfl) rfl rfl rfl (by rw[ay,hme];rfl) (by rw[ay,hme];rfl) ?_;refine(zR) ?_
  have hlk:=Io (S:=[wh (p8 o b pos) bb c,.iter (.map 0) bb c (pos++[j])]) (o:=0) e.1 false rfl;have hpt:=KQ (S:=[wh (p8 o b pos) bb c,.iter (.map 0) bb c (pos++[j])]) (o:=0) e.1 (eX e.2 (getM 0 e.1 b)) rfl l3;rw[l1] at hlk;refine(zs) ?_;refine aq.r0 (by rfl) (by simp only[bI,bj,ah,an,ad,ax,↓reduceIte,ac,ap,a0,aj,aS,ae,ai,aN,hlk,iA (l:=b),iJ,hpt];first | done | rfl) ?_;exact⟨o.length-(pos++[j]).length,_,by rw[a6];simp only[a7,length_nil];omega,(bK hsn),pos++[j],q1,q2,rfl,rfl⟩
def RW(ss:List Sh)(party:List Nat):Int:=match ss.find? λs=>decide (s.pt=party) with
 | some s=>s.am
 | none=>0
def kL.of{ml:List (List Nat×Int)}{ss:List Sh}(h:kL ml ss)(k:List Nat):RW ss k=if 0<getM 0 k ml then getM 0 k ml else 0:=by
 obtain⟨ks,hp,_,rfl⟩:=h.ex;unfold RW
 cases hf:(vr ml ks).find? (λs=>decide (s.pt=k)) with
 | some s=>
  have h1:=List.find?_some hf;have h2:=cb hf;unfold vr at h2;obtain⟨k',hk',rfl⟩:=mem_map.1 h2;obtain⟨_,hpos⟩:=mem_filter.1 hk'
  have:k'=k:=by simpa using h1
  subst this;rw[t8 (by simpa using hpos)]
 | none=>
  rw[cv] at hf;by_cases hpos:0<getM 0 k ml
  ·have hh:dr k ml=true:=by
    cases hh:dr k ml
    ·rw[qS (u0:=(0:Int)) hh] at hpos;exact t7 hpos (by decide)
    ·rfl
   have hk:k∈ks:=hp.mem_iff.2 (ug.1 hh);have:=hf ⟨k,getM 0 k ml⟩ (mem_map.2 ⟨k,mem_filter.2 ⟨hk,by simpa using hpos⟩,rfl⟩);simp at this
  ·rw[ul hpos]
def kL.Vo{ml:List (List Nat×Int)}{ss:List Sh}(hn:(ml.map (·.1)).Nodup)(h:kL ml ss):ss.Pairwise λa b=>iD a.pt b.pt=true:=by
 obtain⟨ks,hp,hs,rfl⟩:=h.ex;have hkn:ks.Nodup:=hp.nodup_iff.2 hn
 have hst:ks.Pairwise λa b=>iD a b=true:=by
  have:=List.Pairwise.and hs hkn;refine this.imp λ{a b} ⟨h1,h2⟩=>?_
  rcases mz a b with h | h | h
  ·exact h
  ·exact t7 h h2
  ·rw[h1] at h;cases h
 unfold vr;rw[List.pairwise_map];exact hst.sublist List.filter_sublist
def kL.mem{ml:List (List Nat×Int)}{ss:List Sh}(h:kL ml ss)(s:Sh):s∈ss↔s.pt∈ml.map (·.1)/\0<getM 0 s.pt ml/\s.am=getM 0 s.pt ml:=by
 obtain⟨ks,hp,_,rfl⟩:=h.ex;unfold vr;rw[mem_map];constructor
 ·rintro⟨k,hk,rfl⟩;obtain⟨h1,h2⟩:=mem_filter.1 hk;exact⟨hp.mem_iff.1 h1,by simpa using h2,rfl⟩
 ·rintro⟨h1,h2,h3⟩;exact⟨s.pt,mem_filter.2 ⟨hp.mem_iff.2 h1,by simpa using h2⟩,by cases s;simp only at h3 ⊢;rw[h3]⟩
def kL.one{k:List Nat}{n:Int}{ss:List Sh}(h0:0<=n)(h:kL [(k,n)] ss):(ss.map Sh.am).sum=n/\ss.length<=2/\RW ss k=n:=by
 obtain⟨ks,hp,_,rfl⟩:=h.ex;have hks:ks=[k]:=List.perm_singleton.1 hp;subst hks
 have hg:getM (0:Int) k [(k,n)]=n:=by simp[getM]
 refine⟨?_,?_,?_⟩
 ·unfold vr;by_cases hpos:0<n
  ·simp[hg,hpos]
  ·simp[hg,hpos];omega
 ·exact b8 (EW _ _) (by simp)
 ·rw[h.of,hg];split<;>omega
def kL.two{k l:List Nat}{n m:Int}{ss:List Sh}(hne:k≠l)(h0:0<=n)(h1:0<=m)(h:kL [(k,n),(l,m)] ss):(ss.map Sh.am).sum=n+m/\ss.length<=2/\RW ss l=m:=by
 have hgk:getM (0:Int) k [(k,n),(l,m)]=n:=by simp[getM]
 have hgl:getM (0:Int) l [(k,n),(l,m)]=m:=by simp[getM,Ne.symm hne]
 have hof:=h.of l;obtain⟨ks,hp,_,rfl⟩:=h.ex;have hp:ks.Perm [k,l]:=hp;have hlen:ks.length=2:=hp.length_eq;refine⟨?_,?_,?_⟩
 ·have hcase:ks=[k,l]\/ks=[l,k]:=by
   match ks,hlen with
   | [a,b],_=>
    have ha:a∈[k,l]:=hp.mem_iff.1 (by simp);have hb:b∈[k,l]:=hp.mem_iff.1 (by simp);have hnd:[a,b].Nodup:=hp.nodup_iff.2 (by simp[hne]);simp only[mem_cons,b5,or_false] at ha hb;simp only[cc,mem_singleton] at hnd
    rcases ha with rfl | rfl<;>rcases hb with rfl | rfl
    ·exact t7 rfl hnd.1
    ·exact .inl rfl
    ·exact .inr rfl
    ·exact t7 rfl hnd.1
  rcases hcase with rfl | rfl<;>unfold vr<;>by_cases p1:0<n<;>by_cases p2:0<m<;>simp[hgk,hgl,p1,p2]<;>omega
 ·exact b8 (EW _ _) (by omega)
 ·rw[hof,hgl];split<;>omega
def rk{ws:List Wy}{c:Co}(h:ej ws c=true):(∀w∈ws,w.ok=true)/\c.ok=true:=by
 unfold ej at h;rw[bo,all_eq_true] at h;exact h
def SG{c:Co}(h:c.ok=true):0<=c.am/\c.am<=1000000000000:=by
 unfold Co.ok x4 at h;simp only[bo,wp] at h;omega
def ME{ws:List Wy}{p:Pt}{c:Co}(hr:ej ws c=true):
 (pM ws (some p) c=[(c.owner,c.am)]/\(ws.find? (mh p c)=none\/∃w,ws.find? (mh p c)=some w/\w.cR=c.owner))\/
 ∃w,ws.find? (mh p c)=some w/\w.cR≠c.owner/\pM ws (some p) c=[(c.owner,c.am-qy c.am w.wy),(w.cR,qy c.am w.wy)]/\0<=qy c.am w.wy/\qy c.am w.wy<=c.am:=by
 obtain⟨hws,hc⟩:=rk hr
 cases hf:ws.find? (mh p c) with
 | none=>exact .inl ⟨by simp only[pM,hf],.inl rfl⟩
 | some w=>
  obtain⟨_,hamr,hpr⟩:=Dd (hws w (cb hf)) hc;obtain⟨hn0,hn1⟩:=L3 hamr hpr;by_cases hm:w.cR=c.owner
  ·refine .inl ⟨?_,.inr ⟨w,rfl,hm⟩⟩;simp only[pM,hf,hm,cr,getM,if_true]
   have:c.am-qy c.am w.wy+qy c.am w.wy=c.am:=by omega
   rw[this]
  ·refine .inr ⟨w,rfl,hm,?_,hn0,hn1⟩;simp[pM,hf,cr,getM,hm]
abbrev yN:=List (List Nat×Nat)
def ru{S:List SO}{o:Nat}{l:yN}(s:List Nat)(ok:Bool)(hS:S[o]?=some (bB AV.str cD l)):ec prog S 100 (.map o) (.a (.str s)) ok=some (cond ok (.bC [cD (getM 0 s l),au (dr s l)]) (cD (getM 0 s l))):=
 CX (uv:=cD) (u0:=0) (k:=s) (kt:=9) (et:=3) (z:=.int .i64 0) (by simp only[an]) fF (by simp only[an]) rfl hS rfl ok
def KS{S:List SO}{o:Nat}{l:yN}(s:List Nat)(u:Nat)(hS:S[o]?=some (bB AV.str cD l)):fD prog S 100 (.map o) (.a (.str s)) (.a (.int .i64 (u:Int)))=some (S.set o (bB AV.str cD (cr s u l))):=
 HD (uv:=cD) (kt:=9) (et:=3) (by simp only[an]) fF hS rfl u
def j6{n:Nat}{l:yN}:bO n (bB AV.str cD l)=bB AV.str cD l:=kU λ_=>jr _
def oe(i:Nat)(st:List Nat×yN)(part:List Nat):List Nat×yN:=
 if dr part st.2=true then (Ah st.1 (getM 0 part st.2) i,st.2) else (st.1,cr part i st.2)
def CT(st:List Nat×yN)(r:br):List Nat×yN:=(q6 r).foldl (oe st.1.length) (st.1++[st.1.length],st.2)
def eV(l:List br):List Nat×yN:=l.foldl CT ([],[])
structure lN (n:Nat) (st:List Nat×yN):Prop where
 f:iR st.1
 l:st.1.length=n
 m:∀part,dr part st.2=true->getM 0 part st.2<n
def lN.part{n i:Nat}{st:List Nat×yN}(h:lN n st)(hi:i<n)(part:List Nat):lN n (oe i st part):=by
 unfold oe;split
 ·rename_i hh;obtain⟨a,b⟩:=RE h.f (i:=getM 0 part st.2) (k:=i) (by rw[h.l];exact h.m part hh) (by rw[h.l];exact hi);exact⟨a,b.trans h.l,h.m⟩
 ·refine⟨h.f,h.l,λq hq=>?_⟩;rw[ic];rw[Ac] at hq;split
  ·exact hi
  ·rename_i hne;refine h.m q ?_;simpa [hne] using hq
def lN.parts{n i:Nat}(hi:i<n):∀(ps:List (List Nat)) {st:List Nat×yN},lN n st->lN n (ps.foldl (oe i) st)
 | [],_,h=>h
 | p::ps,_,h=>lN.parts hi ps (h.part hi p)
def lN.new{n:Nat}{st:List Nat×yN}(h:lN n st):lN (n+1) (st.1++[st.1.length],st.2):=by
 refine⟨?_,by simp[h.l],λq hq=>Nat.lt_succ_of_lt (h.m q hq)⟩;intro j x hx;rw[List.getElem?_append] at hx;split at hx
 ·exact h.f j x hx
 ·rename_i hj
  cases hjj:j-st.1.length with
  | zero=>rw[hjj] at hx;simp at hx;omega
  | succ q=>rw[hjj] at hx;simp at hx
def lN.rep{n:Nat}{st:List Nat×yN}(h:lN n st)(r:br):lN (n+1) (CT st r):=by
 unfold CT;exact lN.parts (by rw[h.l];omega) _ h.new
def lN.rh:∀(l:List br) {n:Nat} {st:List Nat×yN},lN n st->lN (n+l.length) (l.foldl CT st)
 | [],_,_,h=>h
 | r::l,n,st,h=>by
  have:=lN.rh l (h.rep r);rw[a7,show n+(l.length+1)=n+1+l.length by omega];exact this
def rV(l:List br):lN l.length (eV l):=by
 have:=lN.rh l (n:=0) (st:=([],[])) ⟨λj x hx=>by simp at hx,rfl,λq hq=>by simp[dr] at hq⟩
 rwa [fm] at this
def ML(l:List (List Nat)):(fe l).length<=l.length:=by
 have:∀n (l:List (List Nat)),l.length=n->(fe l).length<=l.length:=by
  intro n
  induction n with
  | zero=>intro l h;rw[length_eq_zero_iff.1 h];exact a9 _
  | succ n ih=>
   intro l h
   rcases List.eq_nil_or_concat l with rfl | ⟨a,x,rfl⟩
   ·exact a9 _
   ·have ha:a.length=n:=by simpa using h
    have:=ih a ha;rw[List.concat_eq_append,sV];split<;>simp<;>omega
 exact this _ l rfl
def JQ(r:br):(q6 r).length<=2*r.opts.length:=by
 unfold q6 NM;split
 ·simp
 ·have h1:=ML (dM (r.opts.map cJ).flatten);have h2:(dM (r.opts.map cJ).flatten).length=(r.opts.map cJ).flatten.length:=(rp _).length_eq;have h3:=Eb 0 r.opts;omega
def UH(st:List Nat×yN):List SO:=bB AV.str cD st.2::(if st.1=[] then [] else [.gone,.cells (st.1.flatMap (aw cD))])
def yA(m:yN):UH ([],m)=[bB AV.str cD m]:=rfl
def G3{f:List Nat}{m:yN}(h:¬f=[]):UH (f,m)=[bB AV.str cD m,.gone,.cells (f.flatMap (aw cD))]:=by unfold UH;rw[ul h]
def Im(l:List br)(hl:∀r∈l,eh r)(hl2:∀r∈l,r.opts.length<=400000)(hlen:l.length<=1000000):
 SC prog 104 [ah 2 l aB] [] [] (λr S'=>r=.bC [bp 2 1 l.length,.map 0]/\S'=UH (eV l)):=by
 refine Mk 49 Tryz.func104 ?_;refine(mO)<|(mO)<|(zs) ?_;refine zL l (λk=>True) (λk=>[(0,ah 2 l aB),(4,bp 2 1 k),(5,.map 0),(13,aa l.length),(14,aa k)]) (λk=>UH (eV (l.take k))) (bK (n7 @take_zero.{0} @eO @eV.eq_1 @foldl_nil.{0,0} @yA @bB.eq_1 @map_nil.{0,0})) zp ?_;intro k hk hall;refine zT l k ?_ ?_;rintro rfl;rotate_left;intro r hx hlt;rotate_left
 ·refine(eN) ?_;rw[a8];have hok:=rV l;obtain⟨f,m,hfm⟩:∃f m,eV l=(f,m):=⟨_,_,rfl⟩;rw[hfm] at hok ⊢;by_cases h0:f=[]
  ·have h1:l.length=0:=by rw[<-hok.l,h0];rfl
   rw[h0,yA,show bp 2 1 l.length=cI by rw[h1];rfl]
   refine(zV)<|(zE) ?_;exact zP [.tmp 2,.tmp 3]
  ·have h1:¬l.length=0:=by rw[<-hok.l];exact λh=>h0 (length_eq_zero_iff.1 h)
   rw[G3 h0,bU h1]
   refine(zV)<|(zE) ?_;exact zP [.tmp 2,.tmp 3]
 have hrk:eh r:=hl r (a5 hx);have hr2:=hl2 r (a5 hx)
 have hok:lN k (eV (l.take k)):=by
  have:=rV (l.take k);rwa [bv,em hk] at this
 have hnext:eV (l.take (k+1))=CT (eV (l.take k)) r:=by
  unfold eV;rw[bz hx,bt];rfl
 obtain⟨f,mm,hfm⟩:∃f mm,eV (l.take k)=(f,mm):=⟨_,_,rfl⟩;rw[hfm] at hok hnext ⊢;have hfl:f.length=k:=hok.l;refine(gh) ?_;have happ:=en (enc:=aw cD) (e:=1) (λ_=>rfl) (λ_=>rfl) 2 f k;rw[hfl,show aw cD k=[cD k] from rfl,bi] at happ
 have hcl:(f.flatMap (aw cD)).length=k:=by rw[uC,hfl]
 refine(zV) ?_
 (repeat refine aq.seq ?_)
 refine aq.mono (Q:=λe st=>e=.normal/\Fg st ⟨[(0,ah 2 l aB),(4,.buf 2 (k+1) 1 none),(5,.map 0),(6,cD k),(13,aa l.length),(14,aa k)],49,[bB AV.str cD mm,.gone,.cells ((f++[k]).flatMap (aw cD))],[]⟩) ?_ ?_
 ·by_cases h0:f=[]
  ·have hk0:k=0:=by rw[<-hfl,h0];rfl
   rw[h0,yA,show bp 2 1 k=cI by rw[hk0];rfl];refine(az @j6) ?_;refine⟨rfl,(bK (n6 h0 @nil_append.{0} @flatMap_cons.{0,0} @List.flatMap_nil.{0,0} @aw.eq_1 hk0))⟩
  ·have h1:¬k=0:=λh=>h0 (length_eq_zero_iff.1 (by rw[hfl,h]));rw[G3 h0,bU h1];refine(az (n7 @j6 @ie hcl happ @bi @a9 (show k<=1000000 by omega))) ?_;refine⟨rfl,zH⟩
 rintro e st ⟨rfl,hfg⟩;refine aq.fg hfg ?_;clear hfg
 (try change aq _ _ _ _ _)
 refine(iC (n3 hlt (aH (e:=2) (enc:=aB) (λ_=>rfl) hx) @aB.eq_1))<|(zK (KN r hrk hr2) (hfl:=.inr (bl.refl rfl))) ?_
 have hst0:lN (k+1) (f++[k],mm):=by
  have:=hok.new;rw[hfl] at this;exact this
 have hnext2:eV (l.take (k+1))=(q6 r).foldl (oe k) (f++[k],mm):=by
  rw[hnext,CT];simp only;rw[hfl]
 have hns:=JQ r;generalize q6 r=ns at hnext2 hns
 have hnsl:ns.length<=1000000:=by omega
 refine(zR) ?_;have hinv:∀j,lN (k+1) ((ns.take j).foldl (oe k) (f++[k],mm)):=λj=>lN.parts (by omega) _ hst0;refine(zs) ?_;refine zL ns (λk2=>True) (λk2=>[(0,ah 2 l aB),(4,.buf 2 (k+1) 1 none),(5,.map 0),(6,cD k),(13,aa l.length),(14,aa k),(25,ah 1 ns (aw ab)),(26,aa ns.length),(27,aa k2)]) (λk2=>[bB AV.str cD ((ns.take k2).foldl (oe k) (f++[k],mm)).2,.gone,.cells (((ns.take k2).foldl (oe k) (f++[k],mm)).1.flatMap (aw cD))]) (bK (n2 @take_zero.{0} @foldl_nil.{0,0})) zp ?_;intro k2 hk2 hall2;refine zT ns k2 ?_ ?_;rintro rfl;rotate_left;intro part hx2 hlt2;rotate_left
 ·refine(eN) ?_;rw[a8,<-hnext2]
  have hok3:lN (k+1) (eV (l.take (k+1))):=by rw[hnext2];have:=hinv ns.length;rwa [a8] at this
  obtain⟨g,m3,hg⟩:∃g m3,eV (l.take (k+1))=(g,m3):=⟨_,_,rfl⟩;rw[hg] at hok3 ⊢
  have hg0:¬g=[]:=λh=>by have:=hok3.l;rw[h] at this;simp at this
  refine(zs) ?_;refine aq.r0 (by rfl) (iZ (qA (oH hlt hlen (by decide)))) ?_;refine⟨l.length-(k+1),_,by omega,(Fg.less (by (simp only[bI,bj,dI,↓reduceIte,ac,ah,hg,G3 hg0,Ey])<;>(repeat' apply b6)<;>first | rfl | trivial) (by (simp only[bI,bj,or_true,true_or,ah,hg,G3 hg0,Ey])<;>(repeat' apply b6)<;>first | exact .inr rfl | exact .inl rfl | trivial)),k+1,by omega,rfl,trivial,rfl⟩
 have hq1:(ns.take (k2+1)).foldl (oe k) (f++[k],mm)=oe k ((ns.take k2).foldl (oe k) (f++[k],mm)) part:=by
  rw[bz hx2,bt];rfl
 have hok2:=hinv k2;obtain⟨g,m2,hg⟩:∃g m2,(ns.take k2).foldl (oe k) (f++[k],mm)=(g,m2):=⟨_,_,rfl⟩;rw[hg] at hok2 hq1 ⊢;have hgl:g.length=k+1:=hok2.l
 refine(gh)<|(az (n3 hlt2 (aH (e:=1) (enc:=aw ab) (λ_=>rfl) hx2) @aw.eq_1))<|(zs) ?_;refine aq.r0 (by rfl) (by simp only[bI,bj,ah,an,ad,ax,↓reduceIte,ac,ap,a0,aj,aS,ae,ai,aN,ru (l:=m2)];first | done | rfl) ?_;refine(zV) ?_
 cases h1:dr part m2
 ·refine(zN)<|(zs) ?_;refine aq.r0 (by rfl) (by simp only[bI,bj,ah,an,ad,ax,↓reduceIte,ac,ap,a0,aj,aS,ae,ai,aN,KS (l:=m2)];first | done | rfl) ?_
  rw[oe,ul (by simp only;rw[h1];decide)] at hq1;refine(az (zi hlt2 hnsl)) ?_;refine zX hlt2 (bK hq1) trivial
 ·refine(zY) ?_;have hp:=hok2.m part h1;have hj:=N4 g (getM 0 part m2) k hok2.f (by rw[hgl];exact hp) (by omega) (by omega);rw[hgl] at hj;refine(zC) ?_;refine zS [2] (n4 @rl @nU @ie @j6) hj ?_;refine(zR) ?_;rw[oe,t8 (by simp only;exact h1)] at hq1;refine(az (zi hlt2 hnsl)) ?_;refine zX hlt2 (bK hq1) trivial
def EC(k:Nat)(st:List Nat×List Nat)(i:Nat):List Nat×List Nat:=
 ((gP (gP st.1 i).2 k).2,if (gP st.1 i).1=(gP (gP st.1 i).2 k).1 then st.2++[i] else st.2)
def mc(k:Nat)(f:List Nat)(n:Nat):List Nat×List Nat:=(List.range n).foldl (EC k) (f,[])
def pZ(l:List br)(part:List Nat):List Nat:=
 if dr part (eV l).2=true then (mc (getM 0 part (eV l).2) (eV l).1 l.length).2 else []
def LO(k:Nat)(f:List Nat)(n:Nat):mc k f (n+1)=EC k (mc k f n) n:=by
 unfold mc;rw[List.range_succ,bt];rfl
def AH{k:Nat}{f:List Nat}(hf:iR f)(hk:k<f.length):∀n,n<=f.length->iR (mc k f n).1/\(mc k f n).1.length=f.length/\(mc k f n).2.length<=n/\∀i∈(mc k f n).2,i<n
 | 0,_=>⟨hf,rfl,a9 _,λi hi=>by simp[mc] at hi⟩
 | n+1,hn=>by
  obtain⟨a1,a2,a3,a4⟩:=AH hf hk n (by omega);rw[LO,EC];obtain⟨b1,b2,_⟩:=qe (i:=n) a1 (by omega);obtain⟨c1,c2,_⟩:=qe (i:=k) b1 (by omega);refine⟨c1,by rw[c2,b2,a2],?_,?_⟩
  ·simp only;split
   ·rw[a6,List.length_singleton];omega
   ·omega
  ·intro i hi;simp only at hi;split at hi
   ·rcases mem_append.1 hi with h | h
    ·have:=a4 i h;omega
    ·have:=mem_singleton.1 h;omega
   ·have:=a4 i hi;omega
def Up(m:yN)(st:List Nat×List Nat):List SO:=bB AV.str cD m::.gone::.cells (st.1.flatMap (aw cD))::(if st.2=[] then [] else [.gone,.cells (st.2.flatMap (aw cD))])
def uz(m:yN)(f:List Nat):Up m (f,[])=[bB AV.str cD m,.gone,.cells (f.flatMap (aw cD))]:=rfl
def Hk{m:yN}{f o:List Nat}(h:¬o=[]):Up m (f,o)=[bB AV.str cD m,.gone,.cells (f.flatMap (aw cD)),.gone,.cells (o.flatMap (aw cD))]:=by unfold Up;rw[ul h]
def RQ(l:List Nat):(l.flatMap (aw cD)).take (l.length*1)=l.flatMap (aw cD):=c9 (enc:=aw cD) (λ_=>rfl) l
def Pj(l:yN):cm (l.map λe=>cD e.2)=true:=eU (λ_=>rfl) l
def Dh{r:Nat->Nat}{l:yN}:nM r (bB AV.str cD l)=bB AV.str cD l:=by
 unfold bB;rw[HK,bg (Pj l)]
def vB{B:Nat}{l:yN}:kD B (bB AV.str cD l)=true:=by
 unfold bB;rw[kD];exact bF (Pj l)
def N8(l:List br)(part:List Nat)(hl:∀r∈l,eh r)(hl2:∀r∈l,r.opts.length<=400000)(hlen:l.length<=1000000):
 PC prog 52 [ah 2 l aB,ab part] (·=ah 1 (pZ l part) (aw cD)):=by
 refine pB 42 Tryz.func52 ?_;have hL:=Im l hl hl2 hlen;have hok:=rV l;obtain⟨f,mm,hfm⟩:∃f mm,eV l=(f,mm):=⟨_,_,rfl⟩
 have hO:pZ l part=if dr part mm=true then (mc (getM 0 part mm) f l.length).2 else []:=by unfold pZ;rw[hfm]
 rw[hfm] at hL hok;have hfl:f.length=l.length:=hok.l;refine(kK) ?_;by_cases h0:f=[]
 ·have hk0:l.length=0:=by rw[<-hfl,h0];rfl
  have h1:dr part mm=false:=by
   cases h:dr part mm with
   | false=>rfl
   | true=>
    have:=hok.m part h;omega
  rw[h1] at hO;rw[h0,yA,show bp 2 1 l.length=cI by rw[hk0];rfl] at hL
  refine zS [] (n3 @Dh @vB @j6) hL ?_;refine(zR)<|(zs) ?_;refine aq.r0 (by rfl) (by simp only[bI,bj,ah,an,ad,ax,↓reduceIte,ac,ap,a0,aj,aS,ae,ai,aN,ru (l:=mm)];first | done | rfl) ?_;exact(az h1)<|(cM)<|zo [.tmp 4] (r:=.sl 0 1 []) (hw:=Wk.nil _) (hq:=by rw[hO];rfl)
 have hk0:¬l.length=0:=by rw[<-hfl];exact λh=>h0 (length_eq_zero_iff.1 h)
 rw[G3 h0,bU hk0] at hL
 refine zS [] (n6 @Dh @vB @j6 @rl @nU @ie) hL ?_;refine(zR)<|(zs) ?_;refine aq.r0 (by rfl) (by simp only[bI,bj,ah,an,ad,ax,↓reduceIte,ac,ap,a0,aj,aS,ae,ai,aN,ru (l:=mm)];first | done | rfl) ?_
 cases h1:dr part mm
 ·rw[h1] at hO
  exact(az h1)<|(cM)<|zo [.tmp 4] (r:=.sl 0 1 []) (hw:=Wk.nil _) (hq:=by rw[hO];rfl)
 rw[h1,t8 rfl] at hO;have hkl:=hok.m part h1;generalize hkk:getM 0 part mm=kk at hO hkl;have hf0:iR f:=hok.f;have hF:=AH (k:=kk) hf0 (by rw[hfl];exact hkl)
 refine(az h1)<|(iY)<|(zV)<|(zs) ?_;refine zL l (λk=>True) (λk=>[(5,.buf 2 l.length 1 none),(7,cD kk),(9,bp 4 1 (mc kk f k).2.length),(25,aa l.length),(26,aa k)]) (λk=>Up mm (mc kk f k)) (Fg.less (by (simp only[bI,bj,dI,↓reduceIte,ac,ah,hkk,mc,e6,foldl_nil,eO,length_nil,uz])<;>(repeat' apply b6)<;>first | rfl | trivial) (by (simp only[bI,bj,or_true,true_or,ah,hkk,mc,e6,foldl_nil,eO,length_nil,uz])<;>(repeat' apply b6)<;>first | exact .inr rfl | exact .inl rfl | trivial)) zp ?_;intro k hk hall;refine zT l k ?_ ?_;rintro rfl;rotate_left;intro r hx hlt;rotate_left
 ·refine(eN) ?_;obtain⟨a1,a2,a3,a4⟩:=hF l.length (by omega);obtain⟨g,o,hg⟩:∃g o,mc kk f l.length=(g,o):=⟨_,_,rfl⟩;rw[hg] at hO a3 ⊢;by_cases ho:o=[]
  ·subst ho;rw[uz,show bp 4 1 ([]:List Nat).length=cI from rfl]
   exact(zV)<|zo [.tmp 4] (r:=.sl 0 1 []) (hw:=Wk.nil _) (hq:=by rw[hO];rfl)
  ·rw[Hk ho,bU (λh=>ho (length_eq_zero_iff.1 h))]
   exact(zV)<|zo [.tmp 4] (r:=ah 1 o (aw cD)) (hw:=.buf rfl (by rw[RQ];exact bl.refl (aA (λ_=>rfl) o)) (by rw[uC,bi];exact a9 _)) (hq:=by rw[hO])
 have hstep:=LO kk f k;obtain⟨a1,a2,a3,a4⟩:=hF k (by omega);obtain⟨g,o,hg⟩:∃g o,mc kk f k=(g,o):=⟨_,_,rfl⟩;rw[hg] at a1 a2 a3 hstep ⊢;have hgl:g.length=l.length:=a2.trans hfl;have hr1:=se g k a1 (by rw[hgl];exact hlt) (by rw[hgl];exact hlen);have k1:=qe (i:=k) a1 (by rw[hgl];exact hlt);rw[EC] at hstep;obtain⟨a,g1,hA⟩:∃a g1,gP g k=(a,g1):=⟨_,_,rfl⟩;simp only[hA] at hr1 k1 hstep;rw[hgl] at hr1;obtain⟨q1,q2,q3⟩:=k1;have hr2:=se g1 kk q1 (by rw[q2,hgl];exact hkl) (by rw[q2,hgl];exact hlen);obtain⟨b,g2,hB⟩:∃b g2,gP g1 kk=(b,g2):=⟨_,_,rfl⟩;simp only[hB] at hr2 hstep;rw[q2,hgl] at hr2
 have hol:o.length<=1000000:=by
  have:o.length<=k:=a3;omega
 refine(gh) ?_;by_cases ho:o=[]
 ·subst ho;rw[uz,show bp 4 1 ([]:List Nat).length=cI from rfl];refine(kK) ?_;refine zS [2] (n6 @Dh @vB @j6 @rl @nU @ie) hr1 ?_;refine(zQ) ?_;refine zS [2] (n6 @Dh @vB @j6 @rl @nU @ie) hr2 ?_;by_cases hab:a=b
  ·rw[t8 hab] at hstep
   refine(cK (show decide ((a:Int)=(b:Int))=true by simp;omega))<|(zY)<|(az (n2 @j6 @ie))<|(az (zi hlt hlen)) ?_;refine zX hlt (bK (n5 hkk hstep @nil_append.{0} (show Up mm (g2,[k])=[bB AV.str cD mm,.gone,.cells (g2.flatMap (aw cD)),.gone,.cells [cD k]] from rfl) (show bp 4 1 [k].length=.buf 4 1 1 none from rfl))) trivial
  ·rw[ul hab] at hstep
   refine(cK (show decide ((a:Int)=(b:Int))=false by simp;omega))<|(zN)<|(az (zi hlt hlen)) ?_;refine zX hlt (bK (n4 hkk hstep @uz (show bp 4 1 ([]:List Nat).length=cI from rfl))) trivial
 ·have ho1:¬o.length=0:=λh=>ho (length_eq_zero_iff.1 h);have happ:=en (enc:=aw cD) (e:=1) (λ_=>rfl) (λ_=>rfl) 4 o k;rw[show aw cD k=[cD k] from rfl,bi] at happ;have hcl:=uC (c:=cD) o;rw[Hk ho,bU ho1];refine(kK) ?_;refine zS [2] (n6 @Dh @vB @j6 @rl @nU @ie) hr1 ?_;refine(zQ) ?_;refine zS [2] (n6 @Dh @vB @j6 @rl @nU @ie) hr2 ?_;by_cases hab:a=b
  ·rw[t8 hab] at hstep
   refine(cK (show decide ((a:Int)=(b:Int))=true by simp;omega))<|(zY) ?_
   have hs2:Up mm (g2,o++[k])=[bB AV.str cD mm,.gone,.cells (g2.flatMap (aw cD)),.gone,.cells ((o++[k]).flatMap (aw cD))]:=Hk (by simp)
   have hs3:bp 4 1 (o++[k]).length=.buf 4 (o.length+1) 1 none:=by rw[a6];rfl
   refine(az (n7 @j6 @ie hcl happ @bi @a9 hol))<|(az (zi hlt hlen)) ?_;refine zX hlt (bK (n4 hkk hstep hs2 hs3)) trivial
  ·rw[ul hab] at hstep
   refine(cK (show decide ((a:Int)=(b:Int))=false by simp;omega))<|(zN)<|(zs) ?_;refine aq.r0 (by rfl) (iZ (qA (oH hlt hlen (by decide)))) ?_;refine⟨l.length-(k+1),_,by omega,(Fg.less (by (simp only[bI,bj,dI,↓reduceIte,ac,ah,hkk,hstep,Hk ho,bU ho1])<;>(repeat' apply b6)<;>first | rfl | trivial) (by (simp only[bI,bj,or_true,true_or,ah,hkk,hstep,Hk ho,bU ho1])<;>(repeat' apply b6)<;>first | exact .inr rfl | exact .inl rfl | trivial)),k+1,by omega,rfl,trivial,rfl⟩
def CS(l:List br)(part:List Nat):(pZ l part).length<=l.length/\∀i∈pZ l part,i<l.length:=by
 have hok:=rV l;unfold pZ;split
 ·rename_i h;have hkl:=hok.m part h;have hF:=AH (k:=getM 0 part (eV l).2) hok.f (by rw[hok.l];exact hkl) l.length (by rw[hok.l];exact a9 _);exact⟨hF.2.2.1,hF.2.2.2⟩
 ·exact⟨bY _,λi hi=>by cases hi⟩
def BQ(l:List br)(part:List Nat):List br:=(pZ l part).filterMap (l[·]?)
def Sb(l:List br)(part:List Nat):(BQ l part).length<=l.length:=b8 (bZ _ _) (CS l part).1
def Sc{l:List br}{part:List Nat}{r:br}(h:r∈BQ l part):r∈l:=by
 obtain⟨i,_,hi⟩:=List.mem_filterMap.1 h;exact a5 hi
def P6{l:List br}{is:List Nat}{k i:Nat}{r:br}(hk:is[k]?=some i)(hr:l[i]?=some r):(is.take (k+1)).filterMap (l[·]?)=(is.take k).filterMap (l[·]?)++[r]:=by
 rw[bz hk,List.filterMap_append];simp[hr]
def HV{p:List Int->Prop}{g:Nat->List (List Int)->Bool×List (List Int)}(hg:∀n out,(∀ch∈out,p ch)->∀ch∈(g n out).2,p ch):∀(m n:Nat) (out:List (List Int)),(∀ch∈out,p ch)->∀ch∈(tv g m n out).2,p ch
 | 0,n,out,h=>h
 | m+1,n,out,h=>by
  rw[tv];split
  ·exact HV hg m (n+1) _ (hg n out h)
  ·exact hg n out h
def CF{c:List aQ}{l:List br}{most:Int}:∀(F i:Nat) (ch:List Int) (out:List (List Int)),(∀h∈out,QY c l h=true)->∀h∈(fP c l most F i ch out).2,QY c l h=true
 | 0,i,ch,out,h=>h
 | F+1,i,ch,out,h=>by
  rw[fP];split
  ·exact h
  ·split
   ·split
    ·rename_i h3;intro x hx
     rcases mem_append.1 hx with hx | hx
     ·exact h x hx
     ·rw[mem_singleton.1 hx];exact h3
    ·exact h
   ·exact HV (λn out h=>CF F _ _ _ h) _ _ _ h
def Dv{g:Nat->List (List Int)->Bool×List (List Int)}{most:Int}(hg:∀n out,(out.length:Int)<most->((g n out).2.length:Int)<=most)(hg2:∀n out,(out.length:Int)<most->(g n out).1=true->((g n out).2.length:Int)<most):∀(m n:Nat) (out:List (List Int)),(out.length:Int)<most->((tv g m n out).2.length:Int)<=most
 | 0,n,out,h=>b7 h
 | m+1,n,out,h=>by
  rw[tv];split
  ·rename_i h1;exact Dv hg hg2 m (n+1) _ (hg2 n out h h1)
  ·exact hg n out h
def z8{c:List aQ}{l:List br}{most:Int}:∀(F i:Nat) (ch:List Int) (out:List (List Int)),(out.length:Int)<most->((fP c l most F i ch out).2.length:Int)<=most
 | 0,i,ch,out,h=>b7 h
 | F+1,i,ch,out,h=>by
  rw[fP];split
  ·exact b7 h
  ·split
   ·split
    ·rw[a6];show((out.length+1:Nat):Int)<=most;omega
    ·exact b7 h
   ·exact Dv (λn out h=>z8 F _ _ _ h) (λn out h h2=>z7 F _ _ _ h h2) _ _ _ h
def TJ{c:List aQ}{l:List br}{ch:List Int}(h:QY c l ch=true):l.length=ch.length:=by
 unfold QY pW at h;split at h
 ·rename_i hg;exact vV hg
 ·cases h
def Tx{c:List aQ}{l:List br}{most:Int}{ch:List Int}(h:ch∈(ly c l most).1):QY c l ch=true:=by
 unfold ly at h;split at h
 ·cases h
 split at h
 ·cases h
 split at h
 ·split at h
  ·cases h
  ·unfold qt at h;exact CF _ _ _ _ (λ_ h=>by cases h) _ h
 ·cases h
def OB{c:List aQ}{l:List br}{most:Int}(hm:0<most):((ly c l most).1.length:Int)<=most:=by
 unfold ly;split
 ·exact b7 hm
 split
 ·exact b7 hm
 split
 ·split
  ·exact b7 hm
  ·unfold qt;exact z8 _ _ _ _ hm
 ·exact b7 hm
abbrev qB:=List (List Nat×Int)
def ew(ws:List Wy)(co:Co)(b:qB):Prop:=(∃x,0<=x/\x<=co.am/\b=[(co.owner,x)])\/∃w∈ws,w.cR≠co.owner/\∃x y,0<=x/\0<=y/\x+y<=co.am/\b=[(co.owner,x),(w.cR,y)]
def Je{ws:List Wy}{ps:List aI}{co:Co}(hr:ej ws co=true):l9 ws ps co=[(co.owner,co.am)]\/∃w∈ws,w.cR≠co.owner/\∃n,0<=n/\n<=co.am/\l9 ws ps co=[(co.owner,co.am-n),(w.cR,n)]:=by
 unfold l9
 cases mU ps co.part with
 | none=>exact .inl rfl
 | some p=>
  rw[ax]
  rcases ME (p:=Ke p jG) hr with⟨h,_⟩ | ⟨w,h1,h2,h3,h4,h5⟩
  ·exact .inl h
  ·exact .inr ⟨w,cb h1,h2,_,h4,h5,h3⟩
def F5{ws:List Wy}{ps:List aI}{co:Co}(hr:ej ws co=true):ew ws co (l9 ws ps co):=by
 have ha:=SG (rk hr).2
 rcases Je (ps:=ps) hr with h | ⟨w,hw,hm,n,h1,h2,h⟩
 ·exact .inl ⟨_,ha.1,c4 _,h⟩
 ·exact .inr ⟨w,hw,hm,_,n,by omega,h1,by omega,h⟩
def ew.nodup{ws:List Wy}{co:Co}{b:qB}(h:ew ws co b):(b.map (·.1)).Nodup:=by
 rcases h with⟨x,_,_,rfl⟩ | ⟨w,_,hm,x,y,_,_,_,rfl⟩
 ·simp
 ·simp[Ne.symm hm]
def ew.ne{ws:List Wy}{co:Co}{b:qB}(h:ew ws co b):b≠[]:=by
 rcases h with⟨x,_,_,rfl⟩ | ⟨w,_,hm,x,y,_,_,_,rfl⟩<;>simp
def ew.len{ws:List Wy}{co:Co}{b:qB}(h:ew ws co b):b.length<=2:=by
 rcases h with⟨x,_,_,rfl⟩ | ⟨w,_,hm,x,y,_,_,_,rfl⟩<;>simp
def ew.nn{ws:List Wy}{co:Co}{b:qB}(h:ew ws co b)(p:List Nat):0<=getM 0 p b:=by
 rcases h with⟨x,h1,_,rfl⟩ | ⟨w,_,hm,x,y,h1,h2,_,rfl⟩
 ·simp only[getM];split<;>omega
 ·simp only[getM];split
  ·omega
  ·split<;>omega
def RL{ws:List Wy}{co:Co}{o b:qB}(h:ew ws co o)(hb:∀p,0<=getM 0 p b):ew ws co (pk o b):=by
 have hmin:∀x p,0<=x->0<=eX x (getM 0 p b)/\eX x (getM 0 p b)<=x:=λx p h=>by
  have:=hb p;unfold eX;split<;>omega
 rcases h with⟨x,h1,h2,rfl⟩ | ⟨w,hw,hm,x,y,h1,h2,h3,rfl⟩
 ·have:=hmin x co.owner h1;exact .inl ⟨_,this.1,by omega,rfl⟩
 ·have g1:=hmin x co.owner h1;have g2:=hmin y w.cR h2;exact .inr ⟨w,hw,hm,_,_,g1.1,g2.1,by omega,rfl⟩
def G1{ws:List Wy}{co:Co}:∀{bs:List qB} {b0:qB},ew ws co b0->(∀b∈bs,ew ws co b)->ew ws co (bs.foldl pk b0)
 | [],b0,h,_=>h
 | b::bs,b0,h,hb=>G1 (bs:=bs) (RL h (hb b bd).nn) λx hx=>hb x (ba _ hx)
def Ap(b:qB):kL b (kH b):=by
 refine⟨⟨dM (b.map (·.1)),by exact rp _,?_,rfl⟩⟩;have h2:(dM (b.map (·.1))).Pairwise λa b=>Ao a b=true:=HS _
 exact h2.imp λ{a b} h=>by
  simpa [Ao] using h
def pU(own:List br)(ch:List Int):List bH:=(mB own ch).getD []
def fk(c:List aQ)(dmg:bu)(ws:List Wy)(own:List br)(co:Co)(all:List (List Int)):List qB:=all.map λch=>l9 ws (runN c dmg (pU own ch) co.day).1 co
def oi(n:Int)(l:List Sh):Int:=n-(l.map Sh.am).sum
def jN(c:List aQ)(dmg:bu)(ws:List Wy)(l:List br)(co:Co):Bool:=!(mg c&&eb dmg)||(!(ej ws co)||l.any λr=>!(Proofs.fX r))
def Mn(c:List aQ)(dmg:bu)(ws:List Wy)(own:List br)(co:Co):List Sh×Int×Int:=
 if own=[] then ([],0,2)
 else if (ly c own 4096).2=0 then
  (if (ly c own 4096).1.length=4096 then ([],0,7)
  else (kH (qY (fk c dmg ws own co (ly c own 4096).1)),oi co.am (kH (qY (fk c dmg ws own co (ly c own 4096).1))),0))
 else ([],0,(ly c own 4096).2)
def eS(c:List aQ)(dmg:bu)(ws:List Wy)(l:List br)(co:Co):List Sh×Int×Int:=if jN c dmg ws l co=true then ([],0,1) else Mn c dmg ws (BQ l co.part) co
def ew.sum{ws:List Wy}{co:Co}{b:qB}(h:ew ws co b):((kH b).map Sh.am).sum=(b.map (·.2)).sum/\(kH b).length<=2:=by
 have hl:=Ap b
 rcases h with⟨x,h1,_,rfl⟩ | ⟨w,_,hm,x,y,h1,h2,_,rfl⟩
 ·obtain⟨a,b,_⟩:=kL.one h1 hl;exact⟨by rw[a];simp,b⟩
 ·obtain⟨a,b,_⟩:=kL.two (Ne.symm hm) h1 h2 hl;exact⟨by rw[a];simp,b⟩
def ew.V8{ws:List Wy}{co:Co}{b:qB}(h:ew ws co b):0<=(b.map (·.2)).sum/\(b.map (·.2)).sum<=co.am:=by
 rcases h with⟨x,h1,_,rfl⟩ | ⟨w,_,hm,x,y,h1,h2,_,rfl⟩
 ·simp;omega
 ·simp;omega
def ew.am{ws:List Wy}{co:Co}{b:qB}(h:ew ws co b){s:Sh}(hs:s∈kH b):0<s.am/\s.am<=co.am/\(s.pt=co.owner\/∃w∈ws,s.pt=w.cR):=by
 obtain⟨g1,g2,g3⟩:=((Ap b).mem s).1 hs
 rcases h with⟨x,h1,_,rfl⟩ | ⟨w,hw,hm,x,y,h1,h2,_,rfl⟩
 ·simp only[map_cons,map_nil,mem_singleton] at g1;rw[g1] at g2 g3;simp only[getM,if_true] at g2 g3;exact⟨by omega,by omega,.inl g1⟩
 ·simp only[map_cons,map_nil,mem_cons,b5,or_false] at g1
  rcases g1 with g1 | g1<;>rw[g1] at g2 g3<;>simp[getM,hm] at g2 g3
  ·exact⟨by omega,by omega,.inl g1⟩
  ·exact⟨by omega,by omega,.inr ⟨w,hw,g1⟩⟩
def ew.Vo{ws:List Wy}{co:Co}{b:qB}(h:ew ws co b):(kH b).Pairwise λa b=>iD a.pt b.pt=true:=(Ap b).Vo h.nodup
def CQ{ws:List Wy}{co:Co}{bs:List qB}(hne:bs≠[])(h:∀b∈bs,ew ws co b):ew ws co (qY bs):=by
 cases bs with
 | nil=>exact t7 rfl hne
 | cons b bs=>exact G1 (h b bd) λx hx=>h x (ba _ hx)
def F6{c:List aQ}{dmg:bu}{ws:List Wy}{own:List br}{co:Co}{all:List (List Int)}(hr:ej ws co=true):∀b∈fk c dmg ws own co all,ew ws co b:=by
 intro b hb;obtain⟨ch,_,rfl⟩:=mem_map.1 hb;exact F5 hr
structure I9 (ws:List Wy) (co:Co) (r:List Sh×Int×Int):Prop where
 err:r.2.2≠0->r.1=[]/\r.2.1=0
 am:∀s∈r.1,0<s.am/\s.am<=co.am/\(s.pt=co.owner\/∃w∈ws,s.pt=w.cR)
 Vo:r.1.Pairwise λa b=>iD a.pt b.pt=true
 len:r.1.length<=2
 WB:r.2.2=0->0<=r.2.1/\r.2.1=co.am-(r.1.map Sh.am).sum
 sum:0<=(r.1.map Sh.am).sum/\(r.1≠[]->(r.1.map Sh.am).sum<=co.am)
 right:r.2.2=0->ej ws co=true
def I9.no{ws:List Wy}{co:Co}{e:Int}(he:e≠0):I9 ws co ([],0,e):=⟨λ_=>⟨rfl,rfl⟩,λs h=>(b5 h).elim,.nil,bY _,λh=>t7 h he,⟨by simp,λh=>t7 rfl h⟩,λh=>t7 h he⟩
def yJ(c:List aQ)(dmg:bu)(ws:List Wy)(l:List br)(co:Co):I9 ws co (eS c dmg ws l co):=by
 unfold eS;split
 ·exact .no (by decide)
 rename_i hb
 have hr:ej ws co=true:=by
  unfold jN at hb;cases h:ej ws co
  ·rw[h] at hb;simp at hb
  ·rfl
 unfold Mn;split
 ·exact .no (by decide)
 split
 ·rename_i h2;split
  ·exact .no (by decide)
  ·have hne:=OC (c:=c) (l:=BQ l co.part) (most:=4096) h2;have hk:=CQ (ws:=ws) (co:=co) (bs:=fk c dmg ws (BQ l co.part) co (ly c (BQ l co.part) 4096).1) (by unfold fk;exact λe=>hne (List.map_eq_nil_iff.1 e)) (F6 hr);generalize qY _=b at hk;have hs:=hk.sum;have hv:=hk.V8;have hx:((kH b).map Sh.am).sum=(b.map (·.2)).sum:=hs.1;refine⟨λh=>t7 rfl h,λs h=>hk.am h,hk.Vo,hs.2,λ_=>⟨?_,rfl⟩,⟨by show 0<=((kH b).map Sh.am).sum;omega,λ_=>by show((kH b).map Sh.am).sum<=co.am;omega⟩,λ_=>hr⟩;show 0<=oi _ _;unfold oi;rw[hs.1];omega
 ·rename_i h2;exact .no h2
end Go.Proofs
namespace Go.Ev
noncomputable section
section
variable {P:Program} {ro:Option Nat} {all:List Oper} {o:Oper} {l:List Oper} {f:Fm} {S:List SO} {n d oo i:Nat} {ds:List ja} {K:ez->Prop} {x y s:Operand} {ks:List AV} {vs:List SV} {b:Option (List Nat×Nat)} {tt kt et:TypeId} {kv v w:SV} {ka k0:AV}
def aG.Wz(hst:dJ all n [o]=true)(hop:o.op=.mapEntry tt x y)(hdst:o.dst=some d)(hw:cg all f o.guard=some true)(hx:eI f x=some (.map oo))(hy:eI f y=some kv)(hf:cE kv=some ka)(hS:S[oo]?=some (.map ks vs b))
 (hm:cW P tt=some (kt,et)) (hkey:um P kt ka=true) (hfd:qP P kt ka ks 0=some (some i)) (hk0:ks[i]?=some k0) (hst0:stays ka k0=true) (hv:vs[i]?=some v)
 (hk:∀(bs:List Nat) (c sb:Nat),(∀p,b=some p->(bs,c)=p)->bs[i]?=some sb->aG P ro all l ⟨(d,.bC [v,.a (.int .i64 (ce sb))])::f,n,S.set oo (.map (ks.set i ka) vs (some (bs,c))),ds⟩ K):aG P ro all (o::l) ⟨f,n,S,ds⟩ K:=by
 rintro ρ0 h0 ⟨af,n',h,ds'⟩ ⟨rfl,rfl,θ,ρ,hR,hF⟩
 have hd:blt d n'=true:=by
  have:=(eJ hst).1;rw[hdst] at this;exact this
 obtain⟨a,ha,kx⟩:=bE hF hx;rw[VS] at kx;subst kx;obtain⟨a2,ha2,ky⟩:=bE hF hy;have:=ib ky hf;subst this;obtain⟨_,lm,c,q1,⟨q2,qb,qp⟩,q3⟩:=hR.obj oo _ hS (λh=>by cases h)
 have hmo:h.mapOf (θ oo).id=some (lm,c):=by unfold H.mapOf;rw[q1]
 have hk0':=hk0;rw[<-q2,ay] at hk0';obtain⟨e3,he3,rfl⟩:=ar hk0';obtain⟨z,hz,kz⟩:=q3.get hv;rw[ay,he3] at hz;cases hz
 have hb:(setAt (a2,e3.2.1,e3.2.2) lm i).map (·.2.2)=lm.map (·.2.2):=by
  rw[iI];apply bh;intro j;rw[b3];split
  ·rename_i e;subst e;split
   ·rw[ay,he3];rfl
   ·rename_i hl;rw[al] at hl;rw[ci (by rw[al];omega)]
  ·rfl
 have hvv:(setAt (a2,e3.2.1,e3.2.2) lm i).map (·.2.1)=lm.map (·.2.1):=by
  rw[iI];apply bh;intro j;rw[b3];split
  ·rename_i e;subst e;split
   ·rw[ay,he3];rfl
   ·rename_i hl;rw[al] at hl;rw[ci (by rw[al];omega)]
  ·rfl
 have hrun:ek P (dg af n') h (.mapEntry tt x y)=some [(some (.bC [e3.2.1,.int .i64 (ce e3.2.2)]),h.set (θ oo).id (.map (setAt (a2,e3.2.1,e3.2.2) lm i) c))]:=by
  rw[xl,show ev (dg af n') x=_ from ha,show ev (dg af n') y=_ from ha2];simp only[ad];unfold mL;rw[hm,ad];simp only;rw[hkey,ae,hmo,ad];simp only;rw[oY,q2,hfd,ad];simp only;rw[he3,ad,hst0,ae];rfl
 refine .v hop hdst (cH hF (dN hst hw)) rfl hd hrun ?_;refine hk (lm.map (·.2.2)) c e3.2.2 (λp hp=>ext (qp p hp).1 (qp p hp).2) (by rw[ay,he3];rfl) ρ0 h0 _ ⟨rfl,rfl,θ,ρ,hR.Nq hS ⟨by rw[iI,q2],qb.ED hb,λp hp=>by cases hp;exact⟨hb,rfl⟩⟩ (by rw[hvv];exact q3),hF.put (fz hd) ?_⟩;rw[VS];refine⟨_,rfl,?_⟩;rw[aJ];refine⟨_,_,rfl,kz,?_⟩;rw[aJ];exact⟨_,_,rfl,by rw[VS],by rw[aT]⟩
def aG.Wx{z:AV}(hst:dJ all n [o]=true)(hop:o.op=.mapEntry tt x y)(hdst:o.dst=some d)(hw:cg all f o.guard=some true)(hx:eI f x=some (.map oo))(hy:eI f y=some kv)(hf:cE kv=some ka)(hS:S[oo]?=some (.map ks vs b))
 (hm:cW P tt=some (kt,et)) (hkey:um P kt ka=true) (hfd:qP P kt ka ks 0=some none) (hz:dm P et=some z)
 (hk:∀(bs:List Nat) (c:Nat),(∀p,b=some p->(bs,c)=p)->bs.length=ks.length->aG P ro all l ⟨(d,.bC [.a z,.a (.int .i64 (ce c))])::f,n,S.set oo (.map (ks++[ka]) (vs++[.a z]) (some (bs++[c],c+1))),ds⟩ K):aG P ro all (o::l) ⟨f,n,S,ds⟩ K:=by
 rintro ρ0 h0 ⟨af,n',h,ds'⟩ ⟨rfl,rfl,θ,ρ,hR,hF⟩
 have hd:blt d n'=true:=by
  have:=(eJ hst).1;rw[hdst] at this;exact this
 obtain⟨a,ha,kx⟩:=bE hF hx;rw[VS] at kx;subst kx;obtain⟨a2,ha2,ky⟩:=bE hF hy;have:=ib ky hf;subst this;obtain⟨_,lm,c,q1,⟨q2,qb,qp⟩,q3⟩:=hR.obj oo _ hS (λh=>by cases h)
 have hmo:h.mapOf (θ oo).id=some (lm,c):=by unfold H.mapOf;rw[q1]
 have hrun:ek P (dg af n') h (.mapEntry tt x y)=some [(some (.bC [z,.int .i64 (ce c)]),h.set (θ oo).id (.map (lm++[(a2,z,c)]) (c+1)))]:=by
  rw[xl,show ev (dg af n') x=_ from ha,show ev (dg af n') y=_ from ha2];simp only[ad];unfold mL;rw[hm,ad];simp only;rw[hkey,ae,hmo,ad];simp only;rw[oY,q2,hfd,ad];simp only;rw[hz];rfl
 refine .v hop hdst (cH hF (dN hst hw)) rfl hd hrun ?_;refine hk (lm.map (·.2.2)) c (λp hp=>ext (qp p hp).1 (qp p hp).2) (by rw[al,<-q2,al]) ρ0 h0 _ ⟨rfl,rfl,θ,ρ,hR.Nq hS ⟨by rw[bk,q2];rfl,qb.snoc _ _,λp hp=>by cases hp;exact⟨by rw[bk];rfl,rfl⟩⟩ ?_,hF.put (fz hd) ?_⟩
 ·rw[bk];refine q3.app ?_;rw[map_cons,map_nil,aJ];exact⟨_,[],rfl,by rw[VS],by rw[aT]⟩
 ·rw[VS];refine⟨_,rfl,?_⟩;rw[aJ];refine⟨_,_,rfl,by rw[VS],?_⟩;rw[aJ];exact⟨_,_,rfl,by rw[VS],by rw[aT]⟩
def Cl{sb:Nat}:∀{es:List (AV×AV×Nat)} {i k:Nat},(es.map (·.2.2)).Nodup->(es.map (·.2.2))[i]?=some sb->iS sb es k=some (k+i)
 | [],i,k,_,h=>by simp at h
 | e::es,0,k,_,h=>by
  simp only[map_cons,List.getElem?_cons_zero,Option.some.injEq] at h;rw[iS,h,fl];rfl
 | e::es,i+1,k,hn,h=>by
  rw[map_cons,cc] at hn;have hne:¬e.2.2=sb:=λe'=>hn.1 (e'▸a5 (by simpa using h))
  have:beq e.2.2 sb=false:=by
   cases hb:beq e.2.2 sb
   ·rfl
   ·exact t7 (cU hb) hne
  rw[iS,this,ai,Cl hn.2 (by simpa using h)]
  congr 1;omega
def aG.es{sb:Nat}{bs:List Nat}{c:Nat}(hst:dJ all n [o]=true)(hop:o.op=.entryStore tt x s y)(hdst:o.dst=none)(hw:cg all f o.guard=some true)(hx:eI f x=some (.map oo))(hs:eI f s=some (.a (.int .i64 (ce sb))))(hy:eI f y=some w)(hS:S[oo]?=some (.map ks vs (some (bs,c))))
 (hi:bs[i]?=some sb) (hk:aG P ro all l ⟨f,n,S.set oo (.map ks (vs.set i w) (some (bs,c))),ds⟩ K):aG P ro all (o::l) ⟨f,n,S,ds⟩ K:=by
 rintro ρ0 h0 ⟨af,n',h,ds'⟩ ⟨rfl,rfl,θ,ρ,hR,hF⟩;obtain⟨a,ha,kx⟩:=bE hF hx;rw[VS] at kx;subst kx;obtain⟨a1,ha1,k1⟩:=bE hF hs;rw[VS] at k1;subst k1;obtain⟨a2,ha2,ky⟩:=bE hF hy;obtain⟨_,lm,c',q1,⟨q2,qb,qp⟩,q3⟩:=hR.obj oo _ hS (λh=>by cases h);obtain⟨hbs,rfl⟩:=qp _ rfl;simp only at hbs
 have hmo:h.mapOf (θ oo).id=some (lm,c'):=by unfold H.mapOf;rw[q1]
 rw[<-hbs] at hi;have hba:=Cl (k:=0) qb.1 hi;rw[fm] at hba;rw[ay] at hi;obtain⟨e3,he3,rfl⟩:=ar hi
 have same:∀g:AV×AV×Nat->AV×Nat,(∀e,g e=(e.1,e.2.2))->(setAt (e3.1,a2,e3.2.2) lm i).map g=lm.map g:=by
  intro g hg;rw[iI];apply bh;intro j;rw[b3];split
  ·rename_i e;subst e;split
   ·rw[ay,he3];simp only[hg,ax]
   ·rename_i hl;rw[al] at hl;rw[ci (by rw[al];omega)]
  ·rfl
 have s0:=same (λe=>(e.1,e.2.2)) λ_=>rfl
 have s1:(setAt (e3.1,a2,e3.2.2) lm i).map (·.1)=lm.map (·.1):=by
  have:=congrArg (List.map fst) s0;rw[cp,cp] at this;exact this
 have s2:(setAt (e3.1,a2,e3.2.2) lm i).map (·.2.2)=lm.map (·.2.2):=by
  have:=congrArg (List.map snd) s0;rw[cp,cp] at this;exact this
 have hrun:ek P (dg af n') h (.entryStore tt x s y)=some [(none,h.set (θ oo).id (.map (setAt (e3.1,a2,e3.2.2) lm i) c'))]:=by
  rw[BO,show ev (dg af n') x=_ from ha,show ev (dg af n') s=_ from ha1,show ev (dg af n') y=_ from ha2];simp only[ad];unfold lD;simp only;rw[hmo,ad];simp only;rw[show de (.int .i64 (ce e3.2.2))=some e3.2.2 from lJ _ _,ad,hba,ad,he3];rfl
 refine .u hop hdst (cH hF (dN hst hw)) rfl hrun ?_;exact hk ρ0 h0 _ ⟨rfl,rfl,θ,ρ,hR.Nq hS ⟨by rw[s1,q2],qb.ED s2,λp hp=>by cases hp;exact⟨by rw[s2,hbs],rfl⟩⟩ (by rw[iI];exact q3.set i ky),hF⟩
end
section
variable {P:Program} {ro:Option Nat} {all:List Oper} {o:Oper} {ol:List Oper} {f:Fm} {S:List SO} {n d oo:Nat} {ds:List ja} {Q:ez->Prop} {x y s:Operand} {tt kt et:TypeId} {K U:Type} [DecidableEq K] {kv:K->AV} {uv:U->SV} {l:List (K×U)} {k:K} {u0:U} {ky:SV} {z:AV}
def jh(kv:K->AV)(uv:U->SV)(l:List (K×U))(b:Option (List Nat×Nat)):SO:=.map (l.map λe=>kv e.1) (l.map λe=>uv e.2) b
def aG.VD{b:List Nat×Nat}{sb:Nat}{u:U}(hst:dJ all n [o]=true)(hop:o.op=.entryStore tt x s y)(hdst:o.dst=none)(hw:cg all f o.guard=some true)(hx:eI f x=some (.map oo))(hs:eI f s=some (.a (.int .i64 (ce sb))))(hy:eI f y=some (uv u))
 (hS:S[oo]?=some (jh kv uv (fW u0 k l) (some b))) (hi:b.1[Hy k l]?=some sb) (hQ:aG P ro all ol ⟨f,n,S.set oo (bB kv uv (cr k u l)),ds⟩ Q):aG P ro all (o::ol) ⟨f,n,S,ds⟩ Q:=by
 obtain⟨p1,p2,u1,p3⟩:=NJ (u0:=u0) (l:=l) k u;refine aG.es (w:=uv u) hst hop hdst hw hx hs hy hS hi ?_;have hlt:=bf hS;refine aG.fg (Fg.K6 oo (by rw[b3,t8 rfl,t8 hlt])) ?_;rw[List.set_set]
 have e1:((fW u0 k l).map λe=>uv e.2).set (Hy k l) (uv u)=(cr k u l).map λe=>uv e.2:=by rw[<-p1,eC]
 have e2:((fW u0 k l).map λe=>kv e.1)=(cr k u l).map λe=>kv e.1:=by
  rw[<-p1,eC];apply bh;intro j;rw[b3];split
  ·rename_i e;subst e;rw[ay,p3];simp only[ax];rw[t8 (by rw[al];exact p2)]
  ·rfl
 rw[e1,e2];exact hQ
def oQ(b:List Nat×Nat)(k:K)(l:List (K×U)):Nat:=match pz k l 0 with
 | some i=>b.1.getD i 0
 | none=>b.2
def iX(b:List Nat×Nat)(k:K)(l:List (K×U)):List Nat×Nat:=if dr k l then b else (b.1++[b.2],b.2+1)
def wM{b:List Nat×Nat}(hb:b.1.length=l.length):(iX b k l).1[Hy k l]?=some (oQ b k l):=by
 unfold iX Hy oQ
 cases hp:pz k l 0 with
 | none=>
  rw[iK hp];simp only[bx,if_false];rw[List.getElem?_append_right (by omega),hb,el];rfl
 | some i=>
  obtain⟨_,u,h2,_,_,h5⟩:=gI hp;rw[cj] at h2;rw[h5];simp only[if_true];have:=bf h2;rw[cn,bc (by omega)];rfl
def aG.VI{b:List Nat×Nat}(hst:dJ all n [o]=true)(hop:o.op=.mapEntry tt x y)(hdst:o.dst=some d)(hw:cg all f o.guard=some true)(hx:eI f x=some (.map oo))(hy:eI f y=some ky)(hf:cE ky=some (kv k))(hS:S[oo]?=some (jh kv uv l (some b)))
 (hm:cW P tt=some (kt,et)) (hk:Keys P kt kv) (hz:dm P et=some z) (hu:SV.a z=uv u0)
 (hQ:aG P ro all ol ⟨(d,.bC [uv (getM u0 k l),.a (.int .i64 (ce (oQ b k l)))])::f,n,S.set oo (jh kv uv (fW u0 k l) (some (iX b k l))),ds⟩ Q):aG P ro all (o::ol) ⟨f,n,S,ds⟩ Q:=by
 have hfd:=mJ hk k l 0
 cases hp:pz k l 0 with
 | none=>
  have hn:=iK hp;rw[hp] at hfd
  have ht:fW u0 k l=l++[(k,u0)]:=by unfold fW;rw[hn];rfl
  refine aG.Wx hst hop hdst hw hx hy hf hS hm (hk.ck k) hfd hz λbs c he hb=>?_;have e:=he _ rfl;subst e
  have e1:oQ (bs,c) k l=c:=by unfold oQ;rw[hp]
  have e2:iX (bs,c) k l=(bs++[c],c+1):=by unfold iX;rw[hn];rfl
  rw[ht,qS hn,e1,e2] at hQ;simp only[jh,bk,map_cons,map_nil] at hQ;rw[hu];exact hQ
 | some i=>
  obtain⟨_,u,h2,h3,_,h5⟩:=gI hp;rw[cj] at h2;rw[hp] at hfd
  have ht:fW u0 k l=l:=by unfold fW;rw[h5];rfl
  refine aG.Wz hst hop hdst hw hx hy hf hS hm (hk.ck k) hfd (k0:=kv k) (by rw[ay,h2];rfl) (hk.st k) (v:=uv u) (by rw[ay,h2];rfl) λbs c sb he hb=>?_;have e:=he _ rfl;subst e
  have e1:oQ (bs,c) k l=sb:=by unfold oQ;rw[hp];simp only;rw[cn,hb];rfl
  have e2:iX (bs,c) k l=(bs,c):=by unfold iX;rw[h5];rfl
  rw[ht,h3 u0,e1,e2] at hQ
  have hset:(l.map λe=>kv e.1).set i (kv k)=l.map λe=>kv e.1:=by
   apply bh;intro j;rw[b3];split
   ·rename_i e;subst e;rw[ay,h2];simp only[ax];rw[t8 (by rw[al];exact bf h2)]
   ·rfl
  rw[hset];exact hQ
end
def aq.born{P:Program}{ro:Option Nat}{f:Fm}{S:List SO}{n:Nat}{ds:List ja}{x:Code}{Q:Ex->ez->Prop}{ks:List AV}{vs:List SV}{b:Option (List Nat×Nat)}(oo:Nat)(hS:S[oo]?=some (.map ks vs b))
 (h:∀bs c,bs.length=ks.length->aq P ro x ⟨f,n,S.set oo (.map ks vs (some (bs,c))),ds⟩ Q):aq P ro x ⟨f,n,S,ds⟩ Q:=by
 rintro ρ0 h0 ⟨af,n',hh,ds'⟩ ⟨rfl,rfl,θ,ρ,hR,hF⟩;obtain⟨_,lm,c,h1,h2,h3⟩:=hR.obj oo _ hS (λh=>by cases h);have hR0:RS θ ρ0 ρ h0 hh (S.set oo (.map ks vs (some (lm.map (·.2.2),c)))):=hR.VQ hS (λh=>by cases h) λ_=>⟨lm,c,h1,⟨h2.1,h2.2.1,λp hp=>by cases hp;exact⟨rfl,rfl⟩⟩,h3⟩;exact h _ _ (by rw[al,<-h2.1,al]) ρ0 h0 _ ⟨rfl,rfl,θ,ρ,hR0,hF⟩
end
end Go.Ev
namespace Go.Proofs
open Go.Ev
set_option maxRecDepth 100000
abbrev Pr:=List Nat×List Nat
structure Xf where
 fr:List Nat
 to:List Nat
 am:Int
 deriving DecidableEq
def aC(t:Xf):List SV:=[ab t.fr,ab t.to,aa t.am]
def gG(p:Pr):AV:=.agg [.str p.1,.str p.2]
abbrev cQ:=List (Pr×Int)
def jM(n:Int)(m:cQ)(t:Xf):cQ:=cr (t.fr,t.to) (getM 0 (t.fr,t.to) m+n*t.am) m
def pG(a b:Xf):Bool:=iD a.fr b.fr||(decide (a.fr=b.fr)&&iD a.to b.to)
def Em(a b:Xf):Bool:=!pG b a
def M8(x:Xf):List Xf->List Xf
 | []=>[x]
 | y::l=>if Em x y then x::y::l else y::M8 x l
def eR:List Xf->List Xf
 | []=>[]
 | x::l=>M8 x (eR l)
def T7(e:Pr×Int):Xf:=⟨e.1.1,e.1.2,e.2⟩
def fV(m:cQ):List Xf:=(m.filter λe=>decide (0<e.2)).map T7
def cL(m:cQ):List Xf×Int:=if m.any (λe=>decide (1000000000000<e.2)) then ([],13) else (eR (fV m),0)
def vZ(x:Xf):∀l,(M8 x l).Perm (x::l)
 | []=>.refl _
 | y::l=>by
  rw[M8];split
  ·exact .refl _
  ·exact((vZ x l).cons y).trans (.swap x y l)
def dD:∀l,(eR l).Perm l
 | []=>.refl _
 | x::l=>(vZ x _).trans ((dD l).cons x)
def Es{k:Pr}{v:Int}:∀{m:cQ} {e:Pr×Int},e∈cr k v m->e=(k,v)\/e∈m
 | [],e,h=>by unfold cr at h;exact .inl (mem_singleton.1 h)
 | a::m,e,h=>by
  unfold cr at h;split at h
  ·rcases mem_cons.1 h with rfl | h
   ·exact .inl rfl
   ·exact .inr (ba _ h)
  ·rcases mem_cons.1 h with rfl | h
   ·exact .inr bd
   ·exact(Es h).imp id (ba _)
def yD(a b:Xf):pG a b=true\/(a.fr=b.fr/\a.to=b.to)\/pG b a=true:=by
 unfold pG
 rcases mz a.fr b.fr with h | h | h
 ·exact .inl (by rw[h];rfl)
 ·rcases mz a.to b.to with g | g | g
  ·exact .inl (by rw[h,g];simp)
  ·exact .inr (.inl ⟨h,g⟩)
  ·exact .inr (.inr (by rw[h,g];simp))
 ·exact .inr (.inr (by rw[h];rfl))
def mK{a b c:Xf}(h1:pG a b=true)(h2:pG b c=true):pG a c=true:=by
 unfold pG at *;simp only[Bool.or_eq_true,bo,wp] at *
 rcases h1 with h1 | ⟨e1,h1⟩<;>rcases h2 with h2 | ⟨e2,h2⟩
 ·exact .inl (jB h1 h2)
 ·exact .inl (e2▸h1)
 ·exact .inl (e1▸h2)
 ·exact .inr ⟨e1.trans e2,jB h1 h2⟩
def PB{a b:Xf}(h:a.fr=b.fr/\a.to=b.to)(c:Xf):pG a c=pG b c/\pG c a=pG c b:=by
 unfold pG;rw[h.1,h.2];exact⟨rfl,rfl⟩
def yC(a:Xf):pG a a=false:=by unfold pG;rw[kW,kW];simp
def Nh(a b c:Xf)(h1:Em a b=true)(h2:Em b c=true):Em a c=true:=by
 unfold Em at *;simp only[dv] at *;cases h:pG c a
 ·rfl
 ·rcases yD a b with g | g | g
  ·have:=mK h g;rw[h2] at this;cases this
  ·rw[(PB g c).2,h2] at h;cases h
  ·rw[h1] at g;cases g
def Ng(a b:Xf):(Em a b||Em b a)=true:=by
 unfold Em;cases h:pG b a
 ·rfl
 ·cases g:pG a b
  ·rfl
  ·have:=mK h g;rw[yC] at this;cases this
def Pv{a b:Xf}(h1:Em a b=true)(h2:Em b a=true):a.fr=b.fr/\a.to=b.to:=by
 unfold Em at h1 h2;simp only[dv] at h1 h2
 rcases yD a b with g | g | g
 ·rw[h2] at g;cases g
 ·exact g
 ·rw[h1] at g;cases g
def xe(x:Xf):∀l,l.Pairwise (λa b=>Em a b=true)->(M8 x l).Pairwise λa b=>Em a b=true
 | [],_=>List.pairwise_singleton ..
 | y::l,h=>by
  obtain⟨h1,h2⟩:=List.pairwise_cons.1 h;rw[M8];split
  ·rename_i g;refine List.pairwise_cons.2 ⟨λz hz=>?_,h⟩
   rcases mem_cons.1 hz with rfl | hz
   ·exact g
   ·exact Nh _ _ _ g (h1 z hz)
  ·rename_i g;refine List.pairwise_cons.2 ⟨λz hz=>?_,xe x l h2⟩
   rcases mem_cons.1 ((vZ x l).mem_iff.1 hz) with rfl | hz
   ·have:=Ng z y;rw[show Em z y=false by simpa using g] at this;simpa using this
   ·exact h1 z hz
def lx:∀l,(eR l).Pairwise λa b=>Em a b=true
 | []=>.nil
 | x::l=>xe x _ (lx l)
def gl(t:Xf):Pr:=(t.fr,t.to)
def nodup_keys{l:List Xf}(hn:(l.map gl).Nodup){a b:Xf}(ha:a∈l)(hb:b∈l)(h:gl a=gl b):a=b:=by
 induction l with
 | nil=>cases ha
 | cons x l ih=>
  rw[map_cons,cc] at hn
  rcases mem_cons.1 ha with ha' | ha'<;>rcases mem_cons.1 hb with hb' | hb'
  ·rw[ha',hb']
  ·exact t7 (by rw[<-ha',h];exact cs hb') hn.1
  ·exact t7 (by rw[<-hb',<-h];exact cs ha') hn.1
  ·exact ih hn.2 ha' hb'
def ox{l q:List Xf}(hn:(l.map gl).Nodup)(hp:q.Perm l)(hs:q.Pairwise λa b=>pG b a=false):q=eR l:=by
 have h1:q.Pairwise λa b=>Em a b=true:=hs.imp λh=>by unfold Em;rw[h];rfl
 refine List.Perm.eq_of_pairwise (λa b ha hb g1 g2=>?_) h1 (lx l) (hp.trans (dD l).symm);obtain⟨e1,e2⟩:=Pv g1 g2;exact nodup_keys hn (hp.mem_iff.1 ha) ((dD l).mem_iff.1 hb) (ext e1 e2)
def mN(m:cQ)(hn:(m.map (·.1)).Nodup):((fV m).map gl).Nodup:=by
 have:(fV m).map gl=(m.filter λe=>decide (0<e.2)).map (·.1):=by
  unfold fV;rw[cp];rfl
 rw[this];exact hn.sublist (List.filter_sublist.map _)
def rf{k:Pr}{v:Int}:∀{m:cQ},(m.map (·.1)).Nodup->((cr k v m).map (·.1)).Nodup
 | [],_=>by unfold cr;simp
 | e::m,h=>by
  rw[map_cons,cc] at h;unfold cr;split
  ·rename_i hk;rw[map_cons,cc,hk];exact h
  ·rename_i hk;rw[map_cons,cc];refine⟨λhm=>?_,rf h.2⟩;obtain⟨x,hx,e1⟩:=mem_map.1 hm
   rcases Es hx with rfl | hx
   ·exact hk e1
   ·exact h.1 (e1▸cs hx)
def ep(ss:List Sh)(own:List Nat)(m:cQ):cQ:=ss.foldl (λm y=>if y.pt=own then m else jM 1 m ⟨y.pt,own,y.am⟩) m
def du(c:List aQ)(dmg:bu)(ws:List Wy)(l:List br)(costs:List Co)(m:cQ):cQ:=costs.foldl (λm co=>if (eS c dmg ws l co).2.2=0 then ep (eS c dmg ws l co).1 co.owner m else m) m
def qq(to:List Nat)(m:cQ):Int:=((m.filter λe=>decide (e.1.2=to)).map (·.2)).sum
def Aa(to:List Nat)(l:List Xf):Int:=((l.filter λt=>decide (t.to=to)).map Xf.am).sum
def C2(to:List Nat)(costs:List Co):Int:=((costs.filter λco=>decide (co.owner=to)&&co.ok).map Co.am).sum
def GN(to:List Nat)(k:Pr)(v:Int):∀m:cQ,qq to (cr k v m)=qq to m+(if k.2=to then v-getM 0 k m else 0)
 | []=>by
  unfold cr qq getM;by_cases h:k.2=to<;>simp[h]
 | e::m=>by
  have ih:=GN to k v m;unfold qq at ih ⊢;rw[cr,getM];by_cases hk:k=e.1
  ·rw[t8 hk,t8 hk];by_cases h:k.2=to
   ·have h2:e.1.2=to:=by rw[<-hk];exact h
    simp only[List.filter_cons,h,h2,decide_true,if_true,List.map_cons,List.sum_cons];omega
   ·have h2:¬e.1.2=to:=by rw[<-hk];exact h
    simp only[List.filter_cons,h,h2,decide_false,Bool.false_eq_true,if_false];omega
  ·rw[ul hk,ul hk];by_cases h2:e.1.2=to
   ·simp only[List.filter_cons,h2,decide_true,if_true,List.map_cons,List.sum_cons];rw[ih];omega
   ·simp only[List.filter_cons,h2,decide_false,Bool.false_eq_true,if_false];exact ih
def Ph(to:List Nat)(n:Int)(m:cQ)(t:Xf):qq to (jM n m t)=qq to m+(if t.to=to then n*t.am else 0):=by
 unfold jM;rw[GN];split<;>omega
structure I8 (ws:List Wy) (costs:List Co) (m:cQ):Prop where
 VC:∀e∈m,0<=e.2/\(∃w∈ws,w.cR=e.1.1)/\∃co∈costs,co.owner=e.1.2/\co.ok=true
 most:∀to,qq to m<=C2 to costs
def TE{m:cQ}(h:∀e∈m,0<=e.2)(k:Pr):0<=getM 0 k m:=by
 induction m with
 | nil=>exact c4 0
 | cons a m ih=>
  rw[getM];split
  ·exact h _ bd
  ·exact ih λe he=>h e (ba _ he)
def RK{n:Int}{m:cQ}{t:Xf}{e:Pr×Int}(h:e∈jM n m t):e=((t.fr,t.to),getM 0 (t.fr,t.to) m+n*t.am)\/e∈m:=Es h
def AL{ws:List Wy}{costs:List Co}{co:Co}(hco:co.ok=true):∀{ss:List Sh} {m:cQ},(∀s∈ss,0<s.am/\(s.pt=co.owner\/∃w∈ws,s.pt=w.cR))->(∀e∈m,0<=e.2/\(∃w∈ws,w.cR=e.1.1)/\∃x∈costs++[co],x.owner=e.1.2/\x.ok=true)->
 (∀e∈ep ss co.owner m,0<=e.2/\(∃w∈ws,w.cR=e.1.1)/\∃x∈costs++[co],x.owner=e.1.2/\x.ok=true)/\∀to,qq to (ep ss co.owner m)<=qq to m+(if co.owner=to then (ss.map Sh.am).sum else 0)
 | [],m,_,hm=>⟨hm,λto=>by show qq to m<=_;split<;>simp⟩
 | y::ss,m,hs,hm=>by
  obtain⟨h1,h2⟩:=hs y List.mem_cons_self;have hr:=λs hs'=>hs s (List.mem_cons_of_mem _ hs');by_cases hy:y.pt=co.owner
  ·have e:ep (y::ss) co.owner m=ep ss co.owner m:=by unfold ep;rw[List.foldl_cons,t8 hy]
   rw[e];obtain⟨g1,g2⟩:=AL (costs:=costs) hco (ss:=ss) hr hm;refine⟨g1,λto=>?_⟩;have:=g2 to;rw[List.map_cons,List.sum_cons];split at this<;>rename_i hh
   ·rw[t8 hh];omega
   ·rw[ul hh];omega
  ·have e:ep (y::ss) co.owner m=ep ss co.owner (jM 1 m ⟨y.pt,co.owner,y.am⟩):=by unfold ep;rw[List.foldl_cons,ul hy]
   rw[e]
   obtain⟨g1,g2⟩:=AL (costs:=costs) hco (ss:=ss) (m:=jM 1 m ⟨y.pt,co.owner,y.am⟩) hr (by
    intro x hx
    rcases RK hx with rfl | hx
    ·refine⟨?_,?_,co,by simp,rfl,hco⟩
     ·have:=TE (λe he=>(hm e he).1) (y.pt,co.owner);show 0<=getM 0 (y.pt,co.owner) m+1*y.am;omega
     ·obtain⟨w,hw,e⟩:=h2.resolve_left hy;exact⟨w,hw,e.symm⟩
    ·exact hm x hx)
   refine⟨g1,λto=>?_⟩;have:=g2 to;rw[Ph] at this;simp only at this;rw[List.map_cons,List.sum_cons];split at this<;>rename_i hh
   ·rw[t8 hh];omega
   ·rw[ul hh];omega
def Ax(to:List Nat)(costs:List Co)(co:Co):C2 to (costs++[co])=C2 to costs+(if (decide (co.owner=to)&&co.ok)=true then co.am else 0):=by
 unfold C2;rw[dl,bk,fb]
 congr 1
 cases h:(decide (co.owner=to)&&co.ok)
 ·simp[be,h]
 ·simp[be,h]
def S6{co:Co}(h:co.ok=true):0<=co.am/\co.am<=1000000000000:=by
 unfold Co.ok x4 at h;simp only[bo,wp] at h;exact h.2.2.2
def Hu(c:List aQ)(dmg:bu)(ws:List Wy)(l:List br):∀(costs done:List Co) (m:cQ),I8 ws done m->I8 ws (done++costs) (du c dmg ws l costs m)
 | [],done,m,h=>by rw[List.append_nil];exact h
 | co::costs,done,m,h=>by
  have e:du c dmg ws l (co::costs) m=du c dmg ws l costs (if (eS c dmg ws l co).2.2=0 then ep (eS c dmg ws l co).1 co.owner m else m):=rfl;rw[e,show done++co::costs=(done++[co])++costs by simp];refine Hu c dmg ws l costs (done++[co]) _ ?_;have hs:=yJ c dmg ws l co
  have hm:∀e∈m,0<=e.2/\(∃w∈ws,w.cR=e.1.1)/\∃x∈done++[co],x.owner=e.1.2/\x.ok=true:=λe he=>by
   obtain⟨a,b,x,hx,hy⟩:=h.VC e he;exact⟨a,b,x,List.mem_append_left _ hx,hy⟩
  split
  ·rename_i h0
   have hco:co.ok=true:=by
    have:=hs.right h0;unfold ej at this;rw[bo] at this;exact this.2
   obtain⟨g1,g2⟩:=AL (costs:=done) hco (λs hs'=>⟨(hs.am s hs').1,(hs.am s hs').2.2⟩) hm;refine⟨g1,λto=>Int.le_trans (g2 to) ?_⟩;rw[Ax,hco,dt];have h1:=h.most to;have h2:=hs.WB h0;split<;>rename_i hh
   ·rw[t8 (ut hh)];omega
   ·rw[ul (by simpa using hh)];omega
  ·refine⟨hm,λto=>?_⟩;rw[Ax];have h1:=h.most to;split
   ·rename_i hh;have:=S6 (co:=co) (by rw[bo] at hh;exact hh.2);omega
   ·omega
def De(to:List Nat):∀m:cQ,(∀e∈m,0<=e.2)->Aa to (fV m)=qq to m
 | [],_=>rfl
 | e::m,h=>by
  have ih:=De to m λx hx=>h x (List.mem_cons_of_mem _ hx);have h0:=h e List.mem_cons_self;unfold Aa qq fV at ih ⊢;by_cases hp:0<e.2
  ·by_cases ht:e.1.2=to
   ·simp only[List.filter_cons,hp,ht,decide_true,if_true,List.map_cons,T7,List.sum_cons];rw[<-ih]
   ·simp only[List.filter_cons,hp,ht,decide_true,decide_false,if_true,List.map_cons,T7,Bool.false_eq_true,if_false];exact ih
  ·have hz:e.2=0:=by omega
   by_cases ht:e.1.2=to
   ·simp only[List.filter_cons,hp,ht,decide_true,decide_false,if_true,List.map_cons,Bool.false_eq_true,if_false,List.sum_cons,hz,Int.zero_add];exact ih
   ·simp only[List.filter_cons,hp,ht,decide_false,Bool.false_eq_true,if_false];exact ih
def Hw{a b:List Int}(h:a.Perm b):a.sum=b.sum:=by
 induction h with
 | nil=>rfl
 | cons _ _ ih=>rw[bw,bw,ih]
 | swap x y l=>simp only[bw];omega
 | trans _ _ h1 h2=>exact h1.trans h2
def M1(to:List Nat){a b:List Xf}(h:a.Perm b):Aa to a=Aa to b:=by
 unfold Aa;exact Hw ((h.filter _).map _)
def QU(c:List aQ)(dmg:bu)(ws:List Wy)(l:List br)(costs:List Co){t:Xf}(ht:t∈(cL (du c dmg ws l costs [])).1):
 (∃w∈ws,w.cR=t.fr)/\(∃co∈costs,co.owner=t.to/\co.ok=true)/\Aa t.to (cL (du c dmg ws l costs [])).1<=C2 t.to costs/\1<=t.am:=by
 have hok:I8 ws costs (du c dmg ws l costs []):=by
  have:=Hu c dmg ws l costs [] [] ⟨λe he=>(b5 he).elim,λto=>c4 _⟩
  rwa [nil_append] at this
 generalize du c dmg ws l costs []=m at ht hok ⊢;unfold cL at ht ⊢;split at ht
 ·cases ht
 rename_i hb;rw[ul hb];simp only at ht ⊢;have hp:=dD (fV m);have hm:=hp.mem_iff.1 ht;unfold fV at hm;obtain⟨e,he,rfl⟩:=mem_map.1 hm;obtain⟨he1,he2⟩:=mem_filter.1 he;have he2:=ww he2;obtain⟨_,h2,h3⟩:=hok.VC e he1;refine⟨h2,h3,?_,by show 1<=e.2;omega⟩;rw[M1 _ hp,De _ m λe he=>(hok.VC e he).1];exact hok.most _
def AK{own:List Nat}:∀{ss:List Sh} {m:cQ},(m.map (·.1)).Nodup->((ep ss own m).map (·.1)).Nodup
 | [],_,h=>h
 | y::ss,m,h=>by
  unfold ep;rw[ca];refine AK (ss:=ss) ?_;split
  ·exact h
  ·exact rf h
def ni{c:List aQ}{dmg:bu}{ws:List Wy}{l:List br}:∀{costs:List Co} {m:cQ},(m.map (·.1)).Nodup->((du c dmg ws l costs m).map (·.1)).Nodup
 | [],_,h=>h
 | co::costs,m,h=>by
  unfold du;rw[ca];refine ni (costs:=costs) ?_;split
  ·exact AK h
  ·exact h
def US(a b:Pr):gW gj [AV.str a.1,.str a.2] [.str b.1,.str b.2]=decide (a=b):=by
 obtain⟨a1,a2⟩:=a;obtain⟨b1,b2⟩:=b;simp only[gW,gj,mS,dt,Prod.mk.injEq,Bool.decide_and]
def u7:Keys prog 95 gG:=
 wa (cells:=λp:Pr=>[AV.str p.1,.str p.2]) (ks:=[.s,.s]) (by kernel_rfl) (by simp only[an,ax]) (λ_=>rfl) US λ_=>rfl
noncomputable def io(L:Nat->Prop)(i:Nat)(x y:SO):SO:=@ite _ (L i) (Classical.propDecidable _) x y
def oK{L:Nat->Prop}{i:Nat}{x y:SO}(h:L i):io L i x y=x:=t8 h
def fQ{L:Nat->Prop}{i:Nat}{x y:SO}(h:¬L i):io L i x y=y:=ul h
def bP(L:Nat->Prop)(i k:Nat)(x y:SO):io (λj=>L j\/j=i) k x y=if k=i then x else io L k x y:=by
 by_cases h:k=i
 ·rw[t8 h];exact oK (.inr h)
 ·rw[ul h];by_cases hl:L k
  ·rw[oK hl,oK (.inl hl)]
  ·rw[fQ hl,fQ λh'=>h'.elim hl h]
def lg{S:List SO}{o:Nat}{m:cQ}{b:Option (List Nat×Nat)}(p q:List Nat)(hS:S[o]?=some (jh gG aa m b)):ec prog S 82 (.map o) (.ag [ab p,ab q]) false=some (aa (getM 0 (p,q) m)):=
 uq (uv:=aa) (u0:=0) (k:=((p,q):Pr)) (kt:=95) (et:=3) (z:=.int .i64 0) (by simp only[an]) u7 (by simp only[an]) rfl (by simp only[sY,hS,jh]) rfl false
def j8{n:Nat}{l:cQ}:bO n (bB gG aa l)=bB gG aa l:=kU λ_=>jr _
def tR(ts:List Xf):List SV:=[ah 3 ts aC]
def fc(n:Int)(m:cQ)(ts:List Xf):cQ:=ts.foldl (jM n) m
def MB(n:Int)(m:cQ)(ts:List Xf)(t:Xf):fc n m (ts++[t])=jM n (fc n m ts) t:=by unfold fc;rw[List.foldl_append];rfl
def fH(B:Int)(m:cQ):Prop:=∀k,-B<=getM 0 k m/\getM 0 k m<=B
def fH.add{B n:Int}{m:cQ}{t:Xf}(h:fH B m)(hn:n=1\/n = -1)(ht : -1000000000000<=t.am/\t.am<=1000000000000):fH (B+1000000000000) (jM n m t):=by
 intro k;unfold jM;rw[ic];have h1:=h k;have h2:=h (t.fr,t.to);split
 ·rcases hn with rfl | rfl<;>omega
 ·omega
def A8{α:Type}{l:List α}{k:Nat}{x:α}(h:l[k]?=some x):l.take (k+1)=l.take k++[x]:=by
 rw[List.take_add_one,h];rfl
def wO(n:Int)(hn:n=1\/n = -1)(ll:List (List Xf))(mp:cQ)(hm:fH 1000000000000000 mp)(hll:ll.length<=10)(hL:∀ts∈ll,ts.length<=1000/\∀t∈ts,-1000000000000<=t.am/\t.am<=1000000000000):
 SC prog 22 [.map 0,aa n,ah 1 ll tR] [bB gG aa mp] [] (λr S'=>r=.bC []/\S'=[bB gG aa (ll.foldl (fc n) mp)]):=by
 refine J6 38 Tryz.func22 ?_
 have hlen:ll.length<=1000000:=by omega
 refine(zV)<|(zs) ?_;refine zL ll (λk=>fH (1000000000000000+k*1000000000000000) ((ll.take k).foldl (fc n) mp)) (λk=>[(0,.map 0),(1,aa n),(10,ah 1 ll tR),(11,aa ll.length),(12,aa k),(1000000,.ptr 0 0)]) (λk=>[bB gG aa ((ll.take k).foldl (fc n) mp)]) zH (by intro q;have:=hm q;simp only[take_zero,foldl_nil];omega) ?_;intro k hk hall;refine zT ll k ?_ ?_;rintro rfl;rotate_left;intro ts hx hlt;rotate_left
 ·refine(eN) ?_;simp only[fG,dH,cB,bX,if_true];rw[a8];exact zP []
 refine(gh) ?_;obtain⟨hL1,hL2⟩:=hL ts (a5 hx)
 have hlen2:ts.length<=1000000:=by omega
 refine(az (n3 hlt (aH (e:=1) (enc:=tR) (λ_=>rfl) hx) @tR.eq_1))<|(zV) ?_
 obtain⟨M0,hM0⟩:∃M0,M0=(ll.take k).foldl (fc n) mp:=⟨_,rfl⟩
 have hnext:(ll.take (k+1)).foldl (fc n) mp=fc n M0 ts:=by rw[A8 hx,bt,<-hM0];rfl
 rw[<-hM0] at hall ⊢
 have hk10:k<10:=by omega
 clear hM0;refine(zs) ?_;refine zL ts (λk2=>fH (1000000000000000+k*1000000000000000+k2*1000000000000) (fc n M0 (ts.take k2))) (λk2=>[(0,.map 0),(1,aa n),(10,ah 1 ll tR),(11,aa ll.length),(12,aa k),(16,ah 3 ts aC),(17,aa ts.length),(18,aa k2),(1000000,.ptr 0 0)]) (λk2=>[bB gG aa (fc n M0 (ts.take k2))]) zH (by intro q;have:=hall q;show _<=getM 0 q M0/\getM 0 q M0<=_;omega) ?_;intro k2 hk2 hall2;refine zT ts k2 ?_ ?_;rintro rfl;rotate_left;intro t hx2 hlt2;rotate_left
 ·refine(eN) ?_;rw[a8];refine(az (zi hlt hlen)) ?_;refine zX hlt (bK hnext) (by rw[hnext];intro q;have h1:=hall2 q;rw[a8] at h1;omega)
 refine(gh)<|(az (n3 hlt2 (aH (e:=3) (enc:=aC) (λ_=>rfl) hx2) @aC.eq_1)) ?_
 obtain⟨M,hM⟩:∃M,M=fc n M0 (ts.take k2):=⟨_,rfl⟩
 have hnx:fc n M0 (ts.take (k2+1))=jM n M t:=by rw[A8 hx2,MB,<-hM]
 rw[<-hM] at hall2 ⊢;clear hM;obtain⟨fr,to,am⟩:=t;have hta:=hL2 _ (a5 hx2);simp only at hta;obtain⟨g,hg⟩:∃g,g=getM 0 (fr,to) M:=⟨_,rfl⟩;have hgb:=hall2 (fr,to);rw[<-hg] at hgb
 have hmul : -9223372036854775808<=n*am/\n*am<=9223372036854775807:=by rcases hn with rfl | rfl<;>omega
 have hadd : -9223372036854775808<=g+n*am/\g+n*am<=9223372036854775807:=by rcases hn with rfl | rfl<;>omega
 have hput:jM n M ⟨fr,to,am⟩=cr (fr,to) (g+n*am) M:=by unfold jM;rw[hg]
 refine aq.fg (st':=⟨[(9,.ptr 1 0),(0,.map 0),(1,aa n),(10,ah 1 ll tR),(11,aa ll.length),(12,aa k),(16,ah 3 ts aC),(17,aa ts.length),(18,aa k2),(1000000,.ptr 0 0)],38,[bB gG aa M,.cells [ab fr,ab to,aa am]],[]⟩) (bK @j8) ?_;refine aq.born 0 rfl λbs c hbl=>?_;rw[al] at hbl;change aq _ _ _ ⟨_,_,[jh gG aa M (some (bs,c)),.cells [ab fr,ab to,aa am]],_⟩ _;obtain⟨b,hb⟩:∃b:List Nat×Nat,b=(bs,c):=⟨_,rfl⟩;rw[<-hb]
 have hbl:b.1.length=M.length:=by rw[hb];exact hbl
 clear hb;obtain⟨sb,hsb⟩:∃sb,sb=oQ b (fr,to) M:=⟨_,rfl⟩
 (repeat refine aq.seq ?_)
 refine aq.xv 14 20 (λL=>⟨(22,vo L 0 (.map 0))::(23,vo L 1 (.ptr 1 0))::(24,vo L 2 (ab fr))::(25,vo L 3 (.ptr 1 1))::(26,vo L 4 (ab to))::(27,vo L 5 (.ag [ab fr,ab to]))::(28,vo L 6 (aa g))::(29,vo L 7 (aa n))::(30,vo L 8 (.ptr 1 2))::(31,vo L 9 (aa am))::(32,vo L 10 (aa (n*am)))::(33,vo L 11 (aa (g+n*am)))::(34,vo L 12 (.bC [aa g,.a (.int .i64 (ce sb))]))::(35,vo L 13 (.a (.int .i64 (ce sb))))::[(9,.ptr 1 0),(0,.map 0),(1,aa n),(10,ah 1 ll tR),(11,aa ll.length),(12,aa k),(16,ah 3 ts aC),(17,aa ts.length),(18,aa k2),(1000000,.ptr 0 0)],38,[io L 12 (jh gG aa (fW 0 (fr,to) M) (some (iX b (fr,to) M))) (jh gG aa M (some b)),.cells [ab fr,ab to,aa am]],[]⟩) rfl (by kernel_rfl) (by rfl) (by decide) (by kernel_rfl) (Fg.less (by (simp only[bI,bj,dI,↓reduceIte,ac,ah,mD,fQ (L:=λ_=>False) (λh=>h)])<;>(repeat' apply b6)<;>first | rfl | trivial) (by (simp only[bI,bj,or_true,true_or,ah,mD,fQ (L:=λ_=>False) (λh=>h)])<;>(repeat' apply b6)<;>first | exact .inr rfl | exact .inl rfl | trivial)) (λL=>rfl) ?_ ?_
 ·rintro L i o him hC hr
  rcases i with _ | _ | _ | _ | _ | _ | _ | _ | _ | _ | _ | _ | _ | _ | i
  rotate_right
  ·exact t7 him (by omega)
  ·cases hr.fK;refine(zR) ?_;exact(bK (n2 @aR @bP))
  ·cases hr.fK;refine(zR) ?_;exact(bK (n2 @aR @bP))
  ·cases hr.fK;have d1:L 1:=hr.dep ⟨1,.data⟩ (by simp) rfl;refine(cK (dR d1)) ?_;exact(bK (n3 @aR @bP (dR d1)))
  ·cases hr.fK;refine(zR) ?_;exact(bK (n2 @aR @bP))
  ·cases hr.fK;have d3:L 3:=hr.dep ⟨3,.data⟩ (by simp) rfl;refine(cK (dR d3)) ?_;exact(bK (n3 @aR @bP (dR d3)))
  ·cases hr.fK;have d2:L 2:=hr.dep ⟨2,.data⟩ (by simp) rfl;have d4:L 4:=hr.dep ⟨4,.data⟩ (by simp) rfl;refine(cK (n2 (dR d2) (dR d4))) ?_;exact(bK (n4 @aR @bP (dR d2) (dR d4)))
  ·cases hr.fK;have d0:L 0:=hr.dep ⟨0,.data⟩ (by simp) rfl;have d5:L 5:=hr.dep ⟨5,.data⟩ (by simp) rfl
   have hlk:ec prog [io L 12 (jh gG aa (fW 0 (fr,to) M) (some (iX b (fr,to) M))) (jh gG aa M (some b)),.cells [ab fr,ab to,aa am]] 82 (.map 0) (.ag [ab fr,ab to]) false=some (aa g):=by
    by_cases h:L 12
    ·rw[oK h,lg fr to rfl,s9,<-hg]
    ·rw[fQ h,lg fr to rfl,<-hg]
   refine(cK (n3 (dR d0) (dR d5) hlk)) ?_;exact(bK (n4 @aR @bP (dR d0) (dR d5)))
  ·cases hr.fK;refine(zR) ?_;exact(bK (n2 @aR @bP))
  ·cases hr.fK;refine(zR) ?_;exact(bK (n2 @aR @bP))
  ·cases hr.fK;have d8:L 8:=hr.dep ⟨8,.data⟩ (by simp) rfl;refine(cK (dR d8)) ?_;exact(bK (n3 @aR @bP (dR d8)))
  ·cases hr.fK;have d7:L 7:=hr.dep ⟨7,.data⟩ (by simp) rfl;have d9:L 9:=hr.dep ⟨9,.data⟩ (by simp) rfl;refine(cK (n3 (dR d7) (dR d9) (Wu hmul))) ?_;exact(bK (n4 @aR @bP (dR d7) (dR d9)))
  ·cases hr.fK;have d6:L 6:=hr.dep ⟨6,.data⟩ (by simp) rfl;have d10:L 10:=hr.dep ⟨10,.data⟩ (by simp) rfl;refine(cK (n3 (dR d6) (dR d10) (qA hadd))) ?_;exact(bK (n4 @aR @bP (dR d6) (dR d10)))
  ·cases hr.fK;have d0:L 0:=hr.dep ⟨0,.data⟩ (by simp) rfl;have d5:L 5:=hr.dep ⟨5,.data⟩ (by simp) rfl;have h12:¬L 12:=hr.new;refine aG.VI (kv:=gG) (uv:=aa) (l:=M) (k:=((fr,to):Pr)) (u0:=0) (z:=.int .i64 0) (kt:=95) (et:=3) (oo:=0) (b:=b) (ky:=.ag [ab fr,ab to]) (by rfl) rfl rfl (by rfl) (iZ (dR d0)) (iZ (dR d5)) rfl (by rw[fQ h12];rfl) (by simp only[an]) u7 (by simp only[an]) rfl ?_;refine .nil ?_;rw[<-hg,<-hsb];exact(bK (n3 @aR @bP @set_cons_zero.{0}))
  ·cases hr.fK;have d12:L 12:=hr.dep ⟨12,.data⟩ (by simp) rfl;refine(cK (dR d12)) ?_;exact(bK (n3 @aR @bP (dR d12)))
 have v14:∀i,i<14->∀v:SV,vo (λj=>j<14) i v=v:=λi h v=>dh h;have v0:=v14 0 (by decide);have v13:=v14 13 (by decide);have v11:=v14 11 (by decide);have i12:∀x y:SO,io (λj=>j<14) 12 x y=x:=λx y=>oK (by decide);change aG _ _ _ _ _ _;refine aG.VD (kv:=gG) (uv:=aa) (l:=M) (k:=((fr,to):Pr)) (u0:=0) (oo:=0) (b:=iX b (fr,to) M) (sb:=sb) (u:=g+n*am) (by rfl) rfl rfl (by rfl) (iZ v0) (iZ v13) (iZ v11) (by rw[i12];rfl) (by rw[hsb];exact wM hbl) ?_;refine .nil ?_;rw[<-hput];change aq _ _ _ _ _;refine aq.fg (st':=⟨[(0,.map 0),(1,aa n),(10,ah 1 ll tR),(11,aa ll.length),(12,aa k),(16,ah 3 ts aC),(17,aa ts.length),(18,aa k2),(1000000,.ptr 0 0)],38,[bB gG aa (jM n M ⟨fr,to,am⟩)],[]⟩) (bK @set_cons_zero.{0}) ?_;refine(az (zi hlt2 hlen2)) ?_;refine zX hlt2 (bK hnx) (by rw[hnx];have:=hall2.add (t:=⟨fr,to,am⟩) hn hta;intro q;have:=this q;omega)
def dA(t:Xf):cm (aC t)=true:=rfl
def PW:∀l:List Xf,(l.flatMap aC).all ef=true
 | []=>rfl
 | a::l=>by rw[flatMap_cons,dk,PW l];rfl
def QL(p:Pr):A6 (gG p)=.ag [ab p.1,ab p.2]:=rfl
def Ld:Prop:=(∀(ts:List Xf),ts≠[]->ts.length<=1000000->(ts.map gl).Nodup->SC prog 56 [.iface 35 (.buf 0 ts.length 3 none),.fn 57 [] [.ptr 1 0]] [.cells (ts.flatMap aC),.cells [.buf 0 ts.length 3 none]] []
 (λr S'=>r=.bC []/\S'=[.cells ((eR ts).flatMap aC),.cells [.buf 0 ts.length 3 none]]))/\
 SC prog 56 [.iface 35 cI,.fn 57 [] [.ptr 0 0]] [.cells [cI]] [] (λr S'=>r=.bC []/\S'=[.cells [cI]])
def Ez(q:List Xf):SO:=if q=[] then .gone else .cells (q.flatMap aC)
def AG:Ez []=.gone:=rfl
def JU{q:List Xf}(h:q≠[]):Ez q=.cells (q.flatMap aC):=ul h
def Nc(o:Nat)(q:List Xf):bO o (Ez q)=Ez q:=by
 unfold Ez;split
 ·rfl
 ·show SO.cells _=_;rw[aY (enc:=aC) dA]
def Nr{p o e n:Nat}(h:o≠p):names p (bp o e n)=false:=by
 unfold bp;split
 ·exact jr _
 ·rw[names];exact un h
def Al(o:Nat)(l:cQ):(l.map λe=>aa e.2).map (aM o)=l.map λe=>aa e.2:=bL (eU (λ_=>rfl) l)
def Kf{m:cQ}(h:m.any (λe=>decide (1000000000000<e.2))=true):cL m=([],13):=by unfold cL;rw[t8 h]
def NV{m:cQ}(h:∀e∈m,e.2<=1000000000000):cL m=(eR (fV m),0):=by
 unfold cL;rw[ul];rw[List.any_eq_true];rintro⟨e,he,h1⟩;have:=h e he;have:=ww h1;omega
def NI(l:cQ)(e:Pr×Int):fV (l++[e])=if 0<e.2 then fV l++[T7 e] else fV l:=by
 unfold fV;rw[dl];by_cases h:0<e.2<;>simp[h]
def xR(hsort:Ld)(mp:cQ)(hn:(mp.map (·.1)).Nodup)(hlen:mp.length<=100000):PC prog 23 [oI gG aa mp] (·=.bC [ah 3 (cL mp).1 aC,aa (cL mp).2]):=by
 refine pB 32 Tryz.func23 ?_;refine(mO)<|(zC) ?_;refine aG.Vt (ks:=mp.map λe=>gG e.1) (vs:=mp.map λe=>aa e.2) (by rfl) rfl rfl (by rfl) rfl (by simp only[an]) ?_
 intro bs c hbs;refine(zR) ?_
 (repeat refine aq.seq ?_)
 refine aq.block (aq.loop (λm st=>∃pos:List Nat,pos.Nodup/\(∀j∈pos,j<mp.length)/\(∀e∈bq mp pos,e.2<=1000000000000)/\mp.length-pos.length=m/\st=⟨[(4,.ptr 0 0),(8,.ptr 1 0)],32,[.cells [bp 2 3 (fV (bq mp pos)).length],.pd (mp.map λe=>gG e.1) (mp.map λe=>aa e.2) bs c pos,Ez (fV (bq mp pos))],[]⟩) mp.length zH ⟨[],c0,λj h=>(b5 h).elim,λe h=>(b5 h).elim,by simp,rfl⟩ (by rintro m st ⟨_,_,_,_,_,rfl⟩;rfl) ?_);rintro m st ⟨pos,hpn,hpl,hle,rfl,rfl⟩;obtain⟨q,hq⟩:∃q,q=fV (bq mp pos):=⟨_,rfl⟩;rw[<-hq];refine(zC) ?_;refine aG.Vp (by rfl) rfl rfl (by rfl) rfl rfl (λj hj=>by rw[al];exact hpl j hj) ?_ ?_;rotate_left
 ·intro j hj hjn;rw[al] at hj;obtain⟨e,he⟩:∃e,mp[j]?=some e:=⟨mp[j],bc hj⟩;obtain⟨q1,q2,q3⟩:=pA hpn hpl hj hjn;have hsn:=lE mp pos he;have hps:=NI (bq mp pos) e;rw[<-hsn,<-hq] at hps
  refine(zR)<|(gh)<|(zC) ?_;refine aG.Vl (k:=gG e.1) (v:=aa e.2) (by rfl) rfl rfl (by rfl) rfl rfl (by rw[ay,he];rfl) (by rw[ay,he];rfl) ?_;refine aG.r0 (by rfl) (by simp only[bI,bj,ah,an,ad,ax,↓reduceIte,ac,ap,a0,aj,aS,ae,ai,aN,QL,Nr (show 2≠3 by decide),Nc,Al];first | done | rfl) ?_
  have hmem:e∈mp:=a5 he;by_cases hb:1000000000000<e.2
  ·refine(az (ut hb))<|(cM) ?_
   have hbig:cL mp=([],13):=Kf (List.any_eq_true.2 ⟨e,hmem,ut hb⟩);exact iP [.tmp 2,.tmp 3] (r:=.bC [.sl 0 3 [],aa 13]) (hw:=zv) (hq:=by rw[hbig];rfl)
  refine(az (un hb))<|(zN) ?_
  have hle2:∀x∈bq mp (pos++[j]),x.2<=1000000000000:=by
   intro x hx;rw[hsn] at hx
   rcases mem_append.1 hx with hx | hx
   ·exact hle x hx
   ·rw[mem_singleton.1 hx];omega
  have hmeas:mp.length-(pos++[j]).length<mp.length-pos.length:=by rw[a6];simp only[a7,length_nil];omega
  by_cases hp:0<e.2
  ·refine(az (ut hp))<|(zY) ?_
   rw[t8 hp] at hps;have happ:=en (enc:=aC) (e:=3) (λ_=>rfl) dA 2 q (T7 e);have hcl:=aL (enc:=aC) (e:=3) (λ_=>rfl) q
   have hql:q.length<=1000000:=by
    have h1:q.length<=(bq mp pos).length:=by rw[hq];unfold fV;rw[al];exact dd _ _
    have h2:(bq mp pos).length<=pos.length:=bZ _ _;omega
   have hte:aC (T7 e)=[ab e.1.1,ab e.1.2,aa e.2]:=rfl;by_cases hq0:q=[]
   ·subst hq0;refine(az (n3 @eO @length_nil.{0} @AG)) ?_
    have hS1:bp 2 3 (fV (bq mp (pos++[j]))).length=.buf 2 1 3 none:=by rw[hps];rfl
    have hS2:Ez (fV (bq mp (pos++[j])))=.cells [ab e.1.1,ab e.1.2,aa e.2]:=by rw[hps];rfl
    have hrn:∀r:Nat->Nat,lr r (mp.map λe=>aa e.2)=mp.map λe=>aa e.2:=λr=>bg (eU (λ_=>rfl) mp);exact⟨mp.length-(pos++[j]).length,_,hmeas,((Fg.rn (f':=[(4,.ptr 0 0),(8,.ptr 1 0)]) (n:=32) (S':=[.cells [.buf 2 1 3 none],.pd (mp.map λe=>gG e.1) (mp.map λe=>aa e.2) bs c (pos++[j]),.cells [ab e.1.1,ab e.1.2,aa e.2]]) [0,1,5] (by decide) rfl (I0 hrn) (I1 hrn))).trans (bK (n2 hS1 hS2)),pos++[j],q1,q2,hle2,rfl,rfl⟩
   ·have hil:¬q.length=0:=λh=>hq0 (length_eq_zero_iff.1 h);rw[hte] at happ;refine(zs) ?_;refine aq.r0 (by rfl) (by simp only[bI,bj,ah,an,ad,ax,↓reduceIte,ac,ap,a0,aj,aS,ae,ai,aN,bU hil,JU hq0,aY (enc:=aC) dA _ q,hcl,a9,hql,happ];first | done | rfl) ?_
    have hS1:bp 2 3 (fV (bq mp (pos++[j]))).length=.buf 2 (q.length+1) 3 none:=by rw[hps,a6];exact bU (Nat.succ_ne_zero _)
    have hS2:Ez (fV (bq mp (pos++[j])))=.cells ((q++[T7 e]).flatMap aC):=by rw[hps];exact JU (by simp)
    exact⟨mp.length-(pos++[j]).length,_,hmeas,(bK (n2 hS1 hS2)),pos++[j],q1,q2,hle2,rfl,rfl⟩
  ·refine(az (un hp))<|(zN) ?_
   rw[ul hp] at hps;exact⟨mp.length-(pos++[j]).length,_,hmeas,(bK hps),pos++[j],q1,q2,hle2,rfl,rfl⟩
 intro hall;have hperm:(bq mp pos).Perm mp:=mY hpn hpl λj hj=>hall j (by rw[al];exact hj)
 refine(zR)<|(eN) ?_
 have hpq:q.Perm (fV mp):=by rw[hq];unfold fV;exact(hperm.filter _).map _
 have hkn:=mN mp hn;have hsq:eR q=eR (fV mp):=ox hkn ((dD q).trans hpq) ((lx q).imp λh=>by unfold Em at h;simpa using h)
 have htr:cL mp=(eR q,0):=by rw[hsq];exact NV λe he=>hle e (hperm.mem_iff.2 he)
 have hql:q.length<=1000000:=by
  rw[hpq.length_eq];unfold fV;rw[al];exact b8 (dd _ _) (by omega)
 refine aq.fg (st':=⟨[(4,.ptr 0 0)],32,[.cells [bp 2 3 q.length],.gone,Ez q],[]⟩) zH ?_;by_cases hq0:q=[]
 ·rw[hq0] at htr ⊢;rw[htr]
  (try change aq _ _ _ _ _)
  refine(iC (n3 @eO @length_nil.{0} @AG)) ?_;refine zS [0] @AG hsort.2 ?_;exact(zR)<|(zV)<|iP [.tmp 2,.tmp 3] (r:=.bC [.sl 0 3 [],aa 0]) (hw:=zv)
 have hil:¬q.length=0:=λh=>hq0 (length_eq_zero_iff.1 h);have hs:=hsort.1 q hq0 hql ((hpq.map gl).nodup_iff.2 hkn);have hrq:∀(r:Nat->Nat) (l:List Xf),lr r (l.flatMap aC)=l.flatMap aC:=λr l=>bg (aA dA l);have hbq:∀(B:Nat) (l:List Xf),gC B (l.flatMap aC)=true:=λB l=>bF (aA dA l);have hkq:∀(o:Nat) (l:List Xf),(l.flatMap aC).map (aM o)=l.flatMap aC:=λo l=>bL (aA dA l);rw[bU hil,JU hq0]
 (try change aq _ _ _ _ _)
 refine(zC) ?_;refine zS [2,0] (n3 hrq hbq hkq) hs ?_;refine(zR)<|(zV) ?_
 have hsl:(eR q).length=q.length:=(dD q).length_eq;refine aq.fg (st':=⟨[(2,.buf 2 q.length 3 none),(3,aa 0)],32,[.gone,.gone,.cells ((eR q).flatMap aC)],[]⟩) zH ?_;have htk:((eR q).flatMap aC).take (q.length*3)=(eR q).flatMap aC:=cd (by rw[aL (enc:=aC) (e:=3) (λ_=>rfl),hsl];exact a9 _);refine aq.fg (Fg.freeze (f':=[(2,ah 3 (eR q) aC),(3,aa 0)]) 2 rfl (λh=>by cases h) ⟨.inr (by rw[ny,hsl];exact .buf rfl (by rw[htk];exact bl.refl (aA dA _)) (by rw[aL (enc:=aC) (e:=3) (λ_=>rfl),hsl];exact a9 _)),.inl rfl,trivial⟩) ?_;rw[htr];exact iP [.tmp 2,.tmp 3] (r:=.bC [ah 3 (eR q) aC,aa 0]) (hw:=.bC (.cons (.sl _ _ _) (.cons (.a _) .nil)))
def ET{c:List aQ}{dmg:bu}:∀(l:List bH) (i:Nat) (s:List aI),(∀p∈s,gU p)->(∀e∈l,qC e)->(rm c dmg i l s).1.length<=s.length+l.length
 | [],i,s,_,_=>a9 _
 | e::l,i,s,hs,hl=>by
  have he:=hl e bd;have hr:=λx hx=>hl x (ba _ hx);obtain⟨h1,h2,_,_⟩:=vS (c:=c) (ps:=s) (e:=e) hs he;rw[rm];split
  ·split
   ·obtain⟨k1,k2⟩:=Mu (dmg:=dmg) (e:=e) h1;have:=ET (c:=c) (dmg:=dmg) l (i+1) _ k1 hr;rw[k2] at this;rw[a7];omega
   ·have:=ET (c:=c) (dmg:=dmg) l (i+1) _ h1 hr;rw[a7];omega
  ·exact bY _
def Qz{c:List aQ}{dmg:bu}{l:List bH}{day:Int}(hl:∀e∈l,qC e):(runN c dmg l day).1.length<=l.length:=by
 unfold runN;split
 ·have h1:=ET (c:=c) (dmg:=dmg) (gK (fp (nd day) l)) 0 [] (λp hp=>by cases hp) (λe he=>hl e (Ml he));have h2:=EU l (nd day);simp only[length_nil] at h1;omega
 ·exact bY _
def HP(c:List aQ)(dmg:bu)(day:Int):runN c dmg [] day=([],-1,if (mg c&&Proofs.eb dmg)=true then 0 else 1):=by
 unfold runN;split
 ·have:gK (fp (nd day) [])=[]:=length_eq_zero_iff.1 (Nat.le_zero.1 (EU [] (nd day)));rw[this];rfl
 ·rfl
def NH(o:Option (List bH)):∃e,L4 o=.bC [ah 14 (o.getD []) aF,aa e]:=by
 cases o with
 | none=>exact⟨1,rfl⟩
 | some es=>exact⟨0,rfl⟩
def MW{own:List br}{ch:List Int}(h:∀r∈own,eh r):(∀e∈pU own ch,qC e)/\(pU own ch).length<=own.length:=by
 unfold pU mB;split
 ·split
  ·refine⟨λe he=>?_,?_⟩
   ·obtain⟨p,hp,he⟩:=List.mem_flatMap.1 he;unfold gO at he;have hr:=(List.of_mem_zip hp).1;rw[Option.mem_toList] at he;exact(h _ hr).ev e (a5 he)
   ·refine b8 (s7 _) ?_;rw[List.length_zip];exact Nat.min_le_left _ _
  ·exact⟨λe he=>(by cases he),bY _⟩
 ·exact⟨λe he=>(by cases he),bY _⟩
def OD:∀(l:List Sh),(∀s∈l,0<s.am/\s.am<=1000000000000)->0<=(l.map Sh.am).sum/\(l.map Sh.am).sum<=l.length*1000000000000
 | [],_=>by simp
 | s::l,h=>by
  have h1:=OD l λx hx=>h x (ba _ hx);have h2:=h s bd;rw[map_cons,bw,a7];omega
def Ti(r:List Sh×Int×Int):SV:=.bC [ah 2 r.1 eG,aa r.2.1,aa r.2.2]
def pT(r:br):(aB r).length=2:=rfl
def sX(r:br):cm (aB r)=true:=rfl
def nW(b:qB):(dw b).length=1:=rfl
def qL(b:qB):cm (dw b)=true:=rfl
def K0(c:List aQ)(dmg:bu)(ws:List Wy)(l:List br)(co:Co)(hc:jI c)(hf:gJ dmg)(hw:∀w∈ws,w.fits)(hco:co.fits)(hlw:ws.length<=1000)(hl:∀r∈l,eh r)(hl2:∀r∈l,r.opts.length<=400000)(hlen:l.length<20):
 PC prog 21 [.ag (ah 3 c ao::aD dmg),ah 5 ws bJ,ah 2 l aB,.ag (bN co)] (·=Ti (eS c dmg ws l co)):=by
 have hfl:(aD dmg).length=3:=eL dmg;have hft:(aD dmg).take 3=aD dmg:=cd (by rw[hfl];exact a9 _);have hfk:=λo:Nat=>bL (o:=o) (aE dmg);have hfn:=λo:Nat=>dL (o:=o) (aE dmg)
 have hlen6:l.length<=1000000:=by omega
 refine pB 138 Tryz.func21 ?_;rw[dV];refine(az (n2 hfk hfn)) ?_;refine aq.fg (Fg.freeze (f':=[(1,ah 5 ws bJ),(2,ah 2 l aB),(4,.ip (ah 3 c ao::aD dmg)),(7,.ptr 1 0)]) 0 rfl (λh=>by cases h) ⟨.inl rfl,.inl rfl,.inr (.ptr rfl (bl.refl (aE dmg)) (bY _)),.inl rfl,trivial⟩) ?_;refine aq.fg (Fg.freeze (f':=[(1,ah 5 ws bJ),(2,ah 2 l aB),(4,.ip (ah 3 c ao::aD dmg)),(7,.ip [ab co.part,ab co.owner,aa co.day,aa co.am])]) 1 rfl (λh=>by cases h) (sh @ah.eq_1)) ?_;refine aq.fg (st':=⟨[(1,ah 5 ws bJ),(2,ah 2 l aB),(4,.ip (ah 3 c ao::aD dmg)),(7,.ip [ab co.part,ab co.owner,aa co.day,aa co.am])],138,[],[]⟩) zH ?_
 (try change aq _ _ _ _ _)
 have hrun0:=tz c dmg [] 0 hc hf (by decide) (λe h=>by cases h);rw[HP] at hrun0
 have hN:eS c dmg ws l co=if jN c dmg ws l co=true then ([],0,1) else eS c dmg ws l co:=by
  split
  ·rename_i h;rw[eS,t8 h]
  ·rfl
 refine(iC (n2 hfl hft))<|(zK hrun0 (hwk:=(.cons (.ag (bl.refl (aE dmg))) (.cons (.nil 14) (.cons (.a _) .nil)))) (hfl:=.inr (.cons (.ag (bl.refl (aE dmg))) (.cons (.nil 14) (.cons (.a _) .nil))))) ?_
 unfold QA;cases hv:mg c&&Proofs.eb dmg
 ·have hb:jN c dmg ws l co=true:=by rw[jN,hv];rfl
  refine(zR)<|(xS)<|(zV)<|(zE) ?_;exact zO [.tmp 8,.tmp 9,.tmp 10] (r:=.bC [.sl 0 2 [],aa 0,aa 1]) (hw:=by exact .bC (.cons (.nil _) (.cons (.a _) (.cons (.a _) .nil)))) (hq:=by (try simp only[df,aX]);first | done | (rw[eS,t8 hb];rfl))
 refine(zR)<|(zC)<|(zK (xM ws co hw hco hlw)) ?_
 cases hr:ej ws co
 ·have hb:jN c dmg ws l co=true:=by rw[jN,hv,hr];rfl
  refine(zR)<|(cM)<|(zE) ?_;exact zO [.tmp 8,.tmp 9,.tmp 10] (r:=.bC [.sl 0 2 [],aa 0,aa 1]) (hw:=by exact .bC (.cons (.nil _) (.cons (.a _) (.cons (.a _) .nil)))) (hq:=by (try simp only[df,aX]);first | done | (rw[eS,t8 hb];rfl))
 refine(zQ)<|(zK (xB (l:=l) (λr=>!(Proofs.fX r)) (first:=[]) (cap:=[]) hlen6 (λx hx=>KZ x (hl x hx)) ⟨rfl,rfl⟩)) ?_
 cases hva:l.any λr=>!(Proofs.fX r);rotate_left
 ·have hb:jN c dmg ws l co=true:=by rw[jN,hv,hr,hva];rfl
  refine(zR)<|(cM)<|(zE) ?_;exact zO [.tmp 8,.tmp 9,.tmp 10] (r:=.bC [.sl 0 2 [],aa 0,aa 1]) (hw:=by exact .bC (.cons (.nil _) (.cons (.a _) (.cons (.a _) .nil)))) (hq:=by (try simp only[df,aX]);first | done | (rw[eS,t8 hb];rfl))
 have hb:jN c dmg ws l co=false:=by rw[jN,hv,hr,hva];rfl
 clear hN
 refine(zR)<|(iY)<|(zC)<|(zK (N8 l co.part hl hl2 hlen6) (hfl:=.inr (bl.refl rfl))) ?_
 have hlo:=CS l co.part;have hown:BQ l co.part=(pZ l co.part).filterMap (l[·]?):=rfl;generalize pZ l co.part=is at hlo hown;refine(zR) ?_
 have hlen7:is.length<=1000000:=by omega
 refine(zs) ?_;refine zL is (λk=>True) (λk=>[(1,ah 5 ws bJ),(2,ah 2 l aB),(4,.ip (ah 3 c ao::aD dmg)),(7,.ip [ab co.part,ab co.owner,aa co.day,aa co.am]),(14,bp 1 2 ((is.take k).filterMap (l[·]?)).length),(53,ah 1 is (aw cD)),(54,aa is.length),(55,aa k)]) (λk=>q8 1 ((is.take k).filterMap (l[·]?)) aB) (bK (n5 @take_zero.{0} @List.filterMap_nil.{0,0} @length_nil.{0} @eO @mA)) zp ?_;intro k hk hall;refine zT is k ?_ ?_;rintro rfl;rotate_left;intro i hx hlt;rotate_left;rotate_left
 ·have hil:i<l.length:=hlo.2 i (a5 hx);obtain⟨r,hri⟩:∃r,l[i]?=some r:=⟨l[i],bc hil⟩;have hfm:=P6 hx hri;have hol:((is.take k).filterMap (l[·]?)).length<=k:=b8 (bZ _ _) (by rw[bv];omega);generalize hO:(is.take k).filterMap (l[·]?)=out at hol hfm;have hcl:=aL pT out;have hkc:=λo=>aY sX o out
  refine(gh)<|(az (n3 hlt (aH (e:=1) (enc:=aw cD) (λ_=>rfl) hx) @aw.eq_1)) ?_
  by_cases hk0:out=[]
  ·rw[show q8 1 out aB=[] by rw[hk0];rfl,show bp 1 2 out.length=cI by rw[hk0];rfl]
   have f1:bp 1 2 ((is.take (k+1)).filterMap (l[·]?)).length=.buf 1 1 2 none:=by rw[hfm,hk0];rfl
   have f2:q8 1 ((is.take (k+1)).filterMap (l[·]?)) aB=[.gone,.cells (aB r)]:=by rw[hfm,hk0];rfl
   refine(az (n3 hil (aH (e:=2) (enc:=aB) (λ_=>rfl) hri) @aB.eq_1))<|(az (zi hlt hlen7)) ?_;refine zX hlt (bK (n3 f1 f2 @aB.eq_1)) trivial
  ·have hk1:¬out.length=0:=λh=>hk0 (length_eq_zero_iff.1 h)
   have f1:bp 1 2 ((is.take (k+1)).filterMap (l[·]?)).length=.buf 1 (out.length+1) 2 none:=by rw[hfm,a6];rfl
   have f2:q8 1 ((is.take (k+1)).filterMap (l[·]?)) aB=[.gone,.cells ((out++[r]).flatMap aB)]:=by rw[hfm,ng];rfl
   have happ:=en pT sX 1 out r;rw[show aB r=[.sl r.opts.length 14 (r.opts.flatMap aF),au r.qK] from rfl] at happ;rw[jk hk0,bU hk1]
   refine(az (n9 hil (aH (e:=2) (enc:=aB) (λ_=>rfl) hri) @aB.eq_1 hcl hkc rh (show out.length<=1000000 by omega) @a9 happ))<|(az (zi hlt hlen7)) ?_;refine zX hlt (bK (n2 f1 f2)) trivial
 refine(eN) ?_;rw[a8,<-hown];have hoo:=λr (hr:r∈BQ l co.part)=>hl r (Sc hr);have hol:=Nat.lt_of_le_of_lt (Sb l co.part) hlen
 have hS:eS c dmg ws l co=Mn c dmg ws (BQ l co.part) co:=by rw[eS,ul (by rw[hb];decide)]
 generalize BQ l co.part=own at hoo hol hS ⊢;clear hall hown hlo hlen7;unfold Mn at hS;by_cases hk0:own=[]
 ·rw[t8 hk0] at hS;rw[show q8 1 own aB=[] by rw[hk0];rfl,show bp 1 2 own.length=cI by rw[hk0];rfl]
  refine(xS)<|(zV)<|(zE) ?_;exact zO [.tmp 8,.tmp 9,.tmp 10] (r:=.bC [.sl 0 2 [],aa 0,aa 2]) (hw:=by exact .bC (.cons (.nil _) (.cons (.a _) (.cons (.a _) .nil)))) (hq:=by (try simp only[df,aX]);first | done | (rw[hS];rfl))
 have hk1:¬own.length=0:=λh=>hk0 (length_eq_zero_iff.1 h);rw[ul hk0] at hS;rw[jk hk0,bU hk1]
 refine(az (show decide ((own.length:Int)=0)=false by simp only[wd];omega))<|(zN) ?_;refine aq.fg (Fg.freeze (f':=[(1,ah 5 ws bJ),(4,.ip (ah 3 c ao::aD dmg)),(7,.ip [ab co.part,ab co.owner,aa co.day,aa co.am]),(14,ah 2 own aB)]) 1 rfl (λh=>by cases h) ⟨.inl rfl,.inl rfl,.inl rfl,.inr (.buf rfl (by rw[c9 pT];exact bl.refl (aA sX _)) (by rw[aL pT];exact a9 _)),trivial⟩) ?_;refine aq.fg (st':=⟨[(1,ah 5 ws bJ),(4,.ip (ah 3 c ao::aD dmg)),(7,.ip [ab co.part,ab co.owner,aa co.day,aa co.am]),(14,ah 2 own aB)],138,[],[]⟩) zH ?_
 (try change aq _ _ _ _ _)
 have hal:=Ki c own 4096 hc hoo hol hk0;have hai:=λch (h:ch∈(ly c own 4096).1)=>TJ (Tx h);have ham:=OB (c:=c) (l:=own) (most:=4096) (by decide);have hak:=OC (c:=c) (l:=own) (most:=4096);generalize ly c own 4096=q at hal hai ham hak hS
 refine(zC)<|(zK hal (hfl:=.inr (bl.refl rfl)))<|(zR) ?_
 cases h0:decide (q.2=0)
 ·rw[ul (wt h0)] at hS
  refine(az h0)<|(zN)<|(az h0)<|(cM)<|(zE) ?_;exact zO [.tmp 8,.tmp 9,.tmp 10] (r:=.bC [.sl 0 2 [],aa 0,aa q.2]) (hw:=by exact .bC (.cons (.nil _) (.cons (.a _) (.cons (.a _) .nil)))) (hq:=by (try simp only[df,aX]);first | done | (rw[hS];rfl))
 rw[t8 (ww h0)] at hS;have hne:=hak (ww h0);have hq2:=ww h0;by_cases h1:q.1.length=4096
 ·rw[t8 h1] at hS
  refine(az (n2 h0 (show decide ((q.1.length:Int)=4096)=true by simp only[wp];omega)))<|(cM)<|(xS)<|(zV)<|(zE) ?_;exact zO [.tmp 8,.tmp 9,.tmp 10] (r:=.bC [.sl 0 2 [],aa 0,aa 7]) (hw:=by exact .bC (.cons (.nil _) (.cons (.a _) (.cons (.a _) .nil)))) (hq:=by (try simp only[df,aX]);first | done | (rw[hS];rfl))
 rw[ul h1] at hS
 refine(az (n2 h0 (show decide ((q.1.length:Int)=4096)=false by simp only[wd];omega)))<|(zN)<|(az h0)<|(iY)<|(zV) ?_
 have hlen8:q.1.length<=1000000:=by omega
 have hbk:=λall=>F6 (c:=c) (dmg:=dmg) (own:=own) (all:=all) hr;have hbl:∀all:List (List Int),(fk c dmg ws own co all).length=all.length:=λall=>al _;refine(zs) ?_;refine zL q.1 (λk=>True) (λk=>[(1,ah 5 ws bJ),(4,.ip (ah 3 c ao::aD dmg)),(7,.ip [ab co.part,ab co.owner,aa co.day,aa co.am]),(14,ah 2 own aB),(18,bp 2 1 (fk c dmg ws own co (q.1.take k)).length),(87,ah 1 q.1 fZ),(88,aa q.1.length),(89,aa k)]) (λk=>q8 2 (fk c dmg ws own co (q.1.take k)) dw) (bK (n6 @take_zero.{0} @fk.eq_1 @map_nil.{0,0} @length_nil.{0} @eO @mA)) zp ?_;intro k hk hall;refine zT q.1 k ?_ ?_;rintro rfl;rotate_left;intro ch hx hlt;rotate_left;rotate_left
 ·have hch:=hai ch (a5 hx);have hev:=MW (ch:=ch) hoo
  have hbs:fk c dmg ws own co (q.1.take (k+1))=fk c dmg ws own co (q.1.take k)++[l9 ws (runN c dmg (pU own ch) co.day).1 co]:=by
   unfold fk;rw[bz hx,bk];rfl
  have hol2:(fk c dmg ws own co (q.1.take k)).length<=100000:=by rw[hbl,bv];omega
  obtain⟨e1,he1⟩:=NH (mB own ch);have hpk:=It own ch hoo (by omega) (by omega);rw[he1] at hpk;rw[show(mB own ch).getD []=pU own ch from rfl] at hpk;generalize pU own ch=x3 at hpk hev hbs;have hru:=tz c dmg x3 co.day hc hf (by omega) hev.1;have hpl:=Qz (c:=c) (dmg:=dmg) (day:=co.day) hev.1;unfold QA at hru;generalize runN c dmg x3 co.day=rr at hru hpl hbs;have hdv:=uY ws rr.1 co hlw (by omega) hr;generalize l9 ws rr.1 co=bb at hdv hbs;generalize (mU rr.1 co.part).isSome=fo at hdv;generalize fk c dmg ws own co (q.1.take k)=out at hbs hol2 ⊢;have hcl:=aL nW out;have hkc:=λo=>aY qL o out
  refine(gh)<|(az (n3 hlt (aH (e:=1) (enc:=fZ) (λ_=>rfl) hx) @fZ.eq_1)) ?_
  by_cases hk0:out=[]
  ·rw[show q8 2 out dw=[] by rw[hk0];rfl,show bp 2 1 out.length=cI by rw[hk0];rfl]
   have f1:bp 2 1 (fk c dmg ws own co (q.1.take (k+1))).length=.buf 2 1 1 none:=by rw[hbs,hk0];rfl
   have f2:q8 2 (fk c dmg ws own co (q.1.take (k+1))) dw=[.gone,.gone,.cells (dw bb)]:=by rw[hbs,hk0];rfl
   refine(zC)<|(zK hpk (hfl:=.inr (bl.refl rfl)))<|(zR)<|(iC (n2 hfl hft))<|(zK hru (hwk:=(.cons (.ag (bl.refl (aE dmg))) (bl.refl rfl))) (hfl:=.inr (.cons (.ag (bl.refl (aE dmg))) (bl.refl rfl))))<|(zR)<|(zC)<|(zK hdv (hfl:=.inr (bl.refl rfl)))<|(zR)<|(zV)<|(az (zi hlt hlen8)) ?_;refine zX hlt (bK (n3 f1 f2 @dw.eq_1)) trivial
  ·have hk1:¬out.length=0:=λh=>hk0 (length_eq_zero_iff.1 h)
   have f1:bp 2 1 (fk c dmg ws own co (q.1.take (k+1))).length=.buf 2 (out.length+1) 1 none:=by rw[hbs,a6];rfl
   have f2:q8 2 (fk c dmg ws own co (q.1.take (k+1))) dw=[.gone,.gone,.cells ((out++[bb]).flatMap dw)]:=by rw[hbs,ng];rfl
   have happ:=en nW qL 2 out bb;rw[show dw bb=[oI AV.str aa bb] from rfl,bi] at happ;rw[jk hk0,bU hk1]
   refine(zC)<|(zK hpk (hfl:=.inr (bl.refl rfl)))<|(cK (n2 hkc rh))<|(iC (n3 hfl hft hkc))<|(zK hru (hwk:=(.cons (.ag (bl.refl (aE dmg))) (bl.refl rfl))) (hfl:=.inr (.cons (.ag (bl.refl (aE dmg))) (bl.refl rfl))))<|(cK (n2 hkc rh))<|(iC hkc)<|(zK hdv (hfl:=.inr (bl.refl rfl)))<|(cK hkc)<|(az (n6 hkc hcl @bi (show out.length<=1000000 by omega) @a9 happ))<|(az (zi hlt hlen8)) ?_;refine zX hlt (bK (n2 f1 f2)) trivial
 refine(eN) ?_;rw[a8];have hbn:fk c dmg ws own co q.1≠[]:=λe=>hne (by unfold fk at e;exact List.map_eq_nil_iff.1 e);have hbk:=hbk q.1;have hbl:=hbl q.1;generalize fk c dmg ws own co q.1=bills at hbn hbk hbl hS ⊢;rw[jk hbn,bU (λh=>hbn (length_eq_zero_iff.1 h))];refine aq.fg (Fg.freeze (f':=[(7,.ip [ab co.part,ab co.owner,aa co.day,aa co.am]),(18,ah 1 bills dw)]) 2 rfl (λh=>by cases h) ⟨.inl rfl,.inr (.buf rfl (by rw[c9 nW];exact bl.refl (aA qL _)) (by rw[aL nW];exact a9 _)),trivial⟩) ?_;refine aq.fg (st':=⟨[(7,.ip [ab co.part,ab co.owner,aa co.day,aa co.am]),(18,ah 1 bills dw)],138,[],[]⟩) zH ?_
 (try change aq _ _ _ _ _)
 obtain⟨b0,bs,rfl⟩:∃b0 bs,bills=b0::bs:=by
  cases bills with
  | nil=>exact t7 rfl hbn
  | cons b0 bs=>exact⟨b0,bs,rfl⟩
 have hlk:=CQ hbn hbk;have hls:=Bq (qY (b0::bs)) (by have:=hlk.len;omega) hlk.nodup hlk.ne;have hle:=Il b0 bs (by rw[a7] at hbl;omega) (hbk b0 bd).nodup;have ha1:=SG (rk hr).2
 have hoa:∀s∈kH (qY (b0::bs)),0<s.am/\s.am<=1000000000000:=λs hs=>by have:=hlk.am hs;omega
 have ho2:=hlk.sum.2;generalize qY (b0::bs)=lb at hls hle hoa ho2 hS;generalize kH lb=out at hls hoa ho2 hS
 refine(zC)<|(zK hle (hfl:=.inr (bl.refl rfl)))<|(zQ)<|(zK hls (hfl:=.inr (bl.refl rfl)))<|(zR)<|(mO) ?_
 have hlen9:out.length<=1000000:=by omega
 refine(zs) ?_;refine zL out (λk=>True) (λk=>[(28,ah 2 out eG),(29,aa (oi co.am (out.take k))),(125,ah 2 out eG),(126,aa out.length),(127,aa k)]) (λk=>[]) (Fg.less (by (simp only[bI,bj,dI,↓reduceIte,ac,ah,oi,take_zero,map_nil,e4,fd])<;>(repeat' apply b6)<;>first | rfl | trivial) (by (simp only[bI,bj,or_true,true_or,ah,oi,take_zero,map_nil,e4,fd])<;>(repeat' apply b6)<;>first | exact .inr rfl | exact .inl rfl | trivial)) zp ?_;intro k hk hall;refine zT out k ?_ ?_;rintro rfl;rotate_left;intro s hx hlt;rotate_left
 ·refine(eN) ?_;rw[a8]
  refine(zV)<|(zE) ?_;exact sP.of (rs:=[.tmp 8,.tmp 9,.tmp 10]) (r:=.bC [ah 2 out eG,aa (oi co.am out),aa 0]) rfl rfl zl zv (by (try simp only[df,aX]);first | done | (rw[hS];rfl))
 have hos:oi co.am (out.take (k+1))=oi co.am (out.take k)-s.am:=by
  unfold oi;rw[bz hx,bk,fb,map_cons,map_nil,bw,e4];omega
 have hsb:=hoa s (a5 hx)
 have hob:oi co.am (out.take k)<=1000000000000 /\ -2000000000000<=oi co.am (out.take k):=by
  have h1:=OD (out.take k) (λs hs=>hoa s (List.mem_of_mem_take hs))
  have h2:(out.take k).length<=2:=by rw[bv];omega
  unfold oi;omega
 generalize oi co.am (out.take k)=op at hos hob
 refine(gh)<|(az (n3 hlt (aH (e:=2) (enc:=eG) (λ_=>rfl) hx) @eG.eq_1))<|(zs) ?_;refine aq.r0 (by rfl) (iZ (bS op s.am (by omega))) ?_;refine(az (zi hlt hlen9)) ?_;refine zX hlt (bK hos) trivial
def r7(ws:List Wy)(ps:List aI)(co:Co):List Sh×Int:=if ej ws co=true then (if (mU ps co.part).isSome=true then (kH (l9 ws ps co),0) else ([],2)) else ([],1)
def EX(r:List Sh×Int):SV:=.bC [ah 2 r.1 eG,aa r.2]
def FB(ws:List Wy)(ps:List aI)(co:Co)(hw:∀w∈ws,w.fits)(hco:co.fits)(hlw:ws.length<=1000)(hlp:ps.length<=100000):
 PC prog 16 [ah 5 ws bJ,.ag [ah 14 ps ak],.ag (bN co)] (·=EX (r7 ws ps co)):=by
 refine pB 25 Tryz.func16 ?_;rw[dV];refine(zV) ?_;refine aq.fg (Fg.freeze (f':=[(0,ah 5 ws bJ),(4,.ip [ah 14 ps ak]),(5,.ptr 1 0)]) 0 rfl (λh=>by cases h) (sh @ah.eq_1)) ?_;refine aq.fg (Fg.freeze (f':=[(0,ah 5 ws bJ),(4,.ip [ah 14 ps ak]),(5,.ip [ab co.part,ab co.owner,aa co.day,aa co.am])]) 1 rfl (λh=>by cases h) (sh @ah.eq_1)) ?_;refine aq.fg (st':=⟨[(0,ah 5 ws bJ),(4,.ip [ah 14 ps ak]),(5,.ip [ab co.part,ab co.owner,aa co.day,aa co.am])],25,[],[]⟩) zH ?_
 (try change aq _ _ _ _ _)
 refine(zC)<|(zK (xM ws co hw hco hlw)) ?_
 cases hr:ej ws co
 ·exact(zR)<|(cM)<|iP [.tmp 6,.tmp 7] (r:=.bC [.sl 0 2 [],aa 1]) (hw:=.bC (.cons (.nil _) (.cons (.a _) .nil))) (hq:=by rw[r7,hr];rfl)
 have hb:=F5 (ps:=ps) hr;have hdv:=uY ws ps co hlw hlp hr;have hls:=Bq (l9 ws ps co) (by have:=hb.len;omega) hb.nodup hb.ne
 have hN:r7 ws ps co=if (mU ps co.part).isSome=true then (kH (l9 ws ps co),0) else ([],2):=by rw[r7,t8 hr]
 generalize l9 ws ps co=b at hdv hls hN;generalize (mU ps co.part).isSome=fo at hdv hN
 refine(zR)<|(Sx)<|(zK hdv (hfl:=.inr (bl.refl rfl)))<|(zR) ?_
 cases fo
 ·exact(xS)<|(zV)<|iP [.tmp 6,.tmp 7] (r:=.bC [.sl 0 2 [],aa 2]) (hw:=.bC (.cons (.nil _) (.cons (.a _) .nil))) (hq:=by rw[hN];rfl)
 exact(I4)<|(zC)<|(zK hls (hfl:=.inr (bl.refl rfl)))<|(zR)<|iP [.tmp 6,.tmp 7] (r:=.bC [ah 2 (kH b) eG,aa 0]) (hw:=zv) (hq:=by rw[hN];rfl)
def QW:Co:=⟨[97],[98],0,0⟩
def Db:aI:={ aI.zero with name:=[97] }
def yk(c:List aQ)(dmg:bu)(ws:List Wy)(l:List br):Bool:=!(ej ws QW)||(!(mg c&&Proofs.eb dmg)||l.any λr=>!(Proofs.fX r))
def eY(c:List aQ)(dmg:bu)(ws:List Wy)(l:List br)(costs:List Co):List Xf×Int:=if yk c dmg ws l=true then ([],1) else cL (du c dmg ws l costs [])
def Sl(ws:List Wy):r7 ws [Db] QW=if ej ws QW=true then (kH (l9 ws [Db] QW),0) else ([],1):=by
 unfold r7;rw[t8 (show(mU [Db] QW.part).isSome=true from by kernel_rfl)]
def My(r:List Xf×Int):SV:=.bC [ah 3 r.1 aC,aa r.2]
def KP(x:br)(hx:eh x):PC prog 19 ([]++[.ag (aB x)]++[]) (·=au (!(Proofs.fX x))):=by
 refine pB 6 Tryz.func19 ?_;exact(az @aB.eq_1)<|(zC)<|(zK (oA x hx))<|(zR)<|zo [.tmp 2]
def J1(c:List aQ)(dmg:bu)(ws:List Wy)(l:List br)(costs:List Co)(co:Co)(m:cQ):du c dmg ws l (costs++[co]) m=if (eS c dmg ws l co).2.2=0 then ep (eS c dmg ws l co).1 co.owner (du c dmg ws l costs m) else du c dmg ws l costs m:=by unfold du;rw[List.foldl_append];rfl
def J0(ss:List Sh)(y:Sh)(own:List Nat)(m:cQ):ep (ss++[y]) own m=if y.pt=own then ep ss own m else jM 1 (ep ss own m) ⟨y.pt,own,y.am⟩:=by unfold ep;rw[List.foldl_append];rfl
def TY(r:Nat->Nat)(m:cQ):nM r (bB gG aa m)=bB gG aa m:=by
 unfold bB;rw[nM,bg (eU (uv:=aa) (λ_=>rfl) m)]
def OL(B:Nat)(m:cQ):kD B (bB gG aa m)=true:=by
 unfold bB;rw[kD,bF (eU (uv:=aa) (λ_=>rfl) m)]
def yH{k:Pr}{v:Int}(m:cQ):(cr k v m).length<=m.length+1:=by
 induction m with
 | nil=>unfold cr;simp
 | cons a m ih=>unfold cr;split<;>simp only[a7]<;>omega
def Da(own:List Nat):∀(ss:List Sh) (m:cQ),(ep ss own m).length<=m.length+ss.length
 | [],m=>by unfold ep;simp
 | y::ss,m=>by
  unfold ep;rw[ca,a7];have ih:=Da own ss (if y.pt=own then m else jM 1 m ⟨y.pt,own,y.am⟩);unfold ep at ih
  have:(if y.pt=own then m else jM 1 m ⟨y.pt,own,y.am⟩).length<=m.length+1:=by
   split
   ·omega
   ·exact yH m
  omega
def wu(c:List aQ)(dmg:bu)(ws:List Wy)(l:List br):∀(costs:List Co) (m:cQ),(du c dmg ws l costs m).length<=m.length+2*costs.length
 | [],m=>by unfold du;simp
 | co::costs,m=>by
  have e:du c dmg ws l (co::costs) m=du c dmg ws l costs (if (eS c dmg ws l co).2.2=0 then ep (eS c dmg ws l co).1 co.owner m else m):=rfl;rw[e,a7];have ih:=wu c dmg ws l costs (if (eS c dmg ws l co).2.2=0 then ep (eS c dmg ws l co).1 co.owner m else m);have h2:=(yJ c dmg ws l co).len;have h3:=Da co.owner (eS c dmg ws l co).1 m
  have:(if (eS c dmg ws l co).2.2=0 then ep (eS c dmg ws l co).1 co.owner m else m).length<=m.length+2:=by
   split<;>omega
  omega
def fH.mono{B C:Int}{m:cQ}(h:fH B m)(hb:B<=C):fH C m:=λk=>⟨by have:=(h k).1;omega,by have:=(h k).2;omega⟩
def nG(hsort:Ld)(c:List aQ)(dmg:bu)(ws:List Wy)(l:List br)(costs:List Co)(hc:jI c)(hf:gJ dmg)(hw:∀w∈ws,w.fits)(hcs:∀co∈costs,co.fits)(hlw:ws.length<=1000)(hl:∀r∈l,eh r)(hl2:∀r∈l,r.opts.length<=400000)(hlen:l.length<20)(hlc:costs.length<=10):
 PC prog 7 [.ag (ah 3 c ao::aD dmg),ah 5 ws bJ,ah 2 l aB,ah 4 costs bN] (·=My (eY c dmg ws l costs)):=by
 have hfl:(aD dmg).length=3:=eL dmg;have hft:(aD dmg).take 3=aD dmg:=cd (by rw[hfl];exact a9 _);have hfk:=λo:Nat=>bL (o:=o) (aE dmg);have hfn:=λo:Nat=>dL (o:=o) (aE dmg)
 have hlen6:l.length<=1000000:=by omega
 have hlc6:costs.length<=1000000:=by omega
 refine pB 94 Tryz.func7 ?_;have hrun0:=tz c dmg [] 0 hc hf (by decide) (λe h=>by cases h);rw[HP] at hrun0;have hsh:=FB ws [Db] QW hw (by constructor<;>decide) hlw (by decide);rw[Sl] at hsh;refine(az (n2 hfk hfn)) ?_;refine aq.fg (Fg.freeze (f':=[(1,ah 5 ws bJ),(2,ah 2 l aB),(3,ah 4 costs bN),(4,.ip (ah 3 c ao::aD dmg))]) 0 rfl (λh=>by cases h) ⟨.inl rfl,.inl rfl,.inl rfl,.inr (.ptr rfl (bl.refl (aE dmg)) (bY _)),trivial⟩) ?_;refine aq.fg (st':=⟨[(1,ah 5 ws bJ),(2,ah 2 l aB),(3,ah 4 costs bN),(4,.ip (ah 3 c ao::aD dmg))],94,[],[]⟩) zH ?_
 (try change aq _ _ _ _ _)
 refine(iC (n2 hfk hfn)) ?_;refine aG.fg (Fg.freeze (f':=[(24,ah 5 ws bJ),(27,.ag [ah 14 [Db] ak]),(28,.ag (bN QW)),(1,ah 5 ws bJ),(2,ah 2 l aB),(3,ah 4 costs bN),(4,.ip (ah 3 c ao::aD dmg))]) 0 rfl (λh=>by cases h) ⟨.inl rfl,.inr (.ag (.cons (.buf rfl (.cons (.a _) (.cons (.a _) (.cons (.a _) (.cons (.a _) (.cons (.a _) (.cons (.a _) (.cons (.a _) (.cons (.nil _) (.cons (.a _) (.cons (.a _) (.cons (.a _) (.cons (.a _) (.cons (.a _) (.cons (.a _) (.nil))))))))))))))) (a9 _)) .nil)),.inl rfl,.inl rfl,.inl rfl,.inl rfl,.inl rfl,trivial⟩) ?_;refine aG.fg (st':=⟨[(24,ah 5 ws bJ),(27,.ag [ah 14 [Db] ak]),(28,.ag (bN QW)),(1,ah 5 ws bJ),(2,ah 2 l aB),(3,ah 4 costs bN),(4,.ip (ah 3 c ao::aD dmg))],94,[],[]⟩) zH ?_;refine(zK hsh (hfl:=.inr (bl.refl rfl))) ?_;have hbd:yk c dmg ws l=(!(ej ws QW)||(!(mg c&&Proofs.eb dmg)||l.any λr=>!(Proofs.fX r))):=rfl
 have hN1:yk c dmg ws l=true->eY c dmg ws l costs=([],1):=λh=>by unfold eY;rw[t8 h]
 have hcof:=xB (l:=l) (λr=>!(Proofs.fX r)) (first:=[]) (cap:=[]) hlen6 (λx hx=>KP x (hl x hx)) ⟨rfl,rfl⟩;cases hr:ej ws QW
 ·rw[ul (by decide)];rw[hr] at hbd
  refine(cK @EX.eq_1)<|(iC (n2 hfl hft))<|(zK hrun0 (hwk:=(.cons (.ag (bl.refl (aE dmg))) (.cons (.nil 14) (.cons (.a _) .nil)))) (hfl:=.inr (.cons (.ag (bl.refl (aE dmg))) (.cons (.nil 14) (.cons (.a _) .nil))))) ?_
  unfold QA
  exact(zR)<|(xS)<|(zV)<|iP [.tmp 8,.tmp 9] (r:=.bC [.sl 0 3 [],aa 1]) (hw:=.bC (.cons (.nil _) (.cons (.a _) .nil))) (hq:=by rw[hN1 hbd];rfl)
 rw[t8 rfl]
 refine(cK @EX.eq_1)<|(iC (n2 hfl hft))<|(zK hrun0 (hwk:=(.cons (.ag (bl.refl (aE dmg))) (.cons (.nil 14) (.cons (.a _) .nil)))) (hfl:=.inr (.cons (.ag (bl.refl (aE dmg))) (.cons (.nil 14) (.cons (.a _) .nil))))) ?_
 unfold QA;cases hv:mg c&&Proofs.eb dmg
 ·rw[hr,hv] at hbd
  exact(zR)<|(xS)<|(zV)<|iP [.tmp 8,.tmp 9] (r:=.bC [.sl 0 3 [],aa 1]) (hw:=.bC (.cons (.nil _) (.cons (.a _) .nil))) (hq:=by rw[hN1 hbd];rfl)
 refine(zR)<|(zC)<|(zK hcof) ?_
 cases hva:l.any λr=>!(Proofs.fX r);rotate_left
 ·rw[hr,hv,hva] at hbd
  exact(zR)<|(cM)<|iP [.tmp 8,.tmp 9] (r:=.bC [.sl 0 3 [],aa 1]) (hw:=.bC (.cons (.nil _) (.cons (.a _) .nil))) (hq:=by rw[hN1 hbd];rfl)
 rw[hr,hv,hva] at hbd
 have hN:eY c dmg ws l costs=cL (du c dmg ws l costs []):=by unfold eY;rw[ul (by rw[hbd];decide)]
 rw[hN];clear hN hN1 hbd hcof hsh hrun0
 refine(zR)<|(zN) ?_;refine aq.fg (st':=⟨[(1,ah 5 ws bJ),(2,ah 2 l aB),(3,ah 4 costs bN),(4,.ip (ah 3 c ao::aD dmg))],94,[],[]⟩) zH ?_
 (try change aq _ _ _ _ _)
 refine(zV) ?_;refine aq.fg (st':=⟨[(15,.map 0),(1,ah 5 ws bJ),(2,ah 2 l aB),(3,ah 4 costs bN),(4,.ip (ah 3 c ao::aD dmg))],94,[bB gG aa []],[]⟩) (bK (show SO.map [] [] none=bB gG aa [] from rfl)) ?_
 (try change aq _ _ _ _ _)
 refine(zV)<|(zs) ?_;refine zL costs (λk=>fH (k*2000000000000) (du c dmg ws l (costs.take k) [])) (λk=>[(15,.map 0),(1,ah 5 ws bJ),(2,ah 2 l aB),(4,.ip (ah 3 c ao::aD dmg)),(49,ah 4 costs bN),(50,aa costs.length),(51,aa k)]) (λk=>[bB gG aa (du c dmg ws l (costs.take k) [])]) zH (by intro q;exact⟨c4 _,c4 _⟩) ?_;intro k hk hall;refine zT costs k ?_ ?_;rintro rfl;rotate_left;intro co hx hlt;rotate_left
 ·refine(eN) ?_;simp only[fG,dH,cB,bX,if_true];rw[a8];have hkeys:=ni (c:=c) (dmg:=dmg) (ws:=ws) (l:=l) (costs:=costs) (m:=[]) c0;have hml:=wu c dmg ws l costs [];generalize du c dmg ws l costs []=M at hkeys hml ⊢
  have hgm:cm [oI gG aa M]=true:=by simp only[cm,oI,lU,eU (uv:=aa) (λ_=>rfl) M,dt]
  refine(zC) ?_;refine aG.fg (Fg.freeze (f':=[(90,oI gG aa M)]) 0 rfl (λh=>by cases h) ⟨.inr (oC (λ_=>rfl) rfl),trivial⟩) ?_;exact(zK (xR hsort M hkeys (by simp only[length_nil] at hml;omega)) (hwk:=(bl.refl hgm)) (hfl:=.inr (bl.refl hgm)))<|(zR)<|iP [.tmp 8,.tmp 9] (r:=.bC [ah 3 (cL M).1 aC,aa (cL M).2]) (hw:=.bC (.cons (.sl _ _ _) (.cons (.a _) .nil)))
 refine(gh) ?_;have hco:co.fits:=hcs co (a5 hx);have hsure:=K0 c dmg ws l co hc hf hw hco hlw hl hl2 hlen;have hsok:=yJ c dmg ws l co;obtain⟨M,hM⟩:∃M,M=du c dmg ws l (costs.take k) []:=⟨_,rfl⟩
 have hnext:du c dmg ws l (costs.take (k+1)) []=if (eS c dmg ws l co).2.2=0 then ep (eS c dmg ws l co).1 co.owner M else M:=by rw[Dt hx,J1,<-hM]
 rw[<-hM] at hall ⊢;clear hM;generalize eS c dmg ws l co=r at hsure hsok hnext;obtain⟨ss,op,er⟩:=r;simp only at hnext;refine(az (n3 hlt (aH (e:=4) (enc:=bN) (λ_=>rfl) hx) @dV)) ?_;refine aq.fg (Fg.freeze (f':=[(17,.ip [ab co.part,ab co.owner,aa co.day,aa co.am]),(15,.map 0),(1,ah 5 ws bJ),(2,ah 2 l aB),(4,.ip (ah 3 c ao::aD dmg)),(49,ah 4 costs bN),(50,aa costs.length),(51,aa k)]) 1 rfl (λh=>by cases h) (sh (n2 @ah.eq_1 @dV))) ?_;refine aq.fg (st':=⟨[(17,.ip [ab co.part,ab co.owner,aa co.day,aa co.am]),(15,.map 0),(1,ah 5 ws bJ),(2,ah 2 l aB),(4,.ip (ah 3 c ao::aD dmg)),(49,ah 4 costs bN),(50,aa costs.length),(51,aa k)],94,[bB gG aa M],[]⟩) (bK @j8) ?_
 (try change aq _ _ _ _ _)
 refine(iC (n2 hfl hft)) ?_;rw[dV] at hsure
 refine(zK hsure (hwk:=(.cons (.ag (bl.refl (aE dmg))) (bl.refl rfl))) (hfl:=.inr (.cons (.ag (bl.refl (aE dmg))) (bl.refl rfl))))<|(cK @Ti.eq_1) ?_;refine aq.fg (st':=⟨[(18,ah 2 ss eG),(20,aa er),(17,.ip [ab co.part,ab co.owner,aa co.day,aa co.am]),(15,.map 0),(1,ah 5 ws bJ),(2,ah 2 l aB),(4,.ip (ah 3 c ao::aD dmg)),(49,ah 4 costs bN),(50,aa costs.length),(51,aa k)],94,[bB gG aa M],[]⟩) zH ?_
 (try change aq _ _ _ _ _)
 by_cases h0:er=0;rotate_left
 ·rw[ul h0] at hnext
  refine(az (un h0))<|(zY) ?_;refine aq.exit ?_
  simp only[fG,dH,cB,bX,if_true];refine(az (zi hlt hlc6)) ?_;refine zX hlt (bK hnext) (by rw[hnext];exact hall.mono (by omega))
 rw[t8 h0] at hnext
 have hlen2:ss.length<=1000000:=by have:=hsok.len;simp only at this;omega
 have hco1:co.ok=true:=by
  have:=hsok.right h0;unfold ej at this;rw[bo] at this;exact this.2
 have hca:=S6 hco1
 refine(az (ut h0))<|(iY)<|(zs) ?_;refine zL ss (λk2=>fH (k*2000000000000+k2*1000000000000) (ep (ss.take k2) co.owner M)) (λk2=>[(66,ah 2 ss eG),(67,aa ss.length),(68,aa k2),(17,.ip [ab co.part,ab co.owner,aa co.day,aa co.am]),(15,.map 0),(1,ah 5 ws bJ),(2,ah 2 l aB),(4,.ip (ah 3 c ao::aD dmg)),(49,ah 4 costs bN),(50,aa costs.length),(51,aa k)]) (λk2=>[bB gG aa (ep (ss.take k2) co.owner M)]) zH (by intro q;have:=hall q;show _<=getM 0 q M/\getM 0 q M<=_;omega) ?_;intro k2 hk2 hall2;refine zT ss k2 ?_ ?_;rintro rfl;rotate_left;intro y hx2 hlt2;rotate_left
 ·refine(eN) ?_;simp only[fG,dH,cB,bX,if_true];rw[a8] at hall2 ⊢;have hsl:=hsok.len;simp only at hsl;refine(az (zi hlt hlc6)) ?_;refine zX hlt (bK hnext) (by rw[hnext];exact hall2.mono (by omega))
 refine(gh) ?_;obtain⟨m2,hm2⟩:∃m2,m2=ep (ss.take k2) co.owner M:=⟨_,rfl⟩
 have hnext2:ep (ss.take (k2+1)) co.owner M=if y.pt=co.owner then m2 else jM 1 m2 ⟨y.pt,co.owner,y.am⟩:=by rw[Dt hx2,J0,<-hm2]
 rw[<-hm2] at hall2 ⊢;clear hm2;have hya:=hsok.am y (a5 hx2);obtain⟨pt,am⟩:=y;simp only at hya hnext2;refine(az (n3 hlt2 (aH (e:=2) (enc:=eG) (λ_=>rfl) hx2) @eG.eq_1)) ?_;refine aq.fg (Fg.freeze (f':=[(22,.ip [ab pt,aa am]),(66,ah 2 ss eG),(67,aa ss.length),(68,aa k2),(17,.ip [ab co.part,ab co.owner,aa co.day,aa co.am]),(15,.map 0),(1,ah 5 ws bJ),(2,ah 2 l aB),(4,.ip (ah 3 c ao::aD dmg)),(49,ah 4 costs bN),(50,aa costs.length),(51,aa k)]) 1 rfl (λh=>by cases h) (sh @ah.eq_1)) ?_;refine aq.fg (st':=⟨[(22,.ip [ab pt,aa am]),(66,ah 2 ss eG),(67,aa ss.length),(68,aa k2),(17,.ip [ab co.part,ab co.owner,aa co.day,aa co.am]),(15,.map 0),(1,ah 5 ws bJ),(2,ah 2 l aB),(4,.ip (ah 3 c ao::aD dmg)),(49,ah 4 costs bN),(50,aa costs.length),(51,aa k)],94,[bB gG aa m2],[]⟩) (bK @j8) ?_
 (try change aq _ _ _ _ _)
 by_cases hy:pt=co.owner
 ·rw[t8 hy] at hnext2
  refine(az (ut hy))<|(zN)<|(az (zi hlt2 hlen2)) ?_;refine zX hlt2 (bK hnext2) (by rw[hnext2];exact hall2.mono (by omega))
 rw[ul hy] at hnext2
 refine(az (un hy))<|(zY)<|(zC) ?_
 have hadd:=wO 1 (.inl rfl) [[⟨pt,co.owner,am⟩]] m2 (hall2.mono (by have:=hsok.len;simp only at this;omega)) (by show 1<=10;decide) (by
  intro ts hts;rw[mem_singleton.1 hts];refine⟨by show 1<=1000;decide,λt ht=>?_⟩;rw[mem_singleton.1 ht];show -1000000000000<=am/\am<=1000000000000
  omega)
 rw[show[[(⟨pt,co.owner,am⟩:Xf)]].foldl (fc 1) m2=jM 1 m2 ⟨pt,co.owner,am⟩ from rfl] at hadd
 refine aG.fg (st':=⟨[(86,.buf 2 1 1 (some 1)),(77,.map 0),(66,ah 2 ss eG),(67,aa ss.length),(68,aa k2),(17,.ip [ab co.part,ab co.owner,aa co.day,aa co.am]),(15,.map 0),(1,ah 5 ws bJ),(2,ah 2 l aB),(4,.ip (ah 3 c ao::aD dmg)),(49,ah 4 costs bN),(50,aa costs.length),(51,aa k)],94,[bB gG aa m2,.cells [ab pt,ab co.owner,aa am],.cells [.buf 1 1 3 (some 1)]],[]⟩) (bK @j8) ?_;refine aG.fg (Fg.yv (f':=[(86,.buf 2 1 1 (some 1)),(77,.map 0),(66,ah 2 ss eG),(67,aa ss.length),(68,aa k2),(17,.ip [ab co.part,ab co.owner,aa co.day,aa co.am]),(15,.map 0),(1,ah 5 ws bJ),(2,ah 2 l aB),(4,.ip (ah 3 c ao::aD dmg)),(49,ah 4 costs bN),(50,aa costs.length),(51,aa k)]) (S':=[bB gG aa m2,.gone,.cells [ah 3 [(⟨pt,co.owner,am⟩:Xf)] aC]]) 1 rfl (λh=>by cases h) ⟨.inl rfl,.inl rfl,.inl rfl,.inl rfl,.inl rfl,.inl rfl,.inl rfl,.inl rfl,.inl rfl,.inl rfl,.inl rfl,.inl rfl,.inl rfl,trivial⟩ ⟨.inr ⟨by decide,.inl rfl⟩,.inl rfl,.inr ⟨by decide,.inr ⟨_,_,rfl,rfl,.cons (.buf rfl (bl.refl rfl) (a9 _)) .nil⟩⟩,trivial⟩) ?_;refine aG.fg (Fg.freeze (f':=[(86,ah 1 [[(⟨pt,co.owner,am⟩:Xf)]] tR),(77,.map 0),(66,ah 2 ss eG),(67,aa ss.length),(68,aa k2),(17,.ip [ab co.part,ab co.owner,aa co.day,aa co.am]),(15,.map 0),(1,ah 5 ws bJ),(2,ah 2 l aB),(4,.ip (ah 3 c ao::aD dmg)),(49,ah 4 costs bN),(50,aa costs.length),(51,aa k)]) 2 rfl (λh=>by cases h) ⟨.inr (.buf rfl (bl.refl rfl) (a9 _)),.inl rfl,.inl rfl,.inl rfl,.inl rfl,.inl rfl,.inl rfl,.inl rfl,.inl rfl,.inl rfl,.inl rfl,.inl rfl,.inl rfl,trivial⟩) ?_;refine aG.fg (st':=⟨[(86,ah 1 [[(⟨pt,co.owner,am⟩:Xf)]] tR),(77,.map 0),(66,ah 2 ss eG),(67,aa ss.length),(68,aa k2),(17,.ip [ab co.part,ab co.owner,aa co.day,aa co.am]),(15,.map 0),(1,ah 5 ws bJ),(2,ah 2 l aB),(4,.ip (ah 3 c ao::aD dmg)),(49,ah 4 costs bN),(50,aa costs.length),(51,aa k)],94,[bB gG aa m2],[]⟩) zH ?_;refine zS [0] (n3 @j8 @TY @OL) hadd ?_;refine(zR)<|(az (zi hlt2 hlen2)) ?_;refine zX hlt2 (bK hnext2) (by rw[hnext2];exact(hall2.add (t:=⟨pt,co.owner,am⟩) (.inl rfl) (by show -1000000000000<=am/\am<=1000000000000;omega)).mono (by omega))
end Go.Proofs
namespace Go.Ev
def Rg{P:Program}{t:TypeId}{xs ys:List AV}{b:Bool}(h:cS P .eql t (.agg xs) (.agg ys)=some (.bool b)):cS P .neq t (.agg xs) (.agg ys)=some (.bool (!b)):=by
 change cond (P.eqGuardType P.depth t) none ((lM P 8 t (.agg xs) (.agg ys)).map AV.bool)=_ at h;show cond (P.eqGuardType P.depth t) none ((lM P 8 t (.agg xs) (.agg ys)).map λb=>AV.bool (!b))=_
 revert h
 cases P.eqGuardType P.depth t
 ·cases lM P 8 t (.agg xs) (.agg ys)
  ·intro h;cases h
  ·intro h;injection h with h;injection h with h;subst h;rfl
 ·intro h;cases h
end Go.Ev
