/- Lemmas of this claim, each with its conditions. -/
import Derived.Test.YtibnohghfgmahaaGreatA7
import Derived.Test.YtibnohghfgmahaaGreatA6
import Derived.Test.YtibnohghfgmahaaGreatA5
import Derived.Test.YtibnohghfgmahaaGreatA4
set_option linter.all false
set_option maxHeartbeats 8000000
open Go.Proofs.Tryz (prog func108)
open List (all_eq_true length_eq_zero_iff length_nil map_cons mem_cons map_nil take_zero mem_filter mem_singleton foldl_nil nil_append mem_map)
open Bool (eq_false_iff)
open List renaming getElem?_eq_getElem -> ac, mem_of_getElem? -> ad, take_length -> ax, length_cons -> ba, length_append -> be, mem_cons_self -> bh, mem_cons_of_mem -> bi, length_map -> bk, filter_cons -> bt, getElem?_map -> bv, not_mem_nil -> bW, mem_of_find?_eq_some -> b5, getElem?_take -> b6, find?_eq_some_iff_getElem -> b7, mem_map_of_mem -> b8, length_take -> b9, mem_iff_getElem? -> cd, length_filterMap_le -> ce, find?_eq_none -> cl, take_of_length_le -> cp, ext_getElem? -> cs, foldl_append -> ct, all_append -> c4, map_append -> dc, getElem?_cons_succ -> dt, drop_of_length_le -> dv, sizeOf_lt_of_mem -> d7, find?_cons -> d9, foldl_cons -> eb, replicate -> eg, range -> ej, any_eq_true -> eB, cons_append -> eF, sum_nil -> e4, find?_some -> e6, range_succ -> fd, range_zero -> fl, nodup_nil -> fs, takeWhile -> fu, sum_cons -> fy, filter -> f3
open Nat renaming reduceEqDiff -> aj, reduceLeDiff -> al, le_refl -> aS, reduceAdd -> aX, reduceMul -> bc, reduceLT -> bd, zero_le -> bw, mul_one -> b4, not_lt_zero -> ca, le_trans -> ci, zero_mul -> d8, reduceSub -> ei, lt_succ_self -> em, sub_zero -> er, zero_lt_succ -> ey, zero_add -> f0
open Option renaming bind_some -> ap, map_some -> ay, isSome_some -> e3
open Bool renaming and_eq_true -> a0, false_ne_true -> dd, not_eq_true' -> dl, true_and -> d6, and_true -> el, and_assoc -> fm
open Int renaming le_of_lt -> cc, tmod_eq_emod_of_nonneg -> cv, sub_zero -> fx
open And renaming intro -> c0
open Go.Proofs.Tryz renaming func146 -> e5
namespace Go.Proofs
open Go.Ev
set_option maxRecDepth 100000
def encWy(w:Wy):List SV:=[ae w.kind,ae w.maker,aa w.days,aa w.km,aa w.pct]
def encCo(c:Co):List SV:=[ae c.part,ae c.owner,aa c.day,aa c.am]
def encWy_eq(w:Wy):encWy w=[ae w.kind,ae w.maker,aa w.days,aa w.km,aa w.pct]:=rfl
def encCo_eq(c:Co):encCo c=[ae c.part,ae c.owner,aa c.day,aa c.am]:=rfl
def rS(n:Int):PC prog 47 [aa n] (·=ao (isDy n)):=by
 refine pB 9 Tryz.func47 ?_;unfold isDy;refine(zV) ?_;cases g:decide (0<=n)
 ·exact(aq g)<|zo [.tmp 2]
 ·exact(aq g)<|zo [.tmp 2]
def vJ(n:Int):PC prog 48 [aa n] (·=ao (isAm n)):=by
 refine pB 9 Tryz.func48 ?_;unfold isAm;refine(zV) ?_;cases g:decide (0<=n)
 ·exact(aq g)<|zo [.tmp 2]
 ·exact(aq g)<|zo [.tmp 2]
def nG(ws:List Wy)(c:Co)(hw:∀w∈ws,w.fits)(hc:c.fits)(hlen:ws.length<=1000):PC prog 20 [slS 5 ws encWy,.ag (encCo c)] (·=ao (rightB ws c)):=by
 refine pB 70 Tryz.func20 ?_;rw[encCo_eq];refine(zV) ?_;refine ak.fg (Fg.freeze (f':=[(0,slS 5 ws encWy),(3,.ip [ae c.part,ae c.owner,aa c.day,aa c.am])]) 0 rfl (λh=>by cases h) (jM @slS.eq_1)) ?_;refine ak.fg (st':=⟨[(0,slS 5 ws encWy),(3,.ip [ae c.part,ae c.owner,aa c.day,aa c.am])],70,[],[]⟩) zH ?_
 (try change ak _ _ _ _ _)
 refine(gi)<|(zV) ?_
 have hlen6:ws.length<=1000000:=by omega
 refine(zs) ?_;refine zL ws (λk=>(ws.take k).all Wy.ok=true) (λk=>[(3,.ip [ae c.part,ae c.owner,aa c.day,aa c.am]),(5,.fn 47 [] []),(6,.fn 48 [] []),(9,slS 5 ws encWy),(10,aa ws.length),(11,aa k)]) (λk=>[]) zH zp ?_;intro k hk hall;refine zT ws k ?_ ?_;rintro rfl;rotate_left;intro w hx hlt;rotate_left
 ·refine(cV) ?_;rw[ax] at hall
  have hN:rightB ws c=c.ok:=by rw[rightB,hall];rfl
  rw[hN];unfold Co.ok
  refine(zC)<|(zK (cY c.part ⟨hc.p,hc.pb⟩)) ?_
  cases h1:nameN c.part
  ·exact(zR)<|zo [.tmp 4]
  refine(zQ)<|(zK (cY c.owner ⟨hc.o,hc.ob⟩)) ?_
  cases h2:nameN c.owner
  ·exact(zR)<|zo [.tmp 4]
  refine(zQ)<|(zK (rS c.day)) ?_
  cases h3:isDy c.day
  ·exact(zR)<|zo [.tmp 4]
  exact(zQ)<|(zK (vJ c.am))<|(zR)<|zo [.tmp 4]
 have hwm:=ad hx;have hwf:=hw w hwm
 have hbad:w.ok=false->rightB ws c=false:=λh=>by
  have:ws.all Wy.ok=false:=eq_false_iff.2 λh2=>by
   have:=all_eq_true.1 h2 w hwm;rw[h] at this;cases this
  rw[rightB,this];rfl
 have hgood:w.ok=true->(ws.take (k+1)).all Wy.ok=true:=λh=>by
  rw[takeN_snoc hx,c4,hall];show(true&&(w.ok&&true))=true;rw[h];rfl
 refine(dI)<|(aq (n3 hlt (au (e:=5) (enc:=encWy) (λ_=>rfl) hx) @encWy_eq))<|(zC)<|(zK (cY w.kind ⟨hwf.k,hwf.kb⟩)) ?_
 cases h1:nameN w.kind
 ·exact(zR)<|(bq)<|zo [.tmp 4] (hq:=by rw[hbad (by rw[Wy.ok,h1];rfl)])
 refine(zQ)<|(zK (cY w.maker ⟨hwf.m,hwf.mb⟩)) ?_
 cases h2:nameN w.maker
 ·exact(zR)<|(bq)<|zo [.tmp 4] (hq:=by rw[hbad (by rw[Wy.ok,h1,h2];rfl)])
 refine(zQ)<|(zK (rS w.days)) ?_
 cases h3:isDy w.days
 ·exact(zR)<|(bq)<|zo [.tmp 4] (hq:=by rw[hbad (by rw[Wy.ok,h1,h2,h3];rfl)])
 refine(zQ)<|(zK (vJ w.km)) ?_
 cases h4:isAm w.km
 ·exact(zR)<|(bq)<|zo [.tmp 4] (hq:=by rw[hbad (by rw[Wy.ok,h1,h2,h3,h4];rfl)])
 cases h5:decide (w.pct<0);rotate_left
 ·exact(bE h5)<|(bq)<|zo [.tmp 4] (hq:=by rw[hbad (by rw[Wy.ok,show decide (0<=w.pct)=false by have:=ww h5;simp;omega];simp)])
 cases h6:decide (100<w.pct);rotate_left
 ·exact(bE (n2 h5 h6))<|(bq)<|zo [.tmp 4] (hq:=by rw[hbad (by rw[Wy.ok,show decide (w.pct<=100)=false by have:=ww h6;simp;omega];simp)])
 refine(bE (n2 h5 h6))<|(zN) ?_
 have hok:w.ok=true:=by
  have:=wt h5;have:=wt h6;rw[Wy.ok,h1,h2,h3,h4,show decide (0<=w.pct)=true by simp;omega,show decide (w.pct<=100)=true by simp;omega];rfl
 refine(aq (zi hlt hlen6)) ?_;refine zX hlt zH (hgood hok)
def kn(x lo hi:Int):PC prog 105 [aa x,aa lo,aa hi] (·=ao (decide (lo<=x)&&decide (x<=hi))):=by
 refine pB 15 Tryz.func105 ?_;refine(zV) ?_;cases g:decide (lo<=x)
 ·exact(aq g)<|zo [.tmp 6]
 ·exact(aq g)<|zo [.tmp 6]
def qO(a p:Int)(ha:0<=a/\a<=1000000000000)(hp:0<=p/\p<=100):PC prog 59 [aa a,aa p] (·=.aO [aa (pctN a p),aa 0]):=by
 refine pB 40 Tryz.func59 ?_;obtain⟨m1,m2⟩:=mul_bnd ha hp;have hm:=oi (P:=prog) (t:=3) (a:=a) (b:=p) ⟨by omega,by omega⟩
 have hpn:pctN a p=if 100<2*(a*p%100)\/(2*(a*p%100)=100/\a*p/100%2≠0) then a*p/100+1 else a*p/100:=rfl
 rw[hpn];clear hpn;generalize a*p=m at *;have t1:m.tdiv 100=m/100:=Int.tdiv_eq_ediv_of_nonneg m1;have t2:m.tmod 100=m%100:=cv m1;have hq:=bin_quo (P:=prog) (t:=3) (a:=m) (b:=100) (by decide) (by rw[t1];omega);have hr:=bin_rem (P:=prog) (t:=3) (a:=m) (b:=100) (by decide);rw[t1] at hq;rw[t2] at hr;have h2:=oi (P:=prog) (t:=3) (a:=2) (b:=m%100) ⟨by omega,by omega⟩;have t3:(m/100).tmod 2=m/100%2:=cv (by omega);have hr2:=bin_rem (P:=prog) (t:=3) (a:=m/100) (b:=2) (by decide);rw[t3] at hr2
 refine(fe)<|(zK (kn a 0 1000000000000)) ?_
 rw[show(decide (0<=a)&&decide (a<=1000000000000))=true by simp;omega]
 refine(zQ)<|(zK (kn p 0 100)) ?_
 rw[show(decide (0<=p)&&decide (p<=100))=true by simp;omega]
 refine(zR)<|(zN)<|(aq (n3 hm hq hr)) ?_
 cases c1:decide (100<2*(m%100))
 ·have c1':=wt c1;cases c2:decide (2*(m%100)=100)
  ·have c2':=wt c2
   exact(aq (n3 h2 c1 c2))<|(ee)<|eL [.tmp 4,.tmp 5] (hq:=by rw[ul (by omega)])
  ·have c2':=ww c2;cases c3:decide (m/100%2=0)
   ·have c3':=wt c3
    refine(aq (n5 h2 hr2 c1 c2 c3))<|(zY)<|(zs) ?_;refine ak.r0 (by rfl) (gf (bA (m/100) 1 (by omega))) ?_;exact(zV)<|eL [.tmp 4,.tmp 5] (hq:=by rw[t8 (by omega)])
   ·have c3':=ww c3
    exact(aq (n5 h2 hr2 c1 c2 c3))<|(ee)<|eL [.tmp 4,.tmp 5] (hq:=by rw[ul (by omega)])
 ·have c1':=ww c1
  refine(aq (n2 h2 c1))<|(zY)<|(zs) ?_;refine ak.r0 (by rfl) (gf (bA (m/100) 1 (by omega))) ?_;exact(zV)<|eL [.tmp 4,.tmp 5] (hq:=by rw[t8 (by omega)])
def wB(day fr:Int)(hd:0<=day/\day<=40000):PC prog 140 [aa day,aa fr] (·=.ag [aa (sinceN day fr),aa (sinceN day fr)]):=by
 refine pB 19 Tryz.func140 ?_;refine(zV) ?_;cases g:decide (day<=fr)
 ·have hg:=wt g
  have hs:sinceN day fr=day-(if day-1000000000000<=fr then fr else day-1000000000000):=by rw[sinceN,ul hg]
  have hm:maxI fr (day-1000000000000)=if day-1000000000000<=fr then fr else day-1000000000000:=rfl
  rw[<-hm] at hs
  have hb:fr<=maxI fr (day-1000000000000)/\day-1000000000000<=maxI fr (day-1000000000000)/\maxI fr (day-1000000000000)<=40000:=by unfold maxI;split<;>omega
  rw[hs];have hx:=max_int fr (day-1000000000000);generalize maxI fr (day-1000000000000)=m at hb hx
  exact(aq g)<|(zN)<|(aq (n3 (CO (P:=prog) (t:=3) (show -9223372036854775808<=day-1000000000000/\day-1000000000000<=9223372036854775807 from⟨by omega,by omega⟩)) hx (CO (P:=prog) (t:=3) (show -9223372036854775808<=day-m/\day-m<=9223372036854775807 from⟨by omega,by omega⟩))))<|(zV)<|zo [.cell 4 65]
 ·have hs:sinceN day fr=0:=by rw[sinceN,t8 (ww g)]
  rw[hs]
  exact(aq g)<|(bq)<|zo [.cell 4 65]
def A6(p:PartM)(day:Int)(hd:0<=day/\day<=40000):PC prog 145 [.ag (encPart p),aa day,.ip [.fn 140 [] []]] (·=.ag [aa (sinceN day p.made),aa (sinceN day p.made)]):=by
 refine pB 11 Tryz.func145 ?_;exact(aq @encPart.eq_1)<|(zC)<|(zK (wB day p.made hd))<|(zR)<|zo [.cell 5 65]
abbrev FnL:=List (List Nat×SV)
def iI{S:List SO}{o:Nat}{l:FnL}(s:List Nat)(u:SV)(hS:S[o]?=some (aR AV.str id l)):cZ prog S 191 (.map o) (.a (.str s)) u=some (S.set o (aR AV.str id (bG s u l))):=
 vB (uv:=id) (kt:=9) (et:=189) (by simp only[an]) c7 hS rfl u
def capF:SV:=.ip [.fn 140 [] []]
def curL:FnL:=bG [97,103,101] (.fn 145 [] [capF]) (bG [100,97,121,115] (.fn 144 [] [capF]) (bG [100,97,109,97,103,101] (.fn 143 [] []) (bG [99,121,99,108,101,115] (.fn 142 [] []) (bG [107,109] (.fn 141 [] []) []))))
def xX:PC prog 104 [] (·=kc AV.str id curL):=by
 refine pB 6 Tryz.func104 ?_;refine(gi) ?_;refine ak.fg (Fg.freeze (f':=[(1,.ip [.fn 140 [] []])]) 0 rfl (λh=>by cases h) zG) ?_;refine ak.fg (st':=⟨[(1,.ip [.fn 140 [] []])],6,[],[]⟩) zH ?_
 (try change ak _ _ _ _ _)
 have hm0:SO.map [] [] none=aR AV.str (id:SV->SV) []:=rfl;have p1:=λu=>iI (S:=[aR AV.str id []]) (o:=0) (l:=[]) [107,109] u rfl;have p2:=λ(l:FnL) u=>iI (S:=[aR AV.str id l]) (o:=0) (l:=l) [99,121,99,108,101,115] u rfl;have p3:=λ(l:FnL) u=>iI (S:=[aR AV.str id l]) (o:=0) (l:=l) [100,97,109,97,103,101] u rfl;have p4:=λ(l:FnL) u=>iI (S:=[aR AV.str id l]) (o:=0) (l:=l) [100,97,121,115] u rfl;have p5:=λ(l:FnL) u=>iI (S:=[aR AV.str id l]) (o:=0) (l:=l) [97,103,101] u rfl
 refine(aq (n7 hm0 p1 p2 p3 p4 p5 @List.set_cons_zero.{0}))<|(zE) ?_;exact kr.of (rs:=[.tmp 0]) (r:=kc AV.str id curL) rfl rfl zl (by exact .map rfl (aM.refl rfl)) zq
def yp{S:List SO}{l:FnL}(s:List Nat)(ok:Bool):lookupS prog S 191 (kc AV.str id l) (.a (.str s)) ok=some (cond ok (.aO [getM (qf (.dD)) s l,ao (bl s l)]) (getM (qf (.dD)) s l)):=
 BW (uv:=id) (u0:=qf (.dD)) (k:=s) (kt:=9) (et:=189) (z:=.dD) (by simp only[an]) c7 (by kernel_rfl) rfl rfl ok
def ageS:List Nat:=[97,103,101]
def wT(p:PartM)(day:Int)(hd:0<=day/\day<=40000):PC prog 57 [.ag (encPart p),ae [97,103,101],aa day] (·=.aO [.ag [aa (sinceN day p.made),aa (sinceN day p.made)],aa 0]):=by
 refine pB 32 Tryz.func57 ?_;refine(aq @encPart.eq_1) ?_;refine ak.fg (Fg.freeze (f':=[(1,ae [97,103,101]),(2,aa day),(3,.ip (encPart p)),(6,.ptr 1 0),(7,aa 0)]) 0 rfl (λh=>by cases h) (jM @encPart.eq_1)) ?_
 (try change ak _ _ _ _ _)
 have hg:getM (qf (.dD)) [97,103,101] curL=.fn 145 [] [capF]:=rfl;have hh:bl [97,103,101] curL=true:=rfl
 refine(zC)<|(zK xX (hfl:=.inr (aM.refl rfl))) ?_;refine aB.r0 (by rfl) (by simp only[bf,aN,slS,an,ap,ay,↓reduceIte,aj,aX,bc,al,bd,ab,ah,isSub,yp (l:=curL) [97,103,101],hg,hh];first | done | rfl) ?_;exact(zB)<|(yT)<|(aq (n2 (show decide (day<0)=false by simp only[wd];omega) (show decide (40000<day)=false by simp only[wd];omega)))<|(zN)<|(e8 (n2 @encPart.eq_1 @capF.eq_1))<|(zK (A6 p day hd))<|(zR)<|eL [.cell 6 65,.tmp 7]
def findM(ps:List PartM)(name:List Nat):Option PartM:=ps.find? λp=>decide (p.name=name)
def findM_at{ps:List PartM}{name:List Nat}{k:Nat}{p:PartM}(hx:ps[k]?=some p)(hp:p.name=name)(hb:((ps.take k).all λp=>!(decide (p.name=name)))=true):findM ps name=some p:=by
 unfold findM;rw[b7];obtain⟨hlt,he⟩:=List.getElem?_eq_some_iff.1 hx;refine⟨by simpa using hp,k,hlt,he,λj hj=>?_⟩;have h1:=all_eq_true.1 hb (ps[j]'(by omega)) (by rw[cd];exact⟨j,by rw[b6,t8 hj];exact ac (by omega)⟩);simpa using h1
def findM_no{ps:List PartM}{name:List Nat}(hb:(ps.all λp=>!(decide (p.name=name)))=true):findM ps name=none:=by
 unfold findM;rw[cl];intro p hp;have h1:=all_eq_true.1 hb p hp;simpa using h1
def zeroP:List SV:=[ae [],ae [],ae [],ae [],aa 0,aa 0,ao false,nilS,aa 0,aa 0,aa 0,aa 0,aa 0,aa 0]
def tg(ps:List PartM)(name:List Nat)(hlen:ps.length<=1000000):PC prog 55 [.ag [slS 14 ps encPart],ae name] (·=optR encPart PartM.zero (findM ps name)):=by
 refine pB 22 Tryz.func55 ?_;refine(zV) ?_;refine ak.fg (Fg.freeze (f':=[(1,ae name),(2,.ip [slS 14 ps encPart]),(4,.ptr 1 0)]) 0 rfl (λh=>by cases h) (jM @slS.eq_1)) ?_
 (try change ak _ _ _ _ _)
 refine(zV)<|(zs) ?_;refine zL ps (λk=>((ps.take k).all λp=>!(decide (p.name=name)))=true) (λk=>[(1,ae name),(4,.ptr 1 0),(9,slS 14 ps encPart),(10,aa ps.length),(11,aa k)]) (λk=>[.gone,.cells zeroP]) (bg @zeroP.eq_1) zp ?_;intro k hk hall;refine zT ps k ?_ ?_;rintro rfl;rotate_left;intro p hx hlt;rotate_left
 ·refine(cV) ?_;rw[ax] at hall;rw[findM_no hall]
  exact(aq @zeroP.eq_1)<|eL [.cell 4 99,.tmp 5] (r:=.aO [.ag (encPart PartM.zero),ao false]) (hw:=.aO (.cons (.ag (.cons (.a _) (.cons (.a _) (.cons (.a _) (.cons (.a _) (.cons (.a _) (.cons (.a _) (.cons (.a _) (.cons (.nil 2) (aM.refl rfl)))))))))) (aM.refl rfl)))
 refine(dI)<|(aq (n4 hlt (au (e:=14) (enc:=encPart) (λ_=>rfl) hx) @encPart.eq_1 @zeroP.eq_1)) ?_
 cases he:decide (p.name=name)
 ·refine(aq he)<|(zN)<|(aq (zi hlt hlen)) ?_;refine zX hlt (bg (n2 @encPart.eq_1 @zeroP.eq_1)) (by rw[takeN_snoc hx,c4,hall];show(true&&(!(decide (p.name=name))&&true))=true;rw[he];rfl)
 ·rw[findM_at hx (ww he) hall]
  exact(aq he)<|(zY)<|(aq @encPart.eq_1)<|eL [.cell 4 99,.tmp 5]
open Go.Proofs.Tryz renaming func58 -> vaa in
open Go.Ev renaming ES -> vab in
open Go.Proofs renaming encWy -> vac in
def ym{l:List (Wy)}(p:Wy->Bool){fid:FuncId}{first cap:List SV}(hlen:l.length<=1000000)(hp:∀x∈l,PC prog fid ((first++[.ag (encWy x)])++cap) (·=ao (p x)))(hg:bm first=true/\bm cap=true):PC prog 58 [slS 5 l encWy,.fn fid first cap] (·=aa (eK p l)):=by
 have vad:=@encWy_eq;exact rh
def toPt(p:PartM)(x:AV):Pt:=⟨p.name,p.kind,p.into,p.slot,p.made,p.since,p.scrapped,x,p.l1,p.l2,p.l3,p.l4,p.l5,p.l6⟩
abbrev billS(l:List (List Nat×Int)):SV:=kc AV.str aa l
def billM(ws:List Wy)(ps:List PartM)(c:Co):List (List Nat×Int):=billOf ws ((findM ps c.part).map λp=>toPt p e7) c
def tc(w:Wy)(p:PartM)(c:Co)(hd:0<=c.day/\c.day<=40000):PC prog 56 [.ag (encWy w),.ip (encPart p),.ip (encCo c)] (·=ao (coversB (toPt p e7) c w)):=by
 refine pB 35 Tryz.func56 ?_;have hv:=wT p c.day hd;rw[encWy_eq,encCo_eq]
 refine(aq @encPart.eq_1)<|(zC)<|(zK hv)<|(zR) ?_
 have hN:coversB (toPt p e7) c w=(decide (w.kind=p.kind)&&(decide (sinceN c.day p.made<=w.days)&&decide (p.l2<=w.km))):=rfl;rw[hN];cases g1:decide (w.kind=p.kind)
 ·exact(aq g1)<|zo [.tmp 4]
 cases g2:decide (sinceN c.day p.made<=w.days)
 ·exact(aq (n2 g1 g2))<|zo [.tmp 4]
 refine(aq (n2 g1 g2))<|(zE) ?_;exact kr.of (rs:=[.tmp 4]) rfl rfl zl (Wk.refl rfl) zq
def nB{S:List SO}{o:Nat}{l:List (List Nat×Int)}(s:List Nat)(ok:Bool)(hS:S[o]?=some (aR AV.str aa l)):lookupS prog S 88 (.map o) (.a (.str s)) ok=some (cond ok (.aO [aa (getM 0 s l),ao (bl s l)]) (aa (getM 0 s l))):=
 rG (uv:=aa) (u0:=0) (k:=s) (kt:=9) (et:=3) (z:=.int .i64 0) (by simp only[an]) c7 (by simp only[an]) rfl hS rfl ok
def kO{S:List SO}{o:Nat}{l:List (List Nat×Int)}(s:List Nat)(u:Int)(hS:S[o]?=some (aR AV.str aa l)):cZ prog S 88 (.map o) (.a (.str s)) (aa u)=some (S.set o (aR AV.str aa (bG s u l))):=
 vB (uv:=aa) (kt:=9) (et:=3) (by simp only[an]) c7 hS rfl u
def idxFind{α:Type}{p:α->Bool}{l:List α}:(l.find? p=none/\eK p l = -1)\/∃(k:Nat) (x:α),l.find? p=some x/\l[k]?=some x/\eK p l=(k:Int):=by
 cases h:l.findIdx? p with
 | none=>
  refine .inl ⟨?_,by unfold eK;rw[h]⟩;rw[cl];intro x hx;rw[List.findIdx?_eq_none_iff.1 h x hx];decide
 | some k=>
  obtain⟨hlt,h1,h2⟩:=List.findIdx?_eq_some_iff_getElem.1 h;refine .inr ⟨k,l[k],?_,ac hlt,by unfold eK;rw[h]⟩;rw[b7];exact⟨h1,k,hlt,rfl,λj hj=>by have:=h2 j hj;simpa using this⟩
def l7(ws:List Wy)(ps:List PartM)(c:Co)(hlw:ws.length<=1000)(hlp:ps.length<=100000)(hok:rightB ws c=true):PC prog 26 [slS 5 ws encWy,.ag [slS 14 ps encPart],.ag (encCo c)] (·=.aO [billS (billM ws ps c),ao (findM ps c.part).isSome]):=by
 have hko:(∀w∈ws,w.ok=true)/\c.ok=true:=by
  unfold rightB at hok;rw[a0,all_eq_true] at hok;exact hok
 have hday:0<=c.day/\c.day<=40000:=by
  have:=hko.2;unfold Co.ok isDy at this;simp only[a0,wp] at this;omega
 have hcov:=λ(p:PartM) (w:Wy)=>tc w p c hday;refine pB 65 Tryz.func26 ?_;rw[encCo_eq];refine(zV) ?_;refine ak.fg (Fg.freeze (f':=[(0,slS 5 ws encWy),(4,.ip [slS 14 ps encPart]),(5,.ptr 1 0)]) 0 rfl (λh=>by cases h) (jM @slS.eq_1)) ?_;refine ak.fg (Fg.freeze (f':=[(0,slS 5 ws encWy),(4,.ip [slS 14 ps encPart]),(5,.ip (encCo c))]) 1 rfl (λh=>by cases h) (jM (n2 @slS.eq_1 @encCo_eq))) ?_;refine ak.fg (st':=⟨[(0,slS 5 ws encWy),(4,.ip [slS 14 ps encPart]),(5,.ip (encCo c))],65,[],[]⟩) zH ?_
 (try change ak _ _ _ _ _)
 have hfi:=tg ps c.part (by omega);have hbm:billM ws ps c=billOf ws ((findM ps c.part).map λp=>toPt p e7) c:=rfl;generalize findM ps c.part=fo at hfi hbm
 obtain⟨p,hp⟩:∃p,optR encPart PartM.zero fo=.aO [.ag (encPart p),ao fo.isSome]/\∀q,fo=some q->q=p:=by
  cases fo with
  | none=>exact⟨PartM.zero,rfl,λq h=>by cases h⟩
  | some q=>exact⟨q,rfl,λq h=>by cases h;rfl⟩
 rw[hp.1] at hfi
 refine(e8 @encCo_eq)<|(zK hfi (hfl:=.inr (aM.refl rfl)))<|(bE @encPart.eq_1) ?_;refine ak.fg (Fg.freeze (f':=[(0,slS 5 ws encWy),(5,.ip (encCo c)),(8,.ip (encPart p)),(9,ao fo.isSome)]) 0 rfl (λh=>by cases h) (jM (n2 @slS.eq_1 @encPart.eq_1))) ?_;refine ak.fg (st':=⟨[(0,slS 5 ws encWy),(5,.ip (encCo c)),(8,.ip (encPart p)),(9,ao fo.isSome)],65,[],[]⟩) zH ?_
 (try change ak _ _ _ _ _)
 have hm0:SO.map [] [] none=aR AV.str aa []:=rfl;refine(zs) ?_;refine ak.r0 (by rfl) (by simp only[bf,aN,slS,an,ap,ay,↓reduceIte,aj,aX,bc,al,bd,ab,ah,isSub,encCo_eq,hm0,kO (l:=[])];first | done | rfl) ?_;refine ak.fg (st':=⟨[(0,slS 5 ws encWy),(5,.ip (encCo c)),(8,.ip (encPart p)),(9,ao fo.isSome),(10,.map 0)],65,[aR AV.str aa [(c.owner,c.am)]],[]⟩) (bg (n4 @aR.eq_1 @map_cons.{0,0} @map_nil.{0,0} @nil_append.{0})) ?_
 (try change ak _ _ _ _ _)
 refine(fe)<|(zK (ym (l:=ws) (coversB (toPt p e7) c) (first:=[]) (cap:=[.ip (encPart p),.ip (encCo c)]) (by omega) (λx _=>hcov p x) ⟨rfl,rfl⟩))<|(zR) ?_
 cases hfo:fo with
 | none=>
  rw[hfo] at hbm
  refine(zs) ?_;refine ak.r0 (by rfl) (by simp only[bf,aN,slS,an,ap,ay,↓reduceIte,aj,aX,bc,al,bd,ab,ah,isSub,Option.isSome_none];first | done | rfl) ?_;exact(zN)<|(aq hm0)<|eL [.tmp 6,.tmp 7] (r:=.aO [billS [(c.owner,c.am)],ao false]) (hw:=.aO (.cons (mw (λ_=>rfl) rfl) (aM.refl rfl))) (hq:=by rw[hbm];rfl)
 | some q=>
  have hq:=hp.2 q hfo;subst hq;rw[hfo,ay] at hbm
  rcases idxFind (p:=coversB (toPt q e7) c) (l:=ws) with⟨h1,h2⟩ | ⟨k,w,h1,hx,h2⟩
  ·rw[h2]
   have hb:billM ws ps c=[(c.owner,c.am)]:=by rw[hbm];simp only[billOf,h1]
   refine(zs) ?_;refine ak.r0 (by rfl) (by simp only[bf,aN,slS,an,ap,ay,↓reduceIte,aj,aX,bc,al,bd,ab,ah,isSub,e3];first | done | rfl) ?_;exact(zN)<|(aq hm0)<|eL [.tmp 6,.tmp 7] (r:=.aO [billS [(c.owner,c.am)],ao true]) (hw:=.aO (.cons (mw (λ_=>rfl) rfl) (aM.refl rfl))) (hq:=by rw[hb];rfl)
  ·rw[h2];obtain⟨_,hamr,hpr⟩:=pct_of_ok (hko.1 w (ad hx)) hko.2;have hpb:=pct_bnd hamr hpr;have hpc:=qO c.am w.pct hamr hpr
   have hb:billM ws ps c=bG w.maker (getM 0 w.maker (bG c.owner (c.am-pctN c.am w.pct) [(c.owner,c.am)])+pctN c.am w.pct) (bG c.owner (c.am-pctN c.am w.pct) [(c.owner,c.am)]):=by rw[hbm];simp only[billOf,h1]
   generalize pctN c.am w.pct=n at hpb hpc hb
   have hg1:getM (0:Int) c.owner [(c.owner,c.am)]=c.am:=by simp[getM]
   have hgb:0<=getM (0:Int) w.maker (bG c.owner (c.am-n) [(c.owner,c.am)])/\getM (0:Int) w.maker (bG c.owner (c.am-n) [(c.owner,c.am)])<=1000000000000:=by
    rw[cz];split
    ·omega
    ·rename_i hne;rw[show getM (0:Int) w.maker [(c.owner,c.am)]=0 by simp[getM,hne]];omega
   have hlt:k<ws.length:=aE hx;generalize hB:bG c.owner (c.am-n) [(c.owner,c.am)]=B at hb hgb;generalize hgg:getM (0:Int) w.maker B=g at hb hgb;refine(zs) ?_;refine ak.r0 (by rfl) (by simp only[bf,aN,slS,an,ap,ay,↓reduceIte,aj,aX,bc,al,bd,ab,ah,isSub,e3,show decide ((0:Int)<=(k:Int))=true by simp];first | done | rfl) ?_;refine(zY) ?_
   (repeat refine ak.seq ?_)
   refine(zs) ?_;refine kU [0,1,0,0,12,28,60,127,255,511,511,1023,4095] ?_;refine(jL (n4 hlt (au (e:=5) (enc:=encWy) (λ_=>rfl) hx) @encWy_eq @encCo_eq)) ?_;refine SD.k (by rfl) rfl rfl (by rfl) rfl rfl zc (hpc) (zw) rfl ?_;refine(zD)<|(zM)<|(zs) ?_;refine ak.r0 (by rfl) (by simp only[bf,aN,slS,an,ap,ay,↓reduceIte,aj,aX,bc,al,bd,ab,ah,isSub,encCo_eq,hm0,nB (l:=[(c.owner,c.am)]),hg1,om (P:=prog) (t:=3) (show -9223372036854775808<=c.am-n/\c.am-n<=9223372036854775807 from⟨by omega,by omega⟩),kO (l:=[(c.owner,c.am)])];first | done | rfl) ?_;refine(zs) ?_;refine ak.r0 (by rfl) (by simp only[bf,aN,slS,an,ap,ay,↓reduceIte,aj,aX,bc,al,bd,ab,ah,isSub,hlt,au (e:=5) (enc:=encWy) (λ_=>rfl) hx,encWy_eq,nB (l:=B),kO (l:=B),hB,hgg,iP (P:=prog) (t:=3) (show -9223372036854775808<=g+n/\g+n<=9223372036854775807 from⟨by omega,by omega⟩)];first | done | rfl) ?_;refine(zs) ?_;refine ak.r0 (by rfl) zl ?_;refine(zE) ?_;exact kr.of (rs:=[.tmp 6,.tmp 7]) (r:=.aO [billS (bG w.maker (g+n) B),ao true]) rfl rfl zl (by exact .aO (.cons (mw (λ_=>rfl) rfl) (aM.refl rfl))) (by (try simp only[bL,aF]);first | done | (rw[hb];rfl))
def yo(L:List (List Nat×Int)):PC prog 62 [kc AV.str aa L] (·=.fn 108 [] [.ip [kc AV.str aa L]]):=by
 refine pB 4 Tryz.func62 ?_;refine(zV) ?_;refine ak.fg (Fg.freeze (f':=[(1,.ip [kc AV.str aa L])]) 0 rfl (λh=>by cases h) (jM @slS.eq_1)) ?_
 (try change ak _ _ _ _ _)
 exact(zV)<|zo [.tmp 2]
def loopK(lc:dw):SO:=.loop lc .ready none [(2,.ptr 1 0)]
def kill_loopK(o:Nat)(lc:dw)(h:¬1=o):killO o (loopK lc)=loopK lc:=by
 simp[loopK,killO,cm,aH,Ev.names,h]
def SeqCode(lc:dw):Prop:=(prog.funcs[(146:Nat)]?.bind λfn=>fn.body.bind findRange)=some (lc.a,lc.b)
def yn(L:List (List Nat×Int))(lc:dw)(hcd:SeqCode lc)(hln:lc.n=13)(hlp:lc.ps=#[7])(hlen:L.length<=100000)(hnd:(L.map (·.1)).Nodup):
 SC prog 108 [.a (.fn (.yield lc.id) [] []),.ip [kc AV.str aa L]] [loopK lc,.cells [nilS],.gone] [2] (λr S'=>r=.aO []/\∃out:List (List Nat),out.Perm (L.map (·.1))/\S'=[loopK lc,.cells [nbuf 2 1 out.length],outS out]):=by
 refine E2 14 func108 ?_;have hk3:=kill_loopK 3 lc (by decide);refine(zC) ?_;refine aB.FI (ks:=L.map λe=>.str e.1) (vs:=L.map λe=>aa e.2) (by rfl) rfl rfl (by rfl) rfl (by simp only[an]) ?_;intro bs c hbs;refine aB.r0 (by rfl) (by simp only[bf,aN,slS,an,ap,ay,↓reduceIte,aj,aX,bc,al,bd,ab,ah,isSub,↓hk3];first | done | rfl) ?_
 (repeat refine ak.seq ?_)
 refine ak.block (ak.loop (λm st=>∃pos:List Nat,pos.Nodup/\(∀j∈pos,j<L.length)/\L.length-pos.length=m/\st=⟨[(0,.a (.fn (.yield lc.id) [] [])),(5,.ptr 3 0),(1000000,.ptr 0 0),(1000001,.ptr 1 0)],14,[loopK lc,.cells [nbuf 2 1 (handed L pos).length],outS ((handed L pos).map (·.1)),.kT (L.map λe=>.str e.1) (L.map λe=>aa e.2) bs c pos],[]⟩) L.length (bg (n6 @handed.eq_1 @List.filterMap_nil.{0,0} @map_nil.{0,0} @length_nil.{0} @nbuf_0 @outS_nil)) ⟨[],fs,λj hj=>by simp at hj,rfl,rfl⟩ (by rintro m st ⟨pos,_,_,_,rfl⟩;rfl) ?_);rintro m st ⟨pos,hpn,hpl,rfl,rfl⟩;refine ak.post ?_;refine(zC) ?_;refine aB.FG (by rfl) rfl rfl (by rfl) rfl rfl (λj hj=>by rw[bk];exact hpl j hj) ?_ ?_
 ·intro hall
  refine(zR)<|(cV) ?_;refine⟨⟨[(1000000,.ptr 0 0),(1000001,.ptr 1 0)],14,[loopK lc,.cells [nbuf 2 1 (handed L pos).length],outS ((handed L pos).map (·.1))],[]⟩,zH,?_⟩
  simp only[dY,SThen,SRound,SNoGoto,if_true];exact zP [] (hq:=by (try simp only[bL,aF]);first | done | (exact⟨trivial,(handed L pos).map (·.1),(kE hpn hpl (λj hj=>hall j (by rw[bk];exact hj))).map _,by rw[bk]⟩))
 ·intro j hj hjn;rw[bk] at hj;obtain⟨e,he⟩:∃e,L[j]?=some e:=⟨L[j],ac hj⟩;obtain⟨q1,q2,q3⟩:=lL hpn hpl hj hjn;have hsn:=jy L pos he
  refine(zR)<|(dI)<|(zC) ?_;refine aB.FD (k:=.str e.1) (v:=aa e.2) (by rfl) rfl rfl (by rfl) rfl rfl (by rw[bv,he];rfl) (by rw[bv,he];rfl) ?_;refine(zR)<|(zC) ?_;refine aB.fg (st':=⟨[(10,.a (.fn (.yield lc.id) [] [])),(11,ae e.1),(0,.a (.fn (.yield lc.id) [] [])),(5,.ptr 3 0),(1000000,.ptr 0 0),(1000001,.ptr 1 0)],14,[loopK lc,.cells [nbuf 2 1 (handed L pos).length],outS ((handed L pos).map (·.1)),.kT (L.map λe=>.str e.1) (L.map λe=>aa e.2) bs c (pos++[j])],[]⟩) zH ?_;refine aB.y (vs:=[ae e.1]) (oo:=0) (by rfl) rfl rfl (by rfl) rfl rfl rfl (by rfl) rfl (by rw[hlp];rfl) (by rw[hln];rfl) (by rw[hln];decide) (by rw[hlp,hln];rfl) λro'=>?_
  have hcd2:=hcd;unfold SeqCode at hcd2;rw[e5] at hcd2;have hcd3:=Option.some.inj (hcd2.symm.trans (by rfl));obtain⟨ha,hbb⟩:=Prod.mk.inj hcd3;rw[ha,hlp,hln];have hhl:(handed L pos).length=((handed L pos).map (·.1)).length:=(bk _).symm;rw[hhl]
  have hol:((handed L pos).map (·.1)).length<=100000:=by rw[<-hhl];exact ci (ce _ _) (by omega)
  generalize hout:(handed L pos).map (·.1)=out at hol;change ak _ _ _ ⟨[(7,ae e.1),(2,.ptr 1 0),(20000010,.a (.fn (.yield lc.id) [] [])),(20000011,ae e.1),(20000000,.a (.fn (.yield lc.id) [] [])),(20000005,.ptr 3 0),(21000000,.ptr 0 0),(21000001,.ptr 1 0)],13,[loopK lc,.cells [nbuf 2 1 out.length],outS out,.kT (L.map λe=>.str e.1) (L.map λe=>aa e.2) bs c (pos++[j])],[]⟩ _;refine(zV) ?_;refine⟨rfl,0,none,[(2,.ptr 1 0)],rfl,?_⟩;rw[hbb];refine(zB) ?_;change ak _ _ _ ⟨_,13,[.loop lc .busy none [(2,.ptr 1 0)],.cells [nbuf 2 1 out.length],outS out,.kT (L.map λe=>.str e.1) (L.map λe=>aa e.2) bs c (pos++[j])],[]⟩ _;by_cases ho:out=[]
  ·have hE1:nbuf 2 1 (handed L (pos++[j])).length=.buf 2 1 1 none:=by rw[hsn,be,hhl,hout,ho];rfl
   have hE2:outS ((handed L (pos++[j])).map (·.1))=.cells [ae e.1]:=by rw[hsn,dc,hout,ho];rfl
   rw[ho,outS_nil,show nbuf 2 1 ([]:List (List Nat)).length=nilS from rfl];refine(zV) ?_;refine⟨rfl,0,.busy,none,[(2,.ptr 1 0)],rfl,?_⟩;simp only[dnF,laid,al,ei,↓reduceIte]
   refine aB.fg (st':=⟨[(12,ao true),(0,.a (.fn (.yield lc.id) [] [])),(5,.ptr 3 0),(1000000,.ptr 0 0),(1000001,.ptr 1 0)],14,[loopK lc,.cells [.buf 2 1 1 none],.cells [ae e.1],.kT (L.map λe=>.str e.1) (L.map λe=>aa e.2) bs c (pos++[j])],[]⟩) (Fg.rn (f':=[(12,ao true),(0,.a (.fn (.yield lc.id) [] [])),(5,.ptr 3 0),(1000000,.ptr 0 0),(1000001,.ptr 1 0)]) (n:=14) (S':=[loopK lc,.cells [.buf 2 1 1 none],.cells [ae e.1],.kT (L.map λe=>.str e.1) (L.map λe=>aa e.2) bs c (pos++[j])]) [0,1,5,3] (by decide) rfl (yU (n5 @loopK.eq_1 @endS.eq_1 @endC.eq_1 @endN.eq_1 @dnF.eq_1)) (yV (n5 @loopK.eq_1 @endS.eq_1 @endC.eq_1 @endN.eq_1 @dnF.eq_1))) ?_;refine(zR)<|(zN) ?_;exact⟨⟨[(0,.a (.fn (.yield lc.id) [] [])),(5,.ptr 3 0),(1000000,.ptr 0 0),(1000001,.ptr 1 0)],14,[loopK lc,.cells [.buf 2 1 1 none],.cells [ae e.1],.kT (L.map λe=>.str e.1) (L.map λe=>aa e.2) bs c (pos++[j])],[]⟩,(bg @loopK.eq_1),L.length-(pos++[j]).length,_,by rw[be];simp only[ba,length_nil];omega,(bg (n3 @loopK.eq_1 hE1 hE2)),pos++[j],q1,q2,rfl,rfl⟩
  ·have hk1:¬out.length=0:=λh=>ho (length_eq_zero_iff.1 h)
   have hE1:nbuf 2 1 (handed L (pos++[j])).length=.buf 2 (out.length+1) 1 none:=by rw[hsn,be,hhl,hout];exact nbuf_p (by simp)
   have hE2:outS ((handed L (pos++[j])).map (·.1))=.cells ((out++[e.1]).flatMap (one1 ae)):=by rw[hsn,dc,hout];exact outS_p (by simp)
   have hcl3:=flat_len' (enc:=one1 ae) (e:=1) (λ_=>rfl) out;have hkc3:=λo=>kill_cells (enc:=one1 ae) (λ_=>rfl) o out;have happ:=app_cells (enc:=one1 ae) (e:=1) (λ_=>rfl) (λ_=>rfl) 2 out e.1;rw[show one1 ae e.1=[ae e.1] from rfl,b4] at happ;rw[b4] at hcl3;rw[outS_p ho,nbuf_p hk1];refine(aq (n6 hkc3 hcl3 @b4 (show out.length<=1000000 by omega) @aS happ)) ?_;refine⟨rfl,0,.busy,none,[(2,.ptr 1 0)],rfl,?_⟩;simp only[dnF,laid,al,ei,↓reduceIte]
   refine aB.fg (st':=⟨[(12,ao true),(0,.a (.fn (.yield lc.id) [] [])),(5,.ptr 3 0),(1000000,.ptr 0 0),(1000001,.ptr 1 0)],14,[loopK lc,.cells [.buf 2 (out.length+1) 1 none],.cells ((out++[e.1]).flatMap (one1 ae)),.kT (L.map λe=>.str e.1) (L.map λe=>aa e.2) bs c (pos++[j])],[]⟩) (bg (n5 @loopK.eq_1 @dnF.eq_1 @endS.eq_1 @endC.eq_1 @endN.eq_1)) ?_;refine(zR)<|(zN) ?_;exact⟨⟨[(0,.a (.fn (.yield lc.id) [] [])),(5,.ptr 3 0),(1000000,.ptr 0 0),(1000001,.ptr 1 0)],14,[loopK lc,.cells [.buf 2 (out.length+1) 1 none],.cells ((out++[e.1]).flatMap (one1 ae)),.kT (L.map λe=>.str e.1) (L.map λe=>aa e.2) bs c (pos++[j])],[]⟩,(bg @loopK.eq_1),L.length-(pos++[j]).length,_,by rw[be];simp only[ba,length_nil];omega,(bg (n3 @loopK.eq_1 hE1 hE2)),pos++[j],q1,q2,rfl,rfl⟩
def vK(L:List (List Nat×Int))(hlen:L.length<=100000)(hnd:(L.map (·.1)).Nodup):SC prog 146 [nilS,.fn 108 [] [.ip [kc AV.str aa L]]] [] [] (λr S'=>∃out:List (List Nat),out.Perm (L.map (·.1))/\r=nbuf 0 1 out.length/\S'=[outS out,.gone]):=by
 refine SC.kh (n:=13) cw e5 rfl rfl (by decide) (W:=[]) rfl (by decide) ?_;refine(gi) ?_;refine ak.fg (st':=⟨[(2,.ptr 0 0),(6,.fn 108 [] [.ip [kc AV.str aa L]])],13,[.cells [nilS],.gone],[]⟩) zH ?_;refine(zB) ?_;refine ak.lM (f1:=[(2,.ptr 0 0)]) cw (by rfl) func108 (by rfl) Fj ?_;rintro N lc hid hn hps ha hb
 have hcd:SeqCode lc:=by
  unfold SeqCode;rw[e5,ha,hb];rfl
 have hsc:=yn L lc hcd hn hps hlen hnd;refine⟨[3,0,1],_,_,_,_,hsc,?_,rfl,by decide,?_,?_⟩
 ·simp only[cX,aN,bf,slS,cm,aH,↓reduceIte,aj,aX,ei,hid,List.map,List.append,eF,nil_append]
  try rfl
 ·rintro(_ | _ | _ | i) so h
  ·cases h;exact⟨3,rfl,by rfl⟩
  ·cases h;exact⟨0,rfl,by rfl⟩
  ·cases h;exact⟨1,rfl,by rfl⟩
  ·cases h
 rintro r S' ⟨rfl,out,hp,rfl⟩
 have hbn:∀n:Nat,bV 3 (nbuf 2 1 n)=true:=λn=>by
  unfold nbuf;split
  ·exact c8 rfl
  ·rfl
 have hrn3:∀(B n:Nat),iK (eM [3,0,1] B) (.cells [nbuf 2 1 n])=.cells [nbuf 1 1 n]:=λB n=>by
  show SO.cells [de _ _]=_;rw[rn_nbuf];rfl
 refine⟨by simp only[loopK,qx,cX,aN,slS,aX,bd,decide_true,↓bnd_outS,↓hbn];first | done | rfl,3,.ready,none,[(2,.ptr 0 0)],by rfl,by decide,by rfl,?_⟩
 have hS2:(afterS (dG (dG [SO.cells [nilS],SO.gone] (SO.ik N)) (SO.loop lc .ready none [(2,.ptr 0 0)])) [3,0,1] [2] [loopK lc,.cells [nbuf 2 1 out.length],outS out]).set 3 .gone=[.cells [nbuf 1 1 out.length],outS out,.ik N,.gone]:=by
  simp only[afterS,dG,bZ,forgot,eC,eI,ba,length_nil,List.map,bk,be,↓hrn3,↓rn_outS];rfl
 rw[hS2];change ak _ _ _ ⟨[(2,.ptr 0 0)],13,[.cells [nbuf 1 1 out.length],outS out,.ik N,.gone],[{ fn:=none,tT:=N,args:=[],cap:=[] }]⟩ _;refine(zV) ?_;refine ak.fg (st':=⟨[(4,nbuf 0 1 out.length)],13,[outS out,.ik N],[{ fn:=none,tT:=N,args:=[],cap:=[] }]⟩) (Fg.rn (f':=[(4,nbuf 0 1 out.length)]) (n:=13) (S':=[outS out,.ik N]) [1,2] (by decide) rfl (yU (n2 @rn_nbuf @rn_outS)) (yV (n2 @rn_nbuf @rn_outS))) ?_;refine ak.ret ?_
 (try simp only[dY,SThen,SRound,SNoGoto])
 exact⟨rfl,[(4,nbuf 0 1 out.length)],⟨rfl,trivial⟩,rfl,.inl ⟨rfl,1,rfl,⟨[nbuf 0 1 out.length],by rfl,out,hp,rfl,rfl⟩,bw _,λi hi=>t7 hi (ca _)⟩⟩
def qC(L:List (List Nat×Int))(hlen:L.length<=100000)(hnd:(L.map (·.1)).Nodup):SC prog 107 [.fn 108 [] [.ip [kc AV.str aa L]]] [] [] (λr S'=>∃out:List (List Nat),out.Perm (L.map (·.1))/\r=nbuf 0 1 out.length/\S'=[outS out,.gone]):=by
 refine Ap 5 Tryz.func107 ?_;refine(fe) ?_;refine aB.sc [] (by rfl) rfl rfl (by rfl) rfl zc (vK L hlen hnd) (by simp only[cX,aN,slS];first | done | rfl) rfl (by decide) (λi so h=>by simp at h) ?_ ?_
 ·rintro r S' ⟨out,hp,rfl,rfl⟩;exact⟨bnd_nbuf 1 1 _,by simp only[qx,↓bnd_outS];first | done | rfl⟩
 ·rintro r S' ⟨out,hp,rfl,rfl⟩;have e1:de (eM [] ([]:List SO).length) (nbuf 0 1 out.length)=nbuf 0 1 out.length:=rn_nbuf _ 0 1 _
  have e2:afterS [] [] [] [outS out,.gone]=[outS out,.gone]:=by
   simp only[afterS,forgot,eC,eI,ba,length_nil,List.map,↓rn_outS];rfl
  rw[e1,e2]
  refine aB.fg (st':=⟨[(4,nbuf 0 1 out.length)],5,[outS out,.gone],[]⟩) zH ?_;refine(zR)<|(zE) ?_;exact zP [.tmp 2] (hq:=by (try simp only[bL,aF]);first | done | (exact⟨out,hp,rfl,rfl⟩))
def tO(L:List (List Nat×Int))(hlen:L.length<=100000)(hnd:(L.map (·.1)).Nodup)(hne:L≠[]):SC prog 61 [.fn 108 [] [.ip [kc AV.str aa L]]] [] [] (λr S'=>r=.buf 0 L.length 1 none/\S'=[.cells ((sortN (L.map (·.1))).flatMap (one1 ae))]):=by
 refine Ap 9 Tryz.func61 ?_;refine(fe) ?_;refine aB.sc [] (by rfl) rfl rfl (by rfl) rfl zc (qC L hlen hnd) (by simp only[cX,aN,slS];first | done | rfl) rfl (by decide) (λi so h=>by simp at h) ?_ ?_
 ·rintro r S' ⟨out,hp,rfl,rfl⟩;exact⟨bnd_nbuf 1 1 _,by simp only[qx,↓bnd_outS];first | done | rfl⟩
 ·rintro r S' ⟨out,hp,rfl,rfl⟩;have e1:de (eM [] ([]:List SO).length) (nbuf 0 1 out.length)=nbuf 0 1 out.length:=rn_nbuf _ 0 1 _
  have e2:afterS [] [] [] [outS out,.gone]=[outS out,.gone]:=by
   simp only[afterS,forgot,eC,eI,ba,length_nil,List.map,↓rn_outS];rfl
  rw[e1,e2]
  have hol:out.length=L.length:=by rw[hp.length_eq,bk]
  have hon:out≠[]:=λe=>hne (length_eq_zero_iff.1 (by rw[<-hol,e];rfl));have hso:sortN out=sortN (L.map (·.1)):=sortN_perm hp;have hss:=kP out (by omega) hon;rw[hso,hol] at hss;have hcs:∀(r:Nat->Nat) (q:List (List Nat)),fV r (q.flatMap (one1 ae))=q.flatMap (one1 ae):=λr q=>aK (ar (λ_=>rfl) q);have hcb:∀(B:Nat) (q:List (List Nat)),dA B (q.flatMap (one1 ae))=true:=λB q=>aP (ar (λ_=>rfl) q);have hck:∀(o:Nat) (q:List (List Nat)),(q.flatMap (one1 ae)).map (aH o)=q.flatMap (one1 ae):=λo q=>kill_cells (enc:=one1 ae) (λ_=>rfl) o q;rw[outS_p hon,hol,nbuf_p (λh=>hne (length_eq_zero_iff.1 h))]
  refine aB.fg (st':=⟨[(5,.buf 0 L.length 1 none)],9,[.cells (out.flatMap (one1 ae))],[]⟩) zH ?_;refine(zR)<|(zC) ?_;refine zS [0] (n3 hcs hcb hck) hss ?_;refine(zR)<|(zV)<|(zE) ?_;exact zP [.tmp 2]
def encSh(s:Sh):List SV:=[ae s.pt,aa s.am]
def encSh_len(s:Sh):(encSh s).length=2:=rfl
def encSh_gnd(s:Sh):bm (encSh s)=true:=rfl
def dR{S:List SO}{l:List (List Nat×Int)}(s:List Nat)(ok:Bool):lookupS prog S 88 (kc AV.str aa l) (.a (.str s)) ok=some (cond ok (.aO [aa (getM 0 s l),ao (bl s l)]) (aa (getM 0 s l))):=
 BW (uv:=aa) (u0:=0) (k:=s) (kt:=9) (et:=3) (z:=.int .i64 0) (by simp only[an]) c7 (by simp only[an]) rfl rfl ok
def listN(L:List (List Nat×Int)):List Sh:=shL L (sortN (L.map (·.1)))
def p7(L:List (List Nat×Int))(hlen:L.length<=100000)(hnd:(L.map (·.1)).Nodup)(hne:L≠[]):PC prog 28 [kc AV.str aa L] (·=slS 2 (listN L) encSh):=by
 refine pB 28 Tryz.func28 ?_;refine(gi)<|(zC)<|(zK (yo L) (hfl:=.inr (aM.refl rfl))) ?_
 have hso:=tO L hlen hnd hne;unfold listN
 have hkl:(sortN (L.map (·.1))).length=L.length:=by rw[(sortP _).length_eq,bk]
 generalize sortN (L.map (·.1))=ks at hso hkl ⊢;have hcs:∀(r:Nat->Nat) (q:List (List Nat)),fV r (q.flatMap (one1 ae))=q.flatMap (one1 ae):=λr q=>aK (ar (λ_=>rfl) q);have hcb:∀(B:Nat) (q:List (List Nat)),dA B (q.flatMap (one1 ae))=true:=λB q=>aP (ar (λ_=>rfl) q);refine zS [] (n2 hcs hcb) hso ?_;refine(zR) ?_;refine ak.fg (Fg.freeze (f':=[(0,kc AV.str aa L),(3,nilS),(8,slS 1 ks (one1 ae)),(9,aa ks.length),(10,aa 0)]) 0 rfl (λh=>by cases h) ⟨.inl rfl,.inl rfl,.inr (by rw[je 1 ks (one1 ae),hkl];exact .buf rfl (by rw[<-hkl,flat_all (enc:=one1 ae) (e:=1) (λ_=>rfl)];exact aM.refl (ar (λ_=>rfl) _)) (by rw[flat_len' (enc:=one1 ae) (e:=1) (λ_=>rfl),hkl];exact aS _)),.inl (by rw[hkl];rfl),.inl rfl,trivial⟩) ?_
 (try change ak _ _ _ _ _)
 have hlen6:ks.length<=1000000:=by omega
 refine(zs) ?_;refine zL ks (λk=>True) (λk=>[(0,kc AV.str aa L),(3,nbuf 1 2 (shL L (ks.take k)).length),(8,slS 1 ks (one1 ae)),(9,aa ks.length),(10,aa k)]) (λk=>nst 1 (shL L (ks.take k)) encSh) (bg (n7 @take_zero.{0} @shL.eq_1 @List.filter_nil.{0} @map_nil.{0,0} @length_nil.{0} @nbuf_0 @nst_nil)) zp ?_;intro k hk hall;refine zT ks k ?_ ?_;rintro rfl;rotate_left;intro key hx hlt;rotate_left
 ·refine(cV) ?_;rw[ax]
  exact(zV)<|zo [.tmp 2] (r:=slS 2 (shL L ks) encSh) (hw:=wk_nbuf encSh_len encSh_gnd _)
 have hfm:=shL_snoc L (ks.take k) key;rw[<-takeN_snoc hx] at hfm;have hol:(shL L (ks.take k)).length<=k:=ci (shL_len _ _) (by rw[b9];omega);generalize hO:shL L (ks.take k)=out at hol hfm;refine(dI) ?_;have hcl:=flat_len' encSh_len out;have hkc:=λo=>kill_cells encSh_gnd o out;by_cases hk0:out=[]
 ·rw[show nst 1 out encSh=[] by rw[hk0];rfl,show nbuf 1 2 out.length=nilS by rw[hk0];rfl];refine(aq (n3 hlt (au (e:=1) (enc:=one1 ae) (λ_=>rfl) hx) @one1.eq_1)) ?_;cases g:decide (0<getM 0 key L)
  ·rw[ul (wt g)] at hfm
   have f1:nbuf 1 2 (shL L (ks.take (k+1))).length=nilS:=by rw[hfm,hk0];rfl
   have f2:nst 1 (shL L (ks.take (k+1))) encSh=[]:=by rw[hfm,hk0];rfl
   refine(zs) ?_;refine ak.r0 (by rfl) (by simp only[bf,aN,slS,an,ap,ay,↓reduceIte,aj,aX,bc,al,bd,ab,ah,isSub,dR (l:=L),g];first | done | rfl) ?_;refine(zs) ?_;refine ak.no rfl ?_;(try (refine ak.skip ?_;try change ak _ _ _ _ _));refine(zs) ?_;refine ak.r0 (by rfl) (gf (nL (iW hlt hlen6 (by decide)))) ?_;refine⟨ks.length-(k+1),_,by omega,(Fg.less (Eu (n2 f1 f2)) (Ew (n2 f1 f2))),k+1,by omega,rfl,trivial,rfl⟩
  ·rw[t8 (ww g)] at hfm
   have f1:nbuf 1 2 (shL L (ks.take (k+1))).length=.buf 1 1 2 none:=by rw[hfm,hk0];rfl
   have f2:nst 1 (shL L (ks.take (k+1))) encSh=[.gone,.cells (encSh (⟨key,getM 0 key L⟩:Sh))]:=by rw[hfm,hk0];rfl
   refine(zs) ?_;refine ak.r0 (by rfl) (by simp only[bf,aN,slS,an,ap,ay,↓reduceIte,aj,aX,bc,al,bd,ab,ah,isSub,dR (l:=L),g];first | done | rfl) ?_;refine(zs) ?_;refine ak.yes rfl ?_;(try (refine ak.skip ?_;try change ak _ _ _ _ _));refine(zs) ?_;refine ak.r0 (by rfl) (by simp only[bf,aN,slS,an,ap,ay,↓reduceIte,aj,aX,bc,al,bd,ab,ah,isSub,dR (l:=L)];first | done | rfl) ?_;refine(aq (zi hlt hlen6)) ?_;refine zX hlt (bg (n3 f1 f2 @encSh.eq_1)) trivial
 ·have hk1:¬out.length=0:=λh=>hk0 (length_eq_zero_iff.1 h);rw[nst_p hk0,nbuf_p hk1];refine(aq (n5 hlt (au (e:=1) (enc:=one1 ae) (λ_=>rfl) hx) @one1.eq_1 reps hkc)) ?_;cases g:decide (0<getM 0 key L)
  ·rw[ul (wt g)] at hfm
   have f1:nbuf 1 2 (shL L (ks.take (k+1))).length=.buf 1 out.length 2 none:=by rw[hfm,nbuf_p hk1]
   have f2:nst 1 (shL L (ks.take (k+1))) encSh=[.gone,.cells (out.flatMap encSh)]:=by rw[hfm,nst_p hk0];rfl
   refine(zs) ?_;refine ak.r0 (by rfl) (by simp only[bf,aN,slS,an,ap,ay,↓reduceIte,aj,aX,bc,al,bd,ab,ah,isSub,dR (l:=L),g,eg,hkc];first | done | rfl) ?_;refine(zs) ?_;refine ak.no rfl ?_;(try (refine ak.skip ?_;try change ak _ _ _ _ _));refine(zs) ?_;refine ak.r0 (by rfl) (gf (nL (iW hlt hlen6 (by decide)))) ?_;refine⟨ks.length-(k+1),_,by omega,(Fg.less (Eu (n2 f1 f2)) (Ew (n2 f1 f2))),k+1,by omega,rfl,trivial,rfl⟩
  ·rw[t8 (ww g)] at hfm
   have f1:nbuf 1 2 (shL L (ks.take (k+1))).length=.buf 1 (out.length+1) 2 none:=by rw[hfm,be];rfl
   have f2:nst 1 (shL L (ks.take (k+1))) encSh=[.gone,.cells ((out++[(⟨key,getM 0 key L⟩:Sh)]).flatMap encSh)]:=by rw[hfm,nst_snoc];rfl
   refine(zs) ?_;refine ak.r0 (by rfl) (by simp only[bf,aN,slS,an,ap,ay,↓reduceIte,aj,aX,bc,al,bd,ab,ah,isSub,dR (l:=L),g,eg,hkc];first | done | rfl) ?_;refine(zs) ?_;refine ak.yes rfl ?_;(try (refine ak.skip ?_;try change ak _ _ _ _ _));have happ:=app_cells encSh_len encSh_gnd 1 out (⟨key,getM 0 key L⟩:Sh);rw[show encSh (⟨key,getM 0 key L⟩:Sh)=[ae key,aa (getM 0 key L)] from rfl] at happ;refine(zs) ?_;refine ak.r0 (by rfl) (by simp only[bf,aN,slS,an,ap,ay,↓reduceIte,aj,aX,bc,al,bd,ab,ah,isSub,dR (l:=L),hcl,hkc,eg,show out.length<=1000000 by omega,aS,happ];first | done | rfl) ?_;refine(aq (zi hlt hlen6)) ?_;refine zX hlt (bg (n2 f1 f2)) trivial
end Go.Proofs
namespace Go.Ev
noncomputable section
section
variable {P:Program} {ro:Option Nat} {S:List SO} {f:Fm} {n:Nat} {ds:List eE}
def aB.Fv{all:List Oper}{o:Oper}{l:List Oper}{K:cM->Prop}{d t yt:Nat}{x:Operand}{y:Value}{ks:List AV}{vs:List SV}(hst:cN all n [o]=true)(hop:o.op=.binOp .eql t x (.const y) yt)(hdst:o.dst=some d)(hw:bB all f o.guard=some true)
 (hx:cT f x=some (.im ks vs)) (hy:fW depthV y=some (.map none)) (ht:dX P t=.map) (hg:P.eqGuardType P.depth t=false) (hk:aB P ro all l ⟨(d,.a (.bool false))::f,n,S,ds⟩ K):aB P ro all (o::l) ⟨f,n,S,ds⟩ K:=by
 rintro ρ0 h0 ⟨af,n',h,ds'⟩ ⟨rfl,rfl,θ,ρ,hR,hF⟩;obtain⟨hd,_⟩:=cU hst;rw[hdst] at hd;obtain⟨a,ha,ka⟩:=aQ hF hx;have ha':ev (cg af n') x=some a:=ha;obtain⟨kt,et,hu⟩:=sF ht;have hyv:ev (cg af n') (.const y)=some (.map none):=hy;rw[VS,GS] at ka;obtain⟨id,lm,c,rfl,_⟩:=ka
 have hb:bz P .eql t (.map (some id)) (.map none)=some (.bool false):=by
  unfold bz;simp only[hg,ah,fU,hu,ay]
 refine .v hop hdst (bH hF (cI hst hw)) rfl hd (by rw[xN,ha',hyv,ap,ap,hb];rfl) ?_;exact hk ρ0 h0 _ ⟨rfl,rfl,θ,ρ,hR,hF.put (df hd) (by rw[VS])⟩
def aB.ta{all:List Oper}{o:Oper}{l:List Oper}{K:cM->Prop}{d tt xt:Nat}{x:Operand}{v:SV}{kt et:TypeId}(hst:cN all n [o]=true)(hop:o.op=.typeAssert x xt tt false)(hdst:o.dst=some d)(hw:bB all f o.guard=some true)
 (hx:cT f x=some (.iface tt v)) (hu:P.underlying tt=some (.map kt et)) (hk:aB P ro all l ⟨(d,v)::f,n,S,ds⟩ K):aB P ro all (o::l) ⟨f,n,S,ds⟩ K:=by
 rintro ρ0 h0 ⟨af,n',h,ds'⟩ ⟨rfl,rfl,θ,ρ,hR,hF⟩;obtain⟨hd,_⟩:=cU hst;rw[hdst] at hd;obtain⟨a,ha,ka⟩:=aQ hF hx;have ha':ev (cg af n') x=some a:=ha;rw[VS] at ka;obtain⟨y,rfl,ky⟩:=ka
 have hrun:cJ P (cg af n') h (.typeAssert x xt tt false)=some [(some y,h)]:=by
  simp only[cJ,hu,ha',Nat.beq_refl,ab,ah];rfl
 refine .v hop hdst (bH hF (cI hst hw)) rfl hd hrun ?_;exact hk ρ0 h0 _ ⟨rfl,rfl,θ,ρ,hR,hF.put (df hd) ky⟩
end
def SC.clone{P:Program}{g:FuncId}(hx:qh P g .clone)(t:TypeId)(ks:List AV)(vs:List SV)(hg:bm vs=true):SC P g [.iface t (.im ks vs)] [] [] (λr S'=>r=.iface t (.map 0)/\S'=[.map ks vs none]):=by
 intro E θ ρ h avs hE hR hA;rw[az] at hA;obtain⟨a,r,rfl,h1,h2⟩:=hA;rw[aI] at h2;subst h2;rw[VS] at h1;obtain⟨y,rfl,h1⟩:=h1;rw[VS,GS] at h1;obtain⟨id,l,c,rfl,k1,k2,k3⟩:=h1
 have hm:h.mapOf id=some (l,c):=by
  have:=(hR.row id _ k1).2.1;rw[hE] at this;unfold H.mapOf;rw[show h.aD.get id=some (.map l c) from this]
 have hid:id<h.next:=by
  have:=(hR.row id _ k1).1;rw[hE] at this;exact this
 have key:h.low<=h.next->cx P (.func g) [.iface t (.map (some id))] h (λv h'=>∃r S' θ' ρ' h1,(r=SV.iface t (.map 0)/\S'=[SO.map ks vs none])/\h'={ h1 with low:=dF h.low h1.low }/\RS θ' ρ ρ' E h1 S'/\VS θ' ρ' r v/\([]:List SO).length<=S'.length/\∀i,i<([]:List SO).length->i∉([]:List Nat)->(θ' i).id=(θ i).id):=by
  intro hlow;refine(cx.ET hx (a:=.iface t (.map (some h.next))) (h':={ h.lay h.next (.map l c) with next:=h.next+1 }) (by unfold xA;simp only[hm,ay])).mono ?_;rintro a' h'' ⟨rfl,rfl⟩
  have hn:=hR.B0 (so:=.map ks vs none) (ob:=.map l c) ⟨l,c,bC _ _ _,k2,by
   show bK _ _ (vs.map (aH _)) _
   rw[aV hg];exact k3.vs⟩
  have e:dG [] (SO.map ks vs none)=[SO.map ks vs none]:=by
   show[SO.map ks (vs.map (aH 0)) none]=_;rw[aV hg]
  rw[hE,e] at hn;refine⟨_,_,_,ρ,_,⟨rfl,rfl⟩,?_,hn,?_,bw _,λi hi=>t7 hi (ca _)⟩
  ·show _=_;simp only[H.lay];rw[jW hlow]
  ·rw[VS];exact⟨_,rfl,by rw[VS];rfl⟩
 intro σ w args' hv hr;exact key hr.qo σ w args' hv hr
end
end Go.Ev
namespace Go.Proofs
open Go.Ev
set_option maxRecDepth 100000
def sZ(L:List (List Nat×Int)):SC prog 60 [kc AV.str aa L] [] [] (λr S'=>r=.map 0/\S'=[aR AV.str aa L]):=by
 refine Ap 9 Tryz.func60 ?_;have hcl:=SC.clone (P:=prog) wV 88 (L.map λe=>.str e.1) (L.map λe=>aa e.2) (eo (uv:=aa) (λ_=>rfl) L)
 refine(fe) ?_;refine aB.Fv (by rfl) rfl rfl (by rfl) rfl rfl (by simp only[an]) (by kernel_rfl) ?_;refine(zR)<|(DA) ?_;refine aB.fg (st':=⟨[(6,.iface 88 (kc AV.str aa L))],9,[],[]⟩) zH ?_
 have hrg:∀r:Nat->Nat,fV r (L.map λe=>aa e.2)=L.map λe=>aa e.2:=λr=>aK (eo (uv:=aa) (λ_=>rfl) L);have hbg:∀B:Nat,dA B (L.map λe=>aa e.2)=true:=λB=>aP (eo (uv:=aa) (λ_=>rfl) L)
 refine zS [] (n2 hrg hbg) hcl ?_;refine aB.ta (v:=.map 0) (kt:=9) (et:=3) (by rfl) rfl rfl (by rfl) rfl (by kernel_rfl) ?_;refine(zR)<|(zE) ?_;exact zP [.tmp 2]
def minE(b:List (List Nat×Int))(e:List Nat×Int):List Nat×Int:=(e.1,minI e.2 (getM 0 e.1 b))
def minB(out b:List (List Nat×Int)):List (List Nat×Int):=out.map (minE b)
def leastN:List (List (List Nat×Int))->List (List Nat×Int)
 | []=>[]
 | b::bs=>bs.foldl minB b
def minP(out b:List (List Nat×Int))(pos:List Nat):List (List Nat×Int):=out.mapIdx λj e=>if j∈pos then minE b e else e
def minP_len(out b:List (List Nat×Int))(pos:List Nat):(minP out b pos).length=out.length:=List.length_mapIdx
def minP_get(out b:List (List Nat×Int))(pos:List Nat)(j:Nat):(minP out b pos)[j]?=(out[j]?).map λe=>if j∈pos then minE b e else e:=by
 unfold minP;rw[List.getElem?_mapIdx]
def minP_nil(out b:List (List Nat×Int)):minP out b []=out:=by
 apply cs;intro j;rw[minP_get];cases out[j]?<;>simp
def minP_all{out b:List (List Nat×Int)}{pos:List Nat}(h:∀j,j<out.length->j∈pos):minP out b pos=minB out b:=by
 apply cs;intro j;rw[minP_get];unfold minB;rw[bv]
 cases hj:out[j]? with
 | none=>rfl
 | some e=>simp[h j (aE hj)]
def minP_snoc{out b:List (List Nat×Int)}{pos:List Nat}{j:Nat}{e:List Nat×Int}(he:out[j]?=some e):minP out b (pos++[j])=(minP out b pos).set j (minE b e):=by
 apply cs;intro i;rw[minP_get];by_cases hij:j=i
 ·subst hij;rw[List.getElem?_set_self (by rw[minP_len];exact aE he),he];simp
 ·rw[List.getElem?_set_ne hij,minP_get]
  have hm:i∈pos++[j]↔i∈pos:=by simp[Ne.symm hij]
  simp only[hm]
def minP_keys(out b:List (List Nat×Int))(pos:List Nat):(minP out b pos).map (·.1)=out.map (·.1):=by
 apply cs;intro j;rw[bv,minP_get,bv]
 cases out[j]? with
 | none=>rfl
 | some e=>
  show some (if j∈pos then minE b e else e).1=some e.1;split<;>rfl
def minB_keys(out b:List (List Nat×Int)):(minB out b).map (·.1)=out.map (·.1):=by
 unfold minB;rw[List.map_map];rfl
def encBill(b:List (List Nat×Int)):List SV:=[kc AV.str aa b]
def mapI(r:List (List Nat×Int))(bs:List Nat)(c:Nat):SO:=.map (r.map λe=>.str e.1) (r.map λe=>aa e.2) (some (bs,c))
def kill_mapI(o:Nat)(r:List (List Nat×Int))(bs:List Nat)(c:Nat):killO o (mapI r bs c)=mapI r bs c:=by
 unfold mapI;rw[killO]
 congr 1
 exact aV (eo (uv:=aa) (λ_=>rfl) r)
def wq{S:List SO}{o:Nat}{l:List (List Nat×Int)}{bs:List Nat}{c:Nat}(s:List Nat)(ok:Bool)(hS:S[o]?=some (mapI l bs c)):lookupS prog S 88 (.map o) (.a (.str s)) ok=some (cond ok (.aO [aa (getM 0 s l),ao (bl s l)]) (aa (getM 0 s l))):=
 pq (kv:=AV.str) (uv:=aa) (u0:=0) (k:=s) (kt:=9) (et:=3) (z:=.int .i64 0) (by simp only[an]) c7 (by simp only[an]) rfl (by simp only[entS,hS,mapI]) rfl ok
def yA{S:List SO}{o:Nat}{l:List (List Nat×Int)}{bs:List Nat}{c:Nat}(s:List Nat)(u:Int)(hS:S[o]?=some (mapI l bs c))(hh:bl s l=true):cZ prog S 88 (.map o) (.a (.str s)) (aa u)=some (S.set o (mapI (bG s u l) bs c)):=by
 have hm:bP prog 88=some (9,3):=by simp only[an]
 have hk:=c7;unfold cZ;rw[hm,ap];simp only;rw[show bx (.a (.str s))=some (.str s) from rfl,ap,hk.ck,ab,hS];simp only[mapI];rw[iy hk,ap]
 cases hp:kJ s l 0 with
 | none=>
  have hn:=gn hp;rw[hn] at hh;cases hh
 | some i=>
  obtain⟨_,u',h2,_,h4,_⟩:=fC hp;rw[er] at h2;have h4:=h4 u;rw[er] at h4;simp only[bv,h2,ay,ap,hk.st,ab,h4,List.map_set]
def at_laws{l:List (List Nat×Int)}{j:Nat}{e:List Nat×Int}(hn:(l.map (·.1)).Nodup)(he:l[j]?=some e):getM 0 e.1 l=e.2/\(∀v,bG e.1 v l=l.set j (e.1,v))/\bl e.1 l=true:=by
 cases hp:kJ e.1 l 0 with
 | none=>
  have h1:=gn hp;simp only[bl,List.any_eq_false,wp] at h1;exact t7 rfl (h1 e (ad he))
 | some i=>
  obtain⟨_,u,h2,h3,h4,h5⟩:=fC hp;rw[er] at h2 h4
  have hij:i=j:=by
   refine(List.getElem?_inj (l:=l.map (·.1)) (by rw[bk];exact aE h2) hn).1 ?_;simp only[bv,h2,he,ay]
  subst hij;rw[he] at h2;have hu:e.2=u:=congrArg Prod.snd (Option.some.inj h2);exact⟨by rw[hu];exact h3 0,h4,h5⟩
def fold_keys:∀(bs:List (List (List Nat×Int))) (o:List (List Nat×Int)),(bs.foldl minB o).map (·.1)=o.map (·.1)
 | [],o=>rfl
 | b::bs,o=>by rw[eb,fold_keys bs,minB_keys]
def wj(b0:List (List Nat×Int))(bs:List (List (List Nat×Int)))(hlen:bs.length<=100000)(hnd:(b0.map (·.1)).Nodup):PC prog 27 [slS 1 (b0::bs) encBill] (·=kc AV.str aa (leastN (b0::bs))):=by
 refine pB 35 Tryz.func27 ?_;have h0:0<(b0::bs).length:=ey _;have hat:=au (e:=1) (enc:=encBill) (λ_=>rfl) (show(b0::bs)[0]?=some b0 from rfl);rw[d8] at hat
 refine(zV)<|(e8 (n4 h0 hat @d8 @encBill.eq_1)) ?_
 have hrg:∀(r:Nat->Nat) (L:List (List Nat×Int)),fV r (L.map λe=>aa e.2)=L.map λe=>aa e.2:=λr L=>aK (eo (uv:=aa) (λ_=>rfl) L);have hbg:∀(B:Nat) (L:List (List Nat×Int)),dA B (L.map λe=>aa e.2)=true:=λB L=>aP (eo (uv:=aa) (λ_=>rfl) L);refine zS [] (n3 @aR.eq_1 hrg hbg) (sZ b0) ?_;refine(zR) ?_;have hn1:1<=(b0::bs).length:=h0;refine(aq (n2 hn1 @b4)) ?_;have hfa:=flat_all (enc:=encBill) (e:=1) (λ_=>rfl) bs;rw[b4] at hfa
 have e12:SV.sl ((b0::bs).length-1) 1 (List.take ((b0::bs).length-1) (List.drop 1 ((b0::bs).flatMap encBill)))=.sl bs.length 1 (bs.flatMap encBill):=by
  show SV.sl bs.length 1 (List.take bs.length (bs.flatMap encBill))=_;rw[hfa]
 refine ak.fg (st':=⟨[(3,.map 0),(12,slS 1 bs encBill),(13,aa bs.length),(14,aa 0)],35,[aR AV.str aa b0],[]⟩) (bg (n2 @aR.eq_1 e12)) ?_
 have hlen6:bs.length<=1000000:=by omega
 refine(zs) ?_;refine zL bs (λk=>True) (λk=>[(3,.map 0),(12,slS 1 bs encBill),(13,aa bs.length),(14,aa k)]) (λk=>[aR AV.str aa ((bs.take k).foldl minB b0)]) (bg (n3 @aR.eq_1 @take_zero.{0} @foldl_nil.{0,0})) zp ?_;intro k hk hall;refine zT bs k ?_ ?_;rintro rfl;rotate_left;intro b hx hlt;rotate_left
 ·refine(cV) ?_;rw[ax]
  exact(zV)<|zo [.tmp 2] (r:=kc AV.str aa (bs.foldl minB b0)) (hw:=mw (λ_=>rfl) rfl)
 have hst:(bs.take (k+1)).foldl minB b0=minB ((bs.take k).foldl minB b0) b:=by rw[takeN_snoc hx,ct];rfl
 have hok:(((bs.take k).foldl minB b0).map (·.1)).Nodup:=by rw[fold_keys];exact hnd
 generalize (bs.take k).foldl minB b0=o at hst hok
 refine(dI)<|(aq (n3 hlt (au (e:=1) (enc:=encBill) (λ_=>rfl) hx) @encBill.eq_1))<|(zC) ?_;refine aB.FJ (oo:=0) (ks:=o.map λe=>.str e.1) (vs:=o.map λe=>aa e.2) (b:=none) (by rfl) rfl rfl (by rfl) rfl rfl (by simp only[an]) ?_
 intro bb c hbb;rw[bk] at hbb;change aB _ _ _ _ ⟨_,_,dG [mapI o bb c] _,_⟩ _;refine(bE @kill_mapI) ?_
 (repeat refine ak.seq ?_)
 refine ak.block (ak.loop (λm st=>∃pos:List Nat,pos.Nodup/\(∀j∈pos,j<o.length)/\o.length-pos.length=m/\st=⟨[(3,.map 0),(5,kc AV.str aa b),(12,slS 1 bs encBill),(13,aa bs.length),(14,aa k),(19,.ptr 1 0)],35,[mapI (minP o b pos) bb c,.iter (.map 0) bb c pos],[]⟩) o.length (bg @minP_nil) ⟨[],fs,λj hj=>by simp at hj,rfl,rfl⟩ (by rintro m st ⟨pos,_,_,_,rfl⟩;rfl) ?_);rintro m st ⟨pos,hpn,hpl,rfl,rfl⟩;refine(zC) ?_;refine aB.FH (ks:=(minP o b pos).map λe=>.str e.1) (vs:=(minP o b pos).map λe=>aa e.2) (by rfl) rfl rfl (by rfl) rfl rfl rfl (λj hj=>by rw[bk,minP_len];exact hpl j hj) ?_ ?_
 ·intro hal
  refine(zR)<|(cV) ?_
  have hmin:minP o b pos=minB o b:=minP_all λj hj=>hal j (by rw[bk,minP_len];exact hj);rw[hmin];refine ak.fg (Fg.trans (Fg.CG (S:=[mapI (minB o b) bb c,.iter (.map 0) bb c pos]) (ks:=(minB o b).map λe=>.str e.1) (vs:=(minB o b).map λe=>aa e.2) (b:=some (bb,c)) 0 rfl) (b:=_) (c:=⟨[(3,.map 0),(12,slS 1 bs encBill),(13,aa bs.length),(14,aa k)],35,[aR AV.str aa (minB o b)],[]⟩) (bg @aR.eq_1)) ?_
  (try change ak _ _ _ _ _)
  refine(aq (zi hlt hlen6)) ?_;refine zX hlt (bg hst) trivial
 ·intro j hj hjn;rw[bk,minP_len] at hj;obtain⟨e,he⟩:∃e,o[j]?=some e:=⟨o[j],ac hj⟩;obtain⟨q1,q2,q3⟩:=lL hpn hpl hj hjn
  have hme:(minP o b pos)[j]?=some e:=by rw[minP_get,he];simp[hjn]
  obtain⟨l1,l2,l3⟩:=at_laws (by rw[minP_keys];exact hok) hme
  have hsn:minP o b (pos++[j])=bG e.1 (minI e.2 (getM 0 e.1 b)) (minP o b pos):=by rw[minP_snoc he,l2];rfl
  refine(zR)<|(dI)<|(zC) ?_;refine aB.FE (ks:=(minP o b pos).map λe=>.str e.1) (vs:=(minP o b pos).map λe=>aa e.2) (k:=.str e.1) (v:=aa e.2) (by rfl) rfl rfl (by rfl) rfl rfl rfl (by rw[bv,hme];rfl) (by rw[bv,hme];rfl) ?_;refine(zR) ?_
  have hlk:=wq (S:=[mapI (minP o b pos) bb c,.iter (.map 0) bb c (pos++[j])]) (o:=0) e.1 false rfl;have hpt:=yA (S:=[mapI (minP o b pos) bb c,.iter (.map 0) bb c (pos++[j])]) (o:=0) e.1 (minI e.2 (getM 0 e.1 b)) rfl l3;rw[l1] at hlk;refine(zs) ?_;refine ak.r0 (by rfl) (by simp only[bf,aN,slS,an,ap,ay,↓reduceIte,aj,aX,bc,al,bd,ab,ah,isSub,hlk,dR (l:=b),min_int,hpt];first | done | rfl) ?_;exact⟨o.length-(pos++[j]).length,_,by rw[be];simp only[ba,length_nil];omega,(bg hsn),pos++[j],q1,q2,rfl,rfl⟩
def ofSh(ss:List Sh)(party:List Nat):Int:=match ss.find? λs=>decide (s.pt=party) with
 | some s=>s.am
 | none=>0
def ListOk.of{ml:List (List Nat×Int)}{ss:List Sh}(h:ListOk ml ss)(k:List Nat):ofSh ss k=if 0<getM 0 k ml then getM 0 k ml else 0:=by
 obtain⟨ks,hp,_,rfl⟩:=h.ex;unfold ofSh
 cases hf:(shL ml ks).find? (λs=>decide (s.pt=k)) with
 | some s=>
  have h1:=e6 hf;have h2:=b5 hf;unfold shL at h2;obtain⟨k',hk',rfl⟩:=mem_map.1 h2;obtain⟨_,hpos⟩:=mem_filter.1 hk'
  have:k'=k:=by simpa using h1
  subst this;rw[t8 (by simpa using hpos)]
 | none=>
  rw[cl] at hf;by_cases hpos:0<getM 0 k ml
  ·have hh:bl k ml=true:=by
    cases hh:bl k ml
    ·rw[lB (u0:=(0:Int)) hh] at hpos;exact t7 hpos (by decide)
    ·rfl
   have hk:k∈ks:=hp.mem_iff.2 (hasM_mem.1 hh);have:=hf ⟨k,getM 0 k ml⟩ (mem_map.2 ⟨k,mem_filter.2 ⟨hk,by simpa using hpos⟩,rfl⟩);simp at this
  ·rw[ul hpos]
def ListOk.lts{ml:List (List Nat×Int)}{ss:List Sh}(hn:(ml.map (·.1)).Nodup)(h:ListOk ml ss):ss.Pairwise λa b=>db a.pt b.pt=true:=by
 obtain⟨ks,hp,hs,rfl⟩:=h.ex;have hkn:ks.Nodup:=hp.nodup_iff.2 hn
 have hst:ks.Pairwise λa b=>db a b=true:=by
  have:=List.Pairwise.and hs hkn;refine this.imp λ{a b} ⟨h1,h2⟩=>?_
  rcases fF a b with h | h | h
  ·exact h
  ·exact t7 h h2
  ·rw[h1] at h;cases h
 unfold shL;rw[List.pairwise_map];exact hst.sublist List.filter_sublist
def ListOk.mem{ml:List (List Nat×Int)}{ss:List Sh}(h:ListOk ml ss)(s:Sh):s∈ss↔s.pt∈ml.map (·.1)/\0<getM 0 s.pt ml/\s.am=getM 0 s.pt ml:=by
 obtain⟨ks,hp,_,rfl⟩:=h.ex;unfold shL;rw[mem_map];constructor
 ·rintro⟨k,hk,rfl⟩;obtain⟨h1,h2⟩:=mem_filter.1 hk;exact⟨hp.mem_iff.1 h1,by simpa using h2,rfl⟩
 ·rintro⟨h1,h2,h3⟩;exact⟨s.pt,mem_filter.2 ⟨hp.mem_iff.2 h1,by simpa using h2⟩,by cases s;simp only at h3 ⊢;rw[h3]⟩
def ListOk.one{k:List Nat}{n:Int}{ss:List Sh}(h0:0<=n)(h:ListOk [(k,n)] ss):(ss.map Sh.am).sum=n/\ss.length<=2/\ofSh ss k=n:=by
 obtain⟨ks,hp,_,rfl⟩:=h.ex;have hks:ks=[k]:=List.perm_singleton.1 hp;subst hks
 have hg:getM (0:Int) k [(k,n)]=n:=by simp[getM]
 refine⟨?_,?_,?_⟩
 ·unfold shL;by_cases hpos:0<n
  ·simp[hg,hpos]
  ·simp[hg,hpos];omega
 ·exact ci (shL_len _ _) (by simp)
 ·rw[h.of,hg];split<;>omega
def ListOk.two{k l:List Nat}{n m:Int}{ss:List Sh}(hne:k≠l)(h0:0<=n)(h1:0<=m)(h:ListOk [(k,n),(l,m)] ss):(ss.map Sh.am).sum=n+m/\ss.length<=2/\ofSh ss l=m:=by
 have hgk:getM (0:Int) k [(k,n),(l,m)]=n:=by simp[getM]
 have hgl:getM (0:Int) l [(k,n),(l,m)]=m:=by simp[getM,Ne.symm hne]
 have hof:=h.of l;obtain⟨ks,hp,_,rfl⟩:=h.ex;have hp:ks.Perm [k,l]:=hp;have hlen:ks.length=2:=hp.length_eq;refine⟨?_,?_,?_⟩
 ·have hcase:ks=[k,l]\/ks=[l,k]:=by
   match ks,hlen with
   | [a,b],_=>
    have ha:a∈[k,l]:=hp.mem_iff.1 (by simp);have hb:b∈[k,l]:=hp.mem_iff.1 (by simp);have hnd:[a,b].Nodup:=hp.nodup_iff.2 (by simp[hne]);simp only[mem_cons,bW,or_false] at ha hb;simp only[List.nodup_cons,mem_singleton] at hnd
    rcases ha with rfl | rfl<;>rcases hb with rfl | rfl
    ·exact t7 rfl hnd.1
    ·exact .inl rfl
    ·exact .inr rfl
    ·exact t7 rfl hnd.1
  rcases hcase with rfl | rfl<;>unfold shL<;>by_cases p1:0<n<;>by_cases p2:0<m<;>simp[hgk,hgl,p1,p2]<;>omega
 ·exact ci (shL_len _ _) (by omega)
 ·rw[hof,hgl];split<;>omega
def right_parts{ws:List Wy}{c:Co}(h:rightB ws c=true):(∀w∈ws,w.ok=true)/\c.ok=true:=by
 unfold rightB at h;rw[a0,all_eq_true] at h;exact h
def am_ok{c:Co}(h:c.ok=true):0<=c.am/\c.am<=1000000000000:=by
 unfold Co.ok isAm at h;simp only[a0,wp] at h;omega
def bill_form{ws:List Wy}{p:Pt}{c:Co}(hr:rightB ws c=true):
 (billOf ws (some p) c=[(c.owner,c.am)]/\(ws.find? (coversB p c)=none\/∃w,ws.find? (coversB p c)=some w/\w.maker=c.owner))\/
 ∃w,ws.find? (coversB p c)=some w/\w.maker≠c.owner/\billOf ws (some p) c=[(c.owner,c.am-pctN c.am w.pct),(w.maker,pctN c.am w.pct)]/\0<=pctN c.am w.pct/\pctN c.am w.pct<=c.am:=by
 obtain⟨hws,hc⟩:=right_parts hr
 cases hf:ws.find? (coversB p c) with
 | none=>exact .inl ⟨by simp only[billOf,hf],.inl rfl⟩
 | some w=>
  obtain⟨_,hamr,hpr⟩:=pct_of_ok (hws w (b5 hf)) hc;obtain⟨hn0,hn1⟩:=pct_bnd hamr hpr;by_cases hm:w.maker=c.owner
  ·refine .inl ⟨?_,.inr ⟨w,rfl,hm⟩⟩;simp only[billOf,hf,hm,bG,getM,if_true]
   have:c.am-pctN c.am w.pct+pctN c.am w.pct=c.am:=by omega
   rw[this]
  ·refine .inr ⟨w,rfl,hm,?_,hn0,hn1⟩;simp[billOf,hf,bG,getM,hm]
abbrev LkM:=List (List Nat×Nat)
def jG{S:List SO}{o:Nat}{l:LkM}(s:List Nat)(ok:Bool)(hS:S[o]?=some (aR AV.str natV l)):lookupS prog S 87 (.map o) (.a (.str s)) ok=some (cond ok (.aO [natV (getM 0 s l),ao (bl s l)]) (natV (getM 0 s l))):=
 rG (uv:=natV) (u0:=0) (k:=s) (kt:=9) (et:=3) (z:=.int .i64 0) (by simp only[an]) c7 (by simp only[an]) rfl hS rfl ok
def yC{S:List SO}{o:Nat}{l:LkM}(s:List Nat)(u:Nat)(hS:S[o]?=some (aR AV.str natV l)):cZ prog S 87 (.map o) (.a (.str s)) (.a (.int .i64 (u:Int)))=some (S.set o (aR AV.str natV (bG s u l))):=
 vB (uv:=natV) (kt:=9) (et:=3) (by simp only[an]) c7 hS rfl u
def kill_NN{n:Nat}{l:LkM}:killO n (aR AV.str natV l)=aR AV.str natV l:=gl λ_=>fG _
def linkP(i:Nat)(st:List Nat×LkM)(part:List Nat):List Nat×LkM:=
 if bl part st.2=true then (joinN st.1 (getM 0 part st.2) i,st.2) else (st.1,bG part i st.2)
def linkR(st:List Nat×LkM)(r:RepM):List Nat×LkM:=(namesR r).foldl (linkP st.1.length) (st.1++[st.1.length],st.2)
def linkedN(l:List RepM):List Nat×LkM:=l.foldl linkR ([],[])
structure LkOk (n:Nat) (st:List Nat×LkM):Prop where
 f:Forest st.1
 l:st.1.length=n
 m:∀part,bl part st.2=true->getM 0 part st.2<n
def LkOk.part{n i:Nat}{st:List Nat×LkM}(h:LkOk n st)(hi:i<n)(part:List Nat):LkOk n (linkP i st part):=by
 unfold linkP;split
 ·rename_i hh;obtain⟨a,b⟩:=join_ok h.f (i:=getM 0 part st.2) (k:=i) (by rw[h.l];exact h.m part hh) (by rw[h.l];exact hi);exact⟨a,b.trans h.l,h.m⟩
 ·refine⟨h.f,h.l,λq hq=>?_⟩;rw[cz];rw[iA] at hq;split
  ·exact hi
  ·rename_i hne;refine h.m q ?_;simpa [hne] using hq
def LkOk.parts{n i:Nat}(hi:i<n):∀(ps:List (List Nat)) {st:List Nat×LkM},LkOk n st->LkOk n (ps.foldl (linkP i) st)
 | [],_,h=>h
 | p::ps,_,h=>LkOk.parts hi ps (h.part hi p)
def LkOk.new{n:Nat}{st:List Nat×LkM}(h:LkOk n st):LkOk (n+1) (st.1++[st.1.length],st.2):=by
 refine⟨?_,by simp[h.l],λq hq=>Nat.lt_succ_of_lt (h.m q hq)⟩;intro j x hx;rw[List.getElem?_append] at hx;split at hx
 ·exact h.f j x hx
 ·rename_i hj
  cases hjj:j-st.1.length with
  | zero=>rw[hjj] at hx;simp at hx;omega
  | succ q=>rw[hjj] at hx;simp at hx
def LkOk.rep{n:Nat}{st:List Nat×LkM}(h:LkOk n st)(r:RepM):LkOk (n+1) (linkR st r):=by
 unfold linkR;exact LkOk.parts (by rw[h.l];omega) _ h.new
def LkOk.reps:∀(l:List RepM) {n:Nat} {st:List Nat×LkM},LkOk n st->LkOk (n+l.length) (l.foldl linkR st)
 | [],_,_,h=>h
 | r::l,n,st,h=>by
  have:=LkOk.reps l (h.rep r);rw[ba,show n+(l.length+1)=n+1+l.length by omega];exact this
def linked_ok(l:List RepM):LkOk l.length (linkedN l):=by
 have:=LkOk.reps l (n:=0) (st:=([],[])) ⟨λj x hx=>by simp at hx,rfl,λq hq=>by simp[bl] at hq⟩
 rwa [f0] at this
def compN_len(l:List (List Nat)):(compN l).length<=l.length:=by
 have:∀n (l:List (List Nat)),l.length=n->(compN l).length<=l.length:=by
  intro n
  induction n with
  | zero=>intro l h;rw[length_eq_zero_iff.1 h];exact aS _
  | succ n ih=>
   intro l h
   rcases List.eq_nil_or_concat l with rfl | ⟨a,x,rfl⟩
   ·exact aS _
   ·have ha:a.length=n:=by simpa using h
    have:=ih a ha;rw[List.concat_eq_append,compN_snoc];split<;>simp<;>omega
 exact this _ l rfl
def namesR_len(r:RepM):(namesR r).length<=2*r.opts.length:=by
 unfold namesR setN;split
 ·simp
 ·have h1:=compN_len (sortN (r.opts.map namesEv).flatten);have h2:(sortN (r.opts.map namesEv).flatten).length=(r.opts.map namesEv).flatten.length:=(sortP _).length_eq;have h3:=flat_le 0 r.opts;omega
def lkS(st:List Nat×LkM):List SO:=aR AV.str natV st.2::(if st.1=[] then [] else [.gone,.cells (st.1.flatMap (one1 natV))])
def lkS_nil(m:LkM):lkS ([],m)=[aR AV.str natV m]:=rfl
def lkS_p{f:List Nat}{m:LkM}(h:¬f=[]):lkS (f,m)=[aR AV.str natV m,.gone,.cells (f.flatMap (one1 natV))]:=by unfold lkS;rw[ul h]
def wm(l:List RepM)(hl:∀r∈l,RepOk r)(hl2:∀r∈l,r.opts.length<=400000)(hlen:l.length<=1000000):
 SC prog 52 [slS 2 l encRep] [] [] (λr S'=>r=.aO [nbuf 2 1 l.length,.map 0]/\S'=lkS (linkedN l)):=by
 refine Ap 49 Tryz.func52 ?_;refine(gi)<|(gi)<|(zs) ?_;refine zL l (λk=>True) (λk=>[(0,slS 2 l encRep),(4,nbuf 2 1 k),(5,.map 0),(13,aa l.length),(14,aa k)]) (λk=>lkS (linkedN (l.take k))) (bg (n7 @take_zero.{0} @nbuf_0 @linkedN.eq_1 @foldl_nil.{0,0} @lkS_nil @aR.eq_1 @map_nil.{0,0})) zp ?_;intro k hk hall;refine zT l k ?_ ?_;rintro rfl;rotate_left;intro r hx hlt;rotate_left
 ·refine(cV) ?_;rw[ax];have hok:=linked_ok l;obtain⟨f,m,hfm⟩:∃f m,linkedN l=(f,m):=⟨_,_,rfl⟩;rw[hfm] at hok ⊢;by_cases h0:f=[]
  ·have h1:l.length=0:=by rw[<-hok.l,h0];rfl
   rw[h0,lkS_nil,show nbuf 2 1 l.length=nilS by rw[h1];rfl]
   refine(zV)<|(zE) ?_;exact zP [.tmp 2,.tmp 3]
  ·have h1:¬l.length=0:=by rw[<-hok.l];exact λh=>h0 (length_eq_zero_iff.1 h)
   rw[lkS_p h0,nbuf_p h1]
   refine(zV)<|(zE) ?_;exact zP [.tmp 2,.tmp 3]
 have hrk:RepOk r:=hl r (ad hx);have hr2:=hl2 r (ad hx)
 have hok:LkOk k (linkedN (l.take k)):=by
  have:=linked_ok (l.take k);rwa [b9,Nat.min_eq_left hk] at this
 have hnext:linkedN (l.take (k+1))=linkR (linkedN (l.take k)) r:=by
  unfold linkedN;rw[takeN_snoc hx,ct];rfl
 obtain⟨f,mm,hfm⟩:∃f mm,linkedN (l.take k)=(f,mm):=⟨_,_,rfl⟩;rw[hfm] at hok hnext ⊢;have hfl:f.length=k:=hok.l;refine(dI) ?_;have happ:=app_cells (enc:=one1 natV) (e:=1) (λ_=>rfl) (λ_=>rfl) 2 f k;rw[hfl,show one1 natV k=[natV k] from rfl,b4] at happ
 have hcl:(f.flatMap (one1 natV)).length=k:=by rw[one_len,hfl]
 refine(zV) ?_
 (repeat refine ak.seq ?_)
 refine ak.mono (Q:=λe st=>e=.normal/\Fg st ⟨[(0,slS 2 l encRep),(4,.buf 2 (k+1) 1 none),(5,.map 0),(6,natV k),(13,aa l.length),(14,aa k)],49,[aR AV.str natV mm,.gone,.cells ((f++[k]).flatMap (one1 natV))],[]⟩) ?_ ?_
 ·by_cases h0:f=[]
  ·have hk0:k=0:=by rw[<-hfl,h0];rfl
   rw[h0,lkS_nil,show nbuf 2 1 k=nilS by rw[hk0];rfl];refine(aq @kill_NN) ?_;refine⟨rfl,(bg (n6 h0 @nil_append.{0} @List.flatMap_cons.{0,0} @List.flatMap_nil.{0,0} @one1.eq_1 hk0))⟩
  ·have h1:¬k=0:=λh=>h0 (length_eq_zero_iff.1 (by rw[hfl,h]));rw[lkS_p h0,nbuf_p h1];refine(aq (n7 @kill_NN @kill_nat hcl happ @b4 @aS (show k<=1000000 by omega))) ?_;refine⟨rfl,zH⟩
 rintro e st ⟨rfl,hfg⟩;refine ak.fg hfg ?_;clear hfg
 (try change ak _ _ _ _ _)
 refine(e8 (n3 hlt (au (e:=2) (enc:=encRep) (λ_=>rfl) hx) @encRep.eq_1))<|(zK (yu r hrk hr2) (hfl:=.inr (aM.refl rfl))) ?_
 have hst0:LkOk (k+1) (f++[k],mm):=by
  have:=hok.new;rw[hfl] at this;exact this
 have hnext2:linkedN (l.take (k+1))=(namesR r).foldl (linkP k) (f++[k],mm):=by
  rw[hnext,linkR];simp only;rw[hfl]
 have hns:=namesR_len r;generalize namesR r=ns at hnext2 hns
 have hnsl:ns.length<=1000000:=by omega
 refine(zR) ?_;have hinv:∀j,LkOk (k+1) ((ns.take j).foldl (linkP k) (f++[k],mm)):=λj=>LkOk.parts (by omega) _ hst0;refine(zs) ?_;refine zL ns (λk2=>True) (λk2=>[(0,slS 2 l encRep),(4,.buf 2 (k+1) 1 none),(5,.map 0),(6,natV k),(13,aa l.length),(14,aa k),(25,slS 1 ns (one1 ae)),(26,aa ns.length),(27,aa k2)]) (λk2=>[aR AV.str natV ((ns.take k2).foldl (linkP k) (f++[k],mm)).2,.gone,.cells (((ns.take k2).foldl (linkP k) (f++[k],mm)).1.flatMap (one1 natV))]) (bg (n2 @take_zero.{0} @foldl_nil.{0,0})) zp ?_;intro k2 hk2 hall2;refine zT ns k2 ?_ ?_;rintro rfl;rotate_left;intro part hx2 hlt2;rotate_left
 ·refine(cV) ?_;rw[ax,<-hnext2]
  have hok3:LkOk (k+1) (linkedN (l.take (k+1))):=by rw[hnext2];have:=hinv ns.length;rwa [ax] at this
  obtain⟨g,m3,hg⟩:∃g m3,linkedN (l.take (k+1))=(g,m3):=⟨_,_,rfl⟩;rw[hg] at hok3 ⊢
  have hg0:¬g=[]:=λh=>by have:=hok3.l;rw[h] at this;simp at this
  refine(zs) ?_;refine ak.r0 (by rfl) (gf (nL (iW hlt hlen (by decide)))) ?_;refine⟨l.length-(k+1),_,by omega,(Fg.less (by (simp only[bf,aN,cA,↓reduceIte,aj,slS,hg,lkS_p hg0,nbuf_s])<;>(repeat' apply c0)<;>first | rfl | trivial) (by (simp only[bf,aN,or_true,true_or,slS,hg,lkS_p hg0,nbuf_s])<;>(repeat' apply c0)<;>first | exact .inr rfl | exact .inl rfl | trivial)),k+1,by omega,rfl,trivial,rfl⟩
 have hq1:(ns.take (k2+1)).foldl (linkP k) (f++[k],mm)=linkP k ((ns.take k2).foldl (linkP k) (f++[k],mm)) part:=by
  rw[takeN_snoc hx2,ct];rfl
 have hok2:=hinv k2;obtain⟨g,m2,hg⟩:∃g m2,(ns.take k2).foldl (linkP k) (f++[k],mm)=(g,m2):=⟨_,_,rfl⟩;rw[hg] at hok2 hq1 ⊢;have hgl:g.length=k+1:=hok2.l
 refine(dI)<|(aq (n3 hlt2 (au (e:=1) (enc:=one1 ae) (λ_=>rfl) hx2) @one1.eq_1))<|(zs) ?_;refine ak.r0 (by rfl) (by simp only[bf,aN,slS,an,ap,ay,↓reduceIte,aj,aX,bc,al,bd,ab,ah,isSub,jG (l:=m2)];first | done | rfl) ?_;refine(zV) ?_
 cases h1:bl part m2
 ·refine(zN)<|(zs) ?_;refine ak.r0 (by rfl) (by simp only[bf,aN,slS,an,ap,ay,↓reduceIte,aj,aX,bc,al,bd,ab,ah,isSub,yC (l:=m2)];first | done | rfl) ?_
  rw[linkP,ul (by simp only;rw[h1];decide)] at hq1;refine(aq (zi hlt2 hnsl)) ?_;refine zX hlt2 (bg hq1) trivial
 ·refine(zY) ?_;have hp:=hok2.m part h1;have hj:=Bb g (getM 0 part m2) k hok2.f (by rw[hgl];exact hp) (by omega) (by omega);rw[hgl] at hj;refine(zC) ?_;refine zS [2] (n4 @rn_nat @bnd_nat @kill_nat @kill_NN) hj ?_;refine(zR) ?_;rw[linkP,t8 (by simp only;exact h1)] at hq1;refine(aq (zi hlt2 hnsl)) ?_;refine zX hlt2 (bg hq1) trivial
def ofStep(k:Nat)(st:List Nat×List Nat)(i:Nat):List Nat×List Nat:=
 ((rootN (rootN st.1 i).2 k).2,if (rootN st.1 i).1=(rootN (rootN st.1 i).2 k).1 then st.2++[i] else st.2)
def ofAll(k:Nat)(f:List Nat)(n:Nat):List Nat×List Nat:=(ej n).foldl (ofStep k) (f,[])
def linkOf(l:List RepM)(part:List Nat):List Nat:=
 if bl part (linkedN l).2=true then (ofAll (getM 0 part (linkedN l).2) (linkedN l).1 l.length).2 else []
def ofAll_s(k:Nat)(f:List Nat)(n:Nat):ofAll k f (n+1)=ofStep k (ofAll k f n) n:=by
 unfold ofAll;rw[fd,ct];rfl
def ofAll_ok{k:Nat}{f:List Nat}(hf:Forest f)(hk:k<f.length):∀n,n<=f.length->Forest (ofAll k f n).1/\(ofAll k f n).1.length=f.length/\(ofAll k f n).2.length<=n/\∀i∈(ofAll k f n).2,i<n
 | 0,_=>⟨hf,rfl,aS _,λi hi=>by simp[ofAll] at hi⟩
 | n+1,hn=>by
  obtain⟨a1,a2,a3,a4⟩:=ofAll_ok hf hk n (by omega);rw[ofAll_s,ofStep];obtain⟨b1,b2,_⟩:=root_ok (i:=n) a1 (by omega);obtain⟨c1,c2,_⟩:=root_ok (i:=k) b1 (by omega);refine⟨c1,by rw[c2,b2,a2],?_,?_⟩
  ·simp only;split
   ·rw[be,List.length_singleton];omega
   ·omega
  ·intro i hi;simp only at hi;split at hi
   ·rcases List.mem_append.1 hi with h | h
    ·have:=a4 i h;omega
    ·have:=mem_singleton.1 h;omega
   ·have:=a4 i hi;omega
def ofS(m:LkM)(st:List Nat×List Nat):List SO:=aR AV.str natV m::.gone::.cells (st.1.flatMap (one1 natV))::(if st.2=[] then [] else [.gone,.cells (st.2.flatMap (one1 natV))])
def ofS_nil(m:LkM)(f:List Nat):ofS m (f,[])=[aR AV.str natV m,.gone,.cells (f.flatMap (one1 natV))]:=rfl
def ofS_p{m:LkM}{f o:List Nat}(h:¬o=[]):ofS m (f,o)=[aR AV.str natV m,.gone,.cells (f.flatMap (one1 natV)),.gone,.cells (o.flatMap (one1 natV))]:=by unfold ofS;rw[ul h]
def nat_all(l:List Nat):(l.flatMap (one1 natV)).take (l.length*1)=l.flatMap (one1 natV):=flat_all (enc:=one1 natV) (λ_=>rfl) l
def gnd_NN(l:LkM):bm (l.map λe=>natV e.2)=true:=eo (λ_=>rfl) l
def rn_NN{r:Nat->Nat}{l:LkM}:iK r (aR AV.str natV l)=aR AV.str natV l:=by
 unfold aR;rw[vG,aK (gnd_NN l)]
def bnd_NN{B:Nat}{l:LkM}:fK B (aR AV.str natV l)=true:=by
 unfold aR;rw[fK];exact aP (gnd_NN l)
def Bd(l:List RepM)(part:List Nat)(hl:∀r∈l,RepOk r)(hl2:∀r∈l,r.opts.length<=400000)(hlen:l.length<=1000000):
 PC prog 24 [slS 2 l encRep,ae part] (·=slS 1 (linkOf l part) (one1 natV)):=by
 refine pB 42 Tryz.func24 ?_;have hL:=wm l hl hl2 hlen;have hok:=linked_ok l;obtain⟨f,mm,hfm⟩:∃f mm,linkedN l=(f,mm):=⟨_,_,rfl⟩
 have hO:linkOf l part=if bl part mm=true then (ofAll (getM 0 part mm) f l.length).2 else []:=by unfold linkOf;rw[hfm]
 rw[hfm] at hL hok;have hfl:f.length=l.length:=hok.l;refine(fe) ?_;by_cases h0:f=[]
 ·have hk0:l.length=0:=by rw[<-hfl,h0];rfl
  have h1:bl part mm=false:=by
   cases h:bl part mm with
   | false=>rfl
   | true=>
    have:=hok.m part h;omega
  rw[h1] at hO;rw[h0,lkS_nil,show nbuf 2 1 l.length=nilS by rw[hk0];rfl] at hL
  refine zS [] (n3 @rn_NN @bnd_NN @kill_NN) hL ?_;refine(zR)<|(zs) ?_;refine ak.r0 (by rfl) (by simp only[bf,aN,slS,an,ap,ay,↓reduceIte,aj,aX,bc,al,bd,ab,ah,isSub,jG (l:=mm)];first | done | rfl) ?_;exact(aq h1)<|(bq)<|zo [.tmp 4] (r:=.sl 0 1 []) (hw:=Wk.nil _) (hq:=by rw[hO];rfl)
 have hk0:¬l.length=0:=by rw[<-hfl];exact λh=>h0 (length_eq_zero_iff.1 h)
 rw[lkS_p h0,nbuf_p hk0] at hL
 refine zS [] (n6 @rn_NN @bnd_NN @kill_NN @rn_nat @bnd_nat @kill_nat) hL ?_;refine(zR)<|(zs) ?_;refine ak.r0 (by rfl) (by simp only[bf,aN,slS,an,ap,ay,↓reduceIte,aj,aX,bc,al,bd,ab,ah,isSub,jG (l:=mm)];first | done | rfl) ?_
 cases h1:bl part mm
 ·rw[h1] at hO
  exact(aq h1)<|(bq)<|zo [.tmp 4] (r:=.sl 0 1 []) (hw:=Wk.nil _) (hq:=by rw[hO];rfl)
 rw[h1,t8 rfl] at hO;have hkl:=hok.m part h1;generalize hkk:getM 0 part mm=kk at hO hkl;have hf0:Forest f:=hok.f;have hF:=ofAll_ok (k:=kk) hf0 (by rw[hfl];exact hkl)
 refine(aq h1)<|(ee)<|(zV)<|(zs) ?_;refine zL l (λk=>True) (λk=>[(5,.buf 2 l.length 1 none),(7,natV kk),(9,nbuf 4 1 (ofAll kk f k).2.length),(25,aa l.length),(26,aa k)]) (λk=>ofS mm (ofAll kk f k)) (Fg.less (by (simp only[bf,aN,cA,↓reduceIte,aj,slS,hkk,ofAll,fl,foldl_nil,nbuf_0,length_nil,ofS_nil])<;>(repeat' apply c0)<;>first | rfl | trivial) (by (simp only[bf,aN,or_true,true_or,slS,hkk,ofAll,fl,foldl_nil,nbuf_0,length_nil,ofS_nil])<;>(repeat' apply c0)<;>first | exact .inr rfl | exact .inl rfl | trivial)) zp ?_;intro k hk hall;refine zT l k ?_ ?_;rintro rfl;rotate_left;intro r hx hlt;rotate_left
 ·refine(cV) ?_;obtain⟨a1,a2,a3,a4⟩:=hF l.length (by omega);obtain⟨g,o,hg⟩:∃g o,ofAll kk f l.length=(g,o):=⟨_,_,rfl⟩;rw[hg] at hO a3 ⊢;by_cases ho:o=[]
  ·subst ho;rw[ofS_nil,show nbuf 4 1 ([]:List Nat).length=nilS from rfl]
   exact(zV)<|zo [.tmp 4] (r:=.sl 0 1 []) (hw:=Wk.nil _) (hq:=by rw[hO];rfl)
  ·rw[ofS_p ho,nbuf_p (λh=>ho (length_eq_zero_iff.1 h))]
   exact(zV)<|zo [.tmp 4] (r:=slS 1 o (one1 natV)) (hw:=.buf rfl (by rw[nat_all];exact aM.refl (ar (λ_=>rfl) o)) (by rw[one_len,b4];exact aS _)) (hq:=by rw[hO])
 have hstep:=ofAll_s kk f k;obtain⟨a1,a2,a3,a4⟩:=hF k (by omega);obtain⟨g,o,hg⟩:∃g o,ofAll kk f k=(g,o):=⟨_,_,rfl⟩;rw[hg] at a1 a2 a3 hstep ⊢;have hgl:g.length=l.length:=a2.trans hfl;have hr1:=jZ g k a1 (by rw[hgl];exact hlt) (by rw[hgl];exact hlen);have k1:=root_ok (i:=k) a1 (by rw[hgl];exact hlt);rw[ofStep] at hstep;obtain⟨a,g1,hA⟩:∃a g1,rootN g k=(a,g1):=⟨_,_,rfl⟩;simp only[hA] at hr1 k1 hstep;rw[hgl] at hr1;obtain⟨q1,q2,q3⟩:=k1;have hr2:=jZ g1 kk q1 (by rw[q2,hgl];exact hkl) (by rw[q2,hgl];exact hlen);obtain⟨b,g2,hB⟩:∃b g2,rootN g1 kk=(b,g2):=⟨_,_,rfl⟩;simp only[hB] at hr2 hstep;rw[q2,hgl] at hr2
 have hol:o.length<=1000000:=by
  have:o.length<=k:=a3;omega
 refine(dI) ?_;by_cases ho:o=[]
 ·subst ho;rw[ofS_nil,show nbuf 4 1 ([]:List Nat).length=nilS from rfl];refine(fe) ?_;refine zS [2] (n6 @rn_NN @bnd_NN @kill_NN @rn_nat @bnd_nat @kill_nat) hr1 ?_;refine(zQ) ?_;refine zS [2] (n6 @rn_NN @bnd_NN @kill_NN @rn_nat @bnd_nat @kill_nat) hr2 ?_;by_cases hab:a=b
  ·rw[t8 hab] at hstep
   refine(bE (show decide ((a:Int)=(b:Int))=true by simp;omega))<|(zY)<|(aq (n2 @kill_NN @kill_nat))<|(aq (zi hlt hlen)) ?_;refine zX hlt (bg (n5 hkk hstep @nil_append.{0} (show ofS mm (g2,[k])=[aR AV.str natV mm,.gone,.cells (g2.flatMap (one1 natV)),.gone,.cells [natV k]] from rfl) (show nbuf 4 1 [k].length=.buf 4 1 1 none from rfl))) trivial
  ·rw[ul hab] at hstep
   refine(bE (show decide ((a:Int)=(b:Int))=false by simp;omega))<|(zN)<|(aq (zi hlt hlen)) ?_;refine zX hlt (bg (n4 hkk hstep @ofS_nil (show nbuf 4 1 ([]:List Nat).length=nilS from rfl))) trivial
 ·have ho1:¬o.length=0:=λh=>ho (length_eq_zero_iff.1 h);have happ:=app_cells (enc:=one1 natV) (e:=1) (λ_=>rfl) (λ_=>rfl) 4 o k;rw[show one1 natV k=[natV k] from rfl,b4] at happ;have hcl:=one_len (c:=natV) o;rw[ofS_p ho,nbuf_p ho1];refine(fe) ?_;refine zS [2] (n6 @rn_NN @bnd_NN @kill_NN @rn_nat @bnd_nat @kill_nat) hr1 ?_;refine(zQ) ?_;refine zS [2] (n6 @rn_NN @bnd_NN @kill_NN @rn_nat @bnd_nat @kill_nat) hr2 ?_;by_cases hab:a=b
  ·rw[t8 hab] at hstep
   refine(bE (show decide ((a:Int)=(b:Int))=true by simp;omega))<|(zY) ?_
   have hs2:ofS mm (g2,o++[k])=[aR AV.str natV mm,.gone,.cells (g2.flatMap (one1 natV)),.gone,.cells ((o++[k]).flatMap (one1 natV))]:=ofS_p (by simp)
   have hs3:nbuf 4 1 (o++[k]).length=.buf 4 (o.length+1) 1 none:=by rw[be];rfl
   refine(aq (n7 @kill_NN @kill_nat hcl happ @b4 @aS hol))<|(aq (zi hlt hlen)) ?_;refine zX hlt (bg (n4 hkk hstep hs2 hs3)) trivial
  ·rw[ul hab] at hstep
   refine(bE (show decide ((a:Int)=(b:Int))=false by simp;omega))<|(zN)<|(zs) ?_;refine ak.r0 (by rfl) (gf (nL (iW hlt hlen (by decide)))) ?_;refine⟨l.length-(k+1),_,by omega,(Fg.less (by (simp only[bf,aN,cA,↓reduceIte,aj,slS,hkk,hstep,ofS_p ho,nbuf_p ho1])<;>(repeat' apply c0)<;>first | rfl | trivial) (by (simp only[bf,aN,or_true,true_or,slS,hkk,hstep,ofS_p ho,nbuf_p ho1])<;>(repeat' apply c0)<;>first | exact .inr rfl | exact .inl rfl | trivial)),k+1,by omega,rfl,trivial,rfl⟩
def linkOf_ok(l:List RepM)(part:List Nat):(linkOf l part).length<=l.length/\∀i∈linkOf l part,i<l.length:=by
 have hok:=linked_ok l;unfold linkOf;split
 ·rename_i h;have hkl:=hok.m part h;have hF:=ofAll_ok (k:=getM 0 part (linkedN l).2) hok.f (by rw[hok.l];exact hkl) l.length (by rw[hok.l];exact aS _);exact⟨hF.2.2.1,hF.2.2.2⟩
 ·exact⟨bw _,λi hi=>by cases hi⟩
def ownN(l:List RepM)(part:List Nat):List RepM:=(linkOf l part).filterMap (l[·]?)
def own_len(l:List RepM)(part:List Nat):(ownN l part).length<=l.length:=ci (ce _ _) (linkOf_ok l part).1
def own_mem{l:List RepM}{part:List Nat}{r:RepM}(h:r∈ownN l part):r∈l:=by
 obtain⟨i,_,hi⟩:=List.mem_filterMap.1 h;exact ad hi
def own_snoc{l:List RepM}{is:List Nat}{k i:Nat}{r:RepM}(hk:is[k]?=some i)(hr:l[i]?=some r):(is.take (k+1)).filterMap (l[·]?)=(is.take k).filterMap (l[·]?)++[r]:=by
 rw[takeN_snoc hk,List.filterMap_append];simp[hr]
def tryN_all{p:List Int->Prop}{g:Nat->List (List Int)->Bool×List (List Int)}(hg:∀n out,(∀ch∈out,p ch)->∀ch∈(g n out).2,p ch):∀(m n:Nat) (out:List (List Int)),(∀ch∈out,p ch)->∀ch∈(tryN g m n out).2,p ch
 | 0,n,out,h=>h
 | m+1,n,out,h=>by
  rw[tryN];split
  ·exact tryN_all hg m (n+1) _ (hg n out h)
  ·exact hg n out h
def fromN_all{c:List KKind}{l:List RepM}{most:Int}:∀(F i:Nat) (ch:List Int) (out:List (List Int)),(∀h∈out,isN c l h=true)->∀h∈(fromN c l most F i ch out).2,isN c l h=true
 | 0,i,ch,out,h=>h
 | F+1,i,ch,out,h=>by
  rw[fromN];split
  ·exact h
  ·split
   ·split
    ·rename_i h3;intro x hx
     rcases List.mem_append.1 hx with hx | hx
     ·exact h x hx
     ·rw[mem_singleton.1 hx];exact h3
    ·exact h
   ·exact tryN_all (λn out h=>fromN_all F _ _ _ h) _ _ _ h
def tryN_most{g:Nat->List (List Int)->Bool×List (List Int)}{most:Int}(hg:∀n out,(out.length:Int)<most->((g n out).2.length:Int)<=most)(hg2:∀n out,(out.length:Int)<most->(g n out).1=true->((g n out).2.length:Int)<most):∀(m n:Nat) (out:List (List Int)),(out.length:Int)<most->((tryN g m n out).2.length:Int)<=most
 | 0,n,out,h=>cc h
 | m+1,n,out,h=>by
  rw[tryN];split
  ·rename_i h1;exact tryN_most hg hg2 m (n+1) _ (hg2 n out h h1)
  ·exact hg n out h
def fromN_most{c:List KKind}{l:List RepM}{most:Int}:∀(F i:Nat) (ch:List Int) (out:List (List Int)),(out.length:Int)<most->((fromN c l most F i ch out).2.length:Int)<=most
 | 0,i,ch,out,h=>cc h
 | F+1,i,ch,out,h=>by
  rw[fromN];split
  ·exact cc h
  ·split
   ·split
    ·rw[be];show((out.length+1:Nat):Int)<=most;omega
    ·exact cc h
   ·exact tryN_most (λn out h=>fromN_most F _ _ _ h) (λn out h h2=>fromN_lt F _ _ _ h h2) _ _ _ h
def is_len{c:List KKind}{l:List RepM}{ch:List Int}(h:isN c l ch=true):l.length=ch.length:=by
 unfold isN failsN at h;split at h
 ·rename_i hg;exact given_len hg
 ·cases h
def all_is{c:List KKind}{l:List RepM}{most:Int}{ch:List Int}(h:ch∈(allN c l most).1):isN c l ch=true:=by
 unfold allN at h;split at h
 ·cases h
 split at h
 ·cases h
 split at h
 ·split at h
  ·cases h
  ·unfold histN at h;exact fromN_all _ _ _ _ (λ_ h=>by cases h) _ h
 ·cases h
def all_most{c:List KKind}{l:List RepM}{most:Int}(hm:0<most):((allN c l most).1.length:Int)<=most:=by
 unfold allN;split
 ·exact cc hm
 split
 ·exact cc hm
 split
 ·split
  ·exact cc hm
  ·unfold histN;exact fromN_most _ _ _ _ hm
 ·exact cc hm
abbrev Bill:=List (List Nat×Int)
def BillOk(ws:List Wy)(co:Co)(b:Bill):Prop:=(∃x,0<=x/\x<=co.am/\b=[(co.owner,x)])\/∃w∈ws,w.maker≠co.owner/\∃x y,0<=x/\0<=y/\x+y<=co.am/\b=[(co.owner,x),(w.maker,y)]
def billM_form{ws:List Wy}{ps:List PartM}{co:Co}(hr:rightB ws co=true):billM ws ps co=[(co.owner,co.am)]\/∃w∈ws,w.maker≠co.owner/\∃n,0<=n/\n<=co.am/\billM ws ps co=[(co.owner,co.am-n),(w.maker,n)]:=by
 unfold billM
 cases findM ps co.part with
 | none=>exact .inl rfl
 | some p=>
  rw[ay]
  rcases bill_form (p:=toPt p e7) hr with⟨h,_⟩ | ⟨w,h1,h2,h3,h4,h5⟩
  ·exact .inl h
  ·exact .inr ⟨w,b5 h1,h2,_,h4,h5,h3⟩
def billM_ok{ws:List Wy}{ps:List PartM}{co:Co}(hr:rightB ws co=true):BillOk ws co (billM ws ps co):=by
 have ha:=am_ok (right_parts hr).2
 rcases billM_form (ps:=ps) hr with h | ⟨w,hw,hm,n,h1,h2,h⟩
 ·exact .inl ⟨_,ha.1,Int.le_refl _,h⟩
 ·exact .inr ⟨w,hw,hm,_,n,by omega,h1,by omega,h⟩
def BillOk.nodup{ws:List Wy}{co:Co}{b:Bill}(h:BillOk ws co b):(b.map (·.1)).Nodup:=by
 rcases h with⟨x,_,_,rfl⟩ | ⟨w,_,hm,x,y,_,_,_,rfl⟩
 ·simp
 ·simp[Ne.symm hm]
def BillOk.ne{ws:List Wy}{co:Co}{b:Bill}(h:BillOk ws co b):b≠[]:=by
 rcases h with⟨x,_,_,rfl⟩ | ⟨w,_,hm,x,y,_,_,_,rfl⟩<;>simp
def BillOk.len{ws:List Wy}{co:Co}{b:Bill}(h:BillOk ws co b):b.length<=2:=by
 rcases h with⟨x,_,_,rfl⟩ | ⟨w,_,hm,x,y,_,_,_,rfl⟩<;>simp
def BillOk.nn{ws:List Wy}{co:Co}{b:Bill}(h:BillOk ws co b)(p:List Nat):0<=getM 0 p b:=by
 rcases h with⟨x,h1,_,rfl⟩ | ⟨w,_,hm,x,y,h1,h2,_,rfl⟩
 ·simp only[getM];split<;>omega
 ·simp only[getM];split
  ·omega
  ·split<;>omega
def minB_ok{ws:List Wy}{co:Co}{o b:Bill}(h:BillOk ws co o)(hb:∀p,0<=getM 0 p b):BillOk ws co (minB o b):=by
 have hmin:∀x p,0<=x->0<=minI x (getM 0 p b)/\minI x (getM 0 p b)<=x:=λx p h=>by
  have:=hb p;unfold minI;split<;>omega
 rcases h with⟨x,h1,h2,rfl⟩ | ⟨w,hw,hm,x,y,h1,h2,h3,rfl⟩
 ·have:=hmin x co.owner h1;exact .inl ⟨_,this.1,by omega,rfl⟩
 ·have g1:=hmin x co.owner h1;have g2:=hmin y w.maker h2;exact .inr ⟨w,hw,hm,_,_,g1.1,g2.1,by omega,rfl⟩
def least_ok{ws:List Wy}{co:Co}:∀{bs:List Bill} {b0:Bill},BillOk ws co b0->(∀b∈bs,BillOk ws co b)->BillOk ws co (bs.foldl minB b0)
 | [],b0,h,_=>h
 | b::bs,b0,h,hb=>least_ok (bs:=bs) (minB_ok h (hb b bh).nn) λx hx=>hb x (bi _ hx)
def minB_get(o b:Bill)(p:List Nat):getM 0 p (minB o b)=if bl p o=true then minI (getM 0 p o) (getM 0 p b) else 0:=by
 unfold minB
 induction o with
 | nil=>rfl
 | cons e o ih=>
  rw[map_cons];by_cases hp:p=e.1
  ·subst hp;simp[minE,getM,bl]
  ·have hp2:¬e.1=p:=λh=>hp h.symm;simp only[bl,List.any_cons,un hp,Bool.false_or] at ih ⊢;simp only[minE,getM,hp,hp2,if_false];exact ih
def minB_get2{o b:Bill}{p:List Nat}(hb:0<=getM 0 p b):getM 0 p (minB o b)=minI (getM 0 p o) (getM 0 p b):=by
 rw[minB_get];split
 ·rfl
 ·rename_i h;rw[lB (eq_false_iff.2 h),minI,t8 hb]
def least_get{p:List Nat}:∀{bs:List Bill} {b0:Bill},(∀b∈bs,0<=getM 0 p b)->getM 0 p (bs.foldl minB b0)=(bs.map (getM 0 p)).foldl minI (getM 0 p b0)
 | [],b0,_=>rfl
 | b::bs,b0,h=>by
  rw[eb,least_get (bs:=bs) (λx hx=>h x (bi _ hx)),minB_get2 (h b bh),map_cons,eb]
def listN_ok(b:Bill):ListOk b (listN b):=by
 refine⟨⟨sortN (b.map (·.1)),by exact sortP _,?_,rfl⟩⟩;have h2:(sortN (b.map (·.1))).Pairwise λa b=>leS a b=true:=sortW _
 exact h2.imp λ{a b} h=>by
  simpa [leS] using h
def eventsN(own:List RepM)(ch:List Int):List EvM:=(pickedN own ch).getD []
def billsN(c:List KKind)(dmg:FormM)(ws:List Wy)(own:List RepM)(co:Co)(all:List (List Int)):List Bill:=all.map λch=>billM ws (runN c dmg (eventsN own ch) co.day).1 co
def openN(n:Int)(l:List Sh):Int:=n-(l.map Sh.am).sum
def badSure(c:List KKind)(dmg:FormM)(ws:List Wy)(l:List RepM)(co:Co):Bool:=!(catV c&&validForm dmg)||(!(rightB ws co)||l.any λr=>!(Proofs.validR r))
def sureG(c:List KKind)(dmg:FormM)(ws:List Wy)(own:List RepM)(co:Co):List Sh×Int×Int:=
 if own=[] then ([],0,2)
 else if (allN c own 4096).2=0 then
  (if (allN c own 4096).1.length=4096 then ([],0,7)
  else (listN (leastN (billsN c dmg ws own co (allN c own 4096).1)),openN co.am (listN (leastN (billsN c dmg ws own co (allN c own 4096).1))),0))
 else ([],0,(allN c own 4096).2)
def sureN(c:List KKind)(dmg:FormM)(ws:List Wy)(l:List RepM)(co:Co):List Sh×Int×Int:=if badSure c dmg ws l co=true then ([],0,1) else sureG c dmg ws (ownN l co.part) co
def BillOk.of{ws:List Wy}{co:Co}{b:Bill}(h:BillOk ws co b)(p:List Nat):ofSh (listN b) p=getM 0 p b:=by
 rw[(listN_ok b).of];have:=h.nn p;split<;>omega
def BillOk.sum{ws:List Wy}{co:Co}{b:Bill}(h:BillOk ws co b):((listN b).map Sh.am).sum=(b.map (·.2)).sum/\(listN b).length<=2:=by
 have hl:=listN_ok b
 rcases h with⟨x,h1,_,rfl⟩ | ⟨w,_,hm,x,y,h1,h2,_,rfl⟩
 ·obtain⟨a,b,_⟩:=ListOk.one h1 hl;exact⟨by rw[a];simp,b⟩
 ·obtain⟨a,b,_⟩:=ListOk.two (Ne.symm hm) h1 h2 hl;exact⟨by rw[a];simp,b⟩
def BillOk.vals{ws:List Wy}{co:Co}{b:Bill}(h:BillOk ws co b):0<=(b.map (·.2)).sum/\(b.map (·.2)).sum<=co.am:=by
 rcases h with⟨x,h1,_,rfl⟩ | ⟨w,_,hm,x,y,h1,h2,_,rfl⟩
 ·simp;omega
 ·simp;omega
def BillOk.am{ws:List Wy}{co:Co}{b:Bill}(h:BillOk ws co b){s:Sh}(hs:s∈listN b):0<s.am/\s.am<=co.am/\(s.pt=co.owner\/∃w∈ws,s.pt=w.maker):=by
 obtain⟨g1,g2,g3⟩:=((listN_ok b).mem s).1 hs
 rcases h with⟨x,h1,_,rfl⟩ | ⟨w,hw,hm,x,y,h1,h2,_,rfl⟩
 ·simp only[map_cons,map_nil,mem_singleton] at g1;rw[g1] at g2 g3;simp only[getM,if_true] at g2 g3;exact⟨by omega,by omega,.inl g1⟩
 ·simp only[map_cons,map_nil,mem_cons,bW,or_false] at g1
  rcases g1 with g1 | g1<;>rw[g1] at g2 g3<;>simp[getM,hm] at g2 g3
  ·exact⟨by omega,by omega,.inl g1⟩
  ·exact⟨by omega,by omega,.inr ⟨w,hw,g1⟩⟩
def BillOk.lts{ws:List Wy}{co:Co}{b:Bill}(h:BillOk ws co b):(listN b).Pairwise λa b=>db a.pt b.pt=true:=(listN_ok b).lts h.nodup
def leastN_ok{ws:List Wy}{co:Co}{bs:List Bill}(hne:bs≠[])(h:∀b∈bs,BillOk ws co b):BillOk ws co (leastN bs):=by
 cases bs with
 | nil=>exact t7 rfl hne
 | cons b bs=>exact least_ok (h b bh) λx hx=>h x (bi _ hx)
def leastN_of{ws:List Wy}{co:Co}{b:Bill}{bs:List Bill}(h:∀x∈b::bs,BillOk ws co x)(p:List Nat):ofSh (listN (leastN (b::bs))) p=(bs.map (getM 0 p)).foldl minI (getM 0 p b):=by
 rw[(leastN_ok (by simp) h).of,leastN,least_get λx hx=>(h x (bi _ hx)).nn p]
def bills_ok{c:List KKind}{dmg:FormM}{ws:List Wy}{own:List RepM}{co:Co}{all:List (List Int)}(hr:rightB ws co=true):∀b∈billsN c dmg ws own co all,BillOk ws co b:=by
 intro b hb;obtain⟨ch,_,rfl⟩:=mem_map.1 hb;exact billM_ok hr
structure SureOk (ws:List Wy) (co:Co) (r:List Sh×Int×Int):Prop where
 err:r.2.2≠0->r.1=[]/\r.2.1=0
 am:∀s∈r.1,0<s.am/\s.am<=co.am/\(s.pt=co.owner\/∃w∈ws,s.pt=w.maker)
 lts:r.1.Pairwise λa b=>db a.pt b.pt=true
 len:r.1.length<=2
 opn:r.2.2=0->0<=r.2.1/\r.2.1=co.am-(r.1.map Sh.am).sum
 sum:0<=(r.1.map Sh.am).sum/\(r.1≠[]->(r.1.map Sh.am).sum<=co.am)
 right:r.2.2=0->rightB ws co=true
def SureOk.no{ws:List Wy}{co:Co}{e:Int}(he:e≠0):SureOk ws co ([],0,e):=⟨λ_=>⟨rfl,rfl⟩,λs h=>(bW h).elim,.nil,bw _,λh=>t7 h he,⟨by simp,λh=>t7 rfl h⟩,λh=>t7 h he⟩
def sure_ok(c:List KKind)(dmg:FormM)(ws:List Wy)(l:List RepM)(co:Co):SureOk ws co (sureN c dmg ws l co):=by
 unfold sureN;split
 ·exact .no (by decide)
 rename_i hb
 have hr:rightB ws co=true:=by
  unfold badSure at hb;cases h:rightB ws co
  ·rw[h] at hb;simp at hb
  ·rfl
 unfold sureG;split
 ·exact .no (by decide)
 split
 ·rename_i h2;split
  ·exact .no (by decide)
  ·have hne:=all_ok (c:=c) (l:=ownN l co.part) (most:=4096) h2;have hk:=leastN_ok (ws:=ws) (co:=co) (bs:=billsN c dmg ws (ownN l co.part) co (allN c (ownN l co.part) 4096).1) (by unfold billsN;exact λe=>hne (List.map_eq_nil_iff.1 e)) (bills_ok hr);generalize leastN _=b at hk;have hs:=hk.sum;have hv:=hk.vals;have hx:((listN b).map Sh.am).sum=(b.map (·.2)).sum:=hs.1;refine⟨λh=>t7 rfl h,λs h=>hk.am h,hk.lts,hs.2,λ_=>⟨?_,rfl⟩,⟨by show 0<=((listN b).map Sh.am).sum;omega,λ_=>by show((listN b).map Sh.am).sum<=co.am;omega⟩,λ_=>hr⟩;show 0<=openN _ _;unfold openN;rw[hs.1];omega
 ·rename_i h2;exact .no h2
def leastK(p:List Nat):List Bill->Int
 | []=>0
 | b::bs=>(bs.map (getM 0 p)).foldl minI (getM 0 p b)
def sure_least{ws:List Wy}{co:Co}{bs:List Bill}(hne:bs≠[])(h:∀b∈bs,BillOk ws co b)(p:List Nat):ofSh (listN (leastN bs)) p=leastK p bs:=by
 cases bs with
 | nil=>exact t7 rfl hne
 | cons b bs=>exact leastN_of h p
def run_len{c:List KKind}{dmg:FormM}:∀(l:List EvM) (i:Nat) (s:List PartM),(∀p∈s,PartOk p)->(∀e∈l,EvOk e)->(runGo c dmg i l s).1.length<=s.length+l.length
 | [],i,s,_,_=>aS _
 | e::l,i,s,hs,hl=>by
  have he:=hl e bh;have hr:=λx hx=>hl x (bi _ hx);obtain⟨h1,h2,_,_⟩:=fleetN_ok (c:=c) (ps:=s) (e:=e) hs he;rw[runGo];split
  ·split
   ·obtain⟨k1,k2⟩:=useN_ok (dmg:=dmg) (e:=e) h1;have:=run_len (c:=c) (dmg:=dmg) l (i+1) _ k1 hr;rw[k2] at this;rw[ba];omega
   ·have:=run_len (c:=c) (dmg:=dmg) l (i+1) _ h1 hr;rw[ba];omega
  ·exact bw _
def runN_len{c:List KKind}{dmg:FormM}{l:List EvM}{day:Int}(hl:∀e∈l,EvOk e):(runN c dmg l day).1.length<=l.length:=by
 unfold runN;split
 ·have h1:=run_len (c:=c) (dmg:=dmg) (sortEv (keptEv (lateEv day) l)) 0 [] (λp hp=>by cases hp) (λe he=>hl e (sel_mem he));have h2:=sel_len l (lateEv day);simp only[length_nil] at h1;omega
 ·exact bw _
def runN_nil(c:List KKind)(dmg:FormM)(day:Int):runN c dmg [] day=([],-1,if (catV c&&Proofs.validForm dmg)=true then 0 else 1):=by
 unfold runN;split
 ·have:sortEv (keptEv (lateEv day) [])=[]:=length_eq_zero_iff.1 (Nat.le_zero.1 (sel_len [] (lateEv day)));rw[this];rfl
 ·rfl
def picked_ev(o:Option (List EvM)):∃e,pickedV o=.aO [slS 14 (o.getD []) encEv,aa e]:=by
 cases o with
 | none=>exact⟨1,rfl⟩
 | some es=>exact⟨0,rfl⟩
def events_ok{own:List RepM}{ch:List Int}(h:∀r∈own,RepOk r):(∀e∈eventsN own ch,EvOk e)/\(eventsN own ch).length<=own.length:=by
 unfold eventsN pickedN;split
 ·split
  ·refine⟨λe he=>?_,?_⟩
   ·obtain⟨p,hp,he⟩:=List.mem_flatMap.1 he;unfold pick1 at he;have hr:=(List.of_mem_zip hp).1;rw[Option.mem_toList] at he;exact(h _ hr).ev e (ad he)
   ·refine ci (flatMap_le _) ?_;rw[List.length_zip];exact Nat.min_le_left _ _
  ·exact⟨λe he=>(by cases he),bw _⟩
 ·exact⟨λe he=>(by cases he),bw _⟩
def am_sum:∀(l:List Sh),(∀s∈l,0<s.am/\s.am<=1000000000000)->0<=(l.map Sh.am).sum/\(l.map Sh.am).sum<=l.length*1000000000000
 | [],_=>by simp
 | s::l,h=>by
  have h1:=am_sum l λx hx=>h x (bi _ hx);have h2:=h s bh;rw[map_cons,fy,ba];omega
def sureS(r:List Sh×Int×Int):SV:=.aO [slS 2 r.1 encSh,aa r.2.1,aa r.2.2]
def encRep_len(r:RepM):(encRep r).length=2:=rfl
def encRep_gnd(r:RepM):bm (encRep r)=true:=rfl
def encBill_len(b:Bill):(encBill b).length=1:=rfl
def encBill_gnd(b:Bill):bm (encBill b)=true:=rfl
def kQ(c:List KKind)(dmg:FormM)(ws:List Wy)(l:List RepM)(co:Co)(hc:CatOk c)(hf:FormOk dmg)(hw:∀w∈ws,w.fits)(hco:co.fits)(hlw:ws.length<=1000)(hl:∀r∈l,RepOk r)(hl2:∀r∈l,r.opts.length<=400000)(hlen:l.length<20):
 PC prog 7 [.ag (slS 3 c encKind::encForm dmg),slS 5 ws encWy,slS 2 l encRep,.ag (encCo co)] (·=sureS (sureN c dmg ws l co)):=by
 have hfl:(encForm dmg).length=3:=encForm_len dmg;have hft:(encForm dmg).take 3=encForm dmg:=cp (by rw[hfl];exact aS _);have hfk:=λo:Nat=>aV (o:=o) (encForm_gnd dmg);have hfn:=λo:Nat=>cu (o:=o) (encForm_gnd dmg)
 have hlen6:l.length<=1000000:=by omega
 refine pB 138 Tryz.func7 ?_;rw[encCo_eq];refine(aq (n2 hfk hfn)) ?_;refine ak.fg (Fg.freeze (f':=[(1,slS 5 ws encWy),(2,slS 2 l encRep),(4,.ip (slS 3 c encKind::encForm dmg)),(7,.ptr 1 0)]) 0 rfl (λh=>by cases h) ⟨.inl rfl,.inl rfl,.inr (.ptr rfl (aM.refl (encForm_gnd dmg)) (bw _)),.inl rfl,trivial⟩) ?_;refine ak.fg (Fg.freeze (f':=[(1,slS 5 ws encWy),(2,slS 2 l encRep),(4,.ip (slS 3 c encKind::encForm dmg)),(7,.ip [ae co.part,ae co.owner,aa co.day,aa co.am])]) 1 rfl (λh=>by cases h) (jM @slS.eq_1)) ?_;refine ak.fg (st':=⟨[(1,slS 5 ws encWy),(2,slS 2 l encRep),(4,.ip (slS 3 c encKind::encForm dmg)),(7,.ip [ae co.part,ae co.owner,aa co.day,aa co.am])],138,[],[]⟩) zH ?_
 (try change ak _ _ _ _ _)
 have hrun0:=qa c dmg [] 0 hc hf (by decide) (λe h=>by cases h);rw[runN_nil] at hrun0
 have hN:sureN c dmg ws l co=if badSure c dmg ws l co=true then ([],0,1) else sureN c dmg ws l co:=by
  split
  ·rename_i h;rw[sureN,t8 h]
  ·rfl
 refine(e8 (n2 hfl hft))<|(zK hrun0 (hwk:=(.cons (.ag (aM.refl (encForm_gnd dmg))) (.cons (.nil 14) (.cons (.a _) .nil)))) (hfl:=.inr (.cons (.ag (aM.refl (encForm_gnd dmg))) (.cons (.nil 14) (.cons (.a _) .nil))))) ?_
 unfold runS;cases hv:catV c&&Proofs.validForm dmg
 ·have hb:badSure c dmg ws l co=true:=by rw[badSure,hv];rfl
  refine(zR)<|(oD)<|(zV)<|(zE) ?_;exact zO [.tmp 8,.tmp 9,.tmp 10] (r:=.aO [.sl 0 2 [],aa 0,aa 1]) (hw:=by exact .aO (.cons (.nil _) (.cons (.a _) (.cons (.a _) .nil)))) (hq:=by (try simp only[bL,aF]);first | done | (rw[sureN,t8 hb];rfl))
 refine(zR)<|(zC)<|(zK (nG ws co hw hco hlw)) ?_
 cases hr:rightB ws co
 ·have hb:badSure c dmg ws l co=true:=by rw[badSure,hv,hr];rfl
  refine(zR)<|(bq)<|(zE) ?_;exact zO [.tmp 8,.tmp 9,.tmp 10] (r:=.aO [.sl 0 2 [],aa 0,aa 1]) (hw:=by exact .aO (.cons (.nil _) (.cons (.a _) (.cons (.a _) .nil)))) (hq:=by (try simp only[bL,aF]);first | done | (rw[sureN,t8 hb];rfl))
 refine(zQ)<|(zK (vO (l:=l) (λr=>!(Proofs.validR r)) (first:=[]) (cap:=[]) hlen6 (λx hx=>yK x (hl x hx)) ⟨rfl,rfl⟩)) ?_
 cases hva:l.any λr=>!(Proofs.validR r);rotate_left
 ·have hb:badSure c dmg ws l co=true:=by rw[badSure,hv,hr,hva];rfl
  refine(zR)<|(bq)<|(zE) ?_;exact zO [.tmp 8,.tmp 9,.tmp 10] (r:=.aO [.sl 0 2 [],aa 0,aa 1]) (hw:=by exact .aO (.cons (.nil _) (.cons (.a _) (.cons (.a _) .nil)))) (hq:=by (try simp only[bL,aF]);first | done | (rw[sureN,t8 hb];rfl))
 have hb:badSure c dmg ws l co=false:=by rw[badSure,hv,hr,hva];rfl
 clear hN
 refine(zR)<|(ee)<|(zC)<|(zK (Bd l co.part hl hl2 hlen6) (hfl:=.inr (aM.refl rfl))) ?_
 have hlo:=linkOf_ok l co.part;have hown:ownN l co.part=(linkOf l co.part).filterMap (l[·]?):=rfl;generalize linkOf l co.part=is at hlo hown;refine(zR) ?_
 have hlen7:is.length<=1000000:=by omega
 refine(zs) ?_;refine zL is (λk=>True) (λk=>[(1,slS 5 ws encWy),(2,slS 2 l encRep),(4,.ip (slS 3 c encKind::encForm dmg)),(7,.ip [ae co.part,ae co.owner,aa co.day,aa co.am]),(14,nbuf 1 2 ((is.take k).filterMap (l[·]?)).length),(53,slS 1 is (one1 natV)),(54,aa is.length),(55,aa k)]) (λk=>nst 1 ((is.take k).filterMap (l[·]?)) encRep) (bg (n5 @take_zero.{0} @List.filterMap_nil.{0,0} @length_nil.{0} @nbuf_0 @nst_nil)) zp ?_;intro k hk hall;refine zT is k ?_ ?_;rintro rfl;rotate_left;intro i hx hlt;rotate_left;rotate_left
 ·have hil:i<l.length:=hlo.2 i (ad hx);obtain⟨r,hri⟩:∃r,l[i]?=some r:=⟨l[i],ac hil⟩;have hfm:=own_snoc hx hri;have hol:((is.take k).filterMap (l[·]?)).length<=k:=ci (ce _ _) (by rw[b9];omega);generalize hO:(is.take k).filterMap (l[·]?)=out at hol hfm;have hcl:=flat_len' encRep_len out;have hkc:=λo=>kill_cells encRep_gnd o out
  refine(dI)<|(aq (n3 hlt (au (e:=1) (enc:=one1 natV) (λ_=>rfl) hx) @one1.eq_1)) ?_
  by_cases hk0:out=[]
  ·rw[show nst 1 out encRep=[] by rw[hk0];rfl,show nbuf 1 2 out.length=nilS by rw[hk0];rfl]
   have f1:nbuf 1 2 ((is.take (k+1)).filterMap (l[·]?)).length=.buf 1 1 2 none:=by rw[hfm,hk0];rfl
   have f2:nst 1 ((is.take (k+1)).filterMap (l[·]?)) encRep=[.gone,.cells (encRep r)]:=by rw[hfm,hk0];rfl
   refine(aq (n3 hil (au (e:=2) (enc:=encRep) (λ_=>rfl) hri) @encRep.eq_1))<|(aq (zi hlt hlen7)) ?_;refine zX hlt (bg (n3 f1 f2 @encRep.eq_1)) trivial
  ·have hk1:¬out.length=0:=λh=>hk0 (length_eq_zero_iff.1 h)
   have f1:nbuf 1 2 ((is.take (k+1)).filterMap (l[·]?)).length=.buf 1 (out.length+1) 2 none:=by rw[hfm,be];rfl
   have f2:nst 1 ((is.take (k+1)).filterMap (l[·]?)) encRep=[.gone,.cells ((out++[r]).flatMap encRep)]:=by rw[hfm,nst_snoc];rfl
   have happ:=app_cells encRep_len encRep_gnd 1 out r;rw[show encRep r=[.sl r.opts.length 14 (r.opts.flatMap encEv),ao r.doubt] from rfl] at happ;rw[nst_p hk0,nbuf_p hk1]
   refine(aq (n9 hil (au (e:=2) (enc:=encRep) (λ_=>rfl) hri) @encRep.eq_1 hcl hkc reps (show out.length<=1000000 by omega) @aS happ))<|(aq (zi hlt hlen7)) ?_;refine zX hlt (bg (n2 f1 f2)) trivial
 refine(cV) ?_;rw[ax,<-hown];have hoo:=λr (hr:r∈ownN l co.part)=>hl r (own_mem hr);have hol:=Nat.lt_of_le_of_lt (own_len l co.part) hlen
 have hS:sureN c dmg ws l co=sureG c dmg ws (ownN l co.part) co:=by rw[sureN,ul (by rw[hb];decide)]
 generalize ownN l co.part=own at hoo hol hS ⊢;clear hall hown hlo hlen7;unfold sureG at hS;by_cases hk0:own=[]
 ·rw[t8 hk0] at hS;rw[show nst 1 own encRep=[] by rw[hk0];rfl,show nbuf 1 2 own.length=nilS by rw[hk0];rfl]
  refine(oD)<|(zV)<|(zE) ?_;exact zO [.tmp 8,.tmp 9,.tmp 10] (r:=.aO [.sl 0 2 [],aa 0,aa 2]) (hw:=by exact .aO (.cons (.nil _) (.cons (.a _) (.cons (.a _) .nil)))) (hq:=by (try simp only[bL,aF]);first | done | (rw[hS];rfl))
 have hk1:¬own.length=0:=λh=>hk0 (length_eq_zero_iff.1 h);rw[ul hk0] at hS;rw[nst_p hk0,nbuf_p hk1]
 refine(aq (show decide ((own.length:Int)=0)=false by simp only[wd];omega))<|(zN) ?_;refine ak.fg (Fg.freeze (f':=[(1,slS 5 ws encWy),(4,.ip (slS 3 c encKind::encForm dmg)),(7,.ip [ae co.part,ae co.owner,aa co.day,aa co.am]),(14,slS 2 own encRep)]) 1 rfl (λh=>by cases h) ⟨.inl rfl,.inl rfl,.inl rfl,.inr (.buf rfl (by rw[flat_all encRep_len];exact aM.refl (ar encRep_gnd _)) (by rw[flat_len' encRep_len];exact aS _)),trivial⟩) ?_;refine ak.fg (st':=⟨[(1,slS 5 ws encWy),(4,.ip (slS 3 c encKind::encForm dmg)),(7,.ip [ae co.part,ae co.owner,aa co.day,aa co.am]),(14,slS 2 own encRep)],138,[],[]⟩) zH ?_
 (try change ak _ _ _ _ _)
 have hal:=pP c own 4096 hc hoo hol hk0;have hai:=λch (h:ch∈(allN c own 4096).1)=>is_len (all_is h);have ham:=all_most (c:=c) (l:=own) (most:=4096) (by decide);have hak:=all_ok (c:=c) (l:=own) (most:=4096);generalize allN c own 4096=q at hal hai ham hak hS
 refine(zC)<|(zK hal (hfl:=.inr (aM.refl rfl)))<|(zR) ?_
 cases h0:decide (q.2=0)
 ·rw[ul (wt h0)] at hS
  refine(aq h0)<|(zN)<|(aq h0)<|(bq)<|(zE) ?_;exact zO [.tmp 8,.tmp 9,.tmp 10] (r:=.aO [.sl 0 2 [],aa 0,aa q.2]) (hw:=by exact .aO (.cons (.nil _) (.cons (.a _) (.cons (.a _) .nil)))) (hq:=by (try simp only[bL,aF]);first | done | (rw[hS];rfl))
 rw[t8 (ww h0)] at hS;have hne:=hak (ww h0);have hq2:=ww h0;by_cases h1:q.1.length=4096
 ·rw[t8 h1] at hS
  refine(aq (n2 h0 (show decide ((q.1.length:Int)=4096)=true by simp only[wp];omega)))<|(bq)<|(oD)<|(zV)<|(zE) ?_;exact zO [.tmp 8,.tmp 9,.tmp 10] (r:=.aO [.sl 0 2 [],aa 0,aa 7]) (hw:=by exact .aO (.cons (.nil _) (.cons (.a _) (.cons (.a _) .nil)))) (hq:=by (try simp only[bL,aF]);first | done | (rw[hS];rfl))
 rw[ul h1] at hS
 refine(aq (n2 h0 (show decide ((q.1.length:Int)=4096)=false by simp only[wd];omega)))<|(zN)<|(aq h0)<|(ee)<|(zV) ?_
 have hlen8:q.1.length<=1000000:=by omega
 have hbk:=λall=>bills_ok (c:=c) (dmg:=dmg) (own:=own) (all:=all) hr;have hbl:∀all:List (List Int),(billsN c dmg ws own co all).length=all.length:=λall=>bk _;refine(zs) ?_;refine zL q.1 (λk=>True) (λk=>[(1,slS 5 ws encWy),(4,.ip (slS 3 c encKind::encForm dmg)),(7,.ip [ae co.part,ae co.owner,aa co.day,aa co.am]),(14,slS 2 own encRep),(18,nbuf 2 1 (billsN c dmg ws own co (q.1.take k)).length),(87,slS 1 q.1 encCh),(88,aa q.1.length),(89,aa k)]) (λk=>nst 2 (billsN c dmg ws own co (q.1.take k)) encBill) (bg (n6 @take_zero.{0} @billsN.eq_1 @map_nil.{0,0} @length_nil.{0} @nbuf_0 @nst_nil)) zp ?_;intro k hk hall;refine zT q.1 k ?_ ?_;rintro rfl;rotate_left;intro ch hx hlt;rotate_left;rotate_left
 ·have hch:=hai ch (ad hx);have hev:=events_ok (ch:=ch) hoo
  have hbs:billsN c dmg ws own co (q.1.take (k+1))=billsN c dmg ws own co (q.1.take k)++[billM ws (runN c dmg (eventsN own ch) co.day).1 co]:=by
   unfold billsN;rw[takeN_snoc hx,dc];rfl
  have hol2:(billsN c dmg ws own co (q.1.take k)).length<=100000:=by rw[hbl,b9];omega
  obtain⟨e1,he1⟩:=picked_ev (pickedN own ch);have hpk:=wA own ch hoo (by omega) (by omega);rw[he1] at hpk;rw[show(pickedN own ch).getD []=eventsN own ch from rfl] at hpk;generalize eventsN own ch=nO at hpk hev hbs;have hru:=qa c dmg nO co.day hc hf (by omega) hev.1;have hpl:=runN_len (c:=c) (dmg:=dmg) (day:=co.day) hev.1;unfold runS at hru;generalize runN c dmg nO co.day=rr at hru hpl hbs;have hdv:=l7 ws rr.1 co hlw (by omega) hr;generalize billM ws rr.1 co=bb at hdv hbs;generalize (findM rr.1 co.part).isSome=fo at hdv;generalize billsN c dmg ws own co (q.1.take k)=out at hbs hol2 ⊢;have hcl:=flat_len' encBill_len out;have hkc:=λo=>kill_cells encBill_gnd o out
  refine(dI)<|(aq (n3 hlt (au (e:=1) (enc:=encCh) (λ_=>rfl) hx) @encCh.eq_1)) ?_
  by_cases hk0:out=[]
  ·rw[show nst 2 out encBill=[] by rw[hk0];rfl,show nbuf 2 1 out.length=nilS by rw[hk0];rfl]
   have f1:nbuf 2 1 (billsN c dmg ws own co (q.1.take (k+1))).length=.buf 2 1 1 none:=by rw[hbs,hk0];rfl
   have f2:nst 2 (billsN c dmg ws own co (q.1.take (k+1))) encBill=[.gone,.gone,.cells (encBill bb)]:=by rw[hbs,hk0];rfl
   refine(zC)<|(zK hpk (hfl:=.inr (aM.refl rfl)))<|(zR)<|(e8 (n2 hfl hft))<|(zK hru (hwk:=(.cons (.ag (aM.refl (encForm_gnd dmg))) (aM.refl rfl))) (hfl:=.inr (.cons (.ag (aM.refl (encForm_gnd dmg))) (aM.refl rfl))))<|(zR)<|(zC)<|(zK hdv (hfl:=.inr (aM.refl rfl)))<|(zR)<|(zV)<|(aq (zi hlt hlen8)) ?_;refine zX hlt (bg (n3 f1 f2 @encBill.eq_1)) trivial
  ·have hk1:¬out.length=0:=λh=>hk0 (length_eq_zero_iff.1 h)
   have f1:nbuf 2 1 (billsN c dmg ws own co (q.1.take (k+1))).length=.buf 2 (out.length+1) 1 none:=by rw[hbs,be];rfl
   have f2:nst 2 (billsN c dmg ws own co (q.1.take (k+1))) encBill=[.gone,.gone,.cells ((out++[bb]).flatMap encBill)]:=by rw[hbs,nst_snoc];rfl
   have happ:=app_cells encBill_len encBill_gnd 2 out bb;rw[show encBill bb=[kc AV.str aa bb] from rfl,b4] at happ;rw[nst_p hk0,nbuf_p hk1]
   refine(zC)<|(zK hpk (hfl:=.inr (aM.refl rfl)))<|(bE (n2 hkc reps))<|(e8 (n3 hfl hft hkc))<|(zK hru (hwk:=(.cons (.ag (aM.refl (encForm_gnd dmg))) (aM.refl rfl))) (hfl:=.inr (.cons (.ag (aM.refl (encForm_gnd dmg))) (aM.refl rfl))))<|(bE (n2 hkc reps))<|(e8 hkc)<|(zK hdv (hfl:=.inr (aM.refl rfl)))<|(bE hkc)<|(aq (n6 hkc hcl @b4 (show out.length<=1000000 by omega) @aS happ))<|(aq (zi hlt hlen8)) ?_;refine zX hlt (bg (n2 f1 f2)) trivial
 refine(cV) ?_;rw[ax];have hbn:billsN c dmg ws own co q.1≠[]:=λe=>hne (by unfold billsN at e;exact List.map_eq_nil_iff.1 e);have hbk:=hbk q.1;have hbl:=hbl q.1;generalize billsN c dmg ws own co q.1=bills at hbn hbk hbl hS ⊢;rw[nst_p hbn,nbuf_p (λh=>hbn (length_eq_zero_iff.1 h))];refine ak.fg (Fg.freeze (f':=[(7,.ip [ae co.part,ae co.owner,aa co.day,aa co.am]),(18,slS 1 bills encBill)]) 2 rfl (λh=>by cases h) ⟨.inl rfl,.inr (.buf rfl (by rw[flat_all encBill_len];exact aM.refl (ar encBill_gnd _)) (by rw[flat_len' encBill_len];exact aS _)),trivial⟩) ?_;refine ak.fg (st':=⟨[(7,.ip [ae co.part,ae co.owner,aa co.day,aa co.am]),(18,slS 1 bills encBill)],138,[],[]⟩) zH ?_
 (try change ak _ _ _ _ _)
 obtain⟨b0,bs,rfl⟩:∃b0 bs,bills=b0::bs:=by
  cases bills with
  | nil=>exact t7 rfl hbn
  | cons b0 bs=>exact⟨b0,bs,rfl⟩
 have hlk:=leastN_ok hbn hbk;have hls:=p7 (leastN (b0::bs)) (by have:=hlk.len;omega) hlk.nodup hlk.ne;have hle:=wj b0 bs (by rw[ba] at hbl;omega) (hbk b0 bh).nodup;have ha1:=am_ok (right_parts hr).2
 have hoa:∀s∈listN (leastN (b0::bs)),0<s.am/\s.am<=1000000000000:=λs hs=>by have:=hlk.am hs;omega
 have ho2:=hlk.sum.2;generalize leastN (b0::bs)=lb at hls hle hoa ho2 hS;generalize listN lb=out at hls hoa ho2 hS
 refine(zC)<|(zK hle (hfl:=.inr (aM.refl rfl)))<|(zQ)<|(zK hls (hfl:=.inr (aM.refl rfl)))<|(zR)<|(gi) ?_
 have hlen9:out.length<=1000000:=by omega
 refine(zs) ?_;refine zL out (λk=>True) (λk=>[(28,slS 2 out encSh),(29,aa (openN co.am (out.take k))),(125,slS 2 out encSh),(126,aa out.length),(127,aa k)]) (λk=>[]) (Fg.less (by (simp only[bf,aN,cA,↓reduceIte,aj,slS,openN,take_zero,map_nil,e4,fx])<;>(repeat' apply c0)<;>first | rfl | trivial) (by (simp only[bf,aN,or_true,true_or,slS,openN,take_zero,map_nil,e4,fx])<;>(repeat' apply c0)<;>first | exact .inr rfl | exact .inl rfl | trivial)) zp ?_;intro k hk hall;refine zT out k ?_ ?_;rintro rfl;rotate_left;intro s hx hlt;rotate_left
 ·refine(cV) ?_;rw[ax]
  refine(zV)<|(zE) ?_;exact kr.of (rs:=[.tmp 8,.tmp 9,.tmp 10]) (r:=.aO [slS 2 out encSh,aa (openN co.am out),aa 0]) rfl rfl zl zv (by (try simp only[bL,aF]);first | done | (rw[hS];rfl))
 have hos:openN co.am (out.take (k+1))=openN co.am (out.take k)-s.am:=by
  unfold openN;rw[takeN_snoc hx,dc,List.sum_append,map_cons,map_nil,fy,e4];omega
 have hsb:=hoa s (ad hx)
 have hob:openN co.am (out.take k)<=1000000000000 /\ -2000000000000<=openN co.am (out.take k):=by
  have h1:=am_sum (out.take k) (λs hs=>hoa s (List.mem_of_mem_take hs))
  have h2:(out.take k).length<=2:=by rw[b9];omega
  unfold openN;omega
 generalize openN co.am (out.take k)=op at hos hob
 refine(dI)<|(aq (n3 hlt (au (e:=2) (enc:=encSh) (λ_=>rfl) hx) @encSh.eq_1))<|(zs) ?_;refine ak.r0 (by rfl) (gf (bS op s.am (by omega))) ?_;refine(aq (zi hlt hlen9)) ?_;refine zX hlt (bg hos) trivial
abbrev BIG:Nat:=1000000000000000
def shortB(e:EvM):Bool:=decide ((e.part.length:Int)<=300)&&(decide ((e.kind.length:Int)<=300)&&(decide ((e.into.length:Int)<=300)&&(decide ((e.slot.length:Int)<=300)&&(decide ((e.key.length:Int)<=300)&&decide ((e.value.length:Int)<=300)))))
def tM(e:EvM):PC prog 109 [.ag (encEv e)] (·=ao (shortB e)):=by
 refine pB 37 Tryz.func109 ?_;rw[encEv_eq];unfold shortB;refine(zV) ?_;cases g1:decide ((e.part.length:Int)<=300)
 ·exact(aq g1)<|zo [.tmp 2]
 cases g2:decide ((e.kind.length:Int)<=300)
 ·exact(aq (n2 g1 g2))<|zo [.tmp 2]
 cases g3:decide ((e.into.length:Int)<=300)
 ·exact(aq (n3 g1 g2 g3))<|zo [.tmp 2]
 cases g4:decide ((e.slot.length:Int)<=300)
 ·exact(aq (n4 g1 g2 g3 g4))<|zo [.tmp 2]
 cases g5:decide ((e.key.length:Int)<=300)
 ·exact(aq (n5 g1 g2 g3 g4 g5))<|zo [.tmp 2]
 exact(aq (n5 g1 g2 g3 g4 g5))<|zo [.tmp 2]
def few09(l:List EvM)(most:Int):Bool:=(l.take (most+1).toNat).all shortB&&decide ((l.length:Int)<=most)
def take_all{α:Type}{p:α->Bool}{l:List α}{n:Nat}{k:Nat}{x:α}(hx:l[k]?=some x)(hk:k<n)(hp:p x=false):(l.take n).all p=false:=by
 refine eq_false_iff.2 λh=>?_;have:=all_eq_true.1 h x (by rw[cd];exact⟨k,by rw[b6,t8 hk];exact hx⟩);rw[hp] at this;cases this
def take_more{α:Type}{p:α->Bool}{l:List α}{n k:Nat}(h:(l.take k).all p=true)(hk:n<=k\/l.length<=k):(l.take n).all p=true:=by
 rw[all_eq_true] at h ⊢;intro x hx;refine h x ?_;rw[cd] at hx ⊢;obtain⟨i,hi⟩:=hx;rw[b6] at hi;split at hi
 ·rename_i h1;have:=aE hi;exact⟨i,by rw[b6,t8 (by omega)];exact hi⟩
 ·cases hi
def all_snoc{α:Type}{p:α->Bool}{l:List α}{k:Nat}{x:α}(hx:l[k]?=some x)(h:(l.take k).all p=true)(hp:p x=true):(l.take (k+1)).all p=true:=by
 rw[takeN_snoc hx,c4,h];show(true&&(p x&&true))=true;rw[hp];rfl
def x7(l:List EvM)(most:Int)(hm:0<=most)(hlen:l.length<=BIG):PC prog 64 [slS 14 l encEv,aa most] (·=ao (Proofs.few09 l most)):=by
 refine pB 27 Tryz.func64 ?_;refine(gi) ?_
 have hfin:∀k,(l.take k).all shortB=true->(l.length<=k\/most<(k:Int))->Proofs.few09 l most=decide ((l.length:Int)<=most):=λk h hk=>by
  rw[Proofs.few09,take_more h (by omega),d6]
 refine(zs) ?_;refine zL l (λk=>(l.take k).all shortB=true) (λk=>[(0,slS 14 l encEv),(1,aa most),(5,aa k)]) (λk=>[]) zH zp ?_;intro k hk hall;by_cases hlt:k<l.length;rotate_left
 ·exact(aq (show decide ((k:Int)<(l.length:Int))=false by simp only[wd];omega))<|(cV)<|(zV)<|zo [.tmp 4] (hq:=by rw[hfin k hall (by omega)])
 have hd:=show decide ((k:Int)<(l.length:Int))=true by simp only[wp];omega
 obtain⟨x,hx⟩:∃x,l[k]?=some x:=⟨l[k],ac hlt⟩;cases g:decide ((k:Int)<=most)
 ·refine(aq (n2 hd g))<|(cV) ?_
  have:=wt g
  exact(zV)<|zo [.tmp 4] (hq:=by rw[hfin k hall (by omega)])
 refine(aq (n2 hd g))<|(dI) ?_
 have hg:=ww g
 refine(e8 (n2 hlt (au (e:=14) (enc:=encEv) (λ_=>rfl) hx)))<|(zK (tM x)) ?_
 cases hs:shortB x
 ·exact(zR)<|(bq)<|zo [.tmp 4] (hq:=by rw[show Proofs.few09 l most=false by rw[Proofs.few09,take_all hx (by omega) hs];rfl])
 refine(zR)<|(zN)<|(aq (zi hlt hlen)) ?_;refine zX hlt zH (all_snoc hx hall hs)
def few13(l:List RepM)(most:Int):Bool:=if (l.length:Int)<=most then l.all λr=>Proofs.few09 r.opts 6 else false
def x9(l:List RepM)(most:Int)(hlen:l.length<=BIG)(ho:∀r∈l,r.opts.length<=BIG):PC prog 31 [slS 2 l encRep,aa most] (·=ao (Proofs.few13 l most)):=by
 refine pB 29 Tryz.func31 ?_;refine(gi) ?_;cases hm:decide ((l.length:Int)<=most)
 ·refine(zs) ?_;refine zL l (λk=>True) (λk=>[(0,slS 2 l encRep),(1,aa most),(5,aa k)]) (λk=>[]) zH zp ?_;intro k hk hall;cases hb:decide ((k:Int)<(l.length:Int))
  ·exact(aq hb)<|(cV)<|(aq hm)<|zo [.tmp 4] (hq:=by rw[Proofs.few13,ul (wt hm)])
  ·exact(aq (n2 hb hm))<|(cV)<|(aq hm)<|zo [.tmp 4] (hq:=by rw[Proofs.few13,ul (wt hm)])
 have hN:Proofs.few13 l most=l.all λr=>Proofs.few09 r.opts 6:=by rw[Proofs.few13,t8 (ww hm)]
 refine(zs) ?_;refine zL l (λk=>((l.take k).all λr=>Proofs.few09 r.opts 6)=true) (λk=>[(0,slS 2 l encRep),(1,aa most),(5,aa k)]) (λk=>[]) zH zp ?_;intro k hk hall;by_cases hlt:k<l.length;rotate_left
 ·refine(aq (show decide ((k:Int)<(l.length:Int))=false by simp only[wd];omega))<|(cV) ?_
  have h1:=take_more (n:=l.length) hall (by omega);rw[ax] at h1
  exact(aq hm)<|zo [.tmp 4] (hq:=by rw[hN,h1])
 have hd:=show decide ((k:Int)<(l.length:Int))=true by simp only[wp];omega
 obtain⟨x,hx⟩:∃x,l[k]?=some x:=⟨l[k],ac hlt⟩
 refine(aq (n2 hd hm))<|(dI)<|(e8 (n3 hlt (au (e:=2) (enc:=encRep) (λ_=>rfl) hx) @encRep.eq_1))<|(zK (x7 x.opts 6 (by decide) (ho x (ad hx)))) ?_
 cases hs:Proofs.few09 x.opts 6
 ·exact(zR)<|(bq)<|zo [.tmp 4] (hq:=by rw[hN,show(l.all λr=>Proofs.few09 r.opts 6)=false from eq_false_iff.2 λh=>by have:=all_eq_true.1 h x (ad hx);rw[hs] at this;cases this])
 refine(zR)<|(zN)<|(aq (zi hlt hlen)) ?_;refine zX hlt zH (all_snoc hx hall hs)
def few43(ws:List Wy)(c:Co):Bool:=decide ((ws.length:Int)<=6)&&(ws.all (λw=>decide ((w.kind.length:Int)+(w.maker.length:Int)<=300))&&decide ((c.part.length:Int)+(c.owner.length:Int)<=300))
def yc(ws:List Wy)(c:Co)(hlen:ws.length<=BIG)(hw:∀w∈ws,w.kind.length<=BIG/\w.maker.length<=BIG)(hc:c.part.length<=BIG/\c.owner.length<=BIG):PC prog 16 [slS 5 ws encWy,.ag (encCo c)] (·=ao (Proofs.few43 ws c)):=by
 refine pB 44 Tryz.func16 ?_;rw[encCo_eq];refine(zV) ?_;refine ak.fg (Fg.freeze (f':=[(0,slS 5 ws encWy),(3,.ip [ae c.part,ae c.owner,aa c.day,aa c.am])]) 0 rfl (λh=>by cases h) (jM @slS.eq_1)) ?_;refine ak.fg (st':=⟨[(0,slS 5 ws encWy),(3,.ip [ae c.part,ae c.owner,aa c.day,aa c.am])],44,[],[]⟩) zH ?_
 (try change ak _ _ _ _ _)
 refine(zV) ?_;have hca:=iP (P:=prog) (t:=3) (show -9223372036854775808<=(c.part.length:Int)+(c.owner.length:Int)/\(c.part.length:Int)+(c.owner.length:Int)<=9223372036854775807 from by unfold BIG at hc;omega);cases hm:decide ((ws.length:Int)<=6)
 ·refine(zs) ?_;refine ak.block (ak.loop (λm st=>∃k:Nat,k<=ws.length/\m=ws.length-k/\(True)/\st=⟨[(0,slS 5 ws encWy),(3,.ip [ae c.part,ae c.owner,aa c.day,aa c.am]),(5,aa k)],44,[],[]⟩) ws.length (Fg.less Fj FM) ⟨0,bw _,rfl,(by first | exact λi y h=>t7 h (ca _) | trivial | rfl | assumption),rfl⟩ (by rintro m st ⟨k,_,_,_,rfl⟩;rfl) ?_);rintro m st ⟨k,hk,rfl,hall,rfl⟩
  have hN:Proofs.few43 ws c=false:=by rw[Proofs.few43,hm];rfl
  cases hb:decide ((k:Int)<(ws.length:Int))
  ·refine(zs) ?_;refine ak.r0 (by rfl) (gf hb) ?_;refine(cV)<|(zs) ?_;refine ak.r0 (by rfl) (gf hm) ?_;refine(zE) ?_;exact kr.of (rs:=[.tmp 4]) rfl rfl zl (Wk.refl rfl) (by (try simp only[bL,aF]);first | done | (rw[hN]))
  ·refine(zs) ?_;refine ak.r0 (by rfl) (gf (n2 hb hm)) ?_;refine(cV)<|(zs) ?_;refine ak.r0 (by rfl) (gf hm) ?_;refine(zE) ?_;exact kr.of (rs:=[.tmp 4]) rfl rfl zl (Wk.refl rfl) (by (try simp only[bL,aF]);first | done | (rw[hN]))
 refine(zs) ?_;refine ak.block (ak.loop (λm st=>∃k:Nat,k<=ws.length/\m=ws.length-k/\(((ws.take k).all λw=>decide ((w.kind.length:Int)+(w.maker.length:Int)<=300))=true)/\st=⟨[(0,slS 5 ws encWy),(3,.ip [ae c.part,ae c.owner,aa c.day,aa c.am]),(5,aa k)],44,[],[]⟩) ws.length (Fg.less Fj FM) ⟨0,bw _,rfl,(by first | exact λi y h=>t7 h (ca _) | trivial | rfl | assumption),rfl⟩ (by rintro m st ⟨k,_,_,_,rfl⟩;rfl) ?_);rintro m st ⟨k,hk,rfl,hall,rfl⟩;by_cases hlt:k<ws.length;rotate_left
 ·refine(zs) ?_;refine ak.r0 (by rfl) (gf (show decide ((k:Int)<(ws.length:Int))=false by simp only[wd];omega)) ?_;refine(cV) ?_;have h1:=take_more (n:=ws.length) hall (by omega);rw[ax] at h1;refine(zs) ?_;refine ak.r0 (by rfl) (gf (n2 hm hca)) ?_;refine(zE) ?_;exact kr.of (rs:=[.tmp 4]) rfl rfl zl (Wk.refl rfl) (by (try simp only[bL,aF]);first | done | (rw[Proofs.few43,hm,h1];rfl))
 have hd:=show decide ((k:Int)<(ws.length:Int))=true by simp only[wp];omega
 obtain⟨x,hx⟩:∃x,ws[k]?=some x:=⟨ws[k],ac hlt⟩;have hwx:=hw x (ad hx);have hwa:=iP (P:=prog) (t:=3) (show -9223372036854775808<=(x.kind.length:Int)+(x.maker.length:Int)/\(x.kind.length:Int)+(x.maker.length:Int)<=9223372036854775807 from by unfold BIG at hwx;omega);refine(zs) ?_;refine ak.r0 (by rfl) (gf (n2 hd hm)) ?_;refine(dI) ?_;cases hs:decide ((x.kind.length:Int)+(x.maker.length:Int)<=300)
 ·refine(zs) ?_;refine ak.BG (ms:=[0,0,3,7,15,31,0,0,192,448,960,1984,4095,8191]) rfl (by kernel_rfl) (by kernel_rfl) ?_
  (repeat (first | refine SD.r (by rfl) rfl (by rfl) (by rfl) (gf (n5 hlt (au (e:=5) (enc:=encWy) (λ_=>rfl) hx) @encWy_eq hwa (show decide (300<(x.kind.length:Int)+(x.maker.length:Int))=true by simp only[wp];have:=wt hs;omega))) ?_ | refine SD.s (by rfl) rfl (by rfl) (by rfl) ?_ | fail))
  refine(zM)<|(bq)<|(zE) ?_;exact kr.of (rs:=[.tmp 4]) rfl rfl zl (Wk.refl rfl) (by (try simp only[bL,aF]);first | done | (rw[Proofs.few43,hm,show(ws.all λw=>decide ((w.kind.length:Int)+(w.maker.length:Int)<=300))=false from eq_false_iff.2 λh=>by have:=all_eq_true.1 h x (ad hx);rw[hs] at this;cases this];rfl))
 ·refine(zs) ?_;refine ak.BG (ms:=[0,0,3,7,15,31,0,0,192,448,960,1984,4095,8191]) rfl (by kernel_rfl) (by kernel_rfl) ?_
  (repeat (first | refine SD.r (by rfl) rfl (by rfl) (by rfl) (gf (n5 hlt (au (e:=5) (enc:=encWy) (λ_=>rfl) hx) @encWy_eq hwa (show decide (300<(x.kind.length:Int)+(x.maker.length:Int))=false by simp only[wd];have:=ww hs;omega))) ?_ | refine SD.s (by rfl) rfl (by rfl) (by rfl) ?_ | fail))
  refine(zM)<|(zN)<|(aq (zi hlt hlen)) ?_;refine zX hlt zH (all_snoc hx hall hs)
def iv09(a b:Int):Bool:=decide (0<=a)&&(decide (a<=b)&&decide (b<=1000000))
def m6(a b:Int):PC prog 203 [.ag [aa a,aa b]] (·=ao (Proofs.iv09 a b)):=by
 refine pB 18 Tryz.func203 ?_;unfold Proofs.iv09;refine(zV) ?_;cases g1:decide (0<=a)
 ·exact(aq g1)<|zo [.tmp 2]
 cases g2:decide (a<=b)
 ·exact(aq (n2 g1 g2))<|zo [.tmp 2]
 exact(aq (n2 g1 g2))<|zo [.tmp 2]
def use09(u:UseM):Bool:=Proofs.iv09 u.u1 u.u2&&(Proofs.iv09 u.u3 u.u4&&Proofs.iv09 u.u5 u.u6)
def yM(u:UseM):PC prog 184 [.ag (encUse u)] (·=ao (Proofs.use09 u)):=by
 refine pB 16 Tryz.func184 ?_;unfold Proofs.use09
 refine(aq @encUse.eq_1)<|(zC)<|(zK (m6 u.u1 u.u2)) ?_
 cases g1:Proofs.iv09 u.u1 u.u2
 ·exact(zR)<|zo [.tmp 2]
 refine(zQ)<|(zK (m6 u.u3 u.u4)) ?_
 cases g2:Proofs.iv09 u.u3 u.u4
 ·exact(zR)<|zo [.tmp 2]
 exact(zQ)<|(zK (m6 u.u5 u.u6))<|(zR)<|zo [.tmp 2]
def kN(x y:EvM):bz prog .eql 69 (.agg [.int .i64 x.op,.int .i64 x.day,.str x.part,.str x.kind,.str x.into,.str x.slot,.str x.key,.str x.value,.int .i64 x.u1,.int .i64 x.u2,.int .i64 x.u3,.int .i64 x.u4,.int .i64 x.u5,.int .i64 x.u6]) (.agg [.int .i64 y.op,.int .i64 y.day,.str y.part,.str y.kind,.str y.into,.str y.slot,.str y.key,.str y.value,.int .i64 y.u1,.int .i64 y.u2,.int .i64 y.u3,.int .i64 y.u4,.int .i64 y.u5,.int .i64 y.u6])=some (.bool (decide (x=y))):=rT x y
def rest09(e:EvM):EvM:=
 if e.op=1 then ⟨e.op,e.day,e.part,e.kind,[],[],[],[],0,0,0,0,0,0⟩
 else if e.op=2 then ⟨e.op,e.day,e.part,[],e.into,e.slot,[],[],0,0,0,0,0,0⟩
 else if e.op=4 then ⟨e.op,e.day,e.part,[],[],[],[],[],e.u1,e.u2,e.u3,e.u4,e.u5,e.u6⟩
 else if e.op=6 then ⟨e.op,e.day,e.part,[],[],[],e.key,e.value,0,0,0,0,0,0⟩
 else ⟨e.op,e.day,e.part,[],[],[],[],[],0,0,0,0,0,0⟩
def good09(e:EvM):Bool:=
 if e.op=1 then nameN e.kind
 else if e.op=2 then nameN e.into&&(nameN e.slot&&!(decide (e.into=e.part)))
 else if e.op=4 then Proofs.use09 (useOf e)
 else if e.op=6 then nameN e.key&&(decide (1<=(e.value.length:Int))&&decide ((e.value.length:Int)<=200))
 else true
def valid09(e:EvM):Bool:=!(decide (e.op<1))&&(!(decide (7<e.op))&&(!(decide (e.day<0))&&(!(decide (40000<e.day))&&(nameN e.part&&(good09 e&&decide (rest09 e=e))))))
def tQ(e:EvM)(he:EvOk e):PC prog 147 [.ag (encEv e)] (·=ao (Proofs.valid09 e)):=by
 refine pB 106 Tryz.func147 ?_;rw[encEv_eq];refine(zV) ?_;cases h1:decide (e.op<1);rotate_left
 ·exact(aq h1)<|(bq)<|zo [.tmp 2] (hq:=by rw[Proofs.valid09,h1];rfl)
 cases h2:decide (7<e.op);rotate_left
 ·exact(aq (n2 h1 h2))<|(bq)<|zo [.tmp 2] (hq:=by rw[Proofs.valid09,h1,h2];rfl)
 cases h3:decide (e.day<0);rotate_left
 ·exact(aq (n3 h1 h2 h3))<|(bq)<|zo [.tmp 2] (hq:=by rw[Proofs.valid09,h1,h2,h3];rfl)
 cases h4:decide (40000<e.day);rotate_left
 ·exact(aq (n4 h1 h2 h3 h4))<|(bq)<|zo [.tmp 2] (hq:=by rw[Proofs.valid09,h1,h2,h3,h4];rfl)
 refine(e8 (n4 h1 h2 h3 h4))<|(zK (eZ e.part he.part.1)) ?_
 cases h5:nameN e.part
 ·exact(zR)<|(bq)<|zo [.tmp 2] (hq:=by rw[Proofs.valid09,h1,h2,h3,h4,h5];rfl)
 refine(zR)<|(zN) ?_
 have hv:Proofs.valid09 e=(good09 e&&decide (rest09 e=e)):=by rw[Proofs.valid09,h1,h2,h3,h4,h5];rfl
 clear h1 h2 h3 h4 h5
 refine(gi)<|(zV) ?_
 (repeat refine ak.seq ?_)
 refine ak.mono (Q:=λex st=>ex=.normal/\Fg st ⟨[(1,.ptr 0 0),(3,.ptr 1 0),(4,ao (good09 e))],106,[.cells (encEv e),.cells (encEv (rest09 e))],[]⟩) ?_ ?_;rotate_left
 ·rintro ex st ⟨rfl,hf⟩;change ak _ _ _ _ _;refine ak.fg hf ?_;rw[hv];cases hg:good09 e
  ·exact(zV)<|zo [.tmp 2]
  ·exact(aq (n2 @encEv.eq_1 (kN (rest09 e) e)))<|zo [.tmp 2]
 have hrest:∀a1 a2 a3 a4 a5 a6 a7 a8 a9 a10 a11 a12 a13 a14,rest09 e=(⟨a1,a2,a3,a4,a5,a6,a7,a8,a9,a10,a11,a12,a13,a14⟩:EvM)->encEv (rest09 e)=[aa a1,aa a2,ae a3,ae a4,ae a5,ae a6,ae a7,ae a8,aa a9,aa a10,aa a11,aa a12,aa a13,aa a14]:=by
  intros;simp only[*,encEv]
 refine ak.block ?_;refine(zV) ?_;cases k1:decide (e.op=1);rotate_left
 ·have k1':=ww k1;have hr:=hrest _ _ _ _ _ _ _ _ _ _ _ _ _ _ (show rest09 e=_ by unfold rest09;rw[t8 k1'])
  have hgd:good09 e=nameN e.kind:=by unfold good09;rw[t8 k1']
  refine(bq)<|(zC)<|(zK (eZ e.kind he.kind.1))<|(zR) ?_;refine⟨rfl,?_⟩
  rw[hr,hgd,encEv_eq];exact zH
 have n1:=wt k1;refine(ee) ?_;cases k2:decide (e.op=2);rotate_left
 ·have k2':=ww k2;have hr:=hrest _ _ _ _ _ _ _ _ _ _ _ _ _ _ (show rest09 e=_ by unfold rest09;rw[ul n1,t8 k2'])
  have hgd:good09 e=(nameN e.into&&(nameN e.slot&&!(decide (e.into=e.part)))):=by unfold good09;rw[ul n1,t8 k2']
  rw[hgd,hr,encEv_eq]
  refine(bq)<|(fe)<|(zK (eZ e.into he.into.1)) ?_
  cases j1:nameN e.into
  ·refine(zR) ?_;refine⟨rfl,?_⟩;exact zH
  refine(zQ)<|(zK (eZ e.slot he.slot.1)) ?_
  cases j2:nameN e.slot
  ·refine(zR) ?_;refine⟨rfl,?_⟩;exact zH
  refine(zR) ?_;refine⟨rfl,?_⟩;exact zH
 have n2:=wt k2;refine(ee) ?_;cases k4:decide (e.op=4);rotate_left
 ·have k4':=ww k4;have hr:=hrest _ _ _ _ _ _ _ _ _ _ _ _ _ _ (show rest09 e=_ by unfold rest09;rw[ul n1,ul n2,t8 k4'])
  have hgd:good09 e=Proofs.use09 (useOf e):=by unfold good09;rw[ul n1,ul n2,t8 k4']
  rw[hgd,hr,encEv_eq]
  refine(bq)<|(zC)<|(zK (yM (useOf e)))<|(zR) ?_;refine⟨rfl,?_⟩;exact zH
 have n4:=wt k4;refine(ee) ?_;cases k6:decide (e.op=6);rotate_left
 ·have k6':=ww k6;have hr:=hrest _ _ _ _ _ _ _ _ _ _ _ _ _ _ (show rest09 e=_ by unfold rest09;rw[ul n1,ul n2,ul n4,t8 k6'])
  have hgd:good09 e=(nameN e.key&&(decide (1<=(e.value.length:Int))&&decide ((e.value.length:Int)<=200))):=by unfold good09;rw[ul n1,ul n2,ul n4,t8 k6']
  rw[hgd,hr,encEv_eq]
  refine(bq)<|(fe)<|(zK (eZ e.key he.key.1)) ?_
  cases j1:nameN e.key
  ·refine(zR) ?_;refine⟨rfl,?_⟩;exact zH
  cases j2:decide (1<=(e.value.length:Int))
  ·refine(bE j2) ?_;refine⟨rfl,?_⟩;exact zH
  refine(bE j2) ?_;refine⟨rfl,?_⟩;exact zH
 have n6:=wt k6;have hr:=hrest _ _ _ _ _ _ _ _ _ _ _ _ _ _ (show rest09 e=_ by unfold rest09;rw[ul n1,ul n2,ul n4,ul n6])
 have hgd:good09 e=true:=by unfold good09;rw[ul n1,ul n2,ul n4,ul n6]
 rw[hgd,hr,encEv_eq];refine(zN) ?_
 (try (refine ak.skip ?_))
 refine⟨rfl,?_⟩;exact zH
def ok13(l:List EvM)(i:Nat):Bool:=match l[i]? with
 | some y=>Proofs.valid09 y&&(l.take i).all λx=>!(decide (x=y))
 | none=>true
def valid13(r:RepM):Bool:=!(decide ((r.opts.length:Int)<1))&&(!(decide (4<(r.opts.length:Int)))&&(ej r.opts.length).all (ok13 r.opts))
def tR(r:RepM)(hr:RepOk r):PC prog 110 [.ag (encRep r)] (·=ao (Proofs.valid13 r)):=by
 refine pB 45 Tryz.func110 ?_;refine(aq @encRep.eq_1) ?_;refine ak.fg (Fg.freeze (f':=[(1,.ip [slS 14 r.opts encEv,ao r.doubt])]) 0 rfl (λh=>by cases h) (jM @slS.eq_1)) ?_;refine ak.fg (st':=⟨[(1,.ip [slS 14 r.opts encEv,ao r.doubt])],45,[],[]⟩) zH ?_
 (try change ak _ _ _ _ _)
 cases g1:decide ((r.opts.length:Int)<1);rotate_left
 ·exact(aq g1)<|(bq)<|zo [.tmp 2] (hq:=by rw[Proofs.valid13,g1];rfl)
 cases g2:decide (4<(r.opts.length:Int));rotate_left
 ·exact(aq (n2 g1 g2))<|(bq)<|zo [.tmp 2] (hq:=by rw[Proofs.valid13,g1,g2];rfl)
 have hN:Proofs.valid13 r=(ej r.opts.length).all (ok13 r.opts):=by rw[Proofs.valid13,g1,g2];rfl
 have hlen:=hr.len
 refine(aq (n2 g1 g2))<|(ee)<|(zs) ?_;refine zL r.opts (λk=>(ej k).all (ok13 r.opts)=true) (λk=>[(1,.ip [slS 14 r.opts encEv,ao r.doubt]),(3,aa k)]) (λk=>[]) zH zp ?_;intro k hk hall
 by_cases hlt:k<r.opts.length;rotate_left
 ·obtain rfl:k=r.opts.length:=by omega
  exact(aq (show decide ((r.opts.length:Int)<(r.opts.length:Int))=false by simp))<|(cV)<|(zV)<|zo [.tmp 2] (hq:=by rw[hN,hall])
 have hd:=show decide ((k:Int)<(r.opts.length:Int))=true by simp only[wp];omega
 obtain⟨y,hx⟩:∃x,r.opts[k]?=some x:=⟨r.opts[k],ac hlt⟩
 have hoy:ok13 r.opts k=(Proofs.valid09 y&&(r.opts.take k).all λx=>!(decide (x=y))):=by unfold ok13;rw[hx]
 have hbad:ok13 r.opts k=false->Proofs.valid13 r=false:=λh=>by
  rw[hN];refine eq_false_iff.2 λh2=>?_;have:=all_eq_true.1 h2 k (List.mem_range.2 hlt);rw[h] at this;cases this
 refine(aq hd)<|(dI) ?_
 (repeat refine ak.seq ?_)
 refine(e8 (n2 hlt (au (e:=14) (enc:=encEv) (λ_=>rfl) hx)))<|(zK (tQ y (hr.ev y (ad hx)))) ?_
 cases hs:Proofs.valid09 y
 ·exact(zR)<|(bq)<|zo [.tmp 2] (hq:=by rw[hbad (by rw[hoy,hs];rfl)])
 rw[hs,d6] at hoy
 refine(zR)<|(ee) ?_
 have htl:(r.opts.take k).length=k:=by rw[b9];omega
 refine(zs) ?_;refine zL (r.opts.take k) (λk2=>(((r.opts.take k).take k2).all λx=>!(decide (x=y)))=true) (λk2=>[(1,.ip [slS 14 r.opts encEv,ao r.doubt]),(3,aa k),(4,aa k2)]) (λk2=>[]) zH zp ?_;intro k2 hk2 hall2;by_cases hlt2:k2<(r.opts.take k).length;rotate_left
 ·have hk2:k2=k:=by omega
  refine(aq (show decide ((k2:Int)<(k:Int))=false by simp only[wd];omega))<|(cV) ?_
  have h1:=take_more (n:=(r.opts.take k).length) hall2 (by omega);rw[ax] at h1
  have hnx:(ej (k+1)).all (ok13 r.opts)=true:=by
   rw[fd,c4,hall,d6];show(ok13 r.opts k&&true)=true;rw[hoy,h1];rfl
  refine(aq (zi hlt hlen)) ?_;refine zX hlt zH hnx
 obtain⟨x,hx2⟩:∃x,(r.opts.take k)[k2]?=some x:=⟨(r.opts.take k)[k2],ac hlt2⟩
 have hx3:r.opts[k2]?=some x:=by
  rw[b6] at hx2;split at hx2
  ·exact hx2
  ·cases hx2
 have hlt3:k2<r.opts.length:=by omega
 have hlen2:(r.opts.take k).length<=1000000:=by omega
 refine(aq (show decide ((k2:Int)<(k:Int))=true by simp only[wp];omega))<|(dI) ?_
 cases he:decide (x=y)
 ·refine(zs) ?_;refine kU [0,1,0,7,15,0,32,0,224,480,1023] ?_;refine(jL (n7 hlt hlt3 (au (e:=14) (enc:=encEv) (λ_=>rfl) hx) (au (e:=14) (enc:=encEv) (λ_=>rfl) hx3) @encEv.eq_1 (kN x y) he))<|(zM)<|(zN)<|(aq (zi hlt2 hlen2)) ?_;refine zX hlt2 zH (all_snoc hx2 hall2 (by rw[he];rfl))
 ·refine(zs) ?_;refine kU [0,1,0,7,15,0,32,0,224,480,1023] ?_;exact(jL (n7 hlt hlt3 (au (e:=14) (enc:=encEv) (λ_=>rfl) hx) (au (e:=14) (enc:=encEv) (λ_=>rfl) hx3) @encEv.eq_1 (kN x y) he))<|(zM)<|(bq)<|zo [.tmp 2] (hq:=by rw[hbad (by rw[hoy];refine eq_false_iff.2 λh=>?_;have:=all_eq_true.1 h x (ad hx2);rw[he] at this;cases this)])
def choices13(r:RepM):Int:=if Proofs.valid13 r=false then 0 else if r.doubt=true then (r.opts.length:Int)+1 else r.opts.length
def choices13_le(r:RepM):choices13 r<=5/\0<=choices13 r:=by
 unfold choices13;split
 ·omega
 ·rename_i h;have h4:¬4<(r.opts.length:Int):=λhg=>h (by rw[Proofs.valid13,ut hg];cases decide ((r.opts.length:Int)<1)<;>rfl);split<;>omega
def pS(r:RepM)(hr:RepOk r):PC prog 65 [.ag (encRep r)] (·=aa (Proofs.choices13 r)):=by
 refine pB 15 Tryz.func65 ?_;have hlen:=hr.len
 refine(aq @encRep.eq_1)<|(zC)<|(zK (tR r hr)) ?_
 cases h:Proofs.valid13 r
 ·exact(zR)<|(bq)<|zo [.tmp 2] (hq:=by rw[Proofs.choices13,t8 h])
 have hN:Proofs.choices13 r=if r.doubt=true then (r.opts.length:Int)+1 else r.opts.length:=by rw[Proofs.choices13,ul (by rw[h];decide)]
 refine(zR)<|(zN) ?_
 cases hd:r.doubt
 ·rw[hd] at hN
  exact(yT)<|(zV)<|zo [.tmp 2] (hq:=by rw[hN];rfl)
 ·rw[hd] at hN
  refine(oD)<|(zs) ?_;refine ak.r0 (by rfl) (gf (bA (r.opts.length:Int) 1 (by omega))) ?_;refine(zE) ?_;exact kr.of (rs:=[.tmp 2]) rfl rfl zl (Wk.refl rfl) (by (try simp only[bL,aF]);first | done | (rw[hN];rfl))
def ways13(most:Int):List RepM->Int->Int
 | [],n=>n
 | r::l,n=>if n<=most then ways13 most l (n*maxI 1 (choices13 r)) else n
def wU(l:List RepM)(most:Int)(hm:most<=1000)(hl:∀r∈l,RepOk r)(hlen:l.length<=1000000):PC prog 32 [slS 2 l encRep,aa most] (·=aa (Proofs.ways13 most l 1)):=by
 refine pB 27 Tryz.func32 ?_;refine(gi)<|(zV)<|(zs) ?_;refine Bl l (λk (n:Int)=>(Proofs.ways13 most l 1=Proofs.ways13 most (l.drop k) n/\0<=n/\n<=1000000)) (λk n=>[(0,slS 2 l encRep),(1,aa most),(5,aa n),(6,aa k)]) (λk n=>[]) (1) zH (by exact⟨rfl,by decide,by decide⟩) ?_;intro k n hk hall
 obtain⟨hw,hn0,hn1⟩:=hall;by_cases hlt:k<l.length;rotate_left
 ·refine(aq (show decide ((k:Int)<(l.length:Int))=false by simp only[wd];omega))<|(cV) ?_
  rw[dv (by omega),Proofs.ways13] at hw
  exact(zV)<|zo [.tmp 4] (hq:=by rw[hw])
 have hd:=show decide ((k:Int)<(l.length:Int))=true by simp only[wp];omega
 obtain⟨x,hx⟩:∃x,l[k]?=some x:=⟨l[k],ac hlt⟩;rw[drop_at hx,Proofs.ways13] at hw;cases g:decide (n<=most)
 ·rw[ul (wt g)] at hw
  exact(aq (n2 hd g))<|(cV)<|(zV)<|zo [.tmp 4] (hq:=by rw[hw])
 rw[t8 (ww g)] at hw;have hg:=ww g;have hc:=choices13_le x
 have hmx:0<=maxI 1 (Proofs.choices13 x)/\maxI 1 (Proofs.choices13 x)<=5:=by unfold maxI;split<;>omega
 have hch:=pS x (hl x (ad hx))
 have hnm:0<=n*maxI 1 (Proofs.choices13 x)/\n*maxI 1 (Proofs.choices13 x)<=1000000:=by
  refine⟨Int.mul_nonneg hn0 hmx.1,?_⟩;have h1:=Int.mul_le_mul_of_nonneg_left hmx.2 hn0;omega
 refine(aq (n2 hd g))<|(dI)<|(e8 (n3 hlt (au (e:=2) (enc:=encRep) (λ_=>rfl) hx) @encRep.eq_1))<|(zK hch) ?_;refine aB.r0 (by rfl) (gf (n2 @max_int (bM n (maxI 1 (Proofs.choices13 x)) (by omega)))) ?_;refine(aq (zi hlt hlen)) ?_;refine xf hlt ((n*maxI 1 (Proofs.choices13 x))) zH (⟨hw,hnm.1,hnm.2⟩)
inductive FormBig:FormM->Prop
 | mk {op n:Int} {kids:List FormM}:kids.length<=BIG->(∀k∈kids,FormBig k)->FormBig (.mk op n kids)
def mg:∀(d:Nat) (f:FormM),SizeOf.sizeOf f<d->FormBig f->∀most:Int,PC Tryz.prog 63 [.ag (encForm f),aa most] (·=aa (nodesF f most))
 | 0,f,hd,_,_=>t7 hd (Nat.not_lt_zero _)
 | d+1,.mk op n kids,hd,hf,most=>by
  cases hf with
  | mk hlen hks=>
  have hkd:∀k∈kids,SizeOf.sizeOf k<d:=λk hk=>by
   have h1:=List.sizeOf_lt_of_mem hk
   have h2:SizeOf.sizeOf (FormM.mk op n kids)=1+SizeOf.sizeOf op+SizeOf.sizeOf n+SizeOf.sizeOf kids:=by simp
   omega
  rw[encForm_mk,nodesF];refine pB 31 Tryz.func63 ?_;refine(zV) ?_;refine ak.fg (Fg.freeze (f':=[(1,aa most),(2,.ip [aa op,aa n,slS 3 kids encForm])]) 0 rfl (λh=>by cases h) (jM @slS.eq_1)) ?_;refine ak.fg (st':=⟨[(1,aa most),(2,.ip [aa op,aa n,slS 3 kids encForm])],31,[],[]⟩) zH ?_
  (try change ak _ _ _ _ _)
  refine(gi)<|(zs) ?_;refine Bl kids (λk (acc:Int)=>nodesL kids most 1=nodesL (kids.drop k) most acc) (λk acc=>[(1,aa most),(2,.ip [aa op,aa n,slS 3 kids encForm]),(5,aa acc),(6,aa k)]) (λk acc=>[]) (1) zH (by rfl) ?_;intro k acc hk hall
  by_cases hlt:k<kids.length;rotate_left
  ·refine(aq (show decide ((k:Int)<(kids.length:Int))=false by simp only[wd];omega))<|(cV) ?_
   rw[List.drop_of_length_le (by omega),nodesL] at hall
   exact(zV)<|zo [.tmp 4] (hq:=by rw[hall])
  have hd:=show decide ((k:Int)<(kids.length:Int))=true by simp only[wp];omega
  obtain⟨x,hx⟩:∃x,kids[k]?=some x:=⟨kids[k],List.getElem?_eq_getElem hlt⟩;rw[drop_at hx,nodesL] at hall;have hxm:=List.mem_of_getElem? hx;have ih:=mg d x (hkd x hxm) (hks x hxm);have hxl:((kids.flatMap encForm).drop (k*3)).take 3=encForm x:=au (e:=3) (enc:=encForm) encForm_len hx;obtain⟨op',n',kids'⟩:=x;simp only[encForm_mk] at hxl ih;cases h1:decide (acc<=most)
  ·rw[t8 (by have:=wt h1;omega)] at hall
   exact(aq (n2 hd h1))<|(cV)<|(zV)<|zo [.tmp 4] (hq:=by rw[hall])
  rw[ul (by have:=ww h1;omega)] at hall
  refine(aq (n2 hd h1))<|(dI)<|(e8 (n3 hlt hxl @bin_subW))<|(zK (ih (subW most acc)))<|(bE @bin_addW)<|(aq (zi hlt hlen)) ?_;refine xf hlt (addW acc (nodesF (.mk op' n' kids') (subW most acc))) zH hall
def wz(f:FormM)(hf:FormBig f)(most:Int):PC prog 63 [.ag (encForm f),aa most] (·=aa (nodesF f most)):=mg _ f (em _) hf most
def few07(f:FormM):Bool:=decide (nodesF f 80<=80)
def x5(f:FormM)(hf:FormBig f):PC prog 30 [.ag (encForm f)] (·=ao (Proofs.few07 f)):=by
 refine pB 6 Tryz.func30 ?_;have hN:=wz f hf 80;unfold Proofs.few07;generalize nodesF f 80=q at hN ⊢;obtain⟨op,n,kids⟩:=f;rw[encForm_mk] at hN ⊢
 exact(fe)<|(zK hN)<|(zR)<|zo [.tmp 2]
def addW_ok{a b:Int}(h : -9223372036854775808<=a+b/\a+b<=9223372036854775807):addW a b=a+b:=by
 have h1:(iJ (-9223372036854775808) (a+b)&&iJ (a+b) 9223372036854775807)=true:=by
  rw[cL,cL];simp[h.1,h.2]
 unfold addW;simp only[bR,xe,xd,h1,ab]
def subW_ok{a b:Int}(h : -9223372036854775808<=a-b/\a-b<=9223372036854775807):subW a b=a-b:=by
 have h1:(iJ (-9223372036854775808) (a-b)&&iJ (a-b) 9223372036854775807)=true:=by
  rw[cL,cL];simp[h.1,h.2]
 unfold subW;simp only[bR,xe,xd,h1,ab]
def nodes_bnd:∀(d:Nat) (f:FormM),SizeOf.sizeOf f<d->∀most:Int,-1000<=most->most<=1000->1<=nodesF f most/\(nodesF f most<=most+1\/nodesF f most=1)/\(nodesF f most<=most->FormOk f)
 | 0,f,hd,_,_,_=>t7 hd (Nat.not_lt_zero _)
 | d+1,.mk op n kids,hd,most,h0,h1=>by
  have hkd:∀k∈kids,SizeOf.sizeOf k<d:=λk hk=>by
   have h1:=List.sizeOf_lt_of_mem hk
   have h2:SizeOf.sizeOf (FormM.mk op n kids)=1+SizeOf.sizeOf op+SizeOf.sizeOf n+SizeOf.sizeOf kids:=by simp
   omega
  have key:∀(ks:List FormM) (acc:Int),(∀k∈ks,k∈kids)->1<=acc->(acc<=most+1\/acc=1)->1<=nodesL ks most acc/\(nodesL ks most acc<=most+1\/nodesL ks most acc=1)/\(nodesL ks most acc<=most->acc+ks.length<=nodesL ks most acc/\∀k∈ks,FormOk k):=by
   intro ks
   induction ks with
   | nil=>intro acc _ h2 h3;rw[nodesL];exact⟨h2,h3,λ_=>⟨by simp,λk hk=>by cases hk⟩⟩
   | cons k ks ih=>
    intro acc hm h2 h3;rw[nodesL];split
    ·rename_i hlt;exact⟨h2,h3,λh=>by omega⟩
    ·rename_i hlt;rw[subW_ok (by omega)];obtain⟨b1,b2,b3⟩:=nodes_bnd d k (hkd k (hm k List.mem_cons_self)) (most-acc) (by omega) (by omega);rw[addW_ok (by omega)];obtain⟨c1,c2,c3⟩:=ih (acc+nodesF k (most-acc)) (λx hx=>hm x (List.mem_cons_of_mem _ hx)) (by omega) (by omega);refine⟨c1,c2,λh=>?_⟩;obtain⟨d1,d2⟩:=c3 h;refine⟨by rw[List.length_cons];omega,λx hx=>?_⟩
     rcases List.mem_cons.1 hx with rfl | hx
     ·exact b3 (by omega)
     ·exact d2 x hx
  rw[nodesF];obtain⟨c1,c2,c3⟩:=key kids 1 (λ_ h=>h) (Int.le_refl _) (.inr rfl);refine⟨c1,c2,λh=>?_⟩;obtain⟨d1,d2⟩:=c3 h;exact .mk (by omega) d2
def few07_ok{f:FormM}(h:few07 f=true):FormOk f:=(nodes_bnd _ f (em _) 80 (by decide) (by decide)).2.2 (ww h)
def slot08(s:KSlot):Bool:=!(decide (100<(s.name.length:Int)))&&(!(decide (15<(s.kinds.length:Int)))&&s.kinds.all λn=>!(decide (100<(n.length:Int))))
def kind08(k:KKind):Bool:=!(decide (100<(k.name.length:Int)))&&(!(decide (15<(k.slots.length:Int)))&&k.slots.all slot08)
def few08(c:List KKind):Bool:=!(decide (65<(c.length:Int)))&&c.all kind08
def not_all{α:Type}{p:α->Bool}{l:List α}{x:α}(hx:x∈l)(hp:p x=false):l.all p=false:=eq_false_iff.2 λh=>by
 have:=all_eq_true.1 h x hx;rw[hp] at this;cases this
def x6(c:List KKind):PC prog 29 [.ag [slS 3 c encKind]] (·=ao (Proofs.few08 c)):=by
 refine pB 80 Tryz.func29 ?_;refine(zV) ?_;refine ak.fg (Fg.freeze (f':=[(1,.ip [slS 3 c encKind])]) 0 rfl (λh=>by cases h) (jM @slS.eq_1)) ?_;refine ak.fg (st':=⟨[(1,.ip [slS 3 c encKind])],80,[],[]⟩) zH ?_
 (try change ak _ _ _ _ _)
 cases g1:decide (65<(c.length:Int));rotate_left
 ·exact(aq g1)<|(bq)<|zo [.tmp 2] (hq:=by rw[Proofs.few08,g1];rfl)
 have hlen:c.length<=1000000:=by have:=wt g1;omega
 have hN:Proofs.few08 c=c.all kind08:=by rw[Proofs.few08,g1];rfl
 refine(aq g1)<|(ee)<|(zs) ?_;refine zL c (λk=>(c.take k).all kind08=true) (λk=>[(1,.ip [slS 3 c encKind]),(3,aa k)]) (λk=>[]) zH zp ?_;intro k hk hall
 by_cases hlt:k<c.length;rotate_left
 ·obtain rfl:k=c.length:=by omega
  rw[ax] at hall
  exact(aq (show decide ((c.length:Int)<(c.length:Int))=false by simp))<|(cV)<|(zV)<|zo [.tmp 2] (hq:=by rw[hN,hall])
 have hd:=show decide ((k:Int)<(c.length:Int))=true by simp only[wp];omega
 obtain⟨x,hx⟩:∃x,c[k]?=some x:=⟨c[k],ac hlt⟩
 have hbad:kind08 x=false->Proofs.few08 c=false:=λh=>by rw[hN];exact not_all (ad hx) h
 refine(aq hd)<|(dI) ?_
 (repeat refine ak.seq ?_)
 refine(aq (n3 hlt (au (e:=3) (enc:=encKind) (λ_=>rfl) hx) @encKind.eq_1)) ?_;refine ak.fg (Fg.freeze (f':=[(1,.ip [slS 3 c encKind]),(3,aa k),(4,.ip [ae x.name,ao x.vehicle,slS 3 x.slots encSlot])]) 0 rfl (λh=>by cases h) (jM @slS.eq_1)) ?_;refine ak.fg (st':=⟨[(1,.ip [slS 3 c encKind]),(3,aa k),(4,.ip [ae x.name,ao x.vehicle,slS 3 x.slots encSlot])],80,[],[]⟩) zH ?_
 (try change ak _ _ _ _ _)
 cases j1:decide (100<(x.name.length:Int));rotate_left
 ·exact(aq j1)<|(bq)<|zo [.tmp 2] (hq:=by rw[hbad (by rw[kind08,j1];rfl)])
 cases j2:decide (15<(x.slots.length:Int));rotate_left
 ·exact(aq (n2 j1 j2))<|(bq)<|zo [.tmp 2] (hq:=by rw[hbad (by rw[kind08,j1,j2];rfl)])
 have hkx:kind08 x=x.slots.all slot08:=by rw[kind08,j1,j2];rfl
 have hlen2:x.slots.length<=1000000:=by have:=wt j2;omega
 refine(aq (n2 j1 j2))<|(ee)<|(zs) ?_;refine zL x.slots (λk2=>(x.slots.take k2).all slot08=true) (λk2=>[(1,.ip [slS 3 c encKind]),(3,aa k),(4,.ip [ae x.name,ao x.vehicle,slS 3 x.slots encSlot]),(5,aa k2)]) (λk2=>[]) zH zp ?_;intro k2 hk2 hall2
 by_cases hlt2:k2<x.slots.length;rotate_left
 ·obtain rfl:k2=x.slots.length:=by omega
  rw[ax] at hall2
  refine(aq (show decide ((x.slots.length:Int)<(x.slots.length:Int))=false by simp))<|(cV)<|(aq (zi hlt hlen)) ?_;refine zX hlt zH (all_snoc hx hall (by rw[hkx,hall2]))
 have hd2:=show decide ((k2:Int)<(x.slots.length:Int))=true by simp only[wp];omega
 obtain⟨y,hx2⟩:∃y,x.slots[k2]?=some y:=⟨x.slots[k2],ac hlt2⟩
 have hbad2:slot08 y=false->kind08 x=false:=λh=>by rw[hkx];exact not_all (ad hx2) h
 refine(aq hd2)<|(dI) ?_
 (repeat refine ak.seq ?_)
 cases j3:decide (100<(y.name.length:Int));rotate_left
 ·exact(aq (n4 hlt2 (au (e:=3) (enc:=encSlot) (λ_=>rfl) hx2) @encSlot.eq_1 j3))<|(bq)<|zo [.tmp 2] (hq:=by rw[hbad (hbad2 (by rw[slot08,j3];rfl))])
 cases j4:decide (15<(y.kinds.length:Int));rotate_left
 ·exact(aq (n5 hlt2 (au (e:=3) (enc:=encSlot) (λ_=>rfl) hx2) @encSlot.eq_1 j3 j4))<|(bq)<|zo [.tmp 2] (hq:=by rw[hbad (hbad2 (by rw[slot08,j3,j4];rfl))])
 have hky:slot08 y=y.kinds.all λn=>!(decide (100<(n.length:Int))):=by rw[slot08,j3,j4];rfl
 have hlen3:y.kinds.length<=1000000:=by have:=wt j4;omega
 refine(aq (n5 hlt2 (au (e:=3) (enc:=encSlot) (λ_=>rfl) hx2) @encSlot.eq_1 j3 j4))<|(ee)<|(zs) ?_;refine zL y.kinds (λk3=>((y.kinds.take k3).all λn=>!(decide (100<(n.length:Int))))=true) (λk3=>[(1,.ip [slS 3 c encKind]),(3,aa k),(4,.ip [ae x.name,ao x.vehicle,slS 3 x.slots encSlot]),(5,aa k2),(6,aa k3)]) (λk3=>[]) zH zp ?_;intro k3 hk3 hall3
 by_cases hlt3:k3<y.kinds.length;rotate_left
 ·obtain rfl:k3=y.kinds.length:=by omega
  rw[ax] at hall3
  refine(aq (n4 hlt2 (au (e:=3) (enc:=encSlot) (λ_=>rfl) hx2) @encSlot.eq_1 (show decide ((y.kinds.length:Int)<(y.kinds.length:Int))=false by simp)))<|(cV)<|(aq (zi hlt2 hlen2)) ?_;refine zX hlt2 zH (all_snoc hx2 hall2 (by rw[hky,hall3]))
 have hd3:=show decide ((k3:Int)<(y.kinds.length:Int))=true by simp only[wp];omega
 obtain⟨z,hx3⟩:∃z,y.kinds[k3]?=some z:=⟨y.kinds[k3],ac hlt3⟩
 refine(aq (n4 hlt2 (au (e:=3) (enc:=encSlot) (λ_=>rfl) hx2) @encSlot.eq_1 hd3))<|(dI) ?_
 cases j5:decide (100<(z.length:Int));rotate_left
 ·exact(aq (n7 hlt2 (au (e:=3) (enc:=encSlot) (λ_=>rfl) hx2) @encSlot.eq_1 hlt3 (au (e:=1) (enc:=one1 ae) (λ_=>rfl) hx3) @one1.eq_1 j5))<|(bq)<|zo [.tmp 2] (hq:=by rw[hbad (hbad2 (by rw[hky];exact not_all (ad hx3) (by rw[j5];rfl)))])
 refine(aq (n7 hlt2 (au (e:=3) (enc:=encSlot) (λ_=>rfl) hx2) @encSlot.eq_1 hlt3 (au (e:=1) (enc:=one1 ae) (λ_=>rfl) hx3) @one1.eq_1 j5))<|(zN)<|(aq (zi hlt3 hlen3)) ?_;refine zX hlt3 zH (all_snoc hx3 hall3 (by rw[j5];rfl))
def few12(c:List KKind)(dmg:FormM):Bool:=Proofs.few08 c&&Proofs.few07 dmg
def x8(c:List KKind)(dmg:FormM)(hf:FormBig dmg):PC prog 15 [.ag (slS 3 c encKind::encForm dmg),.sl 0 14 [],aa 0] (·=ao (Proofs.few12 c dmg)):=by
 have hfl:(encForm dmg).length=3:=encForm_len dmg;have hft:(encForm dmg).take 3=encForm dmg:=cp (by rw[hfl];exact aS _);have hfk:=λo:Nat=>aV (o:=o) (encForm_gnd dmg);have hfn:=λo:Nat=>cu (o:=o) (encForm_gnd dmg);refine pB 69 Tryz.func15 ?_;refine(aq (n2 hfk hfn)) ?_;refine ak.fg (Fg.freeze (f':=[(1,.sl 0 14 []),(2,aa 0),(3,.ip (slS 3 c encKind::encForm dmg))]) 0 rfl (λh=>by cases h) ⟨.inl rfl,.inl rfl,.inr (.ptr rfl (aM.refl (encForm_gnd dmg)) (bw _)),trivial⟩) ?_;refine ak.fg (st':=⟨[(1,.sl 0 14 []),(2,aa 0),(3,.ip (slS 3 c encKind::encForm dmg))],69,[],[]⟩) zH ?_
 (try change ak _ _ _ _ _)
 refine(zC)<|(zK (x6 c)) ?_
 cases g1:Proofs.few08 c
 ·exact(zR)<|(bq)<|zo [.tmp 6] (hq:=by rw[Proofs.few12,g1];rfl)
 refine(Et (n2 hfl hft))<|(zK (x5 dmg hf) (hwk:=aM.cons (.ag (aM.refl (encForm_gnd dmg))) .nil)) ?_
 cases g2:Proofs.few07 dmg
 ·exact(zR)<|(bq)<|zo [.tmp 6] (hq:=by rw[Proofs.few12,g1,g2];rfl)
 refine(zR)<|(ee)<|(zs) ?_;refine zL ([]:List EvM) (λk=>True) (λk=>[(1,.sl 0 14 []),(7,aa k)]) (λk=>[]) zH zp ?_;intro k hk hall
 obtain rfl:k=0:=Nat.le_zero.1 hk
 refine(yT) ?_;refine ak.exit ?_;exact(zV)<|zo [.tmp 6] (hq:=by rw[Proofs.few12,g1,g2];rfl)
def few09_rep{l:List EvM}(h:few09 l 6=true):l.length<=6/\∀e∈l,shortB e=true:=by
 unfold few09 at h;rw[a0] at h;have h2:=ww h.2
 have h1:l.length<=6:=by omega
 refine⟨h1,λe he=>?_⟩;have:=take_more (n:=l.length) (k:=(6+1:Int).toNat) h.1 (.inr (by show l.length<=7;omega));rw[ax] at this;exact all_eq_true.1 this e he
structure EvB (e:EvM):Prop where
 part:∀b∈e.part,b<256
 kind:∀b∈e.kind,b<256
 into:∀b∈e.into,b<256
 slot:∀b∈e.slot,b<256
 key:∀b∈e.key,b<256
 value:∀b∈e.value,b<256
def short_ok{e:EvM}(h:shortB e=true)(hb:EvB e):EvOk e:=by
 unfold shortB at h;simp only[a0,wp] at h;exact⟨⟨by omega,hb.part⟩,⟨by omega,hb.kind⟩,⟨by omega,hb.into⟩,⟨by omega,hb.slot⟩,⟨by omega,hb.key⟩,⟨by omega,hb.value⟩⟩
def few13_ok{l:List RepM}{most:Nat}(h:few13 l most=true)(hb:∀r∈l,∀e∈r.opts,EvB e):l.length<=most/\∀r∈l,RepOk r/\r.opts.length<=6:=by
 unfold few13 at h;split at h
 ·rename_i hm;refine⟨by omega,λr hr=>?_⟩;have h1:=few09_rep (all_eq_true.1 h r hr);exact⟨⟨by omega,λe he=>short_ok (h1.2 e he) (hb r hr e he)⟩,h1.1⟩
 ·cases h
def few08_ok{c:List KKind}(h:few08 c=true)(hb:∀k∈c,(∀b∈k.name,b<256)/\∀s∈k.slots,∀b∈s.name,b<256):CatOk c:=by
 unfold few08 at h;simp only[a0,dl,wd,all_eq_true] at h
 have hk:∀k∈c,k.name.length<=100/\k.slots.length<=15/\∀s∈k.slots,s.name.length<=100/\s.kinds.length<=15:=λk hk=>by
  have:=h.2 k hk;unfold kind08 at this;simp only[a0,dl,wd,all_eq_true] at this;refine⟨by omega,by omega,λs hs=>?_⟩;have:=this.2.2 s hs;unfold slot08 at this;simp only[a0,dl,wd] at this;omega
 exact⟨by omega,λk h1=>⟨⟨by have:=hk k h1;omega,(hb k h1).1⟩,by have:=hk k h1;omega⟩,λk h1 s hs=>⟨⟨by have:=(hk k h1).2.2 s hs;omega,(hb k h1).2 s hs⟩,by have:=(hk k h1).2.2 s hs;omega⟩⟩
def sharesN(ws:List Wy)(ps:List PartM)(co:Co):List Sh×Int:=if rightB ws co=true then (if (findM ps co.part).isSome=true then (listN (billM ws ps co),0) else ([],2)) else ([],1)
def sharesS(r:List Sh×Int):SV:=.aO [slS 2 r.1 encSh,aa r.2]
def mh(ws:List Wy)(ps:List PartM)(co:Co)(hw:∀w∈ws,w.fits)(hco:co.fits)(hlw:ws.length<=1000)(hlp:ps.length<=100000):
 PC prog 10 [slS 5 ws encWy,.ag [slS 14 ps encPart],.ag (encCo co)] (·=sharesS (sharesN ws ps co)):=by
 refine pB 25 Tryz.func10 ?_;rw[encCo_eq];refine(zV) ?_;refine ak.fg (Fg.freeze (f':=[(0,slS 5 ws encWy),(4,.ip [slS 14 ps encPart]),(5,.ptr 1 0)]) 0 rfl (λh=>by cases h) (jM @slS.eq_1)) ?_;refine ak.fg (Fg.freeze (f':=[(0,slS 5 ws encWy),(4,.ip [slS 14 ps encPart]),(5,.ip [ae co.part,ae co.owner,aa co.day,aa co.am])]) 1 rfl (λh=>by cases h) (jM @slS.eq_1)) ?_;refine ak.fg (st':=⟨[(0,slS 5 ws encWy),(4,.ip [slS 14 ps encPart]),(5,.ip [ae co.part,ae co.owner,aa co.day,aa co.am])],25,[],[]⟩) zH ?_
 (try change ak _ _ _ _ _)
 refine(zC)<|(zK (nG ws co hw hco hlw)) ?_
 cases hr:rightB ws co
 ·exact(zR)<|(bq)<|eL [.tmp 6,.tmp 7] (r:=.aO [.sl 0 2 [],aa 1]) (hw:=.aO (.cons (.nil _) (.cons (.a _) .nil))) (hq:=by rw[sharesN,hr];rfl)
 have hb:=billM_ok (ps:=ps) hr;have hdv:=l7 ws ps co hlw hlp hr;have hls:=p7 (billM ws ps co) (by have:=hb.len;omega) hb.nodup hb.ne
 have hN:sharesN ws ps co=if (findM ps co.part).isSome=true then (listN (billM ws ps co),0) else ([],2):=by rw[sharesN,t8 hr]
 generalize billM ws ps co=b at hdv hls hN;generalize (findM ps co.part).isSome=fo at hdv hN
 refine(zR)<|(DA)<|(zK hdv (hfl:=.inr (aM.refl rfl)))<|(zR) ?_
 cases fo
 ·exact(oD)<|(zV)<|eL [.tmp 6,.tmp 7] (r:=.aO [.sl 0 2 [],aa 2]) (hw:=.aO (.cons (.nil _) (.cons (.a _) .nil))) (hq:=by rw[hN];rfl)
 exact(yT)<|(zC)<|(zK hls (hfl:=.inr (aM.refl rfl)))<|(zR)<|eL [.tmp 6,.tmp 7] (r:=.aO [slS 2 (listN b) encSh,aa 0]) (hw:=zv) (hq:=by rw[hN];rfl)
def ofSh_at{ss:List Sh}{k:Nat}{s:Sh}{p:List Nat}(hx:ss[k]?=some s)(hp:s.pt=p)(hb:((ss.take k).all λs=>!(decide (s.pt=p)))=true):ofSh ss p=s.am:=by
 have:(ss.find? λs=>decide (s.pt=p))=some s:=by
  rw[b7];obtain⟨hlt,he⟩:=List.getElem?_eq_some_iff.1 hx;refine⟨by simpa using hp,k,hlt,he,λj hj=>?_⟩;have h1:=all_eq_true.1 hb (ss[j]'(by omega)) (by rw[cd];exact⟨j,by rw[b6,t8 hj];exact ac (by omega)⟩);simpa using h1
 unfold ofSh;rw[this]
def ofSh_no{ss:List Sh}{p:List Nat}(hb:(ss.all λs=>!(decide (s.pt=p)))=true):ofSh ss p=0:=by
 have:(ss.find? λs=>decide (s.pt=p))=none:=by
  rw[cl];intro s hs;have h1:=all_eq_true.1 hb s hs;simpa using h1
 unfold ofSh;rw[this]
def yz(ss:List Sh)(p:List Nat)(hlen:ss.length<=1000000):PC prog 8 [slS 2 ss encSh,ae p] (·=aa (ofSh ss p)):=by
 refine pB 24 Tryz.func8 ?_;refine(gi)<|(zs) ?_;refine zL ss (λk=>((ss.take k).all λs=>!(decide (s.pt=p)))=true) (λk=>[(0,slS 2 ss encSh),(1,ae p),(5,aa k)]) (λk=>[]) zH zp ?_;intro k hk hall
 by_cases hlt:k<ss.length;rotate_left
 ·obtain rfl:k=ss.length:=by omega
  rw[ax] at hall
  exact(aq (show decide ((ss.length:Int)<(ss.length:Int))=false by simp))<|(cV)<|(zV)<|zo [.tmp 4] (hq:=by rw[ofSh_no hall])
 have hd:=show decide ((k:Int)<(ss.length:Int))=true by simp only[wp];omega
 obtain⟨s,hx⟩:∃s,ss[k]?=some s:=⟨ss[k],ac hlt⟩
 refine(aq hd)<|(dI) ?_
 cases he:decide (s.pt=p)
 ·refine(aq (n4 hlt (au (e:=2) (enc:=encSh) (λ_=>rfl) hx) @encSh.eq_1 he))<|(zN)<|(aq (zi hlt hlen)) ?_;refine zX hlt zH (all_snoc hx hall (by rw[he];rfl))
 ·exact(aq (n4 hlt (au (e:=2) (enc:=encSh) (λ_=>rfl) hx) @encSh.eq_1 he))<|(zY)<|(aq (n3 hlt (au (e:=2) (enc:=encSh) (λ_=>rfl) hx) @encSh.eq_1))<|zo [.tmp 4] (hq:=by rw[ofSh_at hx (ww he) hall])
def few16(l:List RepM)(most:Int):Bool:=Proofs.few13 l 12&&decide (ways13 most l 1<=most)
def yb(l:List RepM)(most:Int)(hm:most<=1000)(hlen:l.length<=BIG)(ho:∀r∈l,r.opts.length<=BIG)(hb:∀r∈l,∀e∈r.opts,EvB e):PC prog 17 [slS 2 l encRep,aa most] (·=ao (Proofs.few16 l most)):=by
 refine pB 14 Tryz.func17 ?_;refine(fe)<|(zK (x9 l 12 hlen ho)) ?_
 cases g1:Proofs.few13 l 12
 ·exact(zR)<|zo [.tmp 4] (hq:=by rw[Proofs.few16,g1];rfl)
 have hk:=few13_ok (most:=12) g1 hb
 exact(zQ)<|(zK (wU l most hm (λr hr=>(hk.2 r hr).1) (by omega)))<|(zR)<|zo [.tmp 4] (hq:=by rw[Proofs.few16,g1];rfl)
def fewC(c:List KKind)(dmg:FormM)(ws:List Wy)(l:List RepM)(co:Co):Bool:=Proofs.few12 c dmg&&(Proofs.few43 ws co&&Proofs.few16 l 60)
def A8(c:List KKind)(dmg:FormM)(ws:List Wy)(l:List RepM)(co:Co)(hf:FormBig dmg)(hlw:ws.length<=BIG)(hw:∀w∈ws,w.kind.length<=BIG/\w.maker.length<=BIG)(hc:co.part.length<=BIG/\co.owner.length<=BIG)(hlen:l.length<=BIG)(ho:∀r∈l,r.opts.length<=BIG)(hb:∀r∈l,∀e∈r.opts,EvB e):
 PC prog 5 [.ag (slS 3 c encKind::encForm dmg),slS 5 ws encWy,slS 2 l encRep,.ag (encCo co)] (·=ao (Proofs.fewC c dmg ws l co)):=by
 have hfl:(encForm dmg).length=3:=encForm_len dmg;have hft:(encForm dmg).take 3=encForm dmg:=cp (by rw[hfl];exact aS _);have hfk:=λo:Nat=>aV (o:=o) (encForm_gnd dmg);have hfn:=λo:Nat=>cu (o:=o) (encForm_gnd dmg);refine pB 20 Tryz.func5 ?_;rw[encCo_eq];refine(aq (n2 hfk hfn)) ?_;refine ak.fg (Fg.freeze (f':=[(1,slS 5 ws encWy),(2,slS 2 l encRep),(4,.ip (slS 3 c encKind::encForm dmg)),(7,.ptr 1 0)]) 0 rfl (λh=>by cases h) ⟨.inl rfl,.inl rfl,.inr (.ptr rfl (aM.refl (encForm_gnd dmg)) (bw _)),.inl rfl,trivial⟩) ?_;refine ak.fg (Fg.freeze (f':=[(1,slS 5 ws encWy),(2,slS 2 l encRep),(4,.ip (slS 3 c encKind::encForm dmg)),(7,.ip [ae co.part,ae co.owner,aa co.day,aa co.am])]) 1 rfl (λh=>by cases h) (jM @slS.eq_1)) ?_;refine ak.fg (st':=⟨[(1,slS 5 ws encWy),(2,slS 2 l encRep),(4,.ip (slS 3 c encKind::encForm dmg)),(7,.ip [ae co.part,ae co.owner,aa co.day,aa co.am])],20,[],[]⟩) zH ?_
 (try change ak _ _ _ _ _)
 refine(e8 (n2 hfl hft))<|(zK (x8 c dmg hf) (hwk:=(.cons (.ag (aM.refl (encForm_gnd dmg))) (.cons (.nil 14) (.cons (.a _) .nil))))) ?_
 cases g1:Proofs.few12 c dmg
 ·exact(zR)<|zo [.tmp 8] (hq:=by rw[Proofs.fewC,g1];rfl)
 refine(zQ)<|(zK (yc ws co hlw hw hc)) ?_
 cases g2:Proofs.few43 ws co
 ·exact(zR)<|zo [.tmp 8] (hq:=by rw[Proofs.fewC,g1,g2];rfl)
 exact(zQ)<|(zK (yb l 60 (by decide) hlen ho hb))<|(zR)<|zo [.tmp 8] (hq:=by rw[Proofs.fewC,g1,g2];rfl)
end Go.Proofs
namespace Go.Ev
def CP{P:Program}{t:TypeId}{xs ys:List AV}{b:Bool}(h:bz P .eql t (.agg xs) (.agg ys)=some (.bool b)):bz P .neq t (.agg xs) (.agg ys)=some (.bool (!b)):=by
 change cond (P.eqGuardType P.depth t) none ((fU P 8 t (.agg xs) (.agg ys)).map AV.bool)=_ at h;show cond (P.eqGuardType P.depth t) none ((fU P 8 t (.agg xs) (.agg ys)).map λb=>AV.bool (!b))=_
 revert h
 cases P.eqGuardType P.depth t
 ·cases fU P 8 t (.agg xs) (.agg ys)
  ·intro h;cases h
  ·intro h;injection h with h;injection h with h;subst h;rfl
 ·intro h;cases h
end Go.Ev
namespace Go.Proofs
open Go.Ev
set_option maxRecDepth 100000
def wyF:Wy:=⟨[97,120,108,101],[70,111,114,103,101],100,50,80⟩
def coR:Co:=⟨[97],[82,97,105,108],60,1001⟩
def partA(km:Int):PartM:=⟨[97],[97,120,108,101],[],[],10,10,false,[],km,km,0,0,0,0⟩
def evMove(km:Int):EvM:=⟨4,20,[99],[],[],[],[],[],km,km,0,0,0,0⟩
def vV:PC prog 9 [] (·=.aO [slS 5 [wyF] encWy,.ag (encCo coR)]):=by
 refine pB 5 Tryz.func9 ?_;rw[encCo_eq]
 exact(gi)<|eL [.tmp 0,.cell 1 33] (r:=.aO [.sl 1 5 (encWy wyF),.ag (encCo coR)]) (hw:=.aO (.cons (.buf rfl (aM.refl rfl) (aS _)) (aM.refl rfl)))
def rZ(km:Int):PC prog 11 [aa km] (·=.ag [slS 14 [partA km] encPart]):=by
 refine pB 10 Tryz.func11 ?_;exact(gi)<|zo [.cell 2 56] (r:=.ag [.sl 1 14 (encPart (partA km))]) (hw:=.ag (.cons (.buf rfl (.cons (.a _) (.cons (.a _) (.cons (.a _) (.cons (.a _) (.cons (.a _) (.cons (.a _) (.cons (.a _) (.cons (.nil 2) (aM.refl rfl))))))))) (aS _)) .nil))
def nz(km:Int):PC prog 12 [aa km] (·=.ag (encEv (evMove km))):=by
 refine pB 8 Tryz.func12 ?_;exact(gi)<|zo [.cell 2 69]
def gY(l:List EvM):PC prog 13 [slS 14 l encEv] (·=.ag (encRep ⟨l,false⟩)):=by
 refine pB 5 Tryz.func13 ?_;exact(gi)<|zo [.cell 2 38]
def Sh.eq(a b:Sh):dZ dL [.str a.pt,.int .i64 a.am] [.str b.pt,.int .i64 b.am]=decide (a=b):=by
 obtain⟨a1,a2⟩:=a;obtain⟨b1,b2⟩:=b;simp only[dZ,dL,pg,oW,ib,d6,el,Sh.mk.injEq,Bool.decide_and]
def yv(a b:Sh):bz prog .neq 48 (.agg [.str a.pt,.int .i64 a.am]) (.agg [.str b.pt,.int .i64 b.am])=some (.bool (!(decide (a=b)))):=
 CP (ug (ks:=[.s,.i .i64]) (by kernel_rfl) (by kernel_rfl) (by simp only[an,ay]) rfl rfl (Sh.eq a b))
def yF(a b:List Sh)(ha:a.length<=1000000):PC prog 14 [slS 2 a encSh,slS 2 b encSh] (·=ao (decide (a=b))):=by
 refine pB 26 Tryz.func14 ?_;refine(zV) ?_;cases g:decide ((a.length:Int)=b.length)
 ·exact(aq g)<|(bq)<|zo [.tmp 4] (hq:=by rw[un (λh=>wt g (by rw[h]))])
 refine(aq g)<|(ee) ?_
 have hl:a.length=b.length:=Int.ofNat.inj (ww g);refine(zs) ?_;refine zL a (λk=>a.take k=b.take k) (λk=>[(0,slS 2 a encSh),(1,slS 2 b encSh),(5,aa k)]) (λk=>[]) zH zp ?_;intro k hk hall;by_cases hlt:k<a.length;rotate_left
 ·obtain rfl:k=a.length:=by omega
  rw[ax,hl,ax] at hall
  exact(aq (show decide ((a.length:Int)<(a.length:Int))=false by simp))<|(cV)<|(zV)<|zo [.tmp 4] (hq:=by rw[ut hall])
 have hd:=show decide ((k:Int)<(a.length:Int))=true by simp only[wp];omega
 obtain⟨x,hx⟩:∃x,a[k]?=some x:=⟨a[k],ac hlt⟩
 have hlt2:k<b.length:=by omega
 obtain⟨y,hy⟩:∃y,b[k]?=some y:=⟨b[k],ac hlt2⟩
 refine(aq hd)<|(dI) ?_
 have hn:=yv x y;refine(zs) ?_;refine kU [0,0,3,7,0,0,48,112,255] ?_;cases he:decide (x=y)
 ·rw[he] at hn
  exact(jL (n6 hlt hlt2 (au (e:=2) (enc:=encSh) (λ_=>rfl) hx) (au (e:=2) (enc:=encSh) (λ_=>rfl) hy) @encSh.eq_1 hn))<|(zM)<|(bq)<|zo [.tmp 4] (hq:=by rw[un (λh=>by subst h;rw[hx] at hy;exact wt he (Option.some.inj hy))])
 ·rw[he] at hn
  refine(jL (n6 hlt hlt2 (au (e:=2) (enc:=encSh) (λ_=>rfl) hx) (au (e:=2) (enc:=encSh) (λ_=>rfl) hy) @encSh.eq_1 hn))<|(zM)<|(zN)<|(aq (zi hlt ha)) ?_;refine zX hlt zH (by rw[takeN_snoc hx,takeN_snoc hy,hall,ww he])
def slF:KSlot:=⟨[97,120,108,101],[[97,120,108,101]],1⟩
def catF:List KKind:=[⟨[97,120,108,101],false,[]⟩,⟨[99,97,114,116],true,[slF]⟩]
def dmgF:FormM:=.mk 2 0 []
def evMake(p k:List Nat):EvM:=⟨1,10,p,k,[],[],[],[],0,0,0,0,0,0⟩
def evFit:EvM:=⟨2,11,[97],[],[99],[97,120,108,101],[],[],0,0,0,0,0,0⟩
def repsF:List RepM:=[⟨[evMake [97] [97,120,108,101]],false⟩,⟨[evMake [99] [99,97,114,116]],false⟩,⟨[evFit],false⟩,⟨[evMove 40,evMove 60],false⟩]
abbrev sh40:List Sh×Int:=([⟨[70,111,114,103,101],801⟩,⟨[82,97,105,108],200⟩],0)
abbrev sh60:List Sh×Int:=([⟨[82,97,105,108],1001⟩],0)
def share40:sharesN [wyF] [partA 40] coR=sh40:=by kernel_rfl
def share60:sharesN [wyF] [partA 60] coR=sh60:=by kernel_rfl
def sureF:sureN catF dmgF [wyF] repsF coR=([⟨[82,97,105,108],200⟩],801,0):=by kernel_rfl
abbrev rail:List Sh:=[⟨[82,97,105,108],200⟩]
def good_dec{s:List Nat}(h:(decide (s.length<=1000000)&&s.all λb=>decide (b<256))=true):GoodS s:=by
 simp only[a0,wp,all_eq_true] at h;exact⟨h.1,h.2⟩
def catF_ok:CatOk catF:=by
 refine⟨by decide,λk hk=>?_,λk hk s hs=>?_⟩
 ·simp only[catF,mem_cons,bW,or_false] at hk
  rcases hk with rfl | rfl<;>exact⟨good_dec (by decide),by decide⟩
 ·simp only[catF,mem_cons,bW,or_false] at hk
  rcases hk with rfl | rfl
  ·cases hs
  ·cases mem_singleton.1 hs;exact⟨good_dec (by decide),by decide⟩
def dmgF_ok:FormOk dmgF:=.mk (by decide) λk hk=>by cases hk
def repsF_ok:∀r∈repsF,RepOk r:=by
 intro r hr;simp only[repsF,mem_cons,bW,or_false] at hr
 rcases hr with rfl | rfl | rfl | rfl<;>refine⟨by decide,λe he=>?_⟩<;>simp only[mem_cons,bW,or_false] at he
 ·subst he;constructor<;>exact good_dec (by decide)
 ·subst he;constructor<;>exact good_dec (by decide)
 ·subst he;constructor<;>exact good_dec (by decide)
 ·rcases he with rfl | rfl<;>constructor<;>exact good_dec (by decide)
def repsF_len:∀r∈repsF,r.opts.length<=400000:=by
 intro r hr;simp only[repsF,mem_cons,bW,or_false] at hr
 rcases hr with rfl | rfl | rfl | rfl<;>exact(by decide)
def same_self(a:List Sh)(h:a.length<=1000000):PC prog 14 [slS 2 a encSh,slS 2 a encSh] (·=ao true):=by
 have:=yF a a h;rw[ut rfl] at this;exact this
def wyF_fits:∀w∈[wyF],w.fits:=by
 intro w hw;cases mem_singleton.1 hw;constructor<;>decide
def coR_fits:coR.fits:=by constructor<;>decide
abbrev w0:Fm:=[(0,ao false),(1,.sl 1 5 (encWy wyF)),(2,.ip (encCo coR))]
abbrev w1:Fm:=(3,slS 2 sh40.1 encSh)::(4,aa 0)::w0
abbrev w2:Fm:=(5,slS 2 sh60.1 encSh)::(6,aa 0)::w1
abbrev w3:Fm:=(8,.ip (slS 3 catF encKind::encForm dmgF))::w2
abbrev w4:Fm:=(11,slS 2 repsF encRep)::w3
abbrev w5:Fm:=(12,slS 2 rail encSh)::(13,aa 801)::(14,aa 0)::w2
abbrev w8:Fm:=(10,.fn 13 [] [])::(9,.fn 12 [] [])::w3
abbrev w9:Fm:=(46,.ag (encRep ⟨[(evMake [97] [97,120,108,101])],false⟩))::w8
abbrev w10:Fm:=(50,.ag (encRep ⟨[(evMake [99] [99,97,114,116])],false⟩))::w9
abbrev w11:Fm:=(54,.ag (encRep ⟨[evFit],false⟩))::w10
abbrev w12:Fm:=(61,.ag (encRep ⟨[evMove 40,evMove 60],false⟩))::w11
def yg:PC prog 4 [] (·=ao true):=by
 have hs40:=mh [wyF] [partA 40] coR wyF_fits coR_fits (by decide) (by decide);rw[share40] at hs40;have hs60:=mh [wyF] [partA 60] coR wyF_fits coR_fits (by decide) (by decide);rw[share60] at hs60;have hsu:=kQ catF dmgF [wyF] repsF coR catF_ok dmgF_ok wyF_fits coR_fits (by decide) repsF_ok repsF_len (by decide);rw[sureF] at hsu;have hm40:=same_self sh40.1 (by decide);have hm60:=same_self sh60.1 (by decide);have hmR:=same_self rail (by decide);have hv0:∀(i:Nat) (v:SV),vo (λ_=>False) i v=.any:=λi v=>ji λh=>h;have hv8:∀(i:Nat),i<8->∀v:SV,vo (λj=>j<8) i v=v:=λi h v=>cB h
 refine pB 105 Tryz.func4 ?_;refine(fe)<|(zK vV (hfl:=.inr (aM.refl rfl)))<|(bE @encCo_eq) ?_;refine ak.fg (Fg.freeze (f':=w0) 0 rfl (λh=>by cases h) (jM (n2 @slS.eq_1 @encCo_eq))) ?_;refine ak.fg (st':=⟨w0,105,[],[]⟩) zH ?_
 (repeat refine ak.seq ?_)
 refine ak.rQ 8 12 (λL=>⟨(20,vo L 0 (.sl 1 5 (encWy wyF)))::(21,vo L 1 (.ag [slS 14 [partA 40] encPart]))::(22,vo L 2 (.ag (encCo coR)))::(23,vo L 3 (sharesS sh40))::(19,vo L 4 (sharesS sh40))::(24,vo L 5 (slS 2 sh40.1 encSh))::(25,vo L 6 (aa sh40.2))::(3,vo L 7 (slS 2 sh40.1 encSh))::w0,105,[],[]⟩) rfl (by kernel_rfl) (by rfl) (by decide) (by kernel_rfl) (bg (n4 @sharesS.eq_1 @encCo_eq @fromV.eq_1 hv0)) (λL=>rfl) ?_ ?_
 ·rintro L i o him hC hr
  rcases i with _ | _ | _ | _ | _ | _ | _ | _ | i
  rotate_right
  ·exact t7 him (by omega)
  ·cases hr.at';refine(zR) ?_;exact(bg (n4 @sharesS.eq_1 @encCo_eq @fromV.eq_1 @aL))
  ·cases hr.at';refine(zK (rZ 40) (hfl:=.inr (aM.refl rfl))) ?_;refine .nil ?_;exact(bg (n4 @sharesS.eq_1 @encCo_eq @fromV.eq_1 @aL))
  ·cases hr.at';refine(bE @encCo_eq) ?_;exact(bg (n4 @sharesS.eq_1 @encCo_eq @fromV.eq_1 @aL))
  ·cases hr.at';have d0:L 0:=hr.dep ⟨0,.data⟩ (by simp) rfl;have d1:L 1:=hr.dep ⟨1,.data⟩ (by simp) rfl;have d2:L 2:=hr.dep ⟨2,.data⟩ (by simp) rfl;refine(zK hs40 (hc:=xb (n3 (da d0) (da d1) (da d2))) (hfl:=.inr (aM.refl rfl))) ?_;refine .nil ?_;exact(bg (n7 @sharesS.eq_1 @encCo_eq @fromV.eq_1 @aL (da d0) (da d1) (da d2)))
  ·cases hr.at';have d3:L 3:=hr.dep ⟨3,.data⟩ (by simp) rfl;refine(bE (da d3)) ?_;exact(bg (n5 @sharesS.eq_1 @encCo_eq @fromV.eq_1 @aL (da d3)))
  ·cases hr.at';have d4:L 4:=hr.dep ⟨4,.data⟩ (by simp) rfl;refine(bE (n2 (da d4) @sharesS.eq_1)) ?_;exact(bg (n5 @sharesS.eq_1 @encCo_eq @fromV.eq_1 @aL (da d4)))
  ·cases hr.at';have d4:L 4:=hr.dep ⟨4,.data⟩ (by simp) rfl;refine(bE (n2 (da d4) @sharesS.eq_1)) ?_;exact(bg (n5 @sharesS.eq_1 @encCo_eq @fromV.eq_1 @aL (da d4)))
  ·cases hr.at';have d5:L 5:=hr.dep ⟨5,.data⟩ (by simp) rfl;refine(bE (da d5)) ?_;exact(bg (n5 @sharesS.eq_1 @encCo_eq @fromV.eq_1 @aL (da d5)))
 change aB _ _ _ _ _ _;refine aB.fg (st':=⟨(3,slS 2 sh40.1 encSh)::(25,aa sh40.2)::w0,105,[],[]⟩) (bg (n3 @fromV.eq_1 (hv8 6 (by decide)) (hv8 7 (by decide)))) ?_;refine(zR) ?_;refine ak.fg (st':=⟨w1,105,[],[]⟩) zH ?_
 (repeat refine ak.seq ?_)
 refine ak.rQ 8 12 (λL=>⟨(27,vo L 0 (.sl 1 5 (encWy wyF)))::(28,vo L 1 (.ag [slS 14 [partA 60] encPart]))::(29,vo L 2 (.ag (encCo coR)))::(30,vo L 3 (sharesS sh60))::(26,vo L 4 (sharesS sh60))::(31,vo L 5 (slS 2 sh60.1 encSh))::(32,vo L 6 (aa sh60.2))::(5,vo L 7 (slS 2 sh60.1 encSh))::w1,105,[],[]⟩) rfl (by kernel_rfl) (by rfl) (by decide) (by kernel_rfl) (bg (n4 @sharesS.eq_1 @encCo_eq @fromV.eq_1 hv0)) (λL=>rfl) ?_ ?_
 ·rintro L i o him hC hr
  rcases i with _ | _ | _ | _ | _ | _ | _ | _ | i
  rotate_right
  ·exact t7 him (by omega)
  ·cases hr.at';refine(zR) ?_;exact(bg (n4 @sharesS.eq_1 @encCo_eq @fromV.eq_1 @aL))
  ·cases hr.at';refine(zK (rZ 60) (hfl:=.inr (aM.refl rfl))) ?_;refine .nil ?_;exact(bg (n4 @sharesS.eq_1 @encCo_eq @fromV.eq_1 @aL))
  ·cases hr.at';refine(bE @encCo_eq) ?_;exact(bg (n4 @sharesS.eq_1 @encCo_eq @fromV.eq_1 @aL))
  ·cases hr.at';have d0:L 0:=hr.dep ⟨0,.data⟩ (by simp) rfl;have d1:L 1:=hr.dep ⟨1,.data⟩ (by simp) rfl;have d2:L 2:=hr.dep ⟨2,.data⟩ (by simp) rfl;refine(zK hs60 (hc:=xb (n3 (da d0) (da d1) (da d2))) (hfl:=.inr (aM.refl rfl))) ?_;refine .nil ?_;exact(bg (n7 @sharesS.eq_1 @encCo_eq @fromV.eq_1 @aL (da d0) (da d1) (da d2)))
  ·cases hr.at';have d3:L 3:=hr.dep ⟨3,.data⟩ (by simp) rfl;refine(bE (da d3)) ?_;exact(bg (n5 @sharesS.eq_1 @encCo_eq @fromV.eq_1 @aL (da d3)))
  ·cases hr.at';have d4:L 4:=hr.dep ⟨4,.data⟩ (by simp) rfl;refine(bE (n2 (da d4) @sharesS.eq_1)) ?_;exact(bg (n5 @sharesS.eq_1 @encCo_eq @fromV.eq_1 @aL (da d4)))
  ·cases hr.at';have d4:L 4:=hr.dep ⟨4,.data⟩ (by simp) rfl;refine(bE (n2 (da d4) @sharesS.eq_1)) ?_;exact(bg (n5 @sharesS.eq_1 @encCo_eq @fromV.eq_1 @aL (da d4)))
  ·cases hr.at';have d5:L 5:=hr.dep ⟨5,.data⟩ (by simp) rfl;refine(bE (da d5)) ?_;exact(bg (n5 @sharesS.eq_1 @encCo_eq @fromV.eq_1 @aL (da d5)))
 change aB _ _ _ _ _ _
 refine aB.fg (st':=⟨(5,slS 2 sh60.1 encSh)::(32,aa sh60.2)::w1,105,[],[]⟩) (bg (n3 @fromV.eq_1 (hv8 6 (by decide)) (hv8 7 (by decide)))) ?_;refine(zR) ?_;refine ak.fg (st':=⟨w2,105,[],[]⟩) zH ?_;refine(zV) ?_;refine ak.fg (Fg.sB (f':=(7,.buf 1 1 3 (some 1))::w2) (S':=[.gone,.cells [ae [97,120,108,101],.sl 1 1 [ae [97,120,108,101]],aa 1]]) 0 rfl (λh=>by cases h) ⟨.inl rfl,.inl rfl,.inl rfl,.inl rfl,.inl rfl,.inl rfl,.inl rfl,.inl rfl,trivial⟩ ⟨.inl rfl,.inr ⟨by decide,.inr ⟨_,_,rfl,rfl,.cons (.a _) (.cons (.buf rfl (aM.refl rfl) (aS _)) (.cons (.a _) .nil))⟩⟩,trivial⟩) ?_;refine ak.fg (Fg.freeze (f':=(7,.sl 1 3 (encSlot slF))::w2) 1 rfl (λh=>by cases h) ⟨.inr (.buf rfl (aM.refl rfl) (aS _)),.inl rfl,.inl rfl,.inl rfl,.inl rfl,.inl rfl,.inl rfl,.inl rfl,trivial⟩) ?_;refine ak.fg (st':=⟨(7,.sl 1 3 (encSlot slF))::w2,105,[],[]⟩) zH ?_;refine(zV) ?_;refine ak.fg (Fg.sB (f':=(8,.ptr 1 0)::w2) (S':=[.gone,.cells [slS 3 catF encKind,aa 2,aa 0,.a (.slice none 0 0 (some 0))]]) 0 rfl (λh=>by cases h) ⟨.inl rfl,.inl rfl,.inl rfl,.inl rfl,.inl rfl,.inl rfl,.inl rfl,.inl rfl,trivial⟩ ⟨.inl rfl,.inr ⟨by decide,.inr ⟨_,_,rfl,rfl,.cons (.buf rfl (.cons (.a _) (.cons (.a _) (.cons (.nil 3) (.cons (.a _) (.cons (.a _) (.cons (.sl _ _ _) .nil)))))) (aS _)) (.cons (.a _) (.cons (.a _) (.cons (.a _) .nil)))⟩⟩,trivial⟩) ?_;refine ak.fg (Fg.freeze (f':=w3) 1 rfl (λh=>by cases h) ⟨.inr (.ptr rfl (.cons (.sl _ _ _) (.cons (.a _) (.cons (.a _) (.cons (.nil 3) .nil)))) (bw _)),.inl rfl,.inl rfl,.inl rfl,.inl rfl,.inl rfl,.inl rfl,.inl rfl,trivial⟩) ?_;refine ak.fg (st':=⟨w3,105,[],[]⟩) zH ?_;refine(gi) ?_;refine ak.fg (st':=⟨w8,105,[],[]⟩) zH ?_;refine(zC) ?_;refine aB.fg (Fg.freeze (f':=(43,.fn 13 [] [])::(45,.sl 1 14 ([(evMake [97] [97,120,108,101])].flatMap encEv))::w8) 0 rfl (λh=>by cases h) ⟨.inl rfl,.inr (.buf rfl (aM.refl rfl) (aS _)),.inl rfl,.inl rfl,.inl rfl,.inl rfl,.inl rfl,.inl rfl,.inl rfl,.inl rfl,.inl rfl,.inl rfl,trivial⟩) ?_;refine(zK (gY [(evMake [97] [97,120,108,101])]) (hfl:=.inr (aM.refl rfl))) ?_;refine aB.fg (st':=⟨w9,105,[],[]⟩) zH ?_;refine(zQ) ?_;refine aB.fg (Fg.freeze (f':=(47,.fn 13 [] [])::(49,.sl 1 14 ([(evMake [99] [99,97,114,116])].flatMap encEv))::w9) 0 rfl (λh=>by cases h) ⟨.inl rfl,.inr (.buf rfl (aM.refl rfl) (aS _)),.inl rfl,.inl rfl,.inl rfl,.inl rfl,.inl rfl,.inl rfl,.inl rfl,.inl rfl,.inl rfl,.inl rfl,.inl rfl,trivial⟩) ?_;refine(zK (gY [(evMake [99] [99,97,114,116])]) (hfl:=.inr (aM.refl rfl))) ?_;refine aB.fg (st':=⟨w10,105,[],[]⟩) zH ?_;refine(zQ) ?_;refine aB.fg (Fg.freeze (f':=(51,.fn 13 [] [])::(53,.sl 1 14 ([evFit].flatMap encEv))::w10) 0 rfl (λh=>by cases h) ⟨.inl rfl,.inr (.buf rfl (aM.refl rfl) (aS _)),.inl rfl,.inl rfl,.inl rfl,.inl rfl,.inl rfl,.inl rfl,.inl rfl,.inl rfl,.inl rfl,.inl rfl,.inl rfl,.inl rfl,trivial⟩) ?_;refine(zK (gY [evFit]) (hfl:=.inr (aM.refl rfl))) ?_;refine aB.fg (st':=⟨w11,105,[],[]⟩) zH ?_;refine(zQ)<|(zK (nz 40))<|(zQ)<|(zK (nz 60))<|(zQ) ?_;refine aB.fg (Fg.freeze (f':=(55,.fn 13 [] [])::(60,.sl 2 14 ([evMove 40,evMove 60].flatMap encEv))::w11) 0 rfl (λh=>by cases h) ⟨.inl rfl,.inr (.buf rfl (aM.refl rfl) (aS _)),.inl rfl,.inl rfl,.inl rfl,.inl rfl,.inl rfl,.inl rfl,.inl rfl,.inl rfl,.inl rfl,.inl rfl,.inl rfl,.inl rfl,.inl rfl,trivial⟩) ?_;refine(zK (gY [evMove 40,evMove 60]) (hfl:=.inr (aM.refl rfl))) ?_;refine aB.fg (st':=⟨w12,105,[],[]⟩) zH ?_;refine(bE (n2 @encRep.eq_1 @slS.eq_1)) ?_;refine ak.fg (Fg.freeze (f':=w4) 0 rfl (λh=>by cases h) ⟨.inr (.buf rfl (aM.refl rfl) (aS _)),.inl rfl,.inl rfl,.inl rfl,.inl rfl,.inl rfl,.inl rfl,.inl rfl,.inl rfl,trivial⟩) ?_;refine ak.fg (st':=⟨w4,105,[],[]⟩) zH ?_;refine(zC)<|(zK hsu (hfl:=.inr (aM.refl rfl)))<|(bE @sureS.eq_1) ?_;refine ak.fg (st':=⟨w5,105,[],[]⟩) (bg @sureS.eq_1) ?_;exact(e8 (n2 (show decide ((0:Int)=0)=true from rfl) (show decide ((801:Int)=801)=true from rfl)))<|(zK hm40)<|(Et (n2 (show decide ((0:Int)=0)=true from rfl) (show decide ((801:Int)=801)=true from rfl)))<|(zK hm60)<|(Et (n2 (show decide ((0:Int)=0)=true from rfl) (show decide ((801:Int)=801)=true from rfl)))<|(zK hmR)<|(bE (n2 (show decide ((0:Int)=0)=true from rfl) (show decide ((801:Int)=801)=true from rfl)))<|zo [.tmp 0]
structure ArgsC (c:List KKind) (dmg:FormM) (ws:List Wy) (l:List RepM) (co:Co):Prop where
 form:FormBig dmg
 cat:∀k∈c,(∀b∈k.name,b<256)/\∀s∈k.slots,∀b∈s.name,b<256
 wl:ws.length<=BIG
 wn:∀w∈ws,w.kind.length<=BIG/\w.maker.length<=BIG
 wb:∀w∈ws,(∀b∈w.kind,b<256)/\∀b∈w.maker,b<256
 cn:co.part.length<=BIG/\co.owner.length<=BIG
 cb:(∀b∈co.part,b<256)/\∀b∈co.owner,b<256
 ll:l.length<=BIG
 lo:∀r∈l,r.opts.length<=BIG
 lb:∀r∈l,∀e∈r.opts,EvB e
structure SmallC (c:List KKind) (dmg:FormM) (ws:List Wy) (l:List RepM) (co:Co):Prop where
 cat:CatOk c
 form:FormOk dmg
 wl:ws.length<=6
 wf:∀w∈ws,w.fits
 cf:co.fits
 ll:l.length<=12
 rep:∀r∈l,RepOk r
 op:∀r∈l,r.opts.length<=6
def few43_ok{ws:List Wy}{co:Co}(h:few43 ws co=true)(hb:∀w∈ws,(∀b∈w.kind,b<256)/\∀b∈w.maker,b<256)(hc:(∀b∈co.part,b<256)/\∀b∈co.owner,b<256):ws.length<=6/\(∀w∈ws,w.fits)/\co.fits:=by
 unfold few43 at h;simp only[a0,wp,all_eq_true] at h;refine⟨by omega,λw hw=>?_,⟨by omega,hc.1,by omega,hc.2⟩⟩;have:=h.2.1 w hw;exact⟨by omega,(hb w hw).1,by omega,(hb w hw).2⟩
def fewC_ok{c:List KKind}{dmg:FormM}{ws:List Wy}{l:List RepM}{co:Co}(h:fewC c dmg ws l co=true)(ha:ArgsC c dmg ws l co):SmallC c dmg ws l co:=by
 unfold fewC few12 few16 at h;simp only[a0] at h;obtain⟨⟨h1,h2⟩,h3,h4,_⟩:=h;obtain⟨k1,k2,k3⟩:=few43_ok h3 ha.wb ha.cb;obtain⟨j1,j2⟩:=few13_ok (most:=12) h4 ha.lb;exact⟨few08_ok h1 ha.cat,few07_ok h2,k1,k2,k3,j1,λr hr=>(j2 r hr).1,λr hr=>(j2 r hr).2⟩
def th(c:List KKind)(l:List RepM)(hc:CatOk c)(hl:∀r∈l,RepOk r)(hlen:l.length<20)(hl0:l≠[]):PC prog 6 [.ag [slS 3 c encKind],slS 2 l encRep] (·=.aO [slS 1 (firstN c l).1 (one1 aa),aa (firstN c l).2]):=by
 refine pB 20 Tryz.func6 ?_;have hal:=pP c l 1 hc hl hlen hl0;have hok:=all_ok (c:=c) (l:=l) (most:=1);unfold firstN;generalize allN c l 1=q at hal hok ⊢
 refine(fe)<|(zK hal (hfl:=.inr (aM.refl rfl)))<|(zR) ?_
 by_cases h:q.2=0
 ·have hne:=hok h;rw[t8 h]
  cases hq:q.1 with
  | nil=>exact t7 hq hne
  | cons x r=>
   have hx:(x::r)[0]?=some x:=rfl;have hat:=au (e:=1) (enc:=encCh) (λ_=>rfl) hx;rw[d8] at hat
   refine(aq (show decide (q.2=0)=true from ut h))<|(zN) ?_
   have h0:0<(x::r).length:=ey _
   exact(aq (n4 h0 hat @d8 @encCh.eq_1))<|eL [.tmp 4,.tmp 5]
 ·rw[ul h]
  exact(aq (show decide (q.2=0)=false from un h))<|(bq)<|eL [.tmp 4,.tmp 5] (r:=.aO [.sl 0 1 [],aa q.2]) (hw:=zv)
def insQ(x:PartM):List PartM->List PartM
 | []=>[x]
 | y::l=>if db y.name x.name=true then y::insQ x l else if y.name=x.name then x::l else x::y::l
def putPart_ins(x:PartM):∀l:List PartM,putPart l x=insQ x l
 | []=>by simp[putPart,posPart,foundPart,insQ]
 | y::l=>by
  have ih:=putPart_ins x l;unfold putPart posPart at ih ⊢;rw[insQ,List.takeWhile_cons];split
  ·rename_i h
   have e:foundPart (y::l) x.name (List.length (y::fu (λp=>db p.name x.name) l))=foundPart l x.name (fu (λp=>db p.name x.name) l).length:=by
    unfold foundPart;rw[ba,dt]
   rw[e,ba,List.set_cons_succ,List.take_succ_cons,List.drop_succ_cons,eF];split at ih<;>rename_i hf
   ·rw[t8 hf,ih]
   ·rw[ul hf,ih]
  ·rename_i h;rw[length_nil];unfold foundPart;simp only[List.getElem?_cons_zero,List.set_cons_zero,take_zero,List.drop_zero,nil_append,wp]
section
variable (A:List Nat->Bool)
def only (ps:List PartM):List PartM:=ps.filter λp=>A p.name
def Apart(ps:List PartM):Prop:=∀p∈ps,p.into≠[]->A p.name=A p.into
variable {A}
def ins_only{x:PartM}:∀{l:List PartM},ordB (l.map PartM.name)=true->only A (insQ x l)=if A x.name=true then insQ x (only A l) else only A l
 | [],_=>by unfold only insQ;by_cases h:A x.name=true<;>simp[h,insQ]
 | y::l,ho=>by
  have ih:=ins_only (x:=x) (l:=l) (ordB_tail ho);have hlt:=ordB_lt (a:=y.name) (l:=l.map PartM.name) ho;unfold only at ih ⊢;rw[insQ];split
  ·rename_i h;rw[bt,ih];by_cases hy:A y.name=true
   ·rw[t8 hy,bt,t8 hy];split
    ·rw[insQ,t8 h]
    ·rfl
   ·rw[ul hy,bt,ul hy]
  ·rename_i h;split
   ·rename_i e;rw[bt,bt,e];split
    ·rw[insQ,ul h,t8 e]
    ·rfl
   ·rename_i e;rw[bt];split
    ·rename_i hx
     have hxy:db x.name y.name=true:=by
      rcases fF x.name y.name with k | k | k
      ·exact k
      ·exact t7 k.symm e
      ·exact t7 k h
     cases hf:f3 (λp=>A p.name) (y::l) with
     | nil=>rw[insQ]
     | cons z r=>
      have hz:z∈y::l:=(mem_filter.1 (by rw[hf];exact bh)).1
      have hxz:db x.name z.name=true:=by
       rcases mem_cons.1 hz with rfl | hz
       ·exact hxy
       ·exact dz hxy (hlt _ (b8 hz))
      have h1:¬db z.name x.name=true:=λk=>by have:=dz hxz k;rw[cr] at this;cases this
      have h2:¬z.name=x.name:=λk=>by rw[k,cr] at hxz;cases hxz
      rw[insQ,ul h1,ul h2]
    ·rfl
def ins_ord{x:PartM}:∀{l:List PartM},ordB (l.map PartM.name)=true->ordB ((insQ x l).map PartM.name)=true/\∀p∈insQ x l,p=x\/p∈l
 | [],_=>⟨rfl,λp hp=>by rw[insQ,mem_singleton] at hp;exact .inl hp⟩
 | y::l,ho=>by
  obtain⟨i1,i2⟩:=ins_ord (x:=x) (l:=l) (ordB_tail ho);have hlt:=ordB_lt (a:=y.name) (l:=l.map PartM.name) ho
  have cons:∀{a:PartM} {r:List PartM},(∀p∈r,db a.name p.name=true)->ordB (r.map PartM.name)=true->ordB ((a::r).map PartM.name)=true:=by
   intro a r h1 h2
   cases r with
   | nil=>rfl
   | cons b r=>
    rw[map_cons,map_cons,ordB,a0];exact⟨h1 b bh,by rw[map_cons] at h2;exact h2⟩
  rw[insQ];split
  ·rename_i h;refine⟨cons (λp hp=>?_) i1,λp hp=>?_⟩
   ·rcases i2 p hp with rfl | hp
    ·exact h
    ·exact hlt _ (b8 hp)
   ·rcases mem_cons.1 hp with rfl | hp
    ·exact .inr bh
    ·exact(i2 p hp).imp id (bi _)
  ·rename_i h;split
   ·rename_i e;refine⟨cons (λp hp=>by rw[<-e];exact hlt _ (b8 hp)) (ordB_tail ho),λp hp=>?_⟩
    rcases mem_cons.1 hp with rfl | hp
    ·exact .inl rfl
    ·exact .inr (bi _ hp)
   ·rename_i e
    have hxy:db x.name y.name=true:=by
     rcases fF x.name y.name with k | k | k
     ·exact k
     ·exact t7 k.symm e
     ·exact t7 k h
    refine⟨cons (λp hp=>?_) ho,λp hp=>?_⟩
    ·rcases mem_cons.1 hp with rfl | hp
     ·exact hxy
     ·exact dz hxy (hlt _ (b8 hp))
    ·rcases mem_cons.1 hp with rfl | hp
     ·exact .inl rfl
     ·exact .inr hp
def only_ord:∀{l:List PartM},ordB (l.map PartM.name)=true->ordB ((only A l).map PartM.name)=true
 | [],_=>rfl
 | y::l,ho=>by
  have ih:=only_ord (l:=l) (ordB_tail ho);have hlt:=ordB_lt (a:=y.name) (l:=l.map PartM.name) ho;unfold only at ih ⊢;rw[bt];split
  ·cases hf:f3 (λp=>A p.name) l with
   | nil=>rfl
   | cons b r=>
    rw[hf] at ih;have hb:b∈l:=(mem_filter.1 (by rw[hf];exact bh)).1;rw[map_cons,map_cons,ordB,a0];exact⟨hlt _ (b8 hb),by rw[map_cons] at ih;exact ih⟩
  ·exact ih
def find_only{name:List Nat}(hA:A name=true):∀l:List PartM,findM (only A l) name=findM l name
 | []=>rfl
 | y::l=>by
  have ih:=find_only hA l;unfold findM only at ih ⊢;rw[bt,d9];by_cases hy:A y.name=true
  ·rw[t8 hy,d9,ih]
  ·rw[ul hy,ih,show decide (y.name=name)=false by rw[wd];intro e;rw[e] at hy;exact hy hA]
def atM_get(name:List Nat):∀(l:List PartM) (i:Nat) (m:List (List Nat×Int)),(bl name (atM i m l)=(bl name m||(findM l name).isSome))/\(bl name m=true->getM 0 name (atM i m l)=getM 0 name m)/\
 (bl name m=false->(findM l name).isSome=true->∃k,getM 0 name (atM i m l)=((i+k:Nat):Int)/\l[k]?=findM l name)
 | [],i,m=>⟨by rw[atM];simp[findM],λ_=>rfl,λ_ h=>by simp[findM] at h⟩
 | p::l,i,m=>by
  obtain⟨a1,a2,a3⟩:=atM_get name l (i+1) (if bl p.name m=true then m else bG p.name i m)
  have hf:findM (p::l) name=if p.name=name then some p else findM l name:=by
   unfold findM;rw[d9];by_cases e:p.name=name
   ·rw[t8 e,ut e]
   ·rw[ul e,un e]
  have hh:bl name (if bl p.name m=true then m else bG p.name (i:Int) m)=(bl name m||decide (p.name=name)):=by
   split
   ·rename_i h;by_cases e:p.name=name
    ·rw[<-e,h];simp
    ·simp[e]
   ·rw[iA,Bool.or_comm]
    congr 1
    by_cases e:p.name=name
    ·rw[ut e,ut e.symm]
    ·rw[un e,un λh=>e h.symm]
  rw[atM];refine⟨?_,λh=>?_,λh h2=>?_⟩
  ·rw[a1,hh,hf];by_cases e:p.name=name
   ·simp[e]
   ·simp[e]
  ·rw[a2 (by rw[hh,h];rfl)];split
   ·rfl
   ·rename_i hp;rw[cz,ul];intro e;rw[<-e,h] at hp;exact hp rfl
  ·by_cases e:p.name=name
   ·refine⟨0,?_,?_⟩
    ·rw[a2 (by rw[hh,ut e,Bool.or_true]),e,h,ul dd,cz,t8 rfl];rfl
    ·rw[hf,t8 e];rfl
   ·rw[hf,ul e] at h2 ⊢;obtain⟨k,k1,k2⟩:=a3 (by rw[hh,h,un e];rfl) h2;exact⟨k+1,by rw[k1];congr 1;omega,by rw[dt];exact k2⟩
def getP_find(ps:List PartM)(name:List Nat):getP ps (atM 0 [] ps) name=findM ps name:=by
 obtain⟨a1,_,a3⟩:=atM_get name ps 0 [];unfold getP;rw[a1];cases h:(findM ps name).isSome
 ·rw[show(bl name ([]:List (List Nat×Int))||false)=false from rfl,ul dd]
  cases hf:findM ps name with
  | none=>rfl
  | some x=>rw[hf] at h;cases h
 ·obtain⟨k,k1,k2⟩:=a3 rfl h;rw[show(bl name ([]:List (List Nat×Int))||true)=true from rfl,t8 rfl,k1,f0,Int.toNat_natCast,k2]
end
section
variable {A:List Nat->Bool}
def nt(A:List Nat->Bool):List Nat->Bool:=λn=>!(A n)
def Apart.nt{ps:List PartM}(h:Apart A ps):Apart (nt A) ps:=λp hp hi=>by unfold Proofs.nt;rw[h p hp hi]
def parts_split{c:List KKind}{ps:List PartM}(hap:Apart A ps):∀{l:List PartM} {t t1 t2:List (SeatM×Bool)},(∀p∈l,p∈ps)->(∀s:SeatM,A s.into=true->getM false s t=getM false s t1)->(∀s:SeatM,A s.into=false->getM false s t=getM false s t2)->
 partsV c ps (atM 0 [] ps) t l=(partsV c (only A ps) (atM 0 [] (only A ps)) t1 (only A l)&&partsV c (only (nt A) ps) (atM 0 [] (only (nt A) ps)) t2 (only (nt A) l))
 | [],_,_,_,_,_,_=>rfl
 | p::l,t,t1,t2,hl,h1,h2=>by
  have hp:=hl p bh;have hl2:∀q∈l,q∈ps:=λq hq=>hl q (bi _ hq);have ih:=λ{t t1 t2}=>parts_split (c:=c) hap (l:=l) (t:=t) (t1:=t1) (t2:=t2) hl2
  have e1:only A (p::l)=if A p.name=true then p::only A l else only A l:=bt
  have e2:only (nt A) (p::l)=if A p.name=true then only (nt A) l else p::only (nt A) l:=by
   unfold only nt;rw[bt];cases A p.name<;>rfl
  rw[e1,e2,partsV];by_cases hi:p.into=[]
  ·rw[ut hi,ab,ih h1 h2];split<;>rw[partsV,ut hi,ab]
   ·simp only[fm]
   ·generalize rightN c p=a;generalize (true==decide (p.slot=[]))=b;generalize partsV c (only A ps) _ t1 _=x;generalize partsV c (only (nt A) ps) _ t2 _=y;cases a<;>cases b<;>cases x<;>cases y<;>rfl
  ·have hpi:=hap p hp hi;rw[un hi,ah,getP_find];split
   ·rename_i ha
    have hai:A p.into=true:=by rw[<-hpi];exact ha
    rw[partsV,un hi,ah,getP_find,find_only hai]
    rw[ih (t:=bG ⟨p.into,p.slot⟩ true t) (t1:=bG ⟨p.into,p.slot⟩ true t1) (t2:=t2) (λs hs=>by rw[cz,cz,h1 s hs]) (λs hs=>by
     rw[cz,ul,h2 s hs]
     intro e;rw[e] at hs;rw[hai] at hs;cases hs)]
    have hh:hostV c t p (findM ps p.into)=hostV c t1 p (findM ps p.into):=by
     unfold hostV
     cases findM ps p.into with
     | none=>rfl
     | some h=>simp only;rw[h1 ⟨p.into,p.slot⟩ hai]
    rw[hh];simp only[fm]
   ·rename_i ha
    have ha:A p.name=false:=by cases h:A p.name<;>simp_all
    have hai:A p.into=false:=by rw[<-hpi];exact ha
    have hni:nt A p.into=true:=by unfold nt;rw[hai];rfl
    rw[partsV,un hi,ah,getP_find,find_only hni]
    rw[ih (t:=bG ⟨p.into,p.slot⟩ true t) (t1:=t1) (t2:=bG ⟨p.into,p.slot⟩ true t2) (λs hs=>by
     rw[cz,ul,h1 s hs]
     intro e;rw[e] at hs;rw[hai] at hs;cases hs) (λs hs=>by rw[cz,cz,h2 s hs])]
    have hh:hostV c t p (findM ps p.into)=hostV c t2 p (findM ps p.into):=by
     unfold hostV
     cases findM ps p.into with
     | none=>rfl
     | some h=>simp only;rw[h2 ⟨p.into,p.slot⟩ hai]
    rw[hh];generalize rightN c p=a;generalize (false==decide (p.slot=[]))=b;generalize hostV c t2 p _=d;generalize partsV c (only A ps) _ t1 _=x;generalize partsV c (only (nt A) ps) _ _ _=y;cases a<;>cases b<;>cases d<;>cases x<;>cases y<;>rfl
def only_len(ps:List PartM):(only A ps).length<=ps.length:=List.length_filter_le _ _
def valid_split{c:List KKind}{ps:List PartM}(hap:Apart A ps)(ho:ordB (ps.map PartM.name)=true)(hlen:ps.length<20000):validF c ps=(validF c (only A ps)&&validF c (only (nt A) ps)):=by
 unfold validF;have l1:=only_len (A:=A) ps;have l2:=only_len (A:=nt A) ps
 rw[ho,only_ord ho,only_ord ho,un (show ¬20000<(ps.length:Int) by omega),un (show ¬20000<((only A ps).length:Int) by omega),un (show ¬20000<((only (nt A) ps).length:Int) by omega),
  parts_split hap (t:=[]) (t1:=[]) (t2:=[]) (λ_ h=>h) (λ_ _=>rfl) λ_ _=>rfl]
 generalize catV c=a;generalize partsV c (only A ps) _ _ _=x;generalize partsV c (only (nt A) ps) _ _ _=y;cases a<;>cases x<;>cases y<;>rfl
end
section
variable {A:List Nat->Bool}
structure Alike (A:List Nat->Bool) (ps:List PartM) (r r':List PartM×Int):Prop where
 e:r.2=r'.2
 s:r.2=0->only A r.1=r'.1/\only (nt A) r.1=only (nt A) ps/\Apart A r.1/\ordB (r.1.map PartM.name)=true/\r.1.length<=ps.length+1
def Alike.err{ps:List PartM}(k:Int)(hk:k≠0):Alike A ps ([],k) ([],k):=⟨rfl,λh=>t7 h hk⟩
def ins_len(x:PartM):∀l:List PartM,(insQ x l).length<=l.length+1
 | []=>aS _
 | y::l=>by
  have ih:=ins_len x l;rw[insQ];split
  ·simp only[ba];omega
  ·split<;>simp only[ba]<;>omega
def Alike.put{ps:List PartM}(hap:Apart A ps)(ho:ordB (ps.map PartM.name)=true){x:PartM}(hx:A x.name=true)(hi:x.into≠[]->A x.into=true):Alike A ps (putPart ps x,0) (putPart (only A ps) x,0):=by
 refine⟨rfl,λ_=>?_⟩;simp only[putPart_ins]
 have hn:nt A x.name=false:=by unfold nt;rw[hx];rfl
 obtain⟨o1,o2⟩:=ins_ord (x:=x) ho;refine⟨by rw[ins_only ho,t8 hx],by rw[ins_only ho,ul (by rw[hn];exact dd)],λp hp hpi=>?_,o1,ins_len x ps⟩
 rcases o2 p hp with rfl | hp
 ·rw[hx,hi hpi]
 ·exact hap p hp hpi
def findM_mem{ps:List PartM}{n:List Nat}{p:PartM}(h:findM ps n=some p):p∈ps/\p.name=n:=by
 unfold findM at h;exact⟨b5 h,by simpa using e6 h⟩
def valid_name{c:List KKind}{ps:List PartM}(hv:validF c ps=true){p:PartM}(hp:p∈ps):p.name≠[]:=by
 unfold validF at hv;simp only[a0] at hv;have:=parts_right hv.2.2.2 p hp;unfold rightN at this;simp only[a0] at this;intro e;have h:=this.2.1;rw[e] at h;cases h
def any_only{ps:List PartM}(hap:Apart A ps){n:List Nat}(hn:n≠[])(hA:A n=true)(f:PartM->Bool):(ps.any λq=>decide (q.into=n)&&f q)=((only A ps).any λq=>decide (q.into=n)&&f q):=by
 rw[Bool.eq_iff_iff,eB,eB];constructor
 ·rintro⟨q,hq,h⟩;refine⟨q,mem_filter.2 ⟨hq,?_⟩,h⟩;rw[a0,wp] at h;show A q.name=true;rw[hap q hq (by rw[h.1];exact hn),h.1,hA]
 ·rintro⟨q,hq,h⟩;exact⟨q,(mem_filter.1 hq).1,h⟩
def step_in{c:List KKind}{ps:List PartM}{e:EvM}{p h:PartM}(hap:Apart A ps)(ho:ordB (ps.map PartM.name)=true)(hv:validF c ps=true)(hp:p∈ps)(hpn:A p.name=true)(hh:h∈ps)(hI:e.op=2->A e.into=true/\h.name=e.into):
 Alike A ps (stepN c ps e p h) (stepN c (only A ps) e p h):=by
 have hpi:p.into≠[]->A p.into=true:=λk=>by rw[<-hap p hp k];exact hpn
 have put:=λ{x:PartM}=>Alike.put (x:=x) hap ho;unfold stepN;simp only;by_cases h2:e.op=2
 ·rw[t8 h2,t8 h2];obtain⟨i1,i2⟩:=hI h2
  have hne:e.into≠[]:=by rw[<-i2];exact valid_name hv hh
  rw[any_only hap hne i1 λq=>decide (q.slot=e.slot)];split
  ·exact .err 4 (by decide)
  ·split
   ·exact .err 5 (by decide)
   ·split
    ·exact .err 6 (by decide)
    ·exact put hpn λ_=>i1
 rw[ul h2,ul h2];by_cases h3:e.op=3
 ·rw[t8 h3,t8 h3];split
  ·exact .err 5 (by decide)
  ·exact put hpn λk=>t7 rfl k
 rw[ul h3,ul h3];by_cases h4:e.op=4
 ·rw[t8 h4,t8 h4];split
  ·exact put hpn hpi
  ·exact .err 4 (by decide)
 rw[ul h4,ul h4];by_cases h5:e.op=5
 ·rw[t8 h5,t8 h5];exact put hpn hpi
 rw[ul h5,ul h5];by_cases h6:e.op=6
 ·rw[t8 h6,t8 h6];split
  ·exact .err 7 (by decide)
  ·exact put hpn hpi
 rw[ul h6,ul h6];by_cases h7:e.op=7
 ·rw[t8 h7,t8 h7];have ha:=any_only hap (valid_name hv hp) hpn λ_=>true;simp only[el] at ha;rw[ha];split
  ·exact .err 5 (by decide)
  ·split
   ·exact .err 5 (by decide)
   ·exact put hpn hpi
 rw[ul h7,ul h7];exact put hpn hpi
def fleet_in{c:List KKind}{ps:List PartM}{e:EvM}(hap:Apart A ps)(ho:ordB (ps.map PartM.name)=true)(hlen:ps.length<20000)(hv2:validF c (only (nt A) ps)=true)(hA:A e.part=true)(hI:e.op=2->A e.into=true):
 Alike A ps (fleetN c ps e) (fleetN c (only A ps) e):=by
 have hl:=only_len (A:=A) ps;unfold fleetN;rw[valid_split hap ho hlen,hv2,el];cases hv:validF c (only A ps)
 ·exact .err 1 (by decide)
 have hvp:validF c ps=true:=by rw[valid_split hap ho hlen,hv,hv2];rfl
 rw[t8 rfl,t8 rfl];split;rotate_left
 ·exact .err 1 (by decide)
 by_cases h1:e.op=1
 ·rw[t8 h1,t8 h1,getP_find,getP_find,find_only hA];unfold makeN;split
  ·exact .err 3 (by decide)
  ·split
   ·exact .err 4 (by decide)
   ·rw[ul (show ¬(ps.length:Int)=20000 by omega),ul (show ¬((only A ps).length:Int)=20000 by omega)];exact .put hap ho hA λk=>t7 rfl k
 rw[ul h1,ul h1,getP_find,getP_find,getP_find,getP_find,find_only hA]
 have hf2:(if e.op=2 then findM (only A ps) e.into else findM ps e.part)=if e.op=2 then findM ps e.into else findM ps e.part:=by
  split
  ·rename_i h2;exact find_only (hI h2) ps
  ·rfl
 rw[hf2]
 cases hp:findM ps e.part with
 | none=>exact .err 2 (by decide)
 | some p=>
  cases hh:(if e.op=2 then findM ps e.into else some p) with
  | none=>
   rw[<-hp] at hh;exact .err 2 (by decide)
  | some h=>
   obtain⟨p1,p2⟩:=findM_mem hp
   have hhm:h∈ps/\(e.op=2->h.name=e.into):=by
    by_cases h2:e.op=2
    ·rw[t8 h2] at hh;obtain⟨q1,q2⟩:=findM_mem hh;exact⟨q1,λ_=>q2⟩
    ·rw[ul h2] at hh;cases hh;exact⟨p1,λk=>t7 k h2⟩
   simp only;split
   ·exact .err 5 (by decide)
   ·exact step_in hap ho hvp p1 (by rw[p2];exact hA) hhm.1 λh2=>⟨hI h2,hhm.2 h2⟩
end
end Go.Proofs
