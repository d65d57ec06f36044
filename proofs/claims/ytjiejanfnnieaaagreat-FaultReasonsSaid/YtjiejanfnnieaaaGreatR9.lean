/- Lemmas of this claim, each with its conditions. -/
import Derived.Test.YtjiejanfnnieaaaGreatR8
import Derived.Test.YtjiejanfnnieaaaGreatR7
import Derived.Test.YtjiejanfnnieaaaGreatR5
import Derived.Test.YtjiejanfnnieaaaGreatR4
import Derived.Test.YtjiejanfnnieaaaGreatR3
import Derived.ProofKit
import Derived.SizedLaws
import Derived.Carry
import Derived.Test.YtjiejanfnnieaaaGreatRows
set_option linter.all false
set_option maxHeartbeats 8000000
open Go.Proofs.Tryz (prog func5)
open List (map_nil all_eq_true filter_nil nil_append take_zero cons_append flatMap_nil)
open Nat (ble beq)
open Nat renaming le_refl -> aa, reduceEqDiff -> ac, reduceAdd -> ad, reduceLeDiff -> am, reduceLT -> ap, reduceMul -> ay, le_trans -> a7, zero_le -> a8, reduceSub -> be, not_lt_zero -> b7, beq_refl -> b8, zero_add -> b9, lt_succ_self -> ce, sub_zero -> ck, zero_mul -> d8
open List renaming take_length -> aj, mem_of_getElem? -> al, length_map -> aS, take_of_length_le -> aW, length_filter_le -> a9, mem_cons_of_mem -> ba, map_cons -> bb, getElem?_append_left -> bc, not_mem_nil -> bd, append_nil -> bh, map_append -> bi, length_take -> bt, filter_append -> bv, mem_cons_self -> bw, sizeOf_lt_of_mem -> bX, filter_cons -> b6, getElem?_cons_succ -> cb, getElem?_cons_zero -> cc, getElem?_replicate -> cd, drop_of_length_le -> ch, length_drop -> ci, getElem?_append -> cn, length -> co, flatMap_append -> cp, length_flatMap -> ct, map_replicate -> cv, flatMap_cons -> c0, foldl_append -> dc, mem_cons -> dd, replicate -> dt, all_cons -> dC, sum_cons -> d7
open Bool renaming and_eq_true -> ax, not_eq_true' -> bk, false_ne_true -> ca, true_and -> dv, or_true -> d9
open And renaming intro -> cl
open Go.Proofs.Tryz renaming checked -> dl
namespace Go.Proofs
open Go.Ev
set_option maxRecDepth 100000
def B4:∀(L:List aw) {m:List (aw×Bool)},(m.map (·.1)).Nodup->((eH m L).map (·.1)).Nodup
 | [],_,h=>h
 | f::L,_,h=>B4 L (ub (k:=f) (v:=true) h)
def yV:∀(L:List aw) (m:List (aw×Bool)),(eH m L).length<=m.length+L.length
 | [],_=>aa _
 | f::L,m=>by
  have h1:=yV L (cC f true m);have h2:=xX (k:=f) (v:=true) (m:=m);rw[i7];show(eH (cC f true m) L).length<=_;omega
def xD(c:List aM)(b:dS)(l:List br)(ps:List ak)(day:Int)(p:ak):(nz c b l ps day p).length<=b.rules.length+b.bF.length+b.dE.length+1:=by
 unfold nz;rw[li,li,li,aS,aS,aS];have h1:=a9 (λr:eR=>decide (r.kind=p.kind)&&(!rC b.mO p.name r.name day&&!(decide (lK ps r.cond p.name day=2)))) b.rules;have h2:=a9 (λr:eR=>decide (r.kind=p.kind)&&!(decide (lK ps r.cond p.name day=0))) b.bF;have h3:=z8 b.dE c l p.name day
 have h4:(if ie c b.fi ps p.name day=true then [] else [(⟨2,p.name,p.slot⟩:aw)]).length<=1:=by split<;>simp
 omega
def DS{α:Type}(enc:α->List SV)(z:α)(o:Option α):jf enc z o=.cx [.ag (enc (o.getD z)),an o.isSome]:=by cases o<;>rfl
def vO{c:List aM}{dmg:bu}{l:List br}{day:Int}(hl:∀e∈l,lY e):(runN c dmg l day).1.length<=l.length:=by
 have key:∀(l:List br) (i:Nat) (s:List ak),(∀p∈s,fz p)->(∀e∈l,lY e)->(lB c dmg i l s).1.length<=s.length+l.length:=by
  intro l
  induction l with
  | nil=>exact λi s _ _=>aa _
  | cons e r ih=>
   intro i s hs he;obtain⟨q1,q2,_,_⟩:=oM (c:=c) (ps:=s) (e:=e) hs (he e bw);rw[lB,i7];split
   ·split
    ·have:=ih (i+1) _ (x8 (dmg:=dmg) (e:=e) q1).1 λx hx=>he x (ba _ hx);rw[(x8 (dmg:=dmg) (e:=e) q1).2] at this;omega
    ·have:=ih (i+1) _ q1 λx hx=>he x (ba _ hx);omega
   ·exact a8 _
 unfold runN;split
 ·have:=key (eL (dY (eV day) l)) 0 [] (λp h=>un h bd) λe he=>hl e (xZ he);have:=xY l (eV day);simp only[i5] at *;omega
 ·exact a8 _
def Ag{c:List aM}{dmg:bu}{l:List br}{day:Int}(hl:∀e∈l,lY e):∀p∈(runN c dmg l day).1,fz p:=by
 have key:∀(l:List br) (i:Nat) (s:List ak),(∀p∈s,fz p)->(∀e∈l,lY e)->∀p∈(lB c dmg i l s).1,fz p:=by
  intro l
  induction l with
  | nil=>exact λi s h _=>h
  | cons e r ih=>
   intro i s hs he;obtain⟨q1,q2,_,_⟩:=oM (c:=c) (ps:=s) (e:=e) hs (he e bw);rw[lB];split
   ·split
    ·exact ih _ _ (x8 q1).1 λx hx=>he x (ba _ hx)
    ·exact ih _ _ q1 λx hx=>he x (ba _ hx)
   ·exact λp h=>un h bd
 unfold runN;split
 ·exact key _ _ _ (λp h=>un h bd) λe he=>hl e (xZ he)
 ·exact λp h=>un h bd
def LQ{m:List (aw×Bool)}{g:List Nat->List aw}{l:List (List Nat)}{k:Nat}{n:List Nat}(h:l[k]?=some n):eH m ((l.take (k+1)).flatMap g)=eH (eH m ((l.take k).flatMap g)) (g n):=by
 rw[cq h,cp,oQ,c0,flatMap_nil,bh]
def LV{m:List (aw×Bool)}{q:gN->Bool}{g:gN->aw}{l:List gN}{k:Nat}{r:gN}(h:l[k]?=some r):eH m (((l.take (k+1)).filter q).map g)=if q r=true then cC (g r) true (eH m (((l.take k).filter q).map g)) else eH m (((l.take k).filter q).map g):=by
 rw[cq h,bv,b6,filter_nil];split
 ·rw[bi,bb,map_nil,vr]
 ·rw[bh]
abbrev RO(c:List aM)(dmg:bu)(b:dS)(l:List br)(vehicle:List Nat)(day:Int):Fm:=[(3,ah vehicle),(5,.ip (ao 3 c ar::aG dmg)),(6,.ip (aJ b)),(7,.ip [ao 14 l au]),(9,.ip [ab day])]
abbrev nB(c:List aM)(dmg:bu)(b:dS)(l:List br)(ps:List ak)(vehicle:List Nat)(day:Int):Fm:=(11,.ptr 1 0)::(12,.ip [ao 14 ps ae])::RO c dmg b l vehicle day
def AN(c:List aM)(dmg:bu)(b:dS)(l:List br)(vehicle:List Nat)(day:Int)(hb:sD b)(hc:mI c)(hf:gM dmg)(hl:l.length<20)(hle:∀e∈l,lY e):
 PC prog 12 [.ag (ao 3 c ar::aG dmg),.ag (aJ b),ao 14 l au,ah vehicle,ab day] (·=ao 3 (jl c dmg b l vehicle day) ai):=by
 have hfl:(aG dmg).length=3:=e7 dmg;have hft:(aG dmg).take 3=aG dmg:=aW (by rw[hfl];exact aa _);have hfk:=λo:Nat=>bV (o:=o) (aX dmg);have hfn:=λo:Nat=>cm (o:=o) (aX dmg);have hru:=AS c dmg l day hc hf hl hle;have hpl:(runN c dmg l day).1.length<=20:=a7 (vO hle) i4;have hpo:=Ag (c:=c) (dmg:=dmg) (day:=day) hle;unfold Tp at hru;obtain⟨R,hR⟩:∃R,R=jl c dmg b l vehicle day:=⟨_,rfl⟩;rw[<-hR];unfold jl at hR;generalize runN c dmg l day=rr at hru hpl hpo hR;have hfi:=λn=>gn rr.1 n i4;simp only[DS] at hfi;have hki:=λn=>kP c n hc.len;simp only[DS] at hki
 refine pB 116 Tryz.func12 ?_;refine(aB (cJ hfk hfn @aJ.eq_1)) ?_;refine zZ [(3,ah vehicle),(5,.ip (ao 3 c ar::aG dmg)),(6,.ptr 1 0),(7,.ptr 2 0),(9,.ptr 3 0)] 0 rfl ⟨.inl rfl,.inr (.ptr rfl (cA.refl (aX dmg)) (a8 _)),zj⟩<|zZ [(3,ah vehicle),(5,.ip (ao 3 c ar::aG dmg)),(6,.ip (aJ b)),(7,.ptr 2 0),(9,.ptr 3 0)] 1 rfl (gE (bm @ao.eq_1 @aJ.eq_1))<|zZ [(3,ah vehicle),(5,.ip (ao 3 c ar::aG dmg)),(6,.ip (aJ b)),(7,.ip [ao 14 l au]),(9,.ptr 3 0)] 2 rfl (gE @ao.eq_1)<|zZ (RO c dmg b l vehicle day) 3 rfl (gE @ao.eq_1)<|zA (RO c dmg b l vehicle day) [] zH<|(zV)<|zA ((11,.ptr 1 0)::RO c dmg b l vehicle day) [bG cU an [],.cells [.map 0]] (cg (show SO.map [] [] none=bG cU an [] from rfl))<|(eQ (bm hfl hft))<|(zK hru (hwk:=(.cons (.ag (cA.refl (aX dmg))) zr)) (hfl:=.inr (.cons (.ag (cA.refl (aX dmg))) zr)))<|(cM @bg) ?_
 generalize rr.1=ps at *
 refine zZ ((14,ab rr.2.2)::nB c dmg b l ps vehicle day) 2 rfl (gE @ao.eq_1)<|zA ((14,ab rr.2.2)::nB c dmg b l ps vehicle day) [bG cU an [],.cells [.map 0]] (cg @bg)<|(zC)<|(zK (hfi vehicle) (hfl:=.inr zr)) ?_
 obtain⟨v,hv⟩:∃v,v=(bE ps vehicle).getD ak.zero:=⟨_,rfl⟩;obtain⟨is,his⟩:∃is,is=(bE ps vehicle).isSome:=⟨_,rfl⟩;rw[<-hv,<-his];have hek:ae v=[ah v.name,ah v.kind,ah v.aT,ah v.slot,ab v.made,ab v.since,an v.bq,ao 2 v.props aI,ab v.l1,ab v.l2,ab v.l3,ab v.l4,ab v.l5,ab v.l6]:=rfl
 refine(cM (bm @bg hek)) ?_;refine zZ ((16,an is)::(15,.ip (ae v))::(14,ab rr.2.2)::nB c dmg b l ps vehicle day) 2 rfl (gE (bm @ao.eq_1 @ae.eq_1))<|zA ((16,an is)::(15,.ip (ae v))::(14,ab rr.2.2)::nB c dmg b l ps vehicle day) [bG cU an [],.cells [.map 0]] (cg @bg)<|(eQ @ae.eq_1)<|(zK (hki v.kind) (hfl:=.inr zr)) ?_
 obtain⟨kd,hkd⟩:∃kd,kd=(dF c v.kind).getD aM.zero:=⟨_,rfl⟩;rw[<-hkd];generalize (dF c v.kind).isSome=kis
 refine(cM (bm @bg @ar.eq_1)) ?_;refine zZ ((17,.ip (ar kd))::(16,an is)::(15,.ip (ae v))::(14,ab rr.2.2)::nB c dmg b l ps vehicle day) 2 rfl (gE (cJ @ao.eq_1 @ae.eq_1 @ar.eq_1))<|zA ((17,.ip (ar kd))::(16,an is)::(15,.ip (ae v))::(14,ab rr.2.2)::nB c dmg b l ps vehicle day) [bG cU an [],.cells [.map 0]] (cg @bg) ?_
 obtain⟨bad,hbad⟩:∃bad:Bool,bad=(!(decide (rr.2.2=0))||(!is||(v.bq||!kd.vehicle))):=⟨_,rfl⟩
 (repeat refine aE.seq ?_)
 refine aE.mono (Q:=λex st=>ex=.normal/\Fg st ⟨(63,an bad)::(15,.ip (ae v))::nB c dmg b l ps vehicle day,116,[bG cU an [],.cells [.map 0]],[]⟩) ?_ ?_
 ·cases g0:decide (rr.2.2=0)
  ·rw[g0] at hbad;subst hbad;refine(aB g0) ?_;exact⟨rfl,(cg @bg)⟩
  cases g1:is
  ·rw[g0,g1] at hbad;subst hbad;refine(aB g0) ?_;exact⟨rfl,(cg @bg)⟩
  cases g2:v.bq;rotate_left
  ·rw[g0,g1,g2] at hbad;subst hbad;refine(aB (cJ g0 @ae.eq_1 g2)) ?_;exact⟨rfl,(cg (cJ @bg @ae.eq_1 g2))⟩
  cases g3:kd.vehicle
  ·rw[g0,g1,g2,g3] at hbad;subst hbad;refine(aB (kY g0 @ae.eq_1 g2 @ar.eq_1 g3)) ?_;exact⟨rfl,(cg (cJ @bg @ae.eq_1 g2))⟩
  ·rw[g0,g1,g2,g3] at hbad;subst hbad;refine(aB (kY g0 @ae.eq_1 g2 @ar.eq_1 g3)) ?_;exact⟨rfl,(cg (cJ @bg @ae.eq_1 g2))⟩
 rintro _ _ ⟨rfl,hfg⟩;simp only[cz];refine aE.fg hfg ?_;clear hfg
 have hRb:R=if bad=true then [⟨4,vehicle,[]⟩] else gm (qU (qK c b l ps vehicle day v)):=by
  rw[hR,hbad]
  cases hm:bE ps vehicle with
  | none=>rw[his,hm];simp
  | some w=>
   rw[hm] at hv his;have hv:v=w:=hv;subst hv;simp only[his,Option.isSome_some,Bool.not_true,Bool.false_or,<-hkd];by_cases k0:rr.2.2=0
   ·cases v.bq<;>cases kd.vehicle<;>simp[k0]
   ·simp[k0]
 cases bad;rotate_left
 ·rw[ut rfl] at hRb;have hadd:=mH [] 4 vehicle [[]] (by show 1<=1000000;decide);rw[show eH [] ([[]].map λn=>(⟨4,vehicle,n⟩:aw))=[(⟨4,vehicle,[]⟩,true)] from rfl] at hadd;have hord:=sB [(⟨4,vehicle,[]⟩,true)] (by show 1<=100000;decide) ge;rw[show gm ([((⟨4,vehicle,[]⟩:aw),true)].map (·.1))=R from hRb.symm] at hord
  refine(zY)<|(eQ @bg) ?_;refine oZ ((66,ao 1 [([]:List Nat)] (aD ah))::(65,ah vehicle)::(64,.map 0)::nB c dmg b l ps vehicle day) 2 rfl ⟨.inr (.buf rfl (cA.refl rfl) (aa _)),zj⟩<|oA ((66,ao 1 [([]:List Nat)] (aD ah))::(65,ah vehicle)::(64,.map 0)::nB c dmg b l ps vehicle day) [bG cU an [],.cells [.map 0]] (cg @bg) ?_;refine zS [0] (cJ @bg @iP @eS) hadd ?_;refine(zR) ?_;refine aE.fg (Fg.ma (f':=[(11,.ptr 1 0)]) (S':=[.gone,.cells [mc cU an [(⟨4,vehicle,[]⟩,true)]]]) 0 rfl gt zj ⟨.inl rfl,.inr ⟨by decide,.inr ⟨_,_,rfl,rfl,.cons (mu (λ_=>rfl) rfl) .nil⟩⟩,trivial⟩) ?_;exact zZ [(11,.ip [mc cU an [((⟨4,vehicle,[]⟩:aw),true)]])] 1 rfl ⟨.inr (.ptr rfl (cA.refl rfl) (a8 _)),trivial⟩<|zA [(11,.ip [mc cU an [((⟨4,vehicle,[]⟩:aw),true)]])] [] zH<|(zC)<|(zK hord (hfl:=.inr zr))<|(zR)<|zo [.tmp 10] (r:=ao 3 R ai) (hw:=Wk.refl rfl)
 rw[v6 ca] at hRb;have hpr:∀p∈ps,p.props.length<=1000000:=λp hp=>(hpo p hp).len;have hask:=λp m=>G0 c dmg b l ps day p m hb hc hl hle i4 hpr;have hin:=oa ps vehicle i4;have hil:=kG ps vehicle;unfold qK at hRb;generalize eb ps vehicle=I at hin hil hRb;have hrc:∀(r:Nat->Nat) (l:List (List Nat)),mG r (l.flatMap (aD ah))=l.flatMap (aD ah):=λr l=>bl (aC (λ_=>rfl) l);have hbc:∀(B:Nat) (l:List (List Nat)),iy B (l.flatMap (aD ah))=true:=λB l=>bM (aC (λ_=>rfl) l);have hkc:∀(o:Nat) (l:List (List Nat)),(l.flatMap (aD ah)).map (aP o)=l.flatMap (aD ah):=λo l=>bp (enc:=aD ah) gc o l
 have hlI:I.length<=1000000:=by omega
 have hlh:b.holds.length<=1000000:=a7 hb.lh g9
 refine(lD)<|zA ((19,.fn 31 [] [.ip (aJ b),.ip [ab day],.ip [ao 14 ps ae],.ptr 1 0,.ip (ao 3 c ar::aG dmg),.ip [ao 14 l au]])::(15,.ip (ae v))::nB c dmg b l ps vehicle day) [bG cU an [],.cells [.map 0]] (cg @bg)<|(eQ @ae.eq_1) ?_;refine zS [1,0] (cJ @bg @iP @eS) (hask v []) ?_ (hc:=yc (bm @cons_append.{0} @nil_append.{0}));refine(zR) ?_
 obtain⟨m1,hm1⟩:∃m1,m1=eH [] (nz c b l ps day v):=⟨_,rfl⟩;rw[<-hm1];refine zA ((19,.fn 31 [] [.ip (aJ b),.ip [ab day],.ip [ao 14 ps ae],.ptr 1 0,.ip (ao 3 c ar::aG dmg),.ip [ao 14 l au]])::nB c dmg b l ps vehicle day) [bG cU an m1,.cells [.map 0]] (cg @bg) ?_
 (repeat refine aE.seq ?_)
 refine aE.mono (Q:=λex st=>ex=.normal/\Fg st ⟨(76,ao 1 I (aD ah))::(77,ab I.length)::(78,ab 0)::(19,.fn 31 [] [.ip (aJ b),.ip [ab day],.ip [ao 14 ps ae],.ptr 1 0,.ip (ao 3 c ar::aG dmg),.ip [ao 14 l au]])::nB c dmg b l ps vehicle day,116,[bG cU an m1,.cells [.map 0]],[]⟩) ?_ ?_
 ·by_cases hL:I=[]
  ·subst hL;rw[show bY 0 1 ([]:List (List Nat)).length=bH from rfl,gw] at hin;refine(zC) ?_;refine aN.sk [] ii rfl rfl ii rfl zc (hin) (by simp only[gA,bP,ao,↓reduceIte,ac,ad,be,ay,am,ap,↓bg,iP,eS];first | done | rfl) rfl g9 (by simp only[Du,gA,bP,ao,↓bg,iP,eS]<;>(repeat' apply cl)<;>first | trivial | rfl | (intro hh;cases hh)) (by simp only[CE,gA,bP,ao,ad,ap,decide_true,↓bg,iP,eS];first | done | rfl) (by simp only[CE,gA,bP,ao,ad,ap,decide_true,↓bg,iP,eS];first | done | rfl) (by simp only[gA,bP,ao,↓reduceIte,ac,ad,be,ay,am,ap,↓bg,iP,eS];first | done | rfl) (by simp only[gA,bP,ao,↓reduceIte,ac,ad,be,ay,am,ap,↓bg,iP,eS,dB,dh,bW,aP,cY];first | done | rfl) (by simp only[gA,bP,ao,↓reduceIte,ac,ad,be,ay,am,ap,↓bg,iP,eS,dB,dh,bW,aP,cY];first | done | rfl) ?_;refine(zR) ?_;exact⟨rfl,Fg.trans (Fg.wk (f':=(76,ao 1 ([]:List (List Nat)) (aD ah))::(77,ab (([]:List (List Nat)).length))::(78,ab 0)::(19,.fn 31 [] [.ip (aJ b),.ip [ab day],.ip [ao 14 ps ae],.ptr 1 0,.ip (ao 3 c ar::aG dmg),.ip [ao 14 l au]])::nB c dmg b l ps vehicle day) ⟨.inr (Wk.nil 1),zj⟩) (cg @bg)⟩
  ·have hL0:¬I.length=0:=λh=>hL (t8 h);rw[dQ (o:=0) (e:=1) hL0,fK hL] at hin;refine(zC) ?_;refine aN.sk [] ii rfl rfl ii rfl zc (hin) (by simp only[gA,bP,ao,↓reduceIte,ac,ad,be,ay,am,ap,↓bg,iP,eS,hrc,hbc,hkc];first | done | rfl) rfl g9 (by simp only[Du,gA,bP,ao,↓bg,iP,eS,hrc,hbc,hkc]<;>(repeat' apply cl)<;>first | trivial | rfl | (intro hh;cases hh)) (by simp only[CE,gA,bP,ao,ad,ap,decide_true,↓bg,iP,eS,hrc,hbc,hkc];first | done | rfl) (by simp only[CE,gA,bP,ao,ad,ap,decide_true,↓bg,iP,eS,hrc,hbc,hkc];first | done | rfl) (by simp only[gA,bP,ao,↓reduceIte,ac,ad,be,ay,am,ap,↓bg,iP,eS,hrc,hbc,hkc];first | done | rfl) (by simp only[gA,bP,ao,↓reduceIte,ac,ad,be,ay,am,ap,↓bg,iP,eS,hrc,hbc,hkc,dB,dh,bW,aP,cY];first | done | rfl) (by simp only[gA,bP,ao,↓reduceIte,ac,ad,be,ay,am,ap,↓bg,iP,eS,hrc,hbc,hkc,dB,dh,bW,aP,cY];first | done | rfl) ?_;refine(zR) ?_;exact⟨rfl,Fg.trans (Fg.freeze (f':=(76,ao 1 I (aD ah))::(77,ab I.length)::(78,ab 0)::(19,.fn 31 [] [.ip (aJ b),.ip [ab day],.ip [ao 14 ps ae],.ptr 1 0,.ip (ao 3 c ar::aG dmg),.ip [ao 14 l au]])::nB c dmg b l ps vehicle day) 2 rfl gt ⟨.inr (.buf rfl (by rw[dU (enc:=aD ah) (e:=1) gc];exact cA.refl (aC (λ_=>rfl) _)) (by rw[aU (enc:=aD ah) (e:=1) gc];exact aa _)),zj⟩) (cg @bg)⟩
 rintro _ _ ⟨rfl,hfg⟩;simp only[cz];refine aE.fg hfg ?_;clear hfg hin;refine(zs) ?_;refine zL I (λk=>True) (λk=>(76,ao 1 I (aD ah))::(77,ab I.length)::(78,ab k)::(19,.fn 31 [] [.ip (aJ b),.ip [ab day],.ip [ao 14 ps ae],.ptr 1 0,.ip (ao 3 c ar::aG dmg),.ip [ao 14 l au]])::nB c dmg b l ps vehicle day) (λk=>[bG cU an (eH m1 ((I.take k).flatMap λn=>nz c b l ps day (da ps n))),.cells [.map 0]]) (cg (cJ @take_zero.{0} @flatMap_nil.{0,0} @List.foldl_nil.{0,0})) zp ?_;intro k hk hall;refine zT I k ?_ ?_;rintro rfl;rotate_left;intro n hx hlt;rotate_left;rotate_left
 ·have hnx:=LQ (m:=m1) (g:=λn=>nz c b l ps day (da ps n)) hx;generalize eH m1 ((I.take k).flatMap λn=>nz c b l ps day (da ps n))=M at hnx ⊢
  refine(fw)<|(aB (fk hlt (aL (e:=1) (enc:=aD ah) gc hx) @aD.eq_1 @bg))<|(zC)<|(zK (hfi n) (hfl:=.inr zr)) ?_
  rw[show(bE ps n).getD ak.zero=da ps n from rfl];generalize (bE ps n).isSome=nis;have hnx:eH m1 ((I.take (k+1)).flatMap λn=>nz c b l ps day (da ps n))=eH M (nz c b l ps day (da ps n)):=hnx;generalize da ps n=v at hnx ⊢;have hek:ae v=[ah v.name,ah v.kind,ah v.aT,ah v.slot,ab v.made,ab v.since,an v.bq,ao 2 v.props aI,ab v.l1,ab v.l2,ab v.l3,ab v.l4,ab v.l5,ab v.l6]:=rfl
  refine(cM (bm @bg hek)) ?_;refine zZ ((22,.ip (ae v))::(76,ao 1 I (aD ah))::(77,ab I.length)::(78,ab k)::(19,.fn 31 [] [.ip (aJ b),.ip [ab day],.ip [ao 14 ps ae],.ptr 1 0,.ip (ao 3 c ar::aG dmg),.ip [ao 14 l au]])::nB c dmg b l ps vehicle day) 2 rfl (gE (bm @ao.eq_1 @ae.eq_1))<|zA ((22,.ip (ae v))::(76,ao 1 I (aD ah))::(77,ab I.length)::(78,ab k)::(19,.fn 31 [] [.ip (aJ b),.ip [ab day],.ip [ao 14 ps ae],.ptr 1 0,.ip (ao 3 c ar::aG dmg),.ip [ao 14 l au]])::nB c dmg b l ps vehicle day) [bG cU an M,.cells [.map 0]] (cg @bg)<|(eQ @ae.eq_1) ?_;refine zS [1,0] (cJ @bg @iP @eS) (hask v M) ?_ (hc:=yc (bm @cons_append.{0} @nil_append.{0}));refine(zR)<|(aB (zi hlt hlI)) ?_;refine zX hlt (cg hnx) trivial
 refine(fo) ?_;simp only[ea,cz,bI,bx,if_true];rw[aj];obtain⟨m2,hm2⟩:∃m2,m2=eH m1 (I.flatMap λn=>nz c b l ps day (da ps n)):=⟨_,rfl⟩;rw[<-hm2]
 refine(aB @aJ.eq_1)<|zA ((93,ao 4 b.holds bz)::(94,ab b.holds.length)::(95,ab 0)::nB c dmg b l ps vehicle day) [bG cU an m2,.cells [.map 0]] (cg @bg)<|(zs) ?_;refine zL b.holds (λk=>True) (λk=>(93,ao 4 b.holds bz)::(94,ab b.holds.length)::(95,ab k)::nB c dmg b l ps vehicle day) (λk=>[bG cU an (eH m2 (((b.holds.take k).filter λh=>decide (h.vehicle=vehicle)&&se h).map λh=>⟨6,vehicle,h.id⟩)),.cells [.map 0]]) (cg (fk @take_zero.{0} @filter_nil.{0} @map_nil.{0,0} @List.foldl_nil.{0,0})) zp ?_;intro k hk hall;refine zT b.holds k ?_ ?_;rintro rfl;rotate_left;intro h hx hlt;rotate_left
 rotate_left
 ·have hnx:=LV (m:=m2) (q:=λh=>decide (h.vehicle=vehicle)&&se h) (g:=λh=>⟨6,vehicle,h.id⟩) hx;generalize eH m2 (((b.holds.take k).filter λh=>decide (h.vehicle=vehicle)&&se h).map λh=>⟨6,vehicle,h.id⟩)=M at hnx ⊢;have hadd:=mH M 6 vehicle [h.id] (by show 1<=1000000;decide);rw[show eH M ([h.id].map λn=>(⟨6,vehicle,n⟩:aw))=cC ⟨6,vehicle,h.id⟩ true M from rfl] at hadd;have hho:=hb.hold h (al hx);have hout:=MP h hho.1 hho.2
  refine(fw)<|(aB (fk hlt (aL (e:=4) (enc:=bz) gc hx) @bz.eq_1 @bg))<|zA ((25,.ptr 2 0)::(93,ao 4 b.holds bz)::(94,ab b.holds.length)::(95,ab k)::nB c dmg b l ps vehicle day) [bG cU an M,.cells [.map 0],.cells [ah h.id,ah h.vehicle,ao 1 h.members (aD ab),ao 1 h.back (aD ab)]] (cg @bg) ?_
  cases g1:decide (h.vehicle=vehicle)
  ·rw[v6 (by rw[g1];simp)] at hnx
   refine(aB g1)<|(zN)<|(aB (zi hlt hlh)) ?_;refine zX hlt (cg hnx) trivial
  refine(eQ g1)<|(zK hout) ?_
  cases g2:se h
  ·rw[v6 (by rw[g2];simp)] at hnx
   refine(zR)<|(zN)<|(aB (zi hlt hlh)) ?_;refine zX hlt (cg hnx) trivial
  rw[ut (by rw[g1,g2];rfl)] at hnx
  refine(zR)<|(zY)<|(eQ @bg) ?_;refine oZ ((111,ao 1 [h.id] (aD ah))::(108,ah vehicle)::(107,.map 0)::(93,ao 4 b.holds bz)::(94,ab b.holds.length)::(95,ab k)::nB c dmg b l ps vehicle day) 3 rfl ⟨.inr (.buf rfl (cA.refl rfl) (aa _)),zj⟩<|oA ((111,ao 1 [h.id] (aD ah))::(108,ah vehicle)::(107,.map 0)::(93,ao 4 b.holds bz)::(94,ab b.holds.length)::(95,ab k)::nB c dmg b l ps vehicle day) [bG cU an M,.cells [.map 0]] (cg @bg) ?_;refine zS [0] (cJ @bg @iP @eS) hadd ?_;refine(zR)<|(aB (zi hlt hlh)) ?_;refine zX hlt (cg hnx) trivial
 refine(fo) ?_;simp only[ea,cz,bI,bx,if_true];rw[aj];obtain⟨m3,hm3⟩:∃m3,m3=eH m2 ((b.holds.filter λh=>decide (h.vehicle=vehicle)&&se h).map λh=>⟨6,vehicle,h.id⟩):=⟨_,rfl⟩;rw[<-hm3]
 have hm:m3=eH [] (nz c b l ps day v++((I.flatMap λn=>nz c b l ps day (da ps n))++(b.holds.filter λh=>decide (h.vehicle=vehicle)&&se h).map λh=>⟨6,vehicle,h.id⟩)):=by rw[oQ,oQ,<-hm1,<-hm2,<-hm3]
 have hk3:(m3.map (·.1)).Nodup:=by rw[hm];exact B4 _ List.nodup_nil
 have hl3:m3.length<=100000:=by
  rw[hm];refine a7 (yV _ _) ?_;rw[i5,li,li,aS,ct];have q1:=xD c b l ps day v;have q2:=a9 (λh:gN=>decide (h.vehicle=vehicle)&&se h) b.holds
  have q3:(I.map λn=>(nz c b l ps day (da ps n)).length).sum<=I.length*301:=by
   have:∀J:List (List Nat),(J.map λn=>(nz c b l ps day (da ps n)).length).sum<=J.length*301:=by
    intro J
    induction J with
    | nil=>exact aa _
    | cons n J ih=>
     have q:=xD c b l ps day (da ps n);have:=hb.lr;have:=hb.lc;have:=hb.ld;rw[bb,d7,i7];omega
   exact this I
  have:=hb.lr;have:=hb.lc;have:=hb.ld;have:=hb.lh;omega
 have hord:=sB m3 hl3 hk3;rw[show gm (m3.map (·.1))=R by rw[hRb,hm];rfl] at hord;clear hm hm3 hRb
 refine zA [(11,.ptr 1 0)] [bG cU an m3,.cells [.map 0]] zH ?_;refine aE.fg (Fg.ma (f':=[(11,.ptr 1 0)]) (S':=[.gone,.cells [mc cU an m3]]) 0 rfl gt zj ⟨.inl rfl,.inr ⟨by decide,.inr ⟨_,_,rfl,rfl,.cons (mu (λ_=>rfl) rfl) .nil⟩⟩,trivial⟩) ?_;exact zZ [(11,.ip [mc cU an m3])] 1 rfl ⟨.inr (.ptr rfl (cA.refl rfl) (a8 _)),trivial⟩<|zA [(11,.ip [mc cU an m3])] [] zH<|(zC)<|(zK hord (hfl:=.inr zr))<|(zR)<|zo [.tmp 10] (r:=ao 3 R ai) (hw:=Wk.refl rfl)
end Go.Proofs
namespace Go.Ev
def Qi{P:Program}{t:TypeId}{xs ys:List AV}{b:Bool}(h:c8 P .eql t (.agg xs) (.agg ys)=some (.bool b)):c8 P .neq t (.agg xs) (.agg ys)=some (.bool (!b)):=by
 change cond (P.eqGuardType P.depth t) none ((lG P 8 t (.agg xs) (.agg ys)).map AV.bool)=_ at h;show cond (P.eqGuardType P.depth t) none ((lG P 8 t (.agg xs) (.agg ys)).map λb=>AV.bool (!b))=_
 revert h
 cases P.eqGuardType P.depth t
 ·cases lG P 8 t (.agg xs) (.agg ys)
  ·intro h;cases h
  ·intro h;injection h with h;injection h with h;subst h;rfl
 ·intro h;cases h
end Go.Ev
namespace Go.Proofs
open Go.Ev
set_option maxRecDepth 100000
def AH(a b:aw):c8 prog .eql 65 (.agg [.int .i64 a.kind,.str a.part,.str a.name]) (.agg [.int .i64 b.kind,.str b.part,.str b.name])=some (.bool (decide (a=b))):=
 tj (ks:=[.i .i64,.s,.s]) zW zW (by simp only[aF,m6]) rfl rfl (aw.eq a b)
def AT(a b:List aw)(ha:a.length<=1000000):PC prog 11 [ao 3 a ai,ao 3 b ai] (·=an (decide (a=b))):=by
 refine pB 26 Tryz.func11 ?_;refine(zV) ?_;cases g:decide ((a.length:Int)=b.length)
 ·exact(aB g)<|(cK)<|zo [.tmp 4] (hq:=by rw[wd (λh=>wt g (by rw[h]))])
 refine(aB g)<|(lD) ?_
 have hl:a.length=b.length:=Int.ofNat.inj (ww g);refine(zs) ?_;refine zL a (λk=>a.take k=b.take k) (λk=>[(0,ao 3 a ai),(1,ao 3 b ai),(5,ab k)]) (λk=>[]) zH zp ?_;intro k hk hall;by_cases hlt:k<a.length;rotate_left
 ·obtain rfl:k=a.length:=by omega
  rw[aj,hl,aj] at hall
  exact(aB (show decide ((a.length:Int)<(a.length:Int))=false by simp))<|(fo)<|(zV)<|zo [.tmp 4] (hq:=by rw[wl hall])
 have hd:=show decide ((k:Int)<(a.length:Int))=true by simp only[wp];omega
 obtain⟨x,hx⟩:∃x,a[k]?=some x:=⟨a[k],jp hlt⟩
 have hlt2:k<b.length:=by omega
 obtain⟨y,hy⟩:∃y,b[k]?=some y:=⟨b[k],jp hlt2⟩
 refine(aB hd)<|(fw) ?_
 have hn:=Qi (AH x y);refine(zs) ?_;refine nw [0,0,3,7,0,0,48,112,255] ?_;cases he:decide (x=y)
 ·rw[he] at hn
  exact(uW (vc hlt hlt2 (aL (e:=3) (enc:=ai) gc hx) (aL (e:=3) (enc:=ai) gc hy) @ai.eq_1 hn))<|(zM)<|(cK)<|zo [.tmp 4] (hq:=by rw[wd (λh=>by subst h;rw[hx] at hy;exact wt he (Option.some.inj hy))])
 ·rw[he] at hn
  refine(uW (vc hlt hlt2 (aL (e:=3) (enc:=ai) gc hx) (aL (e:=3) (enc:=ai) gc hy) @ai.eq_1 hn))<|(zM)<|(zN)<|(aB (zi hlt ha)) ?_;refine zX hlt zH (by rw[cq hx,cq hy,hall,ww he])
def LS(l:List aw)(x:aw):Bool:=l.any λy=>decide (y=x)
def Oo{l:List aw}{x:aw}:LS l x=true↔x∈l:=by
 unfold LS;rw[List.any_eq_true];exact⟨λ⟨y,h,e⟩=>ww e▸h,λh=>⟨x,h,wl rfl⟩⟩
def PH(l:List aw)(x:aw)(hlen:l.length<=1000000):PC prog 18 [ao 3 l ai,.ag (ai x)] (·=an (LS l x)):=by
 refine pB 18 Tryz.func18 ?_;refine(aB @ai.eq_1) ?_;refine zZ [(0,ao 3 l ai),(3,.ip (ai x))] 0 rfl (gE (bm @ao.eq_1 @ai.eq_1))<|zA [(0,ao 3 l ai),(3,.ip (ai x))] [] zH<|(zV)<|(zs) ?_;refine zL l (λk=>∀(i:Nat) y,i<k->l[i]?=some y->decide (y=x)=false) (λk=>[(0,ao 3 l ai),(3,.ip (ai x)),(5,ab k)]) (λk=>[]) zH zp ?_;intro k hk hall
 by_cases hlt:k<l.length;rotate_left
 ·exact(aB (show decide ((k:Int)<(l.length:Int))=false by simp only[wn];omega))<|(fo)<|(zV)<|zo [.tmp 4] (hq:=by rw[LS,C0 λi y hi hy=>hall i y i4 hy])
 obtain⟨y,hx⟩:∃y,l[k]?=some y:=⟨l[k],jp hlt⟩
 refine(aB (show decide ((k:Int)<(l.length:Int))=true by simp only[wp];omega))<|(fw) ?_
 have hn:=AH y x;refine(zs) ?_;refine nw [0,0,3,7,0,31] ?_;cases he:decide (y=x)
 ·rw[he] at hn
  refine(HW (fk hlt (aL (e:=3) (enc:=ai) gc hx) @ai.eq_1 hn))<|(zM)<|(zN)<|(aB (zi hlt hlen)) ?_;refine zX hlt (cg @ai.eq_1) ?_
  intro i z hi hz;by_cases hik:i=k
  ·subst hik;rw[hx] at hz;cases hz;exact he
  ·exact hall i z i4 hz
 ·rw[he] at hn
  exact(HW (fk hlt (aL (e:=3) (enc:=ai) gc hx) @ai.eq_1 hn))<|(zM)<|(cK)<|zo [.tmp 4] (hq:=by rw[LS,CZ hx he])
def D7(a b:aw):PC prog 62 [.ag (ai a),.ag (ai b)] (·=an (sd a b)):=by
 refine pB 30 Tryz.func62 ?_;refine(aB @ai.eq_1) ?_;cases g1:decide (a.kind=b.kind)
 ·exact(aB g1)<|(cK)<|zo [.tmp 4] (hq:=by unfold sd;rw[g1];simp)
 refine(aB g1)<|(zN) ?_
 cases g2:decide (a.part=b.part)
 ·exact(aB g2)<|(cK)<|zo [.tmp 4] (hq:=by unfold sd;rw[g1,g2,wd (by have:=ww g1;omega)];simp)
 exact(aB g2)<|(lD)<|zo [.tmp 4] (hq:=by unfold sd;rw[g1,g2,wd (by have:=ww g1;omega),ww g2,c9];simp)
inductive eX:aY->Prop
 | mk {op:Int} {name value:List Nat} {n extra:Int} {kids:List aY}:(∀b∈name,b<256)->(∀b∈value,b<256)->kids.length<=sC->(∀k∈kids,eX k)->eX (.mk op name value n extra kids)
mutual
def lO:aY->Int->Int
 | .mk _ _ _ _ _ kids,most=>iG kids most 1
def iG:List aY->Int->Int->Int
 | [],_,n=>n
 | k::ks,most,n=>if most<n then n else iG ks most (yh n (lO k (uB most n)))
end
def uL:∀(d:Nat) (f:aY),SizeOf.sizeOf f<d->eX f->∀most:Int,PC Tryz.prog 169 [.ag (aV f),ab most] (·=ab (lO f most))
 | 0,f,hd,_,_=>un hd (Nat.not_lt_zero _)
 | d+1,.mk op name value n extra kids,hd,hf,most=>by
  cases hf with
  | mk _ _ hlen hks=>
  have hkd:∀k∈kids,SizeOf.sizeOf k<d:=λk hk=>by
   have h1:=List.sizeOf_lt_of_mem hk
   have h2:SizeOf.sizeOf (aY.mk op name value n extra kids)=1+SizeOf.sizeOf op+SizeOf.sizeOf name+SizeOf.sizeOf value+SizeOf.sizeOf n+SizeOf.sizeOf extra+SizeOf.sizeOf kids:=by simp
   omega
  rw[gT,lO]
  refine pB 31 Tryz.func169 ?_;refine(zV) ?_;refine zZ [(1,ab most),(2,.ip [ab op,ah name,ah value,ab n,ab extra,ao 6 kids aV])] 0 rfl (gE @ao.eq_1)<|zA [(1,ab most),(2,.ip [ab op,ah name,ah value,ab n,ab extra,ao 6 kids aV])] [] zH<|(nD)<|(zs) ?_;refine BF kids (λk (acc:Int)=>iG kids most 1=iG (kids.drop k) most acc) (λk acc=>[(1,ab most),(2,.ip [ab op,ah name,ah value,ab n,ab extra,ao 6 kids aV]),(5,ab acc),(6,ab k)]) (λk acc=>[]) (1) zH ii ?_;intro k acc hk hall
  by_cases hlt:k<kids.length;rotate_left
  ·refine(aB (show decide ((k:Int)<(kids.length:Int))=false by simp only[wn];omega))<|(fo) ?_
   rw[List.drop_of_length_le i4,iG] at hall
   exact(zV)<|zo [.tmp 4] (hq:=by rw[hall])
  have hd:=show decide ((k:Int)<(kids.length:Int))=true by simp only[wp];omega
  obtain⟨x,hx⟩:∃x,kids[k]?=some x:=⟨kids[k],jp hlt⟩;rw[eZ hx,iG] at hall;have hxm:=List.mem_of_getElem? hx;have ih:=uL d x (hkd x hxm) (hks x hxm);have hxl:((kids.flatMap aV).drop (k*6)).take 6=aV x:=aL (e:=6) (enc:=aV) jt hx;obtain⟨op',na',va',n',ex',kids'⟩:=x;simp only[gT] at hxl ih;cases h1:decide (acc<=most)
  ·rw[ut (by have:=wt h1;omega)] at hall
   exact(aB (bm hd h1))<|(fo)<|(zV)<|zo [.tmp 4] (hq:=by rw[hall])
  rw[v6 (by have:=ww h1;omega)] at hall
  refine(aB (bm hd h1))<|(fw)<|(eQ (cJ hlt hxl @oI))<|(zK (ih (uB most acc)))<|(cM @ti)<|(aB (zi hlt hlen)) ?_;refine pw hlt (yh acc (lO (.mk op' na' va' n' ex' kids') (uB most acc))) zH hall
mutual
def nh:aY->Bool
 | .mk _ name value _ _ kids=>!(decide (300<(name.length:Int)))&&(!(decide (300<(value.length:Int)))&&uz kids)
def uz:List aY->Bool
 | []=>true
 | k::ks=>nh k&&uz ks
end
def sV:∀l:List aY,uz l=l.all nh
 | []=>by rw[uz];rfl
 | k::l=>by rw[uz,sV l,dC]
def zU:∀(d:Nat) (f:aY),SizeOf.sizeOf f<d->∀most:Int,-1000<=most->most<=1000->1<=lO f most/\(lO f most<=most+1\/lO f most=1)/\(lO f most<=most->eX f->nh f=true->gB f)
 | 0,f,hd,_,_,_=>un hd (Nat.not_lt_zero _)
 | d+1,.mk op name value n extra kids,hd,most,h0,h1=>by
  have hkd:∀k∈kids,SizeOf.sizeOf k<d:=λk hk=>by
   have h1:=List.sizeOf_lt_of_mem hk
   have h2:SizeOf.sizeOf (aY.mk op name value n extra kids)=1+SizeOf.sizeOf op+SizeOf.sizeOf name+SizeOf.sizeOf value+SizeOf.sizeOf n+SizeOf.sizeOf extra+SizeOf.sizeOf kids:=by simp
   omega
  have key:∀(ks:List aY) (acc:Int),(∀k∈ks,k∈kids)->1<=acc->(acc<=most+1\/acc=1)->1<=iG ks most acc/\(iG ks most acc<=most+1\/iG ks most acc=1)/\(iG ks most acc<=most->acc+ks.length<=iG ks most acc/\∀k∈ks,eX k->nh k=true->gB k):=by
   intro ks
   induction ks with
   | nil=>intro acc _ h2 h3;rw[iG];exact⟨h2,h3,λ_=>⟨by simp,λk hk=>by cases hk⟩⟩
   | cons k ks ih=>
    intro acc hm h2 h3;rw[iG];split
    ·rename_i hlt;exact⟨h2,h3,λh=>by omega⟩
    ·rename_i hlt;rw[K9 i4];obtain⟨b1,b2,b3⟩:=zU d k (hkd k (hm k List.mem_cons_self)) (most-acc) i4 i4;rw[JY i4];obtain⟨c1,c2,c3⟩:=ih (acc+lO k (most-acc)) (λx hx=>hm x (List.mem_cons_of_mem _ hx)) i4 i4;refine⟨c1,c2,λh=>?_⟩;obtain⟨d1,d2⟩:=c3 h;refine⟨by rw[i7];omega,λx hx=>?_⟩
     rcases t7 hx with rfl | hx
     ·exact b3 i4
     ·exact d2 x hx
  rw[lO];obtain⟨c1,c2,c3⟩:=key kids 1 (λ_ h=>h) (Int.le_refl _) (.inr rfl);refine⟨c1,c2,λh hb hs=>?_⟩;obtain⟨d1,d2⟩:=c3 h
  cases hb with
  | mk n1 n2 _ n4=>
  rw[nh,sV] at hs;simp only[Bool.and_eq_true,Bool.not_eq_true',wn,List.all_eq_true] at hs;exact .mk ⟨by omega,n1⟩ ⟨by omega,n2⟩ i4 λk hk=>d2 k hk (n4 k hk) (hs.2.2 k hk)
def uO:∀(d:Nat) (f:aY),SizeOf.sizeOf f<d->eX f->PC Tryz.prog 286 [.ag (aV f)] (·=an (nh f))
 | 0,f,hd,_=>un hd (Nat.not_lt_zero _)
 | d+1,.mk op name value n extra kids,hd,hf=>by
  cases hf with
  | mk _ _ hlen hks=>
  have hkd:∀k∈kids,SizeOf.sizeOf k<d:=λk hk=>by
   have h1:=List.sizeOf_lt_of_mem hk
   have h2:SizeOf.sizeOf (aY.mk op name value n extra kids)=1+SizeOf.sizeOf op+SizeOf.sizeOf name+SizeOf.sizeOf value+SizeOf.sizeOf n+SizeOf.sizeOf extra+SizeOf.sizeOf kids:=by simp
   omega
  rw[gT,nh,sV]
  refine pB 28 Tryz.func286 ?_;refine(zV) ?_;refine zZ [(1,.ip [ab op,ah name,ah value,ab n,ab extra,ao 6 kids aV])] 0 rfl (gE @ao.eq_1)<|zA [(1,.ip [ab op,ah name,ah value,ab n,ab extra,ao 6 kids aV])] [] zH ?_
  cases g1:decide (300<(name.length:Int));rotate_left
  ·exact(aB g1)<|(cK)<|zo [.tmp 2]
  cases g2:decide (300<(value.length:Int));rotate_left
  ·exact(aB (bm g1 g2))<|(cK)<|zo [.tmp 2]
  refine(aB (bm g1 g2))<|(lD)<|(zs) ?_;refine zL kids (λk=>(kids.take k).all nh=true) (λk=>[(1,.ip [ab op,ah name,ah value,ab n,ab extra,ao 6 kids aV]),(3,ab k)]) (λk=>[]) zH zp ?_;intro k hk hall
  by_cases hlt:k<kids.length;rotate_left
  ·refine(aB (show decide ((k:Int)<(kids.length:Int))=false by simp only[wn];omega))<|(fo) ?_
   obtain rfl:k=kids.length:=by omega
   rw[List.take_length] at hall
   exact(zV)<|zo [.tmp 2] (hq:=by rw[hall];rfl)
  obtain⟨x,hx⟩:∃x,kids[k]?=some x:=⟨kids[k],jp hlt⟩;have hxm:=List.mem_of_getElem? hx;have ih:=uO d x (hkd x hxm) (hks x hxm);have hxl:((kids.flatMap aV).drop (k*6)).take 6=aV x:=aL (e:=6) (enc:=aV) jt hx;obtain⟨b,hb⟩:∃b,b=nh x:=⟨_,rfl⟩;rw[<-hb] at ih;obtain⟨op',na',va',n',ex',kids'⟩:=x;simp only[gT] at hxl ih
  refine(aB (show decide ((k:Int)<(kids.length:Int))=true by simp only[wp];omega))<|(fw)<|(eQ (bm hlt hxl))<|(zK ih) ?_
  cases b
  ·exact(zR)<|(cK)<|zo [.tmp 2] (hq:=by rw[iH hxm hb.symm];rfl)
  ·refine(zR)<|(zN)<|(aB (zi hlt hlen)) ?_;refine zX hlt zH (gP hx hall hb.symm)
def LN(e:aY):Bool:=decide (lO e 80<=80)&&nh e
def Kl{e:aY}(h:LN e=true)(hb:eX e):gB e:=by
 unfold LN at h;rw[ax] at h;exact(zU _ e (ce _) 80 g9 g9).2.2 (ww h.1) hb h.2
def Eh(e:aY)(he:eX e):PC prog 236 [.ag (aV e)] (·=an (LN e)):=by
 have hN:=uL _ e (ce _) he 80;have hS:=uO _ e (ce _) he;unfold LN;generalize lO e 80=q at hN ⊢;generalize nh e=s at hS ⊢;refine pB 10 Tryz.func236 ?_;rw[cf] at hN hS ⊢
 refine(zV) ?_;refine zZ [(1,Bc e)] 0 rfl zG<|zA [(1,Bc e)] [] zH<|(zC)<|(zK hN) ?_
 cases g:decide (q<=80)
 ·exact(cM g)<|zo [.tmp 2]
 exact(MY g)<|(zK hS)<|(zR)<|zo [.tmp 2]
def yG(r:eR):Bool:=decide (((r.name.length+r.kind.length:Nat):Int)<=300)&&LN r.cond
def Jk(r:eR)(hr:r.name.length<=sC/\r.kind.length<=sC)(he:eX r.cond):PC prog 153 [.ag (cD r)] (·=an (Proofs.yG r)):=by
 have hC:=Eh r.cond he;unfold Proofs.yG;generalize LN r.cond=s at hC ⊢;refine pB 16 Tryz.func153 ?_;rw[cf] at hC;rw[eE];have hadd:=th (P:=prog) (t:=3) (a:=(r.name.length:Int)) (b:=(r.kind.length:Int)) (by have h1:r.name.length<=1000000000000000:=hr.1;have h2:r.kind.length<=1000000000000000:=hr.2;omega);rw[show(r.name.length:Int)+(r.kind.length:Int)=((r.name.length+r.kind.length:Nat):Int) from rfl] at hadd
 refine(zV) ?_;refine zZ [(1,.ip (cD r))] 0 rfl (gE @eE)<|zA [(1,.ip (cD r))] [] zH ?_
 cases g:decide (((r.name.length+r.kind.length:Nat):Int)<=300)
 ·exact(aB (cJ @eE hadd g))<|zo [.tmp 2]
 exact(eQ (cJ @eE hadd g))<|(zK hC)<|(zR)<|zo [.tmp 2]
def sJ(l:List eR):Bool:=decide ((l.length:Int)<=5)&&l.all Proofs.yG
def wH(l:List eR)(hlen:l.length<=sC)(hl:∀r∈l,(r.name.length<=sC/\r.kind.length<=sC)/\eX r.cond):PC prog 70 [ao 8 l cD,ab 5] (·=an (Proofs.sJ l)):=by
 refine pB 28 Tryz.func70 ?_;unfold Proofs.sJ
 refine(nD)<|(zs) ?_;refine zL l (λk=>(l.take k).all Proofs.yG=true) (λk=>[(0,ao 8 l cD),(1,ab 5),(5,ab k)]) (λk=>[]) zH zp ?_;intro k hk hall
 cases g5:decide ((l.length:Int)<=5)
 ·by_cases hlt:k<l.length
  ·exact(aB (bm (show decide ((k:Int)<(l.length:Int))=true by simp only[wp];omega) g5))<|(fo)<|(aB g5)<|zo [.tmp 4]
  ·exact(aB (bm (show decide ((k:Int)<(l.length:Int))=false by simp only[wn];omega) g5))<|(fo)<|(aB g5)<|zo [.tmp 4]
 by_cases hlt:k<l.length;rotate_left
 ·refine(aB (bm (show decide ((k:Int)<(l.length:Int))=false by simp only[wn];omega) g5))<|(fo) ?_
  obtain rfl:k=l.length:=by omega
  rw[aj] at hall
  exact(aB g5)<|zo [.tmp 4] (hq:=by rw[hall];rfl)
 obtain⟨x,hx⟩:∃x,l[k]?=some x:=⟨l[k],jp hlt⟩;have hxm:=al hx;have hF:=Jk x (hl x hxm).1 (hl x hxm).2;rw[eE] at hF
 refine(aB (bm (show decide ((k:Int)<(l.length:Int))=true by simp only[wp];omega) g5))<|(fw)<|(eQ (cJ hlt (aL (e:=8) (enc:=cD) lk hx) @eE))<|(zK hF) ?_
 cases g:Proofs.yG x
 ·exact(zR)<|(cK)<|zo [.tmp 4] (hq:=by rw[iH hxm g];rfl)
 ·refine(zR)<|(zN)<|(aB (zi hlt hlen)) ?_;refine zX hlt zH (gP hx hall g)
def ke(s:List Nat):Bool:=!(decide (300<(s.length:Int)))
def ql(e:br):Bool:=ke e.part&&(ke e.kind&&(ke e.aT&&(ke e.slot&&(ke e.key&&ke e.value))))
def Oc(c:List aM)(dmg:bu)(l:List br):Bool:=(!(decide (16<(l.length:Int)))&&(Proofs.tz c&&Proofs.FC dmg))&&l.all ql
def Hb(c:List aM)(dmg:bu)(l:List br)(hf:kS dmg)(hlen:l.length<=sC):PC prog 28 [.ag (ao 3 c ar::aG dmg),ao 14 l au,ab 16] (·=an (Oc c dmg l)):=by
 have hfl:(aG dmg).length=3:=e7 dmg;have hft:(aG dmg).take 3=aG dmg:=aW (by rw[hfl];exact aa _);have hfk:=λo:Nat=>bV (o:=o) (aX dmg);have hfn:=λo:Nat=>cm (o:=o) (aX dmg);unfold Oc
 refine pB 69 Tryz.func28 ?_;refine(aB (bm hfk hfn)) ?_;refine zZ [(1,ao 14 l au),(2,ab 16),(3,.ip (ao 3 c ar::aG dmg))] 0 rfl ⟨.inl rfl,.inl rfl,.inr (.ptr rfl (cA.refl (aX dmg)) (a8 _)),trivial⟩<|zA [(1,ao 14 l au),(2,ab 16),(3,.ip (ao 3 c ar::aG dmg))] [] zH ?_
 cases g0:decide (16<(l.length:Int));rotate_left
 ·exact(aB g0)<|(cK)<|zo [.tmp 6]
 refine(eQ g0)<|(zK (Jj c)) ?_
 cases g1:Proofs.tz c
 ·exact(zR)<|(cK)<|zo [.tmp 6]
 refine(MY (bm hfl hft))<|(zK (Ji dmg hf) (hwk:=cA.cons (.ag (cA.refl (aX dmg))) .nil)) ?_
 cases g2:Proofs.FC dmg
 ·exact(zR)<|(cK)<|zo [.tmp 6]
 refine(zR)<|(lD)<|(zs) ?_;refine zL l (λk=>(l.take k).all ql=true) (λk=>[(1,ao 14 l au),(7,ab k)]) (λk=>[]) zH zp ?_;intro k hk hall
 by_cases hlt:k<l.length;rotate_left
 ·refine(aB (show decide ((k:Int)<(l.length:Int))=false by simp only[wn];omega))<|(fo) ?_
  obtain rfl:k=l.length:=by omega
  rw[aj] at hall
  exact(zV)<|zo [.tmp 6] (hq:=by rw[hall];rfl)
 obtain⟨x,hx⟩:∃x,l[k]?=some x:=⟨l[k],jp hlt⟩;have hbad:ql x=false->l.all ql=false:=λh=>iH (al hx) h
 refine(aB (show decide ((k:Int)<(l.length:Int))=true by simp only[wp];omega))<|(fw)<|(aB (cJ hlt (aL (e:=14) (enc:=au) gc hx) @au.eq_1)) ?_
 cases h1:decide (300<(x.part.length:Int));rotate_left
 ·exact(aB h1)<|(cK)<|zo [.tmp 6] (hq:=by rw[hbad (by unfold ql ke;rw[h1];rfl)];rfl)
 cases h2:decide (300<(x.kind.length:Int));rotate_left
 ·exact(aB (bm h1 h2))<|(cK)<|zo [.tmp 6] (hq:=by rw[hbad (by unfold ql ke;rw[h1,h2];rfl)];rfl)
 cases h3:decide (300<(x.aT.length:Int));rotate_left
 ·exact(aB (cJ h1 h2 h3))<|(cK)<|zo [.tmp 6] (hq:=by rw[hbad (by unfold ql ke;rw[h1,h2,h3];rfl)];rfl)
 cases h4:decide (300<(x.slot.length:Int));rotate_left
 ·exact(aB (fk h1 h2 h3 h4))<|(cK)<|zo [.tmp 6] (hq:=by rw[hbad (by unfold ql ke;rw[h1,h2,h3,h4];rfl)];rfl)
 cases h5:decide (300<(x.key.length:Int));rotate_left
 ·exact(aB (kY h1 h2 h3 h4 h5))<|(cK)<|zo [.tmp 6] (hq:=by rw[hbad (by unfold ql ke;rw[h1,h2,h3,h4,h5];rfl)];rfl)
 cases h6:decide (300<(x.value.length:Int));rotate_left
 ·exact(aB (vc h1 h2 h3 h4 h5 h6))<|(cK)<|zo [.tmp 6] (hq:=by rw[hbad (by unfold ql ke;rw[h1,h2,h3,h4,h5,h6];rfl)];rfl)
 refine(aB (vc h1 h2 h3 h4 h5 h6))<|(zN)<|(aB (zi hlt hlen)) ?_;refine zX hlt zH (gP hx hall (by unfold ql ke;rw[h1,h2,h3,h4,h5,h6];rfl))
def oe(l:List (List Nat))(hlen:l.length<=1000000):PC prog 71 [ao 1 l (aD ah)] (·=an (l.all ke)):=by
 refine pB 16 Tryz.func71 ?_;refine(nD)<|(zs) ?_;refine zL l (λk=>(l.take k).all ke=true) (λk=>[(0,ao 1 l (aD ah)),(3,ab k)]) (λk=>[]) zH zp ?_;intro k hk hall
 by_cases hlt:k<l.length;rotate_left
 ·refine(aB (show decide ((k:Int)<(l.length:Int))=false by simp only[wn];omega))<|(fo) ?_
  obtain rfl:k=l.length:=by omega
  rw[aj] at hall
  exact(zV)<|zo [.tmp 2] (hq:=by rw[hall])
 obtain⟨x,hx⟩:∃x,l[k]?=some x:=⟨l[k],jp hlt⟩
 refine(aB (show decide ((k:Int)<(l.length:Int))=true by simp only[wp];omega))<|(fw) ?_
 cases g:decide (300<(x.length:Int))
 ·refine(aB (fk hlt (aL (e:=1) (enc:=aD ah) gc hx) @aD.eq_1 g))<|(zN)<|(aB (zi hlt hlen)) ?_;refine zX hlt zH (gP hx hall (by unfold ke;rw[g];rfl))
 ·exact(aB (fk hlt (aL (e:=1) (enc:=aD ah) gc hx) @aD.eq_1 g))<|(cK)<|zo [.tmp 2] (hq:=by rw[iH (p:=ke) (al hx) (by unfold ke;rw[g];rfl)])
def I9(s:w8):Bool:=[s.kind,s.slot,s.other,s.qk].all ke
def xJ(d:ei):Bool:=[d.name,d.kind,d.key].all ke
def De(x:qy):Bool:=[x.part,x.fN].all ke
def kT(h:gN):Bool:=[h.id,h.vehicle].all ke&&(!(decide (20<(h.members.length:Int)))&&!(decide (20<(h.back.length:Int))))
def BT(b:dS):Bool:=(!(decide (5<(b.fi.length:Int)))&&(!(decide (5<(b.dE.length:Int)))&&(!(decide (5<(b.mO.length:Int)))&&(!(decide (5<(b.holds.length:Int)))&&(Proofs.sJ b.rules&&Proofs.sJ b.bF)))))&&(b.fi.all I9&&(b.dE.all xJ&&(b.mO.all De&&b.holds.all kT)))
structure rk (b:dS):Prop where
 fN:∀r∈b.rules,(r.name.length<=sC/\r.kind.length<=sC)/\eX r.cond
 vL:∀r∈b.bF,(r.name.length<=sC/\r.kind.length<=sC)/\eX r.cond
 NW:∀d∈b.dE,(∀x∈d.name,x<256)/\(∀x∈d.kind,x<256)/\∀x∈d.key,x<256
 lr:b.rules.length<=sC
 lc:b.bF.length<=sC
def Jl(b:dS)(hb:rk b):PC prog 24 [.ag (aJ b)] (·=an (Proofs.BT b)):=by
 refine pB 167 Tryz.func24 ?_;unfold Proofs.BT
 refine(aB @aJ.eq_1) ?_;refine zZ [(1,.ip (aJ b))] 0 rfl (gE (bm @ao.eq_1 @aJ.eq_1))<|zA [(1,.ip (aJ b))] [] zH ?_
 cases g1:decide (5<(b.fi.length:Int));rotate_left
 ·exact(aB (bm @aJ.eq_1 g1))<|(cK)<|zo [.tmp 2]
 cases g2:decide (5<(b.dE.length:Int));rotate_left
 ·exact(aB (cJ @aJ.eq_1 g1 g2))<|(cK)<|zo [.tmp 2]
 cases g3:decide (5<(b.mO.length:Int));rotate_left
 ·exact(aB (fk @aJ.eq_1 g1 g2 g3))<|(cK)<|zo [.tmp 2]
 cases g4:decide (5<(b.holds.length:Int));rotate_left
 ·exact(aB (kY @aJ.eq_1 g1 g2 g3 g4))<|(cK)<|zo [.tmp 2]
 have k1:=wt g1;have k2:=wt g2;have k3:=wt g3;have k4:=wt g4
 have l1:b.fi.length<=1000000:=by omega
 have l2:b.dE.length<=1000000:=by omega
 have l3:b.mO.length<=1000000:=by omega
 have l4:b.holds.length<=1000000:=by omega
 refine(eQ (kY @aJ.eq_1 g1 g2 g3 g4))<|(zK (wH b.rules hb.lr hb.fN)) ?_
 cases g5:Proofs.sJ b.rules
 ·exact(zR)<|(cK)<|zo [.tmp 2]
 refine(MY @aJ.eq_1)<|(zK (wH b.bF hb.lc hb.vL)) ?_
 cases g6:Proofs.sJ b.bF
 ·exact(zR)<|(cK)<|zo [.tmp 2]
 refine(zR)<|(lD)<|(zs) ?_;refine zL b.fi (λk=>(b.fi.take k).all I9=true) (λk=>[(1,.ip (aJ b)),(3,ab k)]) (λk=>[]) zH zp ?_;intro k hk hall
 by_cases hlt:k<b.fi.length;rotate_left
 ·refine(aB (bm @aJ.eq_1 (show decide ((k:Int)<(b.fi.length:Int))=false by simp only[wn];omega)))<|(fo) ?_
  simp only[ea,cz,bI,bx,if_true]
  obtain rfl:k=b.fi.length:=by omega
  rw[aj] at hall;rw[hall];clear hall hlt hk
  refine(zV)<|(zs) ?_;refine zL b.dE (λk=>(b.dE.take k).all xJ=true) (λk=>[(1,.ip (aJ b)),(4,ab k)]) (λk=>[]) zH zp ?_;intro k hk hall
  by_cases hlt:k<b.dE.length;rotate_left
  ·refine(aB (bm @aJ.eq_1 (show decide ((k:Int)<(b.dE.length:Int))=false by simp only[wn];omega)))<|(fo) ?_
   simp only[ea,cz,bI,bx,if_true]
   obtain rfl:k=b.dE.length:=by omega
   rw[aj] at hall;rw[hall];clear hall hlt hk
   refine(zV)<|(zs) ?_;refine zL b.mO (λk=>(b.mO.take k).all De=true) (λk=>[(1,.ip (aJ b)),(5,ab k)]) (λk=>[]) zH zp ?_;intro k hk hall
   by_cases hlt:k<b.mO.length;rotate_left
   ·refine(aB (bm @aJ.eq_1 (show decide ((k:Int)<(b.mO.length:Int))=false by simp only[wn];omega)))<|(fo) ?_
    simp only[ea,cz,bI,bx,if_true]
    obtain rfl:k=b.mO.length:=by omega
    rw[aj] at hall;rw[hall];clear hall hlt hk
    refine(zV)<|(zs) ?_;refine zL b.holds (λk=>(b.holds.take k).all kT=true) (λk=>[(1,.ip (aJ b)),(6,ab k)]) (λk=>[]) zH zp ?_;intro k hk hall
    by_cases hlt:k<b.holds.length;rotate_left
    ·refine(aB (bm @aJ.eq_1 (show decide ((k:Int)<(b.holds.length:Int))=false by simp only[wn];omega)))<|(fo) ?_
     simp only[ea,cz,bI,bx,if_true]
     obtain rfl:k=b.holds.length:=by omega
     rw[aj] at hall;rw[hall];clear hall hlt hk
     exact(zV)<|zo [.tmp 2]
    obtain⟨x,hx⟩:∃x,b.holds[k]?=some x:=⟨b.holds[k],jp hlt⟩;have hxm:=al hx
    refine(aB (bm @aJ.eq_1 (show decide ((k:Int)<(b.holds.length:Int))=true by simp only[wp];omega)))<|(fw) ?_
    have htx:=oe [x.id,x.vehicle] (by show 2<=1000000;decide)
    refine(zs) ?_;refine kZ [0,1,0,7,15,31,0,64,0,448,960,1984,4095,8191,16383,32767,65535,131071,65535,524287,1048575,2097151,4194303,8388607,16777215,33554431,67108863,134217727,67108863,536870911,1073741823,2147483647,4294967295,8589934591,17179869183] ?_;refine(B7 (fk @aJ.eq_1 hlt (aL (e:=4) (enc:=bz) gc hx) @bz.eq_1))<|(kA []) ?_
    generalize hg:[x.id,x.vehicle].all ke=g at htx;refine gF.Qh (f':=(145,an g)::[(1,.ip (aJ b)),(6,ab k)]) (S':=[]) zW rfl (λds_ K_ hK_=>?_) ?_
    ·refine(zK htx)<|oA ((145,an g)::[(1,.ip (aJ b)),(6,ab k)]) [] zH ?_;exact .nil hK_
    cases g
    ·exact(kR)<|(kN)<|(cK)<|zo [.tmp 2] (hq:=by (rw[iH (p:=kT) hxm (by unfold kT;rw[hg];rfl)];first | rfl | simp))
    cases h1:decide (20<(x.members.length:Int));rotate_left
    ·exact(B7 (kY @aJ.eq_1 hlt (aL (e:=4) (enc:=bz) gc hx) @bz.eq_1 h1))<|(kN)<|(cK)<|zo [.tmp 2] (hq:=by (rw[iH (p:=kT) hxm (by unfold kT;rw[hg,h1];rfl)];first | rfl | simp))
    cases h2:decide (20<(x.back.length:Int));rotate_left
    ·exact(B7 (vc @aJ.eq_1 hlt (aL (e:=4) (enc:=bz) gc hx) @bz.eq_1 h1 h2))<|(kN)<|(cK)<|zo [.tmp 2] (hq:=by (rw[iH (p:=kT) hxm (by unfold kT;rw[hg,h1,h2];rfl)];first | rfl | simp))
    refine(B7 (vc @aJ.eq_1 hlt (aL (e:=4) (enc:=bz) gc hx) @bz.eq_1 h1 h2))<|(kN)<|(zN)<|(aB (zi hlt l4)) ?_;refine zX hlt zH (gP hx hall (by unfold kT;rw[hg,h1,h2];rfl))
   obtain⟨x,hx⟩:∃x,b.mO[k]?=some x:=⟨b.mO[k],jp hlt⟩;have hxm:=al hx
   refine(aB (bm @aJ.eq_1 (show decide ((k:Int)<(b.mO.length:Int))=true by simp only[wp];omega)))<|(fw) ?_
   have htx:=oe [x.part,x.fN] (by show 2<=1000000;decide)
   refine(zs) ?_;refine kZ [0,1,0,7,15,31,0,64,0,448,960,1984,4095,8191,16383] ?_;refine(B7 (fk @aJ.eq_1 hlt (aL (e:=3) (enc:=dy) gc hx) @dy.eq_1))<|(kA []) ?_
   generalize hg:[x.part,x.fN].all ke=g at htx;refine gF.Qh (f':=(123,an g)::[(1,.ip (aJ b)),(5,ab k)]) (S':=[]) zW rfl (λds_ K_ hK_=>?_) ?_
   ·refine(zK htx)<|oA ((123,an g)::[(1,.ip (aJ b)),(5,ab k)]) [] zH ?_;exact .nil hK_
   cases g
   ·exact(kR)<|(kN)<|(cK)<|zo [.tmp 2] (hq:=by (rw[iH (p:=De) hxm hg];first | rfl | simp))
   ·refine(kR)<|(kN)<|(zN)<|(aB (zi hlt l3)) ?_;refine zX hlt zH (gP hx hall hg)
  obtain⟨x,hx⟩:∃x,b.dE[k]?=some x:=⟨b.dE[k],jp hlt⟩;have hxm:=al hx
  refine(aB (bm @aJ.eq_1 (show decide ((k:Int)<(b.dE.length:Int))=true by simp only[wp];omega)))<|(fw) ?_
  have htx:=oe [x.name,x.kind,x.key] (by show 3<=1000000;decide)
  refine(zs) ?_;refine kZ [0,1,0,7,15,31,0,64,0,448,960,1984,0,4096,0,28672,61440,126976,262143,524287,1048575] ?_;refine(B7 (fk @aJ.eq_1 hlt (aL (e:=5) (enc:=bf) gc hx) @bf.eq_1))<|(kA []) ?_
  generalize hg:[x.name,x.kind,x.key].all ke=g at htx;refine gF.Qh (f':=(101,an g)::[(1,.ip (aJ b)),(4,ab k)]) (S':=[]) zW rfl (λds_ K_ hK_=>?_) ?_
  ·refine(zK htx)<|oA ((101,an g)::[(1,.ip (aJ b)),(4,ab k)]) [] zH ?_;exact .nil hK_
  cases g
  ·exact(kR)<|(kN)<|(cK)<|zo [.tmp 2] (hq:=by (rw[iH (p:=xJ) hxm hg];first | rfl | simp))
  ·refine(kR)<|(kN)<|(zN)<|(aB (zi hlt l2)) ?_;refine zX hlt zH (gP hx hall hg)
 obtain⟨x,hx⟩:∃x,b.fi[k]?=some x:=⟨b.fi[k],jp hlt⟩;have hxm:=al hx
 refine(aB (bm @aJ.eq_1 (show decide ((k:Int)<(b.fi.length:Int))=true by simp only[wp];omega)))<|(fw) ?_
 have htx:=oe [x.kind,x.slot,x.other,x.qk] (by show 4<=1000000;decide)
 refine(zs) ?_;refine kZ [0,1,0,7,15,31,0,64,0,448,960,1984,0,4096,0,28672,61440,126976,0,262144,0,1835008,3932160,8126464,16777215,33554431,67108863] ?_;refine(B7 (fk @aJ.eq_1 hlt (aL (e:=5) (enc:=eF) gc hx) @eF.eq_1))<|(kA []) ?_
 generalize hg:[x.kind,x.slot,x.other,x.qk].all ke=g at htx;refine gF.Qh (f':=(73,an g)::[(1,.ip (aJ b)),(3,ab k)]) (S':=[]) zW rfl (λds_ K_ hK_=>?_) ?_
 ·refine(zK htx)<|oA ((73,an g)::[(1,.ip (aJ b)),(3,ab k)]) [] zH ?_;exact .nil hK_
 cases g
 ·exact(kR)<|(kN)<|(cK)<|zo [.tmp 2] (hq:=by (rw[iH (p:=I9) hxm hg];first | rfl | simp))
 ·refine(kR)<|(kN)<|(zN)<|(aB (zi hlt l1)) ?_;refine zX hlt zH (gP hx hall hg)
abbrev nW:List Nat:=[119,104,101,101,108,115,101,116]
abbrev nC:List Nat:=[99,111,97,99,104]
abbrev nO:List Nat:=[102,114,111,110,116]
def VR:kj:=⟨nO,[nW],1⟩
def Dk:List aM:=[⟨nW,false,[]⟩,⟨nC,true,[VR]⟩]
def N5:bu:=.mk 2 0 []
def U4:br:=⟨1,0,[99],nC,[],[],[],[],0,0,0,0,0,0⟩
def U5:br:=⟨1,0,[119],nW,[],[],[],[],0,0,0,0,0,0⟩
def U6:br:=⟨2,0,[119],[],[99],nO,[],[],0,0,0,0,0,0⟩
def UM:br:=⟨4,3,[99],[],[],[],[],[],90,110,0,0,0,0⟩
def Ik:List br:=[U4,U5,U6,UM]
abbrev wX:Fm:=[(0,.ptr 0 0),(2,.ip [ao 3 Dk ar]),(3,.ip (au UM))]
abbrev sX:List SV:=[ao 3 Dk ar,ab 2,ab 0,bH]
noncomputable abbrev Vs(L:Nat->Prop):Fm:=(14,vo L 0 (.ag [ao 3 Dk ar]))::(15,vo L 1 (.ag [ab 2,ab 0,bH]))::(16,vo L 2 (.ag sX))::(17,vo L 3 (.ag (au U4)))::(18,vo L 4 (.ag (au U5)))::(19,vo L 5 (.ag (au U6)))::(20,vo L 6 (.ag (au UM)))::wX
noncomputable abbrev fX(L:Nat->Prop):Fm:=(21,vo L 7 (.buf 1 4 14 (some 4)))::Vs L
def PG:PC prog 27 [] (·=.cx [.ag (ao 3 Dk ar::aG N5),ao 14 Ik au]):=by
 have c1:au U4=[ab 1,ab 0,ah [99],ah nC,ah [],ah [],ah [],ah [],ab 0,ab 0,ab 0,ab 0,ab 0,ab 0]:=rfl;have c2:au U5=[ab 1,ab 0,ah [119],ah nW,ah [],ah [],ah [],ah [],ab 0,ab 0,ab 0,ab 0,ab 0,ab 0]:=rfl;have c3:au U6=[ab 2,ab 0,ah [119],ah [],ah [99],ah nO,ah [],ah [],ab 0,ab 0,ab 0,ab 0,ab 0,ab 0]:=rfl;have c4:au UM=[ab 4,ab 3,ah [99],ah [],ah [],ah [],ah [],ah [],ab 90,ab 110,ab 0,ab 0,ab 0,ab 0]:=rfl
 refine pB 22 Tryz.func27 ?_;refine(nD)<|zA [(0,.ptr 0 0),(2,.ptr 4 0)] [.cells [bH,ab 0,ab 0,bH],.cells [ah nW],.cells [ah nO,.buf 1 1 1 (some 1),ab 1],.cells [ah nW,an false,bH,ah nC,an true,.buf 2 1 3 (some 1)],.cells [.buf 3 2 3 (some 2)]] zH ?_;refine aE.fg (Fg.ma (f':=[(0,.ptr 0 0),(2,.ptr 4 0)]) (S':=[.cells [bH,ab 0,ab 0,bH],.gone,.cells [ah nO,.sl 1 1 [ah nW],ab 1],.cells [ah nW,an false,bH,ah nC,an true,.buf 2 1 3 (some 1)],.cells [.buf 3 2 3 (some 2)]]) 1 rfl gt zj ⟨.inr ⟨by decide,.inl rfl⟩,.inl rfl,.inr ⟨by decide,.inr ⟨_,_,rfl,rfl,.cons (.a _) (.cons (.buf rfl (cA.refl rfl) (aa _)) (.cons (.a _) .nil))⟩⟩,.inr ⟨by decide,.inl rfl⟩,.inr ⟨by decide,.inl rfl⟩,trivial⟩) ?_;refine aE.fg (Fg.ma (f':=[(0,.ptr 0 0),(2,.ptr 4 0)]) (S':=[.cells [bH,ab 0,ab 0,bH],.gone,.gone,.cells [ah nW,an false,bH,ah nC,an true,ao 3 [VR] bJ],.cells [.buf 3 2 3 (some 2)]]) 2 rfl gt zj ⟨.inr ⟨by decide,.inl rfl⟩,.inl rfl,.inl rfl,.inr ⟨by decide,.inr ⟨_,_,rfl,rfl,.cons (.a _) (.cons (.a _) (.cons (.a _) (.cons (.a _) (.cons (.a _) (.cons (.buf rfl (cA.refl rfl) (aa _)) .nil)))))⟩⟩,.inr ⟨by decide,.inl rfl⟩,trivial⟩) ?_;refine aE.fg (Fg.ma (f':=[(0,.ptr 0 0),(2,.ptr 4 0)]) (S':=[.cells [bH,ab 0,ab 0,bH],.gone,.gone,.gone,.cells [ao 3 Dk ar]]) 3 rfl gt zj ⟨.inr ⟨by decide,.inl rfl⟩,.inl rfl,.inl rfl,.inl rfl,.inr ⟨by decide,.inr ⟨_,_,rfl,rfl,.cons (.buf rfl (.cons (.a _) (.cons (.a _) (.cons (.nil 3) zr))) (aa _)) .nil⟩⟩,trivial⟩) ?_;refine zZ [(0,.ptr 0 0),(2,.ip [ao 3 Dk ar])] 4 rfl ⟨.inl rfl,.inr (.ptr rfl (cA.refl rfl) (a8 _)),trivial⟩<|zA [(0,.ptr 0 0),(2,.ip [ao 3 Dk ar])] [.cells [bH,ab 0,ab 0,bH]] zH<|(zV) ?_;refine zZ wX 1 rfl ⟨.inl rfl,.inl rfl,.inr (.ptr rfl (cA.refl rfl) (a8 _)),trivial⟩<|zA wX [.cells [bH,ab 0,ab 0,bH]] zH ?_
 (repeat refine aE.seq ?_)
 refine aE.Aq 9 12 (λL=>⟨fX L,22,[io L 8 (.cells sX) (.cells [bH,ab 0,ab 0,bH]),wo L 7 (.cells (Ik.flatMap au))],[]⟩) rfl zW ii g9 zW (Fg.less (by (simp only[cY,bP,fU,↓reduceIte,ac,ao,x9,ET,yW (L:=λ_=>False) (λh=>h)])<;>(repeat' apply cl)<;>first | rfl | trivial) (by (simp only[cY,bP,or_true,true_or,ao,x9,ET,yW (L:=λ_=>False) (λh=>h)])<;>(repeat' apply cl)<;>first | exact .inr rfl | exact .inl rfl | trivial)) (λL=>rfl) ?_ ?_
 ·rintro L i o him hC hr
  rcases i with _ | _ | _ | _ | _ | _ | _ | _ | _ | i
  rotate_right
  ·exact un him i4
  ·cases hr.jF;refine(zR) ?_;exact(cg (cJ @bB @ft @me))
  ·cases hr.jF;refine(zR) ?_;exact(cg (cJ @bB @ft @me))
  ·cases hr.jF;have d0:L 0:=hr.dep ⟨0,.data⟩ ge rfl;have d1:L 1:=hr.dep ⟨1,.data⟩ ge rfl;refine(cM (bm (iT d0) (iT d1))) ?_;exact(cg (kY @bB @ft @me (iT d0) (iT d1)))
  ·cases hr.jF;refine(zR) ?_;exact(cg (fk @bB @ft @me c1))
  ·cases hr.jF;refine(zR) ?_;exact(cg (fk @bB @ft @me c2))
  ·cases hr.jF;refine(zR) ?_;exact(cg (fk @bB @ft @me c3))
  ·cases hr.jF;refine(cM c4) ?_;exact(cg (fk @bB @ft @me c4))
  ·cases hr.jF;have d3:L 3:=hr.dep ⟨3,.data⟩ ge rfl;have d4:L 4:=hr.dep ⟨4,.data⟩ ge rfl;have d5:L 5:=hr.dep ⟨5,.data⟩ ge rfl;have d6:L 6:=hr.dep ⟨6,.data⟩ ge rfl;have hn:¬L 7:=hr.new;refine aN.r0 ii (by simp only[cY,bP,ao,aF,m7,m6,↓reduceIte,ac,ad,ay,am,ap,aq,aA,bD,cI d3,cI d4,cI d5,cI d6,↓mh,QS,gp hn,c7,c1,c2,c3,c4];first | done | rfl) ?_;exact((Fg.rn (f':=(21,.buf 1 4 14 (some 4))::Vs L) (n:=22) (S':=[io L 8 (.cells sX) (.cells [bH,ab 0,ab 0,bH]),.cells (Ik.flatMap au)]) [0,2] g9 rfl (by (simp only[sL,gA,bP,ao,Af,Cy,Sr,c7,↓reduceIte,ac,c1,c2,c3,c4,cI d3,cI d4,cI d5,cI d6])<;>(repeat' apply cl)<;>first | trivial | exact .inl rfl | exact .inr rfl | exact .inr trivial | exact .inl trivial) (by (simp only[cY,gA,bP,ao,Af,Cy,Sr,c7,↓reduceIte,ac,c1,c2,c3,c4,cI d3,cI d4,cI d5,cI d6])<;>(repeat' apply cl)<;>first | rfl | trivial))).trans (cg (EY @bB @ft @me (iT d3) (iT d4) (iT d5) (iT d6)))
  ·cases hr.jF;have d2:L 2:=hr.dep ⟨2,.data⟩ ge rfl;have hn:¬L 8:=hr.new;refine aN.r0 ii (by simp only[cY,bP,ao,aF,m7,m6,↓reduceIte,ac,ad,ay,am,ap,aq,aA,bD,cI d2,yW hn];first | done | rfl) ?_;exact(cg (fk @bB @ft @me (iT d2)))
 have v9:∀i,i<9->∀v:SV,vo (λj=>j<9) i v=v:=λi h v=>cI h;have w9:∀i,i<9->∀v:SO,wo (λj=>j<9) i v=v:=λi h v=>oF h;have i9:∀i,i<9->∀x y:SO,io (λj=>j<9) i x y=x:=λi h x y=>Dy h;change aN _ _ _ _ _ _
 exact oA [(21,.buf 1 4 14 (some 4)),(0,.ptr 0 0)] [.cells sX,.cells (Ik.flatMap au)] (cg (cJ (v9 7 g9) (w9 7 g9) (i9 8 g9)))<|(zR)<|kn [.cell 0 29,.tmp 1] (r:=.cx [.ag (ao 3 Dk ar::aG N5),ao 14 Ik au]) (hw:=.cx (.cons (.ag (.cons (.sl _ _ _) (.cons (.a _) (.cons (.a _) (.cons (.nil 3) .nil))))) (.cons (.buf rfl (cA.refl rfl) (aa _)) .nil)))
end Go.Proofs
namespace Go.Ev
noncomputable section
section
variable {P:Program} {ro:Option Nat}
def aN.r1{all l:List Oper}{o:Oper}{ds:List jG}{n d:Nat}{f:Fm}{S S1:List SO}{v:SV}{kill:Option Nat}{K:ez->Prop}(hst:dg all n [o]=true)(hdst:o.dst=some d)(hw:bT all f o.guard=some true)(hop:dk P f S o.op=some (v,S1,kill))
 (hk:aN P ro all l ⟨pN f kill (some d) v,n,S1,ds⟩ K):aN P ro all (o::l) ⟨f,n,S,ds⟩ K:=by
 have hd:=(fO hst).1;rw[hdst] at hd;have hw:=fb hst hw;rintro ρ0 h0 ⟨af,n',hh,ds'⟩ ⟨rfl,rfl,θ,ρ,hR,hF⟩;obtain⟨rv,h',θ',e1,e2,e3,e4⟩:=Pv hR hF hop;refine .cons (dn hF hw) (.run (CA hop) (by rw[hdst];exact hd) e1 ?_);intro x hx;rw[t6 hx];refine hk ρ0 h0 _ ⟨rfl,rfl,θ',ρ,e2,?_⟩;rw[hdst];cases rv<;>exact hF.kill e4 (fZ hd) e3
end
end
end Go.Ev
namespace Go.Proofs
open Go.Ev
set_option maxRecDepth 100000
abbrev V4:List Nat:=[48,49,50,51,52,53,54,55,56,57,97,98,99,100,101,102]
def xE:aY:=.mk 5 [107,109] [] 100 0 []
def xR:eR:=⟨[114],nW,xE⟩
def xK:qy:=⟨[119],[114],5⟩
def xH:gN:=⟨V4,[99],[0,1],[0]⟩
def UN:dS:=⟨[xR],[],[],[],[],[]⟩
def T7:dS:=⟨[xR],[],[],[xK],[],[]⟩
def T8:dS:=⟨[],[],[],[],[],[xH]⟩
abbrev Vu:aw:=⟨1,[119],[114]⟩
abbrev Vv:aw:=⟨6,[99],V4⟩
abbrev Vw:aw:=⟨4,[119],[]⟩
def Wj:jl Dk N5 UN Ik [99] 5=[Vu]:=by kernel_rfl
def Wl:jl Dk N5 T7 Ik [99] 5=[]:=by kernel_rfl
def Wm:jl Dk N5 T8 Ik [99] 5=[Vv]:=by kernel_rfl
def Wn:jl Dk N5 UN Ik [119] 5=[Vw]:=by kernel_rfl
def FQ{s:List Nat}(h:(decide (s.length<=1000000)&&s.all λb=>decide (b<256))=true):fj s:=by
 simp only[ax,wp,all_eq_true] at h;exact⟨h.1,h.2⟩
def SX:mI Dk:=by
 refine⟨by decide,λk hk=>?_,λk hk s hs=>?_⟩
 ·simp only[Dk,dd,bd,or_false] at hk
  rcases hk with rfl | rfl<;>exact⟨FQ g9,by decide⟩
 ·simp only[Dk,dd,bd,or_false] at hk
  rcases hk with rfl | rfl
  ·cases hs
  ·cases t6 hs;exact⟨FQ g9,by decide⟩
def SY:gM N5:=.mk g9 λk hk=>by cases hk
def SZ:∀e∈Ik,lY e:=by
 intro e he;simp only[Ik,dd,bd,or_false] at he
 rcases he with rfl | rfl | rfl | rfl<;>constructor<;>exact FQ g9
def UD:gB xE:=.mk (FQ g9) (FQ g9) g9 λk hk=>by cases hk
def Dj{k:List qy}{h:List gN}{r:List eR}(hr:r=[xR]\/r=[])(hk:k.length<=1)(hh:h=[xH]\/h=[]):sD ⟨r,[],[],k,[],h⟩ where
 fN:=λq hq=>by
  rcases hr with rfl | rfl
  ·cases t6 hq;exact UD
  ·cases hq
 vL:=λq hq=>by cases hq
 NW:=λq hq=>by cases hq
 hold:=λq hq=>by
  rcases hh with rfl | rfl
  ·cases t6 hq;exact⟨by decide,by decide⟩
  ·cases hq
 lr:=by rcases hr with rfl | rfl<;>exact md rfl
 lc:=Nat.zero_le _
 ld:=Nat.zero_le _
 lh:=by rcases hh with rfl | rfl<;>exact md rfl
 ls:=Nat.zero_le _
 lx:=Nat.le_trans hk g9
def uN{b:dS}(hb:sD b)(v:List Nat):PC prog 12 [.ag (ao 3 Dk ar::aG N5),.ag (aJ b),ao 14 Ik au,ah v,ab 5] (·=ao 3 (jl Dk N5 b Ik v 5) ai):=
 AN Dk N5 b Ik v 5 hb SX SY g9 SZ
def Px(a:List aw)(h:a.length<=1000000):PC prog 11 [ao 3 a ai,ao 3 a ai] (·=an true):=by
 have:=AT a a h;rw[wl rfl] at this;exact this
abbrev w1:Fm:=[(0,an false),(1,.ip [.sl 2 3 (Dk.flatMap ar),ab 2,ab 0,.sl 0 3 []]),(2,ao 14 Ik au)]
abbrev Wa:List SV:=[.sl 1 8 (cD xR),.sl 0 5 [],.sl 0 5 [],.sl 0 3 [],.sl 0 8 [],.sl 0 4 []]
abbrev Vr:List SV:=[.sl 1 8 (cD xR),.sl 0 5 [],.sl 0 5 [],.sl 1 3 (dy xK),.sl 0 8 [],.sl 0 4 []]
abbrev Wb:List SV:=[.sl 0 8 [],.sl 0 5 [],.sl 0 5 [],.sl 0 3 [],.sl 0 8 [],.sl 1 4 (bz xH)]
abbrev w3:Fm:=(3,.ip Wa)::w1
abbrev w4:Fm:=(4,.ip Vr)::w3
abbrev w5:Fm:=(5,.ip Wb)::w4
def Hd:PC prog 9 [] (·=an true):=by
 have h1:=uN (Dj (k:=[]) (h:=[]) (.inl rfl) g9 (.inr rfl)) [99];rw[show(⟨[xR],[],[],[],[],[]⟩:dS)=UN from rfl,Wj] at h1;have h2:=uN (Dj (k:=[xK]) (h:=[]) (.inl rfl) g9 (.inr rfl)) [99];rw[show(⟨[xR],[],[],[xK],[],[]⟩:dS)=T7 from rfl,Wl] at h2;have h3:=uN (Dj (k:=[]) (h:=[xH]) (.inr rfl) g9 (.inl rfl)) [99];rw[show(⟨[],[],[],[],[],[xH]⟩:dS)=T8 from rfl,Wm] at h3;have h4:=uN (Dj (k:=[]) (h:=[]) (.inl rfl) g9 (.inr rfl)) [119];rw[show(⟨[xR],[],[],[],[],[]⟩:dS)=UN from rfl,Wn] at h4;have s1:=Px [Vu] g9;have s2:=Px [Vv] g9;have s3:=Px [Vw] g9
 refine pB 58 Tryz.func9 ?_;refine(jC)<|(zK PG (hfl:=.inr zr))<|(cM (show aG N5=[ab 2,ab 0,.sl 0 3 []] from rfl)) ?_;refine zZ w1 0 rfl ⟨.inl rfl,.inr (.ptr rfl (cA.refl rfl) (a8 _)),.inl rfl,trivial⟩<|zA w1 [] zH<|(zV)<|zA ((3,.ptr 1 0)::w1) [.cells [ah [114],ah nW,ab 5,ah [107,109],ah [],ab 100,ab 0,bH],.cells [.buf 0 1 8 (some 1),bH,bH,bH,bH,bH]] zH ?_;refine aE.fg (Fg.ma (f':=(3,.ptr 1 0)::w1) (S':=[.gone,.cells [.sl 1 8 (cD xR),bH,bH,bH,bH,bH]]) 0 rfl gt ⟨.inl rfl,zj⟩ ⟨.inl rfl,.inr ⟨by decide,.inr ⟨_,_,rfl,rfl,.cons (.buf rfl (.cons (.a _) (.cons (.a _) (.cons (.a _) (.cons (.a _) (.cons (.a _) (.cons (.a _) (.cons (.a _) (.cons (.nil 6) .nil)))))))) (aa _)) zr⟩⟩,trivial⟩) ?_;refine zZ w3 1 rfl ⟨.inr (.ptr rfl (.cons (.sl _ _ _) (.cons (.nil 5) (.cons (.nil 5) (.cons (.nil 3) (.cons (.nil 8) (.cons (.nil 4) .nil)))))) (a8 _)),zj⟩<|zA w3 [] zH<|(nD)<|zA ((4,.ptr 0 0)::w3) [.cells [.sl 1 8 (cD xR),.sl 0 5 [],.sl 0 5 [],.buf 1 1 3 (some 1),.sl 0 8 [],.sl 0 4 []],.cells [ah [119],ah [114],ab 5]] zH ?_;refine aE.fg (Fg.ma (f':=(4,.ptr 0 0)::w3) (S':=[.cells Vr,.gone]) 1 rfl gt ⟨.inl rfl,zj⟩ ⟨.inr ⟨by decide,.inr ⟨_,_,rfl,rfl,.cons (.sl _ _ _) (.cons (.sl _ _ _) (.cons (.sl _ _ _) (.cons (.buf rfl (cA.refl rfl) (aa _)) (.cons (.sl _ _ _) (.cons (.sl _ _ _) .nil)))))⟩⟩,.inl rfl,trivial⟩) ?_;refine zZ w4 0 rfl ⟨.inr (.ptr rfl (cA.refl rfl) (a8 _)),zj⟩<|zA w4 [] zH ?_
 (repeat refine aE.seq ?_)
 refine aE.region ?_;refine aN.r1 (d:=19) ii rfl ii zl ?_;refine oZ ((19,.sl 2 1 [ab 0,ab 1])::w4) 0 rfl ⟨.inr (.buf rfl (cA.refl rfl) (aa _)),zj⟩<|oA ((19,.sl 2 1 [ab 0,ab 1])::w4) [] zH ?_;refine aN.r1 (d:=20) ii rfl ii zl ?_;refine oZ ((20,.sl 1 1 [ab 0])::(19,.sl 2 1 [ab 0,ab 1])::w4) 0 rfl ⟨.inr (.buf rfl (cA.refl rfl) (aa _)),zj⟩<|oA ((20,.sl 1 1 [ab 0])::(19,.sl 2 1 [ab 0,ab 1])::w4) [] zH<|(zR)<|zA ((5,.ptr 1 0)::w4) [.cells (bz xH),.cells [bH,bH,bH,bH,bH,.buf 0 1 4 (some 1)]] zH ?_;refine aE.fg (Fg.ma (f':=(5,.ptr 1 0)::w4) (S':=[.gone,.cells [bH,bH,bH,bH,bH,.sl 1 4 (bz xH)]]) 0 rfl gt ⟨.inl rfl,zj⟩ ⟨.inl rfl,.inr ⟨by decide,.inr ⟨_,_,rfl,rfl,.cons (.a _) (.cons (.a _) (.cons (.a _) (.cons (.a _) (.cons (.a _) (.cons (.buf rfl (cA.refl rfl) (aa _)) .nil)))))⟩⟩,trivial⟩) ?_;exact zZ w5 1 rfl ⟨.inr (.ptr rfl (.cons (.nil 8) (.cons (.nil 5) (.cons (.nil 5) (.cons (.nil 3) (.cons (.nil 8) (.cons (.sl _ _ _) .nil)))))) (a8 _)),zj⟩<|zA w5 [] zH<|(zC)<|(zK h1 (hwk:=cA.refl rfl) (hfl:=.inr zr))<|(zQ)<|(zK s1 (hwk:=.cons (.sl _ _ _) (.cons (.buf rfl (cA.refl rfl) (aa _)) .nil)))<|(zQ)<|(zK h2 (hwk:=cA.refl rfl) (hfl:=.inr zr))<|(zR)<|zA ((6,an true)::w5) [] zH<|(zC)<|(zK h3 (hwk:=cA.refl rfl) (hfl:=.inr zr))<|(zQ)<|(zK s2 (hwk:=.cons (.sl _ _ _) (.cons (.buf rfl (cA.refl rfl) (aa _)) .nil)))<|(zQ)<|(zK h4 (hwk:=cA.refl rfl) (hfl:=.inr zr))<|(zQ)<|(zK s3 (hwk:=.cons (.sl _ _ _) (.cons (.buf rfl (cA.refl rfl) (aa _)) .nil)))<|(zR)<|zo [.tmp 0]
structure M6 (c:List aM) (dmg:bu) (l:List br):Prop where
 Vt:kS dmg
 cat:∀k∈c,(∀b∈k.name,b<256)/\∀s∈k.bN,∀b∈s.name,b<256
 len:l.length<=sC
 ev:∀e∈l,U0 e
def Ob(c:List aM)(dmg:bu)(b:dS)(l:List br)(v:List Nat):Bool:=Oc c dmg l&&(Proofs.BT b&&decide ((v.length:Int)<=300))
def mi{s:List Nat}(h:ke s=true)(hb:∀x∈s,x<256):fj s:=by
 unfold ke at h;simp only[bk,wn] at h;exact⟨by omega,hb⟩
def N9{b:dS}(h:BT b=true)(hb:rk b):sD b/\(b.rules.length<=5/\b.bF.length<=5/\b.dE.length<=5)/\b.holds.length<=5/\b.fi.length<=5/\b.mO.length<=5:=by
 unfold BT sJ at h;simp only[ax,bk,wn,wp,all_eq_true] at h;obtain⟨⟨h1,h2,h3,h4,⟨h5,h6⟩,h7,h8⟩,h9,h10,h11,h12⟩:=h;refine⟨⟨λr hr=>?_,λr hr=>?_,λd hd=>?_,λx hx=>?_,by omega,by omega,by omega,by omega,by omega,by omega⟩,⟨by omega,by omega,by omega⟩,by omega,by omega,by omega⟩
 ·have:=h6 r hr;unfold yG at this;rw[ax] at this;exact Kl this.2 (hb.fN r hr).2
 ·have:=h8 r hr;unfold yG at this;rw[ax] at this;exact Kl this.2 (hb.vL r hr).2
 ·have:=h10 d hd;unfold xJ at this;simp only[dC,List.all_nil,ax] at this;obtain⟨k1,k2,k3⟩:=hb.NW d hd;exact⟨mi this.1 k1,mi this.2.1 k2,mi this.2.2.1 k3⟩
 ·have:=h12 x hx;unfold kT at this;simp only[ax,bk,wn] at this;exact⟨by omega,by omega⟩
structure V6 (c:List aM) (dmg:bu) (b:dS) (l:List br):Prop where
 cat:mI c
 Vt:gM dmg
 book:sD b
 len:l.length<=16
 ev:∀e∈l,lY e
 Ww:(b.rules.length<=5/\b.bF.length<=5/\b.dE.length<=5)/\b.holds.length<=5/\b.fi.length<=5/\b.mO.length<=5
def QH{c:List aM}{dmg:bu}{b:dS}{l:List br}{v:List Nat}(h:Ob c dmg b l v=true)(ha:M6 c dmg l)(hb:rk b):V6 c dmg b l:=by
 unfold Ob at h;rw[ax,ax] at h;obtain⟨h1,h2,_⟩:=h;obtain⟨k1,k2⟩:=N9 h2 hb;unfold Oc at h1;simp only[ax,bk,wn,all_eq_true] at h1;obtain⟨⟨g1,g2,g3⟩,g4⟩:=h1;refine⟨N8 g2 ha.cat,N7 g3,k1,by omega,λe he=>?_,k2⟩;have:=g4 e he;unfold ql at this;simp only[ax] at this;obtain⟨q1,q2,q3,q4,q5,q6⟩:=this;have hb:=ha.ev e he;exact⟨mi q1 hb.part,mi q2 hb.kind,mi q3 hb.aT,mi q4 hb.slot,mi q5 hb.key,mi q6 hb.value⟩
def Jm(c:List aM)(dmg:bu)(b:dS)(l:List br)(v:List Nat)(ha:M6 c dmg l)(hb:rk b):PC prog 10 [.ag (ao 3 c ar::aG dmg),.ag (aJ b),ao 14 l au,ah v] (·=an (Ob c dmg b l v)):=by
 have hfl:(aG dmg).length=3:=e7 dmg;have hft:(aG dmg).take 3=aG dmg:=aW (by rw[hfl];exact aa _);have hfk:=λo:Nat=>bV (o:=o) (aX dmg);have hfn:=λo:Nat=>cm (o:=o) (aX dmg);have h12:=Hb c dmg l ha.Vt ha.len;have h28:=Jl b hb;unfold Ob;generalize Oc c dmg l=g1 at h12 ⊢;generalize Proofs.BT b=g2 at h28 ⊢
 refine pB 21 Tryz.func10 ?_;refine(aB (cJ hfk hfn @aJ.eq_1)) ?_;refine zZ [(2,ao 14 l au),(3,ah v),(4,.ip (ao 3 c ar::aG dmg)),(5,.ptr 1 0)] 0 rfl ⟨.inl rfl,.inl rfl,.inr (.ptr rfl (cA.refl (aX dmg)) (a8 _)),.inl rfl,trivial⟩<|zZ [(2,ao 14 l au),(3,ah v),(4,.ip (ao 3 c ar::aG dmg)),(5,.ip (aJ b))] 1 rfl (gE (bm @ao.eq_1 @aJ.eq_1))<|zA [(2,ao 14 l au),(3,ah v),(4,.ip (ao 3 c ar::aG dmg)),(5,.ip (aJ b))] [] zH<|(eQ (bm hfl hft))<|(zK h12 (hwk:=.cons (.ag (cA.refl (aX dmg))) zr)) ?_
 cases g1
 ·exact(zR)<|zo [.tmp 8]
 refine(MY @aJ.eq_1)<|(zK h28) ?_
 cases g2
 ·exact(zR)<|zo [.tmp 8]
 cases g3:decide ((v.length:Int)<=300)
 ·exact(cM g3)<|zo [.tmp 8]
 ·exact(cM g3)<|zo [.tmp 8]
def ot:Nat->Ty
 | 0=>.no 6
 | 1=>.st [.no 1,.no 1,.no 1,.no 1,.no 1,.no 1]
 | j+2=>.st [i6,.str,.str,i6,i6,.sl (ot j)]
def ju:∀j,(ot j).size=6
 | 0=>rfl
 | 1=>rfl
 | j+2=>rfl
def qc(j:Nat):List Ty:=[.str,.str,ot j]
def K8:List Ty:=[.str,.str,.str,.str,i6]
def Dg:List Ty:=[.str,.str,.str,i6,i6]
def Df:List Ty:=[.str,.str,i6]
def Dt:List Ty:=[.str,.str,.sl i6,.sl i6]
def H5(j:Nat):List Ty:=[.sl (.st (qc j)),.sl (.st K8),.sl (.st Dg),.sl (.st Df),.sl (.st (qc j)),.sl (.st Dt)]
section
variable {B:Nat} {ds:List DV}
def Kj(hB:B<=sC):∀(j:Nat) {ds:List DV},kh B (ot j) ds->∃e:aY,eO ds=aV e/\eX e
 | 0,ds,h=>by
  rw[ot,kh] at h;exact h.elim
 | 1,ds,h=>by
  rw[ot,kh,ec] at h;obtain⟨_,_,_,h,_⟩:=h;rw[kh] at h;exact h.elim
 | j+2,ds,h=>by
  rw[ot,kh] at h;obtain⟨a1,r,rfl,_,hk⟩:=dI h;obtain⟨s1,r,rfl,b1,_,hk⟩:=cV hk;obtain⟨s2,r,rfl,b2,_,hk⟩:=cV hk;obtain⟨a2,r,rfl,_,hk⟩:=dI hk;obtain⟨a3,r,rfl,_,hk⟩:=dI hk;obtain⟨nl,rows,r,rfl,hl,hr,hk⟩:=iI hk;have:=ib hk;subst this;obtain⟨xs,h1,h2,h3⟩:=ni aV eX λr hrr=>Kj hB j (hr r hrr);refine⟨.mk a1 s1 s2 a2 a3 xs,?_,.mk b1 b2 i4 h3⟩;rw[gT,ju];simp only[eO,Fz,nJ h1 h2,h2,h1]
def K4(hB:B<=sC){j:Nat}(hk:ec B (qc j) ds):∃r:eR,eO ds=cD r/\((r.name.length<=sC/\r.kind.length<=sC)/\eX r.cond):=by
 unfold qc at hk;obtain⟨s1,r,rfl,b1,l1,hk⟩:=cV hk;obtain⟨s2,r,rfl,b2,l2,hk⟩:=cV hk;rw[ec] at hk;obtain⟨d1,d2,rfl,h1,h2⟩:=hk;rw[ec] at h2;subst h2;obtain⟨e,h3,h4⟩:=Kj hB j h1;exact⟨⟨s1,s2,e⟩,by simp only[eO,Fz,bh,h3,cD],⟨by show s1.length<=sC;omega,by show s2.length<=sC;omega⟩,h4⟩
def Tv(hk:ec B K8 ds):∃s:w8,eO ds=eF s/\True:=by
 unfold K8 at hk;obtain⟨s1,r,rfl,b1,l1,hk⟩:=cV hk;obtain⟨s2,r,rfl,b2,l2,hk⟩:=cV hk;obtain⟨s3,r,rfl,b3,l3,hk⟩:=cV hk;obtain⟨s4,r,rfl,b4,l4,hk⟩:=cV hk;obtain⟨a1,r,rfl,_,hk⟩:=dI hk;have:=ib hk;subst this;exact⟨⟨s1,s2,s3,s4,a1⟩,by simp only[eO,Fz,eF],trivial⟩
def QD(hk:ec B Dg ds):∃d:ei,eO ds=bf d/\((∀x∈d.name,x<256)/\(∀x∈d.kind,x<256)/\∀x∈d.key,x<256):=by
 unfold Dg at hk;obtain⟨s1,r,rfl,b1,l1,hk⟩:=cV hk;obtain⟨s2,r,rfl,b2,l2,hk⟩:=cV hk;obtain⟨s3,r,rfl,b3,l3,hk⟩:=cV hk;obtain⟨a1,r,rfl,_,hk⟩:=dI hk;obtain⟨a2,r,rfl,_,hk⟩:=dI hk;have:=ib hk;subst this;exact⟨⟨s1,s2,s3,a1,a2⟩,by simp only[eO,Fz,bf],b1,b2,b3⟩
def Qx(hk:ec B Df ds):∃d:qy,eO ds=dy d/\True:=by
 unfold Df at hk;obtain⟨s1,r,rfl,b1,l1,hk⟩:=cV hk;obtain⟨s2,r,rfl,b2,l2,hk⟩:=cV hk;obtain⟨a1,r,rfl,_,hk⟩:=dI hk;have:=ib hk;subst this;exact⟨⟨s1,s2,a1⟩,by simp only[eO,Fz,dy],trivial⟩
def Ov(hk:kh B i6 ds):∃n:Int,eO ds=aD ab n/\True:=by
 have h:ec B [i6] (ds++[]):=by rw[ec];exact⟨ds,[],rfl,hk,by rw[ec]⟩
 rw[bh] at h;obtain⟨n,r,rfl,_,hk⟩:=dI h;have:=ib hk;subst this;exact⟨n,by simp only[eO,Fz,aD],trivial⟩
def QL(hk:ec B Dt ds):∃h:gN,eO ds=bz h/\True:=by
 unfold Dt at hk;obtain⟨s1,r,rfl,b1,l1,hk⟩:=cV hk;obtain⟨s2,r,rfl,b2,l2,hk⟩:=cV hk;obtain⟨n1,rows1,r,rfl,_,hr1,hk⟩:=iI hk;obtain⟨n2,rows2,r,rfl,_,hr2,hk⟩:=iI hk;have:=ib hk;subst this;obtain⟨xs,h1,h2,_⟩:=ni (aD ab) (λ_=>True) λr hrr=>Ov (hr1 r hrr);obtain⟨ys,h3,h4,_⟩:=ni (aD ab) (λ_=>True) λr hrr=>Ov (hr2 r hrr);exact⟨⟨s1,s2,xs,ys⟩,by simp only[eO,nJ h1 h2,nJ h3 h4,bz];rfl,trivial⟩
def Ql(hB:B<=sC){j:Nat}(hk:ec B (H5 j) ds):∃b:dS,eO ds=aJ b/\rk b:=by
 unfold H5 at hk;obtain⟨n1,r1,r,rfl,l1,k1,hk⟩:=iI hk;obtain⟨n2,r2,r,rfl,l2,k2,hk⟩:=iI hk;obtain⟨n3,r3,r,rfl,l3,k3,hk⟩:=iI hk;obtain⟨n4,r4,r,rfl,l4,k4,hk⟩:=iI hk;obtain⟨n5,r5,r,rfl,l5,k5,hk⟩:=iI hk;obtain⟨n6,r6,r,rfl,l6,k6,hk⟩:=iI hk;have:=ib hk;subst this;obtain⟨x1,a1,c1,d1⟩:=ni cD (λr=>(r.name.length<=sC/\r.kind.length<=sC)/\eX r.cond) λr hrr=>K4 hB (by have:=k1 r hrr;rw[kh] at this;exact this);obtain⟨x2,a2,c2,d2⟩:=ni eF (λ_=>True) λr hrr=>Tv (by have:=k2 r hrr;rw[kh] at this;exact this);obtain⟨x3,a3,c3,d3⟩:=ni bf (λd=>(∀x∈d.name,x<256)/\(∀x∈d.kind,x<256)/\∀x∈d.key,x<256) λr hrr=>QD (by have:=k3 r hrr;rw[kh] at this;exact this);obtain⟨x4,a4,c4,d4⟩:=ni dy (λ_=>True) λr hrr=>Qx (by have:=k4 r hrr;rw[kh] at this;exact this);obtain⟨x5,a5,c5,d5⟩:=ni cD (λr=>(r.name.length<=sC/\r.kind.length<=sC)/\eX r.cond) λr hrr=>K4 hB (by have:=k5 r hrr;rw[kh] at this;exact this);obtain⟨x6,a6,c6,d6⟩:=ni bz (λ_=>True) λr hrr=>QL (by have:=k6 r hrr;rw[kh] at this;exact this);refine⟨⟨x1,x2,x3,x4,x5,x6⟩,?_,⟨d1,d5,d3,by show x1.length<=sC;omega,by show x5.length<=sC;omega⟩⟩;simp only[eO,nJ a1 c1,nJ a2 c2,nJ a3 c3,nJ a4 c4,nJ a5 c5,nJ a6 c6,aJ,Ty.size,Ty.ph,qc,ju];rfl
end
end Go.Proofs
namespace Go.Proofs.YtjiejanfnnieaaaGreat
open Go.Proofs Go.Ev Go.ChangeShapes Go.WideShapes Go.ChangeAt Go.RowKit
set_option maxRecDepth 100000
def Ve:ownKnob prog.godebug=none:=by kernel_rfl
def Mm:laidOutB prog=true:=by kernel_rfl
variable{α:Type}
def TB:∀{l:List α},l.length=2->∃a b,l=[a,b]
 | [a,b],_=>⟨a,b,rfl⟩
def PB:∀{l:List α},l.length=3->∃a b c,l=[a,b,c]
 | [a,b,c],_=>⟨a,b,c,rfl⟩
def PV:∀k,fP prog k 27=some (oN k)
 | 0=>by kernel_rfl
 | 1=>by kernel_rfl
 | k+2=>by
  have ih:=PV k
  have h1:fP prog (k+1) 25=some (.sl (oN k)):=by
   unfold fP;rw[show prog.underlying 25=some (.slice 27) by kernel_rfl];simp only;rw[ih,m7,sK,show(beq (prog.cellsOf 27) 3&&(ble 1 3&&ble 1 (prog.bytesOf 27)))=true by kernel_rfl];rfl
  have h2:fP prog (k+1) 3=some i6:=by kernel_rfl
  obtain⟨fs,hu,hfs⟩:∃fs,prog.underlying 27=some (.struct fs)/\fs.toList.map (λf=>(f.type,f.offset))=[(3,0),(3,1),(25,2)]:=by
   have q:(prog.underlying 27).bind (λu=>match u with | .struct fs=>some (fs.toList.map (λf=>(f.type,f.offset))) | _=>none)=some [(3,0),(3,1),(25,2)]:=by kernel_rfl
   obtain⟨u,e1,e2⟩:=ul q
   cases u<;>first | (cases e2;done) | exact⟨_,e1,Option.some.inj e2⟩
  unfold fP;rw[hu];simp only;generalize fs.toList=l at hfs;obtain⟨a,b,c,rfl⟩:=PB (by have:=rc co hfs;rwa [aS] at this)
  ·simp only[bb,map_nil,mt,m8,and_true] at hfs;obtain⟨⟨a1,a2⟩,⟨b1,b2⟩,c1,c2⟩:=hfs
   have n1:prog.cellsOf 3=1:=by kernel_rfl
   have n2:prog.cellsOf 25=1:=by kernel_rfl
   have n3:prog.cellsOf 27=3:=by kernel_rfl
   simp only[gu,a1,a2,b1,b2,c1,c2,h1,h2,n1,n2,n3,m7,m6,Ty.size,Ty.ph,b8,cond_true,b9,ad,oN]
def PX(j:Nat):fP prog (j+12) 29=some (.st [.st [.sl (.st vz)],oN (j+11)]):=by
 obtain⟨fs,hu,hfs⟩:∃fs,prog.underlying 29=some (.struct fs)/\fs.toList.map (λf=>(f.type,f.offset))=[(24,0),(27,1)]:=by
  have q:(prog.underlying 29).bind (λu=>match u with | .struct fs=>some (fs.toList.map (λf=>(f.type,f.offset))) | _=>none)=some [(24,0),(27,1)]:=by kernel_rfl
  obtain⟨u,e1,e2⟩:=ul q
  cases u<;>first | (cases e2;done) | exact⟨_,e1,Option.some.inj e2⟩
 have h1:fP prog (j+11) 24=some (.st [.sl (.st vz)]):=by kernel_rfl
 have h2:=PV (j+11);unfold fP;rw[hu];simp only;generalize fs.toList=l at hfs;obtain⟨a,b,rfl⟩:=TB (by have:=rc co hfs;rwa [aS] at this)
 ·simp only[bb,map_nil,mt,m8,and_true] at hfs;obtain⟨⟨a1,a2⟩,b1,b2⟩:=hfs
  have n1:prog.cellsOf 24=1:=by kernel_rfl
  have n2:prog.cellsOf 27=3:=by kernel_rfl
  have n3:prog.cellsOf 29=4:=by kernel_rfl
  have h2:fP prog (j+11) 27=some (oN (j+11)):=h2;simp only[gu,a1,a2,b1,b2,h1,h2,n1,n2,n3,m7,m6,Ty.size,Ty.ph,sK,b8,cond_true,b9,ad]
def QU:∀{l:List α},l.length=3->∃a b c,l=[a,b,c]
 | [a,b,c],_=>⟨a,b,c,rfl⟩
def Ky:∀{l:List α},l.length=6->∃a b c d e f,l=[a,b,c,d,e,f]
 | [a,b,c,d,e,f],_=>⟨a,b,c,d,e,f,rfl⟩
def Lb:∀k,fP prog k 71=some (ot k)
 | 0=>by kernel_rfl
 | 1=>by kernel_rfl
 | k+2=>by
  have ih:=Lb k
  have h5:fP prog (k+1) 69=some (.sl (ot k)):=by
   unfold fP;rw[show prog.underlying 69=some (.slice 71) by kernel_rfl];simp only;rw[ih,m7,ju,show(beq (prog.cellsOf 71) 6&&(ble 1 6&&ble 1 (prog.bytesOf 71)))=true by kernel_rfl];rfl
  have h0:fP prog (k+1) 3=some i6:=by kernel_rfl
  have h1:fP prog (k+1) 9=some .str:=by kernel_rfl
  have h2:=h1;have h3:=h0;have h4:=h0
  obtain⟨fs,hu,hfs⟩:∃fs,prog.underlying 71=some (.struct fs)/\fs.toList.map (λf=>(f.type,f.offset))=[(3,0),(9,1),(9,2),(3,3),(3,4),(69,5)]:=by
   have q:(prog.underlying 71).bind (λu=>match u with | .struct fs=>some (fs.toList.map (λf=>(f.type,f.offset))) | _=>none)=some [(3,0),(9,1),(9,2),(3,3),(3,4),(69,5)]:=by kernel_rfl
   obtain⟨u,e1,e2⟩:=ul q
   cases u<;>first | (cases e2;done) | exact⟨_,e1,Option.some.inj e2⟩
  unfold fP;rw[hu];simp only;generalize fs.toList=l at hfs;obtain⟨x0,x1,x2,x3,x4,x5,rfl⟩:=Ky (by have:=rc co hfs;rwa [aS] at this);simp only[bb,map_nil,mt,m8,and_true] at hfs;obtain⟨⟨a0,b0⟩,⟨a1,b1⟩,⟨a2,b2⟩,⟨a3,b3⟩,⟨a4,b4⟩,a5,b5⟩:=hfs
  have n0:prog.cellsOf 3=1:=by kernel_rfl
  have n1:prog.cellsOf 9=1:=by kernel_rfl
  have n2:prog.cellsOf 9=1:=by kernel_rfl
  have n3:prog.cellsOf 3=1:=by kernel_rfl
  have n4:prog.cellsOf 3=1:=by kernel_rfl
  have n5:prog.cellsOf 69=1:=by kernel_rfl
  have nn:prog.cellsOf 71=6:=by kernel_rfl
  simp only[gu,a0,b0,a1,b1,a2,b2,a3,b3,a4,b4,a5,b5,h0,h1,h2,h3,h4,h5,n0,n1,n2,n3,n4,n5,nn,m7,m6,Ty.size,Ty.ph,ot,b8,cond_true,b9,ad]
  skip
def RL(j:Nat):fP prog (j+10) 73=some (.st (qc (j+9))):=by
 obtain⟨fs,hu,hfs⟩:∃fs,prog.underlying 73=some (.struct fs)/\fs.toList.map (λf=>(f.type,f.offset))=[(9,0),(9,1),(71,2)]:=by
  have q:(prog.underlying 73).bind (λu=>match u with | .struct fs=>some (fs.toList.map (λf=>(f.type,f.offset))) | _=>none)=some [(9,0),(9,1),(71,2)]:=by kernel_rfl
  obtain⟨u,e1,e2⟩:=ul q
  cases u<;>first | (cases e2;done) | exact⟨_,e1,Option.some.inj e2⟩
 have h0:fP prog (j+9) 9=some .str:=by kernel_rfl
 have h1:=h0;have h2:=Lb (j+9);unfold fP;rw[hu];simp only;generalize fs.toList=l at hfs;obtain⟨x0,x1,x2,rfl⟩:=QU (by have:=rc co hfs;rwa [aS] at this);simp only[bb,map_nil,mt,m8,and_true] at hfs;obtain⟨⟨a0,b0⟩,⟨a1,b1⟩,a2,b2⟩:=hfs
 have n0:prog.cellsOf 9=1:=by kernel_rfl
 have n1:prog.cellsOf 9=1:=by kernel_rfl
 have n2:prog.cellsOf 71=6:=by kernel_rfl
 have nn:prog.cellsOf 73=8:=by kernel_rfl
 simp only[gu,a0,b0,a1,b1,a2,b2,h0,h1,h2,n0,n1,n2,nn,m7,m6,Ty.size,Ty.ph,ju,b8,cond_true,b9,ad]
 try rfl
def PW(j:Nat):fP prog (j+11) 30=some (.sl (.st (qc (j+9)))):=by
 have ih:=RL j;unfold fP;rw[show prog.underlying 30=some (.slice 73) by kernel_rfl];simp only;rw[ih,m7,show(Ty.st (qc (j+9))).size=8 by unfold qc;simp only[Ty.size,Ty.ph,ju],show(beq (prog.cellsOf 73) 8&&(ble 1 8&&ble 1 (prog.bytesOf 73)))=true by kernel_rfl];rfl
def RJ(j:Nat):fP prog (j+12) 36=some (.st (H5 (j+9))):=by
 obtain⟨fs,hu,hfs⟩:∃fs,prog.underlying 36=some (.struct fs)/\fs.toList.map (λf=>(f.type,f.offset))=[(30,0),(31,1),(32,2),(33,3),(30,4),(34,5)]:=by
  have q:(prog.underlying 36).bind (λu=>match u with | .struct fs=>some (fs.toList.map (λf=>(f.type,f.offset))) | _=>none)=some [(30,0),(31,1),(32,2),(33,3),(30,4),(34,5)]:=by kernel_rfl
  obtain⟨u,e1,e2⟩:=ul q
  cases u<;>first | (cases e2;done) | exact⟨_,e1,Option.some.inj e2⟩
 have h0:=PW j
 have h1:fP prog (j+11) 31=some (.sl (.st K8)):=by kernel_rfl
 have h2:fP prog (j+11) 32=some (.sl (.st Dg)):=by kernel_rfl
 have h3:fP prog (j+11) 33=some (.sl (.st Df)):=by kernel_rfl
 have h4:=h0
 have h5:fP prog (j+11) 34=some (.sl (.st Dt)):=by kernel_rfl
 unfold fP;rw[hu];simp only;generalize fs.toList=l at hfs;obtain⟨x0,x1,x2,x3,x4,x5,rfl⟩:=Ky (by have:=rc co hfs;rwa [aS] at this);simp only[bb,map_nil,mt,m8,and_true] at hfs;obtain⟨⟨a0,b0⟩,⟨a1,b1⟩,⟨a2,b2⟩,⟨a3,b3⟩,⟨a4,b4⟩,a5,b5⟩:=hfs
 have n0:prog.cellsOf 30=1:=by kernel_rfl
 have n1:prog.cellsOf 31=1:=by kernel_rfl
 have n2:prog.cellsOf 32=1:=by kernel_rfl
 have n3:prog.cellsOf 33=1:=by kernel_rfl
 have n4:prog.cellsOf 30=1:=by kernel_rfl
 have n5:prog.cellsOf 34=1:=by kernel_rfl
 have nn:prog.cellsOf 36=6:=by kernel_rfl
 simp only[gu,a0,b0,a1,b1,a2,b2,a3,b3,a4,b4,a5,b5,h0,h1,h2,h3,h4,h5,n0,n1,n2,n3,n4,n5,nn,m7,m6,Ty.size,Ty.ph,ju,b8,cond_true,b9,ad]
 try rfl
def TC(j:Nat):fP Tryz.prog (j+12) 37=some (.sl (.st LL)):=by kernel_rfl
def Vo(j:Nat):fP Tryz.prog (j+12) 9=some .str:=by kernel_rfl
def Vn(j:Nat):fP Tryz.prog (j+12) 3=some i6:=by kernel_rfl
def IY:reachBytes<=sC:=by decide
def RC{B:Nat}{y:DV}(h:Uf B .str y):∃s:List Nat,y=.fl (.str s)/\∀b∈s,b<256:=by
 have h:kh B .str [y]:=h;rw[kh] at h;obtain⟨s,e,w,_⟩:=h;simp only[mt,and_true] at e;exact⟨s,e,w⟩
def QN{B:Nat}{y:DV}(h:Uf B i6 y):∃n:Int,y=.fl (.int .i64 n):=by
 have h:kh B i6 [y]:=h;rw[kh] at h;obtain⟨n,e,_⟩:=h;simp only[mt,and_true] at e;exact⟨n,e⟩
section
variable {H:Type} {enc:TypeId×Value->H} {P:Program} {w:World} {base:Nat} {spare:Nat->Bool} {held:Bool}
def Jb{t0 t1 t2 t3 t4 t5:TypeId}{args:Array Value}{ds:List (DataW H)}{ps:List MemPlace}(h:DataW.TrodAll enc P w base spare held [t0,t1,t2,t3,t4,t5] args.toList ds ps):
 ∃v0 v1 v2 v3 v4 v5 d0 d1 d2 d3 d4 d5 p0 p1 p2 p3 p4 p5,args=#[v0,v1,v2,v3,v4,v5]/\ds=[d0,d1,d2,d3,d4,d5]/\ps=p0++p1++p2++p3++p4++p5/\DataW.Trod enc P w base spare held t0 v0 d0 p0/\DataW.Trod enc P w base spare held t1 v1 d1 p1/\DataW.Trod enc P w base spare held t2 v2 d2 p2/\DataW.Trod enc P w base spare held t3 v3 d3 p3/\DataW.Trod enc P w base spare held t4 v4 d4 p4/\DataW.Trod enc P w base spare held t5 v5 d5 p5:=by
 obtain⟨v0,_,d0,_,p0,_,hargs,rfl,rfl,e0,h⟩:=trodAll_cons h;obtain⟨v1,_,d1,_,p1,_,rfl,rfl,rfl,e1,h⟩:=trodAll_cons h;obtain⟨v2,_,d2,_,p2,_,rfl,rfl,rfl,e2,h⟩:=trodAll_cons h;obtain⟨v3,_,d3,_,p3,_,rfl,rfl,rfl,e3,h⟩:=trodAll_cons h;obtain⟨v4,_,d4,_,p4,_,rfl,rfl,rfl,e4,h⟩:=trodAll_cons h;obtain⟨v5,_,d5,_,p5,_,rfl,rfl,rfl,e5,h⟩:=trodAll_cons h;obtain⟨rfl,rfl,rfl⟩:=trodAll_nil h;exact⟨v0,v1,v2,v3,v4,v5,d0,d1,d2,d3,d4,d5,p0,p1,p2,p3,p4,p5,by cases args;simp_all,rfl,by simp,e0,e1,e2,e3,e4,e5⟩
def Ja{t0 t1 t2 t3 t4 t5:TypeId}{v0 v1 v2 v3 v4 v5:Value}{d0 d1 d2 d3 d4 d5:DataW H}{p0 p1 p2 p3 p4 p5:List MemPlace}(h0:DataW.Trod enc P w base spare held t0 v0 d0 p0)(h1:DataW.Trod enc P w base spare held t1 v1 d1 p1)(h2:DataW.Trod enc P w base spare held t2 v2 d2 p2)(h3:DataW.Trod enc P w base spare held t3 v3 d3 p3)(h4:DataW.Trod enc P w base spare held t4 v4 d4 p4)(h5:DataW.Trod enc P w base spare held t5 v5 d5 p5):DataW.TrodAll enc P w base spare held [t0,t1,t2,t3,t4,t5] [v0,v1,v2,v3,v4,v5] [d0,d1,d2,d3,d4,d5] (p0++(p1++(p2++(p3++(p4++(p5)))))):=⟨p0,p1++(p2++(p3++(p4++(p5)))),h0,⟨p1,p2++(p3++(p4++(p5))),h1,⟨p2,p3++(p4++(p5)),h2,⟨p3,p4++(p5),h3,⟨p4,p5,h4,trodAll_mk1 h5,rfl⟩,rfl⟩,rfl⟩,rfl⟩,rfl⟩
end
end Go.Proofs.YtjiejanfnnieaaaGreat
namespace Go.Proofs
open Go.Ev
set_option maxRecDepth 100000
def D0{c:List aM}{dmg:bu}:∀(l:List br) (i:Nat) (s:List ak),(lB c dmg i l s).2.2=(Kn true c dmg l s).2
 | [],_,_=>rfl
 | e::r,i,s=>by
  rw[lB,Kn];split
  ·split
   ·rename_i h;rw[ut ⟨rfl,h⟩];exact D0 r _ _
   ·rename_i h;rw[v6 λk=>h k.2];exact D0 r _ _
  ·rfl
variable{c:List aM}
def JU(hc:oJ c=true):dM c []=true:=by unfold dM;rw[hc];rfl
def Mu{dmg:bu}{l:List br}{day:Int}(hl:l.length<=20000)(h0:(runN c dmg l day).2.2=0):dM c (runN c dmg l day).1=true:=by
 have key:∀(l:List br) (s:List ak),dM c s=true->s.length+l.length<=20000->(Kn true c dmg l s).2=0->dM c (Kn true c dmg l s).1=true:=by
  intro l
  induction l with
  | nil=>exact λs h _ _=>h
  | cons e l ih=>
   intro s hs hl h;rw[i7] at hl;rw[Kn] at h ⊢;split at h
   ·rename_i k;obtain⟨n1,n2⟩:=Q0 (u:=true) (dmg:=dmg) i4 k;rw[ut k];exact ih _ n1 i4 h
   ·rename_i k;exact un h k
 unfold runN at h0 ⊢;split at h0;rotate_left
 ·exact un h0 g9
 rename_i hv;rw[ut hv,I3];rw[D0] at h0;rw[ax] at hv;have:=xY l (eV day);exact key _ _ (JU hv.1) (by rw[i5];omega) h0
def OM(L:List aw):(qU L).length<=L.length:=by
 unfold qU;rw[aS];have:=yV L [];simpa using this
def Im{dmg:bu}{b:dS}{l:List br}{vehicle:List Nat}{day:Int}(hb:sD b)(hl:l.length<20)(hle:∀e∈l,lY e):(jl c dmg b l vehicle day).length<=10000:=by
 have hpl:(runN c dmg l day).1.length<=20:=a7 (vO hle) i4;unfold jl;split
 ·exact md rfl
 ·rename_i v _;split
  ·exact md rfl
  ·rw[(fV _).length_eq];refine a7 (OM _) ?_;unfold qK;have hil:=kG (runN c dmg l day).1 vehicle;generalize eb (runN c dmg l day).1 vehicle=I at hil;rw[li,li,aS,ct];have q1:=xD c b l (runN c dmg l day).1 day v;have q2:=a9 (λh:gN=>decide (h.vehicle=vehicle)&&se h) b.holds;have h1:=hb.lr;have h2:=hb.lc;have h3:=hb.ld;have h4:=hb.lh
   have q3:∀J:List (List Nat),(J.map λn=>(nz c b l (runN c dmg l day).1 day (da (runN c dmg l day).1 n)).length).sum<=J.length*301:=by
    intro J
    induction J with
    | nil=>exact aa _
    | cons n J ih=>
     have q:=xD c b l (runN c dmg l day).1 day (da (runN c dmg l day).1 n);rw[bb,d7,i7];omega
   have:=q3 I;omega
end Go.Proofs
namespace Go.Ev
noncomputable section
section
variable {P:Program} {ro:Option Nat}
mutual
def U7:∀v:SV,∃M,∀o,M<=o->names o v=false
 | .ptr p _=>⟨p+1,λo h=>by rw[names];exact wd i4⟩
 | .map p=>⟨p+1,λo h=>by rw[names];exact wd i4⟩
 | .buf p _ _ _=>⟨p+1,λo h=>by rw[names];exact wd i4⟩
 | .sub p _ _ _ _=>⟨p+1,λo h=>by rw[names];exact wd i4⟩
 | .ag cs=>(N6 cs).imp λM h o k=>by rw[names];exact h o k
 | .cx cs=>(N6 cs).imp λM h o k=>by rw[names];exact h o k
 | .fn _ f c=>by
  obtain⟨M,h⟩:=N6 f;obtain⟨N,k⟩:=N6 c;exact⟨M+N,λo q=>by rw[names,h o i4,k o i4];rfl⟩
 | .iface _ v=>(U7 v).imp λM h o k=>by rw[names];exact h o k
 | .any=>⟨0,λ_ _=>rfl⟩
 | .a _=>⟨0,λ_ _=>rfl⟩
 | .sl ..=>⟨0,λ_ _=>rfl⟩
 | .im ..=>⟨0,λ_ _=>rfl⟩
 | .ip ..=>⟨0,λ_ _=>rfl⟩
 | .e0 ..=>⟨0,λ_ _=>rfl⟩
def N6:∀l:List SV,∃M,∀o,M<=o->eI o l=false
 | []=>⟨0,λ_ _=>rfl⟩
 | v::l=>by
  obtain⟨M,h⟩:=U7 v;obtain⟨N,k⟩:=N6 l;exact⟨M+N,λo q=>by rw[eI,h o i4,k o i4];rfl⟩
end
def QG(v:SV):∃M,∀o,M<=o->aP o v=v:=(U7 v).imp λM h o k=>by unfold aP;rw[h o k];rfl
def Dl{α:Type}(q:Nat->α->α)(hq:∀x,∃M,∀o,M<=o->q o x=x)(l:List α):∃M,∀o,M<=o->l.map (q o)=l:=by
 induction l with
 | nil=>exact⟨0,λ_ _=>rfl⟩
 | cons x l ih=>
  obtain⟨M,h⟩:=hq x;obtain⟨N,k⟩:=ih;exact⟨M+N,λo q=>by rw[bb,h o i4,k o i4]⟩
def S4(f:Fm):∃M,∀o,M<=o->dB o f=f:=Dl (λo p=>(p.1,aP o p.2)) (λp=>(QG p.2).imp λM h o k=>by rw[h o k]) f
def Ua(S:List SO):∃M,∀o,M<=o->dh o S=S:=Dl bW (λ
 | .cells cs=>(Dl aP QG cs).imp λM h o k=>by rw[bW,h o k]
 | .map ks vs b=>(Dl aP QG vs).imp λM h o k=>by rw[bW,h o k]
 | .iter m bs c pos=>(QG m).imp λM h o k=>by rw[bW,h o k]
 | .oR ..=>⟨0,λ_ _=>rfl⟩
 | .gone=>⟨0,λ_ _=>rfl⟩
 | .loop c ls p f=>(S4 f).imp λM h o k=>by rw[bW,h o k]
 | .mA _=>⟨0,λ_ _=>rfl⟩) S
section
variable {all:List Oper} {o:Oper} {f:Fm} {S:List SO} {n d:Nat} {ds:List jG} {K:ez->Prop} {m e:Nat} {c:Option Nat} {cs:List SV}
def aN.lay(hst:dg all n [o]=true)(hdst:o.dst=some d)(hw:bT all f o.guard=some true)(hop:∀S2,dk P f S2 o.op=some (.buf S2.length m e c,eJ S2 (.cells cs),some S2.length))(hcs:cj cs=true)(hlen:cs.length=m*e)
 (hK:aN P ro all [] ⟨(d,.sl m e cs)::f,n,S,ds⟩ K):aN P ro all [o] ⟨f,n,S,ds⟩ K:=by
 obtain⟨A,hA⟩:=S4 f;obtain⟨B,hB⟩:=Ua S;obtain⟨T,hT⟩:∃T,T=S++dt (A+B) SO.gone:=⟨_,rfl⟩
 have hM:T.length=S.length+(A+B):=by rw[hT];simp
 have hTS:∀(p:Nat) (s:SO),T[p]?=some s->s≠.gone->S[p]?=some s:=by
  intro p s h1 h2;rw[hT,cn] at h1;split at h1
  ·exact h1
  ·rw[cd] at h1;split at h1
   ·cases h1;exact un rfl h2
   ·cases h1
 have hN:eJ T (.cells cs)=T++[.cells cs]:=by
  have h1:dh T.length T=T:=by
   rw[hT];unfold dh;rw[bi,cv,show S.map (bW _)=S from hB _ (by rw[<-hT,hM];omega)];rfl
  rw[eJ,h1,bW,bV hcs]
 refine aN.fg (Fg.sub (S':=T) hTS) (aN.r1 hst hdst hw (hop _) ?_);rw[hN];show aN P ro all [] ⟨(d,.buf T.length m e c)::dB T.length f,n,T++[.cells cs],ds⟩ K;rw[hA _ i4]
 have hat:(T++[SO.cells cs])[T.length]?=some (.cells cs):=by rw[List.getElem?_append_right (aa _),Nat.sub_self];rfl
 refine aN.fg (Fg.Km (f':=(d,.sl m e cs)::f) T.length hat gt λj=>?_) (aN.fg (Fg.sub (S':=S) λp s h1 h2=>?_) hK)
 ·show(if d=j then _ else aO f j)=(if d=j then _ else aO f j)\/Wk _ (if d=j then _ else aO f j) (if d=j then _ else aO f j);by_cases h:d=j
  ·rw[ut h,ut h];exact .inr (.buf (PA _ _) (by rw[aW (by rw[hlen];exact aa _)];exact cA.refl hcs) (by rw[hlen];exact aa _))
  ·rw[v6 h,v6 h];exact .inl rfl
 ·have hp:=bo h1;rw[List.getElem?_set_ne i4,bc i4,hT,bc hp];exact h1
def aN.U9(hst:dg all n [o]=true)(hdst:o.dst=some d)(hw:bT all f o.guard=some true)(hop:∀S2,dk P f S2 o.op=some (.buf S2.length 0 e (some 0),eJ S2 (.cells []),some S2.length))(hK:K ⟨(d,.e0 e)::f,n,S,ds⟩):aN P ro all [o] ⟨f,n,S,ds⟩ K:=by
 obtain⟨A,hA⟩:=S4 f;obtain⟨B,hB⟩:=Ua S;obtain⟨T,hT⟩:∃T,T=S++dt (A+B) SO.gone:=⟨_,rfl⟩
 have hM:T.length=S.length+(A+B):=by rw[hT];simp
 have hTS:∀(p:Nat) (s:SO),T[p]?=some s->s≠.gone->S[p]?=some s:=by
  intro p s h1 h2;rw[hT,cn] at h1;split at h1
  ·exact h1
  ·rw[cd] at h1;split at h1
   ·cases h1;exact un rfl h2
   ·cases h1
 have hN:eJ T (.cells [])=T++[.cells []]:=by
  have h1:dh T.length T=T:=by
   rw[hT];unfold dh;rw[bi,cv,show S.map (bW _)=S from hB _ (by rw[<-hT,hM];omega)];rfl
  rw[eJ,h1];rfl
 refine aN.fg (Fg.sub (S':=T) hTS) (aN.r1 hst hdst hw (hop _) ?_);rw[hN];show aN P ro all [] ⟨(d,.buf T.length 0 e (some 0))::dB T.length f,n,T++[.cells []],ds⟩ K;rw[hA _ i4];refine aN.fg (Fg.e0 d e (.inr ⟨_,ut rfl⟩)) (aN.fg (Fg.tmps (f':=(d,.e0 e)::f) λj=>.inl ?_) (aN.fg (Fg.sub (S':=S) λp s h1 h2=>?_) (.nil hK)))
 ·show(if d=j then _ else _)=(if d=j then _ else if d=j then _ else _);by_cases h:d=j
  ·rw[ut h,ut h]
  ·rw[v6 h,v6 h,v6 h]
 ·have hp:=bo h1;rw[bc i4,hT,bc hp];exact h1
end
section
variable {f':Fm} {S':List SO} {G:List Nat} {all:List Oper} {ms:List Nat} {n:Nat} {b:Bool} {hp:List Nat} {l:List (Nat×Oper)} {f:Fm} {S:List SO} {K:Fm->List SO->Prop} {i:Nat} {o:Oper} {d:Nat} {f0:Fm} {kl:List (Nat×Nat)} {m e:Nat} {cs:List SV} {c:Option Nat}
def gF.gb(hst:dg all n [o]=true)(hdst:o.dst=some d)(hw:bT all f o.guard=some true)(hG:G.contains i=true)(hch:sN o.op=true)(hop:∀S2,dk P f S2 o.op=some (.buf S2.length m e c,eJ S2 (.cells cs),some S2.length))(hcs:cj cs=true)(hlen:cs.length=m*e):
 gF G P ro all ms n f0 kl b hp l ((d,.sl m e cs)::f) S K->gF G P ro all ms n f0 kl b hp ((i,o)::l) f S K:=
 .g hst hdst hw hG (λ_=>rfl) λf2 S2 ds K h1 h2 h3 hK=>.lay h1 hdst h2 (λS3=>by rw[ng (by rw[hch,d9]) h3];exact hop S3) hcs hlen (.nil hK)
def gF.g0(hst:dg all n [o]=true)(hdst:o.dst=some d)(hw:bT all f o.guard=some true)(hG:G.contains i=true)(hch:sN o.op=true)(hop:∀S2,dk P f S2 o.op=some (.buf S2.length 0 e (some 0),eJ S2 (.cells []),some S2.length)):
 gF G P ro all ms n f0 kl b hp l ((d,.e0 e)::f) S K->gF G P ro all ms n f0 kl b hp ((i,o)::l) f S K:=
 .g hst hdst hw hG (λ_=>rfl) λf2 S2 ds K h1 h2 h3 hK=>.U9 h1 hdst h2 (λS3=>by rw[ng (by rw[hch,d9]) h3];exact hop S3) hK
end
end
end
end Go.Ev
namespace Go.Proofs
open Go.Ev
set_option maxRecDepth 100000
def Ct{x:aw}:∀{l:List aw} {k:Nat},(∀y∈l.take k,sd y x=true)->(∀y,l[k]?=some y->sd y x=false)->gx x l=if l[k]?=some x then l else l.take k++x::l.drop k
 | [],k,_,_=>by simp[gx]
 | y::l,0,_,h=>by
  rw[gx,v6 (by rw[h y rfl];exact ca)];simp only[cc,qr];rfl
 | y::l,k+1,h1,h2=>by
  rw[gx,ut (h1 y bw),Ct (k:=k) (λy hy=>h1 y (ba _ hy)) λy hy=>h2 y hy];simp only[cb,List.take_succ_cons,List.drop_succ_cons,cons_append];split<;>rfl
def RP{S:List SO}{o n:Nat}{q:List aw}(hS:S[o]?=some (.cells (q.flatMap ai)))(hn:q.length=n):Wk S (.buf o n 3 none) (ao 3 q ai):=by
 subst hn;rw[qf];exact .buf hS (by rw[dU (enc:=ai) (e:=3) gc];exact cA.refl (aC bQ q)) (by rw[aU (enc:=ai) (e:=3) gc];exact aa _)
def Le{p:Prop}(h:p:=by refine RP ?_ ?_;simp only[List.getElem?_cons_succ,List.getElem?_cons_zero,List.flatMap_append,List.flatMap_cons,List.flatMap_nil,List.append_nil,ai,List.append_assoc,List.cons_append,List.nil_append,hk0,hnil,List.take_zero];(first | (simp only[li,i7,i5,List.length_drop,hln];done) | (simp only[li,i7,i5,List.length_drop,hln];omega))):p:=h
def U3(x:aw){l:List aw}{k:Nat}(hln:(l.take k).length=k):(∀o:Nat,((l.take k).flatMap ai++[ab x.kind,ah x.part,ah x.name]).map (aP o)=(l.take k).flatMap ai++[ab x.kind,ah x.part,ah x.name])/\
 ((l.flatMap ai).drop (k*3)).take ((l.length-k)*3)=(l.drop k).flatMap ai/\((l.drop k).flatMap ai).all eP=true/\(∀o:Nat,((l.drop k).flatMap ai).map (aP o)=(l.drop k).flatMap ai)/\
 ((l.take k).flatMap ai++[ab x.kind,ah x.part,ah x.name]).length=(k+1)*3/\((l.take k).flatMap ai++[ab x.kind,ah x.part,ah x.name]).take ((k+1)*3)=(l.take k).flatMap ai++[ab x.kind,ah x.part,ah x.name]/\
 ∀o:Nat,((l.take k).flatMap ai++[ab x.kind,ah x.part,ah x.name]++(l.drop k).flatMap ai).map (aP o)=(l.take k).flatMap ai++[ab x.kind,ah x.part,ah x.name]++(l.drop k).flatMap ai:=by
 have hkl:∀o:Nat,((l.take k).flatMap ai).map (aP o)=(l.take k).flatMap ai:=λo=>bp (enc:=ai) bQ o (l.take k)
 have hfl:((l.take k).flatMap ai).length=k*3:=by rw[aU (enc:=ai) (e:=3) gc,hln]
 have hck:∀o:Nat,((l.take k).flatMap ai++[ab x.kind,ah x.part,ah x.name]).map (aP o)=(l.take k).flatMap ai++[ab x.kind,ah x.part,ah x.name]:=λo=>by rw[bi,hkl];rfl
 have hdk:=λo:Nat=>bp (enc:=ai) bQ o (l.drop k)
 have hcl:((l.take k).flatMap ai++[ab x.kind,ah x.part,ah x.name]).length=(k+1)*3:=by rw[li,hfl];show k*3+3=_;omega
 refine⟨hck,?_,xW _,hdk,hcl,aW (by rw[hcl];exact aa _),λo=>by rw[bi,hck,hdk]⟩;rw[mR (enc:=ai) (e:=3) gc,aW (by rw[aU (enc:=ai) (e:=3) gc,ci];exact aa _)]
def po(l:List aw)(x:aw)(hl:l.length<=900000):PC prog 21 [ao 3 l ai,.ag (ai x)] (·=ao 3 (gx x l) ai):=by
 have hbef:=λy:aw=>D7 y x
 have hlen:l.length<=1000000:=by omega
 refine pB 45 Tryz.func21 ?_;refine(aB @ai.eq_1) ?_;refine zZ [(0,ao 3 l ai),(3,.ip (ai x))] 0 rfl (gE (bm @ao.eq_1 @ai.eq_1))<|zA [(0,ao 3 l ai),(3,.ip (ai x))] [] zH<|(zV)<|(zs) ?_;refine zL l (λk=>∀y∈l.take k,sd y x=true) (λk=>[(0,ao 3 l ai),(3,.ip (ai x)),(5,ab k)]) (λk=>[]) zH (by exact λy h=>un h ge) ?_;intro k hk hall
 have hsplit:=Ct (l:=l) (x:=x) hall
 have hln:(l.take k).length=k:=by rw[bt];omega
 have hft:(l.flatMap ai).take (k*3)=(l.take k).flatMap ai:=gX (enc:=ai) (e:=3) gc l k;have hon:((l.take k).flatMap ai).all eP=true:=xW _;have hkl:∀o:Nat,((l.take k).flatMap ai).map (aP o)=(l.take k).flatMap ai:=λo=>bp (enc:=ai) bQ o (l.take k)
 have hfl:((l.take k).flatMap ai).length=k*3:=by rw[aU (enc:=ai) (e:=3) gc,hln]
 have hfa:((l.take k).flatMap ai).take (k*3)=(l.take k).flatMap ai:=aW (by rw[hfl];exact aa _)
 have hk6:k<=1000000:=by omega
 obtain⟨hck,hdt,hdo,hdk,hcl,hct,hcd⟩:=U3 x (l:=l) hln;by_cases hlt:k<l.length
 ·obtain⟨y,hx⟩:∃y,l[k]?=some y:=⟨l[k],jp hlt⟩
  have hd:=show decide ((k:Int)<(l.length:Int))=true by simp only[wp];omega
  have hby:=hbef y;rw[hx] at hsplit;simp only[qr,forall_eq'] at hsplit;refine(zs) ?_;refine nw [0,0,2,7,15,31,31,127,255,31,1023,2047] ?_;cases hbf:sd y x;rotate_left
  ·rw[hbf] at hby
   refine(HW (fk hd hlt (aL (e:=3) (enc:=ai) gc hx) @ai.eq_1)) ?_;refine SD.k ii rfl rfl ii rfl rfl (yc @ai.eq_1) (hby) (zw) rfl ?_;refine(qx)<|(zM)<|(fw)<|(zs) ?_;refine aE.r0 ii (pz (BM (Iv hlt hlen g9))) ?_;refine⟨l.length-(k+1),_,by omega,(Fg.less UY Wu),k+1,by omega,rfl,(by rw[cq hx];intro z hz;rcases List.mem_append.1 hz with h | h;exact hall z h;rw[List.mem_singleton] at h;rw[h];exact hbf),rfl⟩
  rw[hbf] at hby;have hsplit:=hsplit hbf
  refine(HW (fk hd hlt (aL (e:=3) (enc:=ai) gc hx) @ai.eq_1)) ?_;refine SD.k ii rfl rfl ii rfl rfl (yc @ai.eq_1) (hby) (zw) rfl ?_;refine(qx)<|(zM)<|(fo) ?_
  simp only[ea,cz,bI,bx,if_true];refine zA [(0,ao 3 l ai),(3,.ip (ai x)),(5,ab k)] [] zH ?_;have heq:=AH y x;refine(zs) ?_;refine nw [0,0,2,7,15,31,31,127,255,31,1023,2047] ?_;cases he:decide (y=x);rotate_left
  ·rw[he] at heq;rw[ut (ww he)] at hsplit;rw[hsplit]
   exact(HW (kY hd hlt (aL (e:=3) (enc:=ai) gc hx) @ai.eq_1 heq))<|(zM)<|(cK)<|zo [.tmp 4]
  rw[he] at heq;rw[v6 (wt he)] at hsplit;rw[hsplit]
  refine(HW (kY hd hlt (aL (e:=3) (enc:=ai) gc hx) @ai.eq_1 heq))<|(zM)<|(zN)<|zA [(0,ao 3 l ai),(3,.ip (ai x)),(5,ab k)] [] zH ?_
  have hnil:l.drop k=[]\/True:=.inr trivial;by_cases hk0:k=0
  ·refine(zs) ?_;refine aE.yC [0,6] (ms:=[0,0,0,6,15,0,32,127,0,0,768,2047,4095]) rfl zW zW ?_;refine gF.g0 ii rfl ii ii ii (by intro S_;simp only[cY,bP,ao,aF,m7,m6,↓reduceIte,ac,ad,ay,am,ap,aq,aA,bD];first | done | rfl) ?_;refine(B7 (cJ (SM hk) @ck hft))<|(UP (fk hkl hon hk6 (eq_true hk0)))<|(B7 @ai.eq_1) ?_;refine gF.gb (m:=1) (e:=3) (c:=some 1) (cs:=[ab x.kind,ah x.part,ah x.name]) ii rfl ii ii ii (by intro S_;simp only[cY,bP,ao,aF,m7,m6,↓reduceIte,ac,ad,ay,am,ap,aq,aA,bD];first | done | rfl) ii ii ?_;exact(R9 [41,0,42,5,43] (cJ @d8 @take_zero.{0} @nil_append.{0}))<|(B7 (Lm hk))<|(R9 [] (bm (Lx hkl hfa hfl hdt (show ¬l.length-k=0 by omega) (show l.length-k<=1000000 by omega) (show(0+1)<=1000000 by omega) hdo hdk) (kY hcl hct hck hcd @aa)))<|(kR)<|(kN)<|zo [.tmp 4] (r:=ao 3 (l.take k++x::l.drop k) ai) (hw:=Le)
  ·refine(zs) ?_;refine aE.yC [0,6] (ms:=[0,0,0,6,15,0,32,127,0,0,768,2047,4095]) rfl zW zW ?_;refine gF.g0 ii rfl ii ii ii (by intro S_;simp only[cY,bP,ao,aF,m7,m6,↓reduceIte,ac,ad,ay,am,ap,aq,aA,bD];first | done | rfl) ?_;refine(B7 (cJ (SM hk) @ck hft))<|(R9 [38,3,39,41,0,42,5,43] (vc hkl hon hk6 hk0 hft (show 0<k by omega)))<|(B7 @ai.eq_1) ?_;refine gF.gb (m:=1) (e:=3) (c:=some 1) (cs:=[ab x.kind,ah x.part,ah x.name]) ii rfl ii ii ii (by intro S_;simp only[cY,bP,ao,aF,m7,m6,↓reduceIte,ac,ad,ay,am,ap,aq,aA,bD];first | done | rfl) ii ii ?_;exact(R9 [41,0,42,5,43] (vc hkl hfa hfl hk6 hck @aa))<|(B7 (Lm hk))<|(R9 [] (bm (Lx hkl hfa hfl hdt (show ¬l.length-k=0 by omega) (show l.length-k<=1000000 by omega) (show(k+1)<=1000000 by omega) hdo hdk) (kY hcl hct hck hcd @aa)))<|(kR)<|(kN)<|zo [.tmp 4] (r:=ao 3 (l.take k++x::l.drop k) ai) (hw:=Le)
 have hke:k=l.length:=by omega
 have hnil:l.drop k=[]:=ch i4
 have hd:=show decide ((k:Int)<(l.length:Int))=false by simp only[wn];omega
 rw[List.getElem?_eq_none i4] at hsplit
 have hsplit:=hsplit nofun
 rw[v6 gt] at hsplit;rw[hsplit]
 refine(zs) ?_;refine nw [0,0,2,7,15,31,31,127,255,31,1023,2047] ?_;refine(HW hd)<|(zM)<|(fo) ?_
 simp only[ea,cz,bI,bx,if_true]
 refine zA [(0,ao 3 l ai),(3,.ip (ai x)),(5,ab k)] [] zH<|(zs) ?_;refine nw [0,0,2,7,15,31,31,127,255,31,1023,2047] ?_;refine(HW hd)<|(zM)<|(zN)<|zA [(0,ao 3 l ai),(3,.ip (ai x)),(5,ab k)] [] zH ?_
 by_cases hk0:k=0
 ·rw[hk0] at hnil
  refine(zs) ?_;refine aE.yC [0,6] (ms:=[0,0,0,6,15,0,32,127,0,0,768,2047,4095]) rfl zW zW ?_;refine gF.g0 ii rfl ii ii ii (by intro S_;simp only[cY,bP,ao,aF,m7,m6,↓reduceIte,ac,ad,ay,am,ap,aq,aA,bD];first | done | rfl) ?_;refine(B7 (cJ (SM hk) @ck hft))<|(UP (fk hkl hon hk6 (eq_true hk0)))<|(B7 @ai.eq_1) ?_;refine gF.gb (m:=1) (e:=3) (c:=some 1) (cs:=[ab x.kind,ah x.part,ah x.name]) ii rfl ii ii ii (by intro S_;simp only[cY,bP,ao,aF,m7,m6,↓reduceIte,ac,ad,ay,am,ap,aq,aA,bD];first | done | rfl) ii ii ?_;exact(R9 [41,0,42,5,43] (cJ @d8 @take_zero.{0} @nil_append.{0}))<|(B7 (Lm hk))<|(UP (kY hkl hfa hfl (show l.length-k=0 by omega) (show(0+1)<=1000000 by omega)))<|(kR)<|(kN)<|zo [.tmp 4] (r:=ao 3 (l.take k++x::l.drop k) ai) (hw:=Le)
 ·refine(zs) ?_;refine aE.yC [0,6] (ms:=[0,0,0,6,15,0,32,127,0,0,768,2047,4095]) rfl zW zW ?_;refine gF.g0 ii rfl ii ii ii (by intro S_;simp only[cY,bP,ao,aF,m7,m6,↓reduceIte,ac,ad,ay,am,ap,aq,aA,bD];first | done | rfl) ?_;refine(B7 (cJ (SM hk) @ck hft))<|(R9 [38,3,39,41,0,42,5,43] (vc hkl hon hk6 hk0 hft (show 0<k by omega)))<|(B7 @ai.eq_1) ?_;refine gF.gb (m:=1) (e:=3) (c:=some 1) (cs:=[ab x.kind,ah x.part,ah x.name]) ii rfl ii ii ii (by intro S_;simp only[cY,bP,ao,aF,m7,m6,↓reduceIte,ac,ad,ay,am,ap,aq,aA,bD];first | done | rfl) ii ii ?_;exact(R9 [41,0,42,5,43] (vc hkl hfa hfl hk6 hck @aa))<|(B7 (Lm hk))<|(UP (kY hkl hfa hfl (show l.length-k=0 by omega) (show(k+1)<=1000000 by omega)))<|(kR)<|(kN)<|zo [.tmp 4] (r:=ao 3 (l.take k++x::l.drop k) ai) (hw:=Le)
def jY(xs:List aw):∀l:List aw,(gJ l xs).length<=l.length+xs.length:=by
 have one:∀(x:aw) (l:List aw),(gx x l).length<=l.length+1:=by
  intro x l
  induction l with
  | nil=>exact aa _
  | cons y l ih=>
   rw[gx];split
   ·rw[i7,i7];omega
   ·split
    ·omega
    ·rw[i7];exact aa _
 induction xs with
 | nil=>exact λl=>aa _
 | cons x xs ih=>
  intro l;have h1:=ih (gx x l);have h2:=one x l;show(gJ (gx x l) xs).length<=_;rw[i7];omega
def Cu(l xs:List aw)(x:aw):gJ l (xs++[x])=gx x (gJ l xs):=by
 unfold gJ;rw[dc];rfl
def NQ{n:Nat}(h:n<256):lf prog 5 3 (.int .u8 (n:Int))=some (.int .i64 (n:Int)):=by
 have h1:prog.underlying 3=some (.int .i64):=by kernel_rfl
 have h2:prog.underlying 5=some (.int .u8):=by kernel_rfl
 unfold lf;rw[h1,h2];simp only;unfold dO
 rw[show(sj (L4 .i64) (n:Int)&&sj (n:Int) (LU .i64))=true by
  simp only[ax,gh,wp,L4,LU]
  omega]
 rfl
def Pe{P:Program}{t:TypeId}{a b:Nat}(h:0<b):c8 P .rem t (.int .i64 (a:Int)) (.int .i64 (b:Int))=some (.int .i64 ((a%b:Nat):Int)):=by
 rw[Qj i4];rfl
def FX{ps:List ak}(ho:eu (ps.map ak.name)=true){part x:List Nat}(h:x∈eb ps part):∃p,bE ps x=some p:=by
 unfold eb at h;split at h
 ·have h:=ou _ x ((qo _).mem_iff.1 h);rw[Cx ho] at h;unfold F0 at h;rw[List.map_map] at h;obtain⟨p,hp,rfl⟩:=List.mem_map.1 h;exact⟨p,jv ho (List.mem_filter.1 hp).1⟩
 ·cases h
def Ac{α:Type}{w0:List aw}{q:α->Bool}{g:α->aw}{l:List α}{k:Nat}{r:α}(h:l[k]?=some r):gJ w0 (((l.take (k+1)).filter q).map g)=if q r=true then gx (g r) (gJ w0 (((l.take k).filter q).map g)) else gJ w0 (((l.take k).filter q).map g):=by
 rw[cq h,bv,b6,filter_nil];split
 ·rw[bi,bb,map_nil,Cu]
 ·rw[bh]
def uc(l a b:List aw):gJ l (a++b)=gJ (gJ l a) b:=by
 unfold gJ;rw[dc]
def rD{α:Type}(q:α->Bool)(g:α->aw)(l:List α)(k:Nat):(((l.take k).filter q).map g).length<=l.length:=by
 rw[aS];exact a7 (a9 _ _) (by rw[bt];omega)
def LP{l:List aw}{q:aw->Bool}{k:Nat}{x:aw}(h:l[k]?=some x):(l.take (k+1)).filter q=(l.take k).filter q++if q x=true then [x] else []:=by
 rw[cq h,bv,b6,filter_nil]
def NP{l:List Int}{q:Int->Bool}{k:Nat}{x:Int}(h:l[k]?=some x):((l.take (k+1)).filter q).length=((l.take k).filter q).length+if q x=true then 1 else 0:=by
 rw[cq h,bv,b6,filter_nil,li];split<;>rfl
def PY(v:List Nat)(I:List (List Nat)):Wk (jB 2 (.cells (ah v::I.flatMap (aD ah)))) (.buf 2 (1+I.length) 1 none) (ao 1 (v::I) (aD ah)):=by
 rw[Nat.add_comm 1 I.length,qf];show Wk _ (.buf 2 (v::I).length 1 none) _;exact .buf (cs:=(v::I).flatMap (aD ah)) rfl (by rw[dU (enc:=aD ah) (e:=1) gc];exact cA.refl (aC (λ_=>rfl) _)) (by rw[aU (enc:=aD ah) (e:=1) gc];exact aa _)
def Ub(vehicle:List Nat)(h:gN):Bool:=decide (h.vehicle=vehicle)&&se h
abbrev rI(c:List aM)(dmg:bu)(b:dS)(l:List br)(vehicle:List Nat)(day:Int)(R:List aw)(ps:List ak)(p:ak):Fm:=[(2,ao 14 l au),(3,ah vehicle),(4,ab day),(6,.ip (ao 3 c ar::aG dmg)),(7,.ip (aJ b)),(13,an true),(14,ao 3 R ai),(15,.ip [ao 14 ps ae]),(19,ah p.name),(20,.ip (ae p))]
abbrev rJ(c:List aM)(dmg:bu)(b:dS)(l:List br)(vehicle:List Nat)(day:Int):Fm:=[(2,ao 14 l au),(3,ah vehicle),(4,ab day),(6,.ip (ao 3 c ar::aG dmg)),(7,.ip (aJ b))]
def Bx(c:List aM)(dmg:bu)(b:dS)(l:List br)(vehicle:List Nat)(day:Int)(raw:Nat)(hraw:raw<256)(ha:M6 c dmg l)(hb:rk b):
 PC prog 5 [.ag (ao 3 c ar::aG dmg),.ag (aJ b),ao 14 l au,ah vehicle,ab day,.a (.int .u8 (raw:Int))] (·=an true):=by
 have hfl:(aG dmg).length=3:=e7 dmg;have hft:(aG dmg).take 3=aG dmg:=aW (by rw[hfl];exact aa _);have hfk:=λo:Nat=>bV (o:=o) (aX dmg);have hfn:=λo:Nat=>cm (o:=o) (aX dmg);have hfew:=Jm c dmg b l vehicle ha hb;have hok:=QH (c:=c) (dmg:=dmg) (b:=b) (l:=l) (v:=vehicle);generalize Ob c dmg b l vehicle=g at hfew hok
 refine pB 283 func5 ?_;refine(aB (cJ hfk hfn @aJ.eq_1)) ?_;refine zZ [(2,ao 14 l au),(3,ah vehicle),(4,ab day),(5,.a (.int .u8 (raw:Int))),(6,.ip (ao 3 c ar::aG dmg)),(7,.ptr 1 0)] 0 rfl ⟨.inl rfl,.inl rfl,.inl rfl,.inl rfl,.inr (.ptr rfl (cA.refl (aX dmg)) (a8 _)),.inl rfl,trivial⟩<|zZ ((5,.a (.int .u8 (raw:Int)))::rJ c dmg b l vehicle day) 1 rfl (gE (bm @ao.eq_1 @aJ.eq_1))<|zA ((5,.a (.int .u8 (raw:Int)))::rJ c dmg b l vehicle day) [] zH<|(zC)<|(zK Hd)<|(zR)<|(eQ (cJ hfl hft @aJ.eq_1))<|(zK hfew (hwk:=.cons (.ag (cA.refl (aX dmg))) zr)) ?_
 cases g
 ·exact(zR)<|(cK)<|zo [.tmp 12]
 obtain⟨hc,hf,hbo,hl,hle,hfe⟩:=hok rfl ha hb;have hof:=AN c dmg b l vehicle day hbo hc hf i4 hle;have hru:=AS c dmg l day hc hf i4 hle;have hpl:(runN c dmg l day).1.length<=20:=a7 (vO hle) i4;have hpr:∀p∈(runN c dmg l day).1,p.props.length<=1000000:=λp hp=>(Ag (c:=c) (dmg:=dmg) (day:=day) hle p hp).len;unfold Tp at hru;obtain⟨R,hR⟩:∃R,R=jl c dmg b l vehicle day:=⟨_,rfl⟩
 have hlR:R.length<=1000000:=by rw[hR];exact a7 (Im hbo i4 hle) g9
 rw[<-hR] at hof;have hlaw:=λv part=>GK (c:=c) (b:=b) (l:=l) (ps:=(runN c dmg l day).1) (vehicle:=vehicle) (day:=day) (v:=v) (part:=part);have hval:(runN c dmg l day).2.2=0->eu ((runN c dmg l day).1.map ak.name)=true:=λh0=>(rf (Mu i4 h0)).2.1;unfold jl at hR;generalize runN c dmg l day=rr at hru hpl hR hlaw hval hpr;have hfi:=λn=>gn rr.1 n i4;simp only[DS] at hfi
 refine(zR)<|(zN)<|(eQ (cJ hfl hft @aJ.eq_1))<|(zK hof (hwk:=.cons (.ag (cA.refl (aX dmg))) zr) (hfl:=.inr (.cons (.ag (cA.refl (aX dmg))) zr))) ?_
 have hin:=PH R ⟨4,vehicle,[]⟩ hlR;have hmem:=Oo (l:=R) (x:=⟨4,vehicle,[]⟩);generalize LS R ⟨4,vehicle,[]⟩=st at hin hmem
 refine(zR)<|(zC)<|(zK hin (hc:=yc @ai.eq_1) (hfl:=.inr zr)) ?_
 cases st;rotate_left
 ·exact(zR)<|(cK)<|zo [.tmp 12]
 obtain⟨v,hv,h0,hR⟩:∃v,bE rr.1 vehicle=some v/\rr.2.2=0/\R=gm (qU (qK c b l rr.1 vehicle day v)):=by
  have hno:¬(⟨4,vehicle,[]⟩:aw)∈R:=λh=>by cases hmem.2 h
  cases hm:bE rr.1 vehicle with
  | none=>
   rw[hm] at hR;exact un (by rw[hR];exact rx rfl) hno
  | some v=>
   rw[hm] at hR;simp only at hR;split at hR
   ·exact un (by rw[hR];exact rx rfl) hno
   ·rename_i hn;exact⟨v,rfl,Decidable.byContradiction λh=>hn (.inl h),hR⟩
 have hord:=hval h0;have hlaw:=λpart=>hlaw v part hord hv;rw[<-hR] at hlaw;clear hR hval hmem
 refine(zR)<|(zN)<|(eQ (bm hfl hft))<|(zK hru (hwk:=.cons (.ag (cA.refl (aX dmg))) zr) (hfl:=.inr (.cons (.ag (cA.refl (aX dmg))) zr)))<|(zR) ?_
 generalize rr.1=ps at *
 refine zZ ((15,.ip [ao 14 ps ae])::(5,.a (.int .u8 (raw:Int)))::(13,an true)::(14,ao 3 R ai)::rJ c dmg b l vehicle day) 0 rfl (gE @ao.eq_1)<|zA ((15,.ip [ao 14 ps ae])::(5,.a (.int .u8 (raw:Int)))::(13,an true)::(14,ao 3 R ai)::rJ c dmg b l vehicle day) [] zH ?_
 have hin:=oa ps vehicle i4;have hil:=kG ps vehicle;have hfind:=λx=>FX (part:=vehicle) (x:=x) hord;generalize eb ps vehicle=I at hin hil hfind hlaw;have hrc:∀(r:Nat->Nat) (l:List (List Nat)),mG r (l.flatMap (aD ah))=l.flatMap (aD ah):=λr l=>bl (aC (λ_=>rfl) l);have hbc:∀(B:Nat) (l:List (List Nat)),iy B (l.flatMap (aD ah))=true:=λB l=>bM (aC (λ_=>rfl) l);have hkc:∀(o:Nat) (l:List (List Nat)),(l.flatMap (aD ah)).map (aP o)=l.flatMap (aD ah):=λo l=>bp (enc:=aD ah) gc o l
 have hlI:I.length<=1000000:=by omega
 (repeat refine aE.seq ?_)
 refine aE.mono (Q:=λex st=>ex=.normal/\Fg st ⟨(18,ao 1 (vehicle::I) (aD ah))::(15,.ip [ao 14 ps ae])::(5,.a (.int .u8 (raw:Int)))::(13,an true)::(14,ao 3 R ai)::rJ c dmg b l vehicle day,283,[],[]⟩) ?_ ?_
 ·by_cases hL:I=[]
  ·subst hL;rw[show bY 0 1 ([]:List (List Nat)).length=bH from rfl,gw] at hin;refine(zC) ?_;refine zS [] trivial hin ?_;refine(zR) ?_;exact⟨rfl,Fg.trans (Fg.freeze (f':=(18,ao 1 [vehicle] (aD ah))::(15,.ip [ao 14 ps ae])::(5,.a (.int .u8 (raw:Int)))::(13,an true)::(14,ao 3 R ai)::rJ c dmg b l vehicle day) 0 rfl gt ⟨.inr (.buf rfl (cA.refl rfl) (aa _)),zj⟩) zH⟩
  ·have hL0:¬I.length=0:=λh=>hL (t8 h);have hfI:=aU (enc:=aD ah) (e:=1) gc I;have htI:=dU (enc:=aD ah) (e:=1) gc I
   have hoI:(I.flatMap (aD ah)).all eP=true:=by rw[List.all_flatMap];exact all_eq_true.2 λx _=>rfl
   rw[dQ (o:=0) (e:=1) hL0,fK hL] at hin;refine(zC) ?_;refine zS [] (cJ hrc hbc hkc) hin ?_;refine(cM (T1 hkc hfI htI hoI hL0 hlI @aa (show 1<1+I.length by omega))) ?_;exact⟨rfl,Fg.trans (Fg.freeze (f':=(18,ao 1 (vehicle::I) (aD ah))::(15,.ip [ao 14 ps ae])::(5,.a (.int .u8 (raw:Int)))::(13,an true)::(14,ao 3 R ai)::rJ c dmg b l vehicle day) 2 rfl gt ⟨.inr (PY vehicle I),zj⟩) zH⟩
 rintro _ _ ⟨rfl,hfg⟩;simp only[cz];refine aE.fg hfg ?_;clear hfg hin;have hmod:raw%(vehicle::I).length<(vehicle::I).length:=Nat.mod_lt _ (by rw[i7];omega);obtain⟨part,hpt⟩:∃part,(vehicle::I)[raw%(vehicle::I).length]?=some part:=⟨_,jp hmod⟩;have hpm:=al hpt
 obtain⟨p,hp⟩:∃p,bE ps part=some p:=by
  rcases t7 hpm with rfl | h
  ·exact⟨v,hv⟩
  ·exact hfind part h
 have hpn:=(gy hp).2;have hlaw:=hlaw part ((t7 hpm).imp id id);unfold Lc at hlaw;rw[Aa hp] at hlaw;have hfp:=hfi part;rw[hp] at hfp;clear hfi hfind hpm hp hv hil;subst hpn;have hek:ae p=[ah p.name,ah p.kind,ah p.aT,ah p.slot,ab p.made,ab p.since,an p.bq,ao 2 p.props aI,ab p.l1,ab p.l2,ab p.l3,ab p.l4,ab p.l5,ab p.l6]:=rfl;have hrem:=Pe (P:=prog) (t:=3) (a:=raw) (b:=(vehicle::I).length) (by rw[i7];omega)
 refine(aB (kY (NQ hraw) hrem hmod (aL (e:=1) (enc:=aD ah) gc hpt) @aD.eq_1))<|zA ((19,ah p.name)::(15,.ip [ao 14 ps ae])::(13,an true)::(14,ao 3 R ai)::rJ c dmg b l vehicle day) [] zH<|(zC)<|(zK hfp (hfl:=.inr zr)) ?_
 rw[show((some p).getD ak.zero)=p from rfl,show(some p).isSome=true from rfl]
 refine(cM hek) ?_;refine zZ ((21,an true)::rI c dmg b l vehicle day R ps p) 0 rfl (gE (bm @ao.eq_1 @ae.eq_1))<|zA ((21,an true)::rI c dmg b l vehicle day R ps p) [] (cg @ae.eq_1)<|(CP)<|(nD) ?_;refine aE.fg (Fg.wk (f':=(22,ao 3 ([]:List aw) ai)::(23,ab 0)::rI c dmg b l vehicle day R ps p) ⟨.inr (Wk.nil 3),zj⟩) ?_
 (try change aE _ _ _ _ _)
 have hlr:b.rules.length<=1000000:=a7 hbo.lr g9;have hlc:b.bF.length<=1000000:=a7 hbo.lc g9;have hlh:b.holds.length<=1000000:=a7 hbo.lh g9;have b1:=hbo.lr;have b2:=hbo.lc;have b3:=hbo.ld;have b4:=hbo.lh
 have hps:ps.length<=100000:=by omega
 rw[show nz c b l ps day p=((b.rules.filter (jz b ps day p)).map λr=>⟨1,p.name,r.name⟩)++(((b.bF.filter (eM ps day p)).map λr=>⟨5,p.name,r.name⟩)++((ic b.dE c l p.name day).map (λn=>⟨3,p.name,n⟩)++(if ie c b.fi ps p.name day=true then [] else [⟨2,p.name,p.slot⟩]))) from rfl,uc,uc,uc,uc] at hlaw;refine(zs) ?_;refine BF b.rules (λk (w:List aw)=>w=gJ [] (((b.rules.take k).filter (jz b ps day p)).map λr=>⟨1,p.name,r.name⟩)) (λk w=>(22,ao 3 w ai)::(23,ab k)::rI c dmg b l vehicle day R ps p) (λk w=>[]) ([]) zH ii ?_;intro k w hk hall;by_cases hlt:k<b.rules.length
 ·obtain⟨r,hx⟩:∃r,b.rules[k]?=some r:=⟨b.rules[k],jp hlt⟩;have hnx:=Ac (w0:=[]) (q:=jz b ps day p) (g:=λr:eR=>(⟨1,p.name,r.name⟩:aw)) hx;rw[<-hall] at hnx
  have hwl:w.length<=100:=by
   have h1:=jY (((b.rules.take k).filter (jz b ps day p)).map λr:eR=>(⟨1,p.name,r.name⟩:aw)) [];have h2:=rD (jz b ps day p) (λr:eR=>(⟨1,p.name,r.name⟩:aw)) b.rules k;rw[<-hall] at h1;rw[i5] at h1;omega
  have hput:=po w ⟨1,p.name,r.name⟩ i4;have hre:=eE r;have hh:=nZ ps r.cond p.name day hps hpr (hbo.fN r (al hx));rw[cf] at hh
  refine(aB (bm (show decide ((k:Int)<(b.rules.length:Int))=true by simp only[wp];omega) @aJ.eq_1))<|(fw)<|(aB (fk hlt (aL (e:=8) (enc:=cD) lk hx) hre @aJ.eq_1))<|zA ((24,.ptr 0 0)::(22,ao 3 w ai)::(23,ab k)::rI c dmg b l vehicle day R ps p) [.cells [ah r.name,ah r.kind,ab r.cond.op,ah r.cond.name,ah r.cond.value,ab r.cond.n,ab r.cond.extra,.sl r.cond.kids.length 6 (r.cond.kids.flatMap aV)]] zH ?_
  cases g1:decide (r.kind=p.kind)
  ·rw[v6 (by unfold jz;rw[g1];simp)] at hnx
   refine(aB (bm g1 @ae.eq_1))<|(zN)<|(aB (zi hlt hlr)) ?_;refine pw hlt (w) zH hnx.symm
  refine(eQ (bm g1 @ae.eq_1))<|(zK hh) ?_
  cases g3:decide (lK ps r.cond p.name day=2);rotate_left
  ·rw[v6 (by unfold jz;rw[g3];simp)] at hnx
   refine(cM g3)<|(zN)<|(aB (zi hlt hlr)) ?_;refine pw hlt (w) zH hnx.symm
  refine(MY (bm g3 @aJ.eq_1))<|(zK (uG b.mO p.name r.name day hbo.lx)) ?_
  cases g2:rC b.mO p.name r.name day;rotate_left
  ·rw[v6 (by unfold jz;rw[g2];simp)] at hnx
   refine(zR)<|(zN)<|(aB (zi hlt hlr)) ?_;refine pw hlt (w) zH hnx.symm
  rw[ut (by unfold jz;rw[g1,g2,g3];rfl)] at hnx
  refine(zR)<|(zY)<|(zC)<|(zK hput (hc:=yc @ai.eq_1) (hfl:=.inr zr))<|(zR)<|(aB (zi hlt hlr)) ?_;refine pw hlt (gx ⟨1,p.name,r.name⟩ w) zH hnx.symm
 obtain rfl:k=b.rules.length:=by omega
 rw[aj] at hall
 have hw1:w.length<=100:=by
  have h1:=jY ((b.rules.filter (jz b ps day p)).map λr:eR=>(⟨1,p.name,r.name⟩:aw)) [];have h2:=rD (jz b ps day p) (λr:eR=>(⟨1,p.name,r.name⟩:aw)) b.rules b.rules.length;rw[aj] at h2;rw[<-hall] at h1;rw[i5] at h1;omega
 rw[<-hall] at hlaw
 refine(aB (bm (show decide ((b.rules.length:Int)<(b.rules.length:Int))=false by simp) @aJ.eq_1))<|(fo) ?_
 simp only[ea,cz,bI,bx,if_true]
 (try change aE _ _ _ _ _)
 clear hall
 refine(zV)<|zA ((22,ao 3 w ai)::(25,ab 0)::rI c dmg b l vehicle day R ps p) [] zH<|(zs) ?_;refine BF b.bF (λk2 (w2:List aw)=>w2=gJ w (((b.bF.take k2).filter (eM ps day p)).map λr=>⟨5,p.name,r.name⟩)) (λk2 w2=>(22,ao 3 w2 ai)::(25,ab k2)::rI c dmg b l vehicle day R ps p) (λk2 w2=>[]) (w) zH ii ?_;intro k2 w2 hk2 hall2
 by_cases hlt2:k2<b.bF.length
 ·obtain⟨r,hx⟩:∃r,b.bF[k2]?=some r:=⟨b.bF[k2],jp hlt2⟩;have hnx:=Ac (w0:=w) (q:=eM ps day p) (g:=λr:eR=>(⟨5,p.name,r.name⟩:aw)) hx;rw[<-hall2] at hnx
  have hwl:w2.length<=200:=by
   have h1:=jY (((b.bF.take k2).filter (eM ps day p)).map λr:eR=>(⟨5,p.name,r.name⟩:aw)) w;have h2:=rD (eM ps day p) (λr:eR=>(⟨5,p.name,r.name⟩:aw)) b.bF k2;rw[<-hall2] at h1;omega
  have hput:=po w2 ⟨5,p.name,r.name⟩ i4;have hre:=eE r;have hh:=nZ ps r.cond p.name day hps hpr (hbo.vL r (al hx));rw[cf] at hh
  refine(aB (bm (show decide ((k2:Int)<(b.bF.length:Int))=true by simp only[wp];omega) @aJ.eq_1))<|(fw)<|(aB (fk hlt2 (aL (e:=8) (enc:=cD) lk hx) hre @aJ.eq_1))<|zA ((26,.ptr 0 0)::(22,ao 3 w2 ai)::(25,ab k2)::rI c dmg b l vehicle day R ps p) [.cells [ah r.name,ah r.kind,ab r.cond.op,ah r.cond.name,ah r.cond.value,ab r.cond.n,ab r.cond.extra,.sl r.cond.kids.length 6 (r.cond.kids.flatMap aV)]] zH ?_
  cases g1:decide (r.kind=p.kind)
  ·rw[v6 (by unfold eM;rw[g1];simp)] at hnx
   refine(aB (bm g1 @ae.eq_1))<|(zN)<|(aB (zi hlt2 hlc)) ?_;refine pw hlt2 (w2) zH hnx.symm
  refine(eQ (bm g1 @ae.eq_1))<|(zK hh) ?_
  cases g3:decide (lK ps r.cond p.name day=0);rotate_left
  ·rw[v6 (by unfold eM;rw[g3];simp)] at hnx
   refine(cM g3)<|(zN)<|(aB (zi hlt2 hlc)) ?_;refine pw hlt2 (w2) zH hnx.symm
  rw[ut (by unfold eM;rw[g1,g3];rfl)] at hnx
  refine(cM g3)<|(zY)<|(zC)<|(zK hput (hc:=yc @ai.eq_1) (hfl:=.inr zr))<|(zR)<|(aB (zi hlt2 hlc)) ?_;refine pw hlt2 (gx ⟨5,p.name,r.name⟩ w2) zH hnx.symm
 obtain rfl:k2=b.bF.length:=by omega
 rw[aj] at hall2
 have hw2:w2.length<=200:=by
  have h1:=jY ((b.bF.filter (eM ps day p)).map λr:eR=>(⟨5,p.name,r.name⟩:aw)) w;have h2:=rD (eM ps day p) (λr:eR=>(⟨5,p.name,r.name⟩:aw)) b.bF b.bF.length;rw[aj] at h2;rw[<-hall2] at h1;omega
 rw[<-hall2] at hlaw
 refine(aB (bm (show decide ((b.bF.length:Int)<(b.bF.length:Int))=false by simp) @aJ.eq_1))<|(fo) ?_
 simp only[ea,cz,bI,bx,if_true]
 (try change aE _ _ _ _ _)
 clear hall2;refine zA ((22,ao 3 w2 ai)::rI c dmg b l vehicle day R ps p) [] zH ?_;have hov:=AP b.dE c l p.name day hbo.NW (a7 hbo.ld g9) hc i4 hle;have hovl:(ic b.dE c l p.name day).length<=100:=a7 (z8 _ _ _ _ _) hbo.ld;have hpm:=qt c b.fi ps p.name day hc hbo.ls i4;generalize ic b.dE c l p.name day=ov at hov hovl hlaw;generalize ie c b.fi ps p.name day=pm at hpm hlaw
 have hlo:ov.length<=1000000:=by omega
 refine(eQ @aJ.eq_1)<|(zK hov (hfl:=.inr zr))<|(zR)<|(zV)<|(zs) ?_;refine BF ov (λk3 (w3:List aw)=>w3=gJ w2 ((ov.take k3).map λn=>⟨3,p.name,n⟩)) (λk3 w3=>(22,ao 3 w3 ai)::(27,ao 1 ov (aD ah))::(28,ab k3)::rI c dmg b l vehicle day R ps p) (λk3 w3=>[]) (w2) zH ii ?_;intro k3 w3 hk3 hall3
 by_cases hlt3:k3<ov.length
 ·obtain⟨n,hx⟩:∃n,ov[k3]?=some n:=⟨ov[k3],jp hlt3⟩
  have hwl:w3.length<=300:=by
   have h1:=jY ((ov.take k3).map λn=>(⟨3,p.name,n⟩:aw)) w2;rw[<-hall3,aS,bt] at h1;omega
  have hput:=po w3 ⟨3,p.name,n⟩ i4
  refine(aB (show decide ((k3:Int)<(ov.length:Int))=true by simp only[wp];omega))<|(fw)<|(eQ (cJ hlt3 (aL (e:=1) (enc:=aD ah) gc hx) @aD.eq_1))<|(zK hput (hc:=yc @ai.eq_1) (hfl:=.inr zr))<|(zR)<|(aB (zi hlt3 hlo)) ?_;refine pw hlt3 (gx ⟨3,p.name,n⟩ w3) zH (by rw[cq hx,bi,bb,map_nil,Cu,<-hall3])
 obtain rfl:k3=ov.length:=by omega
 rw[aj] at hall3
 have hw3:w3.length<=300:=by
  have h1:=jY (ov.map λn=>(⟨3,p.name,n⟩:aw)) w2;rw[<-hall3,aS] at h1;omega
 rw[<-hall3] at hlaw
 refine(aB (show decide ((ov.length:Int)<(ov.length:Int))=false by simp))<|(fo) ?_
 simp only[ea,cz,bI,bx,if_true]
 (try change aE _ _ _ _ _)
 clear hall3 hov;refine zA ((22,ao 3 w3 ai)::rI c dmg b l vehicle day R ps p) [] zH ?_;obtain⟨w4,hw4⟩:∃w4,w4=gJ w3 (if pm=true then [] else [⟨2,p.name,p.slot⟩]):=⟨_,rfl⟩
 have hl4:w4.length<=301:=by
  have h1:=jY (if pm=true then [] else [(⟨2,p.name,p.slot⟩:aw)]) w3;rw[<-hw4] at h1;split at h1
  ·rw[i5] at h1;omega
  ·rw[List.length_singleton] at h1;omega
 rw[<-hw4] at hlaw;have hput:=po w3 ⟨2,p.name,p.slot⟩ i4
 refine(eQ @aJ.eq_1)<|(zK hpm)<|(zR) ?_
 (repeat refine aE.seq ?_)
 refine aE.mono (Q:=λex st=>ex=.normal/\Fg st ⟨(22,ao 3 w4 ai)::rI c dmg b l vehicle day R ps p,283,[],[]⟩) ?_ ?_
 ·cases pm
  ·have hw4:w4=gx ⟨2,p.name,p.slot⟩ w3:=hw4;rw[<-hw4] at hput
   refine(zY)<|(eQ @ae.eq_1)<|(zK hput (hc:=yc @ai.eq_1) (hfl:=.inr zr))<|(zR) ?_;exact⟨rfl,zH⟩
  ·have hw4:w4=w3:=hw4;subst hw4;refine(zN) ?_;exact⟨rfl,zH⟩
 rintro _ _ ⟨rfl,hfg⟩;simp only[cz];refine aE.fg hfg ?_;clear hfg hput hpm hw4;obtain⟨hq,hhq⟩:∃hq:gN->Bool,hq=λh=>decide (p.name=vehicle)&&Ub vehicle h:=⟨_,rfl⟩
 have hheld:(if p.name=vehicle then Oq b vehicle else [])=(b.holds.filter hq).map λh=>⟨6,p.name,h.id⟩:=by
  subst hhq;by_cases e:p.name=vehicle
  ·rw[ut e];unfold Oq;rw[<-e];simp only[wl rfl,dv];rfl
  ·rw[v6 e];simp only[wd e,Bool.false_and];rw[List.filter_eq_nil_iff.2 (λx _=>by simp)];rfl
 rw[hheld] at hlaw;clear hheld;obtain⟨wF,hwF⟩:∃wF,wF=gJ w4 ((b.holds.filter hq).map λh=>⟨6,p.name,h.id⟩):=⟨_,rfl⟩;rw[<-hwF] at hlaw
 have hlF:wF.length<=401:=by
  have h1:=jY ((b.holds.filter hq).map λh=>(⟨6,p.name,h.id⟩:aw)) w4;have h2:=rD hq (λh:gN=>(⟨6,p.name,h.id⟩:aw)) b.holds b.holds.length;rw[aj] at h2;rw[<-hwF] at h1;omega
 refine(zV) ?_
 (repeat refine aE.seq ?_)
 refine aE.mono (Q:=λex st=>ex=.normal/\Fg st ⟨(22,ao 3 wF ai)::rI c dmg b l vehicle day R ps p,283,[],[]⟩) ?_ ?_
 ·refine(zs) ?_;refine BF b.holds (λk4 (w5:List aw)=>w5=gJ w4 (((b.holds.take k4).filter hq).map λh=>⟨6,p.name,h.id⟩)) (λk4 w5=>(22,ao 3 w5 ai)::(29,ab k4)::rI c dmg b l vehicle day R ps p) (λk4 w5=>[]) (w4) zH ii ?_;intro k4 w5 hk4 hall4;by_cases hlt4:k4<b.holds.length;rotate_left
  ·obtain rfl:k4=b.holds.length:=by omega
   rw[aj] at hall4
   refine(aB (bm (show decide ((b.holds.length:Int)<(b.holds.length:Int))=false by simp) @aJ.eq_1))<|(zN) ?_
   rw[<-hwF] at hall4;subst hall4;refine aE.exit ?_;simp only[ea,cz,bI,bx,if_true];exact⟨trivial,zH⟩
  cases hpv:decide (p.name=vehicle)
  ·have hz:∀L:List gN,L.filter hq=[]:=λL=>List.filter_eq_nil_iff.2 (λx _=>by rw[hhq,hpv];simp);rw[hz,<-hz b.holds] at hall4
   refine(aB (cJ (show decide ((k4:Int)<(b.holds.length:Int))=true by simp only[wp];omega) @aJ.eq_1 hpv))<|(zN) ?_
   rw[<-hwF] at hall4;subst hall4;refine aE.exit ?_;simp only[ea,cz,bI,bx,if_true];exact⟨trivial,zH⟩
  obtain⟨h,hx⟩:∃h,b.holds[k4]?=some h:=⟨b.holds[k4],jp hlt4⟩;have hnx:=Ac (w0:=w4) (q:=hq) (g:=λh:gN=>(⟨6,p.name,h.id⟩:aw)) hx;rw[<-hall4] at hnx
  have hqh:hq h=(decide (h.vehicle=vehicle)&&se h):=by rw[hhq];simp only[hpv,dv];rfl
  have hwl:w5.length<=401:=by
   have h1:=jY (((b.holds.take k4).filter hq).map λh=>(⟨6,p.name,h.id⟩:aw)) w4;have h2:=rD hq (λh:gN=>(⟨6,p.name,h.id⟩:aw)) b.holds k4;rw[<-hall4] at h1;omega
  have hput:=po w5 ⟨6,p.name,h.id⟩ i4;obtain⟨hlm,hlb⟩:=hbo.hold h (al hx)
  refine(aB (cJ (show decide ((k4:Int)<(b.holds.length:Int))=true by simp only[wp];omega) @aJ.eq_1 hpv))<|(fw)<|(aB (fk hlt4 (aL (e:=4) (enc:=bz) gc hx) @aJ.eq_1 @bz.eq_1))<|(nD) ?_;refine zZ ((31,ab 0)::(32,ab 0)::(30,.ip (bz h))::(22,ao 3 w5 ai)::(29,ab k4)::rI c dmg b l vehicle day R ps p) 0 rfl (gE (bm @ao.eq_1 @bz.eq_1))<|zA ((31,ab 0)::(32,ab 0)::(30,.ip (bz h))::(22,ao 3 w5 ai)::(29,ab k4)::rI c dmg b l vehicle day R ps p) [] (cg @bz.eq_1) ?_
  (repeat refine aE.seq ?_)
  refine aE.mono (Q:=λex st=>ex=.normal/\Fg st ⟨(31,ab (Qv h))::(30,.ip (bz h))::(22,ao 3 w5 ai)::(29,ab k4)::rI c dmg b l vehicle day R ps p,283,[],[]⟩) ?_ ?_
  ·refine(zs) ?_;refine BF h.members (λk5 (n5:Nat)=>n5=((h.members.take k5).filter λm=>h.back.contains m).length) (λk5 n5=>(31,ab n5)::(32,ab k5)::(30,.ip (bz h))::(22,ao 3 w5 ai)::(29,ab k4)::rI c dmg b l vehicle day R ps p) (λk5 n5=>[]) (0) zH ii ?_;intro k5 n5 hk5 hall5;by_cases hlt5:k5<h.members.length;rotate_left
   ·obtain rfl:k5=h.members.length:=by omega
    rw[aj] at hall5;have hall5:n5=Qv h:=hall5;subst hall5
    refine(aB (bm (show decide ((h.members.length:Int)<(h.members.length:Int))=false by simp) @bz.eq_1))<|(fo) ?_
    simp only[ea,cz,bI,bx,if_true];exact⟨trivial,zH⟩
   obtain⟨mm,hm⟩:∃mm,h.members[k5]?=some mm:=⟨h.members[k5],jp hlt5⟩;have hcs:=NP (q:=λm=>h.back.contains m) hm;rw[<-hall5] at hcs
   have hn5:n5<=k5:=by rw[hall5];exact a7 (a9 _ _) (by rw[bt];omega)
   refine(aB (bm (show decide ((k5:Int)<(h.members.length:Int))=true by simp only[wp];omega) @bz.eq_1))<|(fw)<|(zV)<|(zs) ?_;refine zL h.back (λk6=>∀(i:Nat) y,i<k6->h.back[i]?=some y->decide (y=mm)=false) (λk6=>(33,ab k6)::(31,ab n5)::(32,ab k5)::(30,.ip (bz h))::(22,ao 3 w5 ai)::(29,ab k4)::rI c dmg b l vehicle day R ps p) (λk6=>[]) zH (by exact λi y h=>un h (b7 _)) ?_;intro k6 hk6 hall6
   by_cases hlt6:k6<h.back.length;rotate_left
   ·obtain rfl:k6=h.back.length:=by omega
    have hno:h.back.contains mm=false:=by
     cases hcc:h.back.contains mm
     ·rfl
     ·obtain⟨i,hi⟩:=List.mem_iff_getElem?.1 (List.contains_iff_mem.1 hcc);have:=hall6 i mm (bo hi) hi;rw[wl rfl] at this;cases this
    rw[hno,v6 ca,Nat.add_zero] at hcs
    refine(aB (bm (show decide ((h.back.length:Int)<(h.back.length:Int))=false by simp) @bz.eq_1))<|(fo) ?_
    simp only[ea,cz,bI,bx,if_true]
    (try change aE _ _ _ _ _)
    refine(aB (zi hlt5 hlm)) ?_;refine pw hlt5 (n5) zH hcs.symm
   obtain⟨y,hy⟩:∃y,h.back[k6]?=some y:=⟨h.back[k6],jp hlt6⟩
   refine(aB (bm (show decide ((k6:Int)<(h.back.length:Int))=true by simp only[wp];omega) @bz.eq_1))<|(fw)<|(zs) ?_;refine nw [0,1,0,7,15,0,32,0,224,480,1023] ?_
   cases hym:decide (y=mm)
   ·refine(HW (EY @bz.eq_1 hlt5 hlt6 (aL (e:=1) (enc:=aD ab) gc hm) (aL (e:=1) (enc:=aD ab) gc hy) @aD.eq_1 hym))<|(zM)<|(zN)<|(aB (zi hlt6 hlb)) ?_;refine zX hlt6 zH (by intro i z hi hz;by_cases hik:i=k6;subst hik;rw[hy] at hz;cases hz;exact hym;exact hall6 i z i4 hz)
   have hyes:h.back.contains mm=true:=List.contains_iff_mem.2 (ww hym▸al hy);rw[hyes,ut rfl] at hcs;have hadd:=th (P:=prog) (t:=3) (a:=(n5:Int)) (b:=1) ⟨by omega,by omega⟩;rw[show(n5:Int)+1=((n5+1:Nat):Int) by omega] at hadd
   refine(HW (EY @bz.eq_1 hlt5 hlt6 (aL (e:=1) (enc:=aD ab) gc hm) (aL (e:=1) (enc:=aD ab) gc hy) @aD.eq_1 hym))<|(zM)<|(zY)<|(aB hadd) ?_;refine aE.exit ?_
   simp only[ea,cz,bI,bx,if_true]
   (try change aE _ _ _ _ _)
   refine(aB (zi hlt5 hlm)) ?_;refine pw hlt5 (n5+1) zH hcs.symm
  rintro _ _ ⟨rfl,hfg⟩;simp only[cz];refine aE.fg hfg ?_;clear hfg
  have hco:decide ((Qv h:Int)<(h.members.length:Int))=se h:=by
   rw[<-Qw];exact decide_eq_decide.2 i4
  cases g1:decide (h.vehicle=vehicle)
  ·rw[v6 (by rw[hqh,g1];simp)] at hnx
   refine(aB (bm @bz.eq_1 g1))<|(zN)<|(aB (zi hlt4 hlh)) ?_;refine pw hlt4 (w5) zH hnx.symm
  cases g2:se h
  ·rw[v6 (by rw[hqh,g2];simp)] at hnx;rw[g2] at hco
   refine(aB (cJ @bz.eq_1 g1 hco))<|(zN)<|(aB (zi hlt4 hlh)) ?_;refine pw hlt4 (w5) zH hnx.symm
  rw[ut (by rw[hqh,g1,g2];rfl)] at hnx;rw[g2] at hco
  refine(aB (cJ @bz.eq_1 g1 hco))<|(zY)<|(eQ @bz.eq_1)<|(zK hput (hc:=yc @ai.eq_1) (hfl:=.inr zr))<|(zR)<|(aB (zi hlt4 hlh)) ?_;refine pw hlt4 (gx ⟨6,p.name,h.id⟩ w5) zH hnx.symm
 rintro _ _ ⟨rfl,hfg⟩;simp only[cz];refine aE.fg hfg ?_;clear hfg hwF
 refine(nD)<|zA ((34,bH)::(35,ab 0)::(22,ao 3 wF ai)::rI c dmg b l vehicle day R ps p) [] zH<|(zs) ?_;refine BF R (λk7 (o7:List aw)=>o7=(R.take k7).filter λf=>decide (f.part=p.name)) (λk7 o7=>(34,bY 1 3 o7.length)::(35,ab k7)::(22,ao 3 wF ai)::rI c dmg b l vehicle day R ps p) (λk7 o7=>HV 1 o7 ai) ([]) (cg (cJ @i5.{0} @jW @DM)) ii ?_;intro k7 o7 hk7 hall7
 by_cases hlt7:k7<R.length;rotate_left
 ·obtain rfl:k7=R.length:=by omega
  rw[aj,hlaw] at hall7;have hsame:=AT o7 wF (by rw[hall7];omega);rw[wl hall7] at hsame;have hwk:=Lf (enc:=ai) (e:=3) (o:=1) (λ_=>rfl) bQ o7
  refine(aB (show decide ((R.length:Int)<(R.length:Int))=false by simp))<|(fo) ?_
  simp only[ea,cz,bI,bx,if_true]
  (try change aE _ _ _ _ _)
  exact(zC)<|(zK hsame (hwk:=.cons hwk zr))<|(zR)<|zo [.tmp 12]
 obtain⟨f,hx⟩:∃f,R[k7]?=some f:=⟨R[k7],jp hlt7⟩;have hxl:=aL (e:=3) (enc:=ai) gc hx;have hsn:=LP (q:=λf=>decide (f.part=p.name)) hx;rw[<-hall7] at hsn
 have hol:o7.length<=k7:=by rw[hall7];exact a7 (a9 _ _) (by rw[bt];omega)
 have hfo:=aU (enc:=ai) (e:=3) gc o7;have hko:=λo=>bp (enc:=ai) bQ o o7
 have hd:=show decide ((k7:Int)<(R.length:Int))=true by simp only[wp];omega
 clear hall7;cases hpf:decide (f.part=p.name)
 ·rw[show(if (λf:aw=>decide (f.part=p.name)) f=true then [f] else [])=[] by simp only[hpf];rfl,bh] at hsn;by_cases hk0:o7=[]
  ·subst hk0;rw[show HV 1 ([]:List aw) ai=[] from rfl,show bY 1 3 ([]:List aw).length=bH from rfl]
   refine(aB hd)<|(fw)<|(aB (fk hlt7 hxl @ai.eq_1 hpf))<|(zN)<|(aB (zi hlt7 hlR)) ?_;refine pw hlt7 ([]) (cg (cJ @i5.{0} @jW @DM)) hsn.symm
  ·have hk1:¬o7.length=0:=λh=>hk0 (t8 h);rw[Cn hk0,dQ hk1]
   refine(aB hd)<|(fw)<|(aB (fk hlt7 hxl @ai.eq_1 hpf))<|(zN) ?_
   have f1:bY 1 3 o7.length=.buf 1 o7.length 3 none:=dQ hk1
   have f2:HV 1 o7 ai=[.gone,.cells (o7.flatMap ai)]:=by rw[Cn hk0];rfl
   refine(zs) ?_;refine aE.r0 ii (pz (BM (Iv hlt7 hlR g9))) ?_;refine⟨R.length-(k7+1),_,by omega,(Fg.less (UE (bm f1 f2)) (UF (bm f1 f2))),k7+1,o7,by omega,rfl,hsn.symm,rfl⟩
 rw[show(if (λf:aw=>decide (f.part=p.name)) f=true then [f] else [])=[f] by simp only[hpf];rfl] at hsn;by_cases hk0:o7=[]
 ·subst hk0;rw[show HV 1 ([]:List aw) ai=[] from rfl,show bY 1 3 ([]:List aw).length=bH from rfl]
  refine(aB hd)<|(fw)<|(aB (fk hlt7 hxl @ai.eq_1 hpf))<|(zY) ?_
  have f1:bY 1 3 [f].length=.buf 1 1 3 none:=rfl;have f2:HV 1 [f] ai=[.gone,.cells [ab f.kind,ah f.part,ah f.name]]:=rfl
  refine(aB (cJ hlt7 hxl @ai.eq_1))<|(aB (zi hlt7 hlR)) ?_;refine pw hlt7 ([f]) (cg (bm f1 f2)) hsn.symm
 ·have hk1:¬o7.length=0:=λh=>hk0 (t8 h);rw[Cn hk0,dQ hk1]
  refine(aB hd)<|(fw)<|(aB (fk hlt7 hxl @ai.eq_1 hpf))<|(zY) ?_
  have f1:bY 1 3 (o7++[f]).length=.buf 1 (o7.length+1) 3 none:=by rw[li];rfl
  have f2:HV 1 (o7++[f]) ai=[.gone,.cells ((o7++[f]).flatMap ai)]:=by rw[Gu];rfl
  have happ:=kr (enc:=ai) (e:=3) gc bQ 1 o7 f;rw[show ai f=[ab f.kind,ah f.part,ah f.name] from rfl] at happ
  refine(aB (Lx hlt7 hxl @ai.eq_1 hfo hko Pf (show o7.length<=1000000 by omega) @aa happ))<|(aB (zi hlt7 hlR)) ?_;refine pw hlt7 (o7++[f]) (cg (bm f1 f2)) hsn.symm
end Go.Proofs
namespace Go.Proofs.YtjiejanfnnieaaaGreat
open Go.Proofs Go.Ev Go.ChangeShapes Go.WideShapes Go.ChangeAt Go.RowKit
set_option maxRecDepth 100000
def Rt:Tryz.f5.params.toList=[29,36,37,9,3,5]:=by kernel_rfl
def UB(j:Nat):fP Tryz.prog (j+12) 5=some (.int .u8):=by kernel_rfl
def TD{B:Nat}{y:DV}(h:Uf B (.int .u8) y):∃n:Nat,y=.fl (.int .u8 (n:Int))/\n<256:=by
 have h:kh B (.int .u8) [y]:=h;rw[kh] at h;obtain⟨n,e,w⟩:=h;simp only[mt,and_true] at e;subst e;have w:(decide ((0:Int)<=n)&&decide (n<=255))=true:=w;rw[ax,wp,wp] at w;exact⟨n.toNat,by rw[Int.toNat_of_nonneg w.1],by omega⟩
def law_lifted(os:Os)(started:os.Started)(H:Type)(enc:TypeId×Value->H):
 ReturnsInHanded {} dl os 5 .any (Rows.faultReasonsSpec.pre6 enc prog Tryz.f5 Rows.faultReasonsRow.domain false) (Rows.faultReasonsSpec.post enc prog Tryz.f5 false true false false):=by
 refine returnsInHanded_of_change_sized (C:=dl) Ve started zW func5
  (ChangeSpec.witness6 (enc:=enc) (C:=dl) false ⟨#[],#[.agg #[.slice none 0 0,.int .i64 0,.int .i64 0,.slice none 0 0],.agg #[.slice none 0 0,.slice none 0 0,.slice none 0 0,.slice none 0 0,.slice none 0 0,.slice none 0 0],.slice none 0 0,.string ⟨#[]⟩,.int .i64 0,.int .u8 0],[]⟩ 8 zW zW zW zW) ?_
 intro W base args ds gs before hval0 hW _ hwt0 _;have hval:∀(j:Nat) t v,Tryz.f5.params[j]?=some t->args[j]?=some v->Value.okWide prog W .any base t v:=hval0;have hW':=hW;obtain⟨p,q,hA0,hV,rfl,hfz,hnd⟩:=hW;have hA:DataW.TrodAll enc prog W 0 (λ_=>true) true Tryz.f5.params.toList args.toList ds p:=hA0;rw[Rt] at hA;obtain⟨v0,v1,v2,v3,v4,v5,d0,d1,d2,d3,d4,d5,p0,p1,p2,p3,p4,p5,rfl,rfl,rfl,h0,h1,h2,h3,h4,h5⟩:=Jb hA;obtain⟨rfl,rfl⟩:=trodVars_none hV;have hwt1:(DataW.weightsEach prog (Tryz.f5.params.toList++Rows.faultReasonsSpec.plain.varTypes prog) ([d0,d1,d2,d3,d4,d5]++[])).all (·<=reachBytes)=true:=hwt0
 have hwt:∀{j:Nat} {t:TypeId} {d:DataW H},(Tryz.f5.params.toList++Rows.faultReasonsSpec.plain.varTypes prog)[j]?=some t->([d0,d1,d2,d3,d4,d5]++[])[j]?=some d->∀x∈d.weights prog t,x<=reachBytes:=by
  intro j t d ht hd x hx;have:=all_eq_true.1 hwt1 x (DataW.weights_mem_each ht hd x hx);simpa using this
 obtain⟨j0,y0,o0,w0⟩:=oH PX (hval 0 29 v0 zW rfl) h0 (hwt (j:=0) zW rfl);obtain⟨j1,y1,o1,w1⟩:=oH RJ (hval 1 36 v1 zW rfl) h1 (hwt (j:=1) zW rfl);obtain⟨j2,y2,o2,w2⟩:=oH TC (hval 2 37 v2 zW rfl) h2 (hwt (j:=2) zW rfl);obtain⟨j3,y3,o3,w3⟩:=oH Vo (hval 3 9 v3 zW rfl) h3 (hwt (j:=3) zW rfl);obtain⟨j4,y4,o4,w4⟩:=oH Vn (hval 4 3 v4 zW rfl) h4 (hwt (j:=4) zW rfl);obtain⟨j5,y5,o5,w5⟩:=oH UB (hval 5 5 v5 zW rfl) h5 (hwt (j:=5) zW rfl);obtain⟨e0,rfl,o0⟩:=o0;obtain⟨c,dmg,s0,f0,g0⟩:=Pz IY o0;obtain⟨e1,rfl,o1⟩:=o1;obtain⟨b1,s1,f1⟩:=Ql IY o1;have o2:kh reachBytes (.sl (.st LL)) [y2]:=o2;rw[kh] at o2;obtain⟨n2,rows2,e2,q2,k2⟩:=o2;simp only[mt,and_true] at e2;subst e2;obtain⟨l2,s2,u2,f2⟩:=ni au U0 λr hr=>T6 (by have:=k2 r hr;rw[kh] at this;exact this);obtain⟨x3,rfl,f3⟩:=RC (B:=reachBytes) o3;obtain⟨x4,rfl⟩:=QN (B:=reachBytes) o4;obtain⟨x5,rfl,f5⟩:=TD (B:=reachBytes) o5;have hr:=IY;have hlaw:=Bx c dmg b1 l2 x3 x4 x5 f5 ⟨f0,g0,by omega,f2⟩ f1
 have hwd:nF W [.ag e0,.ag e1,.sl n2 rows2.length (Ty.st LL).size rows2.flatten,.fl (.str x3),.fl (.int .i64 x4),.fl (.int .u8 (x5:Int))] (#[v0,v1,v2,v3,v4,v5]:Array Value).toList:=by
  rw[ef];refine⟨_,_,rfl,w0,?_⟩;rw[ef];refine⟨_,_,rfl,w1,?_⟩;rw[ef];refine⟨_,_,rfl,w2,?_⟩;rw[ef];refine⟨_,_,rfl,w3,?_⟩;rw[ef];refine⟨_,_,rfl,w4,?_⟩;rw[ef];refine⟨_,_,rfl,w5,?_⟩;rw[jh]
 have hdv:eO [.ag e0,.ag e1,.sl n2 rows2.length (Ty.st LL).size rows2.flatten,.fl (.str x3),.fl (.int .i64 x4),.fl (.int .u8 (x5:Int))]=[.ag (ao 3 c ar::aG dmg),.ag (aJ b1),ao 14 l2 au,ah x3,ab x4,.a (.int .u8 (x5:Int))]:=by
  simp only[eO,↓nJ s2 u2,Fz,s0,s1];rfl
 refine(S9 dx func5 rfl hwd (by rw[hdv];exact hlaw)).mono λe W' ⟨he,hb⟩=>?_;subst he
 have hlt:∀x∈p0++p1++p2++p3++p4++p5,x.block<W.heap.size:=λx hx=>by simpa using hW'.lt x (by simpa using hx)
 have z0:=Below.trod Mm zW (ww zW) h0 hb (λx hx=>hlt x (by simp[hx]));have z1:=Below.trod Mm zW (ww zW) h1 hb (λx hx=>hlt x (by simp[hx]));have z2:=Below.trod Mm zW (ww zW) h2 hb (λx hx=>hlt x (by simp[hx]));have z3:=Below.trod Mm zW (ww zW) h3 hb (λx hx=>hlt x (by simp[hx]));have z4:=Below.trod Mm zW (ww zW) h4 hb (λx hx=>hlt x (by simp[hx]));have z5:=Below.trod Mm zW (ww zW) h5 hb (λx hx=>hlt x (by simp[hx]));exact⟨_,rfl,_,_,_,[],_,[],hW',trodAll_mk1 (shut_bool Tryz.underlying4 true),Ja z0 z1 z2 z3 z4 z5,rfl,hb.frame _,λh=>by cases h⟩
end Go.Proofs.YtjiejanfnnieaaaGreat
