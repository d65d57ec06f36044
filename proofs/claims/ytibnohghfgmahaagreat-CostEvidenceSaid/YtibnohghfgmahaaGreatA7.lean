/- Lemmas of this claim, each with its conditions. -/
import Derived.Test.YtibnohghfgmahaaGreatA6
import Derived.Test.YtibnohghfgmahaaGreatA5
import Derived.Test.YtibnohghfgmahaaGreatA4
set_option linter.all false
set_option maxHeartbeats 8000000
open Go.Proofs.Tryz (prog func148 func149 func66 func70 func71)
open List (length_nil length_eq_zero_iff nil_append flatMap_nil take_zero Perm flatMap_cons map_nil mem_map filterMap_nil foldl_nil mem_append drop_zero mem_cons mem_filter)
open Nat (ble)
open Nat renaming reduceEqDiff -> ac, reduceLeDiff -> ad, reduceAdd -> af, reduceLT -> aj, reduceMul -> ap, le_refl -> ax, reduceSub -> aD, mul_one -> a2, add_zero -> bd, le_trans -> bw, zero_le -> bW, pos_of_ne_zero -> b7, min_eq_left -> ca, sub_self -> ce, min_self -> em, add_assoc -> e4
open List renaming length_append -> al, length_cons -> ay, mem_of_getElem? -> aS, length_map -> aX, getElem?_eq_getElem -> a1, length_take -> a5, getElem?_map -> a7, take_of_length_le -> a9, replicate -> ba, take_length -> bc, drop_of_length_le -> be, append_assoc -> bh, contains_iff_mem -> bi, take_append_of_le_length -> bk, cons_append -> bt, filter_cons -> bv, append_nil -> b0, getElem?_zip_eq_some -> b1, length_set -> b2, mem_or_eq_of_mem_set -> b4, length_filterMap_le -> b5, any_eq_true -> b8, drop_append -> b9, map_append -> cb, getElem?_eq_none -> cc, length_filter_le -> cd, filterMap_cons -> cf, flatMap_append -> ci, replicate_succ -> ck, set_cons_zero -> cl, foldl_append -> cn, nodup_nil -> co, getElem?_set_self -> cp, drop_length -> ct, filterMap_append -> cv, length_replicate -> c0, set_append_right -> c4, getElem?_set_ne -> dl, length_zip -> ds, mem_of_mem_drop -> dt, mem_of_mem_take -> dv, mem_map_of_mem -> dD, getElem?_drop -> d8, getElem?_take -> d9, any_eq_false -> eg, ext_getElem? -> ei, getElem?_inj -> ej, map_cons -> el, length_drop -> es, all_append -> ex, countP_nil -> ey, filter_nil -> eB, nodup_cons -> eF, append -> e6
open And renaming intro -> a0
open Option renaming bind_some -> a4, map_some -> a8
open Bool renaming and_eq_true -> bb, eq_iff_iff -> dc, false_eq_true -> d6, not_eq_true' -> eb
open Go.Proofs.Tryz renaming func18 -> e5
namespace Go.Proofs
open Go.Ev
set_option maxRecDepth 100000
open Go.Proofs.Tryz renaming func126 -> vaa in
open Go.Ev renaming jD -> vab in
open Go.Proofs renaming encPart -> vac in
def tq{l:List (PartM)}(p:PartM->Bool){fid:FuncId}{first cap:List SV}(hlen:l.length<=1000000)(hp:∀x∈l,PC prog fid ((first++[.ag (encPart x)])++cap) (·=ao (p x)))(hg:bm first=true/\bm cap=true):PC prog 126 [slS 14 l encPart,.fn fid first cap] (·=aa (eK p l)):=by
 have vad:=@encPart.eq_1;exact rh
def s7{l:List (PartM)}(p:PartM->Bool){fid:FuncId}{first cap:List SV}(hlen:l.length<=1000000)(hp:∀x∈l,PC prog fid ((first++[.ag (encPart x)])++cap) (·=ao (p x)))(hg:bm first=true/\bm cap=true):PC prog 87 [slS 14 l encPart,.fn fid first cap] (·=ao (l.any p)):=by
 refine pB 9 Tryz.func87 ?_;exact(fe)<|(zK (tq p hlen hp hg) (hwk:=.cons (Wk.sl _ _ _) (.cons (.fn (aM.refl hg.1) (aM.refl hg.2)) .nil)))<|(zR)<|zo [.tmp 4] (hq:=by rw[idx_any])
def applyS(r:List PartM×Int):SV:=.aO [.ag [slS 14 r.1 encPart],aa r.2]
def bO(k:Int):PC prog 83 [aa k] (·=applyS ([],k)):=by
 refine pB 6 Tryz.func83 ?_;exact(gi)<|eL [.cell 2 56,.tmp 3] (r:=.aO [.ag [.sl 0 14 []],aa k]) (hw:=zv)
def qK(p:PartM):PC prog 82 [.ag (encPart p)] (·=ae p.name):=by
 refine pB 5 Tryz.func82 ?_;exact(aq @encPart.eq_1)<|(zV)<|zo [.tmp 2]
def qL(p:PropM):PC prog 91 [.ag (encProp p)] (·=ae p.key):=by
 refine pB 5 Tryz.func91 ?_;exact(aq @encProp.eq_1)<|(zV)<|zo [.tmp 2]
def dh(ps:List PartM)(hlen:ps.length<=100000)(ho:ordB (ps.map PartM.name)=true)(p:PartM):PC prog 80 [.ag (encPart p),.ip [slS 14 ps encPart]] (·=applyS (Proofs.putPart ps p,0)):=by
 refine pB 10 Tryz.func80 ?_;have hput:=tJ ps hlen p (g:=82) (cap:=[]) rfl qK ho;rw[encPart_eq] at hput ⊢
 exact(fe)<|(zK hput (hfl:=.inr (aM.refl rfl)))<|(zR)<|eL [.cell 3 56,.tmp 4]
def vW(e:EvM)(q:PartM):PC prog 89 [.ag (encPart q),.ip (encEv e)] (·=ao (decide (q.into=e.into)&&decide (q.slot=e.slot))):=by
 refine pB 16 Tryz.func89 ?_;refine(aq (n2 @encPart.eq_1 @encEv.eq_1)) ?_;cases h:decide (q.into=e.into)
 ·exact(aq h)<|zo [.tmp 3]
 ·exact(aq h)<|zo [.tmp 3]
def vX(p q:PartM):PC prog 92 [.ag (encPart q),.ip (encPart p)] (·=ao (decide (q.into=p.name))):=by
 refine pB 9 Tryz.func92 ?_;exact(aq @encPart.eq_1)<|(zV)<|zo [.tmp 3]
def l8(ps:List PartM)(hlen:ps.length<=1000000)(d:PartM->Bool){g:FuncId}{cap:List SV}(hcap:bm cap=true)(hp:∀q∈ps,PC prog g ([.ag (encPart q)]++cap) (·=ao (d q))):PC prog 86 [.fn g [] cap,.ip [slS 14 ps encPart]] (·=ao (ps.any d)):=by
 refine pB 8 Tryz.func86 ?_;have h:=s7 (l:=ps) d (fid:=g) (first:=[]) (cap:=cap) hlen hp ⟨rfl,hcap⟩
 exact(fe)<|(zK h (hwk:=aM.cons (Wk.sl _ _ _) (.cons (.fn .nil (aM.refl hcap)) .nil)))<|(zR)<|zo [.tmp 3]
def newPart(e:EvM):PartM:=⟨e.part,e.kind,[],[],e.day,e.day,false,[],0,0,0,0,0,0⟩
def makeN(c:List KKind)(ps:List PartM)(e:EvM)(is:Bool):List PartM×Int:=
 if is=true then ([],3) else if (findK8 c e.kind).isNone=true then ([],4) else if ((ps.length:Int)=20000) then ([],7) else (putPart ps (newPart e),0)
def fitP(p:PartM)(e:EvM):PartM:={ p with into:=e.into,slot:=e.slot }
def outP(p:PartM):PartM:={ p with into:=[],slot:=[] }
def freshP(p:PartM)(e:EvM):PartM:={ p with since:=maxI p.since e.day,l1:=0,l2:=0,l3:=0,l4:=0,l5:=0,l6:=0 }
def noteP(p:PartM)(e:EvM):PartM:={ p with props:=putProp p.props ⟨e.key,e.value⟩ }
def goneP(p:PartM):PartM:={ p with scrapped:=true }
def stepN(c:List KKind)(ps:List PartM)(e:EvM)(p h:PartM):List PartM×Int:=
 let k:=(findK8 c p.kind).getD KKind.zero
 if e.op=2 then (if (k.vehicle||!takes8 c h.kind e.slot p.kind)=true then ([],4) else if p.into≠[] then ([],5) else
  if (ps.any λq=>decide (q.into=e.into)&&decide (q.slot=e.slot))=true then ([],6) else (putPart ps (fitP p e),0))
 else if e.op=3 then (if p.into=[] then ([],5) else (putPart ps (outP p),0))
 else if e.op=4 then (if k.vehicle=true then (putPart ps p,0) else ([],4))
 else if e.op=5 then (putPart ps (freshP p e),0)
 else if e.op=6 then (if 60<((Proofs.putProp p.props ⟨e.key,e.value⟩).length:Int) then ([],7) else (putPart ps (noteP p e),0))
 else if e.op=7 then (if p.into≠[] then ([],5) else if (ps.any λq=>decide (q.into=p.name))=true then ([],5) else (putPart ps (goneP p),0))
 else (putPart ps p,0)
def fleetN(c:List KKind)(ps:List PartM)(e:EvM):List PartM×Int:=
 if validF c ps=true then (if validEv e=true then
  (if e.op=1 then makeN c ps e (getP ps (atM 0 [] ps) e.part).isSome else
   match getP ps (atM 0 [] ps) e.part,(if e.op=2 then getP ps (atM 0 [] ps) e.into else getP ps (atM 0 [] ps) e.part) with
   | some p,some h=>if (p.scrapped||h.scrapped)=true then ([],5) else stepN c ps e p h
   | _,_=>([],2))
  else ([],1)) else ([],1)
def parts_right{c:List KKind}{ps:List PartM}{m:List (List Nat×Int)}:∀{taken:List (SeatM×Bool)} {l:List PartM},partsV c ps m taken l=true->∀p∈l,rightN c p=true
 | _,[],_,p,hp=>by simp at hp
 | taken,q::r,h,p,hp=>by
  rw[partsV,bb,bb] at h
  rcases mem_cons.1 hp with rfl | hp
  ·exact h.1
  ·cases hd:decide (q.into=[]) with
   | true=>rw[hd,ab] at h;exact parts_right h.2.2 p hp
   | false=>rw[hd,ah,bb] at h;exact parts_right h.2.2.2 p hp
def valid_prop{c:List KKind}{ps:List PartM}(h:validF c ps=true){p:PartM}(hp:p∈ps):p.props.length<=60/\ordB (p.props.map PropM.key)=true:=by
 unfold validF at h;simp only[bb] at h;have:=parts_right h.2.2.2 p hp;unfold rightN at this;simp only[bb,eb,wd] at this;refine⟨by have:=this.2.2.2.2.2.1;omega,this.2.2.2.2.2.2.2.1⟩
def pR(c:List KKind)(ps:List PartM)(e:EvM)(hc:CatOk c)(hlen:ps.length<=100000)(hps:∀p∈ps,PartOk p)(he:EvOk e):PC prog 41 [.ag [slS 3 c encKind],.ag [slS 14 ps encPart],.ag (encEv e)] (·=applyS (fleetN c ps e)):=by
 have hlen1:ps.length<=1000000:=by omega
 have hct:∀k∈c,k.slots.length<=1000000/\∀s∈k.slots,s.kinds.length<=1000000:=λk hk=>⟨(hc.kind k hk).2,λs hs=>(hc.slot k hk s hs).2⟩;have hy:YOk ps (atM 0 [] ps):=atM_ok (by omega) (yok_nil ps);have hvE:=jI e he;refine pB 235 Tryz.func41 ?_;rw[encEv_eq] at hvE ⊢
 refine(fe)<|(zK (wS c ps hc hlen1 hps)) ?_
 cases h1:Proofs.validF c ps
 ·exact(zR)<|(bq)<|eL [.cell 6 56,.tmp 7] (r:=.aO [.ag [.sl 0 14 []],aa 1]) (hw:=zv) (hq:=by rw[show fleetN c ps e=([],1) by simp[fleetN,h1]];rfl)
 refine(zQ)<|(zK hvE) ?_
 cases h2:validEv e
 ·exact(zR)<|(bq)<|eL [.cell 6 56,.tmp 7] (r:=.aO [.ag [.sl 0 14 []],aa 1]) (hw:=zv) (hq:=by rw[show fleetN c ps e=([],1) by simp[fleetN,h1,h2]];rfl)
 refine(zR)<|(zN) ?_
 have ho:ordB (ps.map PartM.name)=true:=by
  unfold Proofs.validF at h1;simp only[bb] at h1;exact h1.2.2.1
 refine ak.fg (st':=⟨[(3,.ptr 0 0),(4,.ptr 1 0),(5,.ptr 2 0),(6,.ptr 3 0),(7,aa 0)],235,[.cells [slS 3 c encKind],.cells [slS 14 ps encPart],.cells [aa e.op,aa e.day,ae e.part,ae e.kind,ae e.into,ae e.slot,ae e.key,ae e.value,aa e.u1,aa e.u2,aa e.u3,aa e.u4,aa e.u5,aa e.u6],.cells [.a (.slice none 0 0 (some 0))]],[]⟩) zH ?_;refine ak.fg (Fg.freeze (f':=[(3,.ip [slS 3 c encKind]),(4,.ptr 1 0),(5,.ptr 2 0),(6,.ptr 3 0),(7,aa 0)]) 0 rfl (λh=>by cases h) (jM @slS.eq_1)) ?_;refine ak.fg (Fg.freeze (f':=[(3,.ip [slS 3 c encKind]),(4,.ip [slS 14 ps encPart]),(5,.ptr 2 0),(6,.ptr 3 0),(7,aa 0)]) 1 rfl (λh=>by cases h) (jM @slS.eq_1)) ?_;refine ak.fg (Fg.freeze (f':=[(3,.ip [slS 3 c encKind]),(4,.ip [slS 14 ps encPart]),(5,.ip [aa e.op,aa e.day,ae e.part,ae e.kind,ae e.into,ae e.slot,ae e.key,ae e.value,aa e.u1,aa e.u2,aa e.u3,aa e.u4,aa e.u5,aa e.u6]),(6,.ptr 3 0),(7,aa 0)]) 2 rfl (λh=>by cases h) (jM @slS.eq_1)) ?_
 (try change ak _ _ _ _ _)
 refine(zC)<|(zK (m7 ps hlen1) (hfl:=.inr (aM.refl rfl))) ?_
 generalize hM:atM 0 [] ps=M at hy
 refine(bE (n2 @yardS.eq_1 hM))<|(gi)<|(zC) ?_
 have hG:=jg ps M e.part hy
 cases hg:getP ps M e.part with
 | none=>
  rw[hg] at hG
  refine(zK hG (hfl:=.inr (aM.refl rfl)))<|(bE (n3 @optR.eq_1 @encPart.eq_1 @PartM.zero.eq_1)) ?_
  by_cases ho1:e.op=1
  ·refine(aq (ut ho1))<|(bq)<|(DA) ?_
   have hF:=gK c e.kind hc.len
   cases hf:findK8 c e.kind with
   | none=>
    rw[hf] at hF
    exact(zK hF (hfl:=.inr (aM.refl rfl)))<|(bE (n3 @optR.eq_1 @encKind.eq_1 @KKind.zero.eq_1))<|(oD)<|(zC)<|(zK (bO _) (hfl:=.inr (aM.refl rfl)))<|(bE @slS.eq_1)<|eL [.cell 6 56,.tmp 7] (hq:=by rw[show fleetN c ps e=([],4) by simp[fleetN,makeN,h1,h2,hM,hg,ho1,hf]];rfl)
   | some k=>
    rw[hf] at hF
    refine(zK hF (hfl:=.inr (aM.refl rfl)))<|(bE (n2 @optR.eq_1 @encKind.eq_1))<|(yT) ?_
    by_cases hl:(ps.length:Int)=20000
    ·exact(aq (ut hl))<|(zY)<|(zC)<|(zK (bO _) (hfl:=.inr (aM.refl rfl)))<|(bE @slS.eq_1)<|eL [.cell 6 56,.tmp 7] (hq:=by rw[show fleetN c ps e=([],7) by simp[fleetN,makeN,h1,h2,hM,hg,ho1,hf,hl]];rfl)
    ·refine(aq (un hl))<|(zN) ?_
     have hnext:=dh ps hlen ho (newPart e);simp only[encPart_eq,newPart] at hnext
     exact(zC)<|(zK hnext (hfl:=.inr zw))<|(bE (n2 @applyS.eq_1 @slS.eq_1))<|eL [.cell 6 56,.tmp 7] (hq:=by rw[show fleetN c ps e=(Proofs.putPart ps (newPart e),0) by simp[fleetN,makeN,h1,h2,hM,hg,ho1,hf,hl]];rfl)
  by_cases ho2:e.op=2
  ·refine(aq (un ho1))<|(ee)<|(aq (ut ho2))<|(zY)<|(zC) ?_
   have hH:=jg ps M e.into hy
   obtain⟨q,b,hq⟩:∃(q:PartM) (b:Bool),optR encPart PartM.zero (getP ps M e.into)=.aO [.ag (encPart q),ao b]:=by
    cases getP ps M e.into with
    | none=>exact⟨PartM.zero,false,rfl⟩
    | some q=>exact⟨q,true,rfl⟩
   rw[hq] at hH
   exact(zK hH (hfl:=.inr (aM.refl rfl)))<|(bE @encPart.eq_1)<|(oD)<|(zC)<|(zK (bO _) (hfl:=.inr (aM.refl rfl)))<|(bE @slS.eq_1)<|eL [.cell 6 56,.tmp 7] (hq:=by rw[show fleetN c ps e=([],2) by simp[fleetN,h1,h2,hM,hg,ho1,ho2]];rfl)
  ·exact(aq (un ho1))<|(ee)<|(aq (un ho2))<|(ee)<|(zY)<|(zC)<|(zK (bO _) (hfl:=.inr (aM.refl rfl)))<|(bE @slS.eq_1)<|eL [.cell 6 56,.tmp 7] (hq:=by rw[show fleetN c ps e=([],2) by simp[fleetN,h1,h2,hM,hg,ho1,ho2]];rfl)
 | some p=>
  rw[hg] at hG
  refine(zK hG (hfl:=.inr (aM.refl rfl)))<|(bE (n2 @optR.eq_1 @encPart.eq_1)) ?_
  by_cases ho1:e.op=1
  ·exact(aq (ut ho1))<|(bq)<|(zY)<|(zC)<|(zK (bO _) (hfl:=.inr (aM.refl rfl)))<|(bE @slS.eq_1)<|eL [.cell 6 56,.tmp 7] (hq:=by rw[show fleetN c ps e=([],3) by simp[fleetN,makeN,h1,h2,hM,hg,ho1]];rfl)
  refine ak.fg (st':=⟨[(3,.ip [slS 3 c encKind]),(4,.ip [slS 14 ps encPart]),(5,.ip [aa e.op,aa e.day,ae e.part,ae e.kind,ae e.into,ae e.slot,ae e.key,ae e.value,aa e.u1,aa e.u2,aa e.u3,aa e.u4,aa e.u5,aa e.u6]),(6,.ptr 3 0),(7,aa 0),(8,.ptr 4 0),(9,.fn 80 [] [.ip [slS 14 ps encPart]]),(10,.fn 83 [] []),(11,.ptr 5 0),(12,ao true)],235,[.gone,.gone,.gone,.cells [.a (.slice none 0 0 (some 0))],.cells [slS 14 ps encPart,kc AV.str aa M],.cells [ae p.name,ae p.kind,ae p.into,ae p.slot,aa p.made,aa p.since,ao p.scrapped,slS 2 p.props encProp,aa p.l1,aa p.l2,aa p.l3,aa p.l4,aa p.l5,aa p.l6]],[]⟩) zH ?_
  (try change ak _ _ _ _ _)
  refine(aq (un ho1))<|(ee) ?_
  by_cases ho2:e.op=2
  ·refine(aq (ut ho2))<|(zY)<|(zC) ?_
   have hH:=jg ps M e.into hy
   cases hh:getP ps M e.into with
   | none=>
    rw[hh] at hH
    exact(zK hH (hfl:=.inr (aM.refl rfl)))<|(bE (n3 @optR.eq_1 @encPart.eq_1 @PartM.zero.eq_1))<|(oD)<|(zC)<|(zK (bO _) (hfl:=.inr (aM.refl rfl)))<|(bE @slS.eq_1)<|eL [.cell 6 56,.tmp 7] (hq:=by rw[show fleetN c ps e=([],2) by simp[fleetN,h1,h2,hM,hg,ho1,ho2,hh]];rfl)
   | some h=>
    rw[hh] at hH
    refine(zK hH (hfl:=.inr (aM.refl rfl)))<|(bE (n2 @optR.eq_1 @encPart.eq_1))<|(yT) ?_
    cases f1:p.scrapped;rotate_left
    ·exact(aq f1)<|(zY)<|(zC)<|(zK (bO _) (hfl:=.inr (aM.refl rfl)))<|(bE @slS.eq_1)<|eL [.cell 6 56,.tmp 7] (hq:=by rw[show fleetN c ps e=([],5) by simp[fleetN,h1,h2,hM,hg,ho1,ho2,hh,f1]];rfl)
    cases f2:h.scrapped;rotate_left
    ·exact(aq (n2 f1 f2))<|(zY)<|(zC)<|(zK (bO _) (hfl:=.inr (aM.refl rfl)))<|(bE @slS.eq_1)<|eL [.cell 6 56,.tmp 7] (hq:=by rw[show fleetN c ps e=([],5) by simp[fleetN,h1,h2,hM,hg,ho1,ho2,hh,f1,f2]];rfl)
    refine(aq (n2 f1 f2))<|(ee)<|(zC) ?_
    have hF:=gK c p.kind hc.len
    obtain⟨kd,b,hq,hkd⟩:∃(kd:KKind) (b:Bool),optR encKind KKind.zero (findK8 c p.kind)=.aO [.ag (encKind kd),ao b]/\(findK8 c p.kind).getD KKind.zero=kd:=by
     cases findK8 c p.kind with
     | none=>exact⟨KKind.zero,false,rfl,rfl⟩
     | some q=>exact⟨q,true,rfl,rfl⟩
    rw[hq] at hF
    refine(zK hF (hfl:=.inr (aM.refl rfl)))<|(bE @encKind.eq_1)<|(zV) ?_;refine ak.fg (st':=⟨[(3,.ip [slS 3 c encKind]),(4,.ip [slS 14 ps encPart]),(5,.ip [aa e.op,aa e.day,ae e.part,ae e.kind,ae e.into,ae e.slot,ae e.key,ae e.value,aa e.u1,aa e.u2,aa e.u3,aa e.u4,aa e.u5,aa e.u6]),(6,.ptr 3 0),(7,aa 0),(9,.fn 80 [] [.ip [slS 14 ps encPart]]),(10,.fn 83 [] []),(11,.ptr 5 0),(15,.ptr 6 0),(17,.fn 86 [] [.ip [slS 14 ps encPart]]),(18,.ptr 7 0),(123,aa e.op)],235,[.gone,.gone,.gone,.cells [.a (.slice none 0 0 (some 0))],.gone,.cells [ae p.name,ae p.kind,ae p.into,ae p.slot,aa p.made,aa p.since,ao false,slS 2 p.props encProp,aa p.l1,aa p.l2,aa p.l3,aa p.l4,aa p.l5,aa p.l6],.cells [ae h.name,ae h.kind,ae h.into,ae h.slot,aa h.made,aa h.since,ao false,slS 2 h.props encProp,aa h.l1,aa h.l2,aa h.l3,aa h.l4,aa h.l5,aa h.l6],.cells [ae kd.name,ao kd.vehicle,slS 3 kd.slots encSlot]],[]⟩) (bg @encPart.eq_1) ?_
    (try change ak _ _ _ _ _)
    refine(zB) ?_
    refine(aq (ut ho2))<|(dI) ?_
    cases g1:kd.vehicle;rotate_left
    ·exact(aq g1)<|(zY)<|(zC)<|(zK (bO _) (hfl:=.inr (aM.refl rfl)))<|(bE @slS.eq_1)<|eL [.cell 6 56,.tmp 7] (hq:=by rw[show fleetN c ps e=([],4) by simp[fleetN,h1,h2,hM,hg,ho1,ho2,hh,f1,f2,stepN,hkd,g1]];rfl)
    refine(e8 g1)<|(zK (nJ c h.kind e.slot p.kind hc.len hct)) ?_
    cases g2:Proofs.takes8 c h.kind e.slot p.kind
    ·exact(zR)<|(zY)<|(zC)<|(zK (bO _) (hfl:=.inr (aM.refl rfl)))<|(bE @slS.eq_1)<|eL [.cell 6 56,.tmp 7] (hq:=by rw[show fleetN c ps e=([],4) by simp[fleetN,h1,h2,hM,hg,ho1,ho2,hh,f1,f2,stepN,hkd,g1,g2]];rfl)
    refine(zR)<|(zN) ?_
    by_cases g3:p.into=[];rotate_left
    ·exact(aq (un g3))<|(zY)<|(zC)<|(zK (bO _) (hfl:=.inr (aM.refl rfl)))<|(bE @slS.eq_1)<|eL [.cell 6 56,.tmp 7] (hq:=by rw[show fleetN c ps e=([],5) by simp[fleetN,h1,h2,hM,hg,ho1,ho2,hh,f1,f2,stepN,hkd,g1,g2,g3]];rfl)
    refine(aq (ut g3))<|(DA) ?_
    have hho:=l8 ps hlen1 (λq=>decide (q.into=e.into)&&decide (q.slot=e.slot)) (g:=89) (cap:=[.ip [aa e.op,aa e.day,ae e.part,ae e.kind,ae e.into,ae e.slot,ae e.key,ae e.value,aa e.u1,aa e.u2,aa e.u3,aa e.u4,aa e.u5,aa e.u6]]) rfl (λq _=>by rw[<-encEv_eq];exact vW e q);refine(zK hho) ?_;cases g4:ps.any λq=>decide (q.into=e.into)&&decide (q.slot=e.slot);rotate_left
    ·exact(zR)<|(zY)<|(zC)<|(zK (bO _) (hfl:=.inr (aM.refl rfl)))<|(bE @slS.eq_1)<|eL [.cell 6 56,.tmp 7] (hq:=by rw[show fleetN c ps e=([],6) by simp[fleetN,h1,h2,hM,hg,ho1,ho2,hh,f1,f2,stepN,hkd,g1,g2,g3,g4,-b8]];rfl)
    refine(zR)<|(zN) ?_
    (try change ak _ _ _ _ _)
    refine(zs) ?_;refine kU [0,1,0,4,3,19,63,127] ?_
    (repeat (first | refine SD.ri (by rfl) rfl (by rfl) rfl zl zl ?_ | refine SD.r (by rfl) rfl (by rfl) (by rfl) zl ?_ | refine SD.s (by rfl) rfl (by rfl) (by rfl) ?_ | fail))
    refine SD.e (by rfl) rfl (by rfl) rfl rfl (by rfl) zl ?_
    (repeat (first | refine SD.ri (by rfl) rfl (by rfl) rfl zl zl ?_ | refine SD.r (by rfl) rfl (by rfl) (by rfl) zl ?_ | refine SD.s (by rfl) rfl (by rfl) (by rfl) ?_ | fail))
    refine SD.e (by rfl) rfl (by rfl) rfl rfl (by rfl) zl ?_;refine(zM) ?_
    (try change ak _ _ _ _ _)
    obtain⟨R,hR⟩:∃R,R=Proofs.putPart ps (fitP p e):=⟨_,rfl⟩;have hnext:=dh ps hlen ho (fitP p e);rw[<-hR] at hnext;simp only[encPart_eq,f1,fitP,outP,freshP,noteP,goneP] at hnext
    exact(zC)<|(zK hnext (hfl:=.inr zw))<|(bE (n2 @applyS.eq_1 @slS.eq_1))<|eL [.cell 6 56,.tmp 7] (hq:=by rw[show fleetN c ps e=(R,0) by rw[hR];simp[fleetN,h1,h2,hM,hg,ho1,ho2,hh,f1,f2,stepN,hkd,g1,g2,g3,g4,-b8,-eg]];rfl)
  ·refine(aq (un ho2))<|(ee)<|(zN) ?_
   cases f1:p.scrapped;rotate_left
   ·exact(aq f1)<|(zY)<|(zC)<|(zK (bO _) (hfl:=.inr (aM.refl rfl)))<|(bE @slS.eq_1)<|eL [.cell 6 56,.tmp 7] (hq:=by rw[show fleetN c ps e=([],5) by simp[fleetN,h1,h2,hM,hg,ho1,ho2,f1]];rfl)
   have f2:=f1
   refine(aq (n2 f1 f2))<|(ee)<|(zC) ?_
   have hF:=gK c p.kind hc.len
   obtain⟨kd,b,hq,hkd⟩:∃(kd:KKind) (b:Bool),optR encKind KKind.zero (findK8 c p.kind)=.aO [.ag (encKind kd),ao b]/\(findK8 c p.kind).getD KKind.zero=kd:=by
    cases findK8 c p.kind with
    | none=>exact⟨KKind.zero,false,rfl,rfl⟩
    | some q=>exact⟨q,true,rfl,rfl⟩
   rw[hq] at hF
   refine(zK hF (hfl:=.inr (aM.refl rfl)))<|(bE @encKind.eq_1)<|(zV) ?_;refine ak.fg (st':=⟨[(3,.ip [slS 3 c encKind]),(4,.ip [slS 14 ps encPart]),(5,.ip [aa e.op,aa e.day,ae e.part,ae e.kind,ae e.into,ae e.slot,ae e.key,ae e.value,aa e.u1,aa e.u2,aa e.u3,aa e.u4,aa e.u5,aa e.u6]),(6,.ptr 3 0),(7,aa 0),(9,.fn 80 [] [.ip [slS 14 ps encPart]]),(10,.fn 83 [] []),(11,.ptr 5 0),(15,.ptr 6 0),(17,.fn 86 [] [.ip [slS 14 ps encPart]]),(18,.ptr 7 0),(123,aa e.op)],235,[.gone,.gone,.gone,.cells [.a (.slice none 0 0 (some 0))],.gone,.cells [ae p.name,ae p.kind,ae p.into,ae p.slot,aa p.made,aa p.since,ao false,slS 2 p.props encProp,aa p.l1,aa p.l2,aa p.l3,aa p.l4,aa p.l5,aa p.l6],.cells [ae p.name,ae p.kind,ae p.into,ae p.slot,aa p.made,aa p.since,ao false,slS 2 p.props encProp,aa p.l1,aa p.l2,aa p.l3,aa p.l4,aa p.l5,aa p.l6],.cells [ae kd.name,ao kd.vehicle,slS 3 kd.slots encSlot]],[]⟩) (bg @encPart.eq_1) ?_
   (try change ak _ _ _ _ _)
   refine(zB) ?_
   refine(aq (un ho2))<|(zN) ?_
   by_cases ho3:e.op=3
   ·refine(aq (ut ho3))<|(zY) ?_
    by_cases g3:p.into=[]
    ·exact(aq (ut g3))<|(zY)<|(zC)<|(zK (bO _) (hfl:=.inr (aM.refl rfl)))<|(bE @slS.eq_1)<|eL [.cell 6 56,.tmp 7] (hq:=by rw[show fleetN c ps e=([],5) by simp[fleetN,h1,h2,hM,hg,ho1,ho2,f1,stepN,hkd,ho3,g3]];rfl)
    refine(aq (un g3))<|(ee) ?_
    (try change ak _ _ _ _ _)
    obtain⟨R,hR⟩:∃R,R=Proofs.putPart ps (outP p):=⟨_,rfl⟩;have hnext:=dh ps hlen ho (outP p);rw[<-hR] at hnext;simp only[encPart_eq,f1,fitP,outP,freshP,noteP,goneP] at hnext
    exact(zC)<|(zK hnext (hfl:=.inr zw))<|(bE (n2 @applyS.eq_1 @slS.eq_1))<|eL [.cell 6 56,.tmp 7] (hq:=by rw[show fleetN c ps e=(R,0) by rw[hR];simp[fleetN,h1,h2,hM,hg,ho1,ho2,f1,stepN,hkd,ho3,g3]];rfl)
   refine(aq (un ho3))<|(zN) ?_
   by_cases ho4:e.op=4
   ·refine(aq (ut ho4))<|(zY) ?_
    cases g1:kd.vehicle
    ·exact(aq g1)<|(zY)<|(zC)<|(zK (bO _) (hfl:=.inr (aM.refl rfl)))<|(bE @slS.eq_1)<|eL [.cell 6 56,.tmp 7] (hq:=by rw[show fleetN c ps e=([],4) by simp[fleetN,h1,h2,hM,hg,ho1,ho2,f1,stepN,hkd,ho3,ho4,g1]];rfl)
    refine(aq g1)<|(zN) ?_
    (try change ak _ _ _ _ _)
    obtain⟨R,hR⟩:∃R,R=Proofs.putPart ps p:=⟨_,rfl⟩;have hnext:=dh ps hlen ho p;rw[<-hR] at hnext;simp only[encPart_eq,f1,fitP,outP,freshP,noteP,goneP] at hnext
    exact(zC)<|(zK hnext (hfl:=.inr zw))<|(bE (n2 @applyS.eq_1 @slS.eq_1))<|eL [.cell 6 56,.tmp 7] (hq:=by rw[show fleetN c ps e=(R,0) by rw[hR];simp[fleetN,h1,h2,hM,hg,ho1,ho2,f1,stepN,hkd,ho3,ho4,g1]];rfl)
   refine(aq (un ho4))<|(zN) ?_
   by_cases ho5:e.op=5
   ·refine(aq (ut ho5))<|(zY)<|(aq @max_int) ?_
    (try change ak _ _ _ _ _)
    obtain⟨R,hR⟩:∃R,R=Proofs.putPart ps (freshP p e):=⟨_,rfl⟩;have hnext:=dh ps hlen ho (freshP p e);rw[<-hR] at hnext;simp only[encPart_eq,f1,fitP,outP,freshP,noteP,goneP] at hnext
    exact(zC)<|(zK hnext (hfl:=.inr zw))<|(bE (n2 @applyS.eq_1 @slS.eq_1))<|eL [.cell 6 56,.tmp 7] (hq:=by rw[show fleetN c ps e=(R,0) by rw[hR];simp[fleetN,h1,h2,hM,hg,ho1,ho2,f1,stepN,hkd,ho3,ho4,ho5]];rfl)
   refine(aq (un ho5))<|(zN) ?_
   by_cases ho6:e.op=6
   ·refine(aq (ut ho6))<|(zY) ?_
    have hpp:p∈ps:=by
     unfold getP at hg;split at hg
     ·exact aS hg
     ·cases hg
    have hpl:p.props.length<=60/\ordB (p.props.map PropM.key)=true:=valid_prop h1 hpp;have hput:=tK p.props (by omega) ⟨e.key,e.value⟩ (g:=91) (cap:=[]) rfl qL hpl.2;rw[encProp_eq] at hput
    refine(zC)<|(zK hput (hfl:=.inr (aM.refl rfl)))<|(zR) ?_
    by_cases g3:60<((Proofs.putProp p.props ⟨e.key,e.value⟩).length:Int)
    ·exact(aq (ut g3))<|(zY)<|(zC)<|(zK (bO _) (hfl:=.inr (aM.refl rfl)))<|(bE @slS.eq_1)<|eL [.cell 6 56,.tmp 7] (hq:=by rw[show fleetN c ps e=([],7) by simp[fleetN,h1,h2,hM,hg,ho1,ho2,f1,stepN,hkd,ho3,ho4,ho5,ho6,g3]];rfl)
    refine(aq (un g3))<|(zN) ?_
    (try change ak _ _ _ _ _)
    obtain⟨R,hR⟩:∃R,R=Proofs.putPart ps (noteP p e):=⟨_,rfl⟩;have hnext:=dh ps hlen ho (noteP p e);rw[<-hR] at hnext;simp only[encPart_eq,f1,fitP,outP,freshP,noteP,goneP] at hnext
    exact(zC)<|(zK hnext (hfl:=.inr zw))<|(bE (n2 @applyS.eq_1 @slS.eq_1))<|eL [.cell 6 56,.tmp 7] (hq:=by rw[show fleetN c ps e=(R,0) by rw[hR];simp[fleetN,h1,h2,hM,hg,ho1,ho2,f1,stepN,hkd,ho3,ho4,ho5,ho6,g3]];rfl)
   refine(aq (un ho6))<|(zN) ?_
   by_cases ho7:e.op=7
   ·refine(aq (ut ho7))<|(zY) ?_
    by_cases g3:p.into=[];rotate_left
    ·exact(aq (un g3))<|(zY)<|(zC)<|(zK (bO _) (hfl:=.inr (aM.refl rfl)))<|(bE @slS.eq_1)<|eL [.cell 6 56,.tmp 7] (hq:=by rw[show fleetN c ps e=([],5) by simp[fleetN,h1,h2,hM,hg,ho1,ho2,f1,stepN,hkd,ho3,ho4,ho5,ho6,ho7,g3]];rfl)
    refine(e8 (ut g3)) ?_;have hho:=l8 ps hlen1 (λq=>decide (q.into=p.name)) (g:=92) (cap:=[.ip (encPart p)]) rfl (λq _=>vX p q);rw[encPart_eq,f1] at hho;refine(zK hho (hwk:=zw)) ?_;cases g4:ps.any λq=>decide (q.into=p.name);rotate_left
    ·exact(zR)<|(zY)<|(zC)<|(zK (bO _) (hfl:=.inr (aM.refl rfl)))<|(bE @slS.eq_1)<|eL [.cell 6 56,.tmp 7] (hq:=by rw[show fleetN c ps e=([],5) by simp[fleetN,h1,h2,hM,hg,ho1,ho2,f1,stepN,hkd,ho3,ho4,ho5,ho6,ho7,g3,g4,-b8]];rfl)
    refine(zR)<|(ee) ?_
    (try change ak _ _ _ _ _)
    obtain⟨R,hR⟩:∃R,R=Proofs.putPart ps (goneP p):=⟨_,rfl⟩;have hnext:=dh ps hlen ho (goneP p);rw[<-hR] at hnext;simp only[encPart_eq,f1,fitP,outP,freshP,noteP,goneP] at hnext
    exact(zC)<|(zK hnext (hfl:=.inr zw))<|(bE (n2 @applyS.eq_1 @slS.eq_1))<|eL [.cell 6 56,.tmp 7] (hq:=by rw[show fleetN c ps e=(R,0) by rw[hR];simp[fleetN,h1,h2,hM,hg,ho1,ho2,f1,stepN,hkd,ho3,ho4,ho5,ho6,ho7,g3,g4,-b8,-eg]];rfl)
   refine(aq (un ho7))<|(zN) ?_
   (try change ak _ _ _ _ _)
   obtain⟨R,hR⟩:∃R,R=Proofs.putPart ps p:=⟨_,rfl⟩;have hnext:=dh ps hlen ho p;rw[<-hR] at hnext;simp only[encPart_eq,f1,fitP,outP,freshP,noteP,goneP] at hnext
   exact(zC)<|(zK hnext (hfl:=.inr zw))<|(bE (n2 @applyS.eq_1 @slS.eq_1))<|eL [.cell 6 56,.tmp 7] (hq:=by rw[show fleetN c ps e=(R,0) by rw[hR];simp[fleetN,h1,h2,hM,hg,ho1,ho2,f1,stepN,hkd,ho3,ho4,ho5,ho6,ho7]];rfl)
def sortN_perm{a b:List (List Nat)}(h:a.Perm b):sortN a=sortN b:=by
 have h1:(sortN a).Pairwise λa b=>leS a b=true:=sortW a;have h2:(sortN b).Pairwise λa b=>leS a b=true:=sortW b;have hp:(sortN a).Perm (sortN b):=((sortP a).trans h).trans (sortP b).symm;exact Perm.eq_of_pairwise (λa b _ _ h1 h2=>leS_anti h1 h2) h1 h2 hp
def AtGood(ps:List PartM)(m:List (List Nat×Int)):Prop:=(∀e∈m,∃(k:Nat) (x:PartM),e.2=(k:Int)/\ps[k]?=some x/\x.name=e.1)/\(m.map (·.1)).Nodup
def hasM_mem{K U:Type}[DecidableEq K]{k:K}{l:List (K×U)}:bl k l=true↔k∈l.map (·.1):=by
 unfold bl;simp only[b8,wp,mem_map];exact⟨λ⟨e,h1,h2⟩=>⟨e,h1,h2.symm⟩,λ⟨e,h1,h2⟩=>⟨e,h1,h2.symm⟩⟩
def atM_good{ps:List PartM}:∀{l:List PartM} {i:Nat} {m:List (List Nat×Int)},ps.drop i=l->AtGood ps m->AtGood ps (atM i m l)
 | [],_,_,_,h=>h
 | p::r,i,m,hd,h=>by
  rw[atM]
  have hp:ps[i]?=some p:=by
   have:=congrArg (λl=>l[0]?) hd;simpa using this
  have hd2:ps.drop (i+1)=r:=by
   have:=congrArg (List.drop 1) hd;simpa using this
  refine atM_good hd2 ?_
  cases hh:bl p.name m with
  | true=>exact h
  | false=>
   simp only[d6,if_false];rw[iF hh];refine⟨λe he=>?_,?_⟩
   ·rcases mem_append.1 he with he | he
    ·exact h.1 e he
    ·rw[List.mem_singleton.1 he];exact⟨i,p,rfl,hp,rfl⟩
   ·rw[cb,List.nodup_append];refine⟨h.2,by simp,λa ha b hb=>?_⟩;simp only[el,map_nil,List.mem_singleton] at hb;subst hb;intro e;subst e;rw[hasM_mem.2 ha] at hh;cases hh
def intoOf(ps:List PartM)(i:Int):List Nat:=match ps[i.toNat]? with
 | some p=>p.into
 | none=>[]
abbrev RestM:=List (List Nat×List Nat)
def restL(ps:List PartM)(hd:List (List Nat×Int)):RestM:=hd.filterMap λe=>if intoOf ps e.2=[] then none else some (e.1,intoOf ps e.2)
def restL_keys{ps:List PartM}{hd:List (List Nat×Int)}{k:List Nat}(h:k∈(restL ps hd).map (·.1)):k∈hd.map (·.1):=by
 obtain⟨e,he,rfl⟩:=mem_map.1 h;obtain⟨e',he',h2⟩:=List.mem_filterMap.1 he;split at h2
 ·cases h2
 ·cases h2;exact dD he'
def restL_nodup{ps:List PartM}:∀{hd:List (List Nat×Int)},(hd.map (·.1)).Nodup->((restL ps hd).map (·.1)).Nodup
 | [],_=>co
 | e::hd,h=>by
  rw[el,eF] at h;unfold restL;rw[cf];split
  ·exact restL_nodup h.2
  ·rename_i b hb;split at hb
   ·cases hb
   ·cases hb;rw[el,eF];exact⟨λhm=>h.1 (restL_keys hm),restL_nodup h.2⟩
def handed_key{U:Type}{l:List (List Nat×U)}{pos:List Nat}{j:Nat}{e:List Nat×U}(hn:(l.map (·.1)).Nodup)(he:l[j]?=some e)(hj:j∉pos):e.1∉(handed l pos).map (·.1):=by
 intro hm;obtain⟨e',he',h2⟩:=mem_map.1 hm;obtain⟨i,hi,h3⟩:=List.mem_filterMap.1 he'
 have h4:(l.map (·.1))[i]?=some e.1:=by rw[a7,h3];exact congrArg some h2
 have h5:(l.map (·.1))[j]?=some e.1:=by rw[a7,he];rfl
 exact hj ((ej (aE h4) hn).1 (h4.trans h5.symm)▸hi)
def insideGo:Nat->RestM->List (List Nat)->List (List Nat)
 | 0,_,_=>[]
 | n+1,r,ls=>if ls=[] then [] else ((r.filter λe=>ls.contains e.2).map (·.1))++insideGo n (r.filter λe=>!ls.contains e.2) ((r.filter λe=>ls.contains e.2).map (·.1))
def restN(ps:List PartM)(part:List Nat):RestM:=eO part (restL ps (atM 0 [] ps))
def insideN(ps:List PartM)(part:List Nat):List (List Nat):=if bl part (atM 0 [] ps)=true then sortN (insideGo (ps.length+2) (restN ps part) [part]) else []
def insideGo_perm:∀(n:Nat) {r r':RestM} {ls ls':List (List Nat)},r.Perm r'->(∀x,ls.contains x=ls'.contains x)->(ls=[]↔ls'=[])->(insideGo n r ls).Perm (insideGo n r' ls')
 | 0,_,_,_,_,_,_,_=>Perm.refl _
 | n+1,r,r',ls,ls',h1,h2,h3=>by
  rw[insideGo,insideGo];by_cases h:ls=[]
  ·rw[t8 h,t8 (h3.1 h)]
  ·rw[ul h,ul (λe=>h (h3.2 e))];have e1:(λe:List Nat×List Nat=>ls.contains e.2)=λe=>ls'.contains e.2:=funext λe=>h2 _
   have e2:(λe:List Nat×List Nat=>!ls.contains e.2)=λe=>!ls'.contains e.2:=funext λe=>by rw[h2]
   rw[e1,e2];have p1:=(h1.filter λe=>ls'.contains e.2).map (·.1);have p2:=h1.filter λe=>!ls'.contains e.2;refine p1.append (insideGo_perm n p2 (λx=>?_) ⟨λe=>?_,λe=>?_⟩)
   ·rw[dc,bi,bi];exact p1.mem_iff
   ·rw[e] at p1;exact p1.nil_eq.symm
   ·rw[e] at p1;exact p1.eq_nil
def outS(l:List (List Nat)):SO:=if l=[] then .gone else .cells (l.flatMap (one1 ae))
def outS_p{l:List (List Nat)}(h:¬l=[]):outS l=.cells (l.flatMap (one1 ae)):=ul h
def outS_nil:outS []=.gone:=rfl
def kill_outS(o:Nat)(l:List (List Nat)):killO o (outS l)=outS l:=by
 unfold outS;split
 ·rfl
 ·rw[killO];congr 1;exact aV (ar (λ_=>rfl) l)
def rn_outS(r:Nat->Nat)(l:List (List Nat)):iK r (outS l)=outS l:=by
 unfold outS;split
 ·rfl
 ·rw[Ck];congr 1;exact aK (ar (λ_=>rfl) l)
def yD{S:List SO}{o:Nat}{l:RestM}(s u:List Nat)(hS:S[o]?=some (aR AV.str ae l)):cZ prog S 171 (.map o) (.a (.str s)) (.a (.str u))=some (S.set o (aR AV.str ae (bG s u l))):=
 vB (uv:=ae) (kt:=9) (et:=9) (by simp only[an]) c7 hS rfl u
def pT{S:List SO}{o:Nat}{l:RestM}(s:List Nat)(hS:S[o]?=some (aR AV.str ae l)):AH prog S 171 (.map o) (.a (.str s))=some (S.set o (aR AV.str ae (eO s l))):=
 EM (uv:=ae) (k:=s) (kt:=9) (et:=9) (by simp only[an]) c7 hS rfl
def kill_SS{n:Nat}{l:RestM}:killO n (aR AV.str ae l)=aR AV.str ae l:=gl λ_=>fG _
def moreL(ls:List (List Nat))(hd:RestM):List (List Nat):=(hd.filter λe=>ls.contains e.2).map (·.1)
def moreL_snoc(ls:List (List Nat))(hd:RestM)(e:List Nat×List Nat):moreL ls (hd++[e])=moreL ls hd++(if ls.contains e.2=true then [e.1] else []):=by
 unfold moreL;rw[List.filter_append,cb];cases h:ls.contains e.2
 ·rw[bv,ul (by rw[h];decide)];rfl
 ·rw[bv,t8 h];rfl
def delM_len{k:List Nat}:∀{l:RestM},(eO k l).length<=l.length
 | []=>ax _
 | e::l=>by
  rw[eO];split
  ·exact Nat.le_succ _
  ·exact Nat.succ_le_succ delM_len
def dels_filter:∀(ks:List (List Nat)) {r:RestM},(r.map (·.1)).Nodup->ks.foldl (λr k=>eO k r) r=r.filter λe=>!ks.contains e.1
 | [],r,_=>by
  rw[foldl_nil];symm;rw[List.filter_eq_self];intro a _;rfl
 | k::ks,r,h=>by
  rw[List.foldl_cons,fP h];have hn:((r.filter λe=>!decide (e.1=k)).map (·.1)).Nodup:=h.sublist ((List.filter_sublist).map _);rw[dels_filter ks hn,List.filter_filter]
  congr 1
  funext e;rw[List.contains_cons];by_cases hh:e.1=k
  ·simp[hh]
  ·simp[hh]
def dels_more{r:RestM}{ls mo:List (List Nat)}(hn:(r.map (·.1)).Nodup)(hm:mo.Perm (moreL ls r)):mo.foldl (λr k=>eO k r) r=r.filter λe=>!ls.contains e.2:=by
 rw[dels_filter mo hn];apply List.filter_congr;intro e he
 congr 1
 rw[dc,bi,hm.mem_iff];unfold moreL;constructor
 ·intro h;obtain⟨e',he',h2⟩:=mem_map.1 h;obtain⟨h3,h4⟩:=mem_filter.1 he'
  have:e'=e:=by
   obtain⟨i,hi⟩:=List.mem_iff_getElem?.1 h3;obtain⟨j,hj⟩:=List.mem_iff_getElem?.1 he
   have g1:(r.map (·.1))[i]?=some e'.1:=by rw[a7,hi];rfl
   have g2:(r.map (·.1))[j]?=some e'.1:=by rw[a7,hj,h2];rfl
   have:=(ej (aE g1) hn).1 (g1.trans g2.symm);subst this;rw[hi] at hj;cases hj;rfl
  rw[this] at h4;exact h4
 ·intro h;exact dD (mem_filter.2 ⟨he,h⟩)
def atM_len:∀(l:List PartM) (i:Nat) (m:List (List Nat×Int)),(atM i m l).length<=m.length+l.length
 | [],_,_=>ax _
 | p::r,i,m=>by
  rw[atM];refine bw (atM_len r _ _) ?_
  cases h:bl p.name m with
  | true=>simp only[if_true,ay];omega
  | false=>simp only[d6,if_false,iF h,al,ay,length_nil];omega
def part_len{α:Type}(p:α->Bool):∀l:List α,(l.filter p).length+(l.filter λx=>!p x).length=l.length
 | []=>rfl
 | a::l=>by
  have:=part_len p l;cases h:p a
  ·rw[bv,ul (by rw[h];decide),bv,t8 (by rw[h];rfl),ay,ay];omega
  ·rw[bv,t8 h,bv,ul (by rw[h];decide),ay,ay];omega
def moreL_perm{ls:List (List Nat)}{a b:RestM}(h:a.Perm b):(moreL ls a).Perm (moreL ls b):=(h.filter _).map _
def names_nbuf{p o e n:Nat}(h:o≠p):names p (nbuf o e n)=false:=by
 unfold nbuf;split
 ·exact fG _
 ·rw[names];exact un h
def rn_nbuf(q:Nat->Nat)(o e n:Nat):de q (nbuf o e n)=nbuf (q o) e n:=by
 unfold nbuf;split
 ·rw[Cm]
 ·rw[sU]
def mapB(r:RestM)(bs:List Nat)(c:Nat):SO:=.map (r.map λe=>.str e.1) (r.map λe=>ae e.2) (some (bs,c))
def kill_mapB(o:Nat)(r:RestM)(bs:List Nat)(c:Nat):killO o (mapB r bs c)=mapB r bs c:=by
 unfold mapB;rw[killO]
 congr 1
 exact aV (eo (uv:=ae) (λ_=>rfl) r)
def rn_mapB(q:Nat->Nat)(r:RestM)(bs:List Nat)(c:Nat):iK q (mapB r bs c)=mapB r bs c:=by
 unfold mapB;rw[vG]
 congr 1
 exact aK (eo (uv:=ae) (λ_=>rfl) r)
def rn_SS(q:Nat->Nat)(r:RestM):iK q (aR AV.str ae r)=aR AV.str ae r:=by
 unfold aR;rw[vG]
 congr 1
 exact aK (eo (uv:=ae) (λ_=>rfl) r)
def vZ(ps:List PartM)(part:List Nat)(hlen:ps.length<=100000):SC prog 42 [.ag [slS 14 ps encPart],ae part] [] [] (λr S'=>r=nbuf 0 1 (insideN ps part).length/\S'=[outS (insideN ps part)]):=by
 refine Ap 87 Tryz.func42 ?_;refine(fe)<|(zK (m7 ps (by omega)) (hfl:=.inr (aM.refl rfl))) ?_
 have hgood:AtGood ps (atM 0 [] ps):=atM_good (ps:=ps) rfl ⟨λe he=>by simp at he,co⟩
 have hMl:(atM 0 [] ps).length<=ps.length:=by have:=atM_len ps 0 [];simpa using this
 obtain⟨M,hM⟩:∃M,M=atM 0 [] ps:=⟨_,rfl⟩
 have hN:insideN ps part=if bl part M=true then sortN (insideGo (ps.length+2) (eO part (restL ps M)) [part]) else []:=by rw[hM];rfl
 rw[<-hM] at hgood hMl
 refine(bE (n2 @yardS.eq_1 (Eq.symm hM)))<|(zs) ?_;refine ak.r0 (by rfl) (by simp only[bf,aN,slS,an,a4,a8,↓reduceIte,ac,af,ap,ad,aj,ab,ah,isSub,nC (l:=M)];first | done | rfl) ?_;refine(zV) ?_
 cases h1:bl part M
 ·refine(bq) ?_;rw[h1,ul (by decide)] at hN;refine ak.fg (st':=⟨[(4,nilS)],87,[.gone],[]⟩) zH ?_;refine(zE) ?_;exact zP [.tmp 4] (hq:=by (try simp only[bL,aF]);first | done | (rw[hN];exact⟨rfl,rfl⟩))
 rw[h1,t8 rfl] at hN
 refine(ee)<|(zC) ?_;refine aB.FI (ks:=M.map λe=>.str e.1) (vs:=M.map λe=>aa e.2) (by rfl) rfl rfl (by rfl) rfl (by simp only[an]) ?_
 intro bs c hbs;refine(bE @kill_SS) ?_
 (repeat refine ak.seq ?_)
 refine ak.block (ak.loop (λm st=>∃pos:List Nat,pos.Nodup/\(∀j∈pos,j<M.length)/\M.length-pos.length=m/\st=⟨[(1,ae part),(5,.ptr 1 0),(8,.map 2),(33,.ptr 3 0)],87,[.gone,.cells [slS 14 ps encPart,kc AV.str aa M],aR AV.str ae (restL ps (handed M pos)),.kT (M.map λe=>.str e.1) (M.map λe=>aa e.2) bs c pos],[]⟩) M.length (bg (n5 @aR.eq_1 @handed.eq_1 @restL.eq_1 @filterMap_nil.{0,0} @map_nil.{0,0})) ⟨[],co,λj hj=>by simp at hj,rfl,rfl⟩ (by rintro m st ⟨pos,_,_,_,rfl⟩;rfl) ?_);rintro m st ⟨pos,hpn,hpl,rfl,rfl⟩;refine(zC) ?_;refine aB.FG (by rfl) rfl rfl (by rfl) rfl rfl (λj hj=>by rw[aX];exact hpl j hj) ?_ ?_;rotate_left
 ·intro j hj hjn;rw[aX] at hj;obtain⟨e,he⟩:∃e,M[j]?=some e:=⟨M[j],a1 hj⟩;obtain⟨q1,q2,q3⟩:=lL hpn hpl hj hjn;obtain⟨i,x,hi,hx,hxn⟩:=hgood.1 e (aS he);have hil:=aE hx;have hsn:=jy M pos he;have hfresh:=handed_key hgood.2 he hjn
  refine(zR)<|(dI)<|(zC) ?_;refine aB.FD (k:=.str e.1) (v:=aa e.2) (by rfl) rfl rfl (by rfl) rfl rfl (by rw[a7,he];rfl) (by rw[a7,he];rfl) ?_;refine(zR) ?_
  rw[hi];refine(aq (n3 hil (au (e:=14) (enc:=encPart) (λ_=>rfl) hx) @encPart.eq_1)) ?_
  have hin:intoOf ps e.2=x.into:=by unfold intoOf;rw[hi,Int.toNat_natCast,hx]
  by_cases hx0:x.into=[]
  ·refine(aq (ut hx0))<|(zN) ?_
   have hr:restL ps (handed M (pos++[j]))=restL ps (handed M pos):=by
    rw[hsn];unfold restL;rw[cv,cf,t8 (by rw[hin,hx0]),filterMap_nil,b0]
   exact⟨M.length-(pos++[j]).length,_,by rw[al];simp only[ay,length_nil];omega,(bg hr),pos++[j],q1,q2,rfl,rfl⟩
  ·refine(aq (un hx0))<|(zY)<|(zs) ?_;refine ak.r0 (by rfl) (by simp only[bf,aN,slS,an,a4,a8,↓reduceIte,ac,af,ap,ad,aj,ab,ah,isSub,yD (l:=restL ps (handed M pos))];first | done | rfl) ?_
   have hr:restL ps (handed M (pos++[j]))=bG e.1 x.into (restL ps (handed M pos)):=by
    rw[iF (by
     cases hh:bl e.1 (restL ps (handed M pos)) with
     | false=>rfl
     | true=>exact t7 (restL_keys (hasM_mem.1 hh)) hfresh),hsn]
    unfold restL;rw[cv,cf,ul (by rw[hin];exact hx0),filterMap_nil,hin]
   exact⟨M.length-(pos++[j]).length,_,by rw[al];simp only[ay,length_nil];omega,(bg hr),pos++[j],q1,q2,rfl,rfl⟩
 intro hall;have hperm:(handed M pos).Perm M:=kE hpn hpl λj hj=>hall j (by rw[aX];exact hj)
 refine(zR)<|(cV)<|(zs) ?_;refine ak.r0 (by rfl) (by simp only[bf,aN,slS,an,a4,a8,↓reduceIte,ac,af,ap,ad,aj,ab,ah,isSub,pT (l:=restL ps (handed M pos))];first | done | rfl) ?_
 obtain⟨r0,hr0⟩:∃r0,r0=eO part (restL ps (handed M pos)):=⟨_,rfl⟩;have hnk:((handed M pos).map (·.1)).Nodup:=(hperm.map (·.1)).nodup_iff.2 hgood.2
 have hrp:r0.Perm (eO part (restL ps M)):=by
  rw[hr0,fP (restL_nodup hnk),fP (restL_nodup hgood.2)];exact(hperm.filterMap _).filter _
 have hr0n:(r0.map (·.1)).Nodup:=by
  rw[hr0,fP (restL_nodup hnk)];exact(restL_nodup hnk).sublist (List.filter_sublist.map _)
 have hr0l:r0.length<=ps.length:=by
  rw[hrp.length_eq];exact bw delM_len (bw (b5 _ _) hMl)
 have hN2:insideN ps part=sortN (insideGo (ps.length+2) r0 [part]):=by
  rw[hN];exact sortN_perm (insideGo_perm _ hrp.symm (λ_=>rfl) Iff.rfl)
 rw[<-hr0];clear hN hperm hall
 refine(zV)<|(aq @kill_SS) ?_;refine ak.fg (Fg.freeze (f':=[(1,ae part),(8,.map 2),(12,nilS),(13,slS 1 [part] (one1 ae))]) 4 rfl (λh=>by cases h) (jM (n4 @slS.eq_1 @one1.eq_1 @flatMap_cons.{0,0} @flatMap_nil.{0,0}))) ?_;refine ak.fg (st':=⟨[(1,ae part),(8,.map 0),(12,nilS),(13,slS 1 [part] (one1 ae))],87,[aR AV.str ae r0,.gone],[]⟩) (Fg.rn [2,0] (by decide) rfl (yU @rn_SS) (yV @rn_SS)) ?_
 clear hr0 hrp;obtain⟨T,hT0⟩:∃T,T=insideGo (ps.length+2) r0 [part]:=⟨_,rfl⟩;rw[<-hT0] at hN2
 (repeat refine ak.seq ?_)
 refine ak.block (ak.loop (λm st=>∃(r:RestM) (ls out:List (List Nat)) (fu:Nat),((r.map (·.1)).Nodup/\r.length+(if ls=[] then 1 else 2)<=fu)/\(out++insideGo fu r ls).Perm T/\(out.length+r.length<=ps.length/\ls.length<=ps.length+1)/\(r.length+if ls=[] then 0 else 1)=m/\st=⟨[(1,ae part),(8,.map 0),(12,nbuf 1 1 out.length),(13,slS 1 ls (one1 ae))],87,[aR AV.str ae r,outS out],[]⟩) (r0.length+1) (bg (n3 @nbuf_0 @outS_nil @length_nil.{0})) ⟨r0,[part],[],ps.length+2,⟨hr0n,by rw[ul (by simp)];omega⟩,by rw[hT0];exact Perm.refl _,⟨by simpa using hr0l,by simp⟩,rfl,rfl⟩ (by rintro m st ⟨r,ls,out,fu,_,_,_,_,rfl⟩;rfl) ?_);rintro m st ⟨r,ls,out,fu,⟨hrn,hfu⟩,hT,⟨hsz,hlsl⟩,rfl,rfl⟩;clear hr0n hr0l hT0;by_cases hls:ls=[]
 ·subst hls
  refine(aq (show decide (0<(([]:List (List Nat)).length:Int))=false by simp))<|(cV) ?_
  have hgo:insideGo fu r []=[]:=by
   cases fu with
   | zero=>rfl
   | succ k=>rw[insideGo,t8 rfl]
  rw[hgo,b0] at hT
  have hres:insideN ps part=sortN out:=by rw[hN2];exact(sortN_perm hT).symm
  by_cases ho:out=[]
  ·subst ho
   refine(e8 (n2 @nbuf_0 @length_nil.{0}))<|(zK mi)<|(zR)<|(zV) ?_;refine ak.fg (st':=⟨[(4,nilS)],87,[.gone],[]⟩) zH ?_;refine(zE) ?_;exact zP [.tmp 4] (hq:=by (try simp only[bL,aF]);first | done | (rw[hres,show sortN []=[] from rfl];exact⟨rfl,rfl⟩))
  ·have hol:¬out.length=0:=λh=>ho (length_eq_zero_iff.1 h);rw[nbuf_p hol,outS_p ho]
   refine(zC) ?_;refine aB.sk [1] (by rfl) rfl rfl (by rfl) rfl zc (kP out (by omega) ho) (by simp only[cX,aN,slS,↓reduceIte,ac,af,aD,ap,ad,aj,kill_SS,aK (ar (enc:=one1 ae) (λ_=>rfl) _),aP (ar (enc:=one1 ae) (λ_=>rfl) _)];first | done | rfl) rfl (by decide) (by simp only[hosL,cX,aN,slS,kill_SS,aK (ar (enc:=one1 ae) (λ_=>rfl) _),aP (ar (enc:=one1 ae) (λ_=>rfl) _)]<;>(repeat' apply a0)<;>first | trivial | rfl | (intro hh;cases hh)) (by simp only[qx,cX,aN,slS,af,aj,decide_true,kill_SS,aK (ar (enc:=one1 ae) (λ_=>rfl) _),aP (ar (enc:=one1 ae) (λ_=>rfl) _)];first | done | rfl) (by simp only[qx,cX,aN,slS,af,aj,decide_true,kill_SS,aK (ar (enc:=one1 ae) (λ_=>rfl) _),aP (ar (enc:=one1 ae) (λ_=>rfl) _)];first | done | rfl) (by simp only[cX,aN,slS,↓reduceIte,ac,af,aD,ap,ad,aj,kill_SS,aK (ar (enc:=one1 ae) (λ_=>rfl) _),aP (ar (enc:=one1 ae) (λ_=>rfl) _)];first | done | rfl) (by simp only[cX,aN,slS,↓reduceIte,ac,af,aD,ap,ad,aj,kill_SS,aK (ar (enc:=one1 ae) (λ_=>rfl) _),aP (ar (enc:=one1 ae) (λ_=>rfl) _),cm,bZ,killO,aH,bf];first | done | rfl) (by simp only[cX,aN,slS,↓reduceIte,ac,af,aD,ap,ad,aj,kill_SS,aK (ar (enc:=one1 ae) (λ_=>rfl) _),aP (ar (enc:=one1 ae) (λ_=>rfl) _),cm,bZ,killO,aH,bf];first | done | rfl) ?_;refine(zR)<|(zV) ?_
   have hsl:(sortN out).length=out.length:=(sortP out).length_eq;have hsne:¬sortN out=[]:=λe=>hol (by rw[<-hsl,e];rfl);refine ak.fg (st':=⟨[(4,.buf 0 out.length 1 none)],87,[.cells ((sortN out).flatMap (one1 ae))],[]⟩) (Fg.rn [1] (by decide) rfl (by (simp only[hosG,cX,aN,slS,aK (ar (enc:=one1 ae) (λ_=>rfl) (sortN out))])<;>(repeat' apply a0)<;>first | trivial | exact .inl rfl | exact .inr rfl | exact .inr trivial | exact .inl trivial) (by (simp only[bf,cX,aN,slS,aK (ar (enc:=one1 ae) (λ_=>rfl) (sortN out))])<;>(repeat' apply a0)<;>first | rfl | trivial)) ?_;refine(zE) ?_;exact zP [.tmp 4] (hq:=by (try simp only[bL,aF]);first | done | (rw[hres,hsl,nbuf_p hol,outS_p hsne];exact⟨rfl,rfl⟩))
 rw[ul hls] at hfu ⊢;have hl0:0<ls.length:=b7 λh=>hls (length_eq_zero_iff.1 h)
 refine(aq (show decide (0<(ls.length:Int))=true by simp only[wp];omega))<|(dI)<|(fe) ?_;refine aB.FJ (oo:=0) (ks:=r.map λe=>.str e.1) (vs:=r.map λe=>ae e.2) (b:=none) (by rfl) rfl rfl (by rfl) rfl rfl (by simp only[an]) ?_
 intro bs c hbs;rw[aX] at hbs;change aB _ _ _ _ ⟨_,_,dG [mapB r bs c,outS out] _,_⟩ _;refine aB.r0 (by rfl) (by simp only[bf,aN,slS,an,a4,a8,↓reduceIte,ac,af,ap,ad,aj,ab,ah,isSub,kill_outS,kill_mapB,names_nbuf (show 1≠2 by decide)];first | done | rfl) ?_
 (repeat refine ak.seq ?_)
 refine ak.block (ak.loop (λm st=>∃pos:List Nat,pos.Nodup/\(∀j∈pos,j<r.length)/\r.length-pos.length=m/\st=⟨[(1,ae part),(8,.map 0),(12,nbuf 1 1 out.length),(13,slS 1 ls (one1 ae)),(14,nbuf 3 1 (moreL ls (handed r pos)).length),(58,.ptr 2 0)],87,[mapB r bs c,outS out,.iter (.map 0) bs c pos,outS (moreL ls (handed r pos))],[]⟩) r.length (Fg.less (by (simp only[bf,aN,cA,↓reduceIte,ac,slS,handed,moreL,filterMap_nil,eB,map_nil,nbuf_0,outS_nil,length_nil,names_nbuf (show 1≠2 by decide)])<;>(repeat' apply a0)<;>first | rfl | trivial) (by (simp only[bf,aN,or_true,true_or,slS,handed,moreL,filterMap_nil,eB,map_nil,nbuf_0,outS_nil,length_nil,names_nbuf (show 1≠2 by decide)])<;>(repeat' apply a0)<;>first | exact .inr rfl | exact .inl rfl | trivial)) ⟨[],co,λj hj=>by simp at hj,rfl,rfl⟩ (by rintro m st ⟨pos,_,_,_,rfl⟩;rfl) ?_);rintro m st ⟨pos,hpn,hpl,rfl,rfl⟩;refine(zC) ?_;refine aB.FH (ks:=r.map λe=>.str e.1) (vs:=r.map λe=>ae e.2) (by rfl) rfl rfl (by rfl) rfl rfl rfl (λj hj=>by rw[aX];exact hpl j hj) ?_ ?_;rotate_left
 ·intro j hj hjn;rw[aX] at hj;obtain⟨e,he⟩:∃e,r[j]?=some e:=⟨r[j],a1 hj⟩;obtain⟨q1,q2,q3⟩:=lL hpn hpl hj hjn;have hsn:=jy r pos he;have hms:=moreL_snoc ls (handed r pos) e;rw[<-hsn] at hms
  have hml:(moreL ls (handed r pos)).length<=100000:=by
   unfold moreL;rw[aX];have h1:=cd (λe:List Nat×List Nat=>ls.contains e.2) (handed r pos);have h2:(handed r pos).length<=pos.length:=b5 _ _;omega
  generalize moreL ls (handed r pos)=mo at hms hml
  refine(zR)<|(dI)<|(zC) ?_;refine aB.FE (ks:=r.map λe=>.str e.1) (vs:=r.map λe=>ae e.2) (k:=.str e.1) (v:=ae e.2) (by rfl) rfl rfl (by rfl) rfl rfl rfl (by rw[a7,he];rfl) (by rw[a7,he];rfl) ?_;refine(zR)<|(zC)<|(zK (fD ls e.2 (by omega))) ?_
  cases hc:ls.contains e.2
  ·rw[hc,ul (by decide),b0] at hms
   refine(zR)<|(zN) ?_;exact⟨r.length-(pos++[j]).length,_,by rw[al];simp only[ay,length_nil];omega,(bg hms),pos++[j],q1,q2,rfl,rfl⟩
  ·rw[hc,t8 rfl] at hms
   refine(zR)<|(zY) ?_
   have happ:=app_cells (enc:=one1 ae) (e:=1) (λ_=>rfl) (λ_=>rfl) 3 mo e.1;have hcl:=flat_len' (enc:=one1 ae) (e:=1) (λ_=>rfl) mo;rw[show one1 ae e.1=[ae e.1] from rfl,a2] at happ;by_cases hmo:mo=[]
   ·subst hmo;refine(zs) ?_;refine ak.r0 (by rfl) (by simp only[bf,aN,slS,an,a4,a8,↓reduceIte,ac,af,ap,ad,aj,ab,ah,isSub,nbuf_0,length_nil,outS_nil,kill_outS,kill_mapB,names_nbuf (show 1≠4 by decide),names_nbuf (show 1≠5 by decide)];first | done | rfl) ?_;exact⟨r.length-(pos++[j]).length,_,by rw[al];simp only[ay,length_nil];omega,((Fg.rn (f':=[(1,ae part),(8,.map 0),(12,nbuf 1 1 out.length),(13,slS 1 ls (one1 ae)),(14,.buf 3 1 1 none),(58,.ptr 2 0)]) (n:=87) (S':=[mapB r bs c,outS out,.iter (.map 0) bs c (pos++[j]),.cells [ae e.1]]) [0,1,2,5] (by decide) rfl (yU (n3 @rn_mapB @rn_outS @rn_nbuf)) (yV (n3 @rn_mapB @rn_outS @rn_nbuf)))).trans (bg (n7 hms @nil_append.{0} @outS.eq_1 @one1.eq_1 @flatMap_cons.{0,0} @flatMap_nil.{0,0} @nbuf.eq_1)),pos++[j],q1,q2,rfl,rfl⟩
   ·have hmol:¬mo.length=0:=λh=>hmo (length_eq_zero_iff.1 h);rw[nbuf_p hmol,outS_p hmo]
    have hq:mo++[e.1]≠[]:=by simp
    have hql:(mo++[e.1]).length=mo.length+1:=by rw[al];rfl
    refine(zs) ?_;refine ak.r0 (by rfl) (by simp only[bf,aN,slS,an,a4,a8,↓reduceIte,ac,af,ap,ad,aj,ab,ah,isSub,kill_outS,kill_mapB,names_nbuf (show 1≠4 by decide),names_nbuf (show 1≠3 by decide),kill_cells (enc:=one1 ae) (λ_=>rfl) _ mo,hcl,a2,ax,show mo.length<=1000000 by omega,happ];first | done | rfl) ?_;exact⟨r.length-(pos++[j]).length,_,by rw[al];simp only[ay,length_nil];omega,(bg (n4 hms hql @nbuf_s (outS_p hq))),pos++[j],q1,q2,rfl,rfl⟩
 intro hall;have hperm:(handed r pos).Perm r:=kE hpn hpl λj hj=>hall j (by rw[aX];exact hj);have hmp:(moreL ls (handed r pos)).Perm (moreL ls r):=moreL_perm hperm;obtain⟨mo,hmo⟩:∃mo,mo=moreL ls (handed r pos):=⟨_,rfl⟩;rw[<-hmo] at hmp ⊢;clear hall
 refine(zR)<|(cV) ?_;refine ak.fg (st':=⟨[(1,ae part),(8,.map 0),(12,nbuf 1 1 out.length),(13,slS 1 ls (one1 ae)),(14,slS 1 mo (one1 ae))],87,[aR AV.str ae r,outS out],[]⟩) ?_ ?_
 ·refine Fg.trans (b:=⟨_,87,[mapB r bs c,outS out],[]⟩) ?_ (Fg.CG (S:=[mapB r bs c,outS out]) (ks:=r.map λe=>.str e.1) (vs:=r.map λe=>ae e.2) (b:=some (bs,c)) 0 rfl);by_cases h0:mo=[]
  ·rw[h0];exact Fg.trans (Fg.wk (f':=[(1,ae part),(8,.map 0),(12,nbuf 1 1 out.length),(13,slS 1 ls (one1 ae)),(14,slS 1 ([]:List (List Nat)) (one1 ae))]) ⟨.inl rfl,.inl rfl,.inl rfl,.inl rfl,.inr (.nil _),trivial⟩) zH
  ·have hmol:¬mo.length=0:=λh=>h0 (length_eq_zero_iff.1 h);rw[nbuf_p hmol,outS_p h0];exact Fg.trans (Fg.freeze (f':=[(1,ae part),(8,.map 0),(12,nbuf 1 1 out.length),(13,slS 1 ls (one1 ae)),(14,slS 1 mo (one1 ae))]) 3 rfl (λh=>by cases h) ⟨.inl rfl,.inl rfl,.inl rfl,.inl rfl,.inr (.buf rfl (by rw[flat_all (enc:=one1 ae) (e:=1) (λ_=>rfl)];exact aM.refl (ar (λ_=>rfl) _)) (by rw[flat_len' (enc:=one1 ae) (e:=1) (λ_=>rfl)];exact ax _)),trivial⟩) zH
 have hmol:mo.length<=r.length:=by
  rw[hmp.length_eq];unfold moreL;rw[aX];exact cd _ _
 have hdel:=dels_more hrn hmp
 have hgo:((out++mo)++insideGo (fu-1) (r.filter λe=>!ls.contains e.2) mo).Perm T:=by
  refine Perm.trans ?_ hT;obtain⟨k,rfl⟩:∃k,fu=k+1:=⟨fu-1,by omega⟩;rw[insideGo,ul hls,bh];refine Perm.append_left out (hmp.append ?_);refine insideGo_perm k (Perm.refl _) (λx=>?_) ⟨λe=>?_,λe=>?_⟩
  ·rw[dc,bi,bi];exact hmp.mem_iff
  ·rw[e] at hmp;exact hmp.nil_eq.symm
  ·have:moreL ls r=[]:=e;rw[this] at hmp;exact hmp.eq_nil
 have hpl:(moreL ls r).length+(r.filter λe=>!ls.contains e.2).length=r.length:=by
  unfold moreL;rw[aX];exact part_len _ r
 rw[<-hmp.length_eq] at hpl;have hrn2:((r.filter λe=>!ls.contains e.2).map (·.1)).Nodup:=hrn.sublist (List.filter_sublist.map _)
 (try change ak _ _ _ _ _)
 refine(zV)<|(zs) ?_;refine zL mo (λk=>True) (λk=>[(1,ae part),(8,.map 0),(12,nbuf 1 1 out.length),(14,slS 1 mo (one1 ae)),(71,slS 1 mo (one1 ae)),(72,aa mo.length),(73,aa k)]) (λk=>[aR AV.str ae ((mo.take k).foldl (λr k=>eO k r) r),outS out]) (bg (n2 @take_zero.{0} @foldl_nil.{0,0})) zp ?_;intro k hk hall;refine zT mo k ?_ ?_;rintro rfl;rotate_left;intro x hx hlt;rotate_left
 rotate_left
 ·refine(dI)<|(aq (n3 hlt (au (e:=1) (enc:=one1 ae) (λ_=>rfl) hx) @one1.eq_1))<|(zs) ?_;refine ak.r0 (by rfl) (by simp only[bf,aN,slS,an,a4,a8,↓reduceIte,ac,af,ap,ad,aj,ab,ah,isSub,pT (l:=(mo.take k).foldl (λr k=>eO k r) r)];first | done | rfl) ?_
  have hst:(mo.take (k+1)).foldl (λr k=>eO k r) r=eO x ((mo.take k).foldl (λr k=>eO k r) r):=by rw[takeN_snoc hx,cn];rfl
  refine(aq (zi hlt (show mo.length<=1000000 by omega))) ?_;refine zX hlt (bg hst) trivial
 refine(cV) ?_;rw[bc,hdel];generalize hr':(r.filter λe=>!ls.contains e.2)=r' at hgo hpl hrn2
 have hme:r'.length+(if mo=[] then 0 else 1)<r.length+1/\r'.length+(if mo=[] then 1 else 2)<=fu-1:=by
  by_cases h0:mo=[]
  ·rw[t8 h0,t8 h0];omega
  ·have:0<mo.length:=b7 λh=>h0 (length_eq_zero_iff.1 h);rw[ul h0,ul h0];omega
 have hsz2:(out++mo).length+r'.length<=ps.length/\mo.length<=ps.length+1:=by rw[al];omega
 have hmk:=kill_cells (enc:=one1 ae) (λ_=>rfl);have hmo1:(mo.flatMap (one1 ae)).all cH=true:=flat_ones (λ_=>rfl) mo;by_cases h0:mo=[]
 ·subst h0;rw[b0] at hgo hsz2;by_cases h1:out=[]
  ·subst h1
   refine(aq (n2 @nbuf_0 @length_nil.{0}))<|(zV) ?_;exact⟨_,_,hme.1,(bg (n3 @nbuf_0 @outS_nil @length_nil.{0})),r',[],[],fu-1,⟨hrn2,hme.2⟩,hgo,hsz2,rfl,rfl⟩
  ·have h1l:¬out.length=0:=λh=>h1 (length_eq_zero_iff.1 h);rw[nbuf_p h1l,outS_p h1]
   refine(aq (n2 @length_nil.{0} (show out.length<=1000000 by omega)))<|(zV) ?_;exact⟨_,_,hme.1,(Fg.less (by (simp only[bf,aN,cA,↓reduceIte,ac,slS,nbuf_p h1l,outS_p h1,length_nil])<;>(repeat' apply a0)<;>first | rfl | trivial) (by (simp only[bf,aN,or_true,true_or,slS,nbuf_p h1l,outS_p h1,length_nil])<;>(repeat' apply a0)<;>first | exact .inr rfl | exact .inl rfl | trivial)),r',[],out,fu-1,⟨hrn2,hme.2⟩,hgo,hsz2,rfl,rfl⟩
 have hmol2:¬mo.length=0:=λh=>h0 (length_eq_zero_iff.1 h);by_cases h1:out=[]
 ·subst h1;rw[nil_append] at hgo hsz2
  refine(aq (n8 @nbuf_0 @outS_nil @length_nil.{0} hmol2 (show mo.length<=1000000 by omega) hmo1 hmk @kill_SS))<|(zV) ?_;exact⟨_,_,hme.1,((Fg.rn (f':=[(1,ae part),(8,.map 0),(12,.buf 1 mo.length 1 none),(13,slS 1 mo (one1 ae))]) (n:=87) (S':=[aR AV.str ae r',.cells (mo.flatMap (one1 ae))]) [0,2] (by decide) rfl (by (simp only[hosG,cX,aN,slS,rn_SS,aK (ar (enc:=one1 ae) (λ_=>rfl) mo)])<;>(repeat' apply a0)<;>first | trivial | exact .inl rfl | exact .inr rfl | exact .inr trivial | exact .inl trivial) (by (simp only[bf,cX,aN,slS,rn_SS,aK (ar (enc:=one1 ae) (λ_=>rfl) mo)])<;>(repeat' apply a0)<;>first | rfl | trivial))).trans (Fg.less (by (simp only[bf,aN,cA,↓reduceIte,ac,slS,nbuf_p hmol2,outS_p h0])<;>(repeat' apply a0)<;>first | rfl | trivial) (by (simp only[bf,aN,or_true,true_or,slS,nbuf_p hmol2,outS_p h0])<;>(repeat' apply a0)<;>first | exact .inr rfl | exact .inl rfl | trivial)),r',mo,mo,fu-1,⟨hrn2,hme.2⟩,hgo,hsz2,rfl,rfl⟩
 ·have h1l:¬out.length=0:=λh=>h1 (length_eq_zero_iff.1 h);have hol:=flat_len' (enc:=one1 ae) (e:=1) (λ_=>rfl) out;rw[a2] at hol;have hot:(out.flatMap (one1 ae)).take out.length=out.flatMap (one1 ae):=a9 (by rw[hol];exact ax _)
  have hq:¬(out++mo)=[]:=by simp[h1]
  have hql:(out++mo).length=out.length+mo.length:=al;rw[nbuf_p h1l,outS_p h1]
  have hap:(out.flatMap (one1 ae)++mo.flatMap (one1 ae)).map (aH 1)=(out++mo).flatMap (one1 ae):=by rw[cb,hmk,hmk,ci]
  refine(aq (n2 (n9 hmol2 (show mo.length<=1000000 by omega) (show out.length<=1000000 by omega) hmo1 hol @a2 @ax hot hmk) (n2 @kill_SS hap)))<|(zV) ?_;exact⟨_,_,hme.1,(Fg.less (by (simp only[bf,aN,cA,↓reduceIte,ac,slS,nbuf_p (show ¬(out.length+mo.length)=0 by omega),outS_p hq,hql])<;>(repeat' apply a0)<;>first | rfl | trivial) (by (simp only[bf,aN,or_true,true_or,slS,nbuf_p (show ¬(out.length+mo.length)=0 by omega),outS_p hq,hql])<;>(repeat' apply a0)<;>first | exact .inr rfl | exact .inl rfl | trivial)),r',mo,out++mo,fu-1,⟨hrn2,hme.2⟩,hgo,hsz2,rfl,rfl⟩
def lifeC(l1 l2 l3 l4 l5 l6:Int):List SV:=[aa l1,aa l2,aa l3,aa l4,aa l5,aa l6]
def cut6(a b x y:List SV)(off:Nat)(h:off=a.length):((a++(x++(y++b))).drop (off+x.length)).take y.length=y:=by
 subst h;rw[b9,show a.length+x.length-a.length=x.length by omega,be (by omega),nil_append,b9,ce,be (ax _),nil_append,drop_zero,bk (ax _),a9 (ax _)]
def put6(a b x y z:List SV)(off:Nat)(h:off=a.length)(hz:z.length=y.length):(a++(x++(y++b))).take (off+x.length)++(z++(a++(x++(y++b))).drop (off+x.length+z.length))=a++(x++(z++b)):=by
 subst h
 rw[List.take_append,show a.length+x.length-a.length=x.length by omega,a9 (by omega),bk (ax _),a9 (ax _),
  b9,be (by omega),nil_append,show a.length+x.length+z.length-a.length=x.length+z.length by omega,b9,be (by omega),nil_append,show x.length+z.length-x.length=y.length by omega,b9,be (ax _),nil_append,ce,drop_zero]
 simp
def lifeN(l1 l2 l3 l4 l5 l6:Int)(u:UseM)(d1 d2:Int):List SV:=lifeC (bothN plusN l1 l2 u.u1 u.u2).1 (bothN plusN l1 l2 u.u1 u.u2).2 (bothN plusN l3 l4 u.u3 u.u4).1 (bothN plusN l3 l4 u.u3 u.u4).2 (bothN plusN l5 l6 d1 d2).1 (bothN plusN l5 l6 d1 d2).2
def tx(a b:List SV)(l1 l2 l3 l4 l5 l6:Int)(u:UseM)(d1 d2:Int)(hg:bm (a++(lifeC l1 l2 l3 l4 l5 l6++b))=true):SC prog 46 [.ptr 0 a.length,.ag (encUse u),ivV d1 d2] [.cells (a++(lifeC l1 l2 l3 l4 l5 l6++b))] []
 (λr S'=>r=.aO []/\S'=[.cells (a++(lifeN l1 l2 l3 l4 l5 l6 u d1 d2++b))]):=by
 refine Aq 35 Tryz.func46 ?_;have hp1:=jh l1 l2 u.u1 u.u2;have hp2:=jh l3 l4 u.u3 u.u4;have hp3:=jh l5 l6 d1 d2;unfold lifeN;generalize bothN plusN l1 l2 u.u1 u.u2=q1 at hp1 ⊢;generalize bothN plusN l3 l4 u.u3 u.u4=q2 at hp2 ⊢;generalize bothN plusN l5 l6 d1 d2=q3 at hp3 ⊢;obtain⟨cs,hcs⟩:∃cs,cs=a++(lifeC l1 l2 l3 l4 l5 l6++b):=⟨_,rfl⟩;rw[<-hcs] at hg ⊢;have hk:∀o:Nat,cs.map (aH o)=cs:=λo=>aV hg
 have hl:cs.length=a.length+(6+b.length):=by rw[hcs,al,al];rfl
 have g1:(cs.drop a.length).take 2=[aa l1,aa l2]:=by rw[hcs];exact cut6 a (aa l3::aa l4::aa l5::aa l6::b) [] [aa l1,aa l2] a.length rfl
 have g2:(cs.drop (a.length+2)).take 2=[aa l3,aa l4]:=by rw[hcs];exact cut6 a (aa l5::aa l6::b) [aa l1,aa l2] [aa l3,aa l4] a.length rfl
 have g3:(cs.drop (a.length+4)).take 2=[aa l5,aa l6]:=by rw[hcs];exact cut6 a b [aa l1,aa l2,aa l3,aa l4] [aa l5,aa l6] a.length rfl
 obtain⟨c1,hc1⟩:∃c1,c1=cs.take a.length++(aa q1.1::aa q1.2::cs.drop (a.length+2)):=⟨_,rfl⟩
 have e1:c1=a++([aa q1.1,aa q1.2]++([aa l3,aa l4,aa l5,aa l6]++b)):=by rw[hc1,hcs];exact put6 a (aa l3::aa l4::aa l5::aa l6::b) [] [aa l1,aa l2] [aa q1.1,aa q1.2] a.length rfl rfl
 obtain⟨c2,hc2⟩:∃c2,c2=c1.take (a.length+2)++(aa q2.1::aa q2.2::c1.drop (a.length+2+2)):=⟨_,rfl⟩
 have e2:c2=a++([aa q1.1,aa q1.2]++([aa q2.1,aa q2.2]++([aa l5,aa l6]++b))):=by rw[hc2,e1];exact put6 a (aa l5::aa l6::b) [aa q1.1,aa q1.2] [aa l3,aa l4] [aa q2.1,aa q2.2] a.length rfl rfl
 obtain⟨c3,hc3⟩:∃c3,c3=c2.take (a.length+4)++(aa q3.1::aa q3.2::c2.drop (a.length+4+2)):=⟨_,rfl⟩
 have e3:c3=a++(lifeC q1.1 q1.2 q2.1 q2.2 q3.1 q3.2++b):=by rw[hc3,e2];exact put6 a b [aa q1.1,aa q1.2,aa q2.1,aa q2.2] [aa l5,aa l6] [aa q3.1,aa q3.2] a.length rfl rfl
 have hl1:c1.length=a.length+(6+b.length):=by rw[e1];simp;omega
 have hl2:c2.length=a.length+(6+b.length):=by rw[e2];simp;omega
 rw[<-e3];refine(aq (n3 @encUse.eq_1 @ivV.eq_1 hk)) ?_;refine ak.post ?_;refine(zs) ?_;refine kU [0,0,0,0,8,24,56,0,128,504,0,1024,3072,7168,0,16384,65528,0,131072,393216,917504,0,4194296,8388601,16777209,33554425,67108859,134217723,268435451,536870911,1073741823,2147483647] ?_;refine(jL (n4 hl (show a.length+2<=a.length+(6+b.length) by omega) g1 @bd)) ?_;refine SD.k (by rfl) rfl rfl (by rfl) rfl rfl (xb @ivV.eq_1) (hp1) (zw) rfl ?_;refine(jL (n5 hl @e4 (show a.length+4<=a.length+(6+b.length) by omega) g2 @bd)) ?_;refine SD.k (by rfl) rfl rfl (by rfl) rfl rfl (xb @ivV.eq_1) (hp2) (zw) rfl ?_;refine(jL (n5 hl @e4 (show a.length+6<=a.length+(6+b.length) by omega) g3 @bd)) ?_;refine SD.k (by rfl) rfl rfl (by rfl) rfl rfl (xb @ivV.eq_1) (hp3) (zw) rfl ?_;refine(jL @bd) ?_;refine SD.e (by rfl) rfl (by rfl) rfl rfl (by rfl) (gf (n6 @ivP.eq_1 @ivV.eq_1 hl @bd (show a.length+2<=a.length+(6+b.length) by omega) (Eq.symm hc1))) ?_;refine(jL @bd) ?_;refine SD.e (by rfl) rfl (by rfl) rfl rfl (by rfl) (gf (n5 @ivP.eq_1 @ivV.eq_1 hl1 (show a.length+2+2<=a.length+(6+b.length) by omega) (Eq.symm hc2))) ?_;refine(jL @bd) ?_;refine SD.e (by rfl) rfl (by rfl) rfl rfl (by rfl) (gf (n5 @ivP.eq_1 @ivV.eq_1 hl2 (show a.length+4+2<=a.length+(6+b.length) by omega) (Eq.symm hc3))) ?_;refine(zM) ?_;refine⟨⟨[(1000000,.ptr 0 0)],35,[.cells c3],[]⟩,(bg @ez.eq_1),?_⟩;exact zP []
def useOf(e:EvM):UseM:=⟨e.u1,e.u2,e.u3,e.u4,e.u5,e.u6⟩
def addLife(u:UseM)(d:Int×Int)(p:PartM):PartM:={ p with l1:=(bothN plusN p.l1 p.l2 u.u1 u.u2).1,l2:=(bothN plusN p.l1 p.l2 u.u1 u.u2).2,l3:=(bothN plusN p.l3 p.l4 u.u3 u.u4).1,l4:=(bothN plusN p.l3 p.l4 u.u3 u.u4).2,l5:=(bothN plusN p.l5 p.l6 d.1 d.2).1,l6:=(bothN plusN p.l5 p.l6 d.1 d.2).2 }
def useP(dmg:FormM)(ins:List (List Nat))(e:EvM)(p:PartM):PartM:=if ins.contains p.name=true then addLife (useOf e) (damageN dmg (useOf e)) p else p
def useN(dmg:FormM)(ps:List PartM)(e:EvM):List PartM:=ps.map (useP dmg (insideN ps e.part++[e.part]) e)
def runGo(c:List KKind)(dmg:FormM):Nat->List EvM->List PartM->List PartM×Int×Int
 | _,[],s=>(s,-1,0)
 | i,e::r,s=>if (fleetN c s e).2=0 then (if e.op=4 then runGo c dmg (i+1) r (useN dmg (fleetN c s e).1 e) else runGo c dmg (i+1) r (fleetN c s e).1) else ([],(i:Int),(fleetN c s e).2)
def lateEv(day:Int)(e:EvM):Bool:=decide (day<e.day)
def runN(c:List KKind)(dmg:FormM)(l:List EvM)(day:Int):List PartM×Int×Int:=if (catV c&&validForm dmg)=true then runGo c dmg 0 (sortEv (keptEv (lateEv day) l)) [] else ([],-1,1)
def runS(r:List PartM×Int×Int):SV:=.aO [.ag [slS 14 r.1 encPart],aa r.2.1,aa r.2.2]
def PartOk.life{p:PartM}(h:PartOk p)(u:UseM)(d:Int×Int):PartOk (addLife u d p):=⟨h.name,h.kind,h.into,h.slot,h.len,h.prop⟩
def putPart_mem{l:List PartM}{x p:PartM}(h:p∈putPart l x):p=x\/p∈l:=by
 unfold putPart at h;split at h
 ·rcases b4 h with h | h
  ·exact .inr h
  ·exact .inl h
 ·rcases mem_append.1 h with h | h
  ·exact .inr (dv h)
  ·rcases mem_cons.1 h with h | h
   ·exact .inl h
   ·exact .inr (dt h)
def putProp_mem{l:List PropM}{x p:PropM}(h:p∈putProp l x):p=x\/p∈l:=by
 unfold putProp at h;split at h
 ·rcases b4 h with h | h
  ·exact .inr h
  ·exact .inl h
 ·rcases mem_append.1 h with h | h
  ·exact .inr (dv h)
  ·rcases mem_cons.1 h with h | h
   ·exact .inl h
   ·exact .inr (dt h)
def putPart_len(l:List PartM)(x:PartM):(putPart l x).length<=l.length+1:=by
 unfold putPart;split
 ·rw[b2];omega
 ·rw[al,ay,a5,es];omega
def putPart_ne{l:List PartM}{x:PartM}:putPart l x≠[]:=by
 unfold putPart;split
 ·rename_i h;intro e;have e2:=congrArg List.length e;rw[b2] at e2;have e3:l=[]:=length_eq_zero_iff.1 e2;subst e3;simp[foundPart] at h
 ·simp
def good_nil:GoodS []:=⟨bW _,λb hb=>by cases hb⟩
def fleetN_put(c:List KKind)(ps:List PartM)(e:EvM)(hps:∀p∈ps,PartOk p)(he:EvOk e):(∃p,fleetN c ps e=(putPart ps p,0)/\PartOk p)\/∃k,fleetN c ps e=([],k)/\k≠0:=by
 have hget:∀name p,getP ps (atM 0 [] ps) name=some p->PartOk p:=by
  intro name p h;unfold getP at h;split at h
  ·exact hps p (aS h)
  ·cases h
 unfold fleetN;split
 ·split
  ·split
   ·unfold makeN;split
    ·exact .inr ⟨3,rfl,by decide⟩
    ·split
     ·exact .inr ⟨4,rfl,by decide⟩
     ·split
      ·exact .inr ⟨7,rfl,by decide⟩
      ·exact .inl ⟨_,rfl,⟨he.part,he.kind,good_nil,good_nil,by simp[newPart],λx hx=>by simp[newPart] at hx⟩⟩
   ·split
    ·rename_i p h hp hh;have hpo:=hget _ _ hp;split
     ·exact .inr ⟨5,rfl,by decide⟩
     ·unfold stepN;simp only
      repeat' split
      all_goals first
       | exact .inr ⟨_,rfl,by decide⟩
       | exact .inl ⟨p,rfl,hpo⟩
       | exact .inl ⟨_,rfl,⟨hpo.name,hpo.kind,he.into,he.slot,hpo.len,hpo.prop⟩⟩
       | exact .inl ⟨_,rfl,⟨hpo.name,hpo.kind,good_nil,good_nil,hpo.len,hpo.prop⟩⟩
       | exact .inl ⟨_,rfl,⟨hpo.name,hpo.kind,hpo.into,hpo.slot,hpo.len,hpo.prop⟩⟩
       | (
        refine .inl ⟨_,rfl,⟨hpo.name,hpo.kind,hpo.into,hpo.slot,?_,?_⟩⟩
        ·rename_i hle;show(putProp p.props ⟨e.key,e.value⟩).length<=_;omega
        ·intro x hx
         rcases putProp_mem hx with rfl | hx
         ·exact⟨he.key,he.value⟩
         ·exact hpo.prop x hx)
    ·exact .inr ⟨2,rfl,by decide⟩
  ·exact .inr ⟨1,rfl,by decide⟩
 ·exact .inr ⟨1,rfl,by decide⟩
def fleetN_ok{c:List KKind}{ps:List PartM}{e:EvM}(hps:∀p∈ps,PartOk p)(he:EvOk e):(∀p∈(fleetN c ps e).1,PartOk p)/\(fleetN c ps e).1.length<=ps.length+1/\((fleetN c ps e).2=0->(fleetN c ps e).1≠[])/\((fleetN c ps e).2≠0->(fleetN c ps e).1=[]):=by
 rcases fleetN_put c ps e hps he with⟨p,h,hp⟩ | ⟨k,h,hk⟩
 ·rw[h];refine⟨λq hq=>?_,putPart_len _ _,λ_=>putPart_ne,λh=>t7 rfl h⟩
  rcases putPart_mem hq with rfl | hq
  ·exact hp
  ·exact hps q hq
 ·rw[h];exact⟨λq hq=>by simp at hq,bW _,λh=>t7 h hk,λ_=>rfl⟩
def useN_ok{dmg:FormM}{ps:List PartM}{e:EvM}(hps:∀p∈ps,PartOk p):(∀p∈useN dmg ps e,PartOk p)/\(useN dmg ps e).length=ps.length:=by
 refine⟨λp hp=>?_,aX _⟩;obtain⟨q,hq,rfl⟩:=mem_map.1 hp;unfold useP;split
 ·exact(hps q hq).life _ _
 ·exact hps q hq
def nA(e:EvM)(day:Int):PC prog 39 [.ag (encEv e),.ip [aa day]] (·=ao (lateEv day e)):=by
 refine pB 8 Tryz.func39 ?_;exact(aq @encEv.eq_1)<|(zV)<|zo [.tmp 3]
def bnd_outS(B:Nat)(l:List (List Nat)):fK B (outS l)=true:=by
 unfold outS;split
 ·rfl
 ·rw[fK];exact aP (ar (λ_=>rfl) l)
def bnd_nbuf(B e n:Nat):bV (B+1) (nbuf 0 e n)=true:=by
 unfold nbuf;split
 ·exact c8 rfl
 ·rw[bV];exact ut (Nat.succ_pos B)
def go_len:∀(n:Nat) (r:RestM) (ls:List (List Nat)),(insideGo n r ls).length<=r.length
 | 0,_,_=>bW _
 | n+1,r,ls=>by
  rw[insideGo];split
  ·exact bW _
  ·rw[al,aX];have h1:=go_len n (r.filter λe=>!ls.contains e.2) ((r.filter λe=>ls.contains e.2).map (·.1));have h2:=part_len (λe:List Nat×List Nat=>ls.contains e.2) r;omega
def inside_len(ps:List PartM)(part:List Nat):(insideN ps part).length<=ps.length:=by
 unfold insideN;split
 ·have h1:(sortN (insideGo (ps.length+2) (restN ps part) [part])).length=(insideGo (ps.length+2) (restN ps part) [part]).length:=(sortP _).length_eq;rw[h1];refine bw (go_len _ _ _) (bw delM_len (bw (b5 _ _) ?_));have:=atM_len ps 0 [];simpa using this
 ·exact bW _
def sel_len(l:List EvM)(d:EvM->Bool):(sortEv (keptEv d l)).length<=l.length:=by
 rw[sortEv,insF_len];exact cd _ _
def sel_mem{l:List EvM}{d:EvM->Bool}{e:EvM}(h:e∈sortEv (keptEv d l)):e∈l:=(mem_filter.1 ((insF_perm _ _).mem_iff.1 h)).1
abbrev eT(e:EvM):List SV:=[ae e.part,ae e.kind,ae e.into,ae e.slot,ae e.key,ae e.value,aa e.u1,aa e.u2,aa e.u3,aa e.u4,aa e.u5,aa e.u6]
abbrev eA(e:EvM):List SV:=[aa e.op,aa e.day,ae e.part,ae e.kind,ae e.into,ae e.slot,ae e.key,ae e.value,aa e.u1,aa e.u2,aa e.u3,aa e.u4,aa e.u5,aa e.u6]
abbrev wE(c:List KKind)(dmg:FormM)(e:EvM)(ev:List EvM)(k:Nat):Fm:=[(3,.ip (slS 3 c encKind::encForm dmg)),(6,.ptr 0 0),(10,.ptr 1 0),(12,.ip (eA e)),(34,slS 14 ev encEv),(35,aa ev.length),(36,aa k)]
abbrev wF(c:List KKind)(dmg:FormM)(e:EvM)(ev:List EvM)(k:Nat)(I:List (List Nat))(d:Int×Int)(n k2:Nat):Fm:=[(3,.ip (slS 3 c encKind::encForm dmg)),(6,.ptr 0 0),(10,.ptr 1 0),(12,.ip (eA e)),(15,slS 1 I (one1 ae)),(16,.ip [aa d.1,aa d.2]),(34,slS 14 ev encEv),(35,aa ev.length),(36,aa k),(77,aa n),(78,aa k2)]
def qa(c:List KKind)(dmg:FormM)(l:List EvM)(day:Int)(hc:CatOk c)(hf:FormOk dmg)(hlen:l.length<20)(hl:∀e∈l,EvOk e):PC prog 19 [.ag (slS 3 c encKind::encForm dmg),slS 14 l encEv,aa day] (·=runS (runN c dmg l day)):=by
 have hfl:(encForm dmg).length=3:=encForm_len dmg;have hft:(encForm dmg).take 3=encForm dmg:=a9 (by rw[hfl];exact ax _);have hfk:=λo:Nat=>aV (o:=o) (encForm_gnd dmg);have hfn:=λo:Nat=>cu (o:=o) (encForm_gnd dmg);refine pB 101 Tryz.func19 ?_;refine(aq (n2 hfk hfn)) ?_;refine ak.fg (Fg.freeze (f':=[(1,slS 14 l encEv),(3,.ip (slS 3 c encKind::encForm dmg)),(5,.ptr 1 0),(6,.ptr 2 0),(7,aa 0),(8,aa 0)]) 0 rfl (λh=>by cases h) ⟨.inl rfl,.inr (.ptr rfl (aM.refl (encForm_gnd dmg)) (bW _)),.inl rfl,.inl rfl,.inl rfl,.inl rfl,trivial⟩) ?_
 (try change ak _ _ _ _ _)
 refine(zC)<|(zK (hY c hc)) ?_
 cases h1:catV c
 ·refine(zR)<|(bq)<|(zE) ?_;exact zO [.cell 6 56,.tmp 7,.tmp 8] (r:=.aO [.ag [.sl 0 14 []],aa (-1),aa 1]) (hw:=zv) (hq:=by (try simp only[bL,aF]);first | done | (rw[show runN c dmg l day=([],-1,1) by simp[runN,h1]];rfl))
 refine(Et (n2 hfl hft))<|(zK (jJ dmg hf) (hwk:=aM.cons (.ag (aM.refl (encForm_gnd dmg))) .nil)) ?_
 cases h2:Proofs.validForm dmg
 ·refine(zR)<|(bq)<|(zE) ?_;exact zO [.cell 6 56,.tmp 7,.tmp 8] (r:=.aO [.ag [.sl 0 14 []],aa (-1),aa 1]) (hw:=zv) (hq:=by (try simp only[bL,aF]);first | done | (rw[show runN c dmg l day=([],-1,1) by simp[runN,h1,h2]];rfl))
 refine(zR)<|(zN) ?_
 have hN:runN c dmg l day=runGo c dmg 0 (sortEv (keptEv (lateEv day) l)) []:=by rw[runN,h1,h2];rfl
 refine ak.fg (st':=⟨[(1,slS 14 l encEv),(3,.ip (slS 3 c encKind::encForm dmg)),(5,.ptr 1 0),(6,.ptr 2 0)],101,[.gone,.cells [aa day],.cells [.a (.slice none 0 0 (some 0))]],[]⟩) zH ?_;clear h1 h2;obtain⟨kp,hkp⟩:∃kp,kp=keptEv (lateEv day) l:=⟨_,rfl⟩
 have hkl:kp.length<=l.length:=by rw[hkp];exact kept_len _ _
 rw[<-hkp] at hN
 (repeat refine ak.seq ?_)
 refine ak.mono (Q:=λe st=>e=.normal/\Fg st ⟨[(3,.ip (slS 3 c encKind::encForm dmg)),(6,.ptr 0 0),(9,slS 14 kp encEv)],101,[.cells [.a (.slice none 0 0 (some 0))]],[]⟩) ?_ ?_
 ·by_cases hne:l=[]
  ·subst hne;have hk0:kp=[]:=hkp;subst hk0;refine(zC) ?_;refine zS [] (n2 hfk hfn) qA ?_;refine(zQ) ?_;refine zS [1] (n2 hfk hfn) (xZ 39 [aa day] rfl (lateEv day) (λx=>nA x day)) ?_;refine(zR) ?_;refine⟨rfl,?_⟩;refine Fg.trans (b:=⟨[(3,.ip (slS 3 c encKind::encForm dmg)),(6,.ptr 2 0),(9,slS 14 [] encEv)],101,[.gone,.gone,.cells [.a (.slice none 0 0 (some 0))]],[]⟩) ?_ (Fg.rn (f':=[(3,.ip (slS 3 c encKind::encForm dmg)),(6,.ptr 0 0),(9,slS 14 [] encEv)]) (n:=101) (S':=[.cells [.a (.slice none 0 0 (some 0))]]) [2] (by decide) rfl (by (simp only[hosG,cX,aN,slS,aK (encForm_gnd dmg)])<;>(repeat' apply a0)<;>first | trivial | exact .inl rfl | exact .inr rfl | exact .inr trivial | exact .inl trivial) (by (simp only[bf,cX,aN,slS,aK (encForm_gnd dmg)])<;>(repeat' apply a0)<;>first | rfl | trivial));exact Fg.trans (Fg.wk (f':=[(3,.ip (slS 3 c encKind::encForm dmg)),(6,.ptr 2 0),(9,slS 14 [] encEv)]) ⟨.inl rfl,.inl rfl,.inr (.Ft 14),trivial⟩) zH
  ·have hne0:¬l.length=0:=λh=>hne (length_eq_zero_iff.1 h);have hrq:∀(r:Nat->Nat) (q:List EvM),fV r (q.flatMap encEv)=q.flatMap encEv:=λr q=>aK (ar encEv_gnd q);have hbq:∀(B:Nat) (q:List EvM),dA B (q.flatMap encEv)=true:=λB q=>aP (ar encEv_gnd q);have hkq:=kill_cells encEv_gnd;have hdel:=x3 39 [aa day] rfl (lateEv day) (λx=>nA x day) l (by omega);rw[<-hkp] at hdel;obtain⟨q,hq⟩:∃q,q=kp++ba (l.length-kp.length) EvM.zero:=⟨_,rfl⟩
   have hqt:(q.flatMap encEv).take (kp.length*14)=kp.flatMap encEv:=by
    rw[flat_takes encEv_len,hq,bk (ax _),a9 (ax _)]
   have hql:(q.flatMap encEv).length=l.length*14:=by rw[flat_len' encEv_len,hq,al,c0];congr 1;omega
   rw[<-hq] at hdel;refine(zC) ?_;refine zS [] (n5 hfk hfn hrq hbq hkq) (qB l (by omega) hne) ?_;refine(zQ) ?_;refine zS [4,1] (n5 hfk hfn hrq hbq hkq) hdel ?_;refine(zR) ?_;refine⟨rfl,?_⟩;refine Fg.trans (b:=⟨[(3,.ip (slS 3 c encKind::encForm dmg)),(6,.ptr 2 0),(9,slS 14 kp encEv)],101,[.gone,.gone,.cells [.a (.slice none 0 0 (some 0))]],[]⟩) ?_ (Fg.rn (f':=[(3,.ip (slS 3 c encKind::encForm dmg)),(6,.ptr 0 0),(9,slS 14 kp encEv)]) (n:=101) (S':=[.cells [.a (.slice none 0 0 (some 0))]]) [2] (by decide) rfl (by (simp only[hosG,cX,aN,slS,aK (encForm_gnd dmg)])<;>(repeat' apply a0)<;>first | trivial | exact .inl rfl | exact .inr rfl | exact .inr trivial | exact .inl trivial) (by (simp only[bf,cX,aN,slS,aK (encForm_gnd dmg)])<;>(repeat' apply a0)<;>first | rfl | trivial));exact Fg.trans (Fg.freeze (f':=[(3,.ip (slS 3 c encKind::encForm dmg)),(6,.ptr 2 0),(9,slS 14 kp encEv)]) 4 rfl (λh=>by cases h) ⟨.inl rfl,.inl rfl,.inr (.buf rfl (by rw[hqt];exact aM.refl (ar encEv_gnd _)) (by rw[hql];exact Nat.mul_le_mul_right 14 hkl)),trivial⟩) zH
 rintro e st ⟨rfl,hfg⟩;refine ak.fg hfg ?_;clear hfg
 (try change ak _ _ _ _ _)
 have hkm:∀e∈sortEv kp,EvOk e:=λe he=>hl e (by rw[hkp] at he;exact sel_mem he)
 have hsl:(sortEv kp).length<20:=by have:=sel_len l (lateEv day);rw[<-hkp] at this;omega
 refine(fe)<|(zK (wD kp (by omega)) (hfl:=.inr (aM.refl (by rw[bm,slS,gw,bm];rfl)))) ?_
 generalize sortEv kp=ev at hN hkm hsl;refine(zR) ?_
 have hlen1:ev.length<=1000000:=by omega
 refine ak.fg (st':=⟨[(3,.ip (slS 3 c encKind::encForm dmg)),(6,.ptr 0 0),(10,.ptr 1 0),(34,slS 14 ev encEv),(35,aa ev.length),(36,aa 0)],101,[.cells [.a (.slice none 0 0 (some 0))],.cells [.a (.slice none 0 0 (some 0))]],[]⟩) zH ?_;refine ak.fg (Fg.FL (S':=[.cells [.a (.slice none 0 0 (some 0))],.cells [slS 14 ([]:List PartM) encPart]]) ⟨.inr ⟨by decide,.inl rfl⟩,.inr ⟨by decide,.inr ⟨_,_,rfl,rfl,.cons (.nil _) .nil⟩⟩,trivial⟩) ?_
 (try change ak _ _ _ _ _)
 refine(zs) ?_;refine Bl ev (λk (ps:List PartM)=>(runGo c dmg 0 ev []=runGo c dmg k (ev.drop k) ps/\(∀p∈ps,PartOk p)/\ps.length<=k)) (λk ps=>[(3,.ip (slS 3 c encKind::encForm dmg)),(6,.ptr 0 0),(10,.ptr 1 0),(34,slS 14 ev encEv),(35,aa ev.length),(36,aa k)]) (λk ps=>[.cells [.a (.slice none 0 0 (some 0))],.cells [slS 14 ps encPart]]) ([]) zH (by exact⟨rfl,(λp hp=>by cases hp),ax _⟩) ?_;intro k ps hk hall;refine zT ev k ?_ ?_;rintro rfl;rotate_left;intro e hx hlt;rotate_left
 ·refine(cV) ?_;obtain⟨hr,_,_⟩:=hall;rw[ct] at hr
  refine(zV)<|(zE) ?_;exact zO [.cell 6 56,.tmp 7,.tmp 8] (r:=.aO [.ag [slS 14 ps encPart],aa (-1),aa 0]) (hw:=zv) (hq:=by (try simp only[bL,aF]);first | done | (rw[hN,hr];rfl))
 obtain⟨hr,hps,hpl⟩:=hall;rw[drop_at hx] at hr;have heo:=hkm e (aS hx);have hap:=pR c ps e hc (by omega) hps heo;obtain⟨q1,q2,q3,q4⟩:=fleetN_ok (c:=c) hps heo
 have hr2:runGo c dmg k (e::ev.drop (k+1)) ps=if (fleetN c ps e).2=0 then (if e.op=4 then runGo c dmg (k+1) (ev.drop (k+1)) (useN dmg (fleetN c ps e).1 e) else runGo c dmg (k+1) (ev.drop (k+1)) (fleetN c ps e).1) else ([],(k:Int),(fleetN c ps e).2):=rfl
 rw[hr2] at hr;clear hr2;obtain⟨nx,er,hne⟩:∃nx er,fleetN c ps e=(nx,er):=⟨_,_,rfl⟩;rw[hne] at hap q1 q2 q3 q4 hr;simp only at q1 q2 q3 q4 hr;rw[encEv_eq] at hap
 refine(dI)<|(aq (n3 hlt (au (e:=14) (enc:=encEv) (λ_=>rfl) hx) @encEv_eq)) ?_;refine ak.fg (Fg.freeze (f':=[(3,.ip (slS 3 c encKind::encForm dmg)),(6,.ptr 0 0),(10,.ptr 1 0),(11,aa k),(12,.ip (eA e)),(34,slS 14 ev encEv),(35,aa ev.length),(36,aa k)]) 2 rfl (λh=>by cases h) (jM @slS.eq_1)) ?_
 (try change ak _ _ _ _ _)
 refine(zC)<|(zK hap (hfl:=.inr (aM.refl rfl)))<|(bE @applyS.eq_1) ?_
 by_cases herr:er=0;rotate_left
 ·rw[ul herr] at hr;have hnil:=q4 herr
  refine(aq (un herr))<|(bq)<|(zE) ?_;exact zO [.cell 6 56,.tmp 7,.tmp 8] (r:=.aO [.ag [.sl 0 14 []],aa k,aa er]) (hw:=zv) (hq:=by (try simp only[bL,aF]);first | done | (rw[hN,hr];rfl))
 rw[t8 herr] at hr;subst herr
 refine(yT)<|(zV) ?_
 by_cases hop:e.op=4;rotate_left
 ·rw[ul hop] at hr
  refine(aq (un hop))<|(zY) ?_;refine ak.exit ?_
  (try change ak _ _ _ _ _)
  refine(aq (zi hlt hlen1)) ?_;refine xf hlt (nx) zH (⟨hr,q1,by omega⟩)
 rw[t8 hop] at hr
 refine(aq (ut hop))<|(zN) ?_;refine ak.fg (st':=⟨wE c dmg e ev k,101,[.cells [.a (.slice none 0 0 (some 0))],.cells [slS 14 nx encPart]],[]⟩) zH ?_
 (try change ak _ _ _ _ _)
 obtain⟨ins,hins⟩:∃ins,ins=insideN nx e.part:=⟨_,rfl⟩
 have hinl:ins.length<=100000:=by rw[hins];exact bw (inside_len nx e.part) (by omega)
 (repeat refine ak.seq ?_)
 refine ak.rQ 7 12 (λL=>⟨(58,vo L 0 (.ag [slS 14 nx encPart]))::(59,vo L 1 (.ip (eT e)))::(60,vo L 2 (ae e.part))::(61,vo L 3 (nbuf 2 1 ins.length))::(62,vo L 4 (.ip (eT e)))::(63,vo L 5 (ae e.part))::(64,vo L 6 (.buf 3 1 1 (some 1)))::wE c dmg e ev k,101,[.cells [.a (.slice none 0 0 (some 0))],.cells [slS 14 nx encPart],wo L 3 (outS ins),wo L 6 (.cells [ae e.part])],[]⟩) rfl (by kernel_rfl) (by rfl) (by decide) (by kernel_rfl) (bg (n2 @Av @Dz)) (λL=>rfl) ?_ ?_
 ·rintro L i o him hC hr
  rcases i with _ | _ | _ | _ | _ | _ | _ | i
  rotate_right
  ·exact t7 him (by omega)
  ·cases hr.at';refine(zR) ?_;exact(bg (n2 @aL @jl))
  ·cases hr.at';refine(zR) ?_;exact(bg (n2 @aL @jl))
  ·cases hr.at';have d1:L 1:=hr.dep ⟨1,.data⟩ (by simp) rfl;refine(bE (da d1)) ?_;exact(bg (n3 @aL @jl (da d1)))
  ·cases hr.at';have d0:L 0:=hr.dep ⟨0,.data⟩ (by simp) rfl;have d2:L 2:=hr.dep ⟨2,.data⟩ (by simp) rfl;have hn3:¬L 3:=hr.new;have hin:=vZ nx e.part (by omega);rw[<-hins] at hin;refine aB.sk [] (by rfl) rfl rfl (by rfl) rfl (xb (n2 (da d0) (da d2))) (hin) (by simp only[cX,aN,slS,↓reduceIte,ac,af,aD,ap,ad,aj,cB d0,cB d2,↓gU,bQ,hfk,hfn,names_nbuf (show 2≠4 by decide),kill_outS,rn_nbuf,rn_outS,bnd_nbuf,bnd_outS,ec hn3];first | done | rfl) rfl (by decide) (by simp only[hosL,cX,aN,slS,cB d0,cB d2,↓gU,bQ,hfk,hfn,names_nbuf (show 2≠4 by decide),kill_outS,rn_nbuf,rn_outS,bnd_nbuf,bnd_outS,ec hn3]<;>(repeat' apply a0)<;>first | trivial | rfl | (intro hh;cases hh)) (by simp only[qx,cX,aN,slS,af,aj,decide_true,cB d0,cB d2,↓gU,bQ,hfk,hfn,names_nbuf (show 2≠4 by decide),kill_outS,rn_nbuf,rn_outS,bnd_nbuf,bnd_outS,ec hn3];first | done | rfl) (by simp only[qx,cX,aN,slS,af,aj,decide_true,cB d0,cB d2,↓gU,bQ,hfk,hfn,names_nbuf (show 2≠4 by decide),kill_outS,rn_nbuf,rn_outS,bnd_nbuf,bnd_outS,ec hn3];first | done | rfl) (by simp only[cX,aN,slS,↓reduceIte,ac,af,aD,ap,ad,aj,cB d0,cB d2,↓gU,bQ,hfk,hfn,names_nbuf (show 2≠4 by decide),kill_outS,rn_nbuf,rn_outS,bnd_nbuf,bnd_outS,ec hn3];first | done | rfl) (by simp only[cX,aN,slS,↓reduceIte,ac,af,aD,ap,ad,aj,cB d0,cB d2,↓gU,bQ,hfk,hfn,names_nbuf (show 2≠4 by decide),kill_outS,rn_nbuf,rn_outS,bnd_nbuf,bnd_outS,ec hn3,cm,bZ,killO,aH,bf];first | done | rfl) (by simp only[cX,aN,slS,↓reduceIte,ac,af,aD,ap,ad,aj,cB d0,cB d2,↓gU,bQ,hfk,hfn,names_nbuf (show 2≠4 by decide),kill_outS,rn_nbuf,rn_outS,bnd_nbuf,bnd_outS,ec hn3,cm,bZ,killO,aH,bf];first | done | rfl) ?_;refine .nil ?_;exact((Fg.rn (f':=(58,(.ag [slS 14 nx encPart]))::(59,vo L 1 (.ip (eT e)))::(60,(ae e.part))::(61,(nbuf 2 1 ins.length))::(62,vo L 4 (.ip (eT e)))::(63,vo L 5 (ae e.part))::(64,vo L 6 (.buf 3 1 1 (some 1)))::wE c dmg e ev k) (n:=101) (S':=[.cells [.a (.slice none 0 0 (some 0))],.cells [slS 14 nx encPart],outS ins,wo L 6 (.cells [ae e.part])]) [0,1,4,3] (by decide) rfl (by (simp only[hosG,cX,aN,slS,An,Ao,rn_outS,rn_nbuf,aK (encForm_gnd dmg),bQ,names_nbuf (show 2≠4 by decide)])<;>(repeat' apply a0)<;>first | trivial | exact .inl rfl | exact .inr rfl | exact .inr trivial | exact .inl trivial) (by (simp only[bf,cX,aN,slS,An,Ao,rn_outS,rn_nbuf,aK (encForm_gnd dmg),bQ,names_nbuf (show 2≠4 by decide)])<;>(repeat' apply a0)<;>first | rfl | trivial))).trans (bg (n4 @aL @jl (da d0) (da d2)))
  ·cases hr.at';refine(zR) ?_;exact(bg (n2 @aL @jl))
  ·cases hr.at';have d4:L 4:=hr.dep ⟨4,.data⟩ (by simp) rfl;refine(bE (da d4)) ?_;exact(bg (n3 @aL @jl (da d4)))
  ·cases hr.at';have d5:L 5:=hr.dep ⟨5,.data⟩ (by simp) rfl;have hn6:¬L 6:=hr.new;refine aB.r0 (by rfl) (by simp only[bf,aN,slS,an,a4,a8,↓reduceIte,ac,af,ap,ad,aj,ab,ah,isSub,cB d5,↓gU,bQ,hfk,hfn,names_nbuf (show 2≠4 by decide),kill_outS,ec hn6];first | done | rfl) ?_;exact((Fg.rn (f':=(58,vo L 0 (.ag [slS 14 nx encPart]))::(59,vo L 1 (.ip (eT e)))::(60,vo L 2 (ae e.part))::(61,vo L 3 (nbuf 2 1 ins.length))::(62,vo L 4 (.ip (eT e)))::(63,(ae e.part))::(64,(.buf 3 1 1 (some 1)))::wE c dmg e ev k) (n:=101) (S':=[.cells [.a (.slice none 0 0 (some 0))],.cells [slS 14 nx encPart],wo L 3 (outS ins),.cells [ae e.part]]) [0,1,2,4] (by decide) rfl (by (simp only[hosG,cX,aN,slS,An,Ao,rn_outS,rn_nbuf,aK (encForm_gnd dmg),bQ,names_nbuf (show 2≠4 by decide)])<;>(repeat' apply a0)<;>first | trivial | exact .inl rfl | exact .inr rfl | exact .inr trivial | exact .inl trivial) (by (simp only[bf,cX,aN,slS,An,Ao,rn_outS,rn_nbuf,aK (encForm_gnd dmg),bQ,names_nbuf (show 2≠4 by decide)])<;>(repeat' apply a0)<;>first | rfl | trivial))).trans (bg (n3 @aL @jl (da d5)))
 change aB _ _ _ _ _ _;refine aB.mono (K:=λx=>Fg x ⟨(65,.buf 2 (ins.length+1) 1 none)::wE c dmg e ev k,101,[.cells [.a (.slice none 0 0 (some 0))],.cells [slS 14 nx encPart],.cells ((ins++[e.part]).flatMap (one1 ae))],[]⟩) ?_ λx hx=>?_
 ·have v7:∀i,i<7->∀v:SV,vo (λj=>j<7) i v=v:=λi h v=>cB h;have w7:∀i,i<7->∀v:SO,wo (λj=>j<7) i v=v:=λi h v=>jk h;have a3:=v7 3 (by decide);have a6:=v7 6 (by decide);have b3:=w7 3 (by decide);have b6:=w7 6 (by decide);have happ:=app_cells (enc:=one1 ae) (e:=1) (λ_=>rfl) (λ_=>rfl) 2 ins e.part;rw[show one1 ae e.part=[ae e.part] from rfl,a2] at happ;have hcl:=flat_len' (enc:=one1 ae) (e:=1) (λ_=>rfl) ins;by_cases hi0:ins=[]
  ·subst hi0;refine(bE (n10 a3 a6 b3 b6 @nbuf_0 @length_nil.{0} @outS_nil hfk hfn @bQ)) ?_;exact((Fg.rn (f':=(65,.buf 2 1 1 none)::wE c dmg e ev k) (n:=101) (S':=[.cells [.a (.slice none 0 0 (some 0))],.cells [slS 14 nx encPart],.cells [ae e.part]]) [0,1,4] (by decide) rfl (by (simp only[hosG,cX,aN,slS,aK (encForm_gnd dmg)])<;>(repeat' apply a0)<;>first | trivial | exact .inl rfl | exact .inr rfl | exact .inr trivial | exact .inl trivial) (by (simp only[bf,cX,aN,slS,aK (encForm_gnd dmg)])<;>(repeat' apply a0)<;>first | rfl | trivial))).trans (bg (n5 @one1.eq_1 @nil_append.{0} @flatMap_cons.{0,0} @flatMap_nil.{0,0} @length_nil.{0}))
  ·have hil:¬ins.length=0:=λh=>hi0 (length_eq_zero_iff.1 h);refine(bE (n2 (n9 a3 a6 b3 b6 (nbuf_p (o:=2) (e:=1) hil) (outS_p hi0) hfk hfn @bQ) (n6 (λo:Nat=>kill_cells (enc:=one1 ae) (λ_=>rfl) o ins) hcl @a2 @ax (show ins.length<=1000000 by omega) happ))) ?_;exact zH
 change aB _ _ _ _ _ _;refine aB.fg hx ?_;refine(zR) ?_;change ak _ _ _ _ _;refine ak.fg (st':=⟨(15,.buf 2 (ins.length+1) 1 none)::wE c dmg e ev k,101,[.cells [.a (.slice none 0 0 (some 0))],.cells [slS 14 nx encPart],.cells ((ins++[e.part]).flatMap (one1 ae))],[]⟩) zH ?_;obtain⟨I,hI⟩:∃I,I=ins++[e.part]:=⟨_,rfl⟩
 have hIl:I.length=ins.length+1:=by rw[hI,al];rfl
 rw[<-hI];refine ak.fg (Fg.freeze (f':=[(3,.ip (slS 3 c encKind::encForm dmg)),(6,.ptr 0 0),(10,.ptr 1 0),(12,.ip (eA e)),(15,slS 1 I (one1 ae)),(34,slS 14 ev encEv),(35,aa ev.length),(36,aa k)]) 2 rfl (λh=>by cases h) ⟨.inl rfl,.inl rfl,.inl rfl,.inl rfl,.inr (by rw[je 1 I (one1 ae),hIl];exact .buf rfl (by rw[<-hIl,flat_all (enc:=one1 ae) (e:=1) (λ_=>rfl)];exact aM.refl (ar (λ_=>rfl) _)) (by rw[flat_len' (enc:=one1 ae) (e:=1) (λ_=>rfl),hIl];exact ax _)),.inl rfl,.inl rfl,.inl rfl,trivial⟩) ?_
 (try change ak _ _ _ _ _)
 have hd:=vR dmg (useOf e) hf;simp only[encUse,useOf] at hd;obtain⟨d,hdd⟩:∃d,d=damageN dmg (useOf e):=⟨_,rfl⟩;have hdd2:damageN dmg ⟨e.u1,e.u2,e.u3,e.u4,e.u5,e.u6⟩=d:=hdd.symm;rw[hdd2] at hd
 refine(e8 (n2 hfl hft))<|(zK hd (hwk:=aM.cons (.ag (aM.refl (encForm_gnd dmg))) (.cons (.ag (aM.refl rfl)) .nil)))<|(bE (n4 @ivP.eq_1 @ivV.eq_1 hfk hfn)) ?_
 have hnn:=q3 rfl;have hn0:0<nx.length:=b7 λh=>hnn (length_eq_zero_iff.1 h);have hrq:∀(r:Nat->Nat) (q:List PartM),fV r (q.flatMap encPart)=q.flatMap encPart:=λr q=>aK (ar encPart_gnd q);have hbq:∀(B:Nat) (q:List PartM),dA B (q.flatMap encPart)=true:=λB q=>aP (ar encPart_gnd q);have hkq:=kill_cells (enc:=encPart) encPart_gnd
 refine(zC) ?_;refine zS [] (n5 hfk hfn hrq hbq hkq) (jn nx (by omega) hnn) ?_;refine(zR)<|(zV) ?_;refine ak.fg (st':=⟨[(3,.ip (slS 3 c encKind::encForm dmg)),(6,.ptr 0 0),(10,.ptr 1 0),(12,.ip (eA e)),(15,slS 1 I (one1 ae)),(16,.ptr 3 0),(34,slS 14 ev encEv),(35,aa ev.length),(36,aa k),(76,.buf 5 nx.length 14 none),(77,aa nx.length),(78,aa 0)],101,[.cells [.a (.slice none 0 0 (some 0))],.cells [.buf 5 nx.length 14 none],.gone,.cells [aa d.1,aa d.2],.gone,.cells (nx.flatMap encPart)],[]⟩) zH ?_;refine ak.fg (Fg.freeze (f':=(wF c dmg e ev k I d nx.length 0)) 3 rfl (λh=>by cases h) (jM @slS.eq_1)) ?_;refine ak.fg (st':=⟨(wF c dmg e ev k I d nx.length 0),101,[.cells [.a (.slice none 0 0 (some 0))],.cells [.buf 2 nx.length 14 none],.cells (nx.flatMap encPart)],[]⟩) (Fg.rn [0,1,5] (by decide) rfl (by (simp only[hosG,cX,aN,slS,hrq,aK (encForm_gnd dmg)])<;>(repeat' apply a0)<;>first | trivial | exact .inl rfl | exact .inr rfl | exact .inr trivial | exact .inl trivial) (by (simp only[bf,cX,aN,slS,hrq,aK (encForm_gnd dmg)])<;>(repeat' apply a0)<;>first | rfl | trivial)) ?_
 have hIu:useN dmg nx e=nx.map (useP dmg I e):=by unfold useN;rw[hI,hins]
 have hnl:nx.length<=1000000:=by omega
 refine(zs) ?_;refine zL nx (λk2=>True) (λk2=>(wF c dmg e ev k I d nx.length k2)) (λk2=>[.cells [.a (.slice none 0 0 (some 0))],.cells [.buf 2 nx.length 14 none],.cells ((((nx.take k2).map (useP dmg I e))++nx.drop k2).flatMap encPart)]) (bg (n4 @take_zero.{0} @map_nil.{0,0} @drop_zero.{0} @nil_append.{0})) zp ?_;intro k2 hk2 hall2;refine zT nx k2 ?_ ?_;rintro rfl;rotate_left;intro p hx2 hlt2;rotate_left
 ·refine(cV) ?_;rw[bc,ct,b0,<-hIu];obtain⟨r1,r2⟩:=useN_ok (dmg:=dmg) (e:=e) q1;generalize useN dmg nx e=ux at hr r1 r2;refine ak.fg (Fg.sB (f':=[(3,.ip (slS 3 c encKind::encForm dmg)),(6,.ptr 0 0),(10,.ptr 1 0),(12,.ip (eA e)),(15,slS 1 I (one1 ae)),(34,slS 14 ev encEv),(35,aa ev.length),(36,aa k)]) (S':=[.cells [.a (.slice none 0 0 (some 0))],.cells [slS 14 ux encPart]]) 2 rfl (λh=>by cases h) (jM @slS.eq_1) ⟨.inr ⟨by decide,.inl rfl⟩,.inr ⟨by decide,.inr ⟨_,_,rfl,rfl,.cons (by rw[je 14 ux encPart,r2];exact .buf rfl (by rw[<-r2,flat_all (enc:=encPart) (e:=14) (λ_=>rfl)];exact aM.refl (ar encPart_gnd _)) (by rw[flat_len' (enc:=encPart) (e:=14) (λ_=>rfl),r2];exact ax _)) .nil⟩⟩,trivial⟩) ?_
  (try change ak _ _ _ _ _)
  refine(aq (zi hlt hlen1)) ?_;refine xf hlt (ux) zH (⟨hr,r1,by omega⟩)
 have hdrop:=drop_at hx2;obtain⟨q,hq⟩:∃q,q=(nx.take k2).map (useP dmg I e)++nx.drop k2:=⟨_,rfl⟩
 have hqx:q[k2]?=some p:=by
  rw[hq,List.getElem?_append_right (by rw[aX,a5];omega),aX,a5,ca (by omega),ce,hdrop];rfl
 have hql:q.length=nx.length:=by rw[hq,al,aX,a5,es];omega
 have hqc:(q.flatMap encPart).length=nx.length*14:=by rw[flat_len' (enc:=encPart) (e:=14) (λ_=>rfl),hql]
 have hnext:((nx.take (k2+1)).map (useP dmg I e)++nx.drop (k2+1))=q.set k2 (useP dmg I e p):=by
  rw[hq,takeN_snoc hx2,cb,hdrop,c4 _ _ (by rw[aX,a5];omega),aX,a5,ca (by omega),ce,cl,bh];rfl
 have hcell:(q.flatMap encPart)[k2*14]?=some (ae p.name):=by
  have h1:((q.flatMap encPart).drop (k2*14)).take 14=encPart p:=au (e:=14) (enc:=encPart) (λ_=>rfl) hqx;have h2:=congrArg (λl=>l[0]?) h1;simp only[d9,d8,bd] at h2;exact h2
 rw[<-hq]
 refine(dI)<|(zV)<|(e8 (n3 hlt2 @bd hcell))<|(zK (fD I p.name (by omega)) (hwk:=aM.cons (.sl _ _ _) (.cons (.a _) .nil))) ?_
 cases hcn:I.contains p.name
 ·have hup:useP dmg I e p=p:=by unfold useP;rw[hcn];rfl
  rw[hup] at hnext
  have hset:q.set k2 p=q:=by
   apply ei;intro j;by_cases hj:k2=j
   ·subst hj;rw[cp (aE hqx),hqx]
   ·rw[dl hj]
  rw[hset] at hnext
  refine(zR)<|(zN)<|(aq (zi hlt2 hnl)) ?_;refine zX hlt2 (bg hnext) trivial
 refine(zR)<|(zY) ?_
 have hup:useP dmg I e p=addLife (useOf e) d p:=by unfold useP;rw[hcn,<-hdd];rfl
 obtain⟨A,hA⟩:∃A,A=(q.take k2).flatMap encPart++[ae p.name,ae p.kind,ae p.into,ae p.slot,aa p.made,aa p.since,ao p.scrapped,slS 2 p.props encProp]:=⟨_,rfl⟩;obtain⟨B,hB⟩:∃B,B=(q.drop (k2+1)).flatMap encPart:=⟨_,rfl⟩
 have hkl:k2<q.length:=by omega
 have hAl:A.length=k2*14+8:=by rw[hA,al,flat_len' (enc:=encPart) (e:=14) (λ_=>rfl),a5,ca (by omega)];rfl
 have hqs:q.take k2++(p::q.drop (k2+1))=q:=by rw[<-drop_at hqx,List.take_append_drop]
 have hsplit:q.flatMap encPart=A++(lifeC p.l1 p.l2 p.l3 p.l4 p.l5 p.l6++B):=by
  rw[hA,hB,bh]
  conv=>lhs;rw[<-hqs,ci,flatMap_cons]
  rfl
 have hset:(q.set k2 (addLife (useOf e) d p)).flatMap encPart=A++(lifeN p.l1 p.l2 p.l3 p.l4 p.l5 p.l6 (useOf e) d.1 d.2++B):=by
  rw[hA,hB,bh,List.set_eq_take_append_cons_drop,t8 hkl,ci,flatMap_cons];rfl
 rw[hup] at hnext;have hla:=tx A B p.l1 p.l2 p.l3 p.l4 p.l5 p.l6 (useOf e) d.1 d.2 (by rw[<-hsplit];exact ar encPart_gnd q);rw[<-hsplit,<-hset,hAl] at hla;simp only[encUse,useOf,ivV] at hla;refine ak.rQ 8 9 (λL=>⟨(89,vo L 0 (.ptr 1 0))::(90,vo L 1 (.buf 2 nx.length 14 none))::(91,vo L 2 (aa k2))::(92,vo L 3 (.ptr 2 (k2*14)))::(93,vo L 4 (.ptr 2 (k2*14+8)))::(94,vo L 5 (.ip [aa e.u1,aa e.u2,aa e.u3,aa e.u4,aa e.u5,aa e.u6]))::(95,vo L 6 (.ag [aa e.u1,aa e.u2,aa e.u3,aa e.u4,aa e.u5,aa e.u6]))::(96,vo L 7 (.ag [aa d.1,aa d.2]))::(17,aa k2)::wF c dmg e ev k I d nx.length k2,101,[.cells [.a (.slice none 0 0 (some 0))],.cells [.buf 2 nx.length 14 none],.cells (q.flatMap encPart)],[]⟩) rfl (by kernel_rfl) (by rfl) (by decide) (by kernel_rfl) (bg @Av) (λL=>rfl) ?_ ?_
 ·rintro L i o him hC hr
  rcases i with _ | _ | _ | _ | _ | _ | _ | _ | i
  rotate_right
  ·exact t7 him (by omega)
  ·cases hr.at';refine(zR) ?_;exact(bg @aL)
  ·cases hr.at';have d0:L 0:=hr.dep ⟨0,.data⟩ (by simp) rfl;refine(bE (da d0)) ?_;exact(bg (n2 @aL (da d0)))
  ·cases hr.at';refine(zR) ?_;exact(bg @aL)
  ·cases hr.at';have d1:L 1:=hr.dep ⟨1,.data⟩ (by simp) rfl;have d2:L 2:=hr.dep ⟨2,.data⟩ (by simp) rfl;refine(bE (n3 (da d1) (da d2) hlt2)) ?_;exact(bg (n3 @aL (da d1) (da d2)))
  ·cases hr.at';have d3:L 3:=hr.dep ⟨3,.data⟩ (by simp) rfl;refine(bE (n2 (da d3) hqc)) ?_;exact(bg (n2 @aL (da d3)))
  ·cases hr.at';refine(zR) ?_;exact(bg @aL)
  ·cases hr.at';have d5:L 5:=hr.dep ⟨5,.data⟩ (by simp) rfl;refine(bE (da d5)) ?_;exact(bg (n2 @aL (da d5)))
  ·cases hr.at';refine(zR) ?_;exact(bg @aL)
 have v8:∀i,i<8->∀v:SV,vo (λj=>j<8) i v=v:=λi h v=>cB h;have v84:=v8 4 (by decide);have v86:=v8 6 (by decide);have v87:=v8 7 (by decide);change aB _ _ _ _ _ _;refine aB.fg (st':=⟨(93,.ptr 2 (k2*14+8))::(95,.ag [aa e.u1,aa e.u2,aa e.u3,aa e.u4,aa e.u5,aa e.u6])::(96,.ag [aa d.1,aa d.2])::wF c dmg e ev k I d nx.length k2,101,[.cells [.a (.slice none 0 0 (some 0))],.cells [.buf 2 nx.length 14 none],.cells (q.flatMap encPart)],[]⟩) (bg (n3 v84 v86 v87)) ?_;refine zS [2] (n5 hfk hfn hrq hbq hkq) hla ?_;refine(zR) ?_;simp only[useOf] at hnext;refine(aq (zi hlt2 hnl)) ?_;refine zX hlt2 (bg hnext) trivial
def okG(least:Int)(p:RepM×Int):Bool:=!(decide (choicesN p.1=0))&&(!(decide (p.2<least))&&!(decide (choicesN p.1<=p.2)))
def givenN(c:List KKind)(l:List RepM)(ch:List Int)(least:Int):Bool:=catV c&&(decide (l.length=ch.length)&&(l.zip ch).all (okG least))
def pW(c:List KKind)(l:List RepM)(ch:List Int)(least:Int)(hc:CatOk c)(hl:∀r∈l,RepOk r)(hlen:l.length<=1000000)(hlc:ch.length<=1000000):PC prog 111 [.ag [slS 3 c encKind],slS 2 l encRep,slS 1 ch (one1 aa),aa least] (·=ao (givenN c l ch least)):=by
 refine pB 50 Tryz.func111 ?_;refine(fe)<|(zK (hY c hc)) ?_
 cases h1:catV c
 ·exact(bE h1)<|(bq)<|zo [.tmp 8] (hq:=by rw[givenN,h1];rfl)
 by_cases heq:l.length=ch.length;rotate_left
 ·exact(bE (n2 h1 (show(!decide ((ch.length:Int)=(l.length:Int)))=true by simp;omega)))<|(bq)<|zo [.tmp 8] (hq:=by rw[givenN,h1,un heq];rfl)
 refine(bE (n2 h1 (show(!decide ((ch.length:Int)=(l.length:Int)))=false by simp;omega)))<|(ee) ?_
 have hz:∀{k:Nat} {r:RepM} {n:Int},l[k]?=some r->ch[k]?=some n->(l.zip ch)[k]?=some (r,n):=λh1 h2=>by
  rw[b1];exact⟨h1,h2⟩
 refine(zs) ?_;refine zL l (λk=>((l.zip ch).take k).all (okG least)=true) (λk=>[(2,slS 1 ch (one1 aa)),(3,aa least),(22,slS 2 l encRep),(23,aa l.length),(24,aa k)]) (λk=>[]) zH zp ?_;intro k hk hall;refine zT l k ?_ ?_;rintro rfl;rotate_left;intro r hx hlt;rotate_left
 ·refine(cV) ?_
  have hzl:(l.zip ch).length=l.length:=by rw[ds,<-heq,em]
  rw[<-hzl,bc] at hall
  exact(zV)<|zo [.tmp 8] (hq:=by rw[givenN,h1,ut heq,hall];rfl)
 have hrk:RepOk r:=hl r (aS hx);have hr1:=hrk.len;obtain⟨n,hn⟩:∃n,ch[k]?=some n:=⟨ch[k],a1 (by omega)⟩;have hzk:=hz hx hn;have ht:=takeN_snoc hzk
 have hlc2:k<ch.length:=by omega
 have hall2:okG least (r,n)=true->((l.zip ch).take (k+1)).all (okG least)=true:=λh=>by
  rw[ht,ex,hall];show(true&&(okG least (r,n)&&true))=true;rw[h];rfl
 have hbad:okG least (r,n)=false->givenN c l ch least=false:=λh=>by
  rw[givenN,h1,ut heq];refine Bool.eq_false_iff.2 λh2=>?_;have:=List.all_eq_true.1 h2 _ (aS hzk);rw[h] at this;cases this
 refine(dI)<|(aq (n3 hlt (au (e:=2) (enc:=encRep) (λ_=>rfl) hx) @encRep.eq_1))<|(zC)<|(zK (dW r hrk))<|(zR) ?_
 cases g0:decide (choicesN r=0);rotate_left
 ·exact(aq g0)<|(bq)<|zo [.tmp 8] (hq:=by rw[hbad (by rw[okG,g0];rfl)])
 cases g1:decide (n<least);rotate_left
 ·exact(aq (n5 g0 g1 hlc2 (au (e:=1) (enc:=one1 aa) (λ_=>rfl) hn) @one1.eq_1))<|(bq)<|zo [.tmp 8] (hq:=by rw[hbad (by rw[okG,g0,g1];rfl)])
 cases g2:decide (choicesN r<=n);rotate_left
 ·exact(aq (n6 g0 g1 g2 hlc2 (au (e:=1) (enc:=one1 aa) (λ_=>rfl) hn) @one1.eq_1))<|(bq)<|zo [.tmp 8] (hq:=by rw[hbad (by rw[okG,g0,g1,g2];rfl)])
 refine(aq (n6 g0 g1 g2 hlc2 (au (e:=1) (enc:=one1 aa) (λ_=>rfl) hn) @one1.eq_1))<|(zN)<|(aq (zi hlt hlen)) ?_;refine zX hlt zH (hall2 (by rw[okG,g0,g1,g2];rfl))
def subI(a b:Int):Int:=bR .i64 (a-b)
def subI_eq{a b:Int}(h : -9223372036854775808<=a-b/\a-b<=9223372036854775807):subI a b=a-b:=by
 unfold subI bR
 have h1:(iJ (xe .i64) (a-b)&&iJ (a-b) (xd .i64))=true:=by
  show(iJ (-9223372036854775808) (a-b)&&iJ (a-b) 9223372036854775807)=true;rw[cL,cL];simp[h.1,h.2]
 rw[h1];rfl
def encPk(p:EvM×Int):List SV:=[aa p.1.op,aa p.1.day,ae p.1.part,ae p.1.kind,ae p.1.into,ae p.1.slot,ae p.1.key,ae p.1.value,aa p.1.u1,aa p.1.u2,aa p.1.u3,aa p.1.u4,aa p.1.u5,aa p.1.u6,aa p.2]
def encPk_len(e:EvM×Int):(encPk e).length=15:=rfl
def encPk_eq(p:EvM×Int):encPk p=[aa p.1.op,aa p.1.day,ae p.1.part,ae p.1.kind,ae p.1.into,ae p.1.slot,ae p.1.key,ae p.1.value,aa p.1.u1,aa p.1.u2,aa p.1.u3,aa p.1.u4,aa p.1.u5,aa p.1.u6,aa p.2]:=rfl
def encPk_gnd(e:EvM×Int):bm (encPk e)=true:=rfl
def cmpPk(a b:EvM×Int):Int:=subI a.1.day b.1.day
def bin_subI{P:Program}{t:TypeId}{a b:Int}:bz P .sub t (.int .i64 a) (.int .i64 b)=some (.int .i64 (subI a b)):=by
 simp only[bz,pg,ab,subI]
def ti(a b:EvM×Int):PC prog 150 [.ag (encPk a),.ag (encPk b)] (·=aa (cmpPk a b)):=by
 refine pB 12 Tryz.func150 ?_;exact(aq @encPk.eq_1)<|(aq @bin_subI)<|zo [.tmp 4]
def ltPk(cmp:(EvM×Int)->(EvM×Int)->Int)(x y:(EvM×Int)):Bool:=decide (cmp x y<0)
open Go.Proofs.Tryz renaming func204 -> var in
open Go.Proofs renaming FA -> vas,ltPk -> vat,encPk -> vav in
open Go.Ev renaming B1 -> vau in
def yj(g:FuncId)(cmp:(EvM×Int)->(EvM×Int)->Int)(hg:∀x y,PC prog g [.ag (encPk x),.ag (encPk y)] (·=aa (cmp x y)))(c:Option Nat)(l:List (EvM×Int))(hlen:l.length<=100000):
 SC prog 204 [.buf 0 l.length 15 c,aa 0,aa l.length,.fn g [] []] [.cells (l.flatMap encPk)] [] (λr S'=>r=.aO []/\S'=[.cells ((insF (ltPk cmp) l).flatMap encPk)]):=by
 have vaw:=@encPk_len;have vax:=@encPk_eq;exact DL
open Go.Proofs renaming FA -> vaz,encPk -> va0,ltPk -> va4 in
open Go.Proofs.Tryz renaming func185 -> va2 in
open Go.Ev renaming B1 -> va3 in
def wH(g:FuncId)(cmp:(EvM×Int)->(EvM×Int)->Int)(hg:∀x y,PC prog g [.ag (encPk x),.ag (encPk y)] (·=aa (cmp x y)))(c:Option Nat)(l:List (EvM×Int))(hlen:l.length<20):
 SC prog 185 [.buf 0 l.length 15 c,aa l.length,.fn g [] []] [.cells (l.flatMap encPk)] [] (λr S'=>r=.aO []/\S'=[.cells ((insF (ltPk cmp) l).flatMap encPk)]):=by
 have vay:=@yj;have va1:=@encPk_gnd;exact DM
def qS(g:FuncId)(cmp:(EvM×Int)->(EvM×Int)->Int)(hg:∀x y,PC prog g [.ag (encPk x),.ag (encPk y)] (·=aa (cmp x y)))(c:Option Nat)(l:List (EvM×Int))(hlen:l.length<20):
 SC prog 149 [.buf 0 l.length 15 c,.fn g [] []] [.cells (l.flatMap encPk)] [] (λr S'=>r=.aO []/\S'=[.cells ((insF (ltPk cmp) l).flatMap encPk)]):=by
 have hins:=wH g cmp hg c l hlen;have hrc:∀(g:Nat->Nat) (l:List (EvM×Int)),fV g (l.flatMap encPk)=l.flatMap encPk:=λg l=>aK (ar encPk_gnd l);have hbc:∀(B:Nat) (l:List (EvM×Int)),dA B (l.flatMap encPk)=true:=λB l=>aP (ar encPk_gnd l);have hkc:∀(o:Nat) (l:List (EvM×Int)),(l.flatMap encPk).map (aH o)=l.flatMap encPk:=λo l=>kill_cells encPk_gnd o l;refine Aq 9 func149 ?_;refine(zC) ?_;refine zS [0] (n3 hrc hbc hkc) hins ?_;refine(zR) ?_;exact zP []
def vY(g:FuncId):PC prog 204 [.sl 0 15 [],aa 0,aa 0,.fn g [] []] (·=.aO []):=by
 refine pB 53 Tryz.func204 ?_;refine(zV) ?_
 (repeat refine ak.seq ?_)
 refine ak.block (ak.loop (λm st=>m=0/\st=⟨[(2,aa 0),(3,.fn g [] []),(8,aa 1)],53,[],[]⟩) 0 zH ⟨rfl,rfl⟩ (by rintro m st ⟨_,rfl⟩;rfl) ?_);rintro m st ⟨rfl,rfl⟩
 refine(aq (show decide ((1:Int)<0)=false from rfl))<|(cV) ?_
 simp only[dY,SThen,SRound,SNoGoto,if_true];exact zO []
def tP(g:FuncId):PC prog 185 [.sl 0 15 [],aa 0,.fn g [] []] (·=.aO []):=by
 refine pB 63 Tryz.func185 ?_;refine(gi) ?_
 (repeat refine ak.seq ?_)
 refine ak.block (ak.loop (λm st=>m=0/\st=⟨[(0,.sl 0 15 []),(1,aa 0),(2,.fn g [] []),(6,aa 20),(7,aa 0),(8,aa 20)],63,[],[]⟩) 0 zH ⟨rfl,rfl⟩ (by rintro m st ⟨_,rfl⟩;rfl) ?_);rintro m st ⟨rfl,rfl⟩
 refine(aq (show decide ((20:Int)<=0)=false from rfl))<|(cV) ?_
 (try change ak _ _ _ _ _)
 refine(zC)<|(zK (vY g))<|(zR) ?_
 (repeat refine ak.seq ?_)
 refine ak.block (ak.loop (λm st=>m=0/\st=⟨[(1,aa 0),(6,aa 20)],63,[],[]⟩) 0 zH ⟨rfl,rfl⟩ (by rintro m st ⟨_,rfl⟩;rfl) ?_);rintro m st ⟨rfl,rfl⟩
 refine(aq (show decide ((20:Int)<0)=false from rfl))<|(cV) ?_
 simp only[dY,SThen,SRound,SNoGoto,if_true];exact zO []
def qc(g:FuncId):PC prog 149 [.sl 0 15 [],.fn g [] []] (·=.aO []):=by
 refine pB 9 func149 ?_;refine(zC)<|(zK (tP g))<|(zR) ?_;exact zO []
def tj(c:List KKind)(s:List PartM)(e:EvM)(hc:CatOk c)(hlen:s.length<=100000)(hs:∀p∈s,PartOk p)(he:EvOk e):SC prog 151 [.ag (encEv e),.ip [slS 3 c encKind],.ptr 0 0] [.cells [slS 14 s encPart]] []
 (λr S'=>r=aa (fleetN c s e).2/\S'=[.cells [slS 14 (fleetN c s e).1 encPart]]):=by
 refine Aq 13 Tryz.func151 ?_;have hap:=pR c s e hc hlen hs he;unfold applyS at hap;generalize fleetN c s e=q at hap ⊢;rw[encEv_eq] at hap ⊢
 refine(fe)<|(zK hap (hfl:=.inr (aM.refl rfl)))<|(zR)<|(zV) ?_;refine ak.fg (st':=⟨[(4,aa q.2),(1000000,.ptr 0 0)],13,[.cells [slS 14 q.1 encPart]],[]⟩) zH ?_;refine(zE) ?_;exact zP [.tmp 4]
def pick2(day:Int)(i:Nat)(p:RepM×Int):List (EvM×Int):=if p.2<0 then [] else match p.1.opts[p.2.toNat]? with
 | some e=>if e.day<day then [(e,(i:Int))] else []
 | none=>[]
def pickAll(day:Int):Nat->List (RepM×Int)->List (EvM×Int)
 | _,[]=>[]
 | i,p::l=>pick2 day i p++pickAll day (i+1) l
def pickAll_app(day:Int):∀(l:List (RepM×Int)) (i:Nat) (p:RepM×Int),pickAll day i (l++[p])=pickAll day i l++pick2 day (i+l.length) p
 | [],i,p=>by simp[pickAll]
 | a::l,i,p=>by
  rw[bt,pickAll,pickAll,pickAll_app day l (i+1) p,bh,ay]
  congr 3;omega
def pick2_le(day:Int)(i:Nat)(p:RepM×Int):(pick2 day i p).length<=1:=by
 unfold pick2;split
 ·simp
 ·split
  ·split<;>simp
  ·simp
def pickAll_le(day:Int):∀(l:List (RepM×Int)) (i:Nat),(pickAll day i l).length<=l.length
 | [],i=>by simp[pickAll]
 | p::l,i=>by
  have h1:=pick2_le day i p;have h2:=pickAll_le day l (i+1);rw[pickAll,al,ay];omega
def pick2_mem{day:Int}{i:Nat}{p:RepM×Int}{x:EvM×Int}(h:x∈pick2 day i p):x.1∈p.1.opts:=by
 unfold pick2 at h;split at h
 ·cases h
 ·split at h
  ·rename_i e he;split at h
   ·rw[List.mem_singleton.1 h];exact aS he
   ·cases h
  ·cases h
def pickAll_mem{day:Int}:∀{l:List (RepM×Int)} {i:Nat} {x:EvM×Int},x∈pickAll day i l->∃p∈l,x.1∈p.1.opts
 | [],i,x,h=>by simp[pickAll] at h
 | p::l,i,x,h=>by
  rw[pickAll] at h
  rcases mem_append.1 h with h | h
  ·exact⟨p,List.mem_cons_self,pick2_mem h⟩
  ·obtain⟨q,h1,h2⟩:=pickAll_mem h;exact⟨q,List.mem_cons_of_mem _ h1,h2⟩
def sortPk(l:List (EvM×Int)):List (EvM×Int):=insF (ltPk cmpPk) l
def stepGo(c:List KKind):List PartM->List (EvM×Int)->Int×Int
 | _,[]=>(-1,0)
 | s,p::r=>if (fleetN c s p.1).2=0 then stepGo c (fleetN c s p.1).1 r else (p.2,(fleetN c s p.1).2)
def followN(c:List KKind)(l:List RepM)(ch:List Int)(day:Int):Int×Int:=stepGo c [] (sortPk (pickAll day 0 (l.zip ch)))
def ny(c:List KKind)(l:List RepM)(ch:List Int)(day:Int)(hc:CatOk c)(hl:∀r∈l,RepOk r)(hlen:l.length<20)(heq:l.length=ch.length):PC prog 113 [.ag [slS 3 c encKind],slS 2 l encRep,slS 1 ch (one1 aa),aa day] (·=.aO [aa (followN c l ch day).1,aa (followN c l ch day).2]):=by
 refine pB 79 Tryz.func113 ?_;refine(zV) ?_;refine ak.fg (Fg.freeze (f':=[(1,slS 2 l encRep),(2,slS 1 ch (one1 aa)),(3,aa day),(4,.ip [slS 3 c encKind])]) 0 rfl (λh=>by cases h) (jM @slS.eq_1)) ?_
 (try change ak _ _ _ _ _)
 refine(gi) ?_
 have hz:∀{k:Nat} {r:RepM} {n:Int},l[k]?=some r->ch[k]?=some n->(l.zip ch)[k]?=some (r,n):=λh1 h2=>by
  rw[b1];exact⟨h1,h2⟩
 have hzl:(l.zip ch).length=l.length:=by rw[ds,<-heq,em]
 (repeat refine ak.seq ?_)
 refine ak.mono (Q:=λe st=>e=.normal/\Fg st ⟨[(4,.ip [slS 3 c encKind]),(10,nbuf 2 15 (pickAll day 0 (l.zip ch)).length)],79,nst 2 (pickAll day 0 (l.zip ch)) encPk,[]⟩) ?_ ?_
 ·refine(zs) ?_;refine zL l (λk=>True) (λk=>[(2,slS 1 ch (one1 aa)),(3,aa day),(4,.ip [slS 3 c encKind]),(10,nbuf 2 15 (pickAll day 0 ((l.zip ch).take k)).length),(19,slS 2 l encRep),(20,aa l.length),(21,aa k)]) (λk=>nst 2 (pickAll day 0 ((l.zip ch).take k)) encPk) (bg (n5 @take_zero.{0} @pickAll.eq_1 @length_nil.{0} @nbuf_0 @nst_nil)) zp ?_;intro k hk hall;refine zT l k ?_ ?_;rintro rfl;rotate_left;intro r hx hlt;rotate_left
  ·refine(cV) ?_;rw[<-hzl,bc];by_cases h0:pickAll day 0 (l.zip ch)=[]
   ·rw[h0];exact⟨rfl,(bg (n3 @nst_nil @nbuf_0 @length_nil.{0}))⟩
   ·rw[nst_p h0];exact⟨rfl,(bg reps)⟩
  have hrk:RepOk r:=hl r (aS hx);have hr1:=hrk.len;obtain⟨n,hn⟩:∃n,ch[k]?=some n:=⟨ch[k],a1 (by omega)⟩;have hzk:=hz hx hn;have ht:=takeN_snoc hzk
  have hlc2:k<ch.length:=by omega
  have hol:(pickAll day 0 ((l.zip ch).take k)).length<=k:=by
   have:=pickAll_le day ((l.zip ch).take k) 0;rw[a5] at this;omega
  have hfm:pickAll day 0 ((l.zip ch).take (k+1))=pickAll day 0 ((l.zip ch).take k)++pick2 day k (r,n):=by
   rw[ht,pickAll_app,a5,hzl,ca (by omega),Nat.zero_add]
  generalize hO:pickAll day 0 ((l.zip ch).take k)=out at hol hfm;refine(dI) ?_;have hcl:=flat_len' encPk_len out;have hkc:=λo=>kill_cells encPk_gnd o out
  have hlen6:l.length<=1000000:=by omega
  have hg1:∀i:Nat,decide (0<=(i:Int))=true:=λi=>by simp
  by_cases hk0:out=[]
  ·rw[show nst 2 out encPk=[] by rw[hk0];rfl,show nbuf 2 15 out.length=nilS by rw[hk0];rfl]
   refine(aq (n3 hlt (au (e:=2) (enc:=encRep) (λ_=>rfl) hx) @encRep.eq_1))<|(aq (n3 hlc2 (au (e:=1) (enc:=one1 aa) (λ_=>rfl) hn) @one1.eq_1)) ?_
   have fin:pick2 day k (r,n)=[]->nbuf 2 15 (pickAll day 0 ((l.zip ch).take (k+1))).length=nilS/\nst 2 (pickAll day 0 ((l.zip ch).take (k+1))) encPk=[]:=λh=>by rw[hfm,h,hk0];exact⟨rfl,rfl⟩
   cases g1:decide (0<=n)
   ·have g1':=wt g1;obtain⟨f1,f2⟩:=fin (by unfold pick2;rw[t8 (by show n<0;omega)])
    refine(aq g1)<|(zN)<|(aq (zi hlt hlen6)) ?_;refine zX hlt (bg (n2 f1 f2)) trivial
   obtain⟨i,rfl⟩:∃i:Nat,n=(i:Int):=⟨n.toNat,by have:=ww g1;omega⟩;by_cases g2:i<r.opts.length;rotate_left
   ·obtain⟨f1,f2⟩:=fin (by unfold pick2;rw[ul (by show ¬(i:Int)<0;omega)];show(match r.opts[i]? with | some e=>_ | none=>_)=_;rw[cc (by omega)])
    refine(aq (n2 g1 (show decide ((i:Int)<(r.opts.length:Int))=false by simp only[wd];omega)))<|(zN)<|(aq (zi hlt hlen6)) ?_;refine zX hlt (bg (n2 f1 f2)) trivial
   obtain⟨e,hei⟩:∃e,r.opts[i]?=some e:=⟨r.opts[i],a1 g2⟩
   have hpk:pick2 day k (r,(i:Int))=if e.day<day then [(e,(k:Int))] else []:=by
    unfold pick2;rw[ul (by show ¬(i:Int)<0;omega)];show(match r.opts[i]? with | some e=>_ | none=>_)=_;rw[hei]
   cases g3:decide (e.day<day)
   ·rw[ul (wt g3)] at hpk;obtain⟨f1,f2⟩:=fin hpk
    refine(aq (n6 g1 g2 (show decide ((i:Int)<(r.opts.length:Int))=true by simp only[wp];omega) (au (e:=14) (enc:=encEv) (λ_=>rfl) hei) @encEv.eq_1 g3))<|(zN)<|(aq (zi hlt hlen6)) ?_;refine zX hlt (bg (n2 f1 f2)) trivial
   ·rw[t8 (ww g3)] at hpk;rw[hpk,hk0,nil_append] at hfm
    have hE3:nbuf 2 15 (pickAll day 0 ((l.zip ch).take (k+1))).length=.buf 2 1 15 none:=by rw[hfm];rfl
    have hE4:nst 2 (pickAll day 0 ((l.zip ch).take (k+1))) encPk=[.gone,.gone,.cells (encPk (e,(k:Int)))]:=by rw[hfm];rfl
    refine(aq (n6 g1 g2 (show decide ((i:Int)<(r.opts.length:Int))=true by simp only[wp];omega) (au (e:=14) (enc:=encEv) (λ_=>rfl) hei) @encEv.eq_1 g3))<|(zY)<|(aq (n3 g2 (au (e:=14) (enc:=encEv) (λ_=>rfl) hei) @encEv.eq_1))<|(aq (zi hlt hlen6)) ?_;refine zX hlt (bg (n3 hE3 hE4 @encPk.eq_1)) trivial
  ·have hk1:¬out.length=0:=λh=>hk0 (length_eq_zero_iff.1 h);rw[nst_p hk0,nbuf_p hk1]
   refine(aq (n5 hlt (au (e:=2) (enc:=encRep) (λ_=>rfl) hx) @encRep.eq_1 reps hkc))<|(aq (n4 hkc hlc2 (au (e:=1) (enc:=one1 aa) (λ_=>rfl) hn) @one1.eq_1)) ?_
   have fin:pick2 day k (r,n)=[]->nbuf 2 15 (pickAll day 0 ((l.zip ch).take (k+1))).length=nbuf 2 15 out.length/\nst 2 (pickAll day 0 ((l.zip ch).take (k+1))) encPk=nst 2 out encPk:=λh=>by rw[hfm,h,b0];exact⟨rfl,rfl⟩
   cases g1:decide (0<=n)
   ·have g1':=wt g1;obtain⟨f1,f2⟩:=fin (by unfold pick2;rw[t8 (by show n<0;omega)])
    refine(aq (n2 hkc g1))<|(zN)<|(zs) ?_;refine ak.r0 (by rfl) (gf (nL (iW hlt hlen6 (by decide)))) ?_;refine⟨l.length-(k+1),_,by omega,(Fg.less (by (simp only[bf,aN,cA,↓reduceIte,ac,slS,f1,f2,nbuf_p hk1,nst_p hk0,ba])<;>(repeat' apply a0)<;>first | rfl | trivial) (by (simp only[bf,aN,or_true,true_or,slS,f1,f2,nbuf_p hk1,nst_p hk0,ba])<;>(repeat' apply a0)<;>first | exact .inr rfl | exact .inl rfl | trivial)),k+1,by omega,rfl,trivial,rfl⟩
   obtain⟨i,rfl⟩:∃i:Nat,n=(i:Int):=⟨n.toNat,by have:=ww g1;omega⟩;by_cases g2:i<r.opts.length;rotate_left
   ·obtain⟨f1,f2⟩:=fin (by unfold pick2;rw[ul (by show ¬(i:Int)<0;omega)];show(match r.opts[i]? with | some e=>_ | none=>_)=_;rw[cc (by omega)])
    refine(aq (n3 hkc g1 (show decide ((i:Int)<(r.opts.length:Int))=false by simp only[wd];omega)))<|(zN)<|(zs) ?_;refine ak.r0 (by rfl) (gf (nL (iW hlt hlen6 (by decide)))) ?_;refine⟨l.length-(k+1),_,by omega,(Fg.less (by (simp only[bf,aN,cA,↓reduceIte,ac,slS,f1,f2,nbuf_p hk1,nst_p hk0,ba])<;>(repeat' apply a0)<;>first | rfl | trivial) (by (simp only[bf,aN,or_true,true_or,slS,f1,f2,nbuf_p hk1,nst_p hk0,ba])<;>(repeat' apply a0)<;>first | exact .inr rfl | exact .inl rfl | trivial)),k+1,by omega,rfl,trivial,rfl⟩
   obtain⟨e,hei⟩:∃e,r.opts[i]?=some e:=⟨r.opts[i],a1 g2⟩
   have hpk:pick2 day k (r,(i:Int))=if e.day<day then [(e,(k:Int))] else []:=by
    unfold pick2;rw[ul (by show ¬(i:Int)<0;omega)];show(match r.opts[i]? with | some e=>_ | none=>_)=_;rw[hei]
   cases g3:decide (e.day<day)
   ·rw[ul (wt g3)] at hpk;obtain⟨f1,f2⟩:=fin hpk
    refine(aq (n7 hkc g1 g2 (show decide ((i:Int)<(r.opts.length:Int))=true by simp only[wp];omega) (au (e:=14) (enc:=encEv) (λ_=>rfl) hei) @encEv.eq_1 g3))<|(zN)<|(zs) ?_;refine ak.r0 (by rfl) (gf (nL (iW hlt hlen6 (by decide)))) ?_;refine⟨l.length-(k+1),_,by omega,(Fg.less (by (simp only[bf,aN,cA,↓reduceIte,ac,slS,f1,f2,nbuf_p hk1,nst_p hk0,ba])<;>(repeat' apply a0)<;>first | rfl | trivial) (by (simp only[bf,aN,or_true,true_or,slS,f1,f2,nbuf_p hk1,nst_p hk0,ba])<;>(repeat' apply a0)<;>first | exact .inr rfl | exact .inl rfl | trivial)),k+1,by omega,rfl,trivial,rfl⟩
   ·rw[t8 (ww g3)] at hpk;rw[hpk] at hfm;have happ:=app_cells encPk_len encPk_gnd 2 out (e,(k:Int));rw[encPk_eq] at happ
    have hE3:nbuf 2 15 (pickAll day 0 ((l.zip ch).take (k+1))).length=.buf 2 (out.length+1) 15 none:=by rw[hfm,al];rfl
    have hE4:nst 2 (pickAll day 0 ((l.zip ch).take (k+1))) encPk=[.gone,.gone,.cells ((out++[(e,(k:Int))]).flatMap encPk)]:=by rw[hfm,nst_snoc];rfl
    refine(aq (n7 hkc g1 g2 (show decide ((i:Int)<(r.opts.length:Int))=true by simp only[wp];omega) (au (e:=14) (enc:=encEv) (λ_=>rfl) hei) @encEv.eq_1 g3))<|(zY)<|(aq (n8 g2 (au (e:=14) (enc:=encEv) (λ_=>rfl) hei) @encEv.eq_1 hcl hkc (show out.length<=1000000 by omega) @ax happ))<|(aq (zi hlt hlen6)) ?_;refine zX hlt (bg (n2 hE3 hE4)) trivial
 rintro e st ⟨rfl,hfg⟩;refine ak.fg hfg ?_;clear hfg
 (try change ak _ _ _ _ _)
 have hal:(pickAll day 0 (l.zip ch)).length<20:=Nat.lt_of_le_of_lt (pickAll_le day _ 0) (by omega)
 have hmem:∀x∈pickAll day 0 (l.zip ch),EvOk x.1:=by
  intro x hx;obtain⟨p,h1,h2⟩:=pickAll_mem hx;exact(hl p.1 (List.of_mem_zip h1).1).ev _ h2
 unfold followN;generalize pickAll day 0 (l.zip ch)=all at hal hmem ⊢;have hmem2:∀x∈sortPk all,EvOk x.1:=λx hx=>hmem x ((insF_perm _ _).mem_iff.1 hx);have hsl:(sortPk all).length=all.length:=insF_len _ _
 (repeat refine ak.seq ?_)
 refine ak.mono (Q:=λe st=>e=.normal/\Fg st ⟨[(4,.ip [slS 3 c encKind]),(10,slS 15 (sortPk all) encPk)],79,[],[]⟩) ?_ ?_
 ·by_cases h0:all=[]
  ·subst h0;rw[nst_nil,show nbuf 2 15 ([]:List (EvM×Int)).length=nilS from rfl]
   refine(zC)<|(zK (qc 150) (hwk:=aM.cons (.nil _) (.cons (.fn .nil .nil) .nil)))<|(zR) ?_;exact⟨rfl,Fg.trans (Fg.wk (f':=[(4,.ip [slS 3 c encKind]),(10,slS 15 (sortPk []) encPk)]) ⟨.inl rfl,.inr (.nil _),trivial⟩) zH⟩
  ·have hk1:¬all.length=0:=λh=>h0 (length_eq_zero_iff.1 h);rw[nst_p h0,nbuf_p hk1];have hrc:∀(g:Nat->Nat) (l:List (EvM×Int)),fV g (l.flatMap encPk)=l.flatMap encPk:=λg l=>aK (ar encPk_gnd l);have hbc:∀(B:Nat) (l:List (EvM×Int)),dA B (l.flatMap encPk)=true:=λB l=>aP (ar encPk_gnd l);have hkc:∀(o:Nat) (l:List (EvM×Int)),(l.flatMap encPk).map (aH o)=l.flatMap encPk:=λo l=>kill_cells encPk_gnd o l;have hst:=qS 150 cmpPk ti none all hal;rw[show insF (ltPk cmpPk) all=sortPk all from rfl] at hst;refine(zC) ?_;refine zS [2] (n4 hrc hbc hkc reps) hst ?_ (hc:=xb reps);refine(zR) ?_;exact⟨rfl,Fg.trans (Fg.freeze (f':=[(4,.ip [slS 3 c encKind]),(10,slS 15 (sortPk all) encPk)]) 2 rfl (λh=>by cases h) ⟨.inl rfl,.inr (by rw[je 15 (sortPk all) encPk,hsl];exact .buf rfl (by rw[<-hsl,flat_all encPk_len];exact aM.refl (ar encPk_gnd _)) (by rw[flat_len' encPk_len,hsl];exact ax _)),trivial⟩) zH⟩
 rintro e st ⟨rfl,hfg⟩;refine ak.fg hfg ?_;clear hfg
 (try change ak _ _ _ _ _)
 rw[<-hsl] at hal;generalize sortPk all=ev at hal hmem2 ⊢
 have hlen1:ev.length<=1000000:=by omega
 refine(zV) ?_;refine ak.fg (Fg.FL (S':=[.cells [slS 14 ([]:List PartM) encPart]]) ⟨.inr ⟨by decide,.inr ⟨_,_,rfl,rfl,.cons (.nil _) .nil⟩⟩,trivial⟩) ?_
 (try change ak _ _ _ _ _)
 refine(gi)<|(zs) ?_;refine Bl ev (λk (s:List PartM)=>stepGo c [] ev=stepGo c s (ev.drop k)/\(∀p∈s,PartOk p)/\s.length<=k) (λk s=>[(15,.fn 151 [] [.ip [slS 3 c encKind],.ptr 0 0]),(63,slS 15 ev encPk),(64,aa ev.length),(65,aa k)]) (λk s=>[.cells [slS 14 s encPart]]) ([]) zH (by first | exact⟨rfl,by simp,bW _⟩ | trivial | rfl) ?_;intro k s hk hall;refine zT ev k ?_ ?_;rintro rfl;rotate_left;intro p hx hlt;rotate_left
 ·refine(cV) ?_;obtain⟨hr,-,-⟩:=hall;rw[ct] at hr
  exact(zV)<|eL [.tmp 8,.tmp 9] (hq:=by rw[hr];rfl)
 obtain⟨hr,hps,hsk⟩:=hall;rw[drop_at hx] at hr;have hpo:=hmem2 p (aS hx);have hfo:=tj c s p.1 hc (by omega) hps hpo;obtain⟨q1,q2,q3,q4⟩:=fleetN_ok (c:=c) hps hpo
 have hr2:stepGo c s (p::ev.drop (k+1))=if (fleetN c s p.1).2=0 then stepGo c (fleetN c s p.1).1 (ev.drop (k+1)) else (p.2,(fleetN c s p.1).2):=rfl
 rw[hr2] at hr;clear hr2;generalize fleetN c s p.1=q at hfo q1 q2 q3 q4 hr;rw[encEv_eq] at hfo
 refine(dI)<|(aq (n3 hlt (au (e:=15) (enc:=encPk) (λ_=>rfl) hx) @encPk_eq))<|(zC) ?_;refine zS [0] trivial hfo ?_;refine(zR) ?_
 by_cases he:q.2=0
 ·rw[t8 he] at hr
  refine(aq (show decide (q.2=0)=true from ut he))<|(zN)<|(aq (zi hlt hlen1)) ?_;refine xf hlt (q.1) zH (⟨hr,q1,by omega⟩)
 ·rw[ul he] at hr
  exact(aq (show decide (q.2=0)=false from un he))<|(bq)<|eL [.tmp 8,.tmp 9] (hq:=by rw[hr])
def failsN(c:List KKind)(l:List RepM)(ch:List Int):Int×Int:=if givenN c l ch 0=true then followN c l ch 40001 else (-1,1)
def isN(c:List KKind)(l:List RepM)(ch:List Int):Bool:=decide ((failsN c l ch).2=0)
def given_len{c:List KKind}{l:List RepM}{ch:List Int}{least:Int}(h:givenN c l ch least=true):l.length=ch.length:=by
 unfold givenN at h;rw[bb,bb] at h;exact ww h.2.1
def x4(c:List KKind)(l:List RepM)(ch:List Int)(hc:CatOk c)(hl:∀r∈l,RepOk r)(hlen:l.length<20)(hlc:ch.length<=1000000):PC prog 114 [.ag [slS 3 c encKind],slS 2 l encRep,slS 1 ch (one1 aa)] (·=.aO [aa (failsN c l ch).1,aa (failsN c l ch).2]):=by
 refine pB 19 Tryz.func114 ?_;refine(fe)<|(zK (pW c l ch 0 hc hl (by omega) hlc)) ?_
 cases hg:givenN c l ch 0
 ·exact(zR)<|(bq)<|eL [.tmp 6,.tmp 7] (hq:=by rw[show failsN c l ch=(-1,1) by rw[failsN,hg];rfl])
 refine(zR)<|(zN) ?_
 rw[show failsN c l ch=followN c l ch 40001 by rw[failsN,hg];rfl];have hfo:=ny c l ch 40001 hc hl hlen (given_len hg);generalize followN c l ch 40001=q at hfo ⊢
 exact(zC)<|(zK hfo)<|(zR)<|eL [.tmp 6,.tmp 7]
def rV(c:List KKind)(l:List RepM)(ch:List Int)(hc:CatOk c)(hl:∀r∈l,RepOk r)(hlen:l.length<20)(hlc:ch.length<=1000000):PC prog 69 [.ag [slS 3 c encKind],slS 2 l encRep,slS 1 ch (one1 aa)] (·=ao (isN c l ch)):=by
 refine pB 18 Tryz.func69 ?_;have hfa:=x4 c l ch hc hl hlen hlc;unfold isN;generalize failsN c l ch=q at hfa ⊢
 exact(fe)<|(zK hfa)<|(zR)<|(zV)<|zo [.tmp 6]
def A7(l:List RepM)(ch:List Int):PC prog 112 [slS 2 l encRep,slS 1 ch (one1 aa)] (·=.fn 148 [] [.ip [slS 2 l encRep],.ip [slS 1 ch (one1 aa)]]):=by
 refine pB 6 Tryz.func112 ?_;refine(zV) ?_;refine ak.fg (Fg.freeze (f':=[(2,.ip [slS 2 l encRep]),(3,.ptr 1 0)]) 0 rfl (λh=>by cases h) (jM @slS.eq_1)) ?_;refine ak.fg (Fg.freeze (f':=[(2,.ip [slS 2 l encRep]),(3,.ip [slS 1 ch (one1 aa)])]) 1 rfl (λh=>by cases h) (jM @slS.eq_1)) ?_
 (try change ak _ _ _ _ _)
 exact(zV)<|zo [.tmp 4]
def dayStep(n:Int)(m:Int)(e:EvM):Int:=if n<0 then minI m e.day else m
def minDs(m:Int)(l:List (RepM×Int)):Int:=l.foldl (λm p=>p.1.opts.foldl (dayStep p.2) m) m
def DayRnd(c:dw)(f1:Fm):Prop:=∀(ro:Option Nat) (f0:Fm) (day m:Int) (X:List SO) (K:Ex->List SO->Fm->Prop),K .normal (.loop c .ready none f1::.cells [aa (minI m day)]::X) f0->FB prog ro c 0 [aa day] (.loop c .ready none f1::.cells [aa m]::X) f0 K
def xY(c:dw)(f1:Fm)(hb:DayRnd c f1)(hps:c.ps.toList.length=1)(hlow:nR c.n f1=true)(hn1:c.n<=1000000)(hpar:c.ps.toList.all (λk=>Nat.blt k c.n)=true)(hkf:∀o,2<=o->cm o f1=f1)(l:List RepM)(ch:List Int)(m0:Int)(hl:∀r∈l,RepOk r)(hlen:l.length<=1000000)(heq:l.length=ch.length):
 SC prog 148 [.a (.fn (.yield c.id) [] []),.ip [slS 2 l encRep],.ip [slS 1 ch (one1 aa)]] [.loop c .ready none f1,.cells [aa m0]] [] (λr S'=>r=.aO []/\S'=[.loop c .ready none f1,.cells [aa (minDs m0 (l.zip ch))]]):=by
 refine E1 36 func148 ?_;have hkA:f1.map (λp=>(p.1,bif Ev.names 2 p.2 then SV.any else p.2))=f1:=hkf 2 (ax _);have hkB:f1.map (λp=>(p.1,bif Ev.names 3 p.2 then SV.any else p.2))=f1:=hkf 3 (by decide);refine(zV) ?_
 have hz:∀{k:Nat} {r:RepM} {n:Int},l[k]?=some r->ch[k]?=some n->(l.zip ch)[k]?=some (r,n):=λh1 h2=>by
  rw[b1];exact⟨h1,h2⟩
 have hzl:(l.zip ch).length=l.length:=by rw[ds,<-heq,em]
 refine(zs) ?_;refine zL l (λk=>True) (λk=>[(0,.a (.fn (.yield c.id) [] [])),(2,.ip [slS 1 ch (one1 aa)]),(8,slS 2 l encRep),(9,aa l.length),(10,aa k),(1000000,.ptr 0 0),(1000001,.ptr 1 0)]) (λk=>[.loop c .ready none f1,.cells [aa (minDs m0 ((l.zip ch).take k))]]) (bg (n3 @take_zero.{0} @minDs.eq_1 @foldl_nil.{0,0})) zp ?_;intro k hk hall;refine zT l k ?_ ?_;rintro rfl;rotate_left;intro r hx hlt;rotate_left
 ·refine(cV) ?_;rw[<-hzl,bc];simp only[dY,SThen,SRound,SNoGoto,if_true];exact zP []
 have hrk:RepOk r:=hl r (aS hx);have hr1:=hrk.len;obtain⟨n,hn⟩:∃n,ch[k]?=some n:=⟨ch[k],a1 (by omega)⟩;have ht:=takeN_snoc (hz hx hn)
 have hlc2:k<ch.length:=by omega
 have hst:minDs m0 ((l.zip ch).take (k+1))=r.opts.foldl (dayStep n) (minDs m0 ((l.zip ch).take k)):=by
  unfold minDs;rw[ht,cn];rfl
 generalize minDs m0 ((l.zip ch).take k)=m1 at hst
 refine(dI)<|(aq (n5 hlt (au (e:=2) (enc:=encRep) (λ_=>rfl) hx) @encRep.eq_1 hkA hkB))<|(zV)<|(zs) ?_;refine zL r.opts (λk2=>True) (λk2=>[(0,.a (.fn (.yield c.id) [] [])),(2,.ip [slS 1 ch (one1 aa)]),(4,aa k),(8,slS 2 l encRep),(9,aa l.length),(10,aa k),(16,slS 14 r.opts encEv),(17,aa r.opts.length),(18,aa k2),(1000000,.ptr 0 0),(1000001,.ptr 1 0)]) (λk2=>[.loop c .ready none f1,.cells [aa ((r.opts.take k2).foldl (dayStep n) m1)]]) (bg (n2 @take_zero.{0} @foldl_nil.{0,0})) zp ?_;intro k2 hk2 hall2;refine zT r.opts k2 ?_ ?_;rintro rfl;rotate_left;intro e hx2 hlt2;rotate_left
 ·refine(cV) ?_;rw[bc];refine(aq (zi hlt hlen)) ?_;refine zX hlt (bg hst) trivial
 have ht2:=takeN_snoc hx2
 have hst2:(r.opts.take (k2+1)).foldl (dayStep n) m1=dayStep n ((r.opts.take k2).foldl (dayStep n) m1) e:=by rw[ht2,cn];rfl
 generalize (r.opts.take k2).foldl (dayStep n) m1=m2 at hst2
 refine(dI)<|(aq (n5 hlt2 (au (e:=14) (enc:=encEv) (λ_=>rfl) hx2) @encEv.eq_1 hkA hkB)) ?_
 cases g1:decide (n<0)
 ·rw[show dayStep n m2 e=m2 by unfold dayStep;rw[ul (wt g1)]] at hst2
  refine(aq (n4 hlc2 (au (e:=1) (enc:=one1 aa) (λ_=>rfl) hn) @one1.eq_1 g1))<|(zN)<|(aq (zi hlt2 hr1)) ?_;refine zX hlt2 (bg hst2) trivial
 ·rw[show dayStep n m2 e=minI m2 e.day by unfold dayStep;rw[t8 (ww g1)]] at hst2
  refine(e8 (n4 hlc2 (au (e:=1) (enc:=one1 aa) (λ_=>rfl) hn) @one1.eq_1 g1)) ?_;refine aB.yR (vs:=[aa e.day]) 0 (by rfl) rfl rfl (by rfl) rfl rfl rfl (by rfl) rfl hps hlow hn1 hpar λro'=>hb _ _ _ _ _ _ ?_;refine(zR)<|(zN)<|(aq (zi hlt2 hr1)) ?_;refine zX hlt2 (bg hst2) trivial
def falseN(c:List KKind)(l:List RepM)(ch:List Int):Bool:=givenN c l ch (-1)&&!(decide ((followN c l ch (minDs 40001 (l.zip ch))).2=0))
def td(c:List KKind)(l:List RepM)(ch:List Int)(hc:CatOk c)(hl:∀r∈l,RepOk r)(hlen:l.length<20)(hlc:ch.length<=1000000):PC prog 68 [.ag [slS 3 c encKind],slS 2 l encRep,slS 1 ch (one1 aa)] (·=ao (falseN c l ch)):=by
 refine PC.kh (n:=33) cw Tryz.func68 rfl rfl (by decide) ?_;refine(fe)<|(zK (pW c l ch (-1) hc hl (by omega) hlc)) ?_
 cases hg:givenN c l ch (-1)
 ·refine(zR)<|(bq) ?_;refine ak.ret ?_
  (try simp only[dY,SThen,SRound,SNoGoto])
  exact⟨rfl,[ao false],ao false,by rfl,Wk.refl rfl,by rw[falseN,hg];rfl⟩
 have heq:=given_len hg
 refine(zR)<|(ee) ?_;refine ak.fg (Fg.freeze (f':=[(1,slS 2 l encRep),(2,slS 1 ch (one1 aa)),(3,.ip [slS 3 c encKind]),(7,.ptr 1 0)]) 0 rfl (λh=>by cases h) (jM @slS.eq_1)) ?_
 (try change ak _ _ _ _ _)
 refine(zC)<|(zK (A7 l ch) (hfl:=.inr (aM.refl rfl)))<|(zR)<|(zB) ?_;refine ak.lM (f1:=[(1,slS 2 l encRep),(2,slS 1 ch (one1 aa)),(3,.ip [slS 3 c encKind]),(7,.ptr 1 0)]) cw (by rfl) func148 (by rfl) Fj ?_
 rintro N lc hid hn hps ha hb
 have hrd:DayRnd lc [(1,slS 2 l encRep),(2,slS 1 ch (one1 aa)),(3,.ip [slS 3 c encKind]),(7,.ptr 1 0)]:=by
  intro ro f0 day m X K hK pend f1 hS;cases hS;rw[ha,hps,hn];change ak _ _ _ ⟨(19,aa day)::(1,slS 2 l encRep)::(2,slS 1 ch (one1 aa))::(3,.ip [slS 3 c encKind])::(7,.ptr 1 0)::upF laid f0,33,_,[]⟩ _;refine(zV) ?_;refine⟨rfl,none,[(1,slS 2 l encRep),(2,slS 1 ch (one1 aa)),(3,.ip [slS 3 c encKind]),(7,.ptr 1 0)],rfl,?_⟩;rw[hb]
  refine(zB)<|(aq @min_int) ?_;refine⟨rfl,.busy,none,[(1,slS 2 l encRep),(2,slS 1 ch (one1 aa)),(3,.ip [slS 3 c encKind]),(7,.ptr 1 0)],rfl,?_⟩
  simp only[dnF,zj,laid,ad,↓reduceIte,endS,endC,cl];exact hK
 have hsc:=xY lc [(1,slS 2 l encRep),(2,slS 1 ch (one1 aa)),(3,.ip [slS 3 c encKind]),(7,.ptr 1 0)] hrd (by rw[hps];rfl) (by rw[hn];rfl) (by rw[hn];decide) (by rw[hps,hn];rfl) (λo ho=>by
  have h1:¬1=o:=by omega
  simp[cm,aH,h1,Ev.names,slS,dm]) l ch 40001 hl (by omega) heq
 refine⟨[3,1],_,_,_,_,hsc,?_,rfl,by decide,?_,?_⟩
 ·simp only[cX,aN,bf,slS,cm,aH,↓reduceIte,ac,af,aD,hid,List.map,e6,bt,nil_append]
 ·rintro(_ | _ | i) so h
  ·cases h;exact⟨3,rfl,by rfl⟩
  ·cases h;exact⟨1,rfl,by rfl⟩
  ·cases h
 rintro r S' ⟨rfl,rfl⟩;refine⟨by simp only[qx,cX,aN,slS,af,aj,decide_true];first | done | rfl,3,.ready,none,[(1,slS 2 l encRep),(2,slS 1 ch (one1 aa)),(3,.ip [slS 3 c encKind]),(7,.ptr 1 0)],by rfl,by decide,by rfl,?_⟩;change ak _ _ _ ⟨[(1,slS 2 l encRep),(2,slS 1 ch (one1 aa)),(3,.ip [slS 3 c encKind]),(7,.ptr 1 0)],33,[.gone,.cells [aa (minDs 40001 (l.zip ch))],.ik N,.gone],[{ fn:=none,tT:=N,args:=[],cap:=[] }]⟩ _;obtain⟨day,hday⟩:∃day,day=minDs 40001 (l.zip ch):=⟨_,rfl⟩
 have hF:falseN c l ch=!(decide ((followN c l ch day).2=0)):=by rw[falseN,hg,hday];rfl
 rw[hF,<-hday];have hfo:=ny c l ch day hc hl hlen heq;generalize followN c l ch day=q at hfo
 refine(zC)<|(zK hfo)<|(zR)<|(zV) ?_;refine ak.ret ?_
 (try simp only[dY,SThen,SRound,SNoGoto])
 exact⟨rfl,[(6,ao (!decide (q.2=0)))],⟨rfl,trivial⟩,rfl,.inl ⟨rfl,2,rfl,[ao (!decide (q.2=0))],ao (!decide (q.2=0)),by rfl,Wk.refl rfl,rfl⟩⟩
def doubtsN(l:List RepM):Nat:=l.countP λr=>decide (1<choicesN r)
def checkedN(c:List KKind)(l:List RepM):Int:=if catV c=true then (if (l.all λr=>!(decide (choicesN r=0)))=true then (if (30:Int)<(doubtsN l:Int) then 7 else 0) else 1) else 1
def qy(c:List KKind)(l:List RepM)(hc:CatOk c)(hl:∀r∈l,RepOk r)(hlen:l.length<=1000000):PC prog 33 [.ag [slS 3 c encKind],slS 2 l encRep] (·=aa (checkedN c l)):=by
 refine pB 31 Tryz.func33 ?_;refine(fe)<|(zK (hY c hc)) ?_
 cases h1:catV c
 ·exact(bE h1)<|(bq)<|zo [.tmp 4] (hq:=by rw[show checkedN c l=1 by simp[checkedN,h1]])
 refine(bE h1)<|(ee)<|(zV)<|(zs) ?_;refine zL l (λk=>((l.take k).all λr=>!(decide (choicesN r=0)))=true) (λk=>[(5,aa (doubtsN (l.take k))),(12,slS 2 l encRep),(13,aa l.length),(14,aa k)]) (λk=>[]) (Fg.less (by (simp only[bf,aN,cA,↓reduceIte,ac,slS,take_zero,doubtsN,ey])<;>(repeat' apply a0)<;>first | rfl | trivial) (by (simp only[bf,aN,or_true,true_or,slS,take_zero,doubtsN,ey])<;>(repeat' apply a0)<;>first | exact .inr rfl | exact .inl rfl | trivial)) zp ?_;intro k hk hall;refine zT l k ?_ ?_;rintro rfl;rotate_left;intro r hx hlt;rotate_left
 ·refine(cV) ?_;rw[bc] at hall ⊢
  have hN:checkedN c l=if (30:Int)<(doubtsN l:Int) then 7 else 0:=by rw[checkedN,h1,t8 rfl,t8 hall]
  cases h2:decide ((30:Int)<(doubtsN l:Int))
  ·exact(aq h2)<|(ee)<|zo [.tmp 4] (hq:=by rw[hN,ul (wt h2)])
  ·exact(aq h2)<|(bq)<|zo [.tmp 4] (hq:=by rw[hN,t8 (ww h2)])
 have hrk:RepOk r:=hl r (aS hx);have hr1:=hrk.len;have ht:=takeN_snoc hx;have hdl:doubtsN (l.take k)<=k:=bw List.countP_le_length (by rw[a5];omega)
 have hd1:doubtsN (l.take (k+1))=doubtsN (l.take k)+if 1<choicesN r then 1 else 0:=by
  unfold doubtsN;rw[ht,List.countP_append];by_cases h:1<choicesN r<;>simp[h]
 generalize doubtsN (l.take k)=dd at hd1 hdl ⊢
 refine(dI)<|(aq (n3 hlt (au (e:=2) (enc:=encRep) (λ_=>rfl) hx) @encRep.eq_1))<|(zC)<|(zK (dW r hrk))<|(zR)<|(zB) ?_
 cases g0:decide (choicesN r=0);rotate_left
 ·exact(aq g0)<|(bq)<|zo [.tmp 4] (hq:=by rw[show checkedN c l=1 by rw[checkedN,h1,t8 rfl,ul (λh=>by have:=List.all_eq_true.1 h r (aS hx);rw[g0] at this;cases this)]])
 refine(aq g0)<|(zN) ?_
 have hall2:((l.take (k+1)).all λr=>!(decide (choicesN r=0)))=true:=by
  rw[ht,ex,hall];show(true&&(!(decide (choicesN r=0))&&true))=true;rw[g0];rfl
 cases g1:decide (1<choicesN r)
 ·rw[ul (wt g1),bd] at hd1
  refine(aq g1)<|(zN)<|(aq (zi hlt hlen)) ?_;refine zX hlt (bg hd1) hall2
 ·rw[t8 (ww g1)] at hd1
  refine(aq g1)<|(zY)<|(zs) ?_;refine ak.r0 (by rfl) (gf (bA (dd:Int) 1 (by omega))) ?_;refine(aq (zi hlt hlen)) ?_;refine zX hlt (bg (n2 hd1 @cA)) hall2
def int_ones(l:List Int):(l.flatMap (one1 aa)).all cH=true:=flat_ones (λ_=>rfl) l
def Dw(o:Option Nat):SC prog 70 [.buf 0 0 1 o] [.cells []] [] (λr S'=>r=.buf 1 0 1 (some 0)/\S'=[.cells [],.cells []]):=by
 refine Aq 6 func70 ?_;refine(zV)<|(aq (n2 @length_nil.{0} @map_nil.{0,0}))<|(zE) ?_;exact zP [.tmp 2]
def tb(ch:List Int)(h0:ch≠[])(hlen:ch.length<=1000000)(o:Option Nat):SC prog 70 [.buf 0 ch.length 1 o] [.cells (ch.flatMap (one1 aa))] [] (λr S'=>r=.buf 1 ch.length 1 none/\S'=[.cells (ch.flatMap (one1 aa)),.cells (ch.flatMap (one1 aa))]):=by
 refine Aq 6 func70 ?_;have hcl:=flat_len' (enc:=one1 aa) (e:=1) (λ_=>rfl) ch;have hal:=flat_all (enc:=one1 aa) (e:=1) (λ_=>rfl) ch;have hon:=int_ones ch;have hkc:=λo=>kill_cells (enc:=one1 aa) (λ_=>rfl) o ch;rw[a2] at hal hcl;have h1:¬ch.length=0:=λe=>h0 (length_eq_zero_iff.1 e);have hp0:0<ch.length:=b7 h1;have hrc:∀r:Nat->Nat,fV r (ch.flatMap (one1 aa))=ch.flatMap (one1 aa):=λr=>aK (ar (λ_=>rfl) _)
 refine(zV)<|(aq (n9 h1 hp0 hlen hon hkc hal hcl @a2 @ax)) ?_;refine ak.fg (st':=⟨[(2,.buf 1 ch.length 1 none),(1000000,.ptr 0 0)],6,[.cells (ch.flatMap (one1 aa)),.cells (ch.flatMap (one1 aa))],[]⟩) (Fg.rn [0,2] (by decide) rfl (yU hrc) (yV hrc)) ?_;refine(zE) ?_;exact zP [.tmp 2]
def EC(at1 n:Nat)(ch:List Int)(k:Nat)(hk:k<ch.length)(hn:n=ch.length)(o:Option Nat):SC prog 71 [.ptr 0 0,.ptr 2 0] [.cells [.buf 1 n 1 o],.cells (ch.flatMap (one1 aa)),.cells [aa k]] [] (λr S'=>r=.aO []/\S'=[.cells [.buf 1 n 1 o],.cells ((ch.set k (-1)).flatMap (one1 aa)),.cells [aa k]]):=by
 refine E2 5 func71 ?_;have hcl:=flat_len' (enc:=one1 aa) (e:=1) (λ_=>rfl) ch;have hs:=flat_sets (enc:=one1 aa) (e:=1) (λ_=>rfl) (-1:Int) hk;rw[show one1 aa (-1)=[aa (-1)] from rfl,bt,nil_append,a2] at hs;subst hn;refine(aq (n5 hk hcl @a2 (show k+1<=ch.length by omega) hs)) ?_;exact zP []
def skipF(ch:List Int):Nat->Nat->Nat
 | 0,k=>k
 | f+1,k=>match ch[k]? with
  | some n=>if 0<=n then skipF ch f (k+1) else k
  | none=>k
def skipN(ch:List Int)(k:Nat):Nat:=skipF ch (ch.length-k) k
def skipN_pos{ch:List Int}{k:Nat}{n:Int}(h:ch[k]?=some n)(hn:0<=n):skipN ch k=skipN ch (k+1):=by
 have:=aE h;unfold skipN;rw[show ch.length-k=ch.length-(k+1)+1 by omega,skipF,h];simp only[t8 hn]
def skipN_neg{ch:List Int}{k:Nat}{n:Int}(h:ch[k]?=some n)(hn:¬0<=n):skipN ch k=k:=by
 have:=aE h;unfold skipN;rw[show ch.length-k=ch.length-(k+1)+1 by omega,skipF,h];simp only[ul hn]
def skipN_end{ch:List Int}{k:Nat}(h:ch.length<=k):skipN ch k=k:=by
 unfold skipN;rw[show ch.length-k=0 by omega,skipF]
def tryN(g:Nat->List (List Int)->Bool×List (List Int)):Nat->Nat->List (List Int)->Bool×List (List Int)
 | 0,_,out=>(true,out)
 | m+1,n,out=>if (g n out).1=true then tryN g m (n+1) (g n out).2 else (false,(g n out).2)
def fromN(c:List KKind)(l:List RepM)(most:Int):Nat->Nat->List Int->List (List Int)->Bool×List (List Int)
 | 0,_,_,out=>(true,out)
 | F+1,i,ch,out=>if falseN c l ch=true then (true,out) else match l[skipN ch i]? with
  | none=>if isN c l ch=true then (!(decide ((out.length:Int)+1=most)),out++[ch]) else (true,out)
  | some r=>tryN (λn out=>fromN c l most F (skipN ch i+1) (ch.set (skipN ch i) n) out) (choicesN r).toNat 0 out
def tryN_lt{g:Nat->List (List Int)->Bool×List (List Int)}{most:Int}(hg:∀n out,(out.length:Int)<most->(g n out).1=true->((g n out).2.length:Int)<most):∀(m n:Nat) (out:List (List Int)),(out.length:Int)<most->(tryN g m n out).1=true->((tryN g m n out).2.length:Int)<most
 | 0,n,out,h,_=>by rw[tryN];exact h
 | m+1,n,out,h,ht=>by
  rw[tryN] at ht ⊢;split at ht
  ·rename_i h1;rw[t8 h1];exact tryN_lt hg m (n+1) _ (hg n out h h1) ht
  ·cases ht
def fromN_lt{c:List KKind}{l:List RepM}{most:Int}:∀(F i:Nat) (ch:List Int) (out:List (List Int)),(out.length:Int)<most->(fromN c l most F i ch out).1=true->((fromN c l most F i ch out).2.length:Int)<most
 | 0,i,ch,out,h,_=>by rw[fromN];exact h
 | F+1,i,ch,out,h,ht=>by
  rw[fromN] at ht ⊢;split
  ·exact h
  ·rename_i h1;rw[ul h1] at ht;split
   ·rename_i h2;rw[h2] at ht;simp only at ht;split
    ·rename_i h3;rw[t8 h3] at ht;simp only[eb,wd] at ht;rw[al];show((out.length+1:Nat):Int)<most;omega
    ·exact h
   ·rename_i r h2;rw[h2] at ht;exact tryN_lt (λn out h h2=>fromN_lt F _ _ _ h h2) _ _ _ h ht
def encCh(ch:List Int):List SV:=[slS 1 ch (one1 aa)]
def encCh_len(ch:List Int):(encCh ch).length=1:=rfl
def encCh_gnd(ch:List Int):bm (encCh ch)=true:=rfl
def nob(out:List (List Int)):SO:=if out=[] then .gone else .cells (out.flatMap encCh)
def nob_p{l:List (List Int)}(h:¬l=[]):nob l=.cells (l.flatMap encCh):=ul h
def nob_nil:nob []=.gone:=rfl
def kill_nob(o:Nat)(l:List (List Int)):killO o (nob l)=nob l:=by
 unfold nob;split
 ·rfl
 ·rw[killO,kill_cells encCh_gnd]
def rn_nob(r:Nat->Nat)(l:List (List Int)):iK r (nob l)=nob l:=by
 unfold nob;split
 ·rfl
 ·show SO.cells (fV r _)=_;rw[aK (ar encCh_gnd l)]
def bnd_nob(B:Nat)(l:List (List Int)):fK B (nob l)=true:=by
 unfold nob;split
 ·rfl
 ·exact aP (ar encCh_gnd l)
def loopA(lc:dw)(most:Int)(ok:Bool):SO:=.loop lc (cond ok .ready .done) (cond ok none (some (.exit 0))) [(5,.ip [aa most]),(9,.ptr 1 0)]
def kill_loopA(o:Nat)(lc:dw)(most:Int)(ok:Bool)(h:¬1=o):killO o (loopA lc most ok)=loopA lc most ok:=by
 simp[loopA,killO,cm,aH,Ev.names,dm,h]
def rn_loopA(r:Nat->Nat)(lc:dw)(most:Int)(ok:Bool)(h:r 1=1):iK r (loopA lc most ok)=loopA lc most ok:=by
 show SO.loop lc _ _ [(5,SV.ip [aa most]),(9,SV.ptr (r 1) 0)]=_;rw[h];rfl
def bnd_loopA(B:Nat)(lc:dw)(most:Int)(ok:Bool)(h:1<B):fK B (loopA lc most ok)=true:=by
 simp[loopA,fK,sm,bV,dA,h]
def fromV(c:List KKind)(l:List RepM)(lc:dw):SV:=.fn 67 [] [.ip [slS 3 c encKind],.ip [slS 2 l encRep],.ptr 3 0,.ip [.a (.fn (.yield lc.id) [] [])],.ptr 5 0]
def frO(c:List KKind)(l:List RepM)(lc:dw)(most:Int)(ok:Bool)(out:List (List Int))(ch:List Int):List SO:=
 [loopA lc most ok,.cells [nbuf 2 1 out.length],nob out,.cells [.buf 4 ch.length 1 (some ch.length)],.cells (ch.flatMap (one1 aa)),.cells [fromV c l lc]]
def findRange:Code->Option (Code×Code)
 | .seq a b=>match findRange a with
  | some x=>some x
  | none=>findRange b
 | .block _ c=>findRange c
 | .rangeFunc _ _ a b=>some (a,b)
 | _=>none
def AllCode(lc:dw):Prop:=(prog.funcs[(18:Nat)]?.bind λfn=>fn.body.bind findRange)=some (lc.a,lc.b)
abbrev v6:Fm:=[(1000000,.ptr 0 0),(1000001,.ptr 1 0),(1000002,.ptr 2 0),(1000003,.ptr 3 0),(1000004,.ptr 4 0),(1000005,.ptr 5 0)]
abbrev v5:Fm:=[(1000000,.ptr 0 0),(1000001,.ptr 1 0),(1000003,.ptr 3 0),(1000004,.ptr 4 0),(1000005,.ptr 5 0)]
abbrev c6(c:List KKind)(l:List RepM)(lc:dw):Fm:=(1,.ip [slS 3 c encKind])::(2,.ip [slS 2 l encRep])::(3,.ptr 3 0)::(4,.ip [.a (.fn (.yield lc.id) [] [])])::(5,.ptr 5 0)::(6,.ptr 6 0)::v6
abbrev c5(c:List KKind)(l:List RepM)(lc:dw):Fm:=(1,.ip [slS 3 c encKind])::(2,.ip [slS 2 l encRep])::(3,.ptr 3 0)::(4,.ip [.a (.fn (.yield lc.id) [] [])])::(5,.ptr 5 0)::(6,.ptr 6 0)::v5
def OpenOk(ch:List Int):Prop:=∀n∈ch,n<0->n = -1
def pV(c:List KKind)(l:List RepM)(lc:dw)(most:Int)(hcd:AllCode lc)(hln:lc.n=39)(hlp:lc.ps=#[26])(hc:CatOk c)(hl:∀r∈l,RepOk r)(hlen:l.length<20)(hl0:l≠[])(hm:most<=4096):∀(F i:Nat) (ch:List Int) (out:List (List Int)),i<=l.length->l.length<F+i->ch.length=l.length->OpenOk ch->(out.length:Int)<most->
 SC Tryz.prog 67 [aa i,.ip [slS 3 c encKind],.ip [slS 2 l encRep],.ptr 3 0,.ip [.a (.fn (.yield lc.id) [] [])],.ptr 5 0] (frO c l lc most true out ch) [2] (λr S'=>r=ao (fromN c l most F i ch out).1/\S'=frO c l lc most (fromN c l most F i ch out).1 (fromN c l most F i ch out).2 ch)
 | 0,i,ch,out,h1,h2,_,_,_=>by omega
 | F+1,i,ch,out,hi,hF,hch,hop,hout=>by
  have ih:=pV c l lc most hcd hln hlp hc hl hlen hl0 hm F;have h0:ch≠[]:=λe=>hl0 (List.length_eq_zero_iff.1 (by rw[<-hch,e];rfl));have hcl:=flat_len' (enc:=one1 aa) (e:=1) (λ_=>rfl) ch;have hal:=flat_all (enc:=one1 aa) (e:=1) (λ_=>rfl) ch;have hkc:=λo=>kill_cells (enc:=one1 aa) (λ_=>rfl) o ch;have hk6:=λok=>kill_loopA 6 lc most ok (by decide);have hn6:∀n,Ev.names 6 (nbuf 2 1 n)=false:=λn=>names_nbuf (by decide);refine SC.kh (n:=60) cw Tryz.func67 rfl rfl (by decide) (W:=v6) rfl (Nat.le_of_ble_eq_true rfl) ?_;unfold frO
  refine(zs) ?_;refine ak.r0 (by rfl) (by simp only[bf,aN,slS,an,Option.bind_some,Option.map_some,↓reduceIte,Nat.reduceEqDiff,Nat.reduceAdd,Nat.reduceMul,Nat.reduceLeDiff,Nat.reduceLT,ab,ah,isSub,↓kill_nob,↓hk6,hn6,hkc,fromV];first | done | rfl) ?_;refine(zC)<|(zK (td c l ch hc hl hlen (by omega)) (hwk:=aM.cons (.ag (aM.refl rfl)) (.cons (.sl _ _ _) (.cons (.buf rfl (by rw[hal];exact aM.refl (ar (λ_=>rfl) ch)) (by rw[hcl];exact Nat.le_refl _)) .nil)))) ?_
  cases hfa:falseN c l ch;rotate_left
  ·have hN:fromN c l most (F+1) i ch out=(true,out):=by rw[fromN,hfa];rfl
   refine(zR)<|(bq) ?_
   rw[hN];refine ak.fg (st':=⟨(7,ao true)::v6,60,frO c l lc most true out ch,[]⟩) (bg (n2 @frO.eq_1 @fromV.eq_1)) ?_;refine ak.ret ?_
   (try simp only[dY,SThen,SRound,SNoGoto])
   exact⟨rfl,⟨[ao true],by rfl,rfl,rfl⟩,Nat.le_refl _,(by rintro(_ | _ | _ | _ | _ | _ | i) hi2 hm2<;>first | rfl | (exfalso;omega) | (exfalso;simp only[List.length_cons,List.length_nil] at hi2;omega) | exact t7 (by simp) hm2)⟩
  refine(zR)<|(zN) ?_
  (repeat refine ak.seq ?_)
  refine ak.block (ak.loop (λm st=>∃k:Nat,(i<=k/\k<=l.length)/\skipN ch k=skipN ch i/\l.length-k=m/\st=⟨(c6 c l lc),60,[loopA lc most true,.cells [nbuf 2 1 out.length],nob out,.cells [.buf 4 ch.length 1 (some ch.length)],.cells (ch.flatMap (one1 aa)),.cells [fromV c l lc],.cells [aa k]],[]⟩) (l.length-i) (bg @fromV.eq_1) ⟨i,⟨Nat.le_refl _,hi⟩,rfl,rfl,rfl⟩ (by rintro m st ⟨k,_,_,_,rfl⟩;rfl) ?_);rintro m st ⟨k,⟨hik,hk⟩,hsk,rfl,rfl⟩;by_cases hlt:k<l.length
  ·have hkl:k<ch.length:=by omega
   obtain⟨n,hn⟩:∃n,ch[k]?=some n:=⟨ch[k],List.getElem?_eq_getElem hkl⟩
   have hcell:(ch.flatMap (one1 aa))[k]?=some (aa n):=by
    have h1:((ch.flatMap (one1 aa)).drop (k*1)).take 1=[aa n]:=au (e:=1) (enc:=one1 aa) (λ_=>rfl) hn;have h2:=congrArg (λl=>l[0]?) h1;simp only[List.getElem?_take,List.getElem?_drop,Nat.add_zero,Nat.mul_one] at h2;exact h2
   cases g:decide (0<=n);rotate_left
   ·refine(aq (n5 (show decide ((k:Int)<(l.length:Int))=true by simp only[wp];omega) hkl hcell @Nat.mul_one g))<|(dI)<|(aq (nL (show -9223372036854775808<=(k:Int)+1/\(k:Int)+1<=9223372036854775807 from⟨by omega,by omega⟩))) ?_;exact⟨l.length-(k+1),_,by omega,(bg @fromV.eq_1),k+1,⟨by omega,by omega⟩,by rw[<-hsk,skipN_pos hn (ww g)],rfl,rfl⟩
   have hk2:skipN ch i=k:=by rw[<-hsk,skipN_neg hn (wt g)]
   obtain⟨r,hr⟩:∃r,l[k]?=some r:=⟨l[k],List.getElem?_eq_getElem hlt⟩
   have hN:fromN c l most (F+1) i ch out=tryN (λn out=>fromN c l most F (k+1) (ch.set k n) out) (choicesN r).toNat 0 out:=by rw[fromN,hfa,ul (by decide),hk2,hr]
   refine(aq (n5 (show decide ((k:Int)<(l.length:Int))=true by simp only[wp];omega) hkl hcell @Nat.mul_one g))<|(cV) ?_
   (try change ak _ _ _ _ _)
   refine(aq (show decide ((k:Int)=(l.length:Int))=false by simp only[wd];omega))<|(zN) ?_
   have hn1:n = -1:=hop n (List.mem_of_getElem? hn) (by have:=wt g;omega)
   have hch0:ch.set k (-1)=ch:=by
    apply List.ext_getElem?;intro j;by_cases hj:k=j
    ·subst hj;rw[List.getElem?_set_self hkl,hn,hn1]
    ·rw[List.getElem?_set_ne hj]
   have hset:∀x y:Int,((ch.set k x).flatMap (one1 aa)).take k++(aa y::((ch.set k x).flatMap (one1 aa)).drop (k+1))=(ch.set k y).flatMap (one1 aa):=by
    intro x y;have hs:=flat_sets (enc:=one1 aa) (e:=1) (λ_=>rfl) (l:=ch.set k x) (i:=k) y (by rw[List.length_set];exact hkl);rw[show one1 aa y=[aa y] from rfl,List.cons_append,List.nil_append,Nat.mul_one,List.set_set] at hs;exact hs
   have hcl2:∀x:Int,((ch.set k x).flatMap (one1 aa)).length=ch.length:=λx=>by rw[flat_len' (enc:=one1 aa) (e:=1) (λ_=>rfl),List.length_set,Nat.mul_one]
   have hkc2:=λ(x:Int) (o:Nat)=>kill_cells (enc:=one1 aa) (λ_=>rfl) o (ch.set k x);have hrk:RepOk r:=hl r (List.mem_of_getElem? hr);have hr1:=hrk.len;have hcr:=choices_le r;rw[hN];generalize hG:(λ(n:Nat) out=>fromN c l most F (k+1) (ch.set k (n:Int)) out)=G;generalize hFin:tryN G (choicesN r).toNat 0 out=fin;refine(zC) ?_;refine aB.defer (by rfl) rfl rfl (by rfl) (by decide) rfl rfl rfl (by rfl) λa ha=>?_;change aB _ _ _ _ ⟨(7000000,_)::_,_,_,_⟩ _;refine(zR) ?_
   have hret:∀x:Int,EJ Tryz.prog Tryz.f67 6 [2] (λr S'=>r=ao fin.1/\S'=[loopA lc most fin.1,.cells [nbuf 2 1 fin.2.length],nob fin.2,.cells [.buf 4 ch.length 1 (some ch.length)],.cells (ch.flatMap (one1 aa)),.cells [fromV c l lc]]) .ret ⟨[(7,ao fin.1),(1000000,.ptr 0 0),(1000001,.ptr 1 0),(1000003,.ptr 3 0),(1000004,.ptr 4 0),(1000005,.ptr 5 0),(7000000,.fn 71 [] [.ptr 3 0,.ptr 6 0])],60,[loopA lc most fin.1,.cells [nbuf 2 1 fin.2.length],nob fin.2,.cells [.buf 4 ch.length 1 (some ch.length)],.cells ((ch.set k x).flatMap (one1 aa)),.cells [fromV c l lc],.cells [aa k]],[a]⟩:=by
    intro x;refine⟨rfl,((7,ao fin.1)::v5),by simp only[HasS,aC,Nat.reduceEqDiff,↓reduceIte,and_self],rfl,.inr ⟨71,[],[.ptr 3 0,.ptr 6 0],_,_,5,ha,rfl,Tryz.func71,rfl,rfl,by decide,?_⟩⟩;refine ak.post ?_;change ak _ _ _ ⟨[(0,.ptr 3 0),(1,.ptr 6 0),(20000007,ao fin.1),(21000000,.ptr 0 0),(21000001,.ptr 1 0),(21000003,.ptr 3 0),(21000004,.ptr 4 0),(21000005,.ptr 5 0)],5,_,[]⟩ _;refine(aq (n5 hkl hcl2 @Nat.mul_one (show k+1<=ch.length by omega) hset)) ?_;refine⟨⟨[(20000007,ao fin.1),(21000000,.ptr 0 0),(21000001,.ptr 1 0),(21000003,.ptr 3 0),(21000004,.ptr 4 0),(21000005,.ptr 5 0)],5,[loopA lc most fin.1,.cells [nbuf 2 1 fin.2.length],nob fin.2,.cells [.buf 4 ch.length 1 (some ch.length)],.cells (ch.flatMap (one1 aa)),.cells [fromV c l lc]],[]⟩,(bg (n2 @fromV.eq_1 hch0)),rfl,rfl,⟨[],rfl⟩,⟨[ao fin.1],by rfl,rfl,rfl⟩,Nat.le_refl _,(by rintro(_ | _ | _ | _ | _ | _ | i) hi2 hm2<;>first | rfl | (exfalso;omega) | (exfalso;simp only[List.length_cons,List.length_nil] at hi2;omega) | exact t7 (by simp) hm2)⟩
   refine(e8 (n3 hlt (au (e:=2) (enc:=encRep) (λ_=>rfl) hr) @encRep.eq_1))<|(zK (dW r hrk))<|(zR) ?_
   rw[show(ch.flatMap (one1 aa))=((ch.set k (-1)).flatMap (one1 aa)) by rw[hch0]]
   (repeat refine ak.seq ?_)
   refine ak.block (ak.loop (λm st=>∃(nn:Nat) (x:Int) (o:List (List Int)),(nn<=(choicesN r).toNat/\tryN G ((choicesN r).toNat-nn) nn o=fin/\(o.length:Int)<most)/\(choicesN r).toNat-nn=m/\st=⟨[(46,aa (choicesN r)),(47,aa nn),(1,.ip [slS 3 c encKind]),(2,.ip [slS 2 l encRep]),(3,.ptr 3 0),(4,.ip [.a (.fn (.yield lc.id) [] [])]),(5,.ptr 5 0),(6,.ptr 6 0),(1000000,.ptr 0 0),(1000001,.ptr 1 0),(1000003,.ptr 3 0),(1000004,.ptr 4 0),(1000005,.ptr 5 0),(7000000,.fn 71 [] [.ptr 3 0,.ptr 6 0])],60,[loopA lc most true,.cells [nbuf 2 1 o.length],nob o,.cells [.buf 4 ch.length 1 (some ch.length)],.cells ((ch.set k x).flatMap (one1 aa)),.cells [fromV c l lc],.cells [aa k]],[a]⟩) ((choicesN r).toNat) (bg @fromV.eq_1) ⟨0,-1,out,⟨Nat.zero_le _,hFin,hout⟩,rfl,rfl⟩ (by rintro m st ⟨_,_,_,_,_,rfl⟩;rfl) ?_);rintro m st ⟨nn,x,o,⟨hnn,htr,ho⟩,rfl,rfl⟩;by_cases hC:(nn:Int)<choicesN r
   ·obtain⟨s,hs⟩:∃s,(choicesN r).toNat-nn=s+1:=⟨(choicesN r).toNat-nn-1,by omega⟩;rw[hs,tryN] at htr
    refine(aq (show decide ((nn:Int)<choicesN r)=true from ut hC))<|(dI)<|(zV)<|(aq (n5 hkl hcl2 @Nat.mul_one (show k+1<=ch.length by omega) hset)) ?_
    have hi:=ih (k+1) (ch.set k (nn:Int)) o (by omega) (by omega) (by rw[List.length_set];exact hch) (λy hy hy0=>(List.mem_or_eq_of_mem_set hy).elim (λh=>hop y h hy0) (λh=>by omega)) ho;unfold frO at hi
    have hGn:fromN c l most F (k+1) (ch.set k (nn:Int)) o=G nn o:=by rw[<-hG]
    rw[List.length_set,hGn] at hi
    have hqlt:(G nn o).1=true->((G nn o).2.length:Int)<most:=by rw[<-hGn];exact fromN_lt F _ _ _ ho
    generalize G nn o=q at hi htr hqlt;have hrc:∀(r:Nat->Nat) (x:Int),fV r ((ch.set k x).flatMap (one1 aa))=(ch.set k x).flatMap (one1 aa):=λr x=>aK (ar (λ_=>rfl) _);have hbc:∀(B:Nat) (x:Int),dA B ((ch.set k x).flatMap (one1 aa))=true:=λB x=>aP (ar (λ_=>rfl) _);refine(e8 (n2 @fromV.eq_1 (nL (show -9223372036854775808<=(k:Int)+1/\(k:Int)+1<=9223372036854775807 from⟨by omega,by omega⟩)))) ?_;rw[show((k+1:Nat):Int)=(k:Int)+1 by omega] at hi;have hrl:∀(B:Nat) (ok:Bool),iK (eM [0,1,2,3,4,5] B) (loopA lc most ok)=loopA lc most ok:=λB ok=>rn_loopA _ lc most ok rfl;have hbl:∀ok:Bool,fK 6 (loopA lc most ok)=true:=λok=>bnd_loopA 6 lc most ok (by decide);have hrn:∀(B n:Nat),de (eM [0,1,2,3,4,5] B) (nbuf 2 1 n)=nbuf 2 1 n:=λB n=>rn_nbuf _ 2 1 n
    have hbn:∀n:Nat,bV 6 (nbuf 2 1 n)=true:=λn=>by
     unfold nbuf;split
     ·exact c8 rfl
     ·rfl
    refine aB.sk [0,1,2,3,4,5] (by rfl) rfl rfl (by rfl) rfl (xb @fromV.eq_1) (hi) (by simp only[cX,aN,slS,↓reduceIte,Nat.reduceEqDiff,Nat.reduceAdd,Nat.reduceSub,Nat.reduceMul,Nat.reduceLeDiff,Nat.reduceLT,hrc,hbc,↓rn_nob,↓bnd_nob,fromV,↓hrl,↓hbl,↓hrn,↓hbn];first | done | rfl) rfl (by decide) (by simp only[hosL,cX,aN,slS,hrc,hbc,↓rn_nob,↓bnd_nob,fromV,↓hrl,↓hbl,↓hrn,↓hbn]<;>(repeat' apply And.intro)<;>first | trivial | rfl | (intro hh;cases hh)) (by simp only[qx,cX,aN,slS,Nat.reduceAdd,Nat.reduceLT,decide_true,hrc,hbc,↓rn_nob,↓bnd_nob,fromV,↓hrl,↓hbl,↓hrn,↓hbn];first | done | rfl) (by simp only[qx,cX,aN,slS,Nat.reduceAdd,Nat.reduceLT,decide_true,hrc,hbc,↓rn_nob,↓bnd_nob,fromV,↓hrl,↓hbl,↓hrn,↓hbn];first | done | rfl) (by simp only[cX,aN,slS,↓reduceIte,Nat.reduceEqDiff,Nat.reduceAdd,Nat.reduceSub,Nat.reduceMul,Nat.reduceLeDiff,Nat.reduceLT,hrc,hbc,↓rn_nob,↓bnd_nob,fromV,↓hrl,↓hbl,↓hrn,↓hbn];first | done | rfl) (by simp only[cX,aN,slS,↓reduceIte,Nat.reduceEqDiff,Nat.reduceAdd,Nat.reduceSub,Nat.reduceMul,Nat.reduceLeDiff,Nat.reduceLT,hrc,hbc,↓rn_nob,↓bnd_nob,fromV,↓hrl,↓hbl,↓hrn,↓hbn,cm,bZ,killO,aH,bf];first | done | rfl) (by simp only[cX,aN,slS,↓reduceIte,Nat.reduceEqDiff,Nat.reduceAdd,Nat.reduceSub,Nat.reduceMul,Nat.reduceLeDiff,Nat.reduceLT,hrc,hbc,↓rn_nob,↓bnd_nob,fromV,↓hrl,↓hbl,↓hrn,↓hbn,cm,bZ,killO,aH,bf];first | done | rfl) ?_;refine(zR) ?_;cases hq1:q.1;rotate_left
    ·rw[hq1,t8 rfl] at htr
     refine(zN)<|(aq (nL (show -9223372036854775808<=(nn:Int)+1/\(nn:Int)+1<=9223372036854775807 from⟨by omega,by omega⟩))) ?_;exact⟨(choicesN r).toNat-(nn+1),_,by omega,(bg @fromV.eq_1),nn+1,(nn:Int),q.2,⟨by omega,by rw[show(choicesN r).toNat-(nn+1)=s by omega];exact htr,hqlt hq1⟩,rfl,rfl⟩
    ·rw[hq1,ul (by decide)] at htr;subst htr;refine(bq) ?_;refine ak.fg (st':=⟨[(7,ao false),(1000000,.ptr 0 0),(1000001,.ptr 1 0),(1000003,.ptr 3 0),(1000004,.ptr 4 0),(1000005,.ptr 5 0),(7000000,.fn 71 [] [.ptr 3 0,.ptr 6 0])],60,[loopA lc most false,.cells [nbuf 2 1 q.2.length],nob q.2,.cells [.buf 4 ch.length 1 (some ch.length)],.cells ((ch.set k (nn:Int)).flatMap (one1 aa)),.cells [fromV c l lc],.cells [aa k]],[a]⟩) (bg @fromV.eq_1) ?_;refine ak.ret ?_
     (try simp only[dY,SThen,SRound,SNoGoto])
     rw[hch0];exact hret nn
   ·refine(aq (show decide ((nn:Int)<choicesN r)=false from un hC))<|(cV) ?_
    (try change ak _ _ _ _ _)
    rw[show(choicesN r).toNat-nn=0 by omega,tryN] at htr;refine(zV) ?_;subst htr;refine ak.fg (st':=⟨[(7,ao true),(1000000,.ptr 0 0),(1000001,.ptr 1 0),(1000003,.ptr 3 0),(1000004,.ptr 4 0),(1000005,.ptr 5 0),(7000000,.fn 71 [] [.ptr 3 0,.ptr 6 0])],60,[loopA lc most true,.cells [nbuf 2 1 o.length],nob o,.cells [.buf 4 ch.length 1 (some ch.length)],.cells ((ch.set k x).flatMap (one1 aa)),.cells [fromV c l lc],.cells [aa k]],[a]⟩) (bg @fromV.eq_1) ?_;refine ak.ret ?_
    (try simp only[dY,SThen,SRound,SNoGoto])
    rw[hch0];exact hret x
  obtain rfl:k=l.length:=by omega
  have hk2:skipN ch i=l.length:=by rw[<-hsk,skipN_end (by omega)]
  have hN:fromN c l most (F+1) i ch out=if isN c l ch=true then (!(decide ((out.length:Int)+1=most)),out++[ch]) else (true,out):=by rw[fromN,hfa,ul (by decide),hk2,List.getElem?_eq_none (Nat.le_refl _)]
  refine(aq (show decide ((l.length:Int)<(l.length:Int))=false by simp))<|(cV) ?_
  (try change ak _ _ _ _ _)
  refine(aq (show decide ((l.length:Int)=(l.length:Int))=true by simp))<|(zY) ?_
  (repeat refine ak.seq ?_)
  have hv0:∀(i:Nat) (v:SV),vo (λ_=>False) i v=.any:=λi v=>ji λh=>h;have hv9:∀(i:Nat),i<9->∀v:SV,vo (λj=>j<9) i v=v:=λi h v=>cB h;cases hb:isN c l ch
  ·rw[hb,ul (by decide)] at hN;refine ak.rQ 9 12 (λL=>⟨(30,vo L 0 (.ag [slS 3 c encKind]))::(31,vo L 1 (slS 2 l encRep))::(32,vo L 2 (.buf 4 ch.length 1 (some ch.length)))::(33,vo L 3 (ao false))::(34,vo L 4 (ao (!false)))::(35,vo L 5 (ao (!false)))::(36,vo L 6 (.a e7))::(37,vo L 7 (.a e7))::(38,vo L 8 (.a e7))::c6 c l lc,60,[loopA lc most true,.cells [nbuf 2 1 out.length],nob out,.cells [.buf 4 ch.length 1 (some ch.length)],.cells (ch.flatMap (one1 aa)),.cells [fromV c l lc],.cells [aa l.length]],[]⟩) rfl (by kernel_rfl) (by rfl) (by decide) (by kernel_rfl) (bg (n2 @fromV.eq_1 hv0)) (λL=>rfl) ?_ ?_
   ·rintro L i o him hC hr
    rcases i with _ | _ | _ | _ | _ | _ | _ | _ | _ | i
    rotate_right
    ·exact t7 him (by omega)
    ·cases hr.at';refine(zR) ?_;exact(bg (n2 @fromV.eq_1 @aL))
    ·cases hr.at';refine(zR) ?_;exact(bg (n2 @fromV.eq_1 @aL))
    ·cases hr.at';refine(zR) ?_;exact(bg (n2 @fromV.eq_1 @aL))
    ·cases hr.at';have d0:L 0:=hr.dep ⟨0,.data⟩ (by simp) rfl;have d1:L 1:=hr.dep ⟨1,.data⟩ (by simp) rfl;have d2:L 2:=hr.dep ⟨2,.data⟩ (by simp) rfl;have his:=rV c l ch hc hl hlen (by omega);rw[hb] at his;refine(zK his (hc:=xb (n3 (da d0) (da d1) (da d2))) (hwk:=aM.cons (.ag (aM.refl rfl)) (.cons (.sl _ _ _) (.cons (.buf rfl (by rw[hal];exact aM.refl (ar (λ_=>rfl) ch)) (by rw[hcl];exact Nat.le_refl _)) .nil)))) ?_;refine .nil ?_;exact(bg (n5 @fromV.eq_1 @aL (da d0) (da d1) (da d2)))
    ·cases hr.at';have d3:L 3:=hr.dep ⟨3,.data⟩ (by simp) rfl;refine(bE (da d3)) ?_;exact(bg (n3 @fromV.eq_1 @aL (da d3)))
    ·cases hr.at';have d4:L 4:=hr.dep ⟨4,.data⟩ (by simp) rfl;refine(bE (da d4)) ?_;exact(bg (n3 @fromV.eq_1 @aL (da d4)))
    ·cases hr.at';have d5:L 5:=hr.dep ⟨5,.guard⟩ (by simp) rfl;refine(bE (da d5)) ?_;exact(bg (n3 @fromV.eq_1 @aL (da d5)))
    ·cases hr.at';have d5:L 5:=hr.dep ⟨5,.guard⟩ (by simp) rfl;refine(bE (da d5)) ?_;exact(bg (n3 @fromV.eq_1 @aL (da d5)))
    ·cases hr.at';have d5:L 5:=hr.dep ⟨5,.guard⟩ (by simp) rfl;have d7:L 7:=hr.dep ⟨7,.data⟩ (by simp) rfl;refine(bE (n2 (da d5) (da d7))) ?_;exact(bg (n4 @fromV.eq_1 @aL (da d5) (da d7)))
   ·change aB _ _ _ _ _ _;refine aB.fg (st':=⟨(35,ao true)::v6,60,[loopA lc most true,.cells [nbuf 2 1 out.length],nob out,.cells [.buf 4 ch.length 1 (some ch.length)],.cells (ch.flatMap (one1 aa)),.cells [fromV c l lc],.cells [aa l.length]],[]⟩) (bg (n2 @fromV.eq_1 (hv9 5 (by decide)))) ?_;refine(zR) ?_;change aB _ _ _ _ _ _;refine(zR) ?_;change aB _ _ _ _ _ _;refine(zR) ?_;rw[hN];refine ak.fg (st':=⟨(7,ao true)::v6,60,[loopA lc most true,.cells [nbuf 2 1 out.length],nob out,.cells [.buf 4 ch.length 1 (some ch.length)],.cells (ch.flatMap (one1 aa)),.cells [fromV c l lc]],[]⟩) (bg @fromV.eq_1) ?_;refine ak.ret ?_
    (try simp only[dY,SThen,SRound,SNoGoto])
    exact⟨rfl,⟨[ao true],by rfl,rfl,rfl⟩,Nat.le_refl _,(by rintro(_ | _ | _ | _ | _ | _ | i) hi2 hm2<;>first | rfl | (exfalso;omega) | (exfalso;simp only[List.length_cons,List.length_nil] at hi2;omega) | exact t7 (by simp) hm2)⟩
  ·rw[hb,t8 rfl] at hN;refine ak.rQ 9 12 (λL=>⟨(30,vo L 0 (.ag [slS 3 c encKind]))::(31,vo L 1 (slS 2 l encRep))::(32,vo L 2 (.buf 4 ch.length 1 (some ch.length)))::(33,vo L 3 (ao true))::(34,vo L 4 (ao (!true)))::(35,vo L 5 (ao (!true)))::(36,vo L 6 (.a (.fn (.yield lc.id) [] [])))::(37,vo L 7 (.buf 4 ch.length 1 (some ch.length)))::(38,vo L 8 (slS 1 ch (one1 aa)))::c6 c l lc,60,[loopA lc most true,.cells [nbuf 2 1 out.length],nob out,.cells [.buf 4 ch.length 1 (some ch.length)],.cells (ch.flatMap (one1 aa)),.cells [fromV c l lc],.cells [aa l.length]],[]⟩) rfl (by kernel_rfl) (by rfl) (by decide) (by kernel_rfl) (bg (n2 @fromV.eq_1 hv0)) (λL=>rfl) ?_ ?_
   ·rintro L i o him hC hr
    rcases i with _ | _ | _ | _ | _ | _ | _ | _ | _ | i
    rotate_right
    ·exact t7 him (by omega)
    ·cases hr.at';refine(zR) ?_;exact(bg (n2 @fromV.eq_1 @aL))
    ·cases hr.at';refine(zR) ?_;exact(bg (n2 @fromV.eq_1 @aL))
    ·cases hr.at';refine(zR) ?_;exact(bg (n2 @fromV.eq_1 @aL))
    ·cases hr.at';have d0:L 0:=hr.dep ⟨0,.data⟩ (by simp) rfl;have d1:L 1:=hr.dep ⟨1,.data⟩ (by simp) rfl;have d2:L 2:=hr.dep ⟨2,.data⟩ (by simp) rfl;have his:=rV c l ch hc hl hlen (by omega);rw[hb] at his;refine(zK his (hc:=xb (n3 (da d0) (da d1) (da d2))) (hwk:=aM.cons (.ag (aM.refl rfl)) (.cons (.sl _ _ _) (.cons (.buf rfl (by rw[hal];exact aM.refl (ar (λ_=>rfl) ch)) (by rw[hcl];exact Nat.le_refl _)) .nil)))) ?_;refine .nil ?_;exact(bg (n5 @fromV.eq_1 @aL (da d0) (da d1) (da d2)))
    ·cases hr.at';have d3:L 3:=hr.dep ⟨3,.data⟩ (by simp) rfl;refine(bE (da d3)) ?_;exact(bg (n3 @fromV.eq_1 @aL (da d3)))
    ·cases hr.at';have d4:L 4:=hr.dep ⟨4,.data⟩ (by simp) rfl;refine(bE (da d4)) ?_;exact(bg (n3 @fromV.eq_1 @aL (da d4)))
    ·cases hr.at';have d5:L 5:=hr.dep ⟨5,.guard⟩ (by simp) rfl;refine(bE (da d5)) ?_;exact(bg (n3 @fromV.eq_1 @aL (da d5)))
    ·cases hr.at';have d5:L 5:=hr.dep ⟨5,.guard⟩ (by simp) rfl;refine(bE (da d5)) ?_;exact(bg (n3 @fromV.eq_1 @aL (da d5)))
    ·cases hr.at';have d5:L 5:=hr.dep ⟨5,.guard⟩ (by simp) rfl;have d7:L 7:=hr.dep ⟨7,.data⟩ (by simp) rfl;have hn8:¬L 8:=hr.new;have hrc0:∀r:Nat->Nat,fV r (ch.flatMap (one1 aa))=ch.flatMap (one1 aa):=λr=>aK (ar (λ_=>rfl) _);have hbc0:∀B:Nat,dA B (ch.flatMap (one1 aa))=true:=λB=>aP (ar (λ_=>rfl) _);have hkl7:=λok=>kill_loopA 7 lc most ok (by decide);have hn7:∀n,Ev.names 7 (nbuf 2 1 n)=false:=λn=>names_nbuf (by decide);have hcp:=tb ch h0 (by omega) (some ch.length);refine aB.fg (st':=⟨(30,vo L 0 (.ag [slS 3 c encKind]))::(31,vo L 1 (slS 2 l encRep))::(32,vo L 2 (.buf 4 ch.length 1 (some ch.length)))::(33,vo L 3 (ao true))::(34,vo L 4 (ao (!true)))::(35,ao false)::(36,vo L 6 (.a (.fn (.yield lc.id) [] [])))::(37,(.buf 4 ch.length 1 (some ch.length)))::c6 c l lc,60,[loopA lc most true,.cells [nbuf 2 1 out.length],nob out,.cells [.buf 4 ch.length 1 (some ch.length)],.cells (ch.flatMap (one1 aa)),.cells [fromV c l lc],.cells [aa l.length]],[]⟩) (bg (n3 @fromV.eq_1 (da d5) (da d7))) ?_;refine aB.sk [4] (by rfl) rfl rfl (by rfl) rfl (xb @slS.eq_1) (hcp) (by simp only[cX,aN,slS,↓reduceIte,Nat.reduceEqDiff,Nat.reduceAdd,Nat.reduceSub,Nat.reduceMul,Nat.reduceLeDiff,Nat.reduceLT,hrc0,hbc0,bQ,↓kill_nob,↓hkl7,hn7,fromV,hkc,List.length_nil,List.flatMap_nil];first | done | rfl) rfl (by decide) (by simp only[hosL,cX,aN,slS,hrc0,hbc0,bQ,↓kill_nob,↓hkl7,hn7,fromV,hkc,List.length_nil,List.flatMap_nil]<;>(repeat' apply And.intro)<;>first | trivial | rfl | (intro hh;cases hh)) (by simp only[qx,cX,aN,slS,Nat.reduceAdd,Nat.reduceLT,decide_true,hrc0,hbc0,bQ,↓kill_nob,↓hkl7,hn7,fromV,hkc,List.length_nil,List.flatMap_nil];first | done | rfl) (by simp only[qx,cX,aN,slS,Nat.reduceAdd,Nat.reduceLT,decide_true,hrc0,hbc0,bQ,↓kill_nob,↓hkl7,hn7,fromV,hkc,List.length_nil,List.flatMap_nil];first | done | rfl) (by simp only[cX,aN,slS,↓reduceIte,Nat.reduceEqDiff,Nat.reduceAdd,Nat.reduceSub,Nat.reduceMul,Nat.reduceLeDiff,Nat.reduceLT,hrc0,hbc0,bQ,↓kill_nob,↓hkl7,hn7,fromV,hkc,List.length_nil,List.flatMap_nil];first | done | rfl) (by simp only[cX,aN,slS,↓reduceIte,Nat.reduceEqDiff,Nat.reduceAdd,Nat.reduceSub,Nat.reduceMul,Nat.reduceLeDiff,Nat.reduceLT,hrc0,hbc0,bQ,↓kill_nob,↓hkl7,hn7,fromV,hkc,List.length_nil,List.flatMap_nil,cm,bZ,killO,aH,bf];first | done | rfl) (by simp only[cX,aN,slS,↓reduceIte,Nat.reduceEqDiff,Nat.reduceAdd,Nat.reduceSub,Nat.reduceMul,Nat.reduceLeDiff,Nat.reduceLT,hrc0,hbc0,bQ,↓kill_nob,↓hkl7,hn7,fromV,hkc,List.length_nil,List.flatMap_nil,cm,bZ,killO,aH,bf];first | done | rfl) ?_;refine .nil ?_;refine Fg.trans (Fg.freeze (f':=(38,slS 1 ch (one1 aa))::(30,vo L 0 (.ag [slS 3 c encKind]))::(31,vo L 1 (slS 2 l encRep))::(32,vo L 2 (.buf 4 ch.length 1 (some ch.length)))::(33,vo L 3 (ao true))::(34,vo L 4 (ao (!true)))::(35,ao false)::(36,vo L 6 (.a (.fn (.yield lc.id) [] [])))::(37,(.buf 4 ch.length 1 (some ch.length)))::c6 c l lc) 7 rfl (λh=>by cases h) ⟨.inr (by rw[je 1 ch (one1 aa)];exact .buf rfl (by rw[hal];exact aM.refl (ar (λ_=>rfl) ch)) (by rw[hcl];exact Nat.le_refl _)),.inl rfl,.inl rfl,.inl rfl,.inl rfl,.inl rfl,.inl rfl,.inl rfl,.inl rfl,.inl rfl,.inl rfl,.inl rfl,.inl rfl,.inl rfl,.inl rfl,.inl rfl,.inl rfl,.inl rfl,.inl rfl,.inl rfl,.inl rfl,trivial⟩) (bg (n4 @fromV.eq_1 @aL (da d5) (da d7)))
   ·change aB _ _ _ _ _ _;refine aB.fg (st':=⟨(35,ao false)::(36,.a (.fn (.yield lc.id) [] []))::(38,slS 1 ch (one1 aa))::v6,60,[loopA lc most true,.cells [nbuf 2 1 out.length],nob out,.cells [.buf 4 ch.length 1 (some ch.length)],.cells (ch.flatMap (one1 aa)),.cells [fromV c l lc],.cells [aa l.length]],[]⟩) (bg (n4 @fromV.eq_1 (hv9 5 (by decide)) (hv9 6 (by decide)) (hv9 8 (by decide)))) ?_;refine aB.y (vs:=[slS 1 ch (one1 aa)]) (oo:=0) (by rfl) rfl rfl (by rfl) rfl rfl rfl (by rfl) rfl (by rw[hlp];rfl) (by rw[hln];rfl) (by rw[hln];decide) (by rw[hlp,hln];rfl) λro'=>?_;have hcd2:=hcd;unfold AllCode at hcd2;rw[Tryz.func18] at hcd2;have hcd3:=Option.some.inj (hcd2.symm.trans (by rfl));obtain⟨ha,hbb⟩:=Prod.mk.inj hcd3;rw[ha,hlp,hln];change ak _ _ _ ⟨[(26,slS 1 ch (one1 aa)),(5,.ip [aa most]),(9,.ptr 1 0),(20000035,ao false),(20000036,.a (.fn (.yield lc.id) [] [])),(20000038,slS 1 ch (one1 aa)),(21000000,.ptr 0 0),(21000001,.ptr 1 0),(21000002,.ptr 2 0),(21000003,.ptr 3 0),(21000004,.ptr 4 0),(21000005,.ptr 5 0)],39,[loopA lc most true,.cells [nbuf 2 1 out.length],nob out,.cells [.buf 4 ch.length 1 (some ch.length)],.cells (ch.flatMap (one1 aa)),.cells [fromV c l lc],.cells [aa l.length]],[]⟩ _;refine(zV) ?_;refine⟨rfl,0,none,[(5,.ip [aa most]),(9,.ptr 1 0)],rfl,?_⟩;rw[hbb];refine(zB) ?_;change ak _ _ _ ⟨_,39,[.loop lc .busy none [(5,.ip [aa most]),(9,.ptr 1 0)],.cells [nbuf 2 1 out.length],nob out,.cells [.buf 4 ch.length 1 (some ch.length)],.cells (ch.flatMap (one1 aa)),.cells [fromV c l lc],.cells [aa l.length]],[]⟩ _;have hrc0:∀r:Nat->Nat,fV r (ch.flatMap (one1 aa))=ch.flatMap (one1 aa):=λr=>aK (ar (λ_=>rfl) _);by_cases ho:out=[]
    ·subst ho;have e1:nbuf 2 1 [ch].length=.buf 2 1 1 none:=rfl;have e2:nob [ch]=.cells (encCh ch):=rfl;rw[nob_nil,show nbuf 2 1 ([]:List (List Int)).length=nilS from rfl];refine(aq (n2 hkc @fromV.eq_1)) ?_;cases hmo:decide ((1:Int)=most)
     ·have hN:fromN c l most (F+1) i ch []=(true,[]++[ch]):=by rw[hN];show(!(decide ((0:Int)+1=most)),_)=_;rw[show((0:Int)+1)=1 from rfl,hmo];rfl
      refine(aq (show decide (((1:Nat):Int)=most)=false from hmo))<|(zN) ?_;refine⟨rfl,0,.busy,none,[(5,.ip [aa most]),(9,.ptr 1 0)],rfl,?_⟩
      simp only[dnF,laid,Nat.reduceLeDiff,Nat.reduceSub,↓reduceIte];refine aB.fg (st':=⟨(39,ao true)::(35,ao false)::v5,60,[loopA lc most true,.cells [.buf 2 1 1 none],.cells (encCh ch),.cells [.buf 4 ch.length 1 (some ch.length)],.cells (ch.flatMap (one1 aa)),.cells [fromV c l lc],.cells [aa l.length]],[]⟩) (Fg.rn (f':=(39,ao true)::(35,ao false)::v5) (n:=60) (S':=[loopA lc most true,.cells [.buf 2 1 1 none],.cells (encCh ch),.cells [.buf 4 ch.length 1 (some ch.length)],.cells (ch.flatMap (one1 aa)),.cells [fromV c l lc],.cells [aa l.length]]) [0,1,8,3,4,5,6] (by decide) rfl (yU (n8 @loopA.eq_1 @fromV.eq_1 hrc0 @encCh.eq_1 @endS.eq_1 @endC.eq_1 @endN.eq_1 @dnF.eq_1)) (yV (n8 @loopA.eq_1 @fromV.eq_1 hrc0 @encCh.eq_1 @endS.eq_1 @endC.eq_1 @endN.eq_1 @dnF.eq_1))) ?_;refine .nil ?_;change aB _ _ _ _ _ _;refine(zR) ?_;change aB _ _ _ _ _ _;refine(zR) ?_;rw[hN];simp only[List.nil_append,e1,e2];refine ak.fg (st':=⟨(7,ao true)::v5,60,[loopA lc most true,.cells [.buf 2 1 1 none],.cells (encCh ch),.cells [.buf 4 ch.length 1 (some ch.length)],.cells (ch.flatMap (one1 aa)),.cells [fromV c l lc]],[]⟩) (bg @fromV.eq_1) ?_;refine ak.ret ?_
      (try simp only[dY,SThen,SRound,SNoGoto])
      exact⟨rfl,⟨[ao true],by rfl,rfl,rfl⟩,Nat.le_refl _,(by rintro(_ | _ | _ | _ | _ | _ | i) hi2 hm2<;>first | rfl | (exfalso;omega) | (exfalso;simp only[List.length_cons,List.length_nil] at hi2;omega) | exact t7 (by simp) hm2)⟩
     ·have hN:fromN c l most (F+1) i ch []=(false,[]++[ch]):=by rw[hN];show(!(decide ((0:Int)+1=most)),_)=_;rw[show((0:Int)+1)=1 from rfl,hmo];rfl
      refine(aq (show decide (((1:Nat):Int)=most)=true from hmo)) ?_
      (repeat refine ak.seq ?_)
      refine ak.yes rfl ?_;refine ak.exit ?_;refine⟨rfl,0,.busy,none,[(5,.ip [aa most]),(9,.ptr 1 0)],rfl,?_⟩;simp only[dnF,laid,Nat.reduceLeDiff,Nat.reduceSub,↓reduceIte];refine aB.fg (st':=⟨(39,ao false)::(35,ao false)::v5,60,[loopA lc most false,.cells [.buf 2 1 1 none],.cells (encCh ch),.cells [.buf 4 ch.length 1 (some ch.length)],.cells (ch.flatMap (one1 aa)),.cells [fromV c l lc],.cells [aa l.length]],[]⟩) (Fg.rn (f':=(39,ao false)::(35,ao false)::v5) (n:=60) (S':=[loopA lc most false,.cells [.buf 2 1 1 none],.cells (encCh ch),.cells [.buf 4 ch.length 1 (some ch.length)],.cells (ch.flatMap (one1 aa)),.cells [fromV c l lc],.cells [aa l.length]]) [0,1,8,3,4,5,6] (by decide) rfl (yU (n8 @loopA.eq_1 @fromV.eq_1 hrc0 @encCh.eq_1 @endS.eq_1 @endC.eq_1 @endN.eq_1 @dnF.eq_1)) (yV (n8 @loopA.eq_1 @fromV.eq_1 hrc0 @encCh.eq_1 @endS.eq_1 @endC.eq_1 @endN.eq_1 @dnF.eq_1))) ?_;refine .nil ?_;change aB _ _ _ _ _ _;refine(zR) ?_;change aB _ _ _ _ _ _;refine(zR) ?_;rw[hN];simp only[List.nil_append,e1,e2];refine ak.fg (st':=⟨(7,ao false)::v5,60,[loopA lc most false,.cells [.buf 2 1 1 none],.cells (encCh ch),.cells [.buf 4 ch.length 1 (some ch.length)],.cells (ch.flatMap (one1 aa)),.cells [fromV c l lc]],[]⟩) (bg @fromV.eq_1) ?_;refine ak.ret ?_
      (try simp only[dY,SThen,SRound,SNoGoto])
      exact⟨rfl,⟨[ao false],by rfl,rfl,rfl⟩,Nat.le_refl _,(by rintro(_ | _ | _ | _ | _ | _ | i) hi2 hm2<;>first | rfl | (exfalso;omega) | (exfalso;simp only[List.length_cons,List.length_nil] at hi2;omega) | exact t7 (by simp) hm2)⟩
    ·have hk1:¬out.length=0:=λh=>ho (List.length_eq_zero_iff.1 h)
     have e1:nbuf 2 1 (out++[ch]).length=.buf 2 (out.length+1) 1 none:=by rw[List.length_append];exact nbuf_p (by simp)
     have e2:nob (out++[ch])=.cells ((out++[ch]).flatMap encCh):=nob_p (by simp);have hcl3:=flat_len' encCh_len out;have hkc3:=λo=>kill_cells encCh_gnd o out;have happ:=app_cells encCh_len encCh_gnd 2 out ch;rw[show encCh ch=[slS 1 ch (one1 aa)] from rfl,Nat.mul_one] at happ;simp only[slS] at happ;rw[nob_p ho,nbuf_p hk1];rw[Nat.mul_one] at hcl3;refine(aq (n8 hkc hkc3 @fromV.eq_1 hcl3 @Nat.mul_one (show out.length<=1000000 by omega) @Nat.le_refl happ)) ?_;cases hmo:decide ((out.length:Int)+1=most)
     ·have hN:fromN c l most (F+1) i ch out=(true,out++[ch]):=by rw[hN,hmo];rfl
      refine(aq (n2 hmo @cA))<|(zN) ?_;refine⟨rfl,0,.busy,none,[(5,.ip [aa most]),(9,.ptr 1 0)],rfl,?_⟩
      simp only[dnF,laid,Nat.reduceLeDiff,Nat.reduceSub,↓reduceIte];refine aB.fg (st':=⟨(39,ao true)::(35,ao false)::v5,60,[loopA lc most true,.cells [.buf 2 (out.length+1) 1 none],.cells ((out++[ch]).flatMap encCh),.cells [.buf 4 ch.length 1 (some ch.length)],.cells (ch.flatMap (one1 aa)),.cells [fromV c l lc],.cells [aa l.length]],[]⟩) (bg (n6 @fromV.eq_1 @loopA.eq_1 @dnF.eq_1 @endS.eq_1 @endC.eq_1 @endN.eq_1)) ?_;refine .nil ?_;change aB _ _ _ _ _ _;refine(zR) ?_;change aB _ _ _ _ _ _;refine(zR) ?_;rw[hN];simp only[e1,e2];refine ak.fg (st':=⟨(7,ao true)::v5,60,[loopA lc most true,.cells [.buf 2 (out.length+1) 1 none],.cells ((out++[ch]).flatMap encCh),.cells [.buf 4 ch.length 1 (some ch.length)],.cells (ch.flatMap (one1 aa)),.cells [fromV c l lc]],[]⟩) (bg @fromV.eq_1) ?_;refine ak.ret ?_
      (try simp only[dY,SThen,SRound,SNoGoto])
      exact⟨rfl,⟨[ao true],by rfl,rfl,rfl⟩,Nat.le_refl _,(by rintro(_ | _ | _ | _ | _ | _ | i) hi2 hm2<;>first | rfl | (exfalso;omega) | (exfalso;simp only[List.length_cons,List.length_nil] at hi2;omega) | exact t7 (by simp) hm2)⟩
     ·have hN:fromN c l most (F+1) i ch out=(false,out++[ch]):=by rw[hN,hmo];rfl
      refine(aq (n2 hmo @cA)) ?_
      (repeat refine ak.seq ?_)
      refine ak.yes rfl ?_;refine ak.exit ?_;refine⟨rfl,0,.busy,none,[(5,.ip [aa most]),(9,.ptr 1 0)],rfl,?_⟩;simp only[dnF,laid,Nat.reduceLeDiff,Nat.reduceSub,↓reduceIte];refine aB.fg (st':=⟨(39,ao false)::(35,ao false)::v5,60,[loopA lc most false,.cells [.buf 2 (out.length+1) 1 none],.cells ((out++[ch]).flatMap encCh),.cells [.buf 4 ch.length 1 (some ch.length)],.cells (ch.flatMap (one1 aa)),.cells [fromV c l lc],.cells [aa l.length]],[]⟩) (bg (n6 @fromV.eq_1 @loopA.eq_1 @dnF.eq_1 @endS.eq_1 @endC.eq_1 @endN.eq_1)) ?_;refine .nil ?_;change aB _ _ _ _ _ _;refine(zR) ?_;change aB _ _ _ _ _ _;refine(zR) ?_;rw[hN];simp only[e1,e2];refine ak.fg (st':=⟨(7,ao false)::v5,60,[loopA lc most false,.cells [.buf 2 (out.length+1) 1 none],.cells ((out++[ch]).flatMap encCh),.cells [.buf 4 ch.length 1 (some ch.length)],.cells (ch.flatMap (one1 aa)),.cells [fromV c l lc]],[]⟩) (bg @fromV.eq_1) ?_;refine ak.ret ?_
      (try simp only[dY,SThen,SRound,SNoGoto])
      exact⟨rfl,⟨[ao false],by rfl,rfl,rfl⟩,Nat.le_refl _,(by rintro(_ | _ | _ | _ | _ | _ | i) hi2 hm2<;>first | rfl | (exfalso;omega) | (exfalso;simp only[List.length_cons,List.length_nil] at hi2;omega) | exact t7 (by simp) hm2)⟩
def startN(l:List RepM):List Int:=l.map λr=>if 1<choicesN r then -1 else 0
def histN(c:List KKind)(l:List RepM)(most:Int):Bool×List (List Int):=fromN c l most (l.length+1) 0 (startN l) []
def start_open(l:List RepM):OpenOk (startN l):=by
 intro n hn h0;obtain⟨r,_,rfl⟩:=mem_map.1 hn;split
 ·rfl
 ·rename_i h;rw[ul h] at h0;omega
def pX(c:List KKind)(l:List RepM):PC prog 34 [.ag [slS 3 c encKind],slS 2 l encRep] (·=.fn 66 [] [.ip [slS 2 l encRep],.ip [slS 3 c encKind]]):=by
 refine pB 6 Tryz.func34 ?_;refine(zV) ?_;refine ak.fg (Fg.freeze (f':=[(2,.ip [slS 3 c encKind]),(3,.ptr 1 0)]) 0 rfl (λh=>by cases h) (jM @slS.eq_1)) ?_;refine ak.fg (Fg.freeze (f':=[(2,.ip [slS 3 c encKind]),(3,.ip [slS 2 l encRep])]) 1 rfl (λh=>by cases h) (jM @slS.eq_1)) ?_
 (try change ak _ _ _ _ _)
 exact(zV)<|zo [.tmp 4]
def yr(n:Nat)(h:n<=1000000):dO prog 39 (.int .i64 (n:Int)) (.int .i64 (n:Int))=some (n,1,n,rep [.int .i64 0] n):=by
 have q1:(prog.info? 3).map (λi=>(i.size,ble i.bytes 10000))=some (1,true):=by kernel_rfl
 obtain⟨i,hi,e⟩:=Option.map_eq_some_iff.1 q1;have e1:i.size=1:=congrArg Prod.fst e;have e2:ble i.bytes 10000=true:=congrArg Prod.snd e;unfold dO;rw[show prog.underlying 39=some (.slice 3) by kernel_rfl];simp only;rw[show bN (.int .i64 (n:Int))=some n from rfl,a4,a4,hi,a4,show bT prog 3=some (.int .i64 0) by simp only[an],a4,e1,e2,cP (ax n),cP h];rfl
def rep_zeroInt:∀n,(rep [AV.int .i64 0] n).map SV.a=(ba n (0:Int)).flatMap (one1 aa)
 | 0=>rfl
 | n+1=>by rw[rep,cb,rep_zeroInt n,ck,flatMap_cons];rfl
def curN(l:List RepM)(k:Nat):List Int:=(startN l).take k++ba (l.length-k) 0
def cur_len(l:List RepM)(k:Nat)(h:k<=l.length):(curN l k).length=l.length:=by
 unfold curN startN;rw[al,a5,aX,c0];omega
def cur_set{l:List RepM}{k:Nat}{v:Int}(h:(startN l)[k]?=some v):(curN l k).set k v=curN l (k+1):=by
 have hk:k<(startN l).length:=aE h;have hsl:(startN l).length=l.length:=aX _;unfold curN;rw[takeN_snoc h,c4 _ _ (by rw[a5];omega),a5,ca (by omega),ce,show l.length-k=(l.length-(k+1))+1 by omega,ck,cl,bh]
 try rfl
def cur_same{l:List RepM}{k:Nat}(h:(startN l)[k]?=some 0):curN l (k+1)=curN l k:=by
 have hk:k<(startN l).length:=aE h;have hsl:(startN l).length=l.length:=aX _;unfold curN;rw[takeN_snoc h,show l.length-k=(l.length-(k+1))+1 by omega,ck,bh]
 try rfl
def yh(c:List KKind)(l:List RepM)(lc:dw)(most:Int)(hcd:AllCode lc)(hln:lc.n=39)(hlp:lc.ps=#[26])(hc:CatOk c)(hl:∀r∈l,RepOk r)(hlen:l.length<20)(hl0:l≠[])(hm:most<=4096)(hm0:0<most):
 SC prog 66 [.a (.fn (.yield lc.id) [] []),.ip [slS 2 l encRep],.ip [slS 3 c encKind]] [loopA lc most true,.cells [nilS],.gone] [2] (λr S'=>r=.aO []/\S'=[loopA lc most (histN c l most).1,.cells [nbuf 2 1 (histN c l most).2.length],nob (histN c l most).2]):=by
 refine E2 28 func66 ?_;have hsl:(startN l).length=l.length:=aX _;have hfr:=pV c l lc most hcd hln hlp hc hl hlen hl0 hm (l.length+1) 0 (startN l) [] (bW _) (by omega) hsl (start_open l) hm0;unfold frO at hfr;rw[show fromN c l most (l.length+1) 0 (startN l) []=histN c l most from rfl,hsl,length_nil,nbuf_0,nob_nil,show((0:Nat):Int)=0 from rfl] at hfr;generalize histN c l most=q at hfr ⊢;have hk3:=λok=>kill_loopA 3 lc most ok (by decide);have hk4:=λok=>kill_loopA 4 lc most ok (by decide);have hk5:=λok=>kill_loopA 5 lc most ok (by decide);have hkc:=λ(o:Nat) (q:List Int)=>kill_cells (enc:=one1 aa) (λ_=>rfl) o q;have hrc:∀(r:Nat->Nat) (x:List Int),fV r (x.flatMap (one1 aa))=x.flatMap (one1 aa):=λr x=>aK (ar (λ_=>rfl) _);have hbc:∀(B:Nat) (x:List Int),dA B (x.flatMap (one1 aa))=true:=λB x=>aP (ar (λ_=>rfl) _);have hrl:∀(B:Nat) (ok:Bool),iK (eM [0,1,2,5,4] B) (loopA lc most ok)=loopA lc most ok:=λB ok=>rn_loopA _ lc most ok rfl;refine(zs) ?_;refine ak.r0 (by rfl) (by simp only[bf,aN,slS,an,a4,a8,↓reduceIte,ac,af,ap,ad,aj,ab,ah,isSub,↓hk3];first | done | rfl) ?_;refine ak.fg (Fg.freeze (f':=[(0,.a (.fn (.yield lc.id) [] [])),(1,.ip [slS 2 l encRep]),(2,.ip [slS 3 c encKind]),(3,.ip [.a (.fn (.yield lc.id) [] [])]),(1000000,.ptr 0 0),(1000001,.ptr 1 0),(1000002,.ptr 2 0)]) 3 rfl (λh=>by cases h) (jM @slS.eq_1)) ?_
 (try change ak _ _ _ _ _)
 refine(zs) ?_;refine ak.r0 (by rfl) (by simp only[bf,aN,slS,an,a4,a8,↓reduceIte,ac,af,ap,ad,aj,ab,ah,isSub,↓hk4,↓hk5,yr l.length (by omega),rep_zeroInt,hkc];first | done | rfl) ?_;refine ak.fg (st':=⟨[(0,.a (.fn (.yield lc.id) [] [])),(1,.ip [slS 2 l encRep]),(2,.ip [slS 3 c encKind]),(3,.ip [.a (.fn (.yield lc.id) [] [])]),(4,.ptr 3 0),(1000000,.ptr 0 0),(1000001,.ptr 1 0),(1000002,.ptr 2 0)],28,[loopA lc most true,.cells [nilS],.gone,.cells [.buf 4 l.length 1 (some l.length)],.cells ((ba l.length (0:Int)).flatMap (one1 aa))],[]⟩) (Fg.rn [0,1,2,5,4] (by decide) rfl (by (simp only[hosG,cX,aN,slS,↓hrl,hrc])<;>(repeat' apply a0)<;>first | trivial | exact .inl rfl | exact .inr rfl | exact .inr trivial | exact .inl trivial) (by (simp only[bf,cX,aN,slS,↓hrl,hrc])<;>(repeat' apply a0)<;>first | rfl | trivial)) ?_;rw[show ba l.length (0:Int)=curN l 0 by unfold curN;rw[take_zero,nil_append,Nat.sub_zero]];refine(zV) ?_
 have hlen6:l.length<=1000000:=by omega
 refine(zs) ?_;refine zL l (λk=>True) (λk=>[(0,.a (.fn (.yield lc.id) [] [])),(1,.ip [slS 2 l encRep]),(2,.ip [slS 3 c encKind]),(3,.ip [.a (.fn (.yield lc.id) [] [])]),(4,.ptr 3 0),(11,slS 2 l encRep),(12,aa l.length),(13,aa k),(1000000,.ptr 0 0),(1000001,.ptr 1 0),(1000002,.ptr 2 0)]) (λk=>[loopA lc most true,.cells [nilS],.gone,.cells [.buf 4 l.length 1 (some l.length)],.cells ((curN l k).flatMap (one1 aa))]) zH zp ?_;intro k hk hall;refine zT l k ?_ ?_;rintro rfl;rotate_left;intro r hx hlt;rotate_left
 ·refine(cV) ?_
  (try change ak _ _ _ _ _)
  rw[show curN l l.length=startN l by unfold curN;rw[<-hsl,bc,hsl,ce];simp];refine(zs) ?_;refine ak.r0 (by rfl) (by simp only[bf,aN,slS,an,a4,a8,↓reduceIte,ac,af,ap,ad,aj,ab,ah,isSub,↓hk5,hkc];first | done | rfl) ?_;refine(zV) ?_;have hrl6:∀(B:Nat) (ok:Bool),iK (eM [0,1,2,3,4,5] B) (loopA lc most ok)=loopA lc most ok:=λB ok=>rn_loopA _ lc most ok rfl;have hbl:∀ok:Bool,fK 6 (loopA lc most ok)=true:=λok=>bnd_loopA 6 lc most ok (by decide);have hrn:∀(B n:Nat),de (eM [0,1,2,3,4,5] B) (nbuf 2 1 n)=nbuf 2 1 n:=λB n=>rn_nbuf _ 2 1 n
  have hbn:∀n:Nat,bV 6 (nbuf 2 1 n)=true:=λn=>by
   unfold nbuf;split
   ·exact c8 rfl
   ·rfl
  refine ak.post ?_;refine(zC) ?_;refine aB.sk [0,1,2,3,4,5] (by rfl) rfl rfl (by rfl) rfl (xb @fromV.eq_1) (hfr) (by simp only[cX,aN,slS,↓reduceIte,ac,af,aD,ap,ad,aj,hrc,hbc,↓rn_nob,↓bnd_nob,fromV,↓hrl6,↓hbl,↓hrn,↓hbn];first | done | rfl) rfl (by decide) (by simp only[hosL,cX,aN,slS,hrc,hbc,↓rn_nob,↓bnd_nob,fromV,↓hrl6,↓hbl,↓hrn,↓hbn]<;>(repeat' apply a0)<;>first | trivial | rfl | (intro hh;cases hh)) (by simp only[qx,cX,aN,slS,af,aj,decide_true,hrc,hbc,↓rn_nob,↓bnd_nob,fromV,↓hrl6,↓hbl,↓hrn,↓hbn];first | done | rfl) (by simp only[qx,cX,aN,slS,af,aj,decide_true,hrc,hbc,↓rn_nob,↓bnd_nob,fromV,↓hrl6,↓hbl,↓hrn,↓hbn];first | done | rfl) (by simp only[cX,aN,slS,↓reduceIte,ac,af,aD,ap,ad,aj,hrc,hbc,↓rn_nob,↓bnd_nob,fromV,↓hrl6,↓hbl,↓hrn,↓hbn];first | done | rfl) (by simp only[cX,aN,slS,↓reduceIte,ac,af,aD,ap,ad,aj,hrc,hbc,↓rn_nob,↓bnd_nob,fromV,↓hrl6,↓hbl,↓hrn,↓hbn,cm,bZ,killO,aH,bf];first | done | rfl) (by simp only[cX,aN,slS,↓reduceIte,ac,af,aD,ap,ad,aj,hrc,hbc,↓rn_nob,↓bnd_nob,fromV,↓hrl6,↓hbl,↓hrn,↓hbn,cm,bZ,killO,aH,bf];first | done | rfl) ?_;refine(zR) ?_;refine⟨⟨[(1000000,.ptr 0 0),(1000001,.ptr 1 0)],28,[loopA lc most q.1,.cells [nbuf 2 1 q.2.length],nob q.2],[]⟩,zH,?_⟩;exact zP []
 have hrk:RepOk r:=hl r (aS hx);have hr1:=hrk.len
 have hv:(startN l)[k]?=some (if 1<choicesN r then -1 else 0):=by unfold startN;rw[a7,hx];rfl
 have hcl:((curN l k).flatMap (one1 aa)).length=l.length:=by rw[flat_len' (enc:=one1 aa) (e:=1) (λ_=>rfl),cur_len l k hk,a2]
 refine(dI)<|(zs) ?_;refine ak.r0 (by rfl) (by simp only[bf,aN,slS,an,a4,a8,↓reduceIte,ac,af,ap,ad,aj,ab,ah,isSub,hlt,au (e:=2) (enc:=encRep) (λ_=>rfl) hx,encRep,↓hk5,hkc];first | done | rfl) ?_;refine(zC)<|(zK (dW r hrk)) ?_
 cases g:decide (1<choicesN r)
 ·rw[ul (wt g)] at hv
  refine(bE g)<|(zN)<|(aq (zi hlt hlen6)) ?_;refine zX hlt (bg (cur_same hv)) trivial
 ·rw[t8 (ww g)] at hv;have hset:=flat_sets (enc:=one1 aa) (e:=1) (λ_=>rfl) (l:=curN l k) (i:=k) (-1:Int) (by rw[cur_len l k hk];exact hlt);rw[show one1 aa (-1)=[aa (-1)] from rfl,bt,nil_append,a2,cur_set hv] at hset
  refine(bE g)<|(zY)<|(aq (n5 hlt hcl @a2 (show k+1<=l.length by omega) hset))<|(aq (zi hlt hlen6)) ?_;refine zX hlt zH trivial
def SLvD.of0{P:Program}{fn:Func}{Q:SV->Prop}{e:Ex}{st:cM}(h:kr P fn Q e st):SLvD P fn Q e st:=by
 obtain⟨he,hd,h⟩:=h;refine⟨he,?_⟩;rw[hd];exact h
def allN(c:List KKind)(l:List RepM)(most:Int):List (List Int)×Int:=if most<1 then ([],1) else if 4096<most then ([],1) else if checkedN c l=0 then (if (histN c l most).2=[] then ([],21) else ((histN c l most).2,0)) else ([],checkedN c l)
def pP(c:List KKind)(l:List RepM)(most:Int)(hc:CatOk c)(hl:∀r∈l,RepOk r)(hlen:l.length<20)(hl0:l≠[]):PC prog 18 [.ag [slS 3 c encKind],slS 2 l encRep,aa most] (·=.aO [slS 1 (allN c l most).1 encCh,aa (allN c l most).2]):=by
 refine PC.kh (n:=39) cw e5 rfl rfl (by decide) ?_;refine(zV) ?_;refine ak.fg (Fg.freeze (f':=[(1,slS 2 l encRep),(3,.ip [slS 3 c encKind]),(5,.ptr 1 0),(6,nilS),(7,aa 0)]) 0 rfl (λh=>by cases h) (jM @slS.eq_1)) ?_;refine ak.fg (Fg.freeze (f':=[(1,slS 2 l encRep),(3,.ip [slS 3 c encKind]),(5,.ip [aa most])]) 1 rfl (λh=>by cases h) (jM @slS.eq_1)) ?_;refine ak.fg (st':=⟨[(1,slS 2 l encRep),(3,.ip [slS 3 c encKind]),(5,.ip [aa most])],39,[],[]⟩) zH ?_
 (try change ak _ _ _ _ _)
 cases h1:decide (most<1);rotate_left
 ·refine(aq h1)<|(bq) ?_;refine ak.ret ?_
  (try simp only[dY,SThen,SRound,SNoGoto])
  refine SLvD.of0 ?_;exact kr.of (rs:=[.tmp 6,.tmp 7]) (r:=.aO [.sl 0 1 [],aa 1]) rfl rfl zl zv (by (try simp only[bL,aF]);first | done | (rw[show allN c l most=([],1) by rw[allN,t8 (ww h1)]];rfl))
 cases h2:decide (4096<most);rotate_left
 ·refine(aq (n2 h1 h2))<|(bq) ?_;refine ak.ret ?_
  (try simp only[dY,SThen,SRound,SNoGoto])
  refine SLvD.of0 ?_;exact kr.of (rs:=[.tmp 6,.tmp 7]) (r:=.aO [.sl 0 1 [],aa 1]) rfl rfl zl zv (by (try simp only[bL,aF]);first | done | (rw[show allN c l most=([],1) by rw[allN,ul (wt h1),t8 (ww h2)]];rfl))
 refine(aq (n2 h1 h2))<|(zN) ?_
 have hN:=show allN c l most=if checkedN c l=0 then (if (histN c l most).2=[] then ([],21) else ((histN c l most).2,0)) else ([],checkedN c l) by rw[allN,ul (wt h1),ul (wt h2)]
 have h1':=wt h1;have h2':=wt h2
 refine(zC)<|(zK (qy c l hc hl (by omega)))<|(zR) ?_
 cases h3:decide (checkedN c l=0)
 ·refine(aq h3)<|(bq) ?_;refine ak.ret ?_
  (try simp only[dY,SThen,SRound,SNoGoto])
  refine SLvD.of0 ?_;exact kr.of (rs:=[.tmp 6,.tmp 7]) (r:=.aO [.sl 0 1 [],aa (checkedN c l)]) rfl rfl zl zv (by (try simp only[bL,aF]);first | done | (rw[hN,ul (wt h3)];rfl))
 refine(aq h3)<|(zN) ?_
 rw[t8 (ww h3)] at hN
 refine(fe)<|(zK (pX c l) (hfl:=.inr (aM.refl rfl)))<|(zR) ?_;refine ak.fg (st':=⟨[(5,.ip [aa most]),(9,.ptr 0 0),(25,.fn 66 [] [.ip [slS 2 l encRep],.ip [slS 3 c encKind]])],39,[.cells [nilS],.gone],[]⟩) zH ?_;refine(zB) ?_;refine ak.lM (f1:=[(5,.ip [aa most]),(9,.ptr 0 0)]) cw (by rfl) func66 (by rfl) Fj ?_
 rintro N lc hid hn hps ha hb
 have hcd:AllCode lc:=by
  unfold AllCode;rw[e5,ha,hb];rfl
 have hsc:=yh c l lc most hcd hn hps hc hl hlen hl0 (by omega) (by omega);generalize histN c l most=q at hN hsc;refine⟨[3,0,1],_,_,_,_,hsc,?_,rfl,by decide,?_,?_⟩
 ·simp only[cX,aN,bf,slS,cm,aH,↓reduceIte,ac,af,aD,hid,List.map,e6,bt,nil_append]
 ·rintro(_ | _ | _ | i) so h
  ·cases h;exact⟨3,rfl,by rfl⟩
  ·cases h;exact⟨0,rfl,by rfl⟩
  ·cases h;exact⟨1,rfl,by rfl⟩
  ·cases h
 rintro r S' ⟨rfl,rfl⟩
 have hbn:∀n:Nat,bV 3 (nbuf 2 1 n)=true:=λn=>by
  unfold nbuf;split
  ·exact c8 rfl
  ·rfl
 refine⟨by simp only[qx,cX,aN,slS,af,aj,decide_true,↓bnd_nob,↓hbn,↓bnd_loopA 3 lc most q.1 (by decide)];first | done | rfl,3,cond q.1 .ready .done,cond q.1 none (some (.exit 0)),[(5,.ip [aa most]),(9,.ptr 0 0)],by rfl,by cases q.1<;>decide,by rfl,?_⟩;have hrl3:∀(B:Nat) (ok:Bool),iK (eM [3,0,1] B) (loopA lc most ok)=.loop lc (cond ok .ready .done) (cond ok none (some (.exit 0))) [(5,.ip [aa most]),(9,.ptr 0 0)]:=λB ok=>rfl
 have hrn3:∀(B n:Nat),iK (eM [3,0,1] B) (.cells [nbuf 2 1 n])=.cells [nbuf 1 1 n]:=λB n=>by
  show SO.cells [de _ _]=_;rw[rn_nbuf];rfl
 have hS2:(afterS (dG (dG [SO.cells [nilS],SO.gone] (SO.ik N)) (SO.loop lc .ready none [(5,.ip [aa most]),(9,.ptr 0 0)])) [3,0,1] [2] [loopA lc most q.1,.cells [nbuf 2 1 q.2.length],nob q.2]).set 3 .gone=[.cells [nbuf 1 1 q.2.length],nob q.2,.ik N,.gone]:=by
  simp only[afterS,dG,bZ,forgot,eC,eI,ay,length_nil,List.map,aX,al,↓hrl3,↓hrn3,↓rn_nob];rfl
 rw[hS2];cases hq1:q.1
 all_goals
  (first | refine ak.exit ?_ | skip)
  change ak _ _ _ ⟨[(5,.ip [aa most]),(9,.ptr 0 0)],39,[.cells [nbuf 1 1 q.2.length],nob q.2,.ik N,.gone],[{ fn:=none,tT:=N,args:=[],cap:=[] }]⟩ _;by_cases ho:q.2=[]
  ·rw[t8 ho] at hN;rw[ho,nob_nil,show nbuf 1 1 ([]:List (List Int)).length=nilS from rfl]
   refine(oD)<|(zV) ?_;refine ak.ret ?_
   (try simp only[dY,SThen,SRound,SNoGoto])
   exact⟨rfl,[(6,nilS),(7,aa 21)],⟨rfl,rfl,trivial⟩,rfl,.inl ⟨rfl,2,rfl,[nilS,aa 21],.aO [.sl 0 1 [],aa 21],by rfl,.aO (.cons (.nil _) (.cons (.a _) .nil)),by rw[hN];rfl⟩⟩
  ·rw[ul ho] at hN;have hk1:¬q.2.length=0:=λh=>ho (length_eq_zero_iff.1 h);rw[nob_p ho,nbuf_p hk1]
   refine(aq (show decide ((q.2.length:Int)=0)=false by simp only[wd];omega))<|(ee) ?_;refine ak.ret ?_
   (try simp only[dY,SThen,SRound,SNoGoto])
   exact⟨rfl,[(6,.buf 1 q.2.length 1 none),(7,aa 0)],⟨rfl,rfl,trivial⟩,rfl,.inl ⟨rfl,2,rfl,[.buf 1 q.2.length 1 none,aa 0],.aO [slS 1 q.2 encCh,aa 0],by rfl,.aO (.cons (.buf rfl (by rw[flat_all encCh_len];exact aM.refl (ar encCh_gnd _)) (by rw[flat_len' encCh_len];exact ax _)) (.cons (.a _) .nil)),by rw[hN]⟩⟩
open Go.Proofs.Tryz renaming func50 -> vaa in
open Go.Ev renaming vn -> vab in
open Go.Proofs renaming encRep -> vac in
def wc{l:List (RepM)}(p:RepM->Bool){fid:FuncId}{first cap:List SV}(hlen:l.length<=1000000)(hp:∀x∈l,PC prog fid ((first++[.ag (encRep x)])++cap) (·=ao (p x)))(hg:bm first=true/\bm cap=true):PC prog 50 [slS 2 l encRep,.fn fid first cap] (·=aa (eK p l)):=by
 have vad:=@encRep.eq_1;exact rh
def vO{l:List (RepM)}(p:RepM->Bool){fid:FuncId}{first cap:List SV}(hlen:l.length<=1000000)(hp:∀x∈l,PC prog fid ((first++[.ag (encRep x)])++cap) (·=ao (p x)))(hg:bm first=true/\bm cap=true):PC prog 21 [slS 2 l encRep,.fn fid first cap] (·=ao (l.any p)):=by
 refine pB 9 Tryz.func21 ?_;exact(fe)<|(zK (wc p hlen hp hg) (hwk:=.cons (Wk.sl _ _ _) (.cons (.fn (aM.refl hg.1) (aM.refl hg.2)) .nil)))<|(zR)<|zo [.tmp 4] (hq:=by rw[idx_any])
def yK(r:RepM)(hr:RepOk r):PC prog 22 [.ag (encRep r)] (·=ao (!(Proofs.validR r))):=by
 refine pB 6 Tryz.func22 ?_;exact(aq @encRep.eq_1)<|(zC)<|(zK (jK r hr))<|(zR)<|zo [.tmp 2]
def firstN(c:List KKind)(l:List RepM):List Int×Int:=if (allN c l 1).2=0 then ((allN c l 1).1.headD [],0) else ([],(allN c l 1).2)
def all_ok{c:List KKind}{l:List RepM}{most:Int}(h:(allN c l most).2=0):(allN c l most).1≠[]:=by
 unfold allN at h ⊢;split at h
 ·cases h
 split at h
 ·cases h
 rename_i h1 h2;rw[ul h1,ul h2];split at h
 ·rename_i h3;rw[t8 h3];split at h
  ·cases h
  ·rename_i h4;rw[ul h4];exact h4
 ·rename_i h3;exact t7 h h3
end Go.Proofs
