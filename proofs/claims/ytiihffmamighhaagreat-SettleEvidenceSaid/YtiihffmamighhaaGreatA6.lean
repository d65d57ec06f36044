/- Lemmas of this claim, each with its conditions. -/
import Derived.Test.YtiihffmamighhaaGreatA5
import Derived.Test.YtiihffmamighhaaGreatA4
set_option linter.all false
set_option maxHeartbeats 8000000
open Go.Proofs.Tryz (prog func210 func211)
open List (nil_append mem_filter any_eq_true take_zero mem_map contains_iff_mem Perm all_eq_true drop_zero flatMap_cons map_nil mem_append filterMap_nil set_cons_zero foldl_nil any_eq_false flatMap_nil map_map)
open Prod (ext)
open Bool renaming and_eq_true -> ac, not_eq_true' -> bh, false_ne_true -> bw, false_eq_true -> cv, eq_iff_iff -> d6, not_eq_true -> f4, or_eq_true -> f8, and_assoc -> go, not_false -> gv, and_comm -> g8, and_true -> hu, true_and -> hD
open List renaming filter_cons -> ad, mem_cons_self -> aj, mem_cons_of_mem -> ap, length_map -> ay, mem_of_getElem? -> aS, mem_map_of_mem -> a0, map_cons -> be, length_filter_le -> bi, length_take -> bk, take_of_length_le -> bo, take_length -> bt, getElem?_map -> bv, drop_of_length_le -> bx, append_nil -> b0, find?_cons -> b4, filter_filter -> b7, append_assoc -> b8, filter_congr -> b9, take_append_of_le_length -> ca, cons_append -> cb, pairwise_cons -> cc, getElem?_append_right -> cf, replicate -> ci, getElem?_zip_eq_some -> cj, length_filterMap_le -> ck, filterMap_cons -> cl, drop_append -> cp, getElem?_cons_succ -> ct, foldl_cons -> c0, map_append -> c4, set_append_right -> dk, flatMap_append -> dv, map_congr_left -> dN, all_append -> d7, mem_or_eq_of_mem_set -> d8, mem_singleton -> ei, foldl_append -> ej, getElem?_cons_zero -> el, nodup_nil -> em, takeWhile -> en, drop_length -> ex, filterMap_append -> ey, getElem?_eq_none -> eB, filter_nil -> eF, length_zip -> e4, mem_of_mem_drop -> e5, mem_of_mem_take -> e6, of_mem_zip -> fb, drop_succ_cons -> fd, takeWhile_cons -> fl, take_succ_cons -> fm, filter_append -> fo, getElem?_take -> fs, set_cons_succ -> fx, getElem?_inj -> fy, length_drop -> f6, countP_nil -> f9, filter_map -> ga, length_set -> gb, nodup_cons -> gd, filter -> g5, length -> g6
open Nat renaming reduceEqDiff -> af, reduceLeDiff -> ax, reduceAdd -> aV, reduceLT -> ba, le_refl -> bc, reduceMul -> bd, reduceSub -> bX, add_zero -> b5, le_trans -> cd, mul_one -> cn, pos_of_ne_zero -> co, zero_le -> dc, sub_self -> dl, min_eq_left -> dt, min_self -> f3, add_assoc -> g7, zero_add -> hJ
open And renaming intro -> bb
open Int renaming tmod_eq_emod_of_nonneg -> ds, toNat_natCast -> d9, le_trans -> hE
namespace Go.Proofs
open Go.Ev
set_option maxRecDepth 100000
variable{cap:List SV}
open Go.Proofs.Tryz renaming func131 -> vaa in
open Go.Ev renaming sE -> vab in
open Go.Proofs renaming ak -> vac in
def Hj{l:List (ai)}(p:ai->Bool){fid:FuncId}{first:List SV}(hlen:l.length<=1000000)(hp:∀x∈l,PC prog fid ((first++[.ag (ak x)])++cap) (·=au (p x)))(hg:cg first=true/\cg cap=true):PC prog 131 [an 14 l ak,.fn fid first cap] (·=aa (kg p l)):=by
 have vad:=@ak.eq_1;exact Br
def G4{l:List (ai)}(p:ai->Bool){fid:FuncId}{first:List SV}(hlen:l.length<=1000000)(hp:∀x∈l,PC prog fid ((first++[.ag (ak x)])++cap) (·=au (p x)))(hg:cg first=true/\cg cap=true):PC prog 85 [an 14 l ak,.fn fid first cap] (·=au (l.any p)):=by
 refine pB 9 Tryz.func85 ?_;exact(lJ)<|(zK (Hj p hlen hp hg) (hwk:=.cons (Wk.sl _ _ _) (.cons (.fn (cS.refl hg.1) (cS.refl hg.2)) .nil)))<|(zR)<|zo [.tmp 4] (hq:=by rw[AM])
def lM(r:List ai×Int):SV:=.bB [.ag [an 14 r.1 ak],aa r.2]
def dG(k:Int):PC prog 81 [aa k] (·=lM ([],k)):=by
 refine pB 6 Tryz.func81 ?_;exact(nP)<|ji [.cell 2 78,.tmp 3] (r:=.bB [.ag [.sl 0 14 []],aa k]) (hw:=zv)
def DF(p:ai):PC prog 80 [.ag (ak p)] (·=ab p.name):=by
 refine pB 5 Tryz.func80 ?_;exact(aA @ak.eq_1)<|(zV)<|zo [.tmp 2]
def DG(p:bN):PC prog 89 [.ag (aZ p)] (·=ab p.key):=by
 refine pB 5 Tryz.func89 ?_;exact(aA @aZ.eq_1)<|(zV)<|zo [.tmp 2]
def gI(ps:List ai)(hlen:ps.length<=100000)(ho:ec (ps.map ai.name)=true)(p:ai):PC prog 78 [.ag (ak p),.ip [an 14 ps ak]] (·=lM (Proofs.bY ps p,0)):=by
 refine pB 10 Tryz.func78 ?_;have hput:=Hw ps hlen p (g:=80) (cap:=[]) rfl DF ho;rw[eE] at hput ⊢
 exact(lJ)<|(zK hput (hfl:=.inr zr))<|(zR)<|ji [.cell 3 78,.tmp 4]
def J7(e:bj)(q:ai):PC prog 87 [.ag (ak q),.ip (aE e)] (·=au (decide (q.aO=e.aO)&&decide (q.slot=e.slot))):=by
 refine pB 16 Tryz.func87 ?_;refine(aA (br @ak.eq_1 @aE.eq_1)) ?_;cases h:decide (q.aO=e.aO)
 ·exact(aA h)<|zo [.tmp 3]
 ·exact(aA h)<|zo [.tmp 3]
def J9(p q:ai):PC prog 90 [.ag (ak q),.ip (ak p)] (·=au (decide (q.aO=p.name))):=by
 refine pB 9 Tryz.func90 ?_;exact(aA @ak.eq_1)<|(zV)<|zo [.tmp 3]
def wL(ps:List ai)(hlen:ps.length<=1000000)(d:ai->Bool){g:FuncId}(hcap:cg cap=true)(hp:∀q∈ps,PC prog g ([.ag (ak q)]++cap) (·=au (d q))):PC prog 84 [.fn g [] cap,.ip [an 14 ps ak]] (·=au (ps.any d)):=by
 refine pB 8 Tryz.func84 ?_;have h:=G4 (l:=ps) d (fid:=g) (first:=[]) (cap:=cap) hlen hp ⟨rfl,hcap⟩
 exact(lJ)<|(zK h (hwk:=cS.cons (Wk.sl _ _ _) (.cons (.fn .nil (cS.refl hcap)) .nil)))<|(zR)<|zo [.tmp 3]
def nw(e:bj):ai:=⟨e.part,e.kind,[],[],e.day,e.day,false,[],0,0,0,0,0,0⟩
def vN(c:List aF)(ps:List ai)(e:bj)(is:Bool):List ai×Int:=
 if is=true then ([],3) else if (fc c e.kind).isNone=true then ([],4) else if ((ps.length:Int)=20000) then ([],7) else (bY ps (nw e),0)
def xJ(p:ai)(e:bj):ai:={ p with aO:=e.aO,slot:=e.slot }
def Ao(p:ai):ai:={ p with aO:=[],slot:=[] }
def lQ(p:ai)(e:bj):ai:={ p with since:=dM p.since e.day,l1:=0,l2:=0,l3:=0,l4:=0,l5:=0,l6:=0 }
def qw(p:ai)(e:bj):ai:={ p with props:=iF p.props ⟨e.key,e.value⟩ }
def rS(p:ai):ai:={ p with bI:=true }
def gl(c:List aF)(ps:List ai)(e:bj)(p h:ai):List ai×Int:=
 let k:=(fc c p.kind).getD aF.zero
 if e.op=2 then (if (k.gY||!mW c h.kind e.slot p.kind)=true then ([],4) else if p.aO≠[] then ([],5) else
  if (ps.any λq=>decide (q.aO=e.aO)&&decide (q.slot=e.slot))=true then ([],6) else (bY ps (xJ p e),0))
 else if e.op=3 then (if p.aO=[] then ([],5) else (bY ps (Ao p),0))
 else if e.op=4 then (if k.gY=true then (bY ps p,0) else ([],4))
 else if e.op=5 then (bY ps (lQ p e),0)
 else if e.op=6 then (if 60<((Proofs.iF p.props ⟨e.key,e.value⟩).length:Int) then ([],7) else (bY ps (qw p e),0))
 else if e.op=7 then (if p.aO≠[] then ([],5) else if (ps.any λq=>decide (q.aO=p.name))=true then ([],5) else (bY ps (rS p),0))
 else (bY ps p,0)
def aK(c:List aF)(ps:List ai)(e:bj):List ai×Int:=
 if cM c ps=true then (if dD e=true then
  (if e.op=1 then vN c ps e (re ps (oH 0 [] ps) e.part).isSome else
   match re ps (oH 0 [] ps) e.part,(if e.op=2 then re ps (oH 0 [] ps) e.aO else re ps (oH 0 [] ps) e.part) with
   | some p,some h=>if (p.bI||h.bI)=true then ([],5) else gl c ps e p h
   | _,_=>([],2))
  else ([],1)) else ([],1)
def o6{c:List aF}{ps:List ai}{m:List (List Nat×Int)}:∀{taken:List (fP×Bool)} {l:List ai},du c ps m taken l=true->∀p∈l,dm c p=true
 | _,[],_,p,hp=>by simp at hp
 | taken,q::r,h,p,hp=>by
  rw[du,ac,ac] at h
  rcases rt hp with rfl | hp
  ·exact h.1
  ·cases hd:decide (q.aO=[]) with
   | true=>rw[hd,ah] at h;exact o6 h.2.2 p hp
   | false=>rw[hd,ar,ac] at h;exact o6 h.2.2.2 p hp
variable{c:List aF}{ps:List ai}
def M8(h:cM c ps=true){p:ai}(hp:p∈ps):p.props.length<=60/\ec (p.props.map bN.key)=true:=by
 unfold cM at h;simp only[ac] at h;have:=o6 h.2.2.2 p hp;unfold dm at this;simp only[ac,bh,wd] at this;refine⟨by have:=this.2.2.2.2.2.1;omega,this.2.2.2.2.2.2.2.1⟩
def CJ(c:List aF)(ps:List ai)(e:bj)(hc:kq c)(hlen:ps.length<=100000)(hps:∀p∈ps,iJ p)(he:rY e):PC prog 40 [.ag [an 3 c ao],.ag [an 14 ps ak],.ag (aE e)] (·=lM (aK c ps e)):=by
 have hlen1:ps.length<=1000000:=by omega
 have hct:∀k∈c,k.bZ.length<=1000000/\∀s∈k.bZ,s.kinds.length<=1000000:=λk hk=>⟨(hc.kind k hk).2,λs hs=>(hc.slot k hk s hs).2⟩;have hy:Xe ps (oH 0 [] ps):=KZ gt (OE ps);have hvE:=sQ e he;refine pB 235 Tryz.func40 ?_;rw[ew] at hvE ⊢
 refine(lJ)<|(zK (Kx c ps hc hlen1 hps)) ?_
 cases h1:Proofs.cM c ps
 ·exact(zR)<|(cN)<|ji [.cell 6 78,.tmp 7] (r:=.bB [.ag [.sl 0 14 []],aa 1]) (hw:=zv) (hq:=by rw[show aK c ps e=([],1) by simp[aK,h1]];rfl)
 refine(zQ)<|(zK hvE) ?_
 cases h2:dD e
 ·exact(zR)<|(cN)<|ji [.cell 6 78,.tmp 7] (r:=.bB [.ag [.sl 0 14 []],aa 1]) (hw:=zv) (hq:=by rw[show aK c ps e=([],1) by simp[aK,h1,h2]];rfl)
 refine(zR)<|(zN) ?_
 have ho:ec (ps.map ai.name)=true:=by
  unfold Proofs.cM at h1;simp only[ac] at h1;exact h1.2.2.1
 refine zA [(3,.ptr 0 0),(4,.ptr 1 0),(5,.ptr 2 0),(6,.ptr 3 0),(7,aa 0)] [.cells [an 3 c ao],.cells [an 14 ps ak],.cells [aa e.op,aa e.day,ab e.part,ab e.kind,ab e.aO,ab e.slot,ab e.key,ab e.value,aa e.u1,aa e.u2,aa e.u3,aa e.u4,aa e.u5,aa e.u6],.cells [.a (.slice none 0 0 (some 0))]] zH<|zZ [(3,.ip [an 3 c ao]),(4,.ptr 1 0),(5,.ptr 2 0),(6,.ptr 3 0),(7,aa 0)] 0 rfl (tK @an.eq_1)<|zZ [(3,.ip [an 3 c ao]),(4,.ip [an 14 ps ak]),(5,.ptr 2 0),(6,.ptr 3 0),(7,aa 0)] 1 rfl (tK @an.eq_1)<|zZ [(3,.ip [an 3 c ao]),(4,.ip [an 14 ps ak]),(5,.ip [aa e.op,aa e.day,ab e.part,ab e.kind,ab e.aO,ab e.slot,ab e.key,ab e.value,aa e.u1,aa e.u2,aa e.u3,aa e.u4,aa e.u5,aa e.u6]),(6,.ptr 3 0),(7,aa 0)] 2 rfl (tK @an.eq_1) ?_
 (try change aD _ _ _ _ _)
 refine(zC)<|(zK (yv ps hlen1) (hfl:=.inr zr)) ?_
 generalize hM:oH 0 [] ps=M at hy
 refine(cO (br @KK.eq_1 hM))<|(nP)<|(zC) ?_
 have hG:=rL ps M e.part hy
 cases hg:re ps M e.part with
 | none=>
  rw[hg] at hG
  refine(zK hG (hfl:=.inr zr))<|(cO (cA @qy.eq_1 @ak.eq_1 @ai.zero.eq_1)) ?_
  by_cases ho1:e.op=1
  ·refine(aA (ut ho1))<|(cN)<|(Vy) ?_
   have hF:=oB c e.kind hc.len
   cases hf:fc c e.kind with
   | none=>
    rw[hf] at hF
    exact(zK hF (hfl:=.inr zr))<|(cO (cA @qy.eq_1 @ao.eq_1 @aF.zero.eq_1))<|(Ab)<|(zC)<|(zK (dG _) (hfl:=.inr zr))<|(cO @an.eq_1)<|ji [.cell 6 78,.tmp 7] (hq:=by rw[show aK c ps e=([],4) by simp[aK,vN,h1,h2,hM,hg,ho1,hf]];rfl)
   | some k=>
    rw[hf] at hF
    refine(zK hF (hfl:=.inr zr))<|(cO (br @qy.eq_1 @ao.eq_1))<|(KS) ?_
    by_cases hl:(ps.length:Int)=20000
    ·exact(aA (ut hl))<|(zY)<|(zC)<|(zK (dG _) (hfl:=.inr zr))<|(cO @an.eq_1)<|ji [.cell 6 78,.tmp 7] (hq:=by rw[show aK c ps e=([],7) by simp[aK,vN,h1,h2,hM,hg,ho1,hf,hl]];rfl)
    ·refine(aA (un hl))<|(zN) ?_
     have hnext:=gI ps hlen ho (nw e);simp only[eE,nw] at hnext
     exact(zC)<|(zK hnext (hfl:=.inr zw))<|(cO (br @lM.eq_1 @an.eq_1))<|ji [.cell 6 78,.tmp 7] (hq:=by rw[show aK c ps e=(Proofs.bY ps (nw e),0) by simp[aK,vN,h1,h2,hM,hg,ho1,hf,hl]];rfl)
  by_cases ho2:e.op=2
  ·refine(aA (un ho1))<|(jG)<|(aA (ut ho2))<|(zY)<|(zC) ?_
   have hH:=rL ps M e.aO hy
   obtain⟨q,b,hq⟩:∃(q:ai) (b:Bool),qy ak ai.zero (re ps M e.aO)=.bB [.ag (ak q),au b]:=by
    cases re ps M e.aO with
    | none=>exact⟨ai.zero,false,rfl⟩
    | some q=>exact⟨q,true,rfl⟩
   rw[hq] at hH
   exact(zK hH (hfl:=.inr zr))<|(cO @ak.eq_1)<|(Ab)<|(zC)<|(zK (dG _) (hfl:=.inr zr))<|(cO @an.eq_1)<|ji [.cell 6 78,.tmp 7] (hq:=by rw[show aK c ps e=([],2) by simp[aK,h1,h2,hM,hg,ho1,ho2]];rfl)
  ·exact(aA (un ho1))<|(jG)<|(aA (un ho2))<|(jG)<|(zY)<|(zC)<|(zK (dG _) (hfl:=.inr zr))<|(cO @an.eq_1)<|ji [.cell 6 78,.tmp 7] (hq:=by rw[show aK c ps e=([],2) by simp[aK,h1,h2,hM,hg,ho1,ho2]];rfl)
 | some p=>
  rw[hg] at hG
  refine(zK hG (hfl:=.inr zr))<|(cO (br @qy.eq_1 @ak.eq_1)) ?_
  by_cases ho1:e.op=1
  ·exact(aA (ut ho1))<|(cN)<|(zY)<|(zC)<|(zK (dG _) (hfl:=.inr zr))<|(cO @an.eq_1)<|ji [.cell 6 78,.tmp 7] (hq:=by rw[show aK c ps e=([],3) by simp[aK,vN,h1,h2,hM,hg,ho1]];rfl)
  refine zA [(3,.ip [an 3 c ao]),(4,.ip [an 14 ps ak]),(5,.ip [aa e.op,aa e.day,ab e.part,ab e.kind,ab e.aO,ab e.slot,ab e.key,ab e.value,aa e.u1,aa e.u2,aa e.u3,aa e.u4,aa e.u5,aa e.u6]),(6,.ptr 3 0),(7,aa 0),(8,.ptr 4 0),(9,.fn 78 [] [.ip [an 14 ps ak]]),(10,.fn 81 [] []),(11,.ptr 5 0),(12,au true)] [.gone,.gone,.gone,.cells [.a (.slice none 0 0 (some 0))],.cells [an 14 ps ak,pD AV.str aa M],.cells [ab p.name,ab p.kind,ab p.aO,ab p.slot,aa p.made,aa p.since,au p.bI,an 2 p.props aZ,aa p.l1,aa p.l2,aa p.l3,aa p.l4,aa p.l5,aa p.l6]] zH<|(aA (un ho1))<|(jG) ?_
  by_cases ho2:e.op=2
  ·refine(aA (ut ho2))<|(zY)<|(zC) ?_
   have hH:=rL ps M e.aO hy
   cases hh:re ps M e.aO with
   | none=>
    rw[hh] at hH
    exact(zK hH (hfl:=.inr zr))<|(cO (cA @qy.eq_1 @ak.eq_1 @ai.zero.eq_1))<|(Ab)<|(zC)<|(zK (dG _) (hfl:=.inr zr))<|(cO @an.eq_1)<|ji [.cell 6 78,.tmp 7] (hq:=by rw[show aK c ps e=([],2) by simp[aK,h1,h2,hM,hg,ho1,ho2,hh]];rfl)
   | some h=>
    rw[hh] at hH
    refine(zK hH (hfl:=.inr zr))<|(cO (br @qy.eq_1 @ak.eq_1))<|(KS) ?_
    cases f1:p.bI;rotate_left
    ·exact(aA f1)<|(zY)<|(zC)<|(zK (dG _) (hfl:=.inr zr))<|(cO @an.eq_1)<|ji [.cell 6 78,.tmp 7] (hq:=by rw[show aK c ps e=([],5) by simp[aK,h1,h2,hM,hg,ho1,ho2,hh,f1]];rfl)
    cases f2:h.bI;rotate_left
    ·exact(aA (br f1 f2))<|(zY)<|(zC)<|(zK (dG _) (hfl:=.inr zr))<|(cO @an.eq_1)<|ji [.cell 6 78,.tmp 7] (hq:=by rw[show aK c ps e=([],5) by simp[aK,h1,h2,hM,hg,ho1,ho2,hh,f1,f2]];rfl)
    refine(aA (br f1 f2))<|(jG)<|(zC) ?_
    have hF:=oB c p.kind hc.len
    obtain⟨kd,b,hq,hkd⟩:∃(kd:aF) (b:Bool),qy ao aF.zero (fc c p.kind)=.bB [.ag (ao kd),au b]/\(fc c p.kind).getD aF.zero=kd:=by
     cases fc c p.kind with
     | none=>exact⟨aF.zero,false,rfl,rfl⟩
     | some q=>exact⟨q,true,rfl,rfl⟩
    rw[hq] at hF
    refine(zK hF (hfl:=.inr zr))<|(cO @ao.eq_1)<|(zV)<|zA [(3,.ip [an 3 c ao]),(4,.ip [an 14 ps ak]),(5,.ip [aa e.op,aa e.day,ab e.part,ab e.kind,ab e.aO,ab e.slot,ab e.key,ab e.value,aa e.u1,aa e.u2,aa e.u3,aa e.u4,aa e.u5,aa e.u6]),(6,.ptr 3 0),(7,aa 0),(9,.fn 78 [] [.ip [an 14 ps ak]]),(10,.fn 81 [] []),(11,.ptr 5 0),(15,.ptr 6 0),(17,.fn 84 [] [.ip [an 14 ps ak]]),(18,.ptr 7 0),(123,aa e.op)] [.gone,.gone,.gone,.cells [.a (.slice none 0 0 (some 0))],.gone,.cells [ab p.name,ab p.kind,ab p.aO,ab p.slot,aa p.made,aa p.since,au false,an 2 p.props aZ,aa p.l1,aa p.l2,aa p.l3,aa p.l4,aa p.l5,aa p.l6],.cells [ab h.name,ab h.kind,ab h.aO,ab h.slot,aa h.made,aa h.since,au false,an 2 h.props aZ,aa h.l1,aa h.l2,aa h.l3,aa h.l4,aa h.l5,aa h.l6],.cells [ab kd.name,au kd.gY,an 3 kd.bZ bQ]] (bK @ak.eq_1)<|(zB) ?_
    refine(aA (ut ho2))<|(gJ) ?_
    cases g1:kd.gY;rotate_left
    ·exact(aA g1)<|(zY)<|(zC)<|(zK (dG _) (hfl:=.inr zr))<|(cO @an.eq_1)<|ji [.cell 6 78,.tmp 7] (hq:=by rw[show aK c ps e=([],4) by simp[aK,h1,h2,hM,hg,ho1,ho2,hh,f1,f2,gl,hkd,g1]];rfl)
    refine(jH g1)<|(zK (z8 c h.kind e.slot p.kind hc.len hct)) ?_
    cases g2:Proofs.mW c h.kind e.slot p.kind
    ·exact(zR)<|(zY)<|(zC)<|(zK (dG _) (hfl:=.inr zr))<|(cO @an.eq_1)<|ji [.cell 6 78,.tmp 7] (hq:=by rw[show aK c ps e=([],4) by simp[aK,h1,h2,hM,hg,ho1,ho2,hh,f1,f2,gl,hkd,g1,g2]];rfl)
    refine(zR)<|(zN) ?_
    by_cases g3:p.aO=[];rotate_left
    ·exact(aA (un g3))<|(zY)<|(zC)<|(zK (dG _) (hfl:=.inr zr))<|(cO @an.eq_1)<|ji [.cell 6 78,.tmp 7] (hq:=by rw[show aK c ps e=([],5) by simp[aK,h1,h2,hM,hg,ho1,ho2,hh,f1,f2,gl,hkd,g1,g2,g3]];rfl)
    refine(aA (ut g3))<|(Vy) ?_
    have hho:=wL ps hlen1 (λq=>decide (q.aO=e.aO)&&decide (q.slot=e.slot)) (g:=87) (cap:=[.ip [aa e.op,aa e.day,ab e.part,ab e.kind,ab e.aO,ab e.slot,ab e.key,ab e.value,aa e.u1,aa e.u2,aa e.u3,aa e.u4,aa e.u5,aa e.u6]]) rfl (λq _=>by rw[<-ew];exact J7 e q);refine(zK hho) ?_;cases g4:ps.any λq=>decide (q.aO=e.aO)&&decide (q.slot=e.slot);rotate_left
    ·exact(zR)<|(zY)<|(zC)<|(zK (dG _) (hfl:=.inr zr))<|(cO @an.eq_1)<|ji [.cell 6 78,.tmp 7] (hq:=by rw[show aK c ps e=([],6) by simp[aK,h1,h2,hM,hg,ho1,ho2,hh,f1,f2,gl,hkd,g1,g2,g3,g4,-any_eq_true]];rfl)
    refine(zR)<|(zN) ?_
    (try change aD _ _ _ _ _)
    refine(zs) ?_;refine uW [0,1,0,4,3,19,63,127] ?_;refine(Zx) ?_;refine SD.e ge rfl ge rfl rfl ge zl ?_;refine(Zx) ?_;refine SD.e ge rfl ge rfl rfl ge zl ?_;refine(zM) ?_
    (try change aD _ _ _ _ _)
    obtain⟨R,hR⟩:∃R,R=Proofs.bY ps (xJ p e):=⟨_,rfl⟩;have hnext:=gI ps hlen ho (xJ p e);rw[<-hR] at hnext;simp only[eE,f1,xJ,Ao,lQ,qw,rS] at hnext
    exact(zC)<|(zK hnext (hfl:=.inr zw))<|(cO (br @lM.eq_1 @an.eq_1))<|ji [.cell 6 78,.tmp 7] (hq:=by rw[show aK c ps e=(R,0) by rw[hR];simp[aK,h1,h2,hM,hg,ho1,ho2,hh,f1,f2,gl,hkd,g1,g2,g3,g4,-any_eq_true,-any_eq_false]];rfl)
  ·refine(aA (un ho2))<|(jG)<|(zN) ?_
   cases f1:p.bI;rotate_left
   ·exact(aA f1)<|(zY)<|(zC)<|(zK (dG _) (hfl:=.inr zr))<|(cO @an.eq_1)<|ji [.cell 6 78,.tmp 7] (hq:=by rw[show aK c ps e=([],5) by simp[aK,h1,h2,hM,hg,ho1,ho2,f1]];rfl)
   have f2:=f1
   refine(aA (br f1 f2))<|(jG)<|(zC) ?_
   have hF:=oB c p.kind hc.len
   obtain⟨kd,b,hq,hkd⟩:∃(kd:aF) (b:Bool),qy ao aF.zero (fc c p.kind)=.bB [.ag (ao kd),au b]/\(fc c p.kind).getD aF.zero=kd:=by
    cases fc c p.kind with
    | none=>exact⟨aF.zero,false,rfl,rfl⟩
    | some q=>exact⟨q,true,rfl,rfl⟩
   rw[hq] at hF
   refine(zK hF (hfl:=.inr zr))<|(cO @ao.eq_1)<|(zV)<|zA [(3,.ip [an 3 c ao]),(4,.ip [an 14 ps ak]),(5,.ip [aa e.op,aa e.day,ab e.part,ab e.kind,ab e.aO,ab e.slot,ab e.key,ab e.value,aa e.u1,aa e.u2,aa e.u3,aa e.u4,aa e.u5,aa e.u6]),(6,.ptr 3 0),(7,aa 0),(9,.fn 78 [] [.ip [an 14 ps ak]]),(10,.fn 81 [] []),(11,.ptr 5 0),(15,.ptr 6 0),(17,.fn 84 [] [.ip [an 14 ps ak]]),(18,.ptr 7 0),(123,aa e.op)] [.gone,.gone,.gone,.cells [.a (.slice none 0 0 (some 0))],.gone,.cells [ab p.name,ab p.kind,ab p.aO,ab p.slot,aa p.made,aa p.since,au false,an 2 p.props aZ,aa p.l1,aa p.l2,aa p.l3,aa p.l4,aa p.l5,aa p.l6],.cells [ab p.name,ab p.kind,ab p.aO,ab p.slot,aa p.made,aa p.since,au false,an 2 p.props aZ,aa p.l1,aa p.l2,aa p.l3,aa p.l4,aa p.l5,aa p.l6],.cells [ab kd.name,au kd.gY,an 3 kd.bZ bQ]] (bK @ak.eq_1)<|(zB) ?_
   refine(aA (un ho2))<|(zN) ?_
   by_cases ho3:e.op=3
   ·refine(aA (ut ho3))<|(zY) ?_
    by_cases g3:p.aO=[]
    ·exact(aA (ut g3))<|(zY)<|(zC)<|(zK (dG _) (hfl:=.inr zr))<|(cO @an.eq_1)<|ji [.cell 6 78,.tmp 7] (hq:=by rw[show aK c ps e=([],5) by simp[aK,h1,h2,hM,hg,ho1,ho2,f1,gl,hkd,ho3,g3]];rfl)
    refine(aA (un g3))<|(jG) ?_
    (try change aD _ _ _ _ _)
    obtain⟨R,hR⟩:∃R,R=Proofs.bY ps (Ao p):=⟨_,rfl⟩;have hnext:=gI ps hlen ho (Ao p);rw[<-hR] at hnext;simp only[eE,f1,xJ,Ao,lQ,qw,rS] at hnext
    exact(zC)<|(zK hnext (hfl:=.inr zw))<|(cO (br @lM.eq_1 @an.eq_1))<|ji [.cell 6 78,.tmp 7] (hq:=by rw[show aK c ps e=(R,0) by rw[hR];simp[aK,h1,h2,hM,hg,ho1,ho2,f1,gl,hkd,ho3,g3]];rfl)
   refine(aA (un ho3))<|(zN) ?_
   by_cases ho4:e.op=4
   ·refine(aA (ut ho4))<|(zY) ?_
    cases g1:kd.gY
    ·exact(aA g1)<|(zY)<|(zC)<|(zK (dG _) (hfl:=.inr zr))<|(cO @an.eq_1)<|ji [.cell 6 78,.tmp 7] (hq:=by rw[show aK c ps e=([],4) by simp[aK,h1,h2,hM,hg,ho1,ho2,f1,gl,hkd,ho3,ho4,g1]];rfl)
    refine(aA g1)<|(zN) ?_
    (try change aD _ _ _ _ _)
    obtain⟨R,hR⟩:∃R,R=Proofs.bY ps p:=⟨_,rfl⟩;have hnext:=gI ps hlen ho p;rw[<-hR] at hnext;simp only[eE,f1,xJ,Ao,lQ,qw,rS] at hnext
    exact(zC)<|(zK hnext (hfl:=.inr zw))<|(cO (br @lM.eq_1 @an.eq_1))<|ji [.cell 6 78,.tmp 7] (hq:=by rw[show aK c ps e=(R,0) by rw[hR];simp[aK,h1,h2,hM,hg,ho1,ho2,f1,gl,hkd,ho3,ho4,g1]];rfl)
   refine(aA (un ho4))<|(zN) ?_
   by_cases ho5:e.op=5
   ·refine(aA (ut ho5))<|(zY)<|(aA @gp) ?_
    (try change aD _ _ _ _ _)
    obtain⟨R,hR⟩:∃R,R=Proofs.bY ps (lQ p e):=⟨_,rfl⟩;have hnext:=gI ps hlen ho (lQ p e);rw[<-hR] at hnext;simp only[eE,f1,xJ,Ao,lQ,qw,rS] at hnext
    exact(zC)<|(zK hnext (hfl:=.inr zw))<|(cO (br @lM.eq_1 @an.eq_1))<|ji [.cell 6 78,.tmp 7] (hq:=by rw[show aK c ps e=(R,0) by rw[hR];simp[aK,h1,h2,hM,hg,ho1,ho2,f1,gl,hkd,ho3,ho4,ho5]];rfl)
   refine(aA (un ho5))<|(zN) ?_
   by_cases ho6:e.op=6
   ·refine(aA (ut ho6))<|(zY) ?_
    have hpp:p∈ps:=by
     unfold re at hg;split at hg
     ·exact aS hg
     ·cases hg
    have hpl:p.props.length<=60/\ec (p.props.map bN.key)=true:=M8 h1 hpp;have hput:=Hx p.props gt ⟨e.key,e.value⟩ (g:=89) (cap:=[]) rfl DG hpl.2;rw[qZ] at hput
    refine(zC)<|(zK hput (hfl:=.inr zr))<|(zR) ?_
    by_cases g3:60<((Proofs.iF p.props ⟨e.key,e.value⟩).length:Int)
    ·exact(aA (ut g3))<|(zY)<|(zC)<|(zK (dG _) (hfl:=.inr zr))<|(cO @an.eq_1)<|ji [.cell 6 78,.tmp 7] (hq:=by rw[show aK c ps e=([],7) by simp[aK,h1,h2,hM,hg,ho1,ho2,f1,gl,hkd,ho3,ho4,ho5,ho6,g3]];rfl)
    refine(aA (un g3))<|(zN) ?_
    (try change aD _ _ _ _ _)
    obtain⟨R,hR⟩:∃R,R=Proofs.bY ps (qw p e):=⟨_,rfl⟩;have hnext:=gI ps hlen ho (qw p e);rw[<-hR] at hnext;simp only[eE,f1,xJ,Ao,lQ,qw,rS] at hnext
    exact(zC)<|(zK hnext (hfl:=.inr zw))<|(cO (br @lM.eq_1 @an.eq_1))<|ji [.cell 6 78,.tmp 7] (hq:=by rw[show aK c ps e=(R,0) by rw[hR];simp[aK,h1,h2,hM,hg,ho1,ho2,f1,gl,hkd,ho3,ho4,ho5,ho6,g3]];rfl)
   refine(aA (un ho6))<|(zN) ?_
   by_cases ho7:e.op=7
   ·refine(aA (ut ho7))<|(zY) ?_
    by_cases g3:p.aO=[];rotate_left
    ·exact(aA (un g3))<|(zY)<|(zC)<|(zK (dG _) (hfl:=.inr zr))<|(cO @an.eq_1)<|ji [.cell 6 78,.tmp 7] (hq:=by rw[show aK c ps e=([],5) by simp[aK,h1,h2,hM,hg,ho1,ho2,f1,gl,hkd,ho3,ho4,ho5,ho6,ho7,g3]];rfl)
    refine(jH (ut g3)) ?_;have hho:=wL ps hlen1 (λq=>decide (q.aO=p.name)) (g:=90) (cap:=[.ip (ak p)]) rfl (λq _=>J9 p q);rw[eE,f1] at hho;refine(zK hho (hwk:=zw)) ?_;cases g4:ps.any λq=>decide (q.aO=p.name);rotate_left
    ·exact(zR)<|(zY)<|(zC)<|(zK (dG _) (hfl:=.inr zr))<|(cO @an.eq_1)<|ji [.cell 6 78,.tmp 7] (hq:=by rw[show aK c ps e=([],5) by simp[aK,h1,h2,hM,hg,ho1,ho2,f1,gl,hkd,ho3,ho4,ho5,ho6,ho7,g3,g4,-any_eq_true]];rfl)
    refine(zR)<|(jG) ?_
    (try change aD _ _ _ _ _)
    obtain⟨R,hR⟩:∃R,R=Proofs.bY ps (rS p):=⟨_,rfl⟩;have hnext:=gI ps hlen ho (rS p);rw[<-hR] at hnext;simp only[eE,f1,xJ,Ao,lQ,qw,rS] at hnext
    exact(zC)<|(zK hnext (hfl:=.inr zw))<|(cO (br @lM.eq_1 @an.eq_1))<|ji [.cell 6 78,.tmp 7] (hq:=by rw[show aK c ps e=(R,0) by rw[hR];simp[aK,h1,h2,hM,hg,ho1,ho2,f1,gl,hkd,ho3,ho4,ho5,ho6,ho7,g3,g4,-any_eq_true,-any_eq_false]];rfl)
   refine(aA (un ho7))<|(zN) ?_
   (try change aD _ _ _ _ _)
   obtain⟨R,hR⟩:∃R,R=Proofs.bY ps p:=⟨_,rfl⟩;have hnext:=gI ps hlen ho p;rw[<-hR] at hnext;simp only[eE,f1,xJ,Ao,lQ,qw,rS] at hnext
   exact(zC)<|(zK hnext (hfl:=.inr zw))<|(cO (br @lM.eq_1 @an.eq_1))<|ji [.cell 6 78,.tmp 7] (hq:=by rw[show aK c ps e=(R,0) by rw[hR];simp[aK,h1,h2,hM,hg,ho1,ho2,f1,gl,hkd,ho3,ho4,ho5,ho6,ho7]];rfl)
def uL{a b:List (List Nat)}(h:a.Perm b):dZ a=dZ b:=by
 have h1:(dZ a).Pairwise λa b=>BV a b=true:=JO a;have h2:(dZ b).Pairwise λa b=>BV a b=true:=JO b;have hp:(dZ a).Perm (dZ b):=((qG a).trans h).trans (qG b).symm;exact Perm.eq_of_pairwise (λa b _ _ h1 h2=>IJ h1 h2) h1 h2 hp
def KT(ps:List ai)(m:List (List Nat×Int)):Prop:=(∀e∈m,∃(k:Nat) (x:ai),e.2=(k:Int)/\ps[k]?=some x/\x.name=e.1)/\(m.map (·.1)).Nodup
def vB{K U:Type}[DecidableEq K]{k:K}{l:List (K×U)}:cz k l=true↔k∈l.map (·.1):=by
 unfold cz;simp only[any_eq_true,wp,mem_map];exact⟨λ⟨e,h1,h2⟩=>⟨e,h1,h2.symm⟩,λ⟨e,h1,h2⟩=>⟨e,h1,h2.symm⟩⟩
def HX{ps:List ai}:∀{l:List ai} {i:Nat} {m:List (List Nat×Int)},ps.drop i=l->KT ps m->KT ps (oH i m l)
 | [],_,_,_,h=>h
 | p::r,i,m,hd,h=>by
  rw[oH]
  have hp:ps[i]?=some p:=by
   have:=n9 (λl=>l[0]?) hd;simpa using this
  have hd2:ps.drop (i+1)=r:=by
   have:=n9 (List.drop 1) hd;simpa using this
  refine HX hd2 ?_
  cases hh:cz p.name m with
  | true=>exact h
  | false=>
   simp only[cv,if_false];rw[mH hh];refine⟨λe he=>?_,?_⟩
   ·rcases mem_append.1 he with he | he
    ·exact h.1 e he
    ·rw[rc he];exact⟨i,p,rfl,hp,rfl⟩
   ·rw[c4,List.nodup_append];refine⟨h.2,by simp,λa ha b hb=>?_⟩;simp only[be,map_nil,ei] at hb;subst hb;intro e;subst e;rw[vB.2 ha] at hh;cases hh
def xV(ps:List ai)(i:Int):List Nat:=match ps[i.toNat]? with
 | some p=>p.aO
 | none=>[]
abbrev iK:=List (List Nat×List Nat)
def kE(ps:List ai)(hd:List (List Nat×Int)):iK:=hd.filterMap λe=>if xV ps e.2=[] then none else some (e.1,xV ps e.2)
def Ck{hd:List (List Nat×Int)}{k:List Nat}(h:k∈(kE ps hd).map (·.1)):k∈hd.map (·.1):=by
 obtain⟨e,he,rfl⟩:=mem_map.1 h;obtain⟨e',he',h2⟩:=List.mem_filterMap.1 he;split at h2
 ·cases h2
 ·cases h2;exact a0 he'
def kF{ps:List ai}:∀{hd:List (List Nat×Int)},(hd.map (·.1)).Nodup->((kE ps hd).map (·.1)).Nodup
 | [],_=>em
 | e::hd,h=>by
  rw[be,gd] at h;unfold kE;rw[cl];split
  ·exact kF h.2
  ·rename_i b hb;split at hb
   ·cases hb
   ·cases hb;rw[be,gd];exact⟨λhm=>h.1 (Ck hm),kF h.2⟩
def Ln{U:Type}{l:List (List Nat×U)}{pos:List Nat}{j:Nat}{e:List Nat×U}(hn:(l.map (·.1)).Nodup)(he:l[j]?=some e)(hj:j∉pos):e.1∉(bq l pos).map (·.1):=by
 intro hm;obtain⟨e',he',h2⟩:=mem_map.1 hm;obtain⟨i,hi,h3⟩:=List.mem_filterMap.1 he'
 have h4:(l.map (·.1))[i]?=some e.1:=by rw[bv,h3];exact n9 some h2
 have h5:(l.map (·.1))[j]?=some e.1:=by rw[bv,he];rfl
 exact hj ((fy (aR h4) hn).1 (h4.trans h5.symm)▸hi)
def cm:Nat->iK->List (List Nat)->List (List Nat)
 | 0,_,_=>[]
 | n+1,r,ls=>if ls=[] then [] else ((r.filter λe=>ls.contains e.2).map (·.1))++cm n (r.filter λe=>!ls.contains e.2) ((r.filter λe=>ls.contains e.2).map (·.1))
def Jz(ps:List ai)(part:List Nat):iK:=kR part (kE ps (oH 0 [] ps))
def iC(ps:List ai)(part:List Nat):List (List Nat):=if cz part (oH 0 [] ps)=true then dZ (cm (ps.length+2) (Jz ps part) [part]) else []
def pE:∀(n:Nat) {r r':iK} {ls ls':List (List Nat)},r.Perm r'->(∀x,ls.contains x=ls'.contains x)->(ls=[]↔ls'=[])->(cm n r ls).Perm (cm n r' ls')
 | 0,_,_,_,_,_,_,_=>Perm.refl _
 | n+1,r,r',ls,ls',h1,h2,h3=>by
  rw[cm,cm];by_cases h:ls=[]
  ·rw[t8 h,t8 (h3.1 h)]
  ·rw[ul h,ul (λe=>h (h3.2 e))];have e1:(λe:List Nat×List Nat=>ls.contains e.2)=λe=>ls'.contains e.2:=funext λe=>h2 _
   have e2:(λe:List Nat×List Nat=>!ls.contains e.2)=λe=>!ls'.contains e.2:=funext λe=>by rw[h2]
   rw[e1,e2];have p1:=(h1.filter λe=>ls'.contains e.2).map (·.1);have p2:=h1.filter λe=>!ls'.contains e.2;refine p1.append (pE n p2 (λx=>?_) ⟨λe=>?_,λe=>?_⟩)
   ·rw[d6,contains_iff_mem,contains_iff_mem];exact p1.mem_iff
   ·rw[e] at p1;exact p1.nil_eq.symm
   ·rw[e] at p1;exact p1.eq_nil
def fU(l:List (List Nat)):SO:=if l=[] then .gone else .cells (l.flatMap (aw ab))
def iZ{l:List (List Nat)}(h:¬l=[]):fU l=.cells (l.flatMap (aw ab)):=ul h
def lx:fU []=.gone:=rfl
def gz(o:Nat)(l:List (List Nat)):cx o (fU l)=fU l:=by
 unfold fU;split
 ·rfl
 ·rw[cx];congr 1;exact bL (aB (λ_=>rfl) l)
def fE(r:Nat->Nat)(l:List (List Nat)):oI r (fU l)=fU l:=by
 unfold fU;split
 ·rfl
 ·rw[S7];congr 1;exact bg (aB (λ_=>rfl) l)
variable{S:List SO}
def MP{o:Nat}{l:iK}(s u:List Nat)(hS:S[o]?=some (bu AV.str ab l)):gn prog S 179 (.map o) (.a (.str s)) (.a (.str u))=some (S.set o (bu AV.str ab (bU s u l))):=
 Jw (uv:=ab) (kt:=9) (et:=9) (by simp only[az]) gq hS rfl u
def CN{o:Nat}{l:iK}(s:List Nat)(hS:S[o]?=some (bu AV.str ab l)):O8 prog S 179 (.map o) (.a (.str s))=some (S.set o (bu AV.str ab (kR s l))):=
 XA (uv:=ab) (k:=s) (kt:=9) (et:=9) (by simp only[az]) gq hS rfl
def lg{n:Nat}{l:iK}:cx n (bu AV.str ab l)=bu AV.str ab l:=lU λ_=>lk _
def jR(ls:List (List Nat))(hd:iK):List (List Nat):=(hd.filter λe=>ls.contains e.2).map (·.1)
def LI(ls:List (List Nat))(hd:iK)(e:List Nat×List Nat):jR ls (hd++[e])=jR ls hd++(if ls.contains e.2=true then [e.1] else []):=by
 unfold jR;rw[fo,c4];cases h:ls.contains e.2
 ·rw[ad,ul (by rw[h];decide)];rfl
 ·rw[ad,t8 h];rfl
def Bm{k:List Nat}:∀{l:iK},(kR k l).length<=l.length
 | []=>bc _
 | e::l=>by
  rw[kR];split
  ·exact Nat.le_succ _
  ·exact Nat.succ_le_succ Bm
def yA:∀(ks:List (List Nat)) {r:iK},(r.map (·.1)).Nodup->ks.foldl (λr k=>kR k r) r=r.filter λe=>!ks.contains e.1
 | [],r,_=>by
  rw[foldl_nil];symm;rw[List.filter_eq_self];intro a _;rfl
 | k::ks,r,h=>by
  rw[c0,mw h];have hn:((r.filter λe=>!decide (e.1=k)).map (·.1)).Nodup:=h.sublist ((List.filter_sublist).map _);rw[yA ks hn,b7]
  congr 1
  funext e;rw[List.contains_cons];by_cases hh:e.1=k
  ·simp[hh]
  ·simp[hh]
variable{ls:List (List Nat)}
def O9{r:iK}{mo:List (List Nat)}(hn:(r.map (·.1)).Nodup)(hm:mo.Perm (jR ls r)):mo.foldl (λr k=>kR k r) r=r.filter λe=>!ls.contains e.2:=by
 rw[yA mo hn];apply b9;intro e he
 congr 1
 rw[d6,contains_iff_mem,hm.mem_iff];unfold jR;constructor
 ·intro h;obtain⟨e',he',h2⟩:=mem_map.1 h;obtain⟨h3,h4⟩:=mem_filter.1 he'
  have:e'=e:=by
   obtain⟨i,hi⟩:=List.mem_iff_getElem?.1 h3;obtain⟨j,hj⟩:=List.mem_iff_getElem?.1 he
   have g1:(r.map (·.1))[i]?=some e'.1:=by rw[bv,hi];rfl
   have g2:(r.map (·.1))[j]?=some e'.1:=by rw[bv,hj,h2];rfl
   have:=(fy (aR g1) hn).1 (g1.trans g2.symm);subst this;rw[hi] at hj;cases hj;rfl
  rw[this] at h4;exact h4
 ·intro h;exact a0 (mem_filter.2 ⟨he,h⟩)
def FE:∀(l:List ai) (i:Nat) (m:List (List Nat×Int)),(oH i m l).length<=m.length+l.length
 | [],_,_=>bc _
 | p::r,i,m=>by
  rw[oH];refine cd (FE r _ _) ?_
  cases h:cz p.name m with
  | true=>simp only[if_true,i7];omega
  | false=>simp only[cv,if_false,mH h,li,i7,g9];omega
def Ci{α:Type}(p:α->Bool):∀l:List α,(l.filter p).length+(l.filter λx=>!p x).length=l.length
 | []=>rfl
 | a::l=>by
  have:=Ci p l;cases h:p a
  ·rw[ad,ul (by rw[h];decide),ad,t8 (by rw[h];rfl),i7,i7];omega
  ·rw[ad,t8 h,ad,ul (by rw[h];decide),i7,i7];omega
def LH{a b:iK}(h:a.Perm b):(jR ls a).Perm (jR ls b):=(h.filter _).map _
def cC{p o e n:Nat}(h:o≠p):names p (bn o e n)=false:=by
 unfold bn;split
 ·exact lk _
 ·rw[names];exact un h
def eK(q:Nat->Nat)(o e n:Nat):gF q (bn o e n)=bn (q o) e n:=by
 unfold bn;split
 ·rw[S9]
 ·rw[GJ]
def B2(r:iK)(bs:List Nat)(c:Nat):SO:=.map (r.map λe=>.str e.1) (r.map λe=>ab e.2) (some (bs,c))
def xX(o:Nat)(r:iK)(bs:List Nat)(c:Nat):cx o (B2 r bs c)=B2 r bs c:=by
 unfold B2;rw[cx]
 congr 1
 exact bL (fD (uv:=ab) (λ_=>rfl) r)
def Oj(q:Nat->Nat)(r:iK)(bs:List Nat)(c:Nat):oI q (B2 r bs c)=B2 r bs c:=by
 unfold B2;rw[JF]
 congr 1
 exact bg (fD (uv:=ab) (λ_=>rfl) r)
def Oi(q:Nat->Nat)(r:iK):oI q (bu AV.str ab r)=bu AV.str ab r:=by
 unfold bu;rw[JF]
 congr 1
 exact bg (fD (uv:=ab) (λ_=>rfl) r)
def Kb(ps:List ai)(part:List Nat)(hlen:ps.length<=100000):SC prog 41 [.ag [an 14 ps ak],ab part] [] [] (λr S'=>r=bn 0 1 (iC ps part).length/\S'=[fU (iC ps part)]):=by
 refine On 87 Tryz.func41 ?_;refine(lJ)<|(zK (yv ps gt) (hfl:=.inr zr)) ?_
 have hgood:KT ps (oH 0 [] ps):=HX (ps:=ps) rfl ⟨λe he=>by simp at he,em⟩
 have hMl:(oH 0 [] ps).length<=ps.length:=by have:=FE ps 0 [];simpa using this
 obtain⟨M,hM⟩:∃M,M=oH 0 [] ps:=⟨_,rfl⟩
 have hN:iC ps part=if cz part M=true then dZ (cm (ps.length+2) (kR part (kE ps M)) [part]) else []:=by rw[hM];rfl
 rw[<-hM] at hgood hMl
 refine(cO (br @KK.eq_1 (Eq.symm hM)))<|(zs) ?_;refine aD.r0 ge (by simp only[cG,bG,an,az,m7,m6,↓reduceIte,af,aV,bd,ax,ba,ah,ar,bD,zy (l:=M)];first | done | rfl) ?_;refine(zV) ?_
 cases h1:cz part M
 ·refine(cN) ?_;rw[h1,ul gc] at hN
  refine zA [(4,cY)] [.gone] zH<|(zE) ?_;exact zP [.tmp 4] (hq:=by (try simp only[dA,aY]);first | done | (rw[hN];exact⟨rfl,rfl⟩))
 rw[h1,t8 rfl] at hN
 refine(jG)<|(zC) ?_;refine aJ.Yr (ks:=M.map λe=>.str e.1) (vs:=M.map λe=>aa e.2) ge rfl rfl ge rfl (by simp only[az]) ?_
 intro bs c hbs;refine(cO @lg) ?_
 (repeat refine aD.seq ?_)
 refine aD.block (aD.loop (λm st=>∃pos:List Nat,pos.Nodup/\(∀j∈pos,j<M.length)/\M.length-pos.length=m/\st=⟨[(1,ab part),(5,.ptr 1 0),(8,.map 2),(33,.ptr 3 0)],87,[.gone,.cells [an 14 ps ak,pD AV.str aa M],bu AV.str ab (kE ps (bq M pos)),.qj (M.map λe=>.str e.1) (M.map λe=>aa e.2) bs c pos],[]⟩) M.length (bK (ik @bu.eq_1 @bq.eq_1 @kE.eq_1 @filterMap_nil.{0,0} @map_nil.{0,0})) ⟨[],em,λj hj=>by simp at hj,rfl,rfl⟩ (by rintro m st ⟨pos,_,_,_,rfl⟩;rfl) ?_);rintro m st ⟨pos,hpn,hpl,rfl,rfl⟩;refine(zC) ?_;refine aJ.Yn ge rfl rfl ge rfl rfl (λj hj=>by rw[ay];exact hpl j hj) ?_ ?_;rotate_left
 ·intro j hj hjn;rw[ay] at hj;obtain⟨e,he⟩:∃e,M[j]?=some e:=⟨M[j],jp hj⟩;obtain⟨q1,q2,q3⟩:=qA hpn hpl hj hjn;obtain⟨i,x,hi,hx,hxn⟩:=hgood.1 e (aS he);have hil:=aR hx;have hsn:=mA M pos he;have hfresh:=Ln hgood.2 he hjn
  refine(zR)<|(gJ)<|(zC) ?_;refine aJ.Yk (k:=.str e.1) (v:=aa e.2) ge rfl rfl ge rfl rfl (by rw[bv,he];rfl) (by rw[bv,he];rfl) ?_;refine(zR) ?_
  rw[hi];refine(aA (cA hil (aH (e:=14) (enc:=ak) ce hx) @ak.eq_1)) ?_
  have hin:xV ps e.2=x.aO:=by unfold xV;rw[hi,d9,hx]
  by_cases hx0:x.aO=[]
  ·refine(aA (ut hx0))<|(zN) ?_
   have hr:kE ps (bq M (pos++[j]))=kE ps (bq M pos):=by
    rw[hsn];unfold kE;rw[ey,cl,t8 (by rw[hin,hx0]),filterMap_nil,b0]
   exact⟨M.length-(pos++[j]).length,_,by rw[li];simp only[i7,g9];omega,(bK hr),pos++[j],q1,q2,rfl,rfl⟩
  ·refine(aA (un hx0))<|(zY)<|(zs) ?_;refine aD.r0 ge (by simp only[cG,bG,an,az,m7,m6,↓reduceIte,af,aV,bd,ax,ba,ah,ar,bD,MP (l:=kE ps (bq M pos))];first | done | rfl) ?_
   have hr:kE ps (bq M (pos++[j]))=bU e.1 x.aO (kE ps (bq M pos)):=by
    rw[mH (by
     cases hh:cz e.1 (kE ps (bq M pos)) with
     | false=>rfl
     | true=>exact t7 (Ck (vB.1 hh)) hfresh),hsn]
    unfold kE;rw[ey,cl,ul (by rw[hin];exact hx0),filterMap_nil,hin]
   exact⟨M.length-(pos++[j]).length,_,by rw[li];simp only[i7,g9];omega,(bK hr),pos++[j],q1,q2,rfl,rfl⟩
 intro hall;have hperm:(bq M pos).Perm M:=nX hpn hpl λj hj=>hall j (by rw[ay];exact hj)
 refine(zR)<|(fC)<|(zs) ?_;refine aD.r0 ge (by simp only[cG,bG,an,az,m7,m6,↓reduceIte,af,aV,bd,ax,ba,ah,ar,bD,CN (l:=kE ps (bq M pos))];first | done | rfl) ?_
 obtain⟨r0,hr0⟩:∃r0,r0=kR part (kE ps (bq M pos)):=⟨_,rfl⟩;have hnk:((bq M pos).map (·.1)).Nodup:=(hperm.map (·.1)).nodup_iff.2 hgood.2
 have hrp:r0.Perm (kR part (kE ps M)):=by
  rw[hr0,mw (kF hnk),mw (kF hgood.2)];exact(hperm.filterMap _).filter _
 have hr0n:(r0.map (·.1)).Nodup:=by
  rw[hr0,mw (kF hnk)];exact(kF hnk).sublist (List.filter_sublist.map _)
 have hr0l:r0.length<=ps.length:=by
  rw[hrp.length_eq];exact cd Bm (cd (ck _ _) hMl)
 have hN2:iC ps part=dZ (cm (ps.length+2) r0 [part]):=by
  rw[hN];exact uL (pE _ hrp.symm (λ_=>rfl) Iff.rfl)
 rw[<-hr0];clear hN hperm hall
 refine(zV)<|(aA @lg) ?_;refine zZ [(1,ab part),(8,.map 2),(12,cY),(13,an 1 [part] (aw ab))] 4 rfl (tK (jB @an.eq_1 @aw.eq_1 @flatMap_cons.{0,0} @flatMap_nil.{0,0}))<|zA [(1,ab part),(8,.map 0),(12,cY),(13,an 1 [part] (aw ab))] [bu AV.str ab r0,.gone] (Fg.rn [2,0] gc rfl (KM @Oi) (KN @Oi)) ?_
 clear hr0 hrp;obtain⟨T,hT0⟩:∃T,T=cm (ps.length+2) r0 [part]:=⟨_,rfl⟩;rw[<-hT0] at hN2
 (repeat refine aD.seq ?_)
 refine aD.block (aD.loop (λm st=>∃(r:iK) (ls out:List (List Nat)) (fu:Nat),((r.map (·.1)).Nodup/\r.length+(if ls=[] then 1 else 2)<=fu)/\(out++cm fu r ls).Perm T/\(out.length+r.length<=ps.length/\ls.length<=ps.length+1)/\(r.length+if ls=[] then 0 else 1)=m/\st=⟨[(1,ab part),(8,.map 0),(12,bn 1 1 out.length),(13,an 1 ls (aw ab))],87,[bu AV.str ab r,fU out],[]⟩) (r0.length+1) (bK (cA @fv @lx @g9.{0})) ⟨r0,[part],[],ps.length+2,⟨hr0n,by rw[ul f5];omega⟩,by rw[hT0];exact Perm.refl _,⟨by simpa using hr0l,by simp⟩,rfl,rfl⟩ (by rintro m st ⟨r,ls,out,fu,_,_,_,_,rfl⟩;rfl) ?_);rintro m st ⟨r,ls,out,fu,⟨hrn,hfu⟩,hT,⟨hsz,hlsl⟩,rfl,rfl⟩;clear hr0n hr0l hT0;by_cases hls:ls=[]
 ·subst hls
  refine(aA (show decide (0<(([]:List (List Nat)).length:Int))=false by simp))<|(fC) ?_
  have hgo:cm fu r []=[]:=by
   cases fu with
   | zero=>rfl
   | succ k=>rw[cm,t8 rfl]
  rw[hgo,b0] at hT
  have hres:iC ps part=dZ out:=by rw[hN2];exact(uL hT).symm
  by_cases ho:out=[]
  ·subst ho
   refine(jH (br @fv @g9.{0}))<|(zK wU)<|(zR)<|(zV)<|zA [(4,cY)] [.gone] zH<|(zE) ?_;exact zP [.tmp 4] (hq:=by (try simp only[dA,aY]);first | done | (rw[hres,show dZ []=[] from rfl];exact⟨rfl,rfl⟩))
  ·have hol:¬out.length=0:=λh=>ho (rx h);rw[bR hol,iZ ho]
   refine(zC) ?_;refine aJ.sk [1] ge rfl rfl ge rfl zc (uR out gt ho) (by simp only[gh,bG,an,↓reduceIte,af,aV,bX,bd,ax,ba,lg,bg (aB (enc:=aw ab) ce _),bH (aB (enc:=aw ab) ce _)];first | done | rfl) rfl gc (by simp only[BK,gh,bG,an,lg,bg (aB (enc:=aw ab) ce _),bH (aB (enc:=aw ab) ce _)]<;>(repeat' apply bb)<;>first | trivial | rfl | (intro hh;cases hh)) (by simp only[GZ,gh,bG,an,aV,ba,decide_true,lg,bg (aB (enc:=aw ab) ce _),bH (aB (enc:=aw ab) ce _)];first | done | rfl) (by simp only[GZ,gh,bG,an,aV,ba,decide_true,lg,bg (aB (enc:=aw ab) ce _),bH (aB (enc:=aw ab) ce _)];first | done | rfl) (by simp only[gh,bG,an,↓reduceIte,af,aV,bX,bd,ax,ba,lg,bg (aB (enc:=aw ab) ce _),bH (aB (enc:=aw ab) ce _)];first | done | rfl) (by simp only[gh,bG,an,↓reduceIte,af,aV,bX,bd,ax,ba,lg,bg (aB (enc:=aw ab) ce _),bH (aB (enc:=aw ab) ce _),eg,eC,cx,aW,cG];first | done | rfl) (by simp only[gh,bG,an,↓reduceIte,af,aV,bX,bd,ax,ba,lg,bg (aB (enc:=aw ab) ce _),bH (aB (enc:=aw ab) ce _),eg,eC,cx,aW,cG];first | done | rfl) ?_;refine(zR)<|(zV) ?_
   have hsl:(dZ out).length=out.length:=(qG out).length_eq;have hsne:¬dZ out=[]:=λe=>hol (by rw[<-hsl,e];rfl);refine zA [(4,.buf 0 out.length 1 none)] [.cells ((dZ out).flatMap (aw ab))] (Fg.rn [1] gc rfl (by (simp only[su,gh,bG,an,bg (aB (enc:=aw ab) ce (dZ out))])<;>(repeat' apply bb)<;>first | trivial | exact .inl rfl | exact .inr rfl | exact .inr trivial | exact .inl trivial) (by (simp only[cG,gh,bG,an,bg (aB (enc:=aw ab) ce (dZ out))])<;>(repeat' apply bb)<;>first | rfl | trivial)) ?_;refine(zE) ?_;exact zP [.tmp 4] (hq:=by (try simp only[dA,aY]);first | done | (rw[hres,hsl,bR hol,iZ hsne];exact⟨rfl,rfl⟩))
 rw[ul hls] at hfu ⊢;have hl0:0<ls.length:=co λh=>hls (rx h)
 refine(aA (show decide (0<(ls.length:Int))=true by simp only[wp];omega))<|(gJ)<|(lJ) ?_;refine aJ.Y9 (oo:=0) (ks:=r.map λe=>.str e.1) (vs:=r.map λe=>ab e.2) (b:=none) ge rfl rfl ge rfl rfl (by simp only[az]) ?_
 intro bs c hbs;rw[ay] at hbs;change aJ _ _ _ _ ⟨_,_,iX [B2 r bs c,fU out] _,_⟩ _;refine aJ.r0 ge (by simp only[cG,bG,an,az,m7,m6,↓reduceIte,af,aV,bd,ax,ba,ah,ar,bD,gz,xX,cC (show 1≠2 by decide)];first | done | rfl) ?_
 (repeat refine aD.seq ?_)
 refine aD.block (aD.loop (λm st=>∃pos:List Nat,pos.Nodup/\(∀j∈pos,j<r.length)/\r.length-pos.length=m/\st=⟨[(1,ab part),(8,.map 0),(12,bn 1 1 out.length),(13,an 1 ls (aw ab)),(14,bn 3 1 (jR ls (bq r pos)).length),(58,.ptr 2 0)],87,[B2 r bs c,fU out,.iter (.map 0) bs c pos,fU (jR ls (bq r pos))],[]⟩) r.length (Fg.less (by (simp only[cG,bG,dU,↓reduceIte,af,an,bq,jR,filterMap_nil,eF,map_nil,fv,lx,g9,cC (show 1≠2 by decide)])<;>(repeat' apply bb)<;>first | rfl | trivial) (by (simp only[cG,bG,or_true,true_or,an,bq,jR,filterMap_nil,eF,map_nil,fv,lx,g9,cC (show 1≠2 by decide)])<;>(repeat' apply bb)<;>first | exact .inr rfl | exact .inl rfl | trivial)) ⟨[],em,λj hj=>by simp at hj,rfl,rfl⟩ (by rintro m st ⟨pos,_,_,_,rfl⟩;rfl) ?_);rintro m st ⟨pos,hpn,hpl,rfl,rfl⟩;refine(zC) ?_;refine aJ.Y7 (ks:=r.map λe=>.str e.1) (vs:=r.map λe=>ab e.2) ge rfl rfl ge rfl rfl rfl (λj hj=>by rw[ay];exact hpl j hj) ?_ ?_;rotate_left
 ·intro j hj hjn;rw[ay] at hj;obtain⟨e,he⟩:∃e,r[j]?=some e:=⟨r[j],jp hj⟩;obtain⟨q1,q2,q3⟩:=qA hpn hpl hj hjn;have hsn:=mA r pos he;have hms:=LI ls (bq r pos) e;rw[<-hsn] at hms
  have hml:(jR ls (bq r pos)).length<=100000:=by
   unfold jR;rw[ay];have h1:=bi (λe:List Nat×List Nat=>ls.contains e.2) (bq r pos);have h2:(bq r pos).length<=pos.length:=ck _ _;omega
  generalize jR ls (bq r pos)=mo at hms hml
  refine(zR)<|(gJ)<|(zC) ?_;refine aJ.Y4 (ks:=r.map λe=>.str e.1) (vs:=r.map λe=>ab e.2) (k:=.str e.1) (v:=ab e.2) ge rfl rfl ge rfl rfl rfl (by rw[bv,he];rfl) (by rw[bv,he];rfl) ?_;refine(zR)<|(zC)<|(zK (l7 ls e.2 gt)) ?_
  cases hc:ls.contains e.2
  ·rw[hc,ul gc,b0] at hms
   refine(zR)<|(zN) ?_;exact⟨r.length-(pos++[j]).length,_,by rw[li];simp only[i7,g9];omega,(bK hms),pos++[j],q1,q2,rfl,rfl⟩
  ·rw[hc,t8 rfl] at hms
   refine(zR)<|(zY) ?_
   have happ:=eV (enc:=aw ab) (e:=1) ce (λ_=>rfl) 3 mo e.1;have hcl:=aM (enc:=aw ab) (e:=1) ce mo;rw[show aw ab e.1=[ab e.1] from rfl,cn] at happ;by_cases hmo:mo=[]
   ·subst hmo;refine(zs) ?_;refine aD.r0 ge (by simp only[cG,bG,an,az,m7,m6,↓reduceIte,af,aV,bd,ax,ba,ah,ar,bD,fv,g9,lx,gz,xX,cC (show 1≠4 by decide),cC (show 1≠5 by decide)];first | done | rfl) ?_;exact⟨r.length-(pos++[j]).length,_,by rw[li];simp only[i7,g9];omega,((Fg.rn (f':=[(1,ab part),(8,.map 0),(12,bn 1 1 out.length),(13,an 1 ls (aw ab)),(14,.buf 3 1 1 none),(58,.ptr 2 0)]) (n:=87) (S':=[B2 r bs c,fU out,.iter (.map 0) bs c (pos++[j]),.cells [ab e.1]]) [0,1,2,5] gc rfl (KM (cA @Oj @fE @eK)) (KN (cA @Oj @fE @eK)))).trans (bK (Af hms @nil_append.{0} @fU.eq_1 @aw.eq_1 @flatMap_cons.{0,0} @flatMap_nil.{0,0} @bn.eq_1)),pos++[j],q1,q2,rfl,rfl⟩
   ·have hmol:¬mo.length=0:=λh=>hmo (rx h);rw[bR hmol,iZ hmo]
    have hq:mo++[e.1]≠[]:=by simp
    have hql:(mo++[e.1]).length=mo.length+1:=by rw[li];rfl
    refine(zs) ?_;refine aD.r0 ge (by simp only[cG,bG,an,az,m7,m6,↓reduceIte,af,aV,bd,ax,ba,ah,ar,bD,gz,xX,cC (show 1≠4 by decide),cC (show 1≠3 by decide),bf (enc:=aw ab) ce _ mo,hcl,cn,bc,show mo.length<=1000000 by omega,happ];first | done | rfl) ?_;exact⟨r.length-(pos++[j]).length,_,by rw[li];simp only[i7,g9];omega,(bK (jB hms hql @Gl (iZ hq))),pos++[j],q1,q2,rfl,rfl⟩
 intro hall;have hperm:(bq r pos).Perm r:=nX hpn hpl λj hj=>hall j (by rw[ay];exact hj);have hmp:(jR ls (bq r pos)).Perm (jR ls r):=LH hperm;obtain⟨mo,hmo⟩:∃mo,mo=jR ls (bq r pos):=⟨_,rfl⟩;rw[<-hmo] at hmp ⊢;clear hall
 refine(zR)<|(fC) ?_;refine aD.fg (st':=⟨[(1,ab part),(8,.map 0),(12,bn 1 1 out.length),(13,an 1 ls (aw ab)),(14,an 1 mo (aw ab))],87,[bu AV.str ab r,fU out],[]⟩) ?_ ?_
 ·refine Fg.trans (b:=⟨_,87,[B2 r bs c,fU out],[]⟩) ?_ (Fg.M5 (S:=[B2 r bs c,fU out]) (ks:=r.map λe=>.str e.1) (vs:=r.map λe=>ab e.2) (b:=some (bs,c)) 0 rfl);by_cases h0:mo=[]
  ·rw[h0];exact Fg.trans (Fg.wk (f':=[(1,ab part),(8,.map 0),(12,bn 1 1 out.length),(13,an 1 ls (aw ab)),(14,an 1 ([]:List (List Nat)) (aw ab))]) ⟨.inl rfl,.inl rfl,.inl rfl,.inl rfl,.inr (.nil _),trivial⟩) zH
  ·have hmol:¬mo.length=0:=λh=>h0 (rx h);rw[bR hmol,iZ h0];exact Fg.trans (Fg.freeze (f':=[(1,ab part),(8,.map 0),(12,bn 1 1 out.length),(13,an 1 ls (aw ab)),(14,an 1 mo (aw ab))]) 3 rfl f7 ⟨.inl rfl,.inl rfl,.inl rfl,.inl rfl,.inr (.buf rfl (by rw[dw (enc:=aw ab) (e:=1) ce];exact cS.refl (aB (λ_=>rfl) _)) (by rw[aM (enc:=aw ab) (e:=1) ce];exact bc _)),trivial⟩) zH
 have hmol:mo.length<=r.length:=by
  rw[hmp.length_eq];unfold jR;rw[ay];exact bi _ _
 have hdel:=O9 hrn hmp
 have hgo:((out++mo)++cm (fu-1) (r.filter λe=>!ls.contains e.2) mo).Perm T:=by
  refine Perm.trans ?_ hT;obtain⟨k,rfl⟩:∃k,fu=k+1:=⟨fu-1,by omega⟩;rw[cm,ul hls,b8];refine Perm.append_left out (hmp.append ?_);refine pE k (Perm.refl _) (λx=>?_) ⟨λe=>?_,λe=>?_⟩
  ·rw[d6,contains_iff_mem,contains_iff_mem];exact hmp.mem_iff
  ·rw[e] at hmp;exact hmp.nil_eq.symm
  ·have:jR ls r=[]:=e;rw[this] at hmp;exact hmp.eq_nil
 have hpl:(jR ls r).length+(r.filter λe=>!ls.contains e.2).length=r.length:=by
  unfold jR;rw[ay];exact Ci _ r
 rw[<-hmp.length_eq] at hpl;have hrn2:((r.filter λe=>!ls.contains e.2).map (·.1)).Nodup:=hrn.sublist (List.filter_sublist.map _)
 (try change aD _ _ _ _ _)
 refine(zV)<|(zs) ?_;refine zL mo (λk=>True) (λk=>[(1,ab part),(8,.map 0),(12,bn 1 1 out.length),(14,an 1 mo (aw ab)),(71,an 1 mo (aw ab)),(72,aa mo.length),(73,aa k)]) (λk=>[bu AV.str ab ((mo.take k).foldl (λr k=>kR k r) r),fU out]) (bK (br @take_zero.{0} @foldl_nil.{0,0})) zp ?_;intro k hk hall;refine zT mo k ?_ ?_;rintro rfl;rotate_left;intro x hx hlt;rotate_left
 rotate_left
 ·refine(gJ)<|(aA (cA hlt (aH (e:=1) (enc:=aw ab) ce hx) @aw.eq_1))<|(zs) ?_;refine aD.r0 ge (by simp only[cG,bG,an,az,m7,m6,↓reduceIte,af,aV,bd,ax,ba,ah,ar,bD,CN (l:=(mo.take k).foldl (λr k=>kR k r) r)];first | done | rfl) ?_
  have hst:(mo.take (k+1)).foldl (λr k=>kR k r) r=kR x ((mo.take k).foldl (λr k=>kR k r) r):=by rw[bz hx,ej];rfl
  refine(aA (zi hlt (show mo.length<=1000000 by omega))) ?_;refine zX hlt (bK hst) trivial
 refine(fC) ?_;rw[bt,hdel];generalize hr':(r.filter λe=>!ls.contains e.2)=r' at hgo hpl hrn2
 have hme:r'.length+(if mo=[] then 0 else 1)<r.length+1/\r'.length+(if mo=[] then 1 else 2)<=fu-1:=by
  by_cases h0:mo=[]
  ·rw[t8 h0,t8 h0];omega
  ·have:0<mo.length:=co λh=>h0 (rx h);rw[ul h0,ul h0];omega
 have hsz2:(out++mo).length+r'.length<=ps.length/\mo.length<=ps.length+1:=by rw[li];omega
 have hmk:=bf (enc:=aw ab) ce;have hmo1:(mo.flatMap (aw ab)).all fw=true:=qa (λ_=>rfl) mo;by_cases h0:mo=[]
 ·subst h0;rw[b0] at hgo hsz2;by_cases h1:out=[]
  ·subst h1
   refine(aA (br @fv @g9.{0}))<|(zV) ?_;exact⟨_,_,hme.1,(bK (cA @fv @lx @g9.{0})),r',[],[],fu-1,⟨hrn2,hme.2⟩,hgo,hsz2,rfl,rfl⟩
  ·have h1l:¬out.length=0:=λh=>h1 (rx h);rw[bR h1l,iZ h1]
   refine(aA (br @g9.{0} (show out.length<=1000000 by omega)))<|(zV) ?_;exact⟨_,_,hme.1,(Fg.less (by (simp only[cG,bG,dU,↓reduceIte,af,an,bR h1l,iZ h1,g9])<;>(repeat' apply bb)<;>first | rfl | trivial) (by (simp only[cG,bG,or_true,true_or,an,bR h1l,iZ h1,g9])<;>(repeat' apply bb)<;>first | exact .inr rfl | exact .inl rfl | trivial)),r',[],out,fu-1,⟨hrn2,hme.2⟩,hgo,hsz2,rfl,rfl⟩
 have hmol2:¬mo.length=0:=λh=>h0 (rx h);by_cases h1:out=[]
 ·subst h1;rw[nil_append] at hgo hsz2
  refine(aA (KO @fv @lx @g9.{0} hmol2 (show mo.length<=1000000 by omega) hmo1 hmk @lg))<|(zV) ?_;exact⟨_,_,hme.1,((Fg.rn (f':=[(1,ab part),(8,.map 0),(12,.buf 1 mo.length 1 none),(13,an 1 mo (aw ab))]) (n:=87) (S':=[bu AV.str ab r',.cells (mo.flatMap (aw ab))]) [0,2] gc rfl (by (simp only[su,gh,bG,an,Oi,bg (aB (enc:=aw ab) ce mo)])<;>(repeat' apply bb)<;>first | trivial | exact .inl rfl | exact .inr rfl | exact .inr trivial | exact .inl trivial) (by (simp only[cG,gh,bG,an,Oi,bg (aB (enc:=aw ab) ce mo)])<;>(repeat' apply bb)<;>first | rfl | trivial))).trans (Fg.less (by (simp only[cG,bG,dU,↓reduceIte,af,an,bR hmol2,iZ h0])<;>(repeat' apply bb)<;>first | rfl | trivial) (by (simp only[cG,bG,or_true,true_or,an,bR hmol2,iZ h0])<;>(repeat' apply bb)<;>first | exact .inr rfl | exact .inl rfl | trivial)),r',mo,mo,fu-1,⟨hrn2,hme.2⟩,hgo,hsz2,rfl,rfl⟩
 ·have h1l:¬out.length=0:=λh=>h1 (rx h);have hol:=aM (enc:=aw ab) (e:=1) ce out;rw[cn] at hol;have hot:(out.flatMap (aw ab)).take out.length=out.flatMap (aw ab):=bo (by rw[hol];exact bc _)
  have hq:¬(out++mo)=[]:=by simp[h1]
  have hql:(out++mo).length=out.length+mo.length:=li;rw[bR h1l,iZ h1]
  have hap:(out.flatMap (aw ab)++mo.flatMap (aw ab)).map (aW 1)=(out++mo).flatMap (aw ab):=by rw[c4,hmk,hmk,dv]
  refine(aA (br (DX hmol2 (show mo.length<=1000000 by omega) (show out.length<=1000000 by omega) hmo1 hol @cn @bc hot hmk) (br @lg hap)))<|(zV) ?_;exact⟨_,_,hme.1,(Fg.less (by (simp only[cG,bG,dU,↓reduceIte,af,an,bR (show ¬(out.length+mo.length)=0 by omega),iZ hq,hql])<;>(repeat' apply bb)<;>first | rfl | trivial) (by (simp only[cG,bG,or_true,true_or,an,bR (show ¬(out.length+mo.length)=0 by omega),iZ hq,hql])<;>(repeat' apply bb)<;>first | exact .inr rfl | exact .inl rfl | trivial)),r',mo,out++mo,fu-1,⟨hrn2,hme.2⟩,hgo,hsz2,rfl,rfl⟩
def Ep(l1 l2 l3 l4 l5 l6:Int):List SV:=[aa l1,aa l2,aa l3,aa l4,aa l5,aa l6]
def Wr(a b x y:List SV)(off:Nat)(h:off=a.length):((a++(x++(y++b))).drop (off+x.length)).take y.length=y:=by
 subst h;rw[cp,show a.length+x.length-a.length=x.length by omega,bx gt,nil_append,cp,dl,bx (bc _),nil_append,drop_zero,ca (bc _),bo (bc _)]
def WR(a b x y z:List SV)(off:Nat)(h:off=a.length)(hz:z.length=y.length):(a++(x++(y++b))).take (off+x.length)++(z++(a++(x++(y++b))).drop (off+x.length+z.length))=a++(x++(z++b)):=by
 subst h
 rw[List.take_append,show a.length+x.length-a.length=x.length by omega,bo gt,ca (bc _),bo (bc _),
  cp,bx gt,nil_append,show a.length+x.length+z.length-a.length=x.length+z.length by omega,cp,bx gt,nil_append,show x.length+z.length-x.length=y.length by omega,cp,bx (bc _),nil_append,dl,drop_zero]
 simp
def R7(l1 l2 l3 l4 l5 l6:Int)(u:jj)(d1 d2:Int):List SV:=Ep (fq iE l1 l2 u.u1 u.u2).1 (fq iE l1 l2 u.u1 u.u2).2 (fq iE l3 l4 u.u3 u.u4).1 (fq iE l3 l4 u.u3 u.u4).2 (fq iE l5 l6 d1 d2).1 (fq iE l5 l6 d1 d2).2
def Hn(a b:List SV)(l1 l2 l3 l4 l5 l6:Int)(u:jj)(d1 d2:Int)(hg:cg (a++(Ep l1 l2 l3 l4 l5 l6++b))=true):SC prog 45 [.ptr 0 a.length,.ag (eG u),mD d1 d2] [.cells (a++(Ep l1 l2 l3 l4 l5 l6++b))] []
 (λr S'=>r=.bB []/\S'=[.cells (a++(R7 l1 l2 l3 l4 l5 l6 u d1 d2++b))]):=by
 refine Oo 35 Tryz.func45 ?_;have hp1:=rM l1 l2 u.u1 u.u2;have hp2:=rM l3 l4 u.u3 u.u4;have hp3:=rM l5 l6 d1 d2;unfold R7;generalize fq iE l1 l2 u.u1 u.u2=q1 at hp1 ⊢;generalize fq iE l3 l4 u.u3 u.u4=q2 at hp2 ⊢;generalize fq iE l5 l6 d1 d2=q3 at hp3 ⊢;obtain⟨cs,hcs⟩:∃cs,cs=a++(Ep l1 l2 l3 l4 l5 l6++b):=⟨_,rfl⟩;rw[<-hcs] at hg ⊢;have hk:∀o:Nat,cs.map (aW o)=cs:=λo=>bL hg
 have hl:cs.length=a.length+(6+b.length):=by rw[hcs,li,li];rfl
 have g1:(cs.drop a.length).take 2=[aa l1,aa l2]:=by rw[hcs];exact Wr a (aa l3::aa l4::aa l5::aa l6::b) [] [aa l1,aa l2] a.length rfl
 have g2:(cs.drop (a.length+2)).take 2=[aa l3,aa l4]:=by rw[hcs];exact Wr a (aa l5::aa l6::b) [aa l1,aa l2] [aa l3,aa l4] a.length rfl
 have g3:(cs.drop (a.length+4)).take 2=[aa l5,aa l6]:=by rw[hcs];exact Wr a b [aa l1,aa l2,aa l3,aa l4] [aa l5,aa l6] a.length rfl
 obtain⟨c1,hc1⟩:∃c1,c1=cs.take a.length++(aa q1.1::aa q1.2::cs.drop (a.length+2)):=⟨_,rfl⟩
 have e1:c1=a++([aa q1.1,aa q1.2]++([aa l3,aa l4,aa l5,aa l6]++b)):=by rw[hc1,hcs];exact WR a (aa l3::aa l4::aa l5::aa l6::b) [] [aa l1,aa l2] [aa q1.1,aa q1.2] a.length rfl rfl
 obtain⟨c2,hc2⟩:∃c2,c2=c1.take (a.length+2)++(aa q2.1::aa q2.2::c1.drop (a.length+2+2)):=⟨_,rfl⟩
 have e2:c2=a++([aa q1.1,aa q1.2]++([aa q2.1,aa q2.2]++([aa l5,aa l6]++b))):=by rw[hc2,e1];exact WR a (aa l5::aa l6::b) [aa q1.1,aa q1.2] [aa l3,aa l4] [aa q2.1,aa q2.2] a.length rfl rfl
 obtain⟨c3,hc3⟩:∃c3,c3=c2.take (a.length+4)++(aa q3.1::aa q3.2::c2.drop (a.length+4+2)):=⟨_,rfl⟩
 have e3:c3=a++(Ep q1.1 q1.2 q2.1 q2.2 q3.1 q3.2++b):=by rw[hc3,e2];exact WR a b [aa q1.1,aa q1.2,aa q2.1,aa q2.2] [aa l5,aa l6] [aa q3.1,aa q3.2] a.length rfl rfl
 have hl1:c1.length=a.length+(6+b.length):=by rw[e1];simp;omega
 have hl2:c2.length=a.length+(6+b.length):=by rw[e2];simp;omega
 rw[<-e3];refine(aA (cA @eG.eq_1 @mD.eq_1 hk)) ?_;refine aD.post ?_;refine(zs) ?_;refine uW [0,0,0,0,8,24,56,0,128,504,0,1024,3072,7168,0,16384,65528,0,131072,393216,917504,0,4194296,8388601,16777209,33554425,67108859,134217723,268435451,536870911,1073741823,2147483647] ?_;refine(tT (jB hl (show a.length+2<=a.length+(6+b.length) by omega) g1 @b5)) ?_;refine SD.k ge rfl rfl ge rfl rfl (Nb @mD.eq_1) (hp1) (zw) rfl ?_;refine(tT (ik hl @g7 (show a.length+4<=a.length+(6+b.length) by omega) g2 @b5)) ?_;refine SD.k ge rfl rfl ge rfl rfl (Nb @mD.eq_1) (hp2) (zw) rfl ?_;refine(tT (ik hl @g7 (show a.length+6<=a.length+(6+b.length) by omega) g3 @b5)) ?_;refine SD.k ge rfl rfl ge rfl rfl (Nb @mD.eq_1) (hp3) (zw) rfl ?_;refine(tT @b5) ?_;refine SD.e ge rfl ge rfl rfl ge (fF (sa @pU.eq_1 @mD.eq_1 hl @b5 (show a.length+2<=a.length+(6+b.length) by omega) (Eq.symm hc1))) ?_;refine(tT @b5) ?_;refine SD.e ge rfl ge rfl rfl ge (fF (ik @pU.eq_1 @mD.eq_1 hl1 (show a.length+2+2<=a.length+(6+b.length) by omega) (Eq.symm hc2))) ?_;refine(tT @b5) ?_;refine SD.e ge rfl ge rfl rfl ge (fF (ik @pU.eq_1 @mD.eq_1 hl2 (show a.length+4+2<=a.length+(6+b.length) by omega) (Eq.symm hc3))) ?_;refine(zM) ?_;refine⟨⟨[(1000000,.ptr 0 0)],35,[.cells c3],[]⟩,(bK @lT.eq_1),?_⟩;exact zP []
def pk(e:bj):jj:=⟨e.u1,e.u2,e.u3,e.u4,e.u5,e.u6⟩
def u7(u:jj)(d:Int×Int)(p:ai):ai:={ p with l1:=(fq iE p.l1 p.l2 u.u1 u.u2).1,l2:=(fq iE p.l1 p.l2 u.u1 u.u2).2,l3:=(fq iE p.l3 p.l4 u.u3 u.u4).1,l4:=(fq iE p.l3 p.l4 u.u3 u.u4).2,l5:=(fq iE p.l5 p.l6 d.1 d.2).1,l6:=(fq iE p.l5 p.l6 d.1 d.2).2 }
def sT(dmg:aX)(ins:List (List Nat))(e:bj)(p:ai):ai:=if ins.contains p.name=true then u7 (pk e) (ng dmg (pk e)) p else p
def nz(dmg:aX)(ps:List ai)(e:bj):List ai:=ps.map (sT dmg (iC ps e.part++[e.part]) e)
def qD(c:List aF)(dmg:aX):Nat->List bj->List ai->List ai×Int×Int
 | _,[],s=>(s,-1,0)
 | i,e::r,s=>if (aK c s e).2=0 then (if e.op=4 then qD c dmg (i+1) r (nz dmg (aK c s e).1 e) else qD c dmg (i+1) r (aK c s e).1) else ([],(i:Int),(aK c s e).2)
def gA(day:Int)(e:bj):Bool:=decide (day<e.day)
def runN(c:List aF)(dmg:aX)(l:List bj)(day:Int):List ai×Int×Int:=if (j9 c&&eb dmg)=true then qD c dmg 0 (cL (fK (gA day) l)) [] else ([],-1,1)
def To(r:List ai×Int×Int):SV:=.bB [.ag [an 14 r.1 ak],aa r.2.1,aa r.2.2]
def iJ.YF{p:ai}(h:iJ p)(u:jj)(d:Int×Int):iJ (u7 u d p):=⟨h.name,h.kind,h.aO,h.slot,h.len,h.prop⟩
variable{x:ai}
def Jv{l:List ai}{p:ai}(h:p∈bY l x):p=x\/p∈l:=by
 unfold bY at h;split at h
 ·rcases d8 h with h | h
  ·exact .inr h
  ·exact .inl h
 ·rcases mem_append.1 h with h | h
  ·exact .inr (e6 h)
  ·rcases rt h with h | h
   ·exact .inl h
   ·exact .inr (e5 h)
def yU{l:List bN}{x p:bN}(h:p∈iF l x):p=x\/p∈l:=by
 unfold iF at h;split at h
 ·rcases d8 h with h | h
  ·exact .inr h
  ·exact .inl h
 ·rcases mem_append.1 h with h | h
  ·exact .inr (e6 h)
  ·rcases rt h with h | h
   ·exact .inl h
   ·exact .inr (e5 h)
def Ju(l:List ai)(x:ai):(bY l x).length<=l.length+1:=by
 unfold bY;split
 ·rw[gb];omega
 ·rw[li,i7,bk,f6];omega
def LX{l:List ai}:bY l x≠[]:=by
 unfold bY;split
 ·rename_i h;intro e;have e2:=n9 g6 e;rw[gb] at e2;have e3:l=[]:=rx e2;subst e3;simp[iu] at h
 ·simp
def vA:kr []:=⟨dc _,λb hb=>by cases hb⟩
def Ll(c:List aF)(ps:List ai)(e:bj)(hps:∀p∈ps,iJ p)(he:rY e):(∃p,aK c ps e=(bY ps p,0)/\iJ p)\/∃k,aK c ps e=([],k)/\k≠0:=by
 have hget:∀name p,re ps (oH 0 [] ps) name=some p->iJ p:=by
  intro name p h;unfold re at h;split at h
  ·exact hps p (aS h)
  ·cases h
 unfold aK;split
 ·split
  ·split
   ·unfold vN;split
    ·exact .inr ⟨3,rfl,by decide⟩
    ·split
     ·exact .inr ⟨4,rfl,by decide⟩
     ·split
      ·exact .inr ⟨7,rfl,by decide⟩
      ·exact .inl ⟨_,rfl,⟨he.part,he.kind,vA,vA,by simp[nw],λx hx=>by simp[nw] at hx⟩⟩
   ·split
    ·rename_i p h hp hh;have hpo:=hget _ _ hp;split
     ·exact .inr ⟨5,rfl,by decide⟩
     ·unfold gl;simp only
      repeat' split
      all_goals first
       | exact .inr ⟨_,rfl,by decide⟩
       | exact .inl ⟨p,rfl,hpo⟩
       | exact .inl ⟨_,rfl,⟨hpo.name,hpo.kind,he.aO,he.slot,hpo.len,hpo.prop⟩⟩
       | exact .inl ⟨_,rfl,⟨hpo.name,hpo.kind,vA,vA,hpo.len,hpo.prop⟩⟩
       | exact .inl ⟨_,rfl,⟨hpo.name,hpo.kind,hpo.aO,hpo.slot,hpo.len,hpo.prop⟩⟩
       | (
        refine .inl ⟨_,rfl,⟨hpo.name,hpo.kind,hpo.aO,hpo.slot,?_,?_⟩⟩
        ·rename_i hle;show(iF p.props ⟨e.key,e.value⟩).length<=_;omega
        ·intro x hx
         rcases yU hx with rfl | hx
         ·exact⟨he.key,he.value⟩
         ·exact hpo.prop x hx)
    ·exact .inr ⟨2,rfl,by decide⟩
  ·exact .inr ⟨1,rfl,by decide⟩
 ·exact .inr ⟨1,rfl,by decide⟩
variable{e:bj}
def xM(hps:∀p∈ps,iJ p)(he:rY e):(∀p∈(aK c ps e).1,iJ p)/\(aK c ps e).1.length<=ps.length+1/\((aK c ps e).2=0->(aK c ps e).1≠[])/\((aK c ps e).2≠0->(aK c ps e).1=[]):=by
 rcases Ll c ps e hps he with⟨p,h,hp⟩ | ⟨k,h,hk⟩
 ·rw[h];refine⟨λq hq=>?_,Ju _ _,λ_=>LX,λh=>t7 rfl h⟩
  rcases Jv hq with rfl | hq
  ·exact hp
  ·exact hps q hq
 ·rw[h];exact⟨λq hq=>by simp at hq,dc _,λh=>t7 h hk,λ_=>rfl⟩
variable{dmg:aX}
def Oz(hps:∀p∈ps,iJ p):(∀p∈nz dmg ps e,iJ p)/\(nz dmg ps e).length=ps.length:=by
 refine⟨λp hp=>?_,ay _⟩;obtain⟨q,hq,rfl⟩:=mem_map.1 hp;unfold sT;split
 ·exact(hps q hq).YF _ _
 ·exact hps q hq
def zu(e:bj)(day:Int):PC prog 38 [.ag (aE e),.ip [aa day]] (·=au (gA day e)):=by
 refine pB 8 Tryz.func38 ?_;exact(aA @aE.eq_1)<|(zV)<|zo [.tmp 3]
def jK(B:Nat)(l:List (List Nat)):lG B (fU l)=true:=by
 unfold fU;split
 ·rfl
 ·rw[lG];exact bH (aB (λ_=>rfl) l)
def kQ(B e n:Nat):dT (B+1) (bn 0 e n)=true:=by
 unfold bn;split
 ·exact gx rfl
 ·rw[dT];exact ut (Nat.succ_pos B)
def RQ:∀(n:Nat) (r:iK) (ls:List (List Nat)),(cm n r ls).length<=r.length
 | 0,_,_=>dc _
 | n+1,r,ls=>by
  rw[cm];split
  ·exact dc _
  ·rw[li,ay];have h1:=RQ n (r.filter λe=>!ls.contains e.2) ((r.filter λe=>ls.contains e.2).map (·.1));have h2:=Ci (λe:List Nat×List Nat=>ls.contains e.2) r;omega
def Lr(ps:List ai)(part:List Nat):(iC ps part).length<=ps.length:=by
 unfold iC;split
 ·have h1:(dZ (cm (ps.length+2) (Jz ps part) [part])).length=(cm (ps.length+2) (Jz ps part) [part]).length:=(qG _).length_eq;rw[h1];refine cd (RQ _ _ _) (cd Bm (cd (ck _ _) ?_));have:=FE ps 0 [];simpa using this
 ·exact dc _
def GO(l:List bj)(d:bj->Bool):(cL (fK d l)).length<=l.length:=by
 rw[cL,vF];exact bi _ _
def Oq{l:List bj}{d:bj->Bool}(h:e∈cL (fK d l)):e∈l:=(mem_filter.1 ((xT _ _).mem_iff.1 h)).1
abbrev eT(e:bj):List SV:=[ab e.part,ab e.kind,ab e.aO,ab e.slot,ab e.key,ab e.value,aa e.u1,aa e.u2,aa e.u3,aa e.u4,aa e.u5,aa e.u6]
abbrev eA(e:bj):List SV:=[aa e.op,aa e.day,ab e.part,ab e.kind,ab e.aO,ab e.slot,ab e.key,ab e.value,aa e.u1,aa e.u2,aa e.u3,aa e.u4,aa e.u5,aa e.u6]
abbrev wE(c:List aF)(dmg:aX)(e:bj)(ev:List bj)(k:Nat):Fm:=[(3,.ip (an 3 c ao::aC dmg)),(6,.ptr 0 0),(10,.ptr 1 0),(12,.ip (eA e)),(34,an 14 ev aE),(35,aa ev.length),(36,aa k)]
abbrev wF(c:List aF)(dmg:aX)(e:bj)(ev:List bj)(k:Nat)(I:List (List Nat))(d:Int×Int)(n k2:Nat):Fm:=[(3,.ip (an 3 c ao::aC dmg)),(6,.ptr 0 0),(10,.ptr 1 0),(12,.ip (eA e)),(15,an 1 I (aw ab)),(16,.ip [aa d.1,aa d.2]),(34,an 14 ev aE),(35,aa ev.length),(36,aa k),(77,aa n),(78,aa k2)]
def uQ(c:List aF)(dmg:aX)(l:List bj)(day:Int)(hc:kq c)(hf:iy dmg)(hlen:l.length<20)(hl:∀e∈l,rY e):PC prog 16 [.ag (an 3 c ao::aC dmg),an 14 l aE,aa day] (·=To (runN c dmg l day)):=by
 have hfl:(aC dmg).length=3:=fi dmg;have hft:(aC dmg).take 3=aC dmg:=bo (by rw[hfl];exact bc _);have hfk:=λo:Nat=>bL (o:=o) (aL dmg);have hfn:=λo:Nat=>dX (o:=o) (aL dmg);refine pB 101 Tryz.func16 ?_;refine(aA (br hfk hfn)) ?_;refine zZ [(1,an 14 l aE),(3,.ip (an 3 c ao::aC dmg)),(5,.ptr 1 0),(6,.ptr 2 0),(7,aa 0),(8,aa 0)] 0 rfl ⟨.inl rfl,.inr (.ptr rfl (cS.refl (aL dmg)) (dc _)),zj⟩ ?_
 (try change aD _ _ _ _ _)
 refine(zC)<|(zK (ph c hc)) ?_
 cases h1:j9 c
 ·refine(zR)<|(cN)<|(zE) ?_;exact zO [.cell 6 78,.tmp 7,.tmp 8] (r:=.bB [.ag [.sl 0 14 []],aa (-1),aa 1]) (hw:=zv) (hq:=by (try simp only[dA,aY]);first | done | (rw[show runN c dmg l day=([],-1,1) by simp[runN,h1]];rfl))
 refine(Wh (br hfl hft))<|(zK (sR dmg hf) (hwk:=cS.cons (.ag (cS.refl (aL dmg))) .nil)) ?_
 cases h2:Proofs.eb dmg
 ·refine(zR)<|(cN)<|(zE) ?_;exact zO [.cell 6 78,.tmp 7,.tmp 8] (r:=.bB [.ag [.sl 0 14 []],aa (-1),aa 1]) (hw:=zv) (hq:=by (try simp only[dA,aY]);first | done | (rw[show runN c dmg l day=([],-1,1) by simp[runN,h1,h2]];rfl))
 refine(zR)<|(zN) ?_
 have hN:runN c dmg l day=qD c dmg 0 (cL (fK (gA day) l)) []:=by rw[runN,h1,h2];rfl
 refine zA [(1,an 14 l aE),(3,.ip (an 3 c ao::aC dmg)),(5,.ptr 1 0),(6,.ptr 2 0)] [.gone,.cells [aa day],.cells [.a (.slice none 0 0 (some 0))]] zH ?_;clear h1 h2;obtain⟨kp,hkp⟩:∃kp,kp=fK (gA day) l:=⟨_,rfl⟩
 have hkl:kp.length<=l.length:=by rw[hkp];exact RX _ _
 rw[<-hkp] at hN
 (repeat refine aD.seq ?_)
 refine aD.mono (Q:=λe st=>e=.normal/\Fg st ⟨[(3,.ip (an 3 c ao::aC dmg)),(6,.ptr 0 0),(9,an 14 kp aE)],101,[.cells [.a (.slice none 0 0 (some 0))]],[]⟩) ?_ ?_
 ·by_cases hne:l=[]
  ·subst hne;have hk0:kp=[]:=hkp;subst hk0;refine(zC) ?_;refine zS [] (br hfk hfn) Dw ?_;refine(zQ) ?_;refine zS [1] (br hfk hfn) (Mi 38 [aa day] rfl (gA day) (λx=>zu x day)) ?_;refine(zR) ?_;refine⟨rfl,?_⟩;refine Fg.trans (b:=⟨[(3,.ip (an 3 c ao::aC dmg)),(6,.ptr 2 0),(9,an 14 [] aE)],101,[.gone,.gone,.cells [.a (.slice none 0 0 (some 0))]],[]⟩) ?_ (Fg.rn (f':=[(3,.ip (an 3 c ao::aC dmg)),(6,.ptr 0 0),(9,an 14 [] aE)]) (n:=101) (S':=[.cells [.a (.slice none 0 0 (some 0))]]) [2] gc rfl (by (simp only[su,gh,bG,an,bg (aL dmg)])<;>(repeat' apply bb)<;>first | trivial | exact .inl rfl | exact .inr rfl | exact .inr trivial | exact .inl trivial) (by (simp only[cG,gh,bG,an,bg (aL dmg)])<;>(repeat' apply bb)<;>first | rfl | trivial));exact Fg.trans (Fg.wk (f':=[(3,.ip (an 3 c ao::aC dmg)),(6,.ptr 2 0),(9,an 14 [] aE)]) ⟨.inl rfl,.inl rfl,.inr (.YB 14),trivial⟩) zH
  ·have hne0:¬l.length=0:=λh=>hne (rx h);have hrq:∀(r:Nat->Nat) (q:List bj),me r (q.flatMap aE)=q.flatMap aE:=λr q=>bg (aB dF q);have hbq:∀(B:Nat) (q:List bj),ia B (q.flatMap aE)=true:=λB q=>bH (aB dF q);have hkq:=bf dF;have hdel:=Mj 38 [aa day] rfl (gA day) (λx=>zu x day) l gt;rw[<-hkp] at hdel;obtain⟨q,hq⟩:∃q,q=kp++ci (l.length-kp.length) bj.zero:=⟨_,rfl⟩
   have hqt:(q.flatMap aE).take (kp.length*14)=kp.flatMap aE:=by
    rw[ke ea,hq,ca (bc _),bo (bc _)]
   have hql:(q.flatMap aE).length=l.length*14:=by rw[aM ea,hq,li,List.length_replicate];congr 1;omega
   rw[<-hq] at hdel;refine(zC) ?_;refine zS [] (ik hfk hfn hrq hbq hkq) (Dx l gt hne) ?_;refine(zQ) ?_;refine zS [4,1] (ik hfk hfn hrq hbq hkq) hdel ?_;refine(zR) ?_;refine⟨rfl,?_⟩;refine Fg.trans (b:=⟨[(3,.ip (an 3 c ao::aC dmg)),(6,.ptr 2 0),(9,an 14 kp aE)],101,[.gone,.gone,.cells [.a (.slice none 0 0 (some 0))]],[]⟩) ?_ (Fg.rn (f':=[(3,.ip (an 3 c ao::aC dmg)),(6,.ptr 0 0),(9,an 14 kp aE)]) (n:=101) (S':=[.cells [.a (.slice none 0 0 (some 0))]]) [2] gc rfl (by (simp only[su,gh,bG,an,bg (aL dmg)])<;>(repeat' apply bb)<;>first | trivial | exact .inl rfl | exact .inr rfl | exact .inr trivial | exact .inl trivial) (by (simp only[cG,gh,bG,an,bg (aL dmg)])<;>(repeat' apply bb)<;>first | rfl | trivial));exact Fg.trans (Fg.freeze (f':=[(3,.ip (an 3 c ao::aC dmg)),(6,.ptr 2 0),(9,an 14 kp aE)]) 4 rfl f7 ⟨.inl rfl,.inl rfl,.inr (.buf rfl (by rw[hqt];exact cS.refl (aB dF _)) (by rw[hql];exact Nat.mul_le_mul_right 14 hkl)),trivial⟩) zH
 rintro e st ⟨rfl,hfg⟩;refine aD.fg hfg ?_;clear hfg
 (try change aD _ _ _ _ _)
 have hkm:∀e∈cL kp,rY e:=λe he=>hl e (by rw[hkp] at he;exact Oq he)
 have hsl:(cL kp).length<20:=by have:=GO l (gA day);rw[<-hkp] at this;omega
 refine(lJ)<|(zK (Kt kp gt) (hfl:=.inr (cS.refl (by rw[cg,an,ni,cg];rfl)))) ?_
 generalize cL kp=ev at hN hkm hsl;refine(zR) ?_
 have hlen1:ev.length<=1000000:=by omega
 refine zA [(3,.ip (an 3 c ao::aC dmg)),(6,.ptr 0 0),(10,.ptr 1 0),(34,an 14 ev aE),(35,aa ev.length),(36,aa 0)] [.cells [.a (.slice none 0 0 (some 0))],.cells [.a (.slice none 0 0 (some 0))]] zH ?_;refine aD.fg (Fg.Zv (S':=[.cells [.a (.slice none 0 0 (some 0))],.cells [an 14 ([]:List ai) ak]]) ⟨.inr ⟨by decide,.inl rfl⟩,.inr ⟨by decide,.inr ⟨_,_,rfl,rfl,.cons (.nil _) .nil⟩⟩,trivial⟩) ?_
 (try change aD _ _ _ _ _)
 refine(zs) ?_;refine QB ev (λk (ps:List ai)=>(qD c dmg 0 ev []=qD c dmg k (ev.drop k) ps/\(∀p∈ps,iJ p)/\ps.length<=k)) (λk ps=>[(3,.ip (an 3 c ao::aC dmg)),(6,.ptr 0 0),(10,.ptr 1 0),(34,an 14 ev aE),(35,aa ev.length),(36,aa k)]) (λk ps=>[.cells [.a (.slice none 0 0 (some 0))],.cells [an 14 ps ak]]) ([]) zH (by exact⟨rfl,(λp hp=>by cases hp),bc _⟩) ?_;intro k ps hk hall;refine zT ev k ?_ ?_;rintro rfl;rotate_left;intro e hx hlt;rotate_left
 ·refine(fC) ?_;obtain⟨hr,_,_⟩:=hall;rw[ex] at hr
  refine(zV)<|(zE) ?_;exact zO [.cell 6 78,.tmp 7,.tmp 8] (r:=.bB [.ag [an 14 ps ak],aa (-1),aa 0]) (hw:=zv) (hq:=by (try simp only[dA,aY]);first | done | (rw[hN,hr];rfl))
 obtain⟨hr,hps,hpl⟩:=hall;rw[gm hx] at hr;have heo:=hkm e (aS hx);have hap:=CJ c ps e hc gt hps heo;obtain⟨q1,q2,q3,q4⟩:=xM (c:=c) hps heo
 have hr2:qD c dmg k (e::ev.drop (k+1)) ps=if (aK c ps e).2=0 then (if e.op=4 then qD c dmg (k+1) (ev.drop (k+1)) (nz dmg (aK c ps e).1 e) else qD c dmg (k+1) (ev.drop (k+1)) (aK c ps e).1) else ([],(k:Int),(aK c ps e).2):=rfl
 rw[hr2] at hr;clear hr2;obtain⟨nx,er,hne⟩:∃nx er,aK c ps e=(nx,er):=⟨_,_,rfl⟩;rw[hne] at hap q1 q2 q3 q4 hr;simp only at q1 q2 q3 q4 hr;rw[ew] at hap
 refine(gJ)<|(aA (cA hlt (aH (e:=14) (enc:=aE) ce hx) @ew)) ?_;refine zZ [(3,.ip (an 3 c ao::aC dmg)),(6,.ptr 0 0),(10,.ptr 1 0),(11,aa k),(12,.ip (eA e)),(34,an 14 ev aE),(35,aa ev.length),(36,aa k)] 2 rfl (tK @an.eq_1) ?_
 (try change aD _ _ _ _ _)
 refine(zC)<|(zK hap (hfl:=.inr zr))<|(cO @lM.eq_1) ?_
 by_cases herr:er=0;rotate_left
 ·rw[ul herr] at hr;have hnil:=q4 herr
  refine(aA (un herr))<|(cN)<|(zE) ?_;exact zO [.cell 6 78,.tmp 7,.tmp 8] (r:=.bB [.ag [.sl 0 14 []],aa k,aa er]) (hw:=zv) (hq:=by (try simp only[dA,aY]);first | done | (rw[hN,hr];rfl))
 rw[t8 herr] at hr;subst herr
 refine(KS)<|(zV) ?_
 by_cases hop:e.op=4;rotate_left
 ·rw[ul hop] at hr
  refine(aA (un hop))<|(zY) ?_;refine aD.exit ?_
  (try change aD _ _ _ _ _)
  refine(aA (zi hlt hlen1)) ?_;refine Fv hlt (nx) zH (⟨hr,q1,by omega⟩)
 rw[t8 hop] at hr
 refine(aA (ut hop))<|(zN)<|zA (wE c dmg e ev k) [.cells [.a (.slice none 0 0 (some 0))],.cells [an 14 nx ak]] zH ?_
 obtain⟨ins,hins⟩:∃ins,ins=iC nx e.part:=⟨_,rfl⟩
 have hinl:ins.length<=100000:=by rw[hins];exact cd (Lr nx e.part) gt
 (repeat refine aD.seq ?_)
 refine aD.y9 7 12 (λL=>⟨(58,vo L 0 (.ag [an 14 nx ak]))::(59,vo L 1 (.ip (eT e)))::(60,vo L 2 (ab e.part))::(61,vo L 3 (bn 2 1 ins.length))::(62,vo L 4 (.ip (eT e)))::(63,vo L 5 (ab e.part))::(64,vo L 6 (.buf 3 1 1 (some 1)))::wE c dmg e ev k,101,[.cells [.a (.slice none 0 0 (some 0))],.cells [an 14 nx ak],wo L 3 (fU ins),wo L 6 (.cells [ab e.part])],[]⟩) rfl zW ge gc zW (bK (br @nC @OB)) (λL=>rfl) ?_ ?_
 ·rintro L i o him hC hr
  rcases i with _ | _ | _ | _ | _ | _ | _ | i
  rotate_right
  ·exact t7 him gt
  ·cases hr.gw;refine(zR) ?_;exact(bK (br @aT @fX))
  ·cases hr.gw;refine(zR) ?_;exact(bK (br @aT @fX))
  ·cases hr.gw;have d1:L 1:=hr.dep ⟨1,.data⟩ f5 rfl;refine(cO (ee d1)) ?_;exact(bK (cA @aT @fX (ee d1)))
  ·cases hr.gw;have d0:L 0:=hr.dep ⟨0,.data⟩ f5 rfl;have d2:L 2:=hr.dep ⟨2,.data⟩ f5 rfl;have hn3:¬L 3:=hr.new;have hin:=Kb nx e.part gt;rw[<-hins] at hin;refine aJ.sk [] ge rfl rfl ge rfl (Nb (br (ee d0) (ee d2))) (hin) (by simp only[gh,bG,an,↓reduceIte,af,aV,bX,bd,ax,ba,dC d0,dC d2,↓lj,cq,hfk,hfn,cC (show 2≠4 by decide),gz,eK,fE,kQ,jK,iA hn3];first | done | rfl) rfl gc (by simp only[BK,gh,bG,an,dC d0,dC d2,↓lj,cq,hfk,hfn,cC (show 2≠4 by decide),gz,eK,fE,kQ,jK,iA hn3]<;>(repeat' apply bb)<;>first | trivial | rfl | (intro hh;cases hh)) (by simp only[GZ,gh,bG,an,aV,ba,decide_true,dC d0,dC d2,↓lj,cq,hfk,hfn,cC (show 2≠4 by decide),gz,eK,fE,kQ,jK,iA hn3];first | done | rfl) (by simp only[GZ,gh,bG,an,aV,ba,decide_true,dC d0,dC d2,↓lj,cq,hfk,hfn,cC (show 2≠4 by decide),gz,eK,fE,kQ,jK,iA hn3];first | done | rfl) (by simp only[gh,bG,an,↓reduceIte,af,aV,bX,bd,ax,ba,dC d0,dC d2,↓lj,cq,hfk,hfn,cC (show 2≠4 by decide),gz,eK,fE,kQ,jK,iA hn3];first | done | rfl) (by simp only[gh,bG,an,↓reduceIte,af,aV,bX,bd,ax,ba,dC d0,dC d2,↓lj,cq,hfk,hfn,cC (show 2≠4 by decide),gz,eK,fE,kQ,jK,iA hn3,eg,eC,cx,aW,cG];first | done | rfl) (by simp only[gh,bG,an,↓reduceIte,af,aV,bX,bd,ax,ba,dC d0,dC d2,↓lj,cq,hfk,hfn,cC (show 2≠4 by decide),gz,eK,fE,kQ,jK,iA hn3,eg,eC,cx,aW,cG];first | done | rfl) ?_;refine .nil ?_;exact((Fg.rn (f':=(58,(.ag [an 14 nx ak]))::(59,vo L 1 (.ip (eT e)))::(60,(ab e.part))::(61,(bn 2 1 ins.length))::(62,vo L 4 (.ip (eT e)))::(63,vo L 5 (ab e.part))::(64,vo L 6 (.buf 3 1 1 (some 1)))::wE c dmg e ev k) (n:=101) (S':=[.cells [.a (.slice none 0 0 (some 0))],.cells [an 14 nx ak],fU ins,wo L 6 (.cells [ab e.part])]) [0,1,4,3] gc rfl (by (simp only[su,gh,bG,an,tX,tY,fE,eK,bg (aL dmg),cq,cC (show 2≠4 by decide)])<;>(repeat' apply bb)<;>first | trivial | exact .inl rfl | exact .inr rfl | exact .inr trivial | exact .inl trivial) (by (simp only[cG,gh,bG,an,tX,tY,fE,eK,bg (aL dmg),cq,cC (show 2≠4 by decide)])<;>(repeat' apply bb)<;>first | rfl | trivial))).trans (bK (jB @aT @fX (ee d0) (ee d2)))
  ·cases hr.gw;refine(zR) ?_;exact(bK (br @aT @fX))
  ·cases hr.gw;have d4:L 4:=hr.dep ⟨4,.data⟩ f5 rfl;refine(cO (ee d4)) ?_;exact(bK (cA @aT @fX (ee d4)))
  ·cases hr.gw;have d5:L 5:=hr.dep ⟨5,.data⟩ f5 rfl;have hn6:¬L 6:=hr.new;refine aJ.r0 ge (by simp only[cG,bG,an,az,m7,m6,↓reduceIte,af,aV,bd,ax,ba,ah,ar,bD,dC d5,↓lj,cq,hfk,hfn,cC (show 2≠4 by decide),gz,iA hn6];first | done | rfl) ?_;exact((Fg.rn (f':=(58,vo L 0 (.ag [an 14 nx ak]))::(59,vo L 1 (.ip (eT e)))::(60,vo L 2 (ab e.part))::(61,vo L 3 (bn 2 1 ins.length))::(62,vo L 4 (.ip (eT e)))::(63,(ab e.part))::(64,(.buf 3 1 1 (some 1)))::wE c dmg e ev k) (n:=101) (S':=[.cells [.a (.slice none 0 0 (some 0))],.cells [an 14 nx ak],wo L 3 (fU ins),.cells [ab e.part]]) [0,1,2,4] gc rfl (by (simp only[su,gh,bG,an,tX,tY,fE,eK,bg (aL dmg),cq,cC (show 2≠4 by decide)])<;>(repeat' apply bb)<;>first | trivial | exact .inl rfl | exact .inr rfl | exact .inr trivial | exact .inl trivial) (by (simp only[cG,gh,bG,an,tX,tY,fE,eK,bg (aL dmg),cq,cC (show 2≠4 by decide)])<;>(repeat' apply bb)<;>first | rfl | trivial))).trans (bK (cA @aT @fX (ee d5)))
 change aJ _ _ _ _ _ _;refine aJ.mono (K:=λx=>Fg x ⟨(65,.buf 2 (ins.length+1) 1 none)::wE c dmg e ev k,101,[.cells [.a (.slice none 0 0 (some 0))],.cells [an 14 nx ak],.cells ((ins++[e.part]).flatMap (aw ab))],[]⟩) ?_ λx hx=>?_
 ·have v7:∀i,i<7->∀v:SV,vo (λj=>j<7) i v=v:=λi h v=>dC h;have w7:∀i,i<7->∀v:SO,wo (λj=>j<7) i v=v:=λi h v=>mY h;have a3:=v7 3 gc;have a6:=v7 6 gc;have b3:=w7 3 gc;have b6:=w7 6 gc;have happ:=eV (enc:=aw ab) (e:=1) ce (λ_=>rfl) 2 ins e.part;rw[show aw ab e.part=[ab e.part] from rfl,cn] at happ;have hcl:=aM (enc:=aw ab) (e:=1) ce ins;by_cases hi0:ins=[]
  ·subst hi0;refine(cO (O0 a3 a6 b3 b6 @fv @g9.{0} @lx hfk hfn @cq)) ?_;exact((Fg.rn (f':=(65,.buf 2 1 1 none)::wE c dmg e ev k) (n:=101) (S':=[.cells [.a (.slice none 0 0 (some 0))],.cells [an 14 nx ak],.cells [ab e.part]]) [0,1,4] gc rfl (by (simp only[su,gh,bG,an,bg (aL dmg)])<;>(repeat' apply bb)<;>first | trivial | exact .inl rfl | exact .inr rfl | exact .inr trivial | exact .inl trivial) (by (simp only[cG,gh,bG,an,bg (aL dmg)])<;>(repeat' apply bb)<;>first | rfl | trivial))).trans (bK (ik @aw.eq_1 @nil_append.{0} @flatMap_cons.{0,0} @flatMap_nil.{0,0} @g9.{0}))
  ·have hil:¬ins.length=0:=λh=>hi0 (rx h);refine(cO (br (DX a3 a6 b3 b6 (bR (o:=2) (e:=1) hil) (iZ hi0) hfk hfn @cq) (sa (λo:Nat=>bf (enc:=aw ab) ce o ins) hcl @cn @bc (show ins.length<=1000000 by omega) happ))) ?_;exact zH
 change aJ _ _ _ _ _ _;refine aJ.fg hx ?_;refine(zR) ?_;change aD _ _ _ _ _;refine zA ((15,.buf 2 (ins.length+1) 1 none)::wE c dmg e ev k) [.cells [.a (.slice none 0 0 (some 0))],.cells [an 14 nx ak],.cells ((ins++[e.part]).flatMap (aw ab))] zH ?_;obtain⟨I,hI⟩:∃I,I=ins++[e.part]:=⟨_,rfl⟩
 have hIl:I.length=ins.length+1:=by rw[hI,li];rfl
 rw[<-hI];refine zZ [(3,.ip (an 3 c ao::aC dmg)),(6,.ptr 0 0),(10,.ptr 1 0),(12,.ip (eA e)),(15,an 1 I (aw ab)),(34,an 14 ev aE),(35,aa ev.length),(36,aa k)] 2 rfl ⟨.inl rfl,.inl rfl,.inl rfl,.inl rfl,.inr (by rw[pN 1 I (aw ab),hIl];exact .buf rfl (by rw[<-hIl,dw (enc:=aw ab) (e:=1) ce];exact cS.refl (aB (λ_=>rfl) _)) (by rw[aM (enc:=aw ab) (e:=1) ce,hIl];exact bc _)),zj⟩ ?_
 (try change aD _ _ _ _ _)
 have hd:=J3 dmg (pk e) hf;simp only[eG,pk] at hd;obtain⟨d,hdd⟩:∃d,d=ng dmg (pk e):=⟨_,rfl⟩;have hdd2:ng dmg ⟨e.u1,e.u2,e.u3,e.u4,e.u5,e.u6⟩=d:=hdd.symm;rw[hdd2] at hd
 refine(jH (br hfl hft))<|(zK hd (hwk:=cS.cons (.ag (cS.refl (aL dmg))) (.cons (.ag zr) .nil)))<|(cO (jB @pU.eq_1 @mD.eq_1 hfk hfn)) ?_
 have hnn:=q3 rfl;have hn0:0<nx.length:=co λh=>hnn (rx h);have hrq:∀(r:Nat->Nat) (q:List ai),me r (q.flatMap ak)=q.flatMap ak:=λr q=>bg (aB ef q);have hbq:∀(B:Nat) (q:List ai),ia B (q.flatMap ak)=true:=λB q=>bH (aB ef q);have hkq:=bf (enc:=ak) ef
 refine(zC) ?_;refine zS [] (ik hfk hfn hrq hbq hkq) (rU nx gt hnn) ?_;refine(zR)<|(zV)<|zA [(3,.ip (an 3 c ao::aC dmg)),(6,.ptr 0 0),(10,.ptr 1 0),(12,.ip (eA e)),(15,an 1 I (aw ab)),(16,.ptr 3 0),(34,an 14 ev aE),(35,aa ev.length),(36,aa k),(76,.buf 5 nx.length 14 none),(77,aa nx.length),(78,aa 0)] [.cells [.a (.slice none 0 0 (some 0))],.cells [.buf 5 nx.length 14 none],.gone,.cells [aa d.1,aa d.2],.gone,.cells (nx.flatMap ak)] zH ?_;refine zZ (wF c dmg e ev k I d nx.length 0) 3 rfl (tK @an.eq_1) ?_;refine zA (wF c dmg e ev k I d nx.length 0) [.cells [.a (.slice none 0 0 (some 0))],.cells [.buf 2 nx.length 14 none],.cells (nx.flatMap ak)] (Fg.rn [0,1,5] gc rfl (by (simp only[su,gh,bG,an,hrq,bg (aL dmg)])<;>(repeat' apply bb)<;>first | trivial | exact .inl rfl | exact .inr rfl | exact .inr trivial | exact .inl trivial) (by (simp only[cG,gh,bG,an,hrq,bg (aL dmg)])<;>(repeat' apply bb)<;>first | rfl | trivial)) ?_
 have hIu:nz dmg nx e=nx.map (sT dmg I e):=by unfold nz;rw[hI,hins]
 have hnl:nx.length<=1000000:=by omega
 refine(zs) ?_;refine zL nx (λk2=>True) (λk2=>(wF c dmg e ev k I d nx.length k2)) (λk2=>[.cells [.a (.slice none 0 0 (some 0))],.cells [.buf 2 nx.length 14 none],.cells ((((nx.take k2).map (sT dmg I e))++nx.drop k2).flatMap ak)]) (bK (jB @take_zero.{0} @map_nil.{0,0} @drop_zero.{0} @nil_append.{0})) zp ?_;intro k2 hk2 hall2;refine zT nx k2 ?_ ?_;rintro rfl;rotate_left;intro p hx2 hlt2;rotate_left
 ·refine(fC) ?_;rw[bt,ex,b0,<-hIu];obtain⟨r1,r2⟩:=Oz (dmg:=dmg) (e:=e) q1;generalize nz dmg nx e=ux at hr r1 r2;refine aD.fg (Fg.AL (f':=[(3,.ip (an 3 c ao::aC dmg)),(6,.ptr 0 0),(10,.ptr 1 0),(12,.ip (eA e)),(15,an 1 I (aw ab)),(34,an 14 ev aE),(35,aa ev.length),(36,aa k)]) (S':=[.cells [.a (.slice none 0 0 (some 0))],.cells [an 14 ux ak]]) 2 rfl f7 (tK @an.eq_1) ⟨.inr ⟨by decide,.inl rfl⟩,.inr ⟨by decide,.inr ⟨_,_,rfl,rfl,.cons (by rw[pN 14 ux ak,r2];exact .buf rfl (by rw[<-r2,dw (enc:=ak) (e:=14) ce];exact cS.refl (aB ef _)) (by rw[aM (enc:=ak) (e:=14) ce,r2];exact bc _)) .nil⟩⟩,trivial⟩) ?_
  (try change aD _ _ _ _ _)
  refine(aA (zi hlt hlen1)) ?_;refine Fv hlt (ux) zH (⟨hr,r1,by omega⟩)
 have hdrop:=gm hx2;obtain⟨q,hq⟩:∃q,q=(nx.take k2).map (sT dmg I e)++nx.drop k2:=⟨_,rfl⟩
 have hqx:q[k2]?=some p:=by
  rw[hq,cf (by rw[ay,bk];omega),ay,bk,dt gt,dl,hdrop];rfl
 have hql:q.length=nx.length:=by rw[hq,li,ay,bk,f6];omega
 have hqc:(q.flatMap ak).length=nx.length*14:=by rw[aM (enc:=ak) (e:=14) ce,hql]
 have hnext:((nx.take (k2+1)).map (sT dmg I e)++nx.drop (k2+1))=q.set k2 (sT dmg I e p):=by
  rw[hq,bz hx2,c4,hdrop,dk _ _ (by rw[ay,bk];omega),ay,bk,dt gt,dl,set_cons_zero,b8];rfl
 have hcell:(q.flatMap ak)[k2*14]?=some (ab p.name):=by
  have h1:((q.flatMap ak).drop (k2*14)).take 14=ak p:=aH (e:=14) (enc:=ak) ce hqx;have h2:=n9 (λl=>l[0]?) h1;simp only[fs,List.getElem?_drop,b5] at h2;exact h2
 rw[<-hq]
 refine(gJ)<|(zV)<|(jH (cA hlt2 @b5 hcell))<|(zK (l7 I p.name gt) (hwk:=cS.cons (.sl _ _ _) (.cons (.a _) .nil))) ?_
 cases hcn:I.contains p.name
 ·have hup:sT dmg I e p=p:=by unfold sT;rw[hcn];rfl
  rw[hup] at hnext
  have hset:q.set k2 p=q:=by
   apply List.ext_getElem?;intro j;by_cases hj:k2=j
   ·subst hj;rw[List.getElem?_set_self (aR hqx),hqx]
   ·rw[List.getElem?_set_ne hj]
  rw[hset] at hnext
  refine(zR)<|(zN)<|(aA (zi hlt2 hnl)) ?_;refine zX hlt2 (bK hnext) trivial
 refine(zR)<|(zY) ?_
 have hup:sT dmg I e p=u7 (pk e) d p:=by unfold sT;rw[hcn,<-hdd];rfl
 obtain⟨A,hA⟩:∃A,A=(q.take k2).flatMap ak++[ab p.name,ab p.kind,ab p.aO,ab p.slot,aa p.made,aa p.since,au p.bI,an 2 p.props aZ]:=⟨_,rfl⟩;obtain⟨B,hB⟩:∃B,B=(q.drop (k2+1)).flatMap ak:=⟨_,rfl⟩
 have hkl:k2<q.length:=by omega
 have hAl:A.length=k2*14+8:=by rw[hA,li,aM (enc:=ak) (e:=14) ce,bk,dt gt];rfl
 have hqs:q.take k2++(p::q.drop (k2+1))=q:=by rw[<-gm hqx,List.take_append_drop]
 have hsplit:q.flatMap ak=A++(Ep p.l1 p.l2 p.l3 p.l4 p.l5 p.l6++B):=by
  rw[hA,hB,b8]
  conv=>lhs;rw[<-hqs,dv,flatMap_cons]
  rfl
 have hset:(q.set k2 (u7 (pk e) d p)).flatMap ak=A++(R7 p.l1 p.l2 p.l3 p.l4 p.l5 p.l6 (pk e) d.1 d.2++B):=by
  rw[hA,hB,b8,List.set_eq_take_append_cons_drop,t8 hkl,dv,flatMap_cons];rfl
 rw[hup] at hnext;have hla:=Hn A B p.l1 p.l2 p.l3 p.l4 p.l5 p.l6 (pk e) d.1 d.2 (by rw[<-hsplit];exact aB ef q);rw[<-hsplit,<-hset,hAl] at hla;simp only[eG,pk,mD] at hla;refine aD.y9 8 9 (λL=>⟨(89,vo L 0 (.ptr 1 0))::(90,vo L 1 (.buf 2 nx.length 14 none))::(91,vo L 2 (aa k2))::(92,vo L 3 (.ptr 2 (k2*14)))::(93,vo L 4 (.ptr 2 (k2*14+8)))::(94,vo L 5 (.ip [aa e.u1,aa e.u2,aa e.u3,aa e.u4,aa e.u5,aa e.u6]))::(95,vo L 6 (.ag [aa e.u1,aa e.u2,aa e.u3,aa e.u4,aa e.u5,aa e.u6]))::(96,vo L 7 (.ag [aa d.1,aa d.2]))::(17,aa k2)::wF c dmg e ev k I d nx.length k2,101,[.cells [.a (.slice none 0 0 (some 0))],.cells [.buf 2 nx.length 14 none],.cells (q.flatMap ak)],[]⟩) rfl zW ge gc zW (bK @nC) (λL=>rfl) ?_ ?_
 ·rintro L i o him hC hr
  rcases i with _ | _ | _ | _ | _ | _ | _ | _ | i
  rotate_right
  ·exact t7 him gt
  ·cases hr.gw;refine(zR) ?_;exact(bK @aT)
  ·cases hr.gw;have d0:L 0:=hr.dep ⟨0,.data⟩ f5 rfl;refine(cO (ee d0)) ?_;exact(bK (br @aT (ee d0)))
  ·cases hr.gw;refine(zR) ?_;exact(bK @aT)
  ·cases hr.gw;have d1:L 1:=hr.dep ⟨1,.data⟩ f5 rfl;have d2:L 2:=hr.dep ⟨2,.data⟩ f5 rfl;refine(cO (cA (ee d1) (ee d2) hlt2)) ?_;exact(bK (cA @aT (ee d1) (ee d2)))
  ·cases hr.gw;have d3:L 3:=hr.dep ⟨3,.data⟩ f5 rfl;refine(cO (br (ee d3) hqc)) ?_;exact(bK (br @aT (ee d3)))
  ·cases hr.gw;refine(zR) ?_;exact(bK @aT)
  ·cases hr.gw;have d5:L 5:=hr.dep ⟨5,.data⟩ f5 rfl;refine(cO (ee d5)) ?_;exact(bK (br @aT (ee d5)))
  ·cases hr.gw;refine(zR) ?_;exact(bK @aT)
 have v8:∀i,i<8->∀v:SV,vo (λj=>j<8) i v=v:=λi h v=>dC h;have v84:=v8 4 gc;have v86:=v8 6 gc;have v87:=v8 7 gc;change aJ _ _ _ _ _ _;refine oA ((93,.ptr 2 (k2*14+8))::(95,.ag [aa e.u1,aa e.u2,aa e.u3,aa e.u4,aa e.u5,aa e.u6])::(96,.ag [aa d.1,aa d.2])::wF c dmg e ev k I d nx.length k2) [.cells [.a (.slice none 0 0 (some 0))],.cells [.buf 2 nx.length 14 none],.cells (q.flatMap ak)] (bK (cA v84 v86 v87)) ?_;refine zS [2] (ik hfk hfn hrq hbq hkq) hla ?_;refine(zR) ?_;simp only[pk] at hnext;refine(aA (zi hlt2 hnl)) ?_;refine zX hlt2 (bK hnext) trivial
def bJ(w:Wy):List SV:=[ab w.kind,ab w.cX,aa w.days,aa w.km,aa w.yc]
def c8(c:Co):List SV:=[ab c.part,ab c.owner,aa c.day,aa c.am]
def my(w:Wy):bJ w=[ab w.kind,ab w.cX,aa w.days,aa w.km,aa w.yc]:=rfl
def eN(c:Co):c8 c=[ab c.part,ab c.owner,aa c.day,aa c.am]:=rfl
def Ff(n:Int):PC prog 61 [aa n] (·=au (Lt n)):=by
 refine pB 9 Tryz.func61 ?_;unfold Lt;refine(zV) ?_;cases g:decide (0<=n)
 ·exact(aA g)<|zo [.tmp 2]
 ·exact(aA g)<|zo [.tmp 2]
def JW(n:Int):PC prog 62 [aa n] (·=au (Dg n)):=by
 refine pB 9 Tryz.func62 ?_;unfold Dg;refine(zV) ?_;cases g:decide (0<=n)
 ·exact(aA g)<|zo [.tmp 2]
 ·exact(aA g)<|zo [.tmp 2]
def zJ(ws:List Wy)(c:Co)(hw:∀w∈ws,w.fits)(hc:c.fits)(hlen:ws.length<=1000):PC prog 31 [an 5 ws bJ,.ag (c8 c)] (·=au (eH ws c)):=by
 refine pB 70 Tryz.func31 ?_;rw[eN]
 refine(zV) ?_;refine zZ [(0,an 5 ws bJ),(3,.ip [ab c.part,ab c.owner,aa c.day,aa c.am])] 0 rfl (tK @an.eq_1)<|zA [(0,an 5 ws bJ),(3,.ip [ab c.part,ab c.owner,aa c.day,aa c.am])] [] zH<|(nP)<|(zV) ?_
 have hlen6:ws.length<=1000000:=by omega
 refine(zs) ?_;refine zL ws (λk=>(ws.take k).all Wy.ok=true) (λk=>[(3,.ip [ab c.part,ab c.owner,aa c.day,aa c.am]),(5,.fn 61 [] []),(6,.fn 62 [] []),(9,an 5 ws bJ),(10,aa ws.length),(11,aa k)]) (λk=>[]) zH zp ?_;intro k hk hall;refine zT ws k ?_ ?_;rintro rfl;rotate_left;intro w hx hlt;rotate_left
 ·refine(fC) ?_;rw[bt] at hall
  have hN:eH ws c=c.ok:=by rw[eH,hall];rfl
  rw[hN];unfold Co.ok
  refine(zC)<|(zK (gi c.part ⟨hc.p,hc.pb⟩)) ?_
  cases h1:cB c.part
  ·exact(zR)<|zo [.tmp 4]
  refine(zQ)<|(zK (gi c.owner ⟨hc.o,hc.ob⟩)) ?_
  cases h2:cB c.owner
  ·exact(zR)<|zo [.tmp 4]
  refine(zQ)<|(zK (Ff c.day)) ?_
  cases h3:Lt c.day
  ·exact(zR)<|zo [.tmp 4]
  exact(zQ)<|(zK (JW c.am))<|(zR)<|zo [.tmp 4]
 have hwm:=aS hx;have hwf:=hw w hwm
 have hbad:w.ok=false->eH ws c=false:=λh=>by
  have:ws.all Wy.ok=false:=Bool.eq_false_iff.2 λh2=>by
   have:=all_eq_true.1 h2 w hwm;rw[h] at this;cases this
  rw[eH,this];rfl
 have hgood:w.ok=true->(ws.take (k+1)).all Wy.ok=true:=λh=>by
  rw[bz hx,d7,hall];show(true&&(w.ok&&true))=true;rw[h];rfl
 refine(gJ)<|(aA (cA hlt (aH (e:=5) (enc:=bJ) ce hx) @my))<|(zC)<|(zK (gi w.kind ⟨hwf.k,hwf.kb⟩)) ?_
 cases h1:cB w.kind
 ·exact(zR)<|(cN)<|zo [.tmp 4] (hq:=by rw[hbad (by rw[Wy.ok,h1];rfl)])
 refine(zQ)<|(zK (gi w.cX ⟨hwf.m,hwf.mb⟩)) ?_
 cases h2:cB w.cX
 ·exact(zR)<|(cN)<|zo [.tmp 4] (hq:=by rw[hbad (by rw[Wy.ok,h1,h2];rfl)])
 refine(zQ)<|(zK (Ff w.days)) ?_
 cases h3:Lt w.days
 ·exact(zR)<|(cN)<|zo [.tmp 4] (hq:=by rw[hbad (by rw[Wy.ok,h1,h2,h3];rfl)])
 refine(zQ)<|(zK (JW w.km)) ?_
 cases h4:Dg w.km
 ·exact(zR)<|(cN)<|zo [.tmp 4] (hq:=by rw[hbad (by rw[Wy.ok,h1,h2,h3,h4];rfl)])
 cases h5:decide (w.yc<0);rotate_left
 ·exact(cO h5)<|(cN)<|zo [.tmp 4] (hq:=by rw[hbad (by rw[Wy.ok,show decide (0<=w.yc)=false by have:=ww h5;simp;omega];simp)])
 cases h6:decide (100<w.yc);rotate_left
 ·exact(cO (br h5 h6))<|(cN)<|zo [.tmp 4] (hq:=by rw[hbad (by rw[Wy.ok,show decide (w.yc<=100)=false by have:=ww h6;simp;omega];simp)])
 refine(cO (br h5 h6))<|(zN) ?_
 have hok:w.ok=true:=by
  have:=wt h5;have:=wt h6;rw[Wy.ok,h1,h2,h3,h4,show decide (0<=w.yc)=true by simp;omega,show decide (w.yc<=100)=true by simp;omega];rfl
 refine(aA (zi hlt hlen6)) ?_;refine zX hlt zH (hgood hok)
def ub(x lo hi:Int):PC prog 117 [aa x,aa lo,aa hi] (·=au (decide (lo<=x)&&decide (x<=hi))):=by
 refine pB 15 Tryz.func117 ?_;refine(zV) ?_;cases g:decide (lo<=x)
 ·exact(aA g)<|zo [.tmp 6]
 ·exact(aA g)<|zo [.tmp 6]
def DI(a p:Int)(ha:0<=a/\a<=1000000000000)(hp:0<=p/\p<=100):PC prog 67 [aa a,aa p] (·=.bB [aa (rW a p),aa 0]):=by
 refine pB 40 Tryz.func67 ?_;obtain⟨m1,m2⟩:=NU ha hp;have hm:=AE (P:=prog) (t:=3) (a:=a) (b:=p) ⟨by omega,by omega⟩
 have hpn:rW a p=if 100<2*(a*p%100)\/(2*(a*p%100)=100/\a*p/100%2≠0) then a*p/100+1 else a*p/100:=rfl
 rw[hpn];clear hpn;generalize a*p=m at *;have t1:m.tdiv 100=m/100:=Int.tdiv_eq_ediv_of_nonneg m1;have t2:m.tmod 100=m%100:=ds m1;have hq:=T9 (P:=prog) (t:=3) (a:=m) (b:=100) gc (by rw[t1];omega);have hr:=FI (P:=prog) (t:=3) (a:=m) (b:=100) gc;rw[t1] at hq;rw[t2] at hr;have h2:=AE (P:=prog) (t:=3) (a:=2) (b:=m%100) ⟨by omega,by omega⟩;have t3:(m/100).tmod 2=m/100%2:=ds gt;have hr2:=FI (P:=prog) (t:=3) (a:=m/100) (b:=2) gc;rw[t3] at hr2
 refine(lJ)<|(zK (ub a 0 1000000000000)) ?_
 rw[show(decide (0<=a)&&decide (a<=1000000000000))=true by simp;omega]
 refine(zQ)<|(zK (ub p 0 100)) ?_
 rw[show(decide (0<=p)&&decide (p<=100))=true by simp;omega]
 refine(zR)<|(zN)<|(aA (cA hm hq hr)) ?_
 cases c1:decide (100<2*(m%100))
 ·have c1':=wt c1;cases c2:decide (2*(m%100)=100)
  ·have c2':=wt c2
   exact(aA (cA h2 c1 c2))<|(jG)<|ji [.tmp 4,.tmp 5] (hq:=by rw[ul gt])
  ·have c2':=ww c2;cases c3:decide (m/100%2=0)
   ·have c3':=wt c3
    refine(aA (ik h2 hr2 c1 c2 c3))<|(zY)<|(zs) ?_;refine aD.r0 ge (fF (bA (m/100) 1 gt)) ?_;exact(zV)<|ji [.tmp 4,.tmp 5] (hq:=by rw[t8 gt])
   ·have c3':=ww c3
    exact(aA (ik h2 hr2 c1 c2 c3))<|(jG)<|ji [.tmp 4,.tmp 5] (hq:=by rw[ul gt])
 ·have c1':=ww c1
  refine(aA (br h2 c1))<|(zY)<|(zs) ?_;refine aD.r0 ge (fF (bA (m/100) 1 gt)) ?_;exact(zV)<|ji [.tmp 4,.tmp 5] (hq:=by rw[t8 gt])
def Kr(day fr:Int)(hd:0<=day/\day<=40000):PC prog 170 [aa day,aa fr] (·=.ag [aa (lZ day fr),aa (lZ day fr)]):=by
 refine pB 19 Tryz.func170 ?_;refine(zV) ?_;cases g:decide (day<=fr)
 ·have hg:=wt g
  have hs:lZ day fr=day-(if day-1000000000000<=fr then fr else day-1000000000000):=by rw[lZ,ul hg]
  have hm:dM fr (day-1000000000000)=if day-1000000000000<=fr then fr else day-1000000000000:=rfl
  rw[<-hm] at hs
  have hb:fr<=dM fr (day-1000000000000)/\day-1000000000000<=dM fr (day-1000000000000)/\dM fr (day-1000000000000)<=40000:=by unfold dM;split<;>omega
  rw[hs];have hx:=gp fr (day-1000000000000);generalize dM fr (day-1000000000000)=m at hb hx
  exact(aA g)<|(zN)<|(aA (cA (TT (P:=prog) (t:=3) (show -9223372036854775808<=day-1000000000000/\day-1000000000000<=9223372036854775807 from⟨by omega,by omega⟩)) hx (TT (P:=prog) (t:=3) (show -9223372036854775808<=day-m/\day-m<=9223372036854775807 from⟨by omega,by omega⟩))))<|(zV)<|zo [.cell 4 54]
 ·have hs:lZ day fr=0:=by rw[lZ,t8 (ww g)]
  rw[hs]
  exact(aA g)<|(cN)<|zo [.cell 4 54]
def Qj(p:ai)(day:Int)(hd:0<=day/\day<=40000):PC prog 175 [.ag (ak p),aa day,.ip [.fn 170 [] []]] (·=.ag [aa (lZ day p.made),aa (lZ day p.made)]):=by
 refine pB 11 Tryz.func175 ?_;exact(aA @ak.eq_1)<|(zC)<|(zK (Kr day p.made hd))<|(zR)<|zo [.cell 5 54]
abbrev Wi:=List (List Nat×SV)
def qJ{o:Nat}{l:Wi}(s:List Nat)(u:SV)(hS:S[o]?=some (bu AV.str id l)):gn prog S 217 (.map o) (.a (.str s)) u=some (S.set o (bu AV.str id (bU s u l))):=
 Jw (uv:=id) (kt:=9) (et:=215) (by simp only[az]) gq hS rfl u
def Ub:SV:=.ip [.fn 170 [] []]
def Rs:Wi:=bU [97,103,101] (.fn 175 [] [Ub]) (bU [100,97,121,115] (.fn 174 [] [Ub]) (bU [100,97,109,97,103,101] (.fn 173 [] []) (bU [99,121,99,108,101,115] (.fn 172 [] []) (bU [107,109] (.fn 171 [] []) []))))
def Mg:PC prog 116 [] (·=pD AV.str id Rs):=by
 refine pB 6 Tryz.func116 ?_;refine(nP) ?_;refine zZ [(1,.ip [.fn 170 [] []])] 0 rfl zG<|zA [(1,.ip [.fn 170 [] []])] [] zH ?_
 have hm0:SO.map [] [] none=bu AV.str (id:SV->SV) []:=rfl;have p1:=λu=>qJ (S:=[bu AV.str id []]) (o:=0) (l:=[]) [107,109] u rfl;have p2:=λ(l:Wi) u=>qJ (S:=[bu AV.str id l]) (o:=0) (l:=l) [99,121,99,108,101,115] u rfl;have p3:=λ(l:Wi) u=>qJ (S:=[bu AV.str id l]) (o:=0) (l:=l) [100,97,109,97,103,101] u rfl;have p4:=λ(l:Wi) u=>qJ (S:=[bu AV.str id l]) (o:=0) (l:=l) [100,97,121,115] u rfl;have p5:=λ(l:Wi) u=>qJ (S:=[bu AV.str id l]) (o:=0) (l:=l) [97,103,101] u rfl
 refine(aA (Af hm0 p1 p2 p3 p4 p5 @set_cons_zero.{0}))<|(zE) ?_;exact ue.of (rs:=[.tmp 0]) (r:=pD AV.str id Rs) rfl rfl zl (by exact .map rfl zr) zq
def MG{l:Wi}(s:List Nat)(ok:Bool):eJ prog S 217 (pD AV.str id l) (.a (.str s)) ok=some (cond ok (.bB [getM (C5 (.ie)) s l,au (cz s l)]) (getM (C5 (.ie)) s l)):=
 R8 (uv:=id) (u0:=C5 (.ie)) (k:=s) (kt:=9) (et:=215) (z:=.ie) (by simp only[az]) gq zW rfl rfl ok
def Ky(p:ai)(day:Int)(hd:0<=day/\day<=40000):PC prog 65 [.ag (ak p),ab [97,103,101],aa day] (·=.bB [.ag [aa (lZ day p.made),aa (lZ day p.made)],aa 0]):=by
 refine pB 32 Tryz.func65 ?_;refine(aA @ak.eq_1) ?_;refine zZ [(1,ab [97,103,101]),(2,aa day),(3,.ip (ak p)),(6,.ptr 1 0),(7,aa 0)] 0 rfl (tK @ak.eq_1) ?_
 (try change aD _ _ _ _ _)
 have hg:getM (C5 (.ie)) [97,103,101] Rs=.fn 175 [] [Ub]:=rfl;have hh:cz [97,103,101] Rs=true:=rfl
 refine(zC)<|(zK Mg (hfl:=.inr zr)) ?_;refine aJ.r0 ge (by simp only[cG,bG,an,az,m7,m6,↓reduceIte,af,aV,bd,ax,ba,ah,ar,bD,MG (l:=Rs) [97,103,101],hg,hh];first | done | rfl) ?_;exact(zB)<|(KS)<|(aA (br (show decide (day<0)=false by simp only[wd];omega) (show decide (40000<day)=false by simp only[wd];omega)))<|(zN)<|(jH (br @ak.eq_1 @Ub.eq_1))<|(zK (Qj p day hd))<|(zR)<|ji [.cell 6 54,.tmp 7]
def bF(ps:List ai)(name:List Nat):Option ai:=ps.find? λp=>decide (p.name=name)
def RH{name:List Nat}{k:Nat}{p:ai}(hx:ps[k]?=some p)(hp:p.name=name)(hb:((ps.take k).all λp=>!(decide (p.name=name)))=true):bF ps name=some p:=by
 unfold bF;rw[List.find?_eq_some_iff_getElem];obtain⟨hlt,he⟩:=pp hx;refine⟨by simpa using hp,k,hlt,he,λj hj=>?_⟩;have h1:=all_eq_true.1 hb (ps[j]' gt) (by rw[List.mem_iff_getElem?];exact⟨j,by rw[fs,t8 hj];exact jp gt⟩);simpa using h1
def RI{name:List Nat}(hb:(ps.all λp=>!(decide (p.name=name)))=true):bF ps name=none:=by
 unfold bF;rw[List.find?_eq_none];intro p hp;have h1:=all_eq_true.1 hb p hp;simpa using h1
def KL:List SV:=[ab [],ab [],ab [],ab [],aa 0,aa 0,au false,cY,aa 0,aa 0,aa 0,aa 0,aa 0,aa 0]
def Ha(ps:List ai)(name:List Nat)(hlen:ps.length<=1000000):PC prog 63 [.ag [an 14 ps ak],ab name] (·=qy ak ai.zero (bF ps name)):=by
 refine pB 22 Tryz.func63 ?_;refine(zV) ?_;refine zZ [(1,ab name),(2,.ip [an 14 ps ak]),(4,.ptr 1 0)] 0 rfl (tK @an.eq_1) ?_
 (try change aD _ _ _ _ _)
 refine(zV)<|(zs) ?_;refine zL ps (λk=>((ps.take k).all λp=>!(decide (p.name=name)))=true) (λk=>[(1,ab name),(4,.ptr 1 0),(9,an 14 ps ak),(10,aa ps.length),(11,aa k)]) (λk=>[.gone,.cells KL]) (bK @KL.eq_1) zp ?_;intro k hk hall;refine zT ps k ?_ ?_;rintro rfl;rotate_left;intro p hx hlt;rotate_left
 ·refine(fC) ?_;rw[bt] at hall;rw[RI hall]
  exact(aA @KL.eq_1)<|ji [.cell 4 75,.tmp 5] (r:=.bB [.ag (ak ai.zero),au false]) (hw:=.bB (.cons (.ag (.cons (.a _) (.cons (.a _) (.cons (.a _) (.cons (.a _) (.cons (.a _) (.cons (.a _) (.cons (.a _) (.cons (.nil 2) zr))))))))) zr))
 refine(gJ)<|(aA (jB hlt (aH (e:=14) (enc:=ak) ce hx) @ak.eq_1 @KL.eq_1)) ?_
 cases he:decide (p.name=name)
 ·refine(aA he)<|(zN)<|(aA (zi hlt hlen)) ?_;refine zX hlt (bK (br @ak.eq_1 @KL.eq_1)) (by rw[bz hx,d7,hall];show(true&&(!(decide (p.name=name))&&true))=true;rw[he];rfl)
 ·rw[RH hx (ww he) hall]
  exact(aA he)<|(zY)<|(aA @ak.eq_1)<|ji [.cell 4 75,.tmp 5]
def nj(x:ai):List ai->List ai
 | []=>[x]
 | y::l=>if fZ y.name x.name=true then y::nj x l else if y.name=x.name then x::l else x::y::l
def jc(x:ai):∀l:List ai,bY l x=nj x l
 | []=>by simp[bY,o7,iu,nj]
 | y::l=>by
  have ih:=jc x l;unfold bY o7 at ih ⊢;rw[nj,fl];split
  ·rename_i h
   have e:iu (y::l) x.name (g6 (y::en (λp=>fZ p.name x.name) l))=iu l x.name (en (λp=>fZ p.name x.name) l).length:=by
    unfold iu;rw[i7,ct]
   rw[e,i7,fx,fm,fd,cb];split at ih<;>rename_i hf
   ·rw[t8 hf,ih]
   ·rw[ul hf,ih]
  ·rename_i h;rw[g9];unfold iu;simp only[el,set_cons_zero,take_zero,drop_zero,nil_append,wp]
section
variable (A:List Nat->Bool)
def bP(ps:List ai):List ai:=ps.filter λp=>A p.name
def mi(ps:List ai):Prop:=∀p∈ps,p.aO≠[]->A p.name=A p.aO
variable {A}
def BO{x:ai}:∀{l:List ai},ec (l.map ai.name)=true->bP A (nj x l)=if A x.name=true then nj x (bP A l) else bP A l
 | [],_=>by unfold bP nj;by_cases h:A x.name=true<;>simp[h,nj]
 | y::l,ho=>by
  have ih:=BO (x:=x) (l:=l) (gC ho);have hlt:=ma (a:=y.name) (l:=l.map ai.name) ho;unfold bP at ih ⊢;rw[nj];split
  ·rename_i h;rw[ad,ih];by_cases hy:A y.name=true
   ·rw[t8 hy,ad,t8 hy];split
    ·rw[nj,t8 h]
    ·rfl
   ·rw[ul hy,ad,ul hy]
  ·rename_i h;split
   ·rename_i e;rw[ad,ad,e];split
    ·rw[nj,ul h,t8 e]
    ·rfl
   ·rename_i e;rw[ad];split
    ·rename_i hx
     have hxy:fZ x.name y.name=true:=by
      rcases j6 x.name y.name with k | k | k
      ·exact k
      ·exact t7 k.symm e
      ·exact t7 k h
     cases hf:g5 (λp=>A p.name) (y::l) with
     | nil=>rw[nj]
     | cons z r=>
      have hz:z∈y::l:=(mem_filter.1 (by rw[hf];exact aj)).1
      have hxz:fZ x.name z.name=true:=by
       rcases rt hz with rfl | hz
       ·exact hxy
       ·exact fO hxy (hlt _ (a0 hz))
      have h1:¬fZ z.name x.name=true:=λk=>by have:=fO hxz k;rw[dz] at this;cases this
      have h2:¬z.name=x.name:=λk=>by rw[k,dz] at hxz;cases hxz
      rw[nj,ul h1,ul h2]
    ·rfl
def F3{x:ai}:∀{l:List ai},ec (l.map ai.name)=true->ec ((nj x l).map ai.name)=true/\∀p∈nj x l,p=x\/p∈l
 | [],_=>⟨rfl,λp hp=>by rw[nj,ei] at hp;exact .inl hp⟩
 | y::l,ho=>by
  obtain⟨i1,i2⟩:=F3 (x:=x) (l:=l) (gC ho);have hlt:=ma (a:=y.name) (l:=l.map ai.name) ho
  have cons:∀{a:ai} {r:List ai},(∀p∈r,fZ a.name p.name=true)->ec (r.map ai.name)=true->ec ((a::r).map ai.name)=true:=by
   intro a r h1 h2
   cases r with
   | nil=>rfl
   | cons b r=>
    rw[be,be,ec,ac];exact⟨h1 b aj,by rw[be] at h2;exact h2⟩
  rw[nj];split
  ·rename_i h;refine⟨cons (λp hp=>?_) i1,λp hp=>?_⟩
   ·rcases i2 p hp with rfl | hp
    ·exact h
    ·exact hlt _ (a0 hp)
   ·rcases rt hp with rfl | hp
    ·exact .inr aj
    ·exact(i2 p hp).imp id (ap _)
  ·rename_i h;split
   ·rename_i e;refine⟨cons (λp hp=>by rw[<-e];exact hlt _ (a0 hp)) (gC ho),λp hp=>?_⟩
    rcases rt hp with rfl | hp
    ·exact .inl rfl
    ·exact .inr (ap _ hp)
   ·rename_i e
    have hxy:fZ x.name y.name=true:=by
     rcases j6 x.name y.name with k | k | k
     ·exact k
     ·exact t7 k.symm e
     ·exact t7 k h
    refine⟨cons (λp hp=>?_) ho,λp hp=>?_⟩
    ·rcases rt hp with rfl | hp
     ·exact hxy
     ·exact fO hxy (hlt _ (a0 hp))
    ·rcases rt hp with rfl | hp
     ·exact .inl rfl
     ·exact .inr hp
def vW:∀{l:List ai},ec (l.map ai.name)=true->ec ((bP A l).map ai.name)=true
 | [],_=>rfl
 | y::l,ho=>by
  have ih:=vW (l:=l) (gC ho);have hlt:=ma (a:=y.name) (l:=l.map ai.name) ho;unfold bP at ih ⊢;rw[ad];split
  ·cases hf:g5 (λp=>A p.name) l with
   | nil=>rfl
   | cons b r=>
    rw[hf] at ih;have hb:b∈l:=(mem_filter.1 (by rw[hf];exact aj)).1;rw[be,be,ec,ac];exact⟨hlt _ (a0 hb),by rw[be] at ih;exact ih⟩
  ·exact ih
def jn{name:List Nat}(hA:A name=true):∀l:List ai,bF (bP A l) name=bF l name
 | []=>rfl
 | y::l=>by
  have ih:=jn hA l;unfold bF bP at ih ⊢;rw[ad,b4];by_cases hy:A y.name=true
  ·rw[t8 hy,b4,ih]
  ·rw[ul hy,ih,show decide (y.name=name)=false by rw[wd];intro e;rw[e] at hy;exact hy hA]
def FD(name:List Nat):∀(l:List ai) (i:Nat) (m:List (List Nat×Int)),(cz name (oH i m l)=(cz name m||(bF l name).isSome))/\(cz name m=true->getM 0 name (oH i m l)=getM 0 name m)/\
 (cz name m=false->(bF l name).isSome=true->∃k,getM 0 name (oH i m l)=((i+k:Nat):Int)/\l[k]?=bF l name)
 | [],i,m=>⟨by rw[oH];simp[bF],λ_=>rfl,λ_ h=>by simp[bF] at h⟩
 | p::l,i,m=>by
  obtain⟨a1,a2,a3⟩:=FD name l (i+1) (if cz p.name m=true then m else bU p.name i m)
  have hf:bF (p::l) name=if p.name=name then some p else bF l name:=by
   unfold bF;rw[b4];by_cases e:p.name=name
   ·rw[t8 e,ut e]
   ·rw[ul e,un e]
  have hh:cz name (if cz p.name m=true then m else bU p.name (i:Int) m)=(cz name m||decide (p.name=name)):=by
   split
   ·rename_i h;by_cases e:p.name=name
    ·rw[<-e,h];simp
    ·simp[e]
   ·rw[qh,Bool.or_comm]
    congr 1
    by_cases e:p.name=name
    ·rw[ut e,ut e.symm]
    ·rw[un e,un λh=>e h.symm]
  rw[oH];refine⟨?_,λh=>?_,λh h2=>?_⟩
  ·rw[a1,hh,hf];by_cases e:p.name=name
   ·simp[e]
   ·simp[e]
  ·rw[a2 (by rw[hh,h];rfl)];split
   ·rfl
   ·rename_i hp;rw[di,ul];intro e;rw[<-e,h] at hp;exact hp rfl
  ·by_cases e:p.name=name
   ·refine⟨0,?_,?_⟩
    ·rw[a2 (by rw[hh,ut e,Bool.or_true]),e,h,ul bw,di,t8 rfl];rfl
    ·rw[hf,t8 e];rfl
   ·rw[hf,ul e] at h2 ⊢;obtain⟨k,k1,k2⟩:=a3 (by rw[hh,h,un e];rfl) h2;exact⟨k+1,by rw[k1];congr 1;omega,by rw[ct];exact k2⟩
def dq(ps:List ai)(name:List Nat):re ps (oH 0 [] ps) name=bF ps name:=by
 obtain⟨a1,_,a3⟩:=FD name ps 0 [];unfold re;rw[a1];cases h:(bF ps name).isSome
 ·rw[show(cz name ([]:List (List Nat×Int))||false)=false from rfl,ul bw]
  cases hf:bF ps name with
  | none=>rfl
  | some x=>rw[hf] at h;cases h
 ·obtain⟨k,k1,k2⟩:=a3 rfl h;rw[show(cz name ([]:List (List Nat×Int))||true)=true from rfl,t8 rfl,k1,hJ,d9,k2]
end
section
variable {A:List Nat->Bool}
def nt(A:List Nat->Bool):List Nat->Bool:=λn=>!(A n)
def mi.nt{ps:List ai}(h:mi A ps):mi (nt A) ps:=λp hp hi=>by unfold Proofs.nt;rw[h p hp hi]
def yQ{c:List aF}{ps:List ai}(hap:mi A ps):∀{l:List ai} {t t1 t2:List (fP×Bool)},(∀p∈l,p∈ps)->(∀s:fP,A s.aO=true->getM false s t=getM false s t1)->(∀s:fP,A s.aO=false->getM false s t=getM false s t2)->
 du c ps (oH 0 [] ps) t l=(du c (bP A ps) (oH 0 [] (bP A ps)) t1 (bP A l)&&du c (bP (nt A) ps) (oH 0 [] (bP (nt A) ps)) t2 (bP (nt A) l))
 | [],_,_,_,_,_,_=>rfl
 | p::l,t,t1,t2,hl,h1,h2=>by
  have hp:=hl p aj;have hl2:∀q∈l,q∈ps:=λq hq=>hl q (ap _ hq);have ih:=λ{t t1 t2}=>yQ (c:=c) hap (l:=l) (t:=t) (t1:=t1) (t2:=t2) hl2
  have e1:bP A (p::l)=if A p.name=true then p::bP A l else bP A l:=ad
  have e2:bP (nt A) (p::l)=if A p.name=true then bP (nt A) l else p::bP (nt A) l:=by
   unfold bP nt;rw[ad];cases A p.name<;>rfl
  rw[e1,e2,du];by_cases hi:p.aO=[]
  ·rw[ut hi,ah,ih h1 h2];split<;>rw[du,ut hi,ah]
   ·simp only[go]
   ·generalize dm c p=a;generalize (true==decide (p.slot=[]))=b;generalize du c (bP A ps) _ t1 _=x;generalize du c (bP (nt A) ps) _ t2 _=y;cases a<;>cases b<;>cases x<;>cases y<;>rfl
  ·have hpi:=hap p hp hi;rw[un hi,ar,dq];split
   ·rename_i ha
    have hai:A p.aO=true:=by rw[<-hpi];exact ha
    rw[du,un hi,ar,dq,jn hai]
    rw[ih (t:=bU ⟨p.aO,p.slot⟩ true t) (t1:=bU ⟨p.aO,p.slot⟩ true t1) (t2:=t2) (λs hs=>by rw[di,di,h1 s hs]) (λs hs=>by
     rw[di,ul,h2 s hs]
     intro e;rw[e] at hs;rw[hai] at hs;cases hs)]
    have hh:mB c t p (bF ps p.aO)=mB c t1 p (bF ps p.aO):=by
     unfold mB
     cases bF ps p.aO with
     | none=>rfl
     | some h=>simp only;rw[h1 ⟨p.aO,p.slot⟩ hai]
    rw[hh];simp only[go]
   ·rename_i ha
    have ha:A p.name=false:=by cases h:A p.name<;>simp_all
    have hai:A p.aO=false:=by rw[<-hpi];exact ha
    have hni:nt A p.aO=true:=by unfold nt;rw[hai];rfl
    rw[du,un hi,ar,dq,jn hni]
    rw[ih (t:=bU ⟨p.aO,p.slot⟩ true t) (t1:=t1) (t2:=bU ⟨p.aO,p.slot⟩ true t2) (λs hs=>by
     rw[di,ul,h1 s hs]
     intro e;rw[e] at hs;rw[hai] at hs;cases hs) (λs hs=>by rw[di,di,h2 s hs])]
    have hh:mB c t p (bF ps p.aO)=mB c t2 p (bF ps p.aO):=by
     unfold mB
     cases bF ps p.aO with
     | none=>rfl
     | some h=>simp only;rw[h2 ⟨p.aO,p.slot⟩ hai]
    rw[hh];generalize dm c p=a;generalize (false==decide (p.slot=[]))=b;generalize mB c t2 p _=d;generalize du c (bP A ps) _ t1 _=x;generalize du c (bP (nt A) ps) _ _ _=y;cases a<;>cases b<;>cases d<;>cases x<;>cases y<;>rfl
def Cd(ps:List ai):(bP A ps).length<=ps.length:=bi _ _
def sV(hap:mi A ps)(ho:ec (ps.map ai.name)=true)(hlen:ps.length<20000):cM c ps=(cM c (bP A ps)&&cM c (bP (nt A) ps)):=by
 unfold cM;have l1:=Cd (A:=A) ps;have l2:=Cd (A:=nt A) ps
 rw[ho,vW ho,vW ho,un (show ¬20000<(ps.length:Int) by omega),un (show ¬20000<((bP A ps).length:Int) by omega),un (show ¬20000<((bP (nt A) ps).length:Int) by omega),
  yQ hap (t:=[]) (t1:=[]) (t2:=[]) (λ_ h=>h) (λ_ _=>rfl) λ_ _=>rfl]
 generalize j9 c=a;generalize du c (bP A ps) _ _ _=x;generalize du c (bP (nt A) ps) _ _ _=y;cases a<;>cases x<;>cases y<;>rfl
end
section
variable {A:List Nat->Bool}
structure Alike (A:List Nat->Bool) (ps:List ai) (r r':List ai×Int):Prop where
 e:r.2=r'.2
 s:r.2=0->bP A r.1=r'.1/\bP (nt A) r.1=bP (nt A) ps/\mi A r.1/\ec (r.1.map ai.name)=true/\r.1.length<=ps.length+1
def Alike.err(k:Int)(hk:k≠0):Alike A ps ([],k) ([],k):=⟨rfl,λh=>t7 h hk⟩
def F2(x:ai):∀l:List ai,(nj x l).length<=l.length+1
 | []=>bc _
 | y::l=>by
  have ih:=F2 x l;rw[nj];split
  ·simp only[i7];omega
  ·split<;>simp only[i7]<;>omega
def Alike.put(hap:mi A ps)(ho:ec (ps.map ai.name)=true)(hx:A x.name=true)(hi:x.aO≠[]->A x.aO=true):Alike A ps (bY ps x,0) (bY (bP A ps) x,0):=by
 refine⟨rfl,λ_=>?_⟩;simp only[jc]
 have hn:nt A x.name=false:=by unfold nt;rw[hx];rfl
 obtain⟨o1,o2⟩:=F3 (x:=x) ho;refine⟨by rw[BO ho,t8 hx],by rw[BO ho,ul (by rw[hn];exact bw)],λp hp hpi=>?_,o1,F2 x ps⟩
 rcases o2 p hp with rfl | hp
 ·rw[hx,hi hpi]
 ·exact hap p hp hpi
def jm{n:List Nat}{p:ai}(h:bF ps n=some p):p∈ps/\p.name=n:=by
 unfold bF at h;exact⟨List.mem_of_find?_eq_some h,by simpa using List.find?_some h⟩
def C3(hv:cM c ps=true){p:ai}(hp:p∈ps):p.name≠[]:=by
 unfold cM at hv;simp only[ac] at hv;have:=o6 hv.2.2.2 p hp;unfold dm at this;simp only[ac] at this;intro e;have h:=this.2.1;rw[e] at h;cases h
def HS(hap:mi A ps){n:List Nat}(hn:n≠[])(hA:A n=true)(f:ai->Bool):(ps.any λq=>decide (q.aO=n)&&f q)=((bP A ps).any λq=>decide (q.aO=n)&&f q):=by
 rw[d6,any_eq_true,any_eq_true];constructor
 ·rintro⟨q,hq,h⟩;refine⟨q,mem_filter.2 ⟨hq,?_⟩,h⟩;rw[ac,wp] at h;show A q.name=true;rw[hap q hq (by rw[h.1];exact hn),h.1,hA]
 ·rintro⟨q,hq,h⟩;exact⟨q,(mem_filter.1 hq).1,h⟩
def Vm{p h:ai}(hap:mi A ps)(ho:ec (ps.map ai.name)=true)(hv:cM c ps=true)(hp:p∈ps)(hpn:A p.name=true)(hh:h∈ps)(hI:e.op=2->A e.aO=true/\h.name=e.aO):
 Alike A ps (gl c ps e p h) (gl c (bP A ps) e p h):=by
 have hpi:p.aO≠[]->A p.aO=true:=λk=>by rw[<-hap p hp k];exact hpn
 have put:=λ{x:ai}=>Alike.put (x:=x) hap ho;unfold gl;simp only;by_cases h2:e.op=2
 ·rw[t8 h2,t8 h2];obtain⟨i1,i2⟩:=hI h2
  have hne:e.aO≠[]:=by rw[<-i2];exact C3 hv hh
  rw[HS hap hne i1 λq=>decide (q.slot=e.slot)];split
  ·exact .err 4 gc
  ·split
   ·exact .err 5 gc
   ·split
    ·exact .err 6 gc
    ·exact put hpn λ_=>i1
 rw[ul h2,ul h2];by_cases h3:e.op=3
 ·rw[t8 h3,t8 h3];split
  ·exact .err 5 gc
  ·exact put hpn λk=>t7 rfl k
 rw[ul h3,ul h3];by_cases h4:e.op=4
 ·rw[t8 h4,t8 h4];split
  ·exact put hpn hpi
  ·exact .err 4 gc
 rw[ul h4,ul h4];by_cases h5:e.op=5
 ·rw[t8 h5,t8 h5];exact put hpn hpi
 rw[ul h5,ul h5];by_cases h6:e.op=6
 ·rw[t8 h6,t8 h6];split
  ·exact .err 7 gc
  ·exact put hpn hpi
 rw[ul h6,ul h6];by_cases h7:e.op=7
 ·rw[t8 h7,t8 h7];have ha:=HS hap (C3 hv hp) hpn λ_=>true;simp only[hu] at ha;rw[ha];split
  ·exact .err 5 gc
  ·split
   ·exact .err 5 gc
   ·exact put hpn hpi
 rw[ul h7,ul h7];exact put hpn hpi
def RK(hap:mi A ps)(ho:ec (ps.map ai.name)=true)(hlen:ps.length<20000)(hv2:cM c (bP (nt A) ps)=true)(hA:A e.part=true)(hI:e.op=2->A e.aO=true):
 Alike A ps (aK c ps e) (aK c (bP A ps) e):=by
 have hl:=Cd (A:=A) ps;unfold aK;rw[sV hap ho hlen,hv2,hu];cases hv:cM c (bP A ps)
 ·exact .err 1 gc
 have hvp:cM c ps=true:=by rw[sV hap ho hlen,hv,hv2];rfl
 rw[t8 rfl,t8 rfl];split;rotate_left
 ·exact .err 1 gc
 by_cases h1:e.op=1
 ·rw[t8 h1,t8 h1,dq,dq,jn hA];unfold vN;split
  ·exact .err 3 gc
  ·split
   ·exact .err 4 gc
   ·rw[ul (show ¬(ps.length:Int)=20000 by omega),ul (show ¬((bP A ps).length:Int)=20000 by omega)];exact .put hap ho hA λk=>t7 rfl k
 rw[ul h1,ul h1,dq,dq,dq,dq,jn hA]
 have hf2:(if e.op=2 then bF (bP A ps) e.aO else bF ps e.part)=if e.op=2 then bF ps e.aO else bF ps e.part:=by
  split
  ·rename_i h2;exact jn (hI h2) ps
  ·rfl
 rw[hf2]
 cases hp:bF ps e.part with
 | none=>exact .err 2 gc
 | some p=>
  cases hh:(if e.op=2 then bF ps e.aO else some p) with
  | none=>
   rw[<-hp] at hh;exact .err 2 gc
  | some h=>
   obtain⟨p1,p2⟩:=jm hp
   have hhm:h∈ps/\(e.op=2->h.name=e.aO):=by
    by_cases h2:e.op=2
    ·rw[t8 h2] at hh;obtain⟨q1,q2⟩:=jm hh;exact⟨q1,λ_=>q2⟩
    ·rw[ul h2] at hh;cases hh;exact⟨p1,λk=>t7 k h2⟩
   simp only;split
   ·exact .err 5 gc
   ·exact Vm hap ho hvp p1 (by rw[p2];exact hA) hhm.1 λh2=>⟨hI h2,hhm.2 h2⟩
end
structure PR (c:List aF) (F:List Nat->Option ai) (p:ai):Prop where
 r:dm c p=true
 s:p.aO=[]↔p.slot=[]
 h:p.aO≠[]->∃h,F p.aO=some h/\p.bI=false/\h.bI=false/\mW c h.kind p.slot p.kind=true
def HJ(p q:ai):Prop:=p.aO≠[]->¬(q.aO=p.aO/\q.slot=p.slot)
def HJ.symm{p q:ai}(h:HJ p q):HJ q p:=λk e=>h (by rw[e.1];exact k) ⟨e.1.symm,e.2.symm⟩
def RT{t:List (fP×Bool)}{p:ai}(o:Option ai):mB c t p o=true↔(getM false ⟨p.aO,p.slot⟩ t=false/\∃h,o=some h/\p.bI=false/\h.bI=false/\mW c h.kind p.slot p.kind=true):=by
 cases o with
 | none=>exact⟨λh=>(by cases h),λ⟨_,h,k,_⟩=>(by cases k)⟩
 | some h=>
  unfold mB;simp only[n8,exists_eq_left'];generalize getM false ⟨p.aO,p.slot⟩ t=a;generalize p.bI=b;generalize h.bI=d;generalize mW c h.kind p.slot p.kind=e;cases a<;>cases b<;>cases d<;>cases e<;>simp
def EP{c:List aF}{ps:List ai}:∀{l:List ai} {t:List (fP×Bool)},du c ps (oH 0 [] ps) t l=true↔(∀p∈l,PR c (bF ps) p/\(p.aO≠[]->getM false ⟨p.aO,p.slot⟩ t=false))/\l.Pairwise HJ
 | [],t=>⟨λ_=>⟨λp hp=>(by cases hp),.nil⟩,λ_=>rfl⟩
 | p::l,t=>by
  have ih:=λ{t}=>EP (c:=c) (ps:=ps) (l:=l) (t:=t);rw[du,List.pairwise_cons,Bool.and_eq_true,Bool.and_eq_true];by_cases hi:p.aO=[]
  ·rw[ut hi,ah,ih];constructor
   ·rintro⟨h1,h2,h3,h4⟩
    have hs:p.slot=[]:=by simpa using h2
    refine⟨λq hq=>?_,λq _ k=>t7 hi k,h4⟩
    rcases rt hq with rfl | hq
    ·exact⟨⟨h1,⟨λ_=>hs,λ_=>hi⟩,λk=>t7 hi k⟩,λk=>t7 hi k⟩
    ·exact h3 q hq
   ·rintro⟨h1,_,h4⟩;have h0:=h1 p List.mem_cons_self;exact⟨h0.1.r,by rw[ut (h0.1.s.1 hi)];rfl,λq hq=>h1 q (List.mem_cons_of_mem _ hq),h4⟩
  ·rw[un hi,ar,Bool.and_eq_true,ih,dq,RT];constructor
   ·rintro⟨h1,h2,⟨h3,h3'⟩,h4,h5⟩
    have hs:¬p.slot=[]:=by simpa using h2
    refine⟨λq hq=>?_,λq hq k e=>?_,h5⟩
    ·rcases rt hq with rfl | hq
     ·exact⟨⟨h1,⟨λk=>t7 k hi,λk=>t7 k hs⟩,λ_=>h3'⟩,λ_=>h3⟩
     ·refine⟨(h4 q hq).1,λk=>?_⟩;have:=(h4 q hq).2 k;rw[di] at this;split at this
      ·cases this
      ·exact this
    ·have:=(h4 q hq).2 (by rw[e.1];exact k);rw[di,t8 (by rw[e.1,e.2])] at this;cases this
   ·rintro⟨h1,h2,h5⟩;have h0:=h1 p List.mem_cons_self;refine⟨h0.1.r,?_,⟨h0.2 hi,h0.1.h hi⟩,λq hq=>⟨(h1 q (List.mem_cons_of_mem _ hq)).1,λk=>?_⟩,h5⟩
    ·rw[un λk=>hi (h0.1.s.2 k)];rfl
    ·rw[di,ul,(h1 q (List.mem_cons_of_mem _ hq)).2 k];intro e;exact h2 q hq hi ⟨n9 fP.aO e,n9 fP.slot e⟩
def SI:∀{ps:List ai},ec (ps.map ai.name)=true->ps.Pairwise λp q=>fZ p.name q.name=true
 | [],_=>.nil
 | y::l,h=>.cons (λp hp=>ma (a:=y.name) (l:=l.map ai.name) h _ (a0 hp)) (SI (gC h))
def oR{p:ai}:∀{ps:List ai},ec (ps.map ai.name)=true->p∈ps->bF ps p.name=some p
 | [],_,h=>by cases h
 | y::l,ho,h=>by
  unfold bF;rw[b4]
  rcases rt h with rfl | h
  ·rw[ut rfl]
  ·have hlt:=ma (a:=y.name) (l:=l.map ai.name) ho _ (a0 h);rw[un λe=>by rw[e,dz] at hlt;cases hlt];exact oR (gC ho) h
def S3{α:Type}{R:α->α->Prop}(hs:∀{a b},R a b->R b a):∀{l:List α},l.Pairwise R->∀a∈l,∀b∈l,a=b\/R a b
 | [],_,a,h,_,_=>by cases h
 | y::l,h,a,ha,b,hb=>by
  rw[cc] at h
  rcases rt ha with e | ha2
  ·rcases rt hb with e2 | hb2
   ·exact .inl (e.trans e2.symm)
   ·exact .inr (by rw[e];exact h.1 b hb2)
  ·rcases rt hb with e2 | hb2
   ·exact .inr (by rw[e2];exact hs (h.1 a ha2))
   ·exact S3 hs h.2 a ha2 b hb2
structure VF (c:List aF) (F:List Nat->Option ai):Prop where
 n:∀{n p},F n=some p->p.name=n
 p:∀{n p},F n=some p->PR c F p
 u:∀{m n p q},F m=some p->F n=some q->m≠n->HJ p q
def wX(hc:j9 c=true)(ho:ec (ps.map ai.name)=true)(hlen:ps.length<=20000):cM c ps=true↔VF c (bF ps):=by
 unfold cM;rw[hc,ho,un (show ¬20000<(ps.length:Int) by omega)];simp only[gv,hD];rw[EP];constructor
 ·rintro⟨h1,h2⟩;refine⟨λh=>(jm h).2,λh=>(h1 _ (jm h).1).1,λ{m n p q} h k hne=>?_⟩;obtain⟨a1,a2⟩:=jm h;obtain⟨b1,b2⟩:=jm k;exact(S3 HJ.symm h2 p a1 q b1).resolve_left λe=>hne (by rw[<-a2,<-b2,e])
 ·intro h;refine⟨λp hp=>⟨h.p (oR ho hp),λ_=>rfl⟩,(SI ho).imp_of_mem λ{p q} hp hq hlt=>h.u (oR ho hp) (oR ho hq) λe=>?_⟩;rw[e,dz] at hlt;cases hlt
def sU(h:cM c ps=true):j9 c=true/\ec (ps.map ai.name)=true/\ps.length<=20000:=by
 unfold cM at h;simp only[ac,bh,wd] at h;exact⟨h.1,h.2.2.1,by omega⟩
def Ip{x:ai}{n:List Nat}:∀{l:List ai},bF (nj x l) n=if n=x.name then some x else bF l n
 | []=>by
  unfold nj bF;rw[b4];by_cases h:n=x.name
  ·rw[t8 h,ut h.symm]
  ·rw[ul h,un λe=>h e.symm]
 | y::l=>by
  have ih:=Ip (x:=x) (n:=n) (l:=l)
  have cons:∀(z:ai) (r:List ai),bF (z::r) n=if n=z.name then some z else bF r n:=λz r=>by
   unfold bF;rw[b4];by_cases h:n=z.name
   ·rw[t8 h,ut h.symm]
   ·rw[ul h,un λe=>h e.symm]
  rw[nj];split
  ·rename_i h;rw[cons,ih,cons];by_cases e:n=y.name
   ·rw[t8 e,t8 e,ul];intro e2;rw[<-e,e2,dz] at h;cases h
   ·rw[ul e,ul e]
  ·split
   ·rename_i e;rw[cons,cons,e];split<;>rfl
   ·rw[cons]
def RJ{n:List Nat}(l:List ai):bF (bY l x) n=if n=x.name then some x else bF l n:=by
 rw[jc,Ip]
variable{F:List Nat->Option ai}
def VF.put(h:VF c F)(hr:dm c x=true)(hs:x.aO=[]↔x.slot=[])
 (hh:x.aO≠[]->∃h,(if x.aO=x.name then some x else F x.aO)=some h/\x.bI=false/\h.bI=false/\mW c h.kind x.slot x.kind=true)
 (hf:x.aO≠[]->∀n q,n≠x.name->F n=some q->¬(q.aO=x.aO/\q.slot=x.slot))
 (hg:∀n q,n≠x.name->F n=some q->q.aO≠[]->q.aO=x.name->x.bI=false/\mW c x.kind q.slot q.kind=true):VF c λn=>if n=x.name then some x else F n:=by
 have out:∀{n p},n≠x.name->(if n=x.name then some x else F n)=some p->F n=some p:=λe k=>by rw[ul e] at k;exact k
 refine⟨λ{n p} k=>?_,λ{n p} k=>?_,λ{m n p q} k1 k2 hne=>?_⟩
 ·by_cases e:n=x.name
  ·rw[t8 e] at k;cases k;exact e.symm
  ·exact h.n (out e k)
 ·by_cases e:n=x.name
  ·rw[t8 e] at k;cases k;exact⟨hr,hs,hh⟩
  ·have k2:=out e k;have hp:=h.p k2;refine⟨hp.r,hp.s,λk3=>?_⟩;obtain⟨g,g1,g2,g3,g4⟩:=hp.h k3;by_cases e2:p.aO=x.name
   ·obtain⟨f1,f2⟩:=hg n p e k2 k3 e2;exact⟨x,t8 e2,g2,f1,f2⟩
   ·exact⟨g,by rw[ul e2];exact g1,g2,g3,g4⟩
 ·by_cases e:m=x.name
  ·have e2:n≠x.name:=λe2=>hne (e.trans e2.symm);rw[t8 e] at k1;cases k1;exact λk=>hf k n q e2 (out e2 k2)
  ·by_cases e2:n=x.name
   ·rw[t8 e2] at k2;cases k2;exact HJ.symm λk=>hf k m p e (out e k1)
   ·exact h.u (out e k1) (out e2 k2) hne
def VF.RR(h:VF c F){p:ai}(hF:F p.name=some p)(h1:x.name=p.name)(h2:x.kind=p.kind)(h3:x.bI=p.bI):∀n q,n≠x.name->F n=some q->q.aO≠[]->q.aO=x.name->x.bI=false/\mW c x.kind q.slot q.kind=true:=by
 intro n q _ hq hi e;obtain⟨g,g1,g2,g3,g4⟩:=(h.p hq).h hi;rw[e,h1,hF] at g1;cases g1;rw[h3,h2];exact⟨g3,g4⟩
def VF.same(h:VF c F){p:ai}(hF:F p.name=some p)(hr:dm c x=true)(h1:x.name=p.name)(h2:x.kind=p.kind)(h3:x.bI=p.bI)(h4:x.aO=p.aO)(h5:x.slot=p.slot):VF c λn=>if n=x.name then some x else F n:=by
 have hp:=h.p hF;refine h.put hr (by rw[h4,h5];exact hp.s) (λk=>?_) (λk n q hn hq=>?_) (h.RR hF h1 h2 h3)
 ·obtain⟨g,g1,g2,g3,g4⟩:=hp.h (by rw[<-h4];exact k);by_cases e:x.aO=x.name
  ·rw[h4,h1] at e;rw[e,hF] at g1;cases g1;exact⟨x,by rw[h4,h1,t8 e],by rw[h3];exact g2,by rw[h3];exact g2,by rw[h2,h5];exact g4⟩
  ·exact⟨g,by rw[ul e,h4];exact g1,by rw[h3];exact g2,g3,by rw[h2,h5];exact g4⟩
 ·have:=h.u hF hq λe=>hn (by rw[h1];exact e.symm);rw[h4] at k ⊢;rw[h5];exact this k
def yI(x:bN):List bN->List bN
 | []=>[x]
 | y::l=>if fZ y.key x.key=true then y::yI x l else if y.key=x.key then x::l else x::y::l
def yT(x:bN):∀l:List bN,iF l x=yI x l
 | []=>by simp[iF,o8,jo,yI]
 | y::l=>by
  have ih:=yT x l;unfold iF o8 at ih ⊢;rw[yI,fl];split
  ·rename_i h
   have e:jo (y::l) x.key (g6 (y::en (λp=>fZ p.key x.key) l))=jo l x.key (en (λp=>fZ p.key x.key) l).length:=by
    unfold jo;rw[i7,ct]
   rw[e,i7,fx,fm,fd,cb];split at ih<;>rename_i hf
   ·rw[t8 hf,ih]
   ·rw[ul hf,ih]
  ·rename_i h;rw[g9];unfold jo;simp only[el,set_cons_zero,take_zero,drop_zero,nil_append,wp]
def Ef{x:bN}:∀{l:List bN},ec (l.map bN.key)=true->ec ((yI x l).map bN.key)=true/\∀p∈yI x l,p=x\/p∈l
 | [],_=>⟨rfl,λp hp=>by rw[yI,ei] at hp;exact .inl hp⟩
 | y::l,ho=>by
  obtain⟨i1,i2⟩:=Ef (x:=x) (l:=l) (gC ho);have hlt:=ma (a:=y.key) (l:=l.map bN.key) ho
  have cons:∀{a:bN} {r:List bN},(∀p∈r,fZ a.key p.key=true)->ec (r.map bN.key)=true->ec ((a::r).map bN.key)=true:=by
   intro a r h1 h2
   cases r with
   | nil=>rfl
   | cons b r=>
    rw[be,be,ec,ac];exact⟨h1 b aj,by rw[be] at h2;exact h2⟩
  rw[yI];split
  ·rename_i h;refine⟨cons (λp hp=>?_) i1,λp hp=>?_⟩
   ·rcases i2 p hp with rfl | hp
    ·exact h
    ·exact hlt _ (a0 hp)
   ·rcases rt hp with rfl | hp
    ·exact .inr aj
    ·exact(i2 p hp).imp id (ap _)
  ·rename_i h;split
   ·rename_i e;refine⟨cons (λp hp=>by rw[<-e];exact hlt _ (a0 hp)) (gC ho),λp hp=>?_⟩
    rcases rt hp with rfl | hp
    ·exact .inl rfl
    ·exact .inr (ap _ hp)
   ·rename_i e
    have hxy:fZ x.key y.key=true:=by
     rcases j6 x.key y.key with k | k | k
     ·exact k
     ·exact t7 k.symm e
     ·exact t7 k h
    refine⟨cons (λp hp=>?_) ho,λp hp=>?_⟩
    ·rcases rt hp with rfl | hp
     ·exact hxy
     ·exact fO hxy (hlt _ (a0 hp))
    ·rcases rt hp with rfl | hp
     ·exact .inl rfl
     ·exact .inr hp
def pY(h:dD e=true):0<=e.day/\e.day<=40000/\cB e.part=true/\e.lE=true/\∀s∈e.names,cB s=true:=by
 unfold dD at h;simp only[ac,bh,wd] at h;obtain⟨_,h1,h2,h3,h4,_,h6⟩:=h;exact⟨by omega,by omega,h3,h4,λs hs=>by simpa using any_eq_false.1 h6 s hs⟩
def NV{s:List Nat}(h:cB s=true):s≠[]:=λe=>by rw[e] at h;cases h
def JC{p:ai}(h:dm c p=true)(he:dD e=true):dm c (lQ p e)=true:=by
 obtain⟨h1,h2,_⟩:=pY he;unfold dm at h ⊢;simp only[ac,bh,wd] at h ⊢;obtain⟨a1,a2,a3,a4,a5,a6,a7,a8,_⟩:=h;refine⟨a1,a2,a3,?_,?_,a6,a7,a8,rfl,rfl,rfl⟩
 ·show ¬dM p.since e.day<p.made;unfold dM;split<;>omega
 ·show ¬40000<dM p.since e.day;unfold dM;split<;>omega
def L4{p:ai}(h:dm c p=true)(he:dD e=true)(h6:e.op=6)(hl:¬60<((iF p.props ⟨e.key,e.value⟩).length:Int)):dm c (qw p e)=true:=by
 obtain⟨_,_,_,hm,hn⟩:=pY he;have hk:cB e.key=true:=hn _ (by unfold bj.names;rw[h6];exact qr rfl)
 have hv:pa ⟨e.key,e.value⟩=true:=by
  unfold bj.lE at hm;rw[h6] at hm;simp only[show ¬(6:Int)=1 by decide,show ¬(6:Int)=2 by decide,if_false,if_true,ac,bh,wd] at hm;unfold pa;simp only[hk,hD,ac,bh,wd,wp];exact⟨hm.1,by omega⟩
 unfold dm at h ⊢;simp only[ac,bh,wd] at h ⊢;obtain⟨a1,a2,a3,a4,a5,a6,a7,a8,a9⟩:=h;refine⟨a1,a2,a3,a4,a5,hl,?_,?_,a9⟩
 ·show(iF p.props ⟨e.key,e.value⟩).all pa=true;rw[all_eq_true] at a7 ⊢;intro x hx
  rcases yU hx with rfl | hx
  ·exact hv
  ·exact a7 x hx
 ·show ec ((iF p.props ⟨e.key,e.value⟩).map bN.key)=true;rw[yT];exact(Ef a8).1
def P8(he:dD e=true)(hk:¬(fc c e.kind).isNone=true):dm c (nw e)=true:=by
 obtain⟨h1,h2,h3,_⟩:=pY he;unfold dm nw;simp only[ac,bh,wd];refine⟨?_,h3,by omega,by omega,by omega,by simp,rfl,rfl,rfl,rfl,rfl⟩
 cases h:fc c e.kind with
 | none=>rw[h] at hk;exact t7 rfl hk
 | some k=>rfl
def Vl{p h:ai}(hV:VF c (bF ps))(he:dD e=true)(hF:bF ps p.name=some p)(hH:e.op=2->bF ps e.aO=some h/\p.name=e.part)(hps:p.bI=false)(hhs:h.bI=false)(h0:(gl c ps e p h).2=0):∃x,(gl c ps e p h).1=bY ps x/\VF c (λn=>if n=x.name then some x else bF ps n):=by
 have hp:=hV.p hF;unfold gl at h0 ⊢;simp only at h0 ⊢;by_cases h2:e.op=2
 ·rw[t8 h2] at h0 ⊢;obtain⟨g1,g2⟩:=hH h2;obtain⟨_,_,_,hm,hn⟩:=pY he;have hi:e.aO≠[]:=NV (hn _ (by unfold bj.names;rw[h2];exact aj));have hs:e.slot≠[]:=NV (hn _ (by unfold bj.names;rw[h2];exact ap _ aj))
  have hne:e.aO≠e.part:=by
   unfold bj.lE at hm;rw[h2] at hm;simpa using hm
  split at h0
  ·cases h0
  rename_i k1;rw[ul k1];split at h0
  ·cases h0
  rename_i k2;rw[ul k2];split at h0
  ·cases h0
  rename_i k3;rw[ul k3];simp only[f8,not_or,f4,Bool.not_eq_false'] at k1;refine⟨_,rfl,hV.put (x:=xJ p e) hp.r ⟨λk=>t7 k hi,λk=>t7 k hs⟩ (λ_=>⟨h,?_,hps,hhs,k1.2⟩) (λ_ n q _ hq k=>?_) (hV.RR hF rfl rfl rfl)⟩
  ·show(if e.aO=p.name then some (xJ p e) else bF ps e.aO)=some h;rw[ul (by rw[g2];exact hne)];exact g1
  ·refine k3 (any_eq_true.2 ⟨q,(jm hq).1,?_⟩);rw[ac,wp,wp];exact k
 rw[ul h2] at h0 ⊢;by_cases h3:e.op=3
 ·rw[t8 h3] at h0 ⊢;split at h0
  ·cases h0
  rename_i k1;rw[ul k1];exact⟨_,rfl,hV.put (x:=Ao p) hp.r ⟨λ_=>rfl,λ_=>rfl⟩ (λk=>t7 rfl k) (λk=>t7 rfl k) (hV.RR hF rfl rfl rfl)⟩
 rw[ul h3] at h0 ⊢;by_cases h4:e.op=4
 ·rw[t8 h4] at h0 ⊢;split at h0
  ·rename_i k1;rw[t8 k1];exact⟨_,rfl,hV.same hF hp.r rfl rfl rfl rfl rfl⟩
  ·cases h0
 rw[ul h4] at h0 ⊢;by_cases h5:e.op=5
 ·rw[t8 h5] at h0 ⊢;exact⟨_,rfl,hV.same (x:=lQ p e) hF (JC hp.r he) rfl rfl rfl rfl rfl⟩
 rw[ul h5] at h0 ⊢;by_cases h6:e.op=6
 ·rw[t8 h6] at h0 ⊢;split at h0
  ·cases h0
  rename_i k1;rw[ul k1];exact⟨_,rfl,hV.same (x:=qw p e) hF (L4 hp.r he h6 k1) rfl rfl rfl rfl rfl⟩
 rw[ul h6] at h0 ⊢;by_cases h7:e.op=7
 ·rw[t8 h7] at h0 ⊢;split at h0
  ·cases h0
  rename_i k1;rw[ul k1];split at h0
  ·cases h0
  rename_i k2;rw[ul k2];have k1:p.aO=[]:=Decidable.not_not.1 k1;refine⟨_,rfl,hV.put (x:=rS p) hp.r hp.s (λk=>t7 k1 k) (λk=>t7 k1 k) λn q _ hq hi k=>?_⟩;exact t7 (any_eq_true.2 ⟨q,(jm hq).1,ut k⟩) k2
 rw[ul h7] at h0 ⊢;exact⟨_,rfl,hV.same hF hp.r rfl rfl rfl rfl rfl⟩
def It(hlen:ps.length<20000)(h0:(aK c ps e).2=0):(cM c (aK c ps e).1=true/\(aK c ps e).1.length<=ps.length+1)/\dD e=true:=by
 unfold aK at h0 ⊢;split at h0;rotate_left
 ·cases h0
 rename_i hv;rw[t8 hv];split at h0;rotate_left
 ·cases h0
 rename_i he;rw[t8 he];refine⟨?_,he⟩;obtain⟨hc,ho,_⟩:=sU hv;have hV:=(wX hc ho gt).1 hv
 have fin:∀x,VF c (λn=>if n=x.name then some x else bF ps n)->cM c (bY ps x)=true/\(bY ps x).length<=ps.length+1:=λx hx=>by
  have hl:=F2 x ps;rw[<-jc] at hl;refine⟨(wX hc (by rw[jc];exact(F3 ho).1) gt).2 ?_,hl⟩;rw[show bF (bY ps x)=λn=>if n=x.name then some x else bF ps n from funext λn=>RJ ps];exact hx
 by_cases h1:e.op=1
 ·rw[t8 h1] at h0 ⊢;rw[dq] at h0 ⊢;unfold vN at h0 ⊢;split at h0
  ·cases h0
  rename_i k1;rw[ul k1];split at h0
  ·cases h0
  rename_i k2;rw[ul k2];split at h0
  ·cases h0
  rename_i k3;rw[ul k3];refine fin _ (hV.put (P8 he k2) ⟨λ_=>rfl,λ_=>rfl⟩ (λk=>t7 rfl k) (λk=>t7 rfl k) λn q _ hq hi k=>?_);obtain⟨g,g1,_⟩:=(hV.p hq).h hi;rw[k] at g1;have g1:bF ps e.part=some g:=g1;rw[g1] at k1;exact t7 rfl k1
 ·rw[ul h1] at h0 ⊢;rw[dq,dq] at h0 ⊢
  cases hp:bF ps e.part with
  | none=>rw[hp] at h0;cases h0
  | some p=>
   rw[hp] at h0;have hpn:=(jm hp).2
   cases hh:(if e.op=2 then bF ps e.aO else some p) with
   | none=>rw[hh] at h0;cases h0
   | some h=>
    rw[hh] at h0;simp only at h0 ⊢;split at h0
    ·cases h0
    rename_i k;rw[ul k];simp only[f8,not_or,f4] at k;obtain⟨x,x1,x2⟩:=Vl hV he (by rw[hpn];exact hp) (λh2=>by rw[t8 h2] at hh;exact⟨hh,hpn⟩) k.1 k.2 h0;rw[x1];exact fin x x2
def vP(a b:Int):dI a b<=a/\dI a b<=b:=by unfold dI;split<;>omega
def AQ(a b:Int):a<=dM a b/\b<=dM a b:=by unfold dM;split<;>omega
variable{a:Int}{b:Int}
def AW{l:Int}(h1:l<=a)(h2:l<=b):l<=dI a b:=by unfold dI;split<;>assumption
def AU{l:Int}(h1:a<=l)(h2:b<=l):dM a b<=l:=by unfold dM;split<;>assumption
def T4(h1:0<=a)(h2:a<=1000000000000)(h3:0<=b)(h4:b<=1000000000000):FC a b=a+b:=by
 unfold FC dJ
 rw[show(qK (KR .i64) (a+b)&&qK (a+b) (KP .i64))=true by
  simp only[ac,gQ,wp,KR,KP]
  omega]
 rfl
def wa(h1:0<=a)(h2:a<=1000000000000)(h3:0<=b)(h4:b<=1000000000000):0<=iE a b/\iE a b<=1000000000000:=by
 unfold iE Vh;rw[T4 h1 h2 h3 h4];exact⟨hE (AW gt gt) (AQ _ _).2,AU gt (vP _ _).2⟩
def Ba{c d:Int}(h:tL a b=true)(hc:0<=c)(hd:0<=d):tL (fq iE a b c d).1 (fq iE a b c d).2=true:=by
 unfold tL at h;simp only[ac,wp] at h;unfold fq;split
 ·rename_i k;unfold nY at k;simp only[ac,wp] at k;have p1:=wa h.1 gt hc gt;have p2:=wa h.1 gt hd gt;have p3:=wa (a:=b) gt h.2.2 hc gt;have p4:=wa (a:=b) gt h.2.2 hd gt;unfold tL;simp only[ac,wp];exact⟨AW (AW (AW p1.1 p2.1) p3.1) p4.1,hE (vP _ _).2 (AQ _ _).2,AU (AU (AU p1.2 p2.2) p3.2) p4.2⟩
 ·rfl
def O7(f:aX)(u:jj):0<=(ng f u).1/\0<=(ng f u).2:=by
 unfold ng;split
 ·exact⟨(AQ _ _).1,(AQ _ _).1⟩
 ·exact⟨Int.le_refl _,Int.le_refl _⟩
def W7(he:dD e=true)(h4:e.op=4):(0<=e.u1/\0<=e.u2)/\(0<=e.u3/\0<=e.u4)/\0<=e.u5/\0<=e.u6:=by
 obtain⟨_,_,_,hm,_⟩:=pY he;unfold bj.lE at hm;rw[h4] at hm;simp only[show ¬(4:Int)=1 by decide,show ¬(4:Int)=2 by decide,show ¬(4:Int)=6 by decide,if_false,if_true,bj.use,kL,ac,bh,wd] at hm;omega
structure QH (f:ai->ai):Prop where
 n:∀p,(f p).name=p.name
 k:∀p,(f p).kind=p.kind
 i:∀p,(f p).aO=p.aO
 s:∀p,(f p).slot=p.slot
 x:∀p,(f p).bI=p.bI
def p8{f:ai->ai}(hf:∀p,(f p).name=p.name)(n:List Nat):∀ps:List ai,bF (ps.map f) n=(bF ps n).map f
 | []=>rfl
 | p::ps=>by
  have ih:=p8 hf n ps;unfold bF at ih ⊢;rw[be,b4,b4,hf,ih];split<;>rfl
def Ez{f:ai->ai}(hf:∀p,(f p).name=p.name)(ps:List ai):(ps.map f).map ai.name=ps.map ai.name:=by
 rw[map_map];exact dN λp _=>hf p
def Fs{f:ai->ai}(hf:QH f)(hr:∀p,dm c p=true->dm c (f p)=true)(h:cM c ps=true):cM c (ps.map f)=true:=by
 obtain⟨hc,ho,hl⟩:=sU h;have hV:=(wX hc ho hl).1 h;refine(wX hc (by rw[Ez hf.n];exact ho) (by rw[ay];exact hl)).2 ?_
 have inv:∀{n p},bF (ps.map f) n=some p->∃q,bF ps n=some q/\f q=p:=λ{n p} k=>by
  rw[p8 hf.n] at k
  cases hq:bF ps n with
  | none=>rw[hq] at k;cases k
  | some q=>rw[hq] at k;cases k;exact⟨q,rfl,rfl⟩
 refine⟨λk=>?_,λk=>?_,λk1 k2 hne=>?_⟩
 ·obtain⟨q,h1,rfl⟩:=inv k;rw[hf.n];exact hV.n h1
 ·obtain⟨q,h1,rfl⟩:=inv k;have hp:=hV.p h1;refine⟨hr q hp.r,by rw[hf.i,hf.s];exact hp.s,λk=>?_⟩;rw[hf.i] at k ⊢;obtain⟨g,g1,g2,g3,g4⟩:=hp.h k;exact⟨f g,by rw[p8 hf.n,g1];rfl,by rw[hf.x];exact g2,by rw[hf.x];exact g3,by rw[hf.k,hf.k,hf.s];exact g4⟩
 ·obtain⟨q,h1,rfl⟩:=inv k1;obtain⟨r,h2,rfl⟩:=inv k2;unfold HJ;rw[hf.i,hf.i,hf.s,hf.s];exact hV.u h1 h2 hne
def L3{p:ai}(u:jj)(d:Int×Int)(h:dm c p=true)(h1:0<=u.u1/\0<=u.u2)(h2:0<=u.u3/\0<=u.u4)(h3:0<=d.1/\0<=d.2):dm c (u7 u d p)=true:=by
 unfold dm at h ⊢;simp only[ac] at h ⊢;obtain⟨a1,a2,a3,a4,a5,a6,a7,a8,b1,b2,b3⟩:=h;exact⟨a1,a2,a3,a4,a5,a6,a7,a8,Ba b1 h1.1 h1.2,Ba b2 h2.1 h2.2,Ba b3 h3.1 h3.2⟩
def C2(dmg:aX)(ins:List (List Nat))(e:bj):QH (sT dmg ins e):=by
 constructor<;>intro p<;>unfold sT<;>split<;>rfl
def Qy(he:dD e=true)(h4:e.op=4)(h:cM c ps=true):cM c (nz dmg ps e)=true:=by
 obtain⟨h1,h2,_⟩:=W7 he h4;refine Fs (C2 _ _ _) (λp hp=>?_) h;unfold sT;split
 ·exact L3 _ _ hp h1 h2 (O7 _ _)
 ·exact hp
def bare(p:ai):ai:={ p with l1:=0,l2:=0,l3:=0,l4:=0,l5:=0,l6:=0 }
def lN:QH bare:=⟨λ_=>rfl,λ_=>rfl,λ_=>rfl,λ_=>rfl,λ_=>rfl⟩
def K0{p:ai}(h:dm c p=true):dm c (bare p)=true:=by
 unfold dm at h ⊢;simp only[ac] at h ⊢;obtain⟨a1,a2,a3,a4,a5,a6,a7,a8,_⟩:=h;exact⟨a1,a2,a3,a4,a5,a6,a7,a8,rfl,rfl,rfl⟩
def N4{f:ai->ai}(hf:∀p,(f p).name=p.name)(x:ai)(l:List ai):bY (l.map f) (f x)=(bY l x).map f:=by
 rw[jc,jc]
 induction l with
 | nil=>rfl
 | cons y l ih=>
  rw[be,nj,nj,hf,hf,ih];split
  ·rfl
  ·split<;>rfl
def Qe{p h:ai}:gl c (ps.map bare) e (bare p) (bare h)=((gl c ps e p h).1.map bare,(gl c ps e p h).2):=by
 have ha:∀g:ai->Bool,(∀q,g (bare q)=g q)->(ps.map bare).any g=ps.any g:=λg hg=>by
  rw[List.any_map];exact n9 (ps.any ·) (funext hg)
 have put:=λx=>N4 lN.n x ps;have a1:=ha (λq=>decide (q.aO=e.aO)&&decide (q.slot=e.slot)) λ_=>rfl;have a2:=ha (λq=>decide (q.aO=p.name)) λ_=>rfl;unfold gl;simp only;rw[a1,show(bare p).name=p.name from rfl,a2]
 repeat' split
 all_goals first
  | rfl
  | contradiction
  | exact ext (put (xJ p e)) rfl
  | exact ext (put (Ao p)) rfl
  | exact ext (put (lQ p e)) rfl
  | exact ext (put (qw p e)) rfl
  | exact ext (put (rS p)) rfl
  | exact ext (put p) rfl
def Lm(hv:cM c ps=true):aK c (ps.map bare) e=((aK c ps e).1.map bare,(aK c ps e).2):=by
 have hv2:cM c (ps.map bare)=true:=Fs lN (λp=>K0) hv;unfold aK;rw[t8 hv,t8 hv2];split;rotate_left
 ·rfl
 split
 ·rw[dq,dq,p8 lN.n,Option.isSome_map];unfold vN;rw[ay]
  repeat' split
  all_goals first
   | rfl
   | exact ext (N4 lN.n (nw e) ps) rfl
 ·rw[dq,dq,dq,dq,p8 lN.n,p8 lN.n];rw[show(if e.op=2 then Option.map bare (bF ps e.aO) else Option.map bare (bF ps e.part))=Option.map bare (if e.op=2 then bF ps e.aO else bF ps e.part) by split<;>rfl]
  cases bF ps e.part with
  | none=>rfl
  | some p=>
   cases (if e.op=2 then bF ps e.aO else some p) with
   | none=>rfl
   | some h=>
    simp only[m6];rw[show(bare p).bI=p.bI from rfl,show(bare h).bI=h.bI from rfl];split
    ·rfl
    ·exact Qe
def TP(dmg:aX)(ps:List ai)(e:bj):(nz dmg ps e).map bare=ps.map bare:=by
 unfold nz;rw[map_map];refine dN λp _=>?_;show bare (sT _ _ _ p)=bare p;unfold sT;split<;>rfl
def qg(u:Bool)(c:List aF)(dmg:aX):List bj->List ai->List ai×Int
 | [],s=>(s,0)
 | e::r,s=>if (aK c s e).2=0 then qg u c dmg r (if u=true/\e.op=4 then nz dmg (aK c s e).1 e else (aK c s e).1) else ([],(aK c s e).2)
def GM{c:List aF}{dmg:aX}:∀(l:List bj) (i:Nat) (s:List ai),(qD c dmg i l s).1=(qg true c dmg l s).1
 | [],_,_=>rfl
 | e::r,i,s=>by
  rw[qD,qg];split
  ·split
   ·rename_i h;rw[t8 ⟨rfl,h⟩];exact GM r _ _
   ·rename_i h;rw[ul λk=>h k.2];exact GM r _ _
  ·rfl
def Gm{u:Bool}{s:List ai}(hl:s.length<20000)(h0:(aK c s e).2=0):cM c (if u=true/\e.op=4 then nz dmg (aK c s e).1 e else (aK c s e).1)=true/\(if u=true/\e.op=4 then nz dmg (aK c s e).1 e else (aK c s e).1).length<=s.length+1:=by
 obtain⟨⟨h1,h2⟩,he⟩:=It hl h0;split
 ·rename_i k;exact⟨Qy he k.2 h1,by unfold nz;rw[ay];exact h2⟩
 ·exact⟨h1,h2⟩
def NG{c:List aF}{dmg:aX}:∀(l:List bj) (s:List ai),cM c s=true->s.length+l.length<=20000->(qg false c dmg l (s.map bare)).2=(qg true c dmg l s).2
 | [],_,_,_=>rfl
 | e::r,s,hv,hl=>by
  rw[i7] at hl;rw[qg,qg,Lm hv];by_cases h0:(aK c s e).2=0
  ·obtain⟨n1,n2⟩:=Gm (u:=true) (dmg:=dmg) gt h0;rw[t8 h0,t8 h0,ul λk:false=true/\_=>bw k.1,<-NG r _ n1 gt];split
   ·rw[TP]
   ·rfl
  ·rw[ul h0,ul h0]
def RP{u:Bool}{c:List aF}{dmg:aX}:∀(a b:List bj) (s:List ai),(qg u c dmg (a++b) s).2=0->(qg u c dmg a s).2=0
 | [],_,_,_=>rfl
 | e::a,b,s,h=>by
  rw[cb,qg] at h;rw[qg];split at h
  ·rename_i h0;rw[t8 h0];exact RP a b _ h
  ·rename_i h0;exact t7 h h0
def oU(ps:List ai)(part:List Nat):iK:=(ps.filter λp=>!(decide (p.aO=[]))&&!(decide (p.name=part))).map λp=>(p.name,p.aO)
def Yi:Nat->List ai->List (List Nat×Int)
 | _,[]=>[]
 | i,p::ps=>(p.name,(i:Int))::Yi (i+1) ps
def Nj:∀{ps:List ai} {i:Nat} {m:List (List Nat×Int)},ec (ps.map ai.name)=true->(∀p∈ps,cz p.name m=false)->oH i m ps=m++Yi i ps
 | [],_,m,_,_=>(b0 m).symm
 | p::ps,i,m,ho,hm=>by
  have hp:=hm p aj;have hlt:=ma (a:=p.name) (l:=ps.map ai.name) ho;rw[oH,hp,ul bw,mH hp,Nj (gC ho) λq hq=>?_,b8]
  ·rfl
  ·have h1:=hm q (ap _ hq);have h2:=hlt _ (a0 hq);unfold cz at h1 ⊢;rw[List.any_append,h1,List.any_cons,List.any_nil,Bool.or_false,Bool.false_or,wd];intro e;rw[e,dz] at h2;cases h2
def EY{full:List ai}:∀{ps:List ai} {i:Nat},full.drop i=ps->kE full (Yi i ps)=(ps.filter λp=>!(decide (p.aO=[]))).map λp=>(p.name,p.aO)
 | [],_,_=>rfl
 | p::ps,i,h=>by
  have hp:full[i]?=some p:=by
   have:=n9 (λl=>l[0]?) h;simpa using this
  have h2:full.drop (i+1)=ps:=by
   have:=n9 (List.drop 1) h;simpa using this
  have ih:=EY h2
  have hi:xV full (i:Int)=p.aO:=by unfold xV;rw[d9,hp]
  unfold kE at ih ⊢;rw[Yi,cl,ad,ih,hi];by_cases e:p.aO=[]
  ·rw[t8 e,ut e];rfl
  ·rw[ul e,un e];rfl
def Nx{part:List Nat}:∀{ps:List ai},ec (ps.map ai.name)=true->kR part ((ps.filter λp=>!(decide (p.aO=[]))).map λp=>(p.name,p.aO))=oU ps part
 | [],_=>rfl
 | p::ps,ho=>by
  have ih:=Nx (part:=part) (gC ho);have hlt:=ma (a:=p.name) (l:=ps.map ai.name) ho;unfold oU at ih ⊢;rw[ad,ad];by_cases e:p.aO=[]
  ·rw[ut e];exact ih
  ·rw[un e];by_cases h:part=p.name
   ·rw[ut h.symm];show kR part ((p.name,p.aO)::_)=_;rw[kR,t8 h];refine n9 (List.map _) (b9 λq hq=>?_);have h2:=hlt _ (a0 hq);rw[un (p:=q.name=part) λk=>by rw[k,h,dz] at h2;cases h2];simp
   ·rw[un λk=>h k.symm];show kR part ((p.name,p.aO)::_)=(p.name,p.aO)::_;rw[kR,ul h,ih]
def EZ(ho:ec (ps.map ai.name)=true)(part:List Nat):Jz ps part=oU ps part:=by
 unfold Jz;rw[Nj ho λ_ _=>rfl,nil_append,EY (drop_zero (l:=ps)),Nx ho]
def yL:∀(n:Nat) (r:iK) (ls:List (List Nat)),r.length+2<=n->cm (n+1) r ls=cm n r ls
 | 0,_,_,h=>by omega
 | n+1,r,ls,h=>by
  show(if ls=[] then [] else ((r.filter λe=>ls.contains e.2).map (·.1))++cm (n+1) (r.filter λe=>!ls.contains e.2) ((r.filter λe=>ls.contains e.2).map (·.1)))=if ls=[] then [] else ((r.filter λe=>ls.contains e.2).map (·.1))++cm n (r.filter λe=>!ls.contains e.2) ((r.filter λe=>ls.contains e.2).map (·.1))
  split
  ·rfl
  congr 1
  generalize hP:(r.filter λe=>ls.contains e.2)=P
  cases P with
  | nil=>
   rw[List.map_nil]
   cases n with
   | zero=>omega
   | succ n=>simp[cm]
  | cons x P=>
   refine yL n _ _ ?_
   have hx:x∈r.filter λe=>ls.contains e.2:=by rw[hP];exact List.mem_cons_self
   rw[List.mem_filter] at hx
   have:(r.filter λe=>!ls.contains e.2).length<r.length:=by
    refine Nat.lt_of_le_of_ne (List.length_filter_le _ _) λk=>?_;have:=List.length_filter_eq_length_iff.1 k x hx.1;rw[hx.2] at this;cases this
   omega
def sw{r:iK}{n:Nat}(h:r.length+2<=n):cm n r ls=cm (r.length+2) r ls:=by
 obtain⟨d,rfl⟩:∃d,n=r.length+2+d:=⟨n-(r.length+2),by omega⟩;clear h
 induction d with
 | zero=>rfl
 | succ d ih=>rw[show r.length+2+(d+1)=(r.length+2+d)+1 by omega,yL _ _ _ gt,ih]
section
variable {A:List Nat->Bool}
def Eh:∀(n:Nat) {r:iK} {ls:List (List Nat)},(∀e∈r,A e.1=A e.2)->(∀x∈ls,A x=true)->cm n r ls=cm n (r.filter λe=>A e.1) ls/\∀x∈cm n r ls,A x=true
 | 0,_,_,_,_=>⟨rfl,λx hx=>by cases hx⟩
 | n+1,r,ls,hr,hls=>by
  have hk:∀e∈r,ls.contains e.2=true->A e.1=true:=λe he h=>by rw[hr e he];exact hls _ (contains_iff_mem.1 h)
  have e1:((r.filter λe=>A e.1).filter λe=>ls.contains e.2)=r.filter λe=>ls.contains e.2:=by
   rw[b7];refine b9 λe he=>?_;cases h:ls.contains e.2
   ·rfl
   ·rw[hk e he h];rfl
  have e2:((r.filter λe=>A e.1).filter λe=>!ls.contains e.2)=(r.filter λe=>!ls.contains e.2).filter λe=>A e.1:=by
   rw[b7,b7];exact b9 λe _=>g8 _ _
  have hP:∀x∈(r.filter λe=>ls.contains e.2).map (·.1),A x=true:=λx hx=>by
   obtain⟨e,he,rfl⟩:=mem_map.1 hx;rw[mem_filter] at he;exact hk e he.1 he.2
  obtain⟨i1,i2⟩:=Eh n (r:=r.filter λe=>!ls.contains e.2) (ls:=(r.filter λe=>ls.contains e.2).map (·.1)) (λe he=>hr e (mem_filter.1 he).1) hP;rw[cm,cm,e1,e2];split
  ·exact⟨rfl,λx hx=>by cases hx⟩
  ·refine⟨n9 _ i1,λx hx=>?_⟩
   rcases mem_append.1 hx with hx | hx
   ·exact hP x hx
   ·exact i2 x hx
def IC(hap:mi A ps)(ho:ec (ps.map ai.name)=true){part:List Nat}(hA:A part=true):iC (bP A ps) part=iC ps part/\∀x∈iC ps part,A x=true:=by
 have hr:∀e∈oU ps part,A e.1=A e.2:=λe he=>by
  obtain⟨p,hp,rfl⟩:=mem_map.1 he;rw[mem_filter] at hp
  exact hap p hp.1 λk=>by have:=hp.2;rw[ut k] at this;cases this
 have hk:oU (bP A ps) part=(oU ps part).filter λe=>A e.1:=by
  unfold oU bP;rw[b7,ga,b7];exact n9 (List.map _) (b9 λp _=>g8 _ _)
 have hls:∀x∈[part],A x=true:=λx hx=>by rw[rc hx];exact hA
 have hlen:∀qs:List ai,(oU qs part).length<=qs.length:=λqs=>by unfold oU;rw[ay];exact bi _ _
 have hh:∀qs:List ai,cz part (oH 0 [] qs)=(bF qs part).isSome:=λqs=>by rw[(FD part qs 0 []).1];rfl
 obtain⟨i1,i2⟩:=Eh ((oU ps part).length+2) hr hls;have l1:=hlen ps;have l2:=hlen (bP A ps)
 have l3:(oU (bP A ps) part).length<=(oU ps part).length:=by rw[hk];exact bi _ _
 unfold iC;rw[hh,hh,jn hA,EZ ho,EZ (vW ho),sw (n:=ps.length+2) gt,sw (n:=(bP A ps).length+2) gt,<-sw (r:=oU (bP A ps) part) (n:=(oU ps part).length+2) gt,hk,<-i1];refine⟨rfl,λx hx=>?_⟩;split at hx
 ·exact i2 x ((qG _).mem_iff.1 hx)
 ·cases hx
def Jj{f:ai->ai}(hf:∀p,(f p).name=p.name)(ps:List ai):bP A (ps.map f)=(bP A ps).map f:=by
 unfold bP;rw[ga];exact n9 (List.map f) (b9 λp _=>by show A (f p).name=_;rw[hf])
def TQ(hap:mi A ps)(ho:ec (ps.map ai.name)=true)(hA:A e.part=true):bP A (nz dmg ps e)=nz dmg (bP A ps) e/\bP (nt A) (nz dmg ps e)=bP (nt A) ps/\mi A (nz dmg ps e)/\ec ((nz dmg ps e).map ai.name)=true:=by
 obtain⟨i1,i2⟩:=IC hap ho hA;have hK:=C2 dmg (iC ps e.part++[e.part]) e;unfold nz;rw[Jj hK.n,Jj hK.n,i1,Ez hK.n];refine⟨rfl,?_,λp hp hi=>?_,ho⟩
 ·refine(dN λp hp=>?_).trans (List.map_id _);have hn:=(mem_filter.1 hp).2;unfold sT;rw[ul]
  ·rfl
  ·intro k
   have hn2:A p.name=false:=by unfold nt at hn;simpa using hn
   rcases mem_append.1 (contains_iff_mem.1 k) with k | k
   ·rw[i2 _ k] at hn2;cases hn2
   ·rw[rc k,hA] at hn2;cases hn2
 ·obtain⟨q,hq,rfl⟩:=mem_map.1 hp;rw[hK.i] at hi;rw[hK.n,hK.i];exact hap q hq hi
def VW:nt (nt A)=A:=funext λn=>by unfold nt;exact Bool.not_not _
def qM(A:List Nat->Bool)(e:bj):Prop:=e.op=2->A e.aO=A e.part
def qM.nt{e:bj}(h:qM A e):qM (nt A) e:=λk=>by unfold Proofs.nt;rw[h k]
def EG{u:Bool}(hap:mi A ps)(ho:ec (ps.map ai.name)=true)(hlen:ps.length<20000)(hv:cM c ps=true)(hA:A e.part=true)(hI:qM A e):
 (aK c ps e).2=(aK c (bP A ps) e).2/\((aK c ps e).2=0->bP A (if u=true/\e.op=4 then nz dmg (aK c ps e).1 e else (aK c ps e).1)=(if u=true/\e.op=4 then nz dmg (aK c (bP A ps) e).1 e else (aK c (bP A ps) e).1)/\
  bP (nt A) (if u=true/\e.op=4 then nz dmg (aK c ps e).1 e else (aK c ps e).1)=bP (nt A) ps/\mi A (if u=true/\e.op=4 then nz dmg (aK c ps e).1 e else (aK c ps e).1)):=by
 have hv2:cM c (bP (nt A) ps)=true:=by
  rw[sV hap ho hlen,ac] at hv;exact hv.2
 have al:=RK hap ho hlen hv2 hA λk=>by rw[hI k];exact hA
 refine⟨al.e,λh0=>?_⟩;obtain⟨s1,s2,s3,s4,_⟩:=al.s h0;split
 ·obtain⟨u1,u2,u3,_⟩:=TQ (dmg:=dmg) s3 s4 hA;exact⟨by rw[u1,s1],by rw[u2,s2],u3⟩
 ·exact⟨s1,s2,s3⟩
end
def BI{u:Bool}{c:List aF}{dmg:aX}:∀(l:List bj) {A:List Nat->Bool} {s:List ai},(∀e∈l,qM A e)->mi A s->cM c s=true->s.length+l.length<=20000->
 ((qg u c dmg l s).2=0↔(qg u c dmg (l.filter λe=>A e.part) (bP A s)).2=0/\(qg u c dmg (l.filter λe=>nt A e.part) (bP (nt A) s)).2=0)/\
 ((qg u c dmg l s).2=0->bP A (qg u c dmg l s).1=(qg u c dmg (l.filter λe=>A e.part) (bP A s)).1)
 | [],_,_,_,_,_,_=>⟨⟨λ_=>⟨rfl,rfl⟩,λ_=>rfl⟩,λ_=>rfl⟩
 | e::r,A,s,hI,hap,hv,hl=>by
  rw[i7] at hl;obtain⟨_,ho,_⟩:=sU hv;have hI2:∀x∈r,qM A x:=λx hx=>hI x (List.mem_cons_of_mem _ hx);by_cases hA:A e.part=true
  ·have hn:¬nt A e.part=true:=by unfold nt;rw[hA];exact Bool.false_ne_true
   obtain⟨n1,n2⟩:=EG (u:=u) (dmg:=dmg) hap ho gt hv hA (hI e List.mem_cons_self);rw[List.filter_cons,t8 hA,List.filter_cons,ul hn,qg,qg,<-n1];split
   ·rename_i h0;obtain⟨m1,m2,m3⟩:=n2 h0;obtain⟨v1,v2⟩:=Gm (u:=u) (dmg:=dmg) gt h0;have ih:=BI (u:=u) (dmg:=dmg) r hI2 m3 v1 gt;rw[m1,m2] at ih;exact ih
   ·rename_i h0;exact⟨⟨λk=>t7 k h0,λk=>t7 k.1 h0⟩,λk=>t7 k h0⟩
  ·have hn:nt A e.part=true:=by unfold nt;cases h:A e.part<;>simp_all
   obtain⟨n1,n2⟩:=EG (A:=nt A) (u:=u) (dmg:=dmg) hap.nt ho gt hv hn (hI e List.mem_cons_self).nt;rw[VW] at n2;rw[List.filter_cons,ul hA,List.filter_cons,t8 hn,qg,qg,<-n1];split
   ·rename_i h0;obtain⟨m1,m2,m3⟩:=n2 h0;obtain⟨v1,v2⟩:=Gm (u:=u) (dmg:=dmg) gt h0;have m3:=m3.nt;rw[VW] at m3;have ih:=BI (u:=u) (dmg:=dmg) r hI2 m3 v1 gt;rw[m1,m2] at ih;exact ih
   ·rename_i h0;exact⟨⟨λk=>t7 k h0,λk=>t7 k.2 h0⟩,λk=>t7 k h0⟩
def LP(least:Int)(p:aN×Int):Bool:=!(decide (bp p.1=0))&&(!(decide (p.2<least))&&!(decide (bp p.1<=p.2)))
def gO(c:List aF)(l:List aN)(ch:List Int)(least:Int):Bool:=j9 c&&(decide (l.length=ch.length)&&(l.zip ch).all (LP least))
def CR(c:List aF)(l:List aN)(ch:List Int)(least:Int)(hc:kq c)(hl:∀r∈l,eu r)(hlen:l.length<=1000000)(hlc:ch.length<=1000000):PC prog 163 [.ag [an 3 c ao],an 2 l ae,an 1 ch (aw aa),aa least] (·=au (gO c l ch least)):=by
 refine pB 50 Tryz.func163 ?_;refine(lJ)<|(zK (ph c hc)) ?_
 cases h1:j9 c
 ·exact(cO h1)<|(cN)<|zo [.tmp 8] (hq:=by rw[gO,h1];rfl)
 by_cases heq:l.length=ch.length;rotate_left
 ·exact(cO (br h1 (show(!decide ((ch.length:Int)=(l.length:Int)))=true by simp;omega)))<|(cN)<|zo [.tmp 8] (hq:=by rw[gO,h1,un heq];rfl)
 refine(cO (br h1 (show(!decide ((ch.length:Int)=(l.length:Int)))=false by simp;omega)))<|(jG) ?_
 have hz:∀{k:Nat} {r:aN} {n:Int},l[k]?=some r->ch[k]?=some n->(l.zip ch)[k]?=some (r,n):=λh1 h2=>by
  rw[cj];exact⟨h1,h2⟩
 refine(zs) ?_;refine zL l (λk=>((l.zip ch).take k).all (LP least)=true) (λk=>[(2,an 1 ch (aw aa)),(3,aa least),(22,an 2 l ae),(23,aa l.length),(24,aa k)]) (λk=>[]) zH zp ?_;intro k hk hall;refine zT l k ?_ ?_;rintro rfl;rotate_left;intro r hx hlt;rotate_left
 ·refine(fC) ?_
  have hzl:(l.zip ch).length=l.length:=by rw[e4,<-heq,f3]
  rw[<-hzl,bt] at hall
  exact(zV)<|zo [.tmp 8] (hq:=by rw[gO,h1,ut heq,hall];rfl)
 have hrk:eu r:=hl r (aS hx);have hr1:=hrk.len;obtain⟨n,hn⟩:∃n,ch[k]?=some n:=⟨ch[k],jp gt⟩;have hzk:=hz hx hn;have ht:=bz hzk
 have hlc2:k<ch.length:=by omega
 have hall2:LP least (r,n)=true->((l.zip ch).take (k+1)).all (LP least)=true:=λh=>by
  rw[ht,d7,hall];show(true&&(LP least (r,n)&&true))=true;rw[h];rfl
 have hbad:LP least (r,n)=false->gO c l ch least=false:=λh=>by
  rw[gO,h1,ut heq];refine Bool.eq_false_iff.2 λh2=>?_;have:=all_eq_true.1 h2 _ (aS hzk);rw[h] at this;cases this
 refine(gJ)<|(aA (cA hlt (aH (e:=2) (enc:=ae) ce hx) @ae.eq_1))<|(zC)<|(zK (jv r hrk))<|(zR) ?_
 cases g0:decide (bp r=0);rotate_left
 ·exact(aA g0)<|(cN)<|zo [.tmp 8] (hq:=by rw[hbad (by rw[LP,g0];rfl)])
 cases g1:decide (n<least);rotate_left
 ·exact(aA (ik g0 g1 hlc2 (aH (e:=1) (enc:=aw aa) ce hn) @aw.eq_1))<|(cN)<|zo [.tmp 8] (hq:=by rw[hbad (by rw[LP,g0,g1];rfl)])
 cases g2:decide (bp r<=n);rotate_left
 ·exact(aA (sa g0 g1 g2 hlc2 (aH (e:=1) (enc:=aw aa) ce hn) @aw.eq_1))<|(cN)<|zo [.tmp 8] (hq:=by rw[hbad (by rw[LP,g0,g1,g2];rfl)])
 refine(aA (sa g0 g1 g2 hlc2 (aH (e:=1) (enc:=aw aa) ce hn) @aw.eq_1))<|(zN)<|(aA (zi hlt hlen)) ?_;refine zX hlt zH (hall2 (by rw[LP,g0,g1,g2];rfl))
def Tx(a b:Int):Int:=dJ .i64 (a-b)
def Vo(h : -9223372036854775808<=a-b/\a-b<=9223372036854775807):Tx a b=a-b:=by
 unfold Tx dJ
 have h1:(qK (KR .i64) (a-b)&&qK (a-b) (KP .i64))=true:=by
  show(qK (-9223372036854775808) (a-b)&&qK (a-b) 9223372036854775807)=true;rw[ff,ff];simp[h.1,h.2]
 rw[h1];rfl
def dh(p:bj×Int):List SV:=[aa p.1.op,aa p.1.day,ab p.1.part,ab p.1.kind,ab p.1.aO,ab p.1.slot,ab p.1.key,ab p.1.value,aa p.1.u1,aa p.1.u2,aa p.1.u3,aa p.1.u4,aa p.1.u5,aa p.1.u6,aa p.2]
def pX(e:bj×Int):(dh e).length=15:=rfl
def Bn(p:bj×Int):dh p=[aa p.1.op,aa p.1.day,ab p.1.part,ab p.1.kind,ab p.1.aO,ab p.1.slot,ab p.1.key,ab p.1.value,aa p.1.u1,aa p.1.u2,aa p.1.u3,aa p.1.u4,aa p.1.u5,aa p.1.u6,aa p.2]:=rfl
def iq(e:bj×Int):cg (dh e)=true:=rfl
def H8(a b:bj×Int):Int:=Tx a.1.day b.1.day
def Q9{P:Program}{t:TypeId}{a b:Int}:cW P .sub t (.int .i64 a) (.int .i64 b)=some (.int .i64 (Tx a b)):=by
 simp only[cW,BQ,ah,Tx]
def Hc(a b:bj×Int):PC prog 212 [.ag (dh a),.ag (dh b)] (·=aa (H8 a b)):=by
 refine pB 12 Tryz.func212 ?_;exact(aA @dh.eq_1)<|(aA @Q9)<|zo [.tmp 4]
def IS(cmp:(bj×Int)->(bj×Int)->Int)(x y:(bj×Int)):Bool:=decide (cmp x y<0)
open Go.Proofs.Tryz renaming func241 -> var in
open Go.Proofs renaming Y1 -> vas,IS -> vat,dh -> vav in
open Go.Ev renaming Sm -> vau in
def Mw(g:FuncId)(cmp:(bj×Int)->(bj×Int)->Int)(hg:∀x y,PC prog g [.ag (dh x),.ag (dh y)] (·=aa (cmp x y)))(c:Option Nat)(l:List (bj×Int))(hlen:l.length<=100000):
 SC prog 241 [.buf 0 l.length 15 c,aa 0,aa l.length,.fn g [] []] [.cells (l.flatMap dh)] [] (λr S'=>r=.bB []/\S'=[.cells ((tO (IS cmp) l).flatMap dh)]):=by
 have vaw:=@pX;have vax:=@Bn;exact VP
open Go.Proofs renaming Y1 -> vaz,dh -> va0,IS -> va4 in
open Go.Proofs.Tryz renaming func234 -> va2 in
open Go.Ev renaming Sm -> va3 in
def Kw(g:FuncId)(cmp:(bj×Int)->(bj×Int)->Int)(hg:∀x y,PC prog g [.ag (dh x),.ag (dh y)] (·=aa (cmp x y)))(c:Option Nat)(l:List (bj×Int))(hlen:l.length<20):
 SC prog 234 [.buf 0 l.length 15 c,aa l.length,.fn g [] []] [.cells (l.flatMap dh)] [] (λr S'=>r=.bB []/\S'=[.cells ((tO (IS cmp) l).flatMap dh)]):=by
 have vay:=@Mw;have va1:=@iq;exact VQ
def DM(g:FuncId)(cmp:(bj×Int)->(bj×Int)->Int)(hg:∀x y,PC prog g [.ag (dh x),.ag (dh y)] (·=aa (cmp x y)))(c:Option Nat)(l:List (bj×Int))(hlen:l.length<20):
 SC prog 211 [.buf 0 l.length 15 c,.fn g [] []] [.cells (l.flatMap dh)] [] (λr S'=>r=.bB []/\S'=[.cells ((tO (IS cmp) l).flatMap dh)]):=by
 have hins:=Kw g cmp hg c l hlen;have hrc:∀(g:Nat->Nat) (l:List (bj×Int)),me g (l.flatMap dh)=l.flatMap dh:=λg l=>bg (aB iq l);have hbc:∀(B:Nat) (l:List (bj×Int)),ia B (l.flatMap dh)=true:=λB l=>bH (aB iq l);have hkc:∀(o:Nat) (l:List (bj×Int)),(l.flatMap dh).map (aW o)=l.flatMap dh:=λo l=>bf iq o l;refine Oo 9 func211 ?_;refine(zC) ?_;refine zS [0] (cA hrc hbc hkc) hins ?_;refine(zR) ?_;exact zP []
def Ka(g:FuncId):PC prog 241 [.sl 0 15 [],aa 0,aa 0,.fn g [] []] (·=.bB []):=by
 refine pB 53 Tryz.func241 ?_;refine(zV) ?_
 (repeat refine aD.seq ?_)
 refine aD.block (aD.loop (λm st=>m=0/\st=⟨[(2,aa 0),(3,.fn g [] []),(8,aa 1)],53,[],[]⟩) 0 zH ⟨rfl,rfl⟩ (by rintro m st ⟨_,rfl⟩;rfl) ?_);rintro m st ⟨rfl,rfl⟩
 refine(aA (show decide ((1:Int)<0)=false from rfl))<|(fC) ?_
 simp only[gK,eI,cQ,cr,if_true];exact zO []
def HD(g:FuncId):PC prog 234 [.sl 0 15 [],aa 0,.fn g [] []] (·=.bB []):=by
 refine pB 63 Tryz.func234 ?_;refine(nP) ?_
 (repeat refine aD.seq ?_)
 refine aD.block (aD.loop (λm st=>m=0/\st=⟨[(0,.sl 0 15 []),(1,aa 0),(2,.fn g [] []),(6,aa 20),(7,aa 0),(8,aa 20)],63,[],[]⟩) 0 zH ⟨rfl,rfl⟩ (by rintro m st ⟨_,rfl⟩;rfl) ?_);rintro m st ⟨rfl,rfl⟩
 refine(aA (show decide ((20:Int)<=0)=false from rfl))<|(fC) ?_
 (try change aD _ _ _ _ _)
 refine(zC)<|(zK (Ka g))<|(zR) ?_
 (repeat refine aD.seq ?_)
 refine aD.block (aD.loop (λm st=>m=0/\st=⟨[(1,aa 0),(6,aa 20)],63,[],[]⟩) 0 zH ⟨rfl,rfl⟩ (by rintro m st ⟨_,rfl⟩;rfl) ?_);rintro m st ⟨rfl,rfl⟩
 refine(aA (show decide ((20:Int)<0)=false from rfl))<|(fC) ?_
 simp only[gK,eI,cQ,cr,if_true];exact zO []
def C1(g:FuncId):PC prog 211 [.sl 0 15 [],.fn g [] []] (·=.bB []):=by
 refine pB 9 func211 ?_;refine(zC)<|(zK (HD g))<|(zR) ?_;exact zO []
def Hd(c:List aF)(s:List ai)(e:bj)(hc:kq c)(hlen:s.length<=100000)(hs:∀p∈s,iJ p)(he:rY e):SC prog 213 [.ag (aE e),.ip [an 3 c ao],.ptr 0 0] [.cells [an 14 s ak]] []
 (λr S'=>r=aa (aK c s e).2/\S'=[.cells [an 14 (aK c s e).1 ak]]):=by
 refine Oo 13 Tryz.func213 ?_;have hap:=CJ c s e hc hlen hs he;unfold lM at hap;generalize aK c s e=q at hap ⊢;rw[ew] at hap ⊢
 refine(lJ)<|(zK hap (hfl:=.inr zr))<|(zR)<|(zV)<|zA [(4,aa q.2),(1000000,.ptr 0 0)] [.cells [an 14 q.1 ak]] zH<|(zE) ?_;exact zP [.tmp 4]
def lI(day:Int)(i:Nat)(p:aN×Int):List (bj×Int):=if p.2<0 then [] else match p.1.opts[p.2.toNat]? with
 | some e=>if e.day<day then [(e,(i:Int))] else []
 | none=>[]
def cw(day:Int):Nat->List (aN×Int)->List (bj×Int)
 | _,[]=>[]
 | i,p::l=>lI day i p++cw day (i+1) l
def yS(day:Int):∀(l:List (aN×Int)) (i:Nat) (p:aN×Int),cw day i (l++[p])=cw day i l++lI day (i+l.length) p
 | [],i,p=>by simp[cw]
 | a::l,i,p=>by
  rw[cb,cw,cw,yS day l (i+1) p,b8,i7]
  congr 3;omega
def SP(day:Int)(i:Nat)(p:aN×Int):(lI day i p).length<=1:=by
 unfold lI;split
 ·simp
 ·split
  ·split<;>simp
  ·simp
def uF(day:Int):∀(l:List (aN×Int)) (i:Nat),(cw day i l).length<=l.length
 | [],i=>by simp[cw]
 | p::l,i=>by
  have h1:=SP day i p;have h2:=uF day l (i+1);rw[cw,li,i7];omega
def P4{day:Int}{i:Nat}{p:aN×Int}{x:bj×Int}(h:x∈lI day i p):x.1∈p.1.opts:=by
 unfold lI at h;split at h
 ·cases h
 ·split at h
  ·rename_i e he;split at h
   ·rw[rc h];exact aS he
   ·cases h
  ·cases h
def sF{day:Int}:∀{l:List (aN×Int)} {i:Nat} {x:bj×Int},x∈cw day i l->∃p∈l,x.1∈p.1.opts
 | [],i,x,h=>by simp[cw] at h
 | p::l,i,x,h=>by
  rw[cw] at h
  rcases mem_append.1 h with h | h
  ·exact⟨p,aj,P4 h⟩
  ·obtain⟨q,h1,h2⟩:=sF h;exact⟨q,ap _ h1,h2⟩
def pP(l:List (bj×Int)):List (bj×Int):=tO (IS H8) l
def sM(c:List aF):List ai->List (bj×Int)->Int×Int
 | _,[]=>(-1,0)
 | s,p::r=>if (aK c s p.1).2=0 then sM c (aK c s p.1).1 r else (p.2,(aK c s p.1).2)
def kV(c:List aF)(l:List aN)(ch:List Int)(day:Int):Int×Int:=sM c [] (pP (cw day 0 (l.zip ch)))
def zm(c:List aF)(l:List aN)(ch:List Int)(day:Int)(hc:kq c)(hl:∀r∈l,eu r)(hlen:l.length<20)(heq:l.length=ch.length):PC prog 165 [.ag [an 3 c ao],an 2 l ae,an 1 ch (aw aa),aa day] (·=.bB [aa (kV c l ch day).1,aa (kV c l ch day).2]):=by
 refine pB 79 Tryz.func165 ?_;refine(zV) ?_;refine zZ [(1,an 2 l ae),(2,an 1 ch (aw aa)),(3,aa day),(4,.ip [an 3 c ao])] 0 rfl (tK @an.eq_1) ?_
 (try change aD _ _ _ _ _)
 refine(nP) ?_
 have hz:∀{k:Nat} {r:aN} {n:Int},l[k]?=some r->ch[k]?=some n->(l.zip ch)[k]?=some (r,n):=λh1 h2=>by
  rw[cj];exact⟨h1,h2⟩
 have hzl:(l.zip ch).length=l.length:=by rw[e4,<-heq,f3]
 (repeat refine aD.seq ?_)
 refine aD.mono (Q:=λe st=>e=.normal/\Fg st ⟨[(4,.ip [an 3 c ao]),(10,bn 2 15 (cw day 0 (l.zip ch)).length)],79,sD 2 (cw day 0 (l.zip ch)) dh,[]⟩) ?_ ?_
 ·refine(zs) ?_;refine zL l (λk=>True) (λk=>[(2,an 1 ch (aw aa)),(3,aa day),(4,.ip [an 3 c ao]),(10,bn 2 15 (cw day 0 ((l.zip ch).take k)).length),(19,an 2 l ae),(20,aa l.length),(21,aa k)]) (λk=>sD 2 (cw day 0 ((l.zip ch).take k)) dh) (bK (ik @take_zero.{0} @cw.eq_1 @g9.{0} @fv @ny)) zp ?_;intro k hk hall;refine zT l k ?_ ?_;rintro rfl;rotate_left;intro r hx hlt;rotate_left
  ·refine(fC) ?_;rw[<-hzl,bt];by_cases h0:cw day 0 (l.zip ch)=[]
   ·rw[h0];exact⟨rfl,(bK (cA @ny @fv @g9.{0}))⟩
   ·rw[jS h0];exact⟨rfl,(bK sH)⟩
  have hrk:eu r:=hl r (aS hx);have hr1:=hrk.len;obtain⟨n,hn⟩:∃n,ch[k]?=some n:=⟨ch[k],jp gt⟩;have hzk:=hz hx hn;have ht:=bz hzk
  have hlc2:k<ch.length:=by omega
  have hol:(cw day 0 ((l.zip ch).take k)).length<=k:=by
   have:=uF day ((l.zip ch).take k) 0;rw[bk] at this;omega
  have hfm:cw day 0 ((l.zip ch).take (k+1))=cw day 0 ((l.zip ch).take k)++lI day k (r,n):=by
   rw[ht,yS,bk,hzl,dt gt,hJ]
  generalize hO:cw day 0 ((l.zip ch).take k)=out at hol hfm;refine(gJ) ?_;have hcl:=aM pX out;have hkc:=λo=>bf iq o out
  have hlen6:l.length<=1000000:=by omega
  have hg1:∀i:Nat,decide (0<=(i:Int))=true:=λi=>by simp
  by_cases hk0:out=[]
  ·rw[show sD 2 out dh=[] by rw[hk0];rfl,show bn 2 15 out.length=cY by rw[hk0];rfl]
   refine(aA (cA hlt (aH (e:=2) (enc:=ae) ce hx) @ae.eq_1))<|(aA (cA hlc2 (aH (e:=1) (enc:=aw aa) ce hn) @aw.eq_1)) ?_
   have fin:lI day k (r,n)=[]->bn 2 15 (cw day 0 ((l.zip ch).take (k+1))).length=cY/\sD 2 (cw day 0 ((l.zip ch).take (k+1))) dh=[]:=λh=>by rw[hfm,h,hk0];exact⟨rfl,rfl⟩
   cases g1:decide (0<=n)
   ·have g1':=wt g1;obtain⟨f1,f2⟩:=fin (by unfold lI;rw[t8 (by show n<0;omega)])
    refine(aA g1)<|(zN)<|(aA (zi hlt hlen6)) ?_;refine zX hlt (bK (br f1 f2)) trivial
   obtain⟨i,rfl⟩:∃i:Nat,n=(i:Int):=⟨n.toNat,by have:=ww g1;omega⟩;by_cases g2:i<r.opts.length;rotate_left
   ·obtain⟨f1,f2⟩:=fin (by unfold lI;rw[ul (by show ¬(i:Int)<0;omega)];show(match r.opts[i]? with | some e=>_ | none=>_)=_;rw[eB gt])
    refine(aA (br g1 (show decide ((i:Int)<(r.opts.length:Int))=false by simp only[wd];omega)))<|(zN)<|(aA (zi hlt hlen6)) ?_;refine zX hlt (bK (br f1 f2)) trivial
   obtain⟨e,hei⟩:∃e,r.opts[i]?=some e:=⟨r.opts[i],jp g2⟩
   have hpk:lI day k (r,(i:Int))=if e.day<day then [(e,(k:Int))] else []:=by
    unfold lI;rw[ul (by show ¬(i:Int)<0;omega)];show(match r.opts[i]? with | some e=>_ | none=>_)=_;rw[hei]
   cases g3:decide (e.day<day)
   ·rw[ul (wt g3)] at hpk;obtain⟨f1,f2⟩:=fin hpk
    refine(aA (sa g1 g2 (show decide ((i:Int)<(r.opts.length:Int))=true by simp only[wp];omega) (aH (e:=14) (enc:=aE) ce hei) @aE.eq_1 g3))<|(zN)<|(aA (zi hlt hlen6)) ?_;refine zX hlt (bK (br f1 f2)) trivial
   ·rw[t8 (ww g3)] at hpk;rw[hpk,hk0,nil_append] at hfm
    have hE3:bn 2 15 (cw day 0 ((l.zip ch).take (k+1))).length=.buf 2 1 15 none:=by rw[hfm];rfl
    have hE4:sD 2 (cw day 0 ((l.zip ch).take (k+1))) dh=[.gone,.gone,.cells (dh (e,(k:Int)))]:=by rw[hfm];rfl
    refine(aA (sa g1 g2 (show decide ((i:Int)<(r.opts.length:Int))=true by simp only[wp];omega) (aH (e:=14) (enc:=aE) ce hei) @aE.eq_1 g3))<|(zY)<|(aA (cA g2 (aH (e:=14) (enc:=aE) ce hei) @aE.eq_1))<|(aA (zi hlt hlen6)) ?_;refine zX hlt (bK (cA hE3 hE4 @dh.eq_1)) trivial
  ·have hk1:¬out.length=0:=λh=>hk0 (rx h);rw[jS hk0,bR hk1]
   refine(aA (ik hlt (aH (e:=2) (enc:=ae) ce hx) @ae.eq_1 sH hkc))<|(aA (jB hkc hlc2 (aH (e:=1) (enc:=aw aa) ce hn) @aw.eq_1)) ?_
   have fin:lI day k (r,n)=[]->bn 2 15 (cw day 0 ((l.zip ch).take (k+1))).length=bn 2 15 out.length/\sD 2 (cw day 0 ((l.zip ch).take (k+1))) dh=sD 2 out dh:=λh=>by rw[hfm,h,b0];exact⟨rfl,rfl⟩
   cases g1:decide (0<=n)
   ·have g1':=wt g1;obtain⟨f1,f2⟩:=fin (by unfold lI;rw[t8 (by show n<0;omega)])
    refine(aA (br hkc g1))<|(zN)<|(zs) ?_;refine aD.r0 ge (fF (xn (rf hlt hlen6 gc))) ?_;refine⟨l.length-(k+1),_,by omega,(Fg.less (by (simp only[cG,bG,dU,↓reduceIte,af,an,f1,f2,bR hk1,jS hk0,ci])<;>(repeat' apply bb)<;>first | rfl | trivial) (by (simp only[cG,bG,or_true,true_or,an,f1,f2,bR hk1,jS hk0,ci])<;>(repeat' apply bb)<;>first | exact .inr rfl | exact .inl rfl | trivial)),k+1,by omega,rfl,trivial,rfl⟩
   obtain⟨i,rfl⟩:∃i:Nat,n=(i:Int):=⟨n.toNat,by have:=ww g1;omega⟩;by_cases g2:i<r.opts.length;rotate_left
   ·obtain⟨f1,f2⟩:=fin (by unfold lI;rw[ul (by show ¬(i:Int)<0;omega)];show(match r.opts[i]? with | some e=>_ | none=>_)=_;rw[eB gt])
    refine(aA (cA hkc g1 (show decide ((i:Int)<(r.opts.length:Int))=false by simp only[wd];omega)))<|(zN)<|(zs) ?_;refine aD.r0 ge (fF (xn (rf hlt hlen6 gc))) ?_;refine⟨l.length-(k+1),_,by omega,(Fg.less (by (simp only[cG,bG,dU,↓reduceIte,af,an,f1,f2,bR hk1,jS hk0,ci])<;>(repeat' apply bb)<;>first | rfl | trivial) (by (simp only[cG,bG,or_true,true_or,an,f1,f2,bR hk1,jS hk0,ci])<;>(repeat' apply bb)<;>first | exact .inr rfl | exact .inl rfl | trivial)),k+1,by omega,rfl,trivial,rfl⟩
   obtain⟨e,hei⟩:∃e,r.opts[i]?=some e:=⟨r.opts[i],jp g2⟩
   have hpk:lI day k (r,(i:Int))=if e.day<day then [(e,(k:Int))] else []:=by
    unfold lI;rw[ul (by show ¬(i:Int)<0;omega)];show(match r.opts[i]? with | some e=>_ | none=>_)=_;rw[hei]
   cases g3:decide (e.day<day)
   ·rw[ul (wt g3)] at hpk;obtain⟨f1,f2⟩:=fin hpk
    refine(aA (Af hkc g1 g2 (show decide ((i:Int)<(r.opts.length:Int))=true by simp only[wp];omega) (aH (e:=14) (enc:=aE) ce hei) @aE.eq_1 g3))<|(zN)<|(zs) ?_;refine aD.r0 ge (fF (xn (rf hlt hlen6 gc))) ?_;refine⟨l.length-(k+1),_,by omega,(Fg.less (by (simp only[cG,bG,dU,↓reduceIte,af,an,f1,f2,bR hk1,jS hk0,ci])<;>(repeat' apply bb)<;>first | rfl | trivial) (by (simp only[cG,bG,or_true,true_or,an,f1,f2,bR hk1,jS hk0,ci])<;>(repeat' apply bb)<;>first | exact .inr rfl | exact .inl rfl | trivial)),k+1,by omega,rfl,trivial,rfl⟩
   ·rw[t8 (ww g3)] at hpk;rw[hpk] at hfm;have happ:=eV pX iq 2 out (e,(k:Int));rw[Bn] at happ
    have hE3:bn 2 15 (cw day 0 ((l.zip ch).take (k+1))).length=.buf 2 (out.length+1) 15 none:=by rw[hfm,li];rfl
    have hE4:sD 2 (cw day 0 ((l.zip ch).take (k+1))) dh=[.gone,.gone,.cells ((out++[(e,(k:Int))]).flatMap dh)]:=by rw[hfm,og];rfl
    refine(aA (Af hkc g1 g2 (show decide ((i:Int)<(r.opts.length:Int))=true by simp only[wp];omega) (aH (e:=14) (enc:=aE) ce hei) @aE.eq_1 g3))<|(zY)<|(aA (KO g2 (aH (e:=14) (enc:=aE) ce hei) @aE.eq_1 hcl hkc (show out.length<=1000000 by omega) @bc happ))<|(aA (zi hlt hlen6)) ?_;refine zX hlt (bK (br hE3 hE4)) trivial
 rintro e st ⟨rfl,hfg⟩;refine aD.fg hfg ?_;clear hfg
 (try change aD _ _ _ _ _)
 have hal:(cw day 0 (l.zip ch)).length<20:=Nat.lt_of_le_of_lt (uF day _ 0) gt
 have hmem:∀x∈cw day 0 (l.zip ch),rY x.1:=by
  intro x hx;obtain⟨p,h1,h2⟩:=sF hx;exact(hl p.1 (fb h1).1).ev _ h2
 unfold kV;generalize cw day 0 (l.zip ch)=all at hal hmem ⊢;have hmem2:∀x∈pP all,rY x.1:=λx hx=>hmem x ((xT _ _).mem_iff.1 hx);have hsl:(pP all).length=all.length:=vF _ _
 (repeat refine aD.seq ?_)
 refine aD.mono (Q:=λe st=>e=.normal/\Fg st ⟨[(4,.ip [an 3 c ao]),(10,an 15 (pP all) dh)],79,[],[]⟩) ?_ ?_
 ·by_cases h0:all=[]
  ·subst h0;rw[ny,show bn 2 15 ([]:List (bj×Int)).length=cY from rfl]
   refine(zC)<|(zK (C1 212) (hwk:=cS.cons (.nil _) (.cons (.fn .nil .nil) .nil)))<|(zR) ?_;exact⟨rfl,Fg.trans (Fg.wk (f':=[(4,.ip [an 3 c ao]),(10,an 15 (pP []) dh)]) ⟨.inl rfl,.inr (.nil _),trivial⟩) zH⟩
  ·have hk1:¬all.length=0:=λh=>h0 (rx h);rw[jS h0,bR hk1];have hrc:∀(g:Nat->Nat) (l:List (bj×Int)),me g (l.flatMap dh)=l.flatMap dh:=λg l=>bg (aB iq l);have hbc:∀(B:Nat) (l:List (bj×Int)),ia B (l.flatMap dh)=true:=λB l=>bH (aB iq l);have hkc:∀(o:Nat) (l:List (bj×Int)),(l.flatMap dh).map (aW o)=l.flatMap dh:=λo l=>bf iq o l;have hst:=DM 212 H8 Hc none all hal;rw[show tO (IS H8) all=pP all from rfl] at hst;refine(zC) ?_;refine zS [2] (jB hrc hbc hkc sH) hst ?_ (hc:=Nb sH);refine(zR) ?_;exact⟨rfl,Fg.trans (Fg.freeze (f':=[(4,.ip [an 3 c ao]),(10,an 15 (pP all) dh)]) 2 rfl f7 ⟨.inl rfl,.inr (by rw[pN 15 (pP all) dh,hsl];exact .buf rfl (by rw[<-hsl,dw pX];exact cS.refl (aB iq _)) (by rw[aM pX,hsl];exact bc _)),trivial⟩) zH⟩
 rintro e st ⟨rfl,hfg⟩;refine aD.fg hfg ?_;clear hfg
 (try change aD _ _ _ _ _)
 rw[<-hsl] at hal;generalize pP all=ev at hal hmem2 ⊢
 have hlen1:ev.length<=1000000:=by omega
 refine(zV) ?_;refine aD.fg (Fg.Zv (S':=[.cells [an 14 ([]:List ai) ak]]) ⟨.inr ⟨by decide,.inr ⟨_,_,rfl,rfl,.cons (.nil _) .nil⟩⟩,trivial⟩) ?_
 (try change aD _ _ _ _ _)
 refine(nP)<|(zs) ?_;refine QB ev (λk (s:List ai)=>sM c [] ev=sM c s (ev.drop k)/\(∀p∈s,iJ p)/\s.length<=k) (λk s=>[(15,.fn 213 [] [.ip [an 3 c ao],.ptr 0 0]),(63,an 15 ev dh),(64,aa ev.length),(65,aa k)]) (λk s=>[.cells [an 14 s ak]]) ([]) zH (by first | exact⟨rfl,by simp,dc _⟩ | trivial | rfl) ?_;intro k s hk hall;refine zT ev k ?_ ?_;rintro rfl;rotate_left;intro p hx hlt;rotate_left
 ·refine(fC) ?_;obtain⟨hr,-,-⟩:=hall;rw[ex] at hr
  exact(zV)<|ji [.tmp 8,.tmp 9] (hq:=by rw[hr];rfl)
 obtain⟨hr,hps,hsk⟩:=hall;rw[gm hx] at hr;have hpo:=hmem2 p (aS hx);have hfo:=Hd c s p.1 hc gt hps hpo;obtain⟨q1,q2,q3,q4⟩:=xM (c:=c) hps hpo
 have hr2:sM c s (p::ev.drop (k+1))=if (aK c s p.1).2=0 then sM c (aK c s p.1).1 (ev.drop (k+1)) else (p.2,(aK c s p.1).2):=rfl
 rw[hr2] at hr;clear hr2;generalize aK c s p.1=q at hfo q1 q2 q3 q4 hr;rw[ew] at hfo
 refine(gJ)<|(aA (cA hlt (aH (e:=15) (enc:=dh) ce hx) @Bn))<|(zC) ?_;refine zS [0] trivial hfo ?_;refine(zR) ?_
 by_cases he:q.2=0
 ·rw[t8 he] at hr
  refine(aA (show decide (q.2=0)=true from ut he))<|(zN)<|(aA (zi hlt hlen1)) ?_;refine Fv hlt (q.1) zH (⟨hr,q1,by omega⟩)
 ·rw[ul he] at hr
  exact(aA (show decide (q.2=0)=false from un he))<|(cN)<|ji [.tmp 8,.tmp 9] (hq:=by rw[hr])
def pA(c:List aF)(l:List aN)(ch:List Int):Int×Int:=if gO c l ch 0=true then kV c l ch 40001 else (-1,1)
def AN(c:List aF)(l:List aN)(ch:List Int):Bool:=decide ((pA c l ch).2=0)
variable{l:List aN}{ch:List Int}
def xQ{least:Int}(h:gO c l ch least=true):l.length=ch.length:=by
 unfold gO at h;rw[ac,ac] at h;exact ww h.2.1
def Mk(c:List aF)(l:List aN)(ch:List Int)(hc:kq c)(hl:∀r∈l,eu r)(hlen:l.length<20)(hlc:ch.length<=1000000):PC prog 166 [.ag [an 3 c ao],an 2 l ae,an 1 ch (aw aa)] (·=.bB [aa (pA c l ch).1,aa (pA c l ch).2]):=by
 refine pB 19 Tryz.func166 ?_;refine(lJ)<|(zK (CR c l ch 0 hc hl gt hlc)) ?_
 cases hg:gO c l ch 0
 ·exact(zR)<|(cN)<|ji [.tmp 6,.tmp 7] (hq:=by rw[show pA c l ch=(-1,1) by rw[pA,hg];rfl])
 refine(zR)<|(zN) ?_
 rw[show pA c l ch=kV c l ch 40001 by rw[pA,hg];rfl];have hfo:=zm c l ch 40001 hc hl hlen (xQ hg);generalize kV c l ch 40001=q at hfo ⊢
 exact(zC)<|(zK hfo)<|(zR)<|ji [.tmp 6,.tmp 7]
def Fj(c:List aF)(l:List aN)(ch:List Int)(hc:kq c)(hl:∀r∈l,eu r)(hlen:l.length<20)(hlc:ch.length<=1000000):PC prog 111 [.ag [an 3 c ao],an 2 l ae,an 1 ch (aw aa)] (·=au (AN c l ch)):=by
 refine pB 18 Tryz.func111 ?_;have hfa:=Mk c l ch hc hl hlen hlc;unfold AN;generalize pA c l ch=q at hfa ⊢
 exact(lJ)<|(zK hfa)<|(zR)<|(zV)<|zo [.tmp 6]
def Qk(l:List aN)(ch:List Int):PC prog 164 [an 2 l ae,an 1 ch (aw aa)] (·=.fn 210 [] [.ip [an 2 l ae],.ip [an 1 ch (aw aa)]]):=by
 refine pB 6 Tryz.func164 ?_;refine(zV) ?_;refine zZ [(2,.ip [an 2 l ae]),(3,.ptr 1 0)] 0 rfl (tK @an.eq_1)<|zZ [(2,.ip [an 2 l ae]),(3,.ip [an 1 ch (aw aa)])] 1 rfl (tK @an.eq_1) ?_
 (try change aD _ _ _ _ _)
 exact(zV)<|zo [.tmp 4]
section
variable {α:Type}
def mC(lt:α->α->Bool)(x:α):List α->List α
 | []=>[x]
 | y::r=>if lt x y=true then y::mC lt x r else x::y::r
def Rc{lt:α->α->Bool}{x:α}:∀(R rest:List α),uj lt R.length (R.reverse++x::rest)=(mC lt x R).reverse++rest
 | [],rest=>rfl
 | y::R,rest=>by
  have e:(y::R).reverse++x::rest=R.reverse++y::x::rest:=by simp
  have hl:R.reverse.length=R.length:=List.length_reverse
  have e1:(R.reverse++y::x::rest)[R.length+1]?=some x:=by
   rw[List.getElem?_append_right gt,hl,show R.length+1-R.length=1 by omega];rfl
  have e2:(R.reverse++y::x::rest)[R.length]?=some y:=by
   rw[List.getElem?_append_right gt,hl,Nat.sub_self];rfl
  rw[e,i7];unfold uj mC;rw[e1,e2];simp only;split
  ·rw[List.set_append_right _ _ gt,hl,show R.length+1-R.length=1 by omega,List.set_append_right _ _ gt,hl,Nat.sub_self];show uj lt R.length (R.reverse++x::y::rest)=_;rw[Rc R (y::rest)];simp
  ·simp
def NL{lt:α->α->Bool}:∀(rest R:List α),BM lt rest.length R.length (R.reverse++rest)=(rest.foldl (λR x=>mC lt x R) R).reverse
 | [],R=>by rw[b0];rfl
 | x::rest,R=>by
  rw[i7,BM,Rc,c0,<-NL rest]
  congr 1
  have:∀R:List α,(mC lt x R).length=R.length+1:=λR=>by
   induction R with
   | nil=>rfl
   | cons y R ih=>rw[mC];split<;>simp[ih]
  rw[this]
def vE(lt:α->α->Bool)(l:List α):tO lt l=(l.foldl (λR x=>mC lt x R) []).reverse:=by
 cases l with
 | nil=>rfl
 | cons x l=>exact NL (lt:=lt) l [x]
def BN{lt:α->α->Bool}{x z:α}:∀{R:List α},z∈mC lt x R->z=x\/z∈R
 | [],h=>.inl (rc h)
 | y::R,h=>by
  rw[mC] at h;split at h
  ·rcases rt h with rfl | h
   ·exact .inr aj
   ·exact(BN h).imp id (ap _)
  ·exact rt h
def JP{β:Type}{lt:α->α->Bool}{lt2:β->β->Bool}{f:α->β}{P:α->Prop}(hlt:∀x y,P x->P y->lt x y=lt2 (f x) (f y)):∀(l R:List α),(∀x∈l,P x)->(∀x∈R,P x)->(l.foldl (λR x=>mC lt x R) R).map f=(l.map f).foldl (λR x=>mC lt2 x R) (R.map f)
 | [],_,_,_=>rfl
 | x::l,R,hl,hR=>by
  have hx:=hl x aj
  have one:∀R:List α,(∀y∈R,P y)->(mC lt x R).map f=mC lt2 (f x) (R.map f):=λR=>by
   induction R with
   | nil=>intro _;rfl
   | cons y R ih=>
    intro h;rw[mC,be,mC,<-hlt x y hx (h y aj)];split
    ·rw[be,ih λz hz=>h z (ap _ hz)]
    ·rfl
  rw[c0,be,c0,<-one R hR];refine JP hlt l _ (λy hy=>hl y (ap _ hy)) λy hy=>?_
  rcases BN hy with rfl | hy
  ·exact hx
  ·exact hR y hy
variable {k:α->Int}
def NM{x:α}:∀{R:List α},R.Pairwise (λa b=>k b<=k a)->(mC (λx y=>decide (k x<k y)) x R).Pairwise λa b=>k b<=k a
 | [],_=>.cons (λ_ h=>by cases h) .nil
 | y::R,h=>by
  have h0:=h;rw[cc] at h;rw[mC];split
  ·rename_i c;rw[wp] at c;refine .cons (λz hz=>?_) (NM h.2)
   rcases BN hz with rfl | hz
   ·omega
   ·exact h.1 z hz
  ·rename_i c;rw[wp] at c;refine .cons (λz hz=>?_) h0
   rcases rt hz with rfl | hz
   ·omega
   ·have:=h.1 z hz;omega
def yJ{x:α}{p:α->Bool}:∀{R:List α},R.Pairwise (λa b=>k b<=k a)->(mC (λx y=>decide (k x<k y)) x R).filter p=if p x=true then mC (λx y=>decide (k x<k y)) x (R.filter p) else R.filter p
 | [],_=>by
  rw[mC,ad];rfl
 | y::R,h=>by
  have h0:=h;rw[cc] at h;have ih:=yJ (x:=x) (p:=p) h.2;rw[mC];split
  ·rename_i c;rw[ad,ih,ad];by_cases hy:p y=true
   ·rw[t8 hy,t8 hy];split
    ·rw[mC,t8 c]
    ·rfl
   ·rw[ul hy,ul hy]
  ·rename_i c;rw[wp] at c;rw[ad];split
   ·cases hf:g5 p (y::R) with
    | nil=>rfl
    | cons z r=>
     have hz:z∈y::R:=(mem_filter.1 (by rw[hf];exact aj)).1;rw[mC,ul];rw[wp]
     rcases rt hz with rfl | hz
     ·exact c
     ·have:=h.1 z hz;omega
   ·rfl
def rI{p:α->Bool}:∀(l R:List α),R.Pairwise (λa b=>k b<=k a)->(l.foldl (λR x=>mC (λx y=>decide (k x<k y)) x R) R).filter p=(l.filter p).foldl (λR x=>mC (λx y=>decide (k x<k y)) x R) (R.filter p)/\(l.foldl (λR x=>mC (λx y=>decide (k x<k y)) x R) R).Pairwise λa b=>k b<=k a
 | [],_,h=>⟨rfl,h⟩
 | x::l,R,h=>by
  obtain⟨i1,i2⟩:=rI (p:=p) l _ (NM (x:=x) h);rw[c0];refine⟨?_,i2⟩;rw[i1,yJ h,ad];split<;>rfl
end
def Gc:Am qY=λx y=>decide (x.day<y.day):=by
 funext x y;unfold Am qY O2;rw[decide_eq_decide];split
 ·omega
 ·split<;>omega
def pO(p:bj->Bool)(l:List bj):(cL l).filter p=cL (l.filter p):=by
 unfold cL;rw[Gc,vE,vE,List.filter_reverse,(rI (k:=bj.day) (p:=p) l [] .nil).1];rfl
def Qd(l:List bj):(cL l).Pairwise λa b=>a.day<=b.day:=by
 unfold cL;rw[Gc,vE,List.pairwise_reverse];exact(rI (k:=bj.day) (p:=λ_=>true) l [] .nil).2
def Cy{q:bj->Bool}(hq:∀a b:bj,a.day<=b.day->q b=true->q a=true):∀{l:List bj},l.Pairwise (λa b=>a.day<=b.day)->l=l.filter q++l.filter λe=>!q e
 | [],_=>rfl
 | x::l,h=>by
  rw[cc] at h;have ih:=Cy hq h.2;rw[ad,ad];cases hx:q x
  ·have hn:l.filter q=[]:=List.filter_eq_nil_iff.2 λy hy k=>by rw[hq x y (h.1 y hy) k] at hx;cases hx
   rw[hn] at ih;simp only[cv,if_false,gv,if_true,hn,nil_append] at ih ⊢;rw[<-ih]
  ·simp only[if_true,Bool.not_true,cv,if_false,cb];rw[<-ih]
def N3(p:aN×Int):List bj:=if p.2<0 then [] else (p.1.opts[p.2.toNat]?).toList
def sg(l:List aN)(ch:List Int):List bj:=(l.zip ch).flatMap N3
def qL(l:List aN):Prop:=∀r∈l,∀e∈r.opts,0<=e.day/\e.day<=40000
def GC{p:aN×Int}(h:e∈N3 p):e∈p.1.opts:=by
 unfold N3 at h;split at h
 ·cases h
 ·exact aS (Option.mem_toList.1 h)
def Us(h:e∈sg l ch):∃r∈l,e∈r.opts:=by
 obtain⟨p,hp,he⟩:=List.mem_flatMap.1 h;exact⟨p.1,(fb hp).1,GC he⟩
def Jq(day:Int):∀(L:List (aN×Int)) (i:Nat),(cw day i L).map (·.1)=(L.flatMap N3).filter λe=>decide (e.day<day)
 | [],_=>rfl
 | p::L,i=>by
  rw[cw,c4,Jq day L,flatMap_cons,fo]
  congr 1
  unfold lI N3;split
  ·rfl
  ·cases h:p.1.opts[p.2.toNat]? with
   | none=>rfl
   | some e=>
    simp only[Option.toList,ad,eF,wp];split<;>rfl
def Ou{c:List aF}{dmg:aX}:∀(l:List (bj×Int)) (s:List ai),(sM c s l).2=(qg false c dmg (l.map (·.1)) s).2
 | [],_=>rfl
 | e::r,s=>by
  rw[sM,be,qg];split
  ·rw[ul λk:false=true/\_=>bw k.1];exact Ou r _
  ·rfl
def D8{day:Int}(hd:qL l):(kV c l ch day).2=(qg false c dmg (cL ((sg l ch).filter λe=>decide (e.day<day))) []).2:=by
 unfold kV;rw[Ou (dmg:=dmg)]
 congr 2
 unfold pP cL;rw[vE,vE,List.map_reverse,JP (lt2:=Am qY) (P:=λx=>0<=x.1.day/\x.1.day<=40000) (λx y hx hy=>?_) _ _ (λx hx=>?_) (λx hx=>by cases hx),Jq]
 ·rfl
 ·rw[Gc];unfold IS H8;rw[Vo gt,decide_eq_decide];omega
 ·obtain⟨p,hp,he⟩:=sF hx;exact hd _ (fb hp).1 _ he
def rj(hd:qL l):AN c l ch=true↔gO c l ch 0=true/\(qg false c dmg (cL (sg l ch)) []).2=0:=by
 unfold AN pA;rw[wp];split
 ·rename_i h;rw[D8 (dmg:=dmg) hd,List.filter_eq_self.2 λe he=>?_]
  ·exact⟨λk=>⟨h,k⟩,λk=>k.2⟩
  ·obtain⟨r,hr,he⟩:=Us he;have:=hd r hr e he;rw[wp];omega
 ·rename_i h;exact⟨λk=>(by cases k),λk=>t7 k.1 h⟩
def fa(n:Int)(m:Int)(e:bj):Int:=if n<0 then dI m e.day else m
def oW(m:Int)(l:List (aN×Int)):Int:=l.foldl (λm p=>p.1.opts.foldl (fa p.2) m) m
def QF(c:hY)(f1:Fm):Prop:=∀(ro:Option Nat) (f0:Fm) (day m:Int) (X:List SO) (K:Ex->List SO->Fm->Prop),K .normal (.loop c .ready none f1::.cells [aa (dI m day)]::X) f0->Y2 prog ro c 0 [aa day] (.loop c .ready none f1::.cells [aa m]::X) f0 K
def Mh(c:hY)(f1:Fm)(hb:QF c f1)(hps:c.ps.toList.length=1)(hlow:Al c.n f1=true)(hn1:c.n<=1000000)(hpar:c.ps.toList.all (λk=>Nat.blt k c.n)=true)(hkf:∀o,2<=o->eg o f1=f1)(l:List aN)(ch:List Int)(m0:Int)(hl:∀r∈l,eu r)(hlen:l.length<=1000000)(heq:l.length=ch.length):
 SC prog 210 [.a (.fn (.yield c.id) [] []),.ip [an 2 l ae],.ip [an 1 ch (aw aa)]] [.loop c .ready none f1,.cells [aa m0]] [] (λr S'=>r=.bB []/\S'=[.loop c .ready none f1,.cells [aa (oW m0 (l.zip ch))]]):=by
 refine XX 36 func210 ?_;have hkA:f1.map (λp=>(p.1,bif Ev.names 2 p.2 then SV.any else p.2))=f1:=hkf 2 (bc _);have hkB:f1.map (λp=>(p.1,bif Ev.names 3 p.2 then SV.any else p.2))=f1:=hkf 3 gc;refine(zV) ?_
 have hz:∀{k:Nat} {r:aN} {n:Int},l[k]?=some r->ch[k]?=some n->(l.zip ch)[k]?=some (r,n):=λh1 h2=>by
  rw[cj];exact⟨h1,h2⟩
 have hzl:(l.zip ch).length=l.length:=by rw[e4,<-heq,f3]
 refine(zs) ?_;refine zL l (λk=>True) (λk=>[(0,.a (.fn (.yield c.id) [] [])),(2,.ip [an 1 ch (aw aa)]),(8,an 2 l ae),(9,aa l.length),(10,aa k),(1000000,.ptr 0 0),(1000001,.ptr 1 0)]) (λk=>[.loop c .ready none f1,.cells [aa (oW m0 ((l.zip ch).take k))]]) (bK (cA @take_zero.{0} @oW.eq_1 @foldl_nil.{0,0})) zp ?_;intro k hk hall;refine zT l k ?_ ?_;rintro rfl;rotate_left;intro r hx hlt;rotate_left
 ·refine(fC) ?_;rw[<-hzl,bt];simp only[gK,eI,cQ,cr,if_true];exact zP []
 have hrk:eu r:=hl r (aS hx);have hr1:=hrk.len;obtain⟨n,hn⟩:∃n,ch[k]?=some n:=⟨ch[k],jp gt⟩;have ht:=bz (hz hx hn)
 have hlc2:k<ch.length:=by omega
 have hst:oW m0 ((l.zip ch).take (k+1))=r.opts.foldl (fa n) (oW m0 ((l.zip ch).take k)):=by
  unfold oW;rw[ht,ej];rfl
 generalize oW m0 ((l.zip ch).take k)=m1 at hst
 refine(gJ)<|(aA (ik hlt (aH (e:=2) (enc:=ae) ce hx) @ae.eq_1 hkA hkB))<|(zV)<|(zs) ?_;refine zL r.opts (λk2=>True) (λk2=>[(0,.a (.fn (.yield c.id) [] [])),(2,.ip [an 1 ch (aw aa)]),(4,aa k),(8,an 2 l ae),(9,aa l.length),(10,aa k),(16,an 14 r.opts aE),(17,aa r.opts.length),(18,aa k2),(1000000,.ptr 0 0),(1000001,.ptr 1 0)]) (λk2=>[.loop c .ready none f1,.cells [aa ((r.opts.take k2).foldl (fa n) m1)]]) (bK (br @take_zero.{0} @foldl_nil.{0,0})) zp ?_;intro k2 hk2 hall2;refine zT r.opts k2 ?_ ?_;rintro rfl;rotate_left;intro e hx2 hlt2;rotate_left
 ·refine(fC) ?_;rw[bt];refine(aA (zi hlt hlen)) ?_;refine zX hlt (bK hst) trivial
 have ht2:=bz hx2
 have hst2:(r.opts.take (k2+1)).foldl (fa n) m1=fa n ((r.opts.take k2).foldl (fa n) m1) e:=by rw[ht2,ej];rfl
 generalize (r.opts.take k2).foldl (fa n) m1=m2 at hst2
 refine(gJ)<|(aA (ik hlt2 (aH (e:=14) (enc:=aE) ce hx2) @aE.eq_1 hkA hkB)) ?_
 cases g1:decide (n<0)
 ·rw[show fa n m2 e=m2 by unfold fa;rw[ul (wt g1)]] at hst2
  refine(aA (jB hlc2 (aH (e:=1) (enc:=aw aa) ce hn) @aw.eq_1 g1))<|(zN)<|(aA (zi hlt2 hr1)) ?_;refine zX hlt2 (bK hst2) trivial
 ·rw[show fa n m2 e=dI m2 e.day by unfold fa;rw[t8 (ww g1)]] at hst2
  refine(jH (jB hlc2 (aH (e:=1) (enc:=aw aa) ce hn) @aw.eq_1 g1)) ?_;refine aJ.yR (vs:=[aa e.day]) 0 ge rfl rfl ge rfl rfl rfl ge rfl hps hlow hn1 hpar λro'=>hb _ _ _ _ _ _ ?_;refine(zR)<|(zN)<|(aA (zi hlt2 hr1)) ?_;refine zX hlt2 (bK hst2) trivial
def sh(c:List aF)(l:List aN)(ch:List Int):Bool:=gO c l ch (-1)&&!(decide ((kV c l ch (oW 40001 (l.zip ch))).2=0))
def G9(c:List aF)(l:List aN)(ch:List Int)(hc:kq c)(hl:∀r∈l,eu r)(hlen:l.length<20)(hlc:ch.length<=1000000):PC prog 110 [.ag [an 3 c ao],an 2 l ae,an 1 ch (aw aa)] (·=au (sh c l ch)):=by
 refine PC.tU (n:=33) dQ Tryz.func110 rfl rfl gc ?_;refine(lJ)<|(zK (CR c l ch (-1) hc hl gt hlc)) ?_
 cases hg:gO c l ch (-1)
 ·refine(zR)<|(cN) ?_;refine aD.ret ?_
  (try simp only[gK,eI,cQ,cr])
  exact⟨rfl,[au false],au false,by rfl,Wk.refl rfl,by rw[sh,hg];rfl⟩
 have heq:=xQ hg
 refine(zR)<|(jG) ?_;refine zZ [(1,an 2 l ae),(2,an 1 ch (aw aa)),(3,.ip [an 3 c ao]),(7,.ptr 1 0)] 0 rfl (tK @an.eq_1) ?_
 (try change aD _ _ _ _ _)
 refine(zC)<|(zK (Qk l ch) (hfl:=.inr zr))<|(zR)<|(zB) ?_;refine aD.wc (f1:=[(1,an 2 l ae),(2,an 1 ch (aw aa)),(3,.ip [an 3 c ao]),(7,.ptr 1 0)]) dQ ge func210 ge Ye ?_
 rintro N lc hid hn hps ha hb
 have hrd:QF lc [(1,an 2 l ae),(2,an 1 ch (aw aa)),(3,.ip [an 3 c ao]),(7,.ptr 1 0)]:=by
  intro ro f0 day m X K hK pend f1 hS;cases hS;rw[ha,hps,hn];change aD _ _ _ ⟨(19,aa day)::(1,an 2 l ae)::(2,an 1 ch (aw aa))::(3,.ip [an 3 c ao])::(7,.ptr 1 0)::Ox laid f0,33,_,[]⟩ _;refine(zV) ?_;refine⟨rfl,none,[(1,an 2 l ae),(2,an 1 ch (aw aa)),(3,.ip [an 3 c ao]),(7,.ptr 1 0)],rfl,?_⟩;rw[hb]
  refine(zB)<|(aA @js) ?_;refine⟨rfl,.busy,none,[(1,an 2 l ae),(2,an 1 ch (aw aa)),(3,.ip [an 3 c ao]),(7,.ptr 1 0)],rfl,?_⟩
  simp only[w9,Nz,laid,ax,↓reduceIte,xE,xC,set_cons_zero];exact hK
 have hsc:=Mh lc [(1,an 2 l ae),(2,an 1 ch (aw aa)),(3,.ip [an 3 c ao]),(7,.ptr 1 0)] hrd (by rw[hps];rfl) (by rw[hn];rfl) (by rw[hn];decide) (by rw[hps,hn];rfl) (λo ho=>by
  have h1:¬1=o:=by omega
  simp[eg,aW,h1,Ev.names,an,iW]) l ch 40001 hl gt heq
 refine⟨[3,1],_,_,_,_,hsc,?_,rfl,by decide,?_,?_⟩
 ·simp only[gh,bG,cG,an,eg,aW,↓reduceIte,af,aV,bX,hid,List.map,List.append,cb,nil_append]
 ·rintro(_ | _ | i) so h
  ·cases h;exact⟨3,rfl,by rfl⟩
  ·cases h;exact⟨1,rfl,by rfl⟩
  ·cases h
 rintro r S' ⟨rfl,rfl⟩;refine⟨by simp only[GZ,gh,bG,an,aV,ba,decide_true];first | done | rfl,3,.ready,none,[(1,an 2 l ae),(2,an 1 ch (aw aa)),(3,.ip [an 3 c ao]),(7,.ptr 1 0)],by rfl,by decide,by rfl,?_⟩;change aD _ _ _ ⟨[(1,an 2 l ae),(2,an 1 ch (aw aa)),(3,.ip [an 3 c ao]),(7,.ptr 1 0)],33,[.gone,.cells [aa (oW 40001 (l.zip ch))],.pT N,.gone],[{ fn:=none,sZ:=N,args:=[],cap:=[] }]⟩ _;obtain⟨day,hday⟩:∃day,day=oW 40001 (l.zip ch):=⟨_,rfl⟩
 have hF:sh c l ch=!(decide ((kV c l ch day).2=0)):=by rw[sh,hg,hday];rfl
 rw[hF,<-hday];have hfo:=zm c l ch day hc hl hlen heq;generalize kV c l ch day=q at hfo
 refine(zC)<|(zK hfo)<|(zR)<|(zV) ?_;refine aD.ret ?_
 (try simp only[gK,eI,cQ,cr])
 exact⟨rfl,[(6,au (!decide (q.2=0)))],⟨rfl,trivial⟩,rfl,.inl ⟨rfl,2,rfl,[au (!decide (q.2=0))],au (!decide (q.2=0)),by rfl,Wk.refl rfl,rfl⟩⟩
def jY(l:List aN):Nat:=l.countP λr=>decide (1<bp r)
def ft(c:List aF)(l:List aN):Int:=if j9 c=true then (if (l.all λr=>!(decide (bp r=0)))=true then (if (30:Int)<(jY l:Int) then 7 else 0) else 1) else 1
def Du(c:List aF)(l:List aN)(hc:kq c)(hl:∀r∈l,eu r)(hlen:l.length<=1000000):PC prog 54 [.ag [an 3 c ao],an 2 l ae] (·=aa (ft c l)):=by
 refine pB 31 Tryz.func54 ?_;refine(lJ)<|(zK (ph c hc)) ?_
 cases h1:j9 c
 ·exact(cO h1)<|(cN)<|zo [.tmp 4] (hq:=by rw[show ft c l=1 by simp[ft,h1]])
 refine(cO h1)<|(jG)<|(zV)<|(zs) ?_;refine zL l (λk=>((l.take k).all λr=>!(decide (bp r=0)))=true) (λk=>[(5,aa (jY (l.take k))),(12,an 2 l ae),(13,aa l.length),(14,aa k)]) (λk=>[]) (Fg.less (by (simp only[cG,bG,dU,↓reduceIte,af,an,take_zero,jY,f9])<;>(repeat' apply bb)<;>first | rfl | trivial) (by (simp only[cG,bG,or_true,true_or,an,take_zero,jY,f9])<;>(repeat' apply bb)<;>first | exact .inr rfl | exact .inl rfl | trivial)) zp ?_;intro k hk hall;refine zT l k ?_ ?_;rintro rfl;rotate_left;intro r hx hlt;rotate_left
 ·refine(fC) ?_;rw[bt] at hall ⊢
  have hN:ft c l=if (30:Int)<(jY l:Int) then 7 else 0:=by rw[ft,h1,t8 rfl,t8 hall]
  cases h2:decide ((30:Int)<(jY l:Int))
  ·exact(aA h2)<|(jG)<|zo [.tmp 4] (hq:=by rw[hN,ul (wt h2)])
  ·exact(aA h2)<|(cN)<|zo [.tmp 4] (hq:=by rw[hN,t8 (ww h2)])
 have hrk:eu r:=hl r (aS hx);have hr1:=hrk.len;have ht:=bz hx;have hdl:jY (l.take k)<=k:=cd List.countP_le_length (by rw[bk];omega)
 have hd1:jY (l.take (k+1))=jY (l.take k)+if 1<bp r then 1 else 0:=by
  unfold jY;rw[ht,List.countP_append];by_cases h:1<bp r<;>simp[h]
 generalize jY (l.take k)=dd at hd1 hdl ⊢
 refine(gJ)<|(aA (cA hlt (aH (e:=2) (enc:=ae) ce hx) @ae.eq_1))<|(zC)<|(zK (jv r hrk))<|(zR)<|(zB) ?_
 cases g0:decide (bp r=0);rotate_left
 ·exact(aA g0)<|(cN)<|zo [.tmp 4] (hq:=by rw[show ft c l=1 by rw[ft,h1,t8 rfl,ul (λh=>by have:=all_eq_true.1 h r (aS hx);rw[g0] at this;cases this)]])
 refine(aA g0)<|(zN) ?_
 have hall2:((l.take (k+1)).all λr=>!(decide (bp r=0)))=true:=by
  rw[ht,d7,hall];show(true&&(!(decide (bp r=0))&&true))=true;rw[g0];rfl
 cases g1:decide (1<bp r)
 ·rw[ul (wt g1),b5] at hd1
  refine(aA g1)<|(zN)<|(aA (zi hlt hlen)) ?_;refine zX hlt (bK hd1) hall2
 ·rw[t8 (ww g1)] at hd1
  refine(aA g1)<|(zY)<|(zs) ?_;refine aD.r0 ge (fF (bA (dd:Int) 1 gt)) ?_;refine(aA (zi hlt hlen)) ?_;refine zX hlt (bK (br hd1 @dU)) hall2
def RU(l:List Int):(l.flatMap (aw aa)).all fw=true:=qa (λ_=>rfl) l
def G7(ch:List Int)(h0:ch≠[])(hlen:ch.length<=1000000)(o:Option Nat):SC prog 112 [.buf 0 ch.length 1 o] [.cells (ch.flatMap (aw aa))] [] (λr S'=>r=.buf 1 ch.length 1 none/\S'=[.cells (ch.flatMap (aw aa)),.cells (ch.flatMap (aw aa))]):=by
 refine Oo 6 Tryz.func112 ?_;have hcl:=aM (enc:=aw aa) (e:=1) ce ch;have hal:=dw (enc:=aw aa) (e:=1) ce ch;have hon:=RU ch;have hkc:=λo=>bf (enc:=aw aa) ce o ch;rw[cn] at hal hcl;have h1:¬ch.length=0:=λe=>h0 (rx e);have hp0:0<ch.length:=co h1;have hrc:∀r:Nat->Nat,me r (ch.flatMap (aw aa))=ch.flatMap (aw aa):=λr=>bg (aB (λ_=>rfl) _)
 refine(zV)<|(aA (DX h1 hp0 hlen hon hkc hal hcl @cn @bc)) ?_;refine zA [(2,.buf 1 ch.length 1 none),(1000000,.ptr 0 0)] [.cells (ch.flatMap (aw aa)),.cells (ch.flatMap (aw aa))] (Fg.rn [0,2] gc rfl (KM hrc) (KN hrc))<|(zE) ?_;exact zP [.tmp 2]
def JN(ch:List Int):Nat->Nat->Nat
 | 0,k=>k
 | f+1,k=>match ch[k]? with
  | some n=>if 0<=n then JN ch f (k+1) else k
  | none=>k
def gD(ch:List Int)(k:Nat):Nat:=JN ch (ch.length-k) k
def E7{k:Nat}{n:Int}(h:ch[k]?=some n)(hn:0<=n):gD ch k=gD ch (k+1):=by
 have:=aR h;unfold gD;rw[show ch.length-k=ch.length-(k+1)+1 by omega,JN,h];simp only[t8 hn]
def E6{k:Nat}{n:Int}(h:ch[k]?=some n)(hn:¬0<=n):gD ch k=k:=by
 have:=aR h;unfold gD;rw[show ch.length-k=ch.length-(k+1)+1 by omega,JN,h];simp only[ul hn]
def yh{k:Nat}(h:ch.length<=k):gD ch k=k:=by
 unfold gD;rw[show ch.length-k=0 by omega,JN]
def mX(g:Nat->List (List Int)->Bool×List (List Int)):Nat->Nat->List (List Int)->Bool×List (List Int)
 | 0,_,out=>(true,out)
 | m+1,n,out=>if (g n out).1=true then mX g m (n+1) (g n out).2 else (false,(g n out).2)
def dO(c:List aF)(l:List aN)(most:Int):Nat->Nat->List Int->List (List Int)->Bool×List (List Int)
 | 0,_,_,out=>(true,out)
 | F+1,i,ch,out=>if sh c l ch=true then (true,out) else match l[gD ch i]? with
  | none=>if AN c l ch=true then (!(decide ((out.length:Int)+1=most)),out++[ch]) else (true,out)
  | some r=>mX (λn out=>dO c l most F (gD ch i+1) (ch.set (gD ch i) n) out) (bp r).toNat 0 out
def Ow{g:Nat->List (List Int)->Bool×List (List Int)}{most:Int}(hg:∀n out,(out.length:Int)<most->(g n out).1=true->((g n out).2.length:Int)<most):∀(m n:Nat) (out:List (List Int)),(out.length:Int)<most->(mX g m n out).1=true->((mX g m n out).2.length:Int)<most
 | 0,n,out,h,_=>by rw[mX];exact h
 | m+1,n,out,h,ht=>by
  rw[mX] at ht ⊢;split at ht
  ·rename_i h1;rw[t8 h1];exact Ow hg m (n+1) _ (hg n out h h1) ht
  ·cases ht
def BD{c:List aF}{l:List aN}{most:Int}:∀(F i:Nat) (ch:List Int) (out:List (List Int)),(out.length:Int)<most->(dO c l most F i ch out).1=true->((dO c l most F i ch out).2.length:Int)<most
 | 0,i,ch,out,h,_=>by rw[dO];exact h
 | F+1,i,ch,out,h,ht=>by
  rw[dO] at ht ⊢;split
  ·exact h
  ·rename_i h1;rw[ul h1] at ht;split
   ·rename_i h2;rw[h2] at ht;simp only at ht;split
    ·rename_i h3;rw[t8 h3] at ht;simp only[bh,wd] at ht;rw[li];show((out.length+1:Nat):Int)<most;omega
    ·exact h
   ·rename_i r h2;rw[h2] at ht;exact Ow (λn out h h2=>BD F _ _ _ h h2) _ _ _ h ht
def gj(ch:List Int):List SV:=[an 1 ch (aw aa)]
def tf(ch:List Int):(gj ch).length=1:=rfl
def nI(ch:List Int):cg (gj ch)=true:=rfl
def tR(out:List (List Int)):SO:=if out=[] then .gone else .cells (out.flatMap gj)
def Sl{l:List (List Int)}(h:¬l=[]):tR l=.cells (l.flatMap gj):=ul h
def Gp:tR []=.gone:=rfl
def mE(o:Nat)(l:List (List Int)):cx o (tR l)=tR l:=by
 unfold tR;split
 ·rfl
 ·rw[cx,bf nI]
def ko(r:Nat->Nat)(l:List (List Int)):oI r (tR l)=tR l:=by
 unfold tR;split
 ·rfl
 ·show SO.cells (me r _)=_;rw[bg (aB nI l)]
def gM(B:Nat)(l:List (List Int)):lG B (tR l)=true:=by
 unfold tR;split
 ·rfl
 ·exact bH (aB nI l)
def cR(lc:hY)(most:Int)(ok:Bool):SO:=.loop lc (cond ok .ready .done) (cond ok none (some (.exit 0))) [(5,.ip [aa most]),(9,.ptr 1 0)]
def nZ(o:Nat)(lc:hY)(most:Int)(ok:Bool)(h:¬1=o):cx o (cR lc most ok)=cR lc most ok:=by
 simp[cR,cx,eg,aW,Ev.names,iW,h]
def Cm(r:Nat->Nat)(lc:hY)(most:Int)(ok:Bool)(h:r 1=1):oI r (cR lc most ok)=cR lc most ok:=by
 show SO.loop lc _ _ [(5,SV.ip [aa most]),(9,SV.ptr (r 1) 0)]=_;rw[h];rfl
def xr(B:Nat)(lc:hY)(most:Int)(ok:Bool)(h:1<B):lG B (cR lc most ok)=true:=by
 simp[cR,lG,FJ,dT,ia,h]
def bl(c:List aF)(l:List aN)(lc:hY):SV:=.fn 109 [] [.ip [an 3 c ao],.ip [an 2 l ae],.ptr 3 0,.ip [.a (.fn (.yield lc.id) [] [])],.ptr 5 0]
def Ww(c:List aF)(l:List aN)(lc:hY)(most:Int)(ok:Bool)(out:List (List Int))(ch:List Int):List SO:=
 [cR lc most ok,.cells [bn 2 1 out.length],tR out,.cells [.buf 4 ch.length 1 (some ch.length)],.cells (ch.flatMap (aw aa)),.cells [bl c l lc]]
def p7:Code->Option (Code×Code)
 | .seq a b=>match p7 a with
  | some x=>some x
  | none=>p7 b
 | .block _ c=>p7 c
 | .rangeFunc _ _ a b=>some (a,b)
 | _=>none
def uX(lc:hY):Prop:=(prog.funcs[(23:Nat)]?.bind λfn=>fn.body.bind p7)=some (lc.a,lc.b)
end Go.Proofs
