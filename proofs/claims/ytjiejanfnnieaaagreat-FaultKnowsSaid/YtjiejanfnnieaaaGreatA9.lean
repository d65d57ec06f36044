/- Lemmas of this claim, each with its conditions. -/
import Derived.Test.YtjiejanfnnieaaaGreatA8
import Derived.Test.YtjiejanfnnieaaaGreatA7
import Derived.Test.YtjiejanfnnieaaaGreatA5
import Derived.Test.YtjiejanfnnieaaaGreatA4
import Derived.Test.YtjiejanfnnieaaaGreatA3
import Derived.ProofKit
import Derived.SizedLaws
import Derived.Carry
import Derived.Test.YtjiejanfnnieaaaGreatRows
set_option linter.all false
set_option maxHeartbeats 8000000
open Go.Proofs.Tryz (prog func8)
open List (all_eq_true mem_append mem_map mem_filter)
open Nat (ble beq)
open Bool renaming and_eq_true -> aa, not_eq_true' -> ax, false_ne_true -> bt
open List renaming map_cons -> ac, mem_cons_self -> ad, mem_cons_of_mem -> al, mem_of_getElem? -> am, length_map -> aS, mem_append_right -> a9, mem_append_left -> ba, take_length -> bc, foldl_cons -> be, sizeOf_lt_of_mem -> bh, not_mem_nil -> bk, take_of_length_le -> bQ, getElem?_append_right -> cc, length -> ck, map_nil -> cl, append_eq_nil_iff -> cn, length_filter_le -> cp, set_append_right -> cs, append_nil -> ct, filter_map -> cv, length_reverse -> c0, filter_congr -> dd, mem_cons -> dl, filter_cons -> d9, map_reverse -> el, find?_cons -> ep, all_cons -> es
open Int renaming le_refl -> aj, mul_le_mul_of_nonneg_right -> ay, mul_le_mul_of_nonpos_right -> bi, mul_le_mul_of_nonneg_left -> ca, lt_trichotomy -> ci, mul_comm -> co, le_trans -> dc, natAbs_tmod -> dv, tmod_nonneg -> dF, le_total -> er
open Nat renaming reduceEqDiff -> ap, le_refl -> aU, reduceAdd -> bb, zero_le -> bd, not_lt_zero -> bs, lt_succ_self -> bv, reduceLeDiff -> bw, reduceMul -> cb, beq_refl -> cd, reduceLT -> ce, zero_add -> ch, le_trans -> dt, sub_self -> et
open And renaming intro -> b9
open Go.Proofs.Tryz renaming checked -> em
namespace Go.Proofs
open Go.Ev
set_option maxRecDepth 100000
inductive eZ:aT->Prop
 | mk {op:Int} {name value:List Nat} {n extra:Int} {kids:List aT}:(∀b∈name,b<256)->(∀b∈value,b<256)->kids.length<=sy->(∀k∈kids,eZ k)->eZ (.mk op name value n extra kids)
mutual
def lY:aT->Int->Int
 | .mk _ _ _ _ _ kids,most=>iT kids most 1
def iT:List aT->Int->Int->Int
 | [],_,n=>n
 | k::ks,most,n=>if most<n then n else iT ks most (vI n (lY k (rp most n)))
end
def vq:∀(d:Nat) (f:aT),SizeOf.sizeOf f<d->eZ f->∀most:Int,PC Tryz.prog 169 [.ag (aX f),ab most] (·=ab (lY f most))
 | 0,f,hd,_,_=>ul hd (Nat.not_lt_zero _)
 | d+1,.mk op name value n extra kids,hd,hf,most=>by
  cases hf with
  | mk _ _ hlen hks=>
  have hkd:∀k∈kids,SizeOf.sizeOf k<d:=λk hk=>by
   have h1:=List.sizeOf_lt_of_mem hk
   have h2:SizeOf.sizeOf (aT.mk op name value n extra kids)=1+SizeOf.sizeOf op+SizeOf.sizeOf name+SizeOf.sizeOf value+SizeOf.sizeOf n+SizeOf.sizeOf extra+SizeOf.sizeOf kids:=by simp
   omega
  rw[ig,lY]
  refine pB 31 Tryz.func169 ?_;refine(zV) ?_;refine zZ [(1,ab most),(2,.ip [ab op,ah name,ah value,ab n,ab extra,an 6 kids aX])] 0 rfl (gV @an.eq_1)<|zA [(1,ab most),(2,.ip [ab op,ah name,ah value,ab n,ab extra,an 6 kids aX])] [] zH<|(oL)<|(zs) ?_;refine KG kids (λk (acc:Int)=>iT kids most 1=iT (kids.drop k) most acc) (λk acc=>[(1,ab most),(2,.ip [ab op,ah name,ah value,ab n,ab extra,an 6 kids aX]),(5,ab acc),(6,ab k)]) (λk acc=>[]) (1) zH g9 ?_;intro k acc hk hall
  by_cases hlt:k<kids.length;rotate_left
  ·refine(az (show decide ((k:Int)<(kids.length:Int))=false by simp only[wn];omega))<|(gE) ?_
   rw[List.drop_of_length_le ii,iT] at hall
   exact(zV)<|zo [.tmp 4] (hq:=by rw[hall])
  have hd:=show decide ((k:Int)<(kids.length:Int))=true by simp only[wp];omega
  obtain⟨x,hx⟩:∃x,kids[k]?=some x:=⟨kids[k],jp hlt⟩;rw[e9 hx,iT] at hall;have hxm:=List.mem_of_getElem? hx;have ih:=vq d x (hkd x hxm) (hks x hxm);have hxl:((kids.flatMap aX).drop (k*6)).take 6=aX x:=aQ (e:=6) (enc:=aX) jF hx;obtain⟨op',na',va',n',ex',kids'⟩:=x;simp only[ig] at hxl ih;cases h1:decide (acc<=most)
  ·rw[un (by have:=wt h1;omega)] at hall
   exact(az (bz hd h1))<|(gE)<|(zV)<|zo [.tmp 4] (hq:=by rw[hall])
  rw[ut (by have:=ww h1;omega)] at hall
  refine(az (bz hd h1))<|(gO)<|(fC (cL hlt hxl @oN))<|(zK (ih (rp most acc)))<|(cH @tM)<|(az (zi hlt hlen)) ?_;refine yL hlt (vI acc (lY (.mk op' na' va' n' ex' kids') (rp most acc))) zH hall
mutual
def ny:aT->Bool
 | .mk _ name value _ _ kids=>!(decide (300<(name.length:Int)))&&(!(decide (300<(value.length:Int)))&&vc kids)
def vc:List aT->Bool
 | []=>true
 | k::ks=>ny k&&vc ks
end
def tu:∀l:List aT,vc l=l.all ny
 | []=>by rw[vc];rfl
 | k::l=>by rw[vc,tu l,es]
def AG:∀(d:Nat) (f:aT),SizeOf.sizeOf f<d->∀most:Int,-1000<=most->most<=1000->1<=lY f most/\(lY f most<=most+1\/lY f most=1)/\(lY f most<=most->eZ f->ny f=true->gK f)
 | 0,f,hd,_,_,_=>ul hd (Nat.not_lt_zero _)
 | d+1,.mk op name value n extra kids,hd,most,h0,h1=>by
  have hkd:∀k∈kids,SizeOf.sizeOf k<d:=λk hk=>by
   have h1:=List.sizeOf_lt_of_mem hk
   have h2:SizeOf.sizeOf (aT.mk op name value n extra kids)=1+SizeOf.sizeOf op+SizeOf.sizeOf name+SizeOf.sizeOf value+SizeOf.sizeOf n+SizeOf.sizeOf extra+SizeOf.sizeOf kids:=by simp
   omega
  have key:∀(ks:List aT) (acc:Int),(∀k∈ks,k∈kids)->1<=acc->(acc<=most+1\/acc=1)->1<=iT ks most acc/\(iT ks most acc<=most+1\/iT ks most acc=1)/\(iT ks most acc<=most->acc+ks.length<=iT ks most acc/\∀k∈ks,eZ k->ny k=true->gK k):=by
   intro ks
   induction ks with
   | nil=>intro acc _ h2 h3;rw[iT];exact⟨h2,h3,λ_=>⟨by simp,λk hk=>by cases hk⟩⟩
   | cons k ks ih=>
    intro acc hm h2 h3;rw[iT];split
    ·rename_i hlt;exact⟨h2,h3,λh=>by omega⟩
    ·rename_i hlt;rw[L8 ii];obtain⟨b1,b2,b3⟩:=AG d k (hkd k (hm k List.mem_cons_self)) (most-acc) ii ii;rw[KK ii];obtain⟨c1,c2,c3⟩:=ih (acc+lY k (most-acc)) (λx hx=>hm x (List.mem_cons_of_mem _ hx)) ii ii;refine⟨c1,c2,λh=>?_⟩;obtain⟨d1,d2⟩:=c3 h;refine⟨by rw[i7];omega,λx hx=>?_⟩
     rcases t6 hx with rfl | hx
     ·exact b3 ii
     ·exact d2 x hx
  rw[lY];obtain⟨c1,c2,c3⟩:=key kids 1 (λ_ h=>h) (Int.le_refl _) (.inr rfl);refine⟨c1,c2,λh hb hs=>?_⟩;obtain⟨d1,d2⟩:=c3 h
  cases hb with
  | mk n1 n2 _ n4=>
  rw[ny,tu] at hs;simp only[Bool.and_eq_true,Bool.not_eq_true',wn,List.all_eq_true] at hs;exact .mk ⟨by omega,n1⟩ ⟨by omega,n2⟩ ii λk hk=>d2 k hk (n4 k hk) (hs.2.2 k hk)
def vu:∀(d:Nat) (f:aT),SizeOf.sizeOf f<d->eZ f->PC Tryz.prog 286 [.ag (aX f)] (·=ak (ny f))
 | 0,f,hd,_=>ul hd (Nat.not_lt_zero _)
 | d+1,.mk op name value n extra kids,hd,hf=>by
  cases hf with
  | mk _ _ hlen hks=>
  have hkd:∀k∈kids,SizeOf.sizeOf k<d:=λk hk=>by
   have h1:=List.sizeOf_lt_of_mem hk
   have h2:SizeOf.sizeOf (aT.mk op name value n extra kids)=1+SizeOf.sizeOf op+SizeOf.sizeOf name+SizeOf.sizeOf value+SizeOf.sizeOf n+SizeOf.sizeOf extra+SizeOf.sizeOf kids:=by simp
   omega
  rw[ig,ny,tu]
  refine pB 28 Tryz.func286 ?_;refine(zV) ?_;refine zZ [(1,.ip [ab op,ah name,ah value,ab n,ab extra,an 6 kids aX])] 0 rfl (gV @an.eq_1)<|zA [(1,.ip [ab op,ah name,ah value,ab n,ab extra,an 6 kids aX])] [] zH ?_
  cases g1:decide (300<(name.length:Int));rotate_left
  ·exact(az g1)<|(cB)<|zo [.tmp 2]
  cases g2:decide (300<(value.length:Int));rotate_left
  ·exact(az (bz g1 g2))<|(cB)<|zo [.tmp 2]
  refine(az (bz g1 g2))<|(ly)<|(zs) ?_;refine zL kids (λk=>(kids.take k).all ny=true) (λk=>[(1,.ip [ab op,ah name,ah value,ab n,ab extra,an 6 kids aX]),(3,ab k)]) (λk=>[]) zH zp ?_;intro k hk hall
  by_cases hlt:k<kids.length;rotate_left
  ·refine(az (show decide ((k:Int)<(kids.length:Int))=false by simp only[wn];omega))<|(gE) ?_
   obtain rfl:k=kids.length:=by omega
   rw[List.take_length] at hall
   exact(zV)<|zo [.tmp 2] (hq:=by rw[hall];rfl)
  obtain⟨x,hx⟩:∃x,kids[k]?=some x:=⟨kids[k],jp hlt⟩;have hxm:=List.mem_of_getElem? hx;have ih:=vu d x (hkd x hxm) (hks x hxm);have hxl:((kids.flatMap aX).drop (k*6)).take 6=aX x:=aQ (e:=6) (enc:=aX) jF hx;obtain⟨b,hb⟩:∃b,b=ny x:=⟨_,rfl⟩;rw[<-hb] at ih;obtain⟨op',na',va',n',ex',kids'⟩:=x;simp only[ig] at hxl ih
  refine(az (show decide ((k:Int)<(kids.length:Int))=true by simp only[wp];omega))<|(gO)<|(fC (bz hlt hxl))<|(zK ih) ?_
  cases b
  ·exact(zR)<|(cB)<|zo [.tmp 2] (hq:=by rw[iU hxm hb.symm];rfl)
  ·refine(zR)<|(zN)<|(az (zi hlt hlen)) ?_;refine zX hlt zH (ia hx hall hb.symm)
def MJ(e:aT):Bool:=decide (lY e 80<=80)&&ny e
def K9{e:aT}(h:MJ e=true)(hb:eZ e):gK e:=by
 unfold MJ at h;rw[aa] at h;exact(AG _ e (bv _) 80 gt gt).2.2 (ww h.1) hb h.2
def EW(e:aT)(he:eZ e):PC prog 236 [.ag (aX e)] (·=ak (MJ e)):=by
 have hN:=vq _ e (bv _) he 80;have hS:=vu _ e (bv _) he;unfold MJ;generalize lY e 80=q at hN ⊢;generalize ny e=s at hS ⊢;refine pB 10 Tryz.func236 ?_;rw[cw] at hN hS ⊢
 refine(zV) ?_;refine zZ [(1,BD e)] 0 rfl zG<|zA [(1,BD e)] [] zH<|(zC)<|(zK hN) ?_
 cases g:decide (q<=80)
 ·exact(cH g)<|zo [.tmp 2]
 exact(NV g)<|(zK hS)<|(zR)<|zo [.tmp 2]
def zr(r:jE):Bool:=decide (((r.name.length+r.kind.length:Nat):Int)<=300)&&MJ r.cond
def J1(r:jE)(hr:r.name.length<=sy/\r.kind.length<=sy)(he:eZ r.cond):PC prog 153 [.ag (cF r)] (·=ak (Proofs.zr r)):=by
 have hC:=EW r.cond he;unfold Proofs.zr;generalize MJ r.cond=s at hC ⊢;refine pB 16 Tryz.func153 ?_;rw[cw] at hC;rw[gq];have hadd:=ym (P:=prog) (t:=3) (a:=(r.name.length:Int)) (b:=(r.kind.length:Int)) (by have h1:r.name.length<=1000000000000000:=hr.1;have h2:r.kind.length<=1000000000000000:=hr.2;omega);rw[show(r.name.length:Int)+(r.kind.length:Int)=((r.name.length+r.kind.length:Nat):Int) from rfl] at hadd
 refine(zV) ?_;refine zZ [(1,.ip (cF r))] 0 rfl (gV @gq)<|zA [(1,.ip (cF r))] [] zH ?_
 cases g:decide (((r.name.length+r.kind.length:Nat):Int)<=300)
 ·exact(az (cL @gq hadd g))<|zo [.tmp 2]
 exact(fC (cL @gq hadd g))<|(zK hC)<|(zR)<|zo [.tmp 2]
def tb(l:List jE):Bool:=decide ((l.length:Int)<=5)&&l.all Proofs.zr
def xu(l:List jE)(hlen:l.length<=sy)(hl:∀r∈l,(r.name.length<=sy/\r.kind.length<=sy)/\eZ r.cond):PC prog 70 [an 8 l cF,ab 5] (·=ak (Proofs.tb l)):=by
 refine pB 28 Tryz.func70 ?_;unfold Proofs.tb
 refine(oL)<|(zs) ?_;refine zL l (λk=>(l.take k).all Proofs.zr=true) (λk=>[(0,an 8 l cF),(1,ab 5),(5,ab k)]) (λk=>[]) zH zp ?_;intro k hk hall
 cases g5:decide ((l.length:Int)<=5)
 ·by_cases hlt:k<l.length
  ·exact(az (bz (show decide ((k:Int)<(l.length:Int))=true by simp only[wp];omega) g5))<|(gE)<|(az g5)<|zo [.tmp 4]
  ·exact(az (bz (show decide ((k:Int)<(l.length:Int))=false by simp only[wn];omega) g5))<|(gE)<|(az g5)<|zo [.tmp 4]
 by_cases hlt:k<l.length;rotate_left
 ·refine(az (bz (show decide ((k:Int)<(l.length:Int))=false by simp only[wn];omega) g5))<|(gE) ?_
  obtain rfl:k=l.length:=by omega
  rw[bc] at hall
  exact(az g5)<|zo [.tmp 4] (hq:=by rw[hall];rfl)
 obtain⟨x,hx⟩:∃x,l[k]?=some x:=⟨l[k],jp hlt⟩;have hxm:=am hx;have hF:=J1 x (hl x hxm).1 (hl x hxm).2;rw[gq] at hF
 refine(az (bz (show decide ((k:Int)<(l.length:Int))=true by simp only[wp];omega) g5))<|(gO)<|(fC (cL hlt (aQ (e:=8) (enc:=cF) qQ hx) @gq))<|(zK hF) ?_
 cases g:Proofs.zr x
 ·exact(zR)<|(cB)<|zo [.tmp 4] (hq:=by rw[iU hxm g];rfl)
 ·refine(zR)<|(zN)<|(az (zi hlt hlen)) ?_;refine zX hlt zH (ia hx hall g)
def ko(s:List Nat):Bool:=!(decide (300<(s.length:Int)))
def qC(e:aV):Bool:=ko e.part&&(ko e.kind&&(ko e.aJ&&(ko e.slot&&(ko e.key&&ko e.value))))
def O3(c:List aK)(dmg:bo)(l:List aV):Bool:=(!(decide (16<(l.length:Int)))&&(Proofs.tZ c&&Proofs.Gf dmg))&&l.all qC
def HQ(c:List aK)(dmg:bo)(l:List aV)(hf:lj dmg)(hlen:l.length<=sy):PC prog 28 [.ag (an 3 c aq::aC dmg),an 14 l ao,ab 16] (·=ak (O3 c dmg l)):=by
 have hfl:(aC dmg).length=3:=fa dmg;have hft:(aC dmg).take 3=aC dmg:=bQ (by rw[hfl];exact aU _);have hfk:=λo:Nat=>bV (o:=o) (aW dmg);have hfn:=λo:Nat=>bX (o:=o) (aW dmg);unfold O3
 refine pB 69 Tryz.func28 ?_;refine(az (bz hfk hfn)) ?_;refine zZ [(1,an 14 l ao),(2,ab 16),(3,.ip (an 3 c aq::aC dmg))] 0 rfl ⟨.inl rfl,.inl rfl,.inr (.ptr rfl (bm.refl (aW dmg)) (bd _)),trivial⟩<|zA [(1,an 14 l ao),(2,ab 16),(3,.ip (an 3 c aq::aC dmg))] [] zH ?_
 cases g0:decide (16<(l.length:Int));rotate_left
 ·exact(az g0)<|(cB)<|zo [.tmp 6]
 refine(fC g0)<|(zK (J0 c)) ?_
 cases g1:Proofs.tZ c
 ·exact(zR)<|(cB)<|zo [.tmp 6]
 refine(NV (bz hfl hft))<|(zK (JZ dmg hf) (hwk:=bm.cons (.ag (bm.refl (aW dmg))) .nil)) ?_
 cases g2:Proofs.Gf dmg
 ·exact(zR)<|(cB)<|zo [.tmp 6]
 refine(zR)<|(ly)<|(zs) ?_;refine zL l (λk=>(l.take k).all qC=true) (λk=>[(1,an 14 l ao),(7,ab k)]) (λk=>[]) zH zp ?_;intro k hk hall
 by_cases hlt:k<l.length;rotate_left
 ·refine(az (show decide ((k:Int)<(l.length:Int))=false by simp only[wn];omega))<|(gE) ?_
  obtain rfl:k=l.length:=by omega
  rw[bc] at hall
  exact(zV)<|zo [.tmp 6] (hq:=by rw[hall];rfl)
 obtain⟨x,hx⟩:∃x,l[k]?=some x:=⟨l[k],jp hlt⟩;have hbad:qC x=false->l.all qC=false:=λh=>iU (am hx) h
 refine(az (show decide ((k:Int)<(l.length:Int))=true by simp only[wp];omega))<|(gO)<|(az (cL hlt (aQ (e:=14) (enc:=ao) (λ_=>rfl) hx) @ao.eq_1)) ?_
 cases h1:decide (300<(x.part.length:Int));rotate_left
 ·exact(az h1)<|(cB)<|zo [.tmp 6] (hq:=by rw[hbad (by unfold qC ko;rw[h1];rfl)];rfl)
 cases h2:decide (300<(x.kind.length:Int));rotate_left
 ·exact(az (bz h1 h2))<|(cB)<|zo [.tmp 6] (hq:=by rw[hbad (by unfold qC ko;rw[h1,h2];rfl)];rfl)
 cases h3:decide (300<(x.aJ.length:Int));rotate_left
 ·exact(az (cL h1 h2 h3))<|(cB)<|zo [.tmp 6] (hq:=by rw[hbad (by unfold qC ko;rw[h1,h2,h3];rfl)];rfl)
 cases h4:decide (300<(x.slot.length:Int));rotate_left
 ·exact(az (gh h1 h2 h3 h4))<|(cB)<|zo [.tmp 6] (hq:=by rw[hbad (by unfold qC ko;rw[h1,h2,h3,h4];rfl)];rfl)
 cases h5:decide (300<(x.key.length:Int));rotate_left
 ·exact(az (lB h1 h2 h3 h4 h5))<|(cB)<|zo [.tmp 6] (hq:=by rw[hbad (by unfold qC ko;rw[h1,h2,h3,h4,h5];rfl)];rfl)
 cases h6:decide (300<(x.value.length:Int));rotate_left
 ·exact(az (wS h1 h2 h3 h4 h5 h6))<|(cB)<|zo [.tmp 6] (hq:=by rw[hbad (by unfold qC ko;rw[h1,h2,h3,h4,h5,h6];rfl)];rfl)
 refine(az (wS h1 h2 h3 h4 h5 h6))<|(zN)<|(az (zi hlt hlen)) ?_;refine zX hlt zH (ia hx hall (by unfold qC ko;rw[h1,h2,h3,h4,h5,h6];rfl))
def oh(l:List (List Nat))(hlen:l.length<=1000000):PC prog 71 [an 1 l (aD ah)] (·=ak (l.all ko)):=by
 refine pB 16 Tryz.func71 ?_;refine(oL)<|(zs) ?_;refine zL l (λk=>(l.take k).all ko=true) (λk=>[(0,an 1 l (aD ah)),(3,ab k)]) (λk=>[]) zH zp ?_;intro k hk hall
 by_cases hlt:k<l.length;rotate_left
 ·refine(az (show decide ((k:Int)<(l.length:Int))=false by simp only[wn];omega))<|(gE) ?_
  obtain rfl:k=l.length:=by omega
  rw[bc] at hall
  exact(zV)<|zo [.tmp 2] (hq:=by rw[hall])
 obtain⟨x,hx⟩:∃x,l[k]?=some x:=⟨l[k],jp hlt⟩
 refine(az (show decide ((k:Int)<(l.length:Int))=true by simp only[wp];omega))<|(gO) ?_
 cases g:decide (300<(x.length:Int))
 ·refine(az (gh hlt (aQ (e:=1) (enc:=aD ah) (λ_=>rfl) hx) @aD.eq_1 g))<|(zN)<|(az (zi hlt hlen)) ?_;refine zX hlt zH (ia hx hall (by unfold ko;rw[g];rfl))
 ·exact(az (gh hlt (aQ (e:=1) (enc:=aD ah) (λ_=>rfl) hx) @aD.eq_1 g))<|(cB)<|zo [.tmp 2] (hq:=by rw[iU (p:=ko) (am hx) (by unfold ko;rw[g];rfl)])
def JQ(s:vG):Bool:=[s.kind,s.slot,s.other,s.qy].all ko
def yp(d:ea):Bool:=[d.name,d.kind,d.key].all ko
def DK(x:qJ):Bool:=[x.part,x.gb].all ko
def lk(h:mT):Bool:=[h.id,h.vehicle].all ko&&(!(decide (20<(h.members.length:Int)))&&!(decide (20<(h.back.length:Int))))
def Ck(b:eg):Bool:=(!(decide (5<(b.fw.length:Int)))&&(!(decide (5<(b.eu.length:Int)))&&(!(decide (5<(b.oy.length:Int)))&&(!(decide (5<(b.holds.length:Int)))&&(Proofs.tb b.rules&&Proofs.tb b.cM)))))&&(b.fw.all JQ&&(b.eu.all yp&&(b.oy.all DK&&b.holds.all lk)))
structure rH (b:eg):Prop where
 gb:∀r∈b.rules,(r.name.length<=sy/\r.kind.length<=sy)/\eZ r.cond
 AL:∀r∈b.cM,(r.name.length<=sy/\r.kind.length<=sy)/\eZ r.cond
 Rw:∀d∈b.eu,(∀x∈d.name,x<256)/\(∀x∈d.kind,x<256)/\∀x∈d.key,x<256
 lr:b.rules.length<=sy
 lc:b.cM.length<=sy
def J2(b:eg)(hb:rH b):PC prog 24 [.ag (aN b)] (·=ak (Proofs.Ck b)):=by
 refine pB 167 Tryz.func24 ?_;unfold Proofs.Ck
 refine(az @aN.eq_1) ?_;refine zZ [(1,.ip (aN b))] 0 rfl (gV (bz @an.eq_1 @aN.eq_1))<|zA [(1,.ip (aN b))] [] zH ?_
 cases g1:decide (5<(b.fw.length:Int));rotate_left
 ·exact(az (bz @aN.eq_1 g1))<|(cB)<|zo [.tmp 2]
 cases g2:decide (5<(b.eu.length:Int));rotate_left
 ·exact(az (cL @aN.eq_1 g1 g2))<|(cB)<|zo [.tmp 2]
 cases g3:decide (5<(b.oy.length:Int));rotate_left
 ·exact(az (gh @aN.eq_1 g1 g2 g3))<|(cB)<|zo [.tmp 2]
 cases g4:decide (5<(b.holds.length:Int));rotate_left
 ·exact(az (lB @aN.eq_1 g1 g2 g3 g4))<|(cB)<|zo [.tmp 2]
 have k1:=wt g1;have k2:=wt g2;have k3:=wt g3;have k4:=wt g4
 have l1:b.fw.length<=1000000:=by omega
 have l2:b.eu.length<=1000000:=by omega
 have l3:b.oy.length<=1000000:=by omega
 have l4:b.holds.length<=1000000:=by omega
 refine(fC (lB @aN.eq_1 g1 g2 g3 g4))<|(zK (xu b.rules hb.lr hb.gb)) ?_
 cases g5:Proofs.tb b.rules
 ·exact(zR)<|(cB)<|zo [.tmp 2]
 refine(NV @aN.eq_1)<|(zK (xu b.cM hb.lc hb.AL)) ?_
 cases g6:Proofs.tb b.cM
 ·exact(zR)<|(cB)<|zo [.tmp 2]
 refine(zR)<|(ly)<|(zs) ?_;refine zL b.fw (λk=>(b.fw.take k).all JQ=true) (λk=>[(1,.ip (aN b)),(3,ab k)]) (λk=>[]) zH zp ?_;intro k hk hall
 by_cases hlt:k<b.fw.length;rotate_left
 ·refine(az (bz @aN.eq_1 (show decide ((k:Int)<(b.fw.length:Int))=false by simp only[wn];omega)))<|(gE) ?_
  simp only[e8,df,bW,bI,if_true]
  obtain rfl:k=b.fw.length:=by omega
  rw[bc] at hall;rw[hall];clear hall hlt hk
  refine(zV)<|(zs) ?_;refine zL b.eu (λk=>(b.eu.take k).all yp=true) (λk=>[(1,.ip (aN b)),(4,ab k)]) (λk=>[]) zH zp ?_;intro k hk hall
  by_cases hlt:k<b.eu.length;rotate_left
  ·refine(az (bz @aN.eq_1 (show decide ((k:Int)<(b.eu.length:Int))=false by simp only[wn];omega)))<|(gE) ?_
   simp only[e8,df,bW,bI,if_true]
   obtain rfl:k=b.eu.length:=by omega
   rw[bc] at hall;rw[hall];clear hall hlt hk
   refine(zV)<|(zs) ?_;refine zL b.oy (λk=>(b.oy.take k).all DK=true) (λk=>[(1,.ip (aN b)),(5,ab k)]) (λk=>[]) zH zp ?_;intro k hk hall
   by_cases hlt:k<b.oy.length;rotate_left
   ·refine(az (bz @aN.eq_1 (show decide ((k:Int)<(b.oy.length:Int))=false by simp only[wn];omega)))<|(gE) ?_
    simp only[e8,df,bW,bI,if_true]
    obtain rfl:k=b.oy.length:=by omega
    rw[bc] at hall;rw[hall];clear hall hlt hk
    refine(zV)<|(zs) ?_;refine zL b.holds (λk=>(b.holds.take k).all lk=true) (λk=>[(1,.ip (aN b)),(6,ab k)]) (λk=>[]) zH zp ?_;intro k hk hall
    by_cases hlt:k<b.holds.length;rotate_left
    ·refine(az (bz @aN.eq_1 (show decide ((k:Int)<(b.holds.length:Int))=false by simp only[wn];omega)))<|(gE) ?_
     simp only[e8,df,bW,bI,if_true]
     obtain rfl:k=b.holds.length:=by omega
     rw[bc] at hall;rw[hall];clear hall hlt hk
     exact(zV)<|zo [.tmp 2]
    obtain⟨x,hx⟩:∃x,b.holds[k]?=some x:=⟨b.holds[k],jp hlt⟩;have hxm:=am hx
    refine(az (bz @aN.eq_1 (show decide ((k:Int)<(b.holds.length:Int))=true by simp only[wp];omega)))<|(gO) ?_
    have htx:=oh [x.id,x.vehicle] (by show 2<=1000000;decide)
    refine(zs) ?_;refine kZ [0,1,0,7,15,31,0,64,0,448,960,1984,4095,8191,16383,32767,65535,131071,65535,524287,1048575,2097151,4194303,8388607,16777215,33554431,67108863,134217727,67108863,536870911,1073741823,2147483647,4294967295,8589934591,17179869183] ?_;refine(kRf (gh @aN.eq_1 hlt (aQ (e:=4) (enc:=cE) (λ_=>rfl) hx) @cE.eq_1))<|(kA []) ?_
    generalize hg:[x.id,x.vehicle].all ko=g at htx;refine rI.Re (f':=(145,ak g)::[(1,.ip (aN b)),(6,ab k)]) (S':=[]) zW rfl (λds_ K_ hK_=>?_) ?_
    ·refine(zK htx)<|oA ((145,ak g)::[(1,.ip (aN b)),(6,ab k)]) [] zH ?_;exact .nil hK_
    cases g
    ·exact(kR)<|(kN)<|(cB)<|zo [.tmp 2] (hq:=by (rw[iU (p:=lk) hxm (by unfold lk;rw[hg];rfl)];first | rfl | simp))
    cases h1:decide (20<(x.members.length:Int));rotate_left
    ·exact(kRf (lB @aN.eq_1 hlt (aQ (e:=4) (enc:=cE) (λ_=>rfl) hx) @cE.eq_1 h1))<|(kN)<|(cB)<|zo [.tmp 2] (hq:=by (rw[iU (p:=lk) hxm (by unfold lk;rw[hg,h1];rfl)];first | rfl | simp))
    cases h2:decide (20<(x.back.length:Int));rotate_left
    ·exact(kRf (wS @aN.eq_1 hlt (aQ (e:=4) (enc:=cE) (λ_=>rfl) hx) @cE.eq_1 h1 h2))<|(kN)<|(cB)<|zo [.tmp 2] (hq:=by (rw[iU (p:=lk) hxm (by unfold lk;rw[hg,h1,h2];rfl)];first | rfl | simp))
    refine(kRf (wS @aN.eq_1 hlt (aQ (e:=4) (enc:=cE) (λ_=>rfl) hx) @cE.eq_1 h1 h2))<|(kN)<|(zN)<|(az (zi hlt l4)) ?_;refine zX hlt zH (ia hx hall (by unfold lk;rw[hg,h1,h2];rfl))
   obtain⟨x,hx⟩:∃x,b.oy[k]?=some x:=⟨b.oy[k],jp hlt⟩;have hxm:=am hx
   refine(az (bz @aN.eq_1 (show decide ((k:Int)<(b.oy.length:Int))=true by simp only[wp];omega)))<|(gO) ?_
   have htx:=oh [x.part,x.gb] (by show 2<=1000000;decide)
   refine(zs) ?_;refine kZ [0,1,0,7,15,31,0,64,0,448,960,1984,4095,8191,16383] ?_;refine(kRf (gh @aN.eq_1 hlt (aQ (e:=3) (enc:=dA) (λ_=>rfl) hx) @dA.eq_1))<|(kA []) ?_
   generalize hg:[x.part,x.gb].all ko=g at htx;refine rI.Re (f':=(123,ak g)::[(1,.ip (aN b)),(5,ab k)]) (S':=[]) zW rfl (λds_ K_ hK_=>?_) ?_
   ·refine(zK htx)<|oA ((123,ak g)::[(1,.ip (aN b)),(5,ab k)]) [] zH ?_;exact .nil hK_
   cases g
   ·exact(kR)<|(kN)<|(cB)<|zo [.tmp 2] (hq:=by (rw[iU (p:=DK) hxm hg];first | rfl | simp))
   ·refine(kR)<|(kN)<|(zN)<|(az (zi hlt l3)) ?_;refine zX hlt zH (ia hx hall hg)
  obtain⟨x,hx⟩:∃x,b.eu[k]?=some x:=⟨b.eu[k],jp hlt⟩;have hxm:=am hx
  refine(az (bz @aN.eq_1 (show decide ((k:Int)<(b.eu.length:Int))=true by simp only[wp];omega)))<|(gO) ?_
  have htx:=oh [x.name,x.kind,x.key] (by show 3<=1000000;decide)
  refine(zs) ?_;refine kZ [0,1,0,7,15,31,0,64,0,448,960,1984,0,4096,0,28672,61440,126976,262143,524287,1048575] ?_;refine(kRf (gh @aN.eq_1 hlt (aQ (e:=5) (enc:=bl) (λ_=>rfl) hx) @bl.eq_1))<|(kA []) ?_
  generalize hg:[x.name,x.kind,x.key].all ko=g at htx;refine rI.Re (f':=(101,ak g)::[(1,.ip (aN b)),(4,ab k)]) (S':=[]) zW rfl (λds_ K_ hK_=>?_) ?_
  ·refine(zK htx)<|oA ((101,ak g)::[(1,.ip (aN b)),(4,ab k)]) [] zH ?_;exact .nil hK_
  cases g
  ·exact(kR)<|(kN)<|(cB)<|zo [.tmp 2] (hq:=by (rw[iU (p:=yp) hxm hg];first | rfl | simp))
  ·refine(kR)<|(kN)<|(zN)<|(az (zi hlt l2)) ?_;refine zX hlt zH (ia hx hall hg)
 obtain⟨x,hx⟩:∃x,b.fw[k]?=some x:=⟨b.fw[k],jp hlt⟩;have hxm:=am hx
 refine(az (bz @aN.eq_1 (show decide ((k:Int)<(b.fw.length:Int))=true by simp only[wp];omega)))<|(gO) ?_
 have htx:=oh [x.kind,x.slot,x.other,x.qy] (by show 4<=1000000;decide)
 refine(zs) ?_;refine kZ [0,1,0,7,15,31,0,64,0,448,960,1984,0,4096,0,28672,61440,126976,0,262144,0,1835008,3932160,8126464,16777215,33554431,67108863] ?_;refine(kRf (gh @aN.eq_1 hlt (aQ (e:=5) (enc:=eJ) (λ_=>rfl) hx) @eJ.eq_1))<|(kA []) ?_
 generalize hg:[x.kind,x.slot,x.other,x.qy].all ko=g at htx;refine rI.Re (f':=(73,ak g)::[(1,.ip (aN b)),(3,ab k)]) (S':=[]) zW rfl (λds_ K_ hK_=>?_) ?_
 ·refine(zK htx)<|oA ((73,ak g)::[(1,.ip (aN b)),(3,ab k)]) [] zH ?_;exact .nil hK_
 cases g
 ·exact(kR)<|(kN)<|(cB)<|zo [.tmp 2] (hq:=by (rw[iU (p:=JQ) hxm hg];first | rfl | simp))
 ·refine(kR)<|(kN)<|(zN)<|(az (zi hlt l1)) ?_;refine zX hlt zH (ia hx hall hg)
abbrev nW:List Nat:=[119,104,101,101,108,115,101,116]
abbrev nC:List Nat:=[99,111,97,99,104]
abbrev nO:List Nat:=[102,114,111,110,116]
def WK:ku:=⟨nO,[nW],1⟩
def DS:List aK:=[⟨nW,false,[]⟩,⟨nC,true,[WK]⟩]
def OY:bo:=.mk 2 0 []
def VQ:aV:=⟨1,0,[99],nC,[],[],[],[],0,0,0,0,0,0⟩
def VR:aV:=⟨1,0,[119],nW,[],[],[],[],0,0,0,0,0,0⟩
def VT:aV:=⟨2,0,[119],[],[99],nO,[],[],0,0,0,0,0,0⟩
def Vx:aV:=⟨4,3,[99],[],[],[],[],[],90,110,0,0,0,0⟩
def I4:List aV:=[VQ,VR,VT,Vx]
abbrev wX:Fm:=[(0,.ptr 0 0),(2,.ip [an 3 DS aq]),(3,.ip (ao Vx))]
abbrev sX:List SV:=[an 3 DS aq,ab 2,ab 0,bF]
noncomputable abbrev Wn(L:Nat->Prop):Fm:=(14,vo L 0 (.ag [an 3 DS aq]))::(15,vo L 1 (.ag [ab 2,ab 0,bF]))::(16,vo L 2 (.ag sX))::(17,vo L 3 (.ag (ao VQ)))::(18,vo L 4 (.ag (ao VR)))::(19,vo L 5 (.ag (ao VT)))::(20,vo L 6 (.ag (ao Vx)))::wX
noncomputable abbrev fX(L:Nat->Prop):Fm:=(21,vo L 7 (.buf 1 4 14 (some 4)))::Wn L
def QE:PC prog 27 [] (·=.cq [.ag (an 3 DS aq::aC OY),an 14 I4 ao]):=by
 have c1:ao VQ=[ab 1,ab 0,ah [99],ah nC,ah [],ah [],ah [],ah [],ab 0,ab 0,ab 0,ab 0,ab 0,ab 0]:=rfl;have c2:ao VR=[ab 1,ab 0,ah [119],ah nW,ah [],ah [],ah [],ah [],ab 0,ab 0,ab 0,ab 0,ab 0,ab 0]:=rfl;have c3:ao VT=[ab 2,ab 0,ah [119],ah [],ah [99],ah nO,ah [],ah [],ab 0,ab 0,ab 0,ab 0,ab 0,ab 0]:=rfl;have c4:ao Vx=[ab 4,ab 3,ah [99],ah [],ah [],ah [],ah [],ah [],ab 90,ab 110,ab 0,ab 0,ab 0,ab 0]:=rfl
 refine pB 22 Tryz.func27 ?_;refine(oL)<|zA [(0,.ptr 0 0),(2,.ptr 4 0)] [.cells [bF,ab 0,ab 0,bF],.cells [ah nW],.cells [ah nO,.buf 1 1 1 (some 1),ab 1],.cells [ah nW,ak false,bF,ah nC,ak true,.buf 2 1 3 (some 1)],.cells [.buf 3 2 3 (some 2)]] zH ?_;refine aE.fg (Fg.mr (f':=[(0,.ptr 0 0),(2,.ptr 4 0)]) (S':=[.cells [bF,ab 0,ab 0,bF],.gone,.cells [ah nO,.sl 1 1 [ah nW],ab 1],.cells [ah nW,ak false,bF,ah nC,ak true,.buf 2 1 3 (some 1)],.cells [.buf 3 2 3 (some 2)]]) 1 rfl ge zj ⟨.inr ⟨by decide,.inl rfl⟩,.inl rfl,.inr ⟨by decide,.inr ⟨_,_,rfl,rfl,.cons (.a _) (.cons (.buf rfl (bm.refl rfl) (aU _)) (.cons (.a _) .nil))⟩⟩,.inr ⟨by decide,.inl rfl⟩,.inr ⟨by decide,.inl rfl⟩,trivial⟩) ?_;refine aE.fg (Fg.mr (f':=[(0,.ptr 0 0),(2,.ptr 4 0)]) (S':=[.cells [bF,ab 0,ab 0,bF],.gone,.gone,.cells [ah nW,ak false,bF,ah nC,ak true,an 3 [WK] bE],.cells [.buf 3 2 3 (some 2)]]) 2 rfl ge zj ⟨.inr ⟨by decide,.inl rfl⟩,.inl rfl,.inl rfl,.inr ⟨by decide,.inr ⟨_,_,rfl,rfl,.cons (.a _) (.cons (.a _) (.cons (.a _) (.cons (.a _) (.cons (.a _) (.cons (.buf rfl (bm.refl rfl) (aU _)) .nil)))))⟩⟩,.inr ⟨by decide,.inl rfl⟩,trivial⟩) ?_;refine aE.fg (Fg.mr (f':=[(0,.ptr 0 0),(2,.ptr 4 0)]) (S':=[.cells [bF,ab 0,ab 0,bF],.gone,.gone,.gone,.cells [an 3 DS aq]]) 3 rfl ge zj ⟨.inr ⟨by decide,.inl rfl⟩,.inl rfl,.inl rfl,.inl rfl,.inr ⟨by decide,.inr ⟨_,_,rfl,rfl,.cons (.buf rfl (.cons (.a _) (.cons (.a _) (.cons (.nil 3) (bm.refl rfl)))) (aU _)) .nil⟩⟩,trivial⟩) ?_;refine zZ [(0,.ptr 0 0),(2,.ip [an 3 DS aq])] 4 rfl ⟨.inl rfl,.inr (.ptr rfl (bm.refl rfl) (bd _)),trivial⟩<|zA [(0,.ptr 0 0),(2,.ip [an 3 DS aq])] [.cells [bF,ab 0,ab 0,bF]] zH<|(zV) ?_;refine zZ wX 1 rfl ⟨.inl rfl,.inl rfl,.inr (.ptr rfl (bm.refl rfl) (bd _)),trivial⟩<|zA wX [.cells [bF,ab 0,ab 0,bF]] zH ?_
 (repeat refine aE.seq ?_)
 refine aE.xm 9 12 (λL=>⟨fX L,22,[io L 8 (.cells sX) (.cells [bF,ab 0,ab 0,bF]),wo L 7 (.cells (I4.flatMap ao))],[]⟩) rfl zW g9 gt zW (Fg.less (by (simp only[dD,bY,fQ,↓reduceIte,ap,an,vA,yK,qY (L:=λ_=>False) (λh=>h)])<;>(repeat' apply b9)<;>first | rfl | trivial) (by (simp only[dD,bY,or_true,true_or,an,vA,yK,qY (L:=λ_=>False) (λh=>h)])<;>(repeat' apply b9)<;>first | exact .inr rfl | exact .inl rfl | trivial)) (λL=>rfl) ?_ ?_
 ·rintro L i o him hC hr
  rcases i with _ | _ | _ | _ | _ | _ | _ | _ | _ | i
  rotate_right
  ·exact ul him ii
  ·cases hr.gX;refine(zR) ?_;exact(bN (cL @aZ @cN @dJ))
  ·cases hr.gX;refine(zR) ?_;exact(bN (cL @aZ @cN @dJ))
  ·cases hr.gX;have d0:L 0:=hr.dep ⟨0,.data⟩ gc rfl;have d1:L 1:=hr.dep ⟨1,.data⟩ gc rfl;refine(cH (bz (fH d0) (fH d1))) ?_;exact(bN (lB @aZ @cN @dJ (fH d0) (fH d1)))
  ·cases hr.gX;refine(zR) ?_;exact(bN (gh @aZ @cN @dJ c1))
  ·cases hr.gX;refine(zR) ?_;exact(bN (gh @aZ @cN @dJ c2))
  ·cases hr.gX;refine(zR) ?_;exact(bN (gh @aZ @cN @dJ c3))
  ·cases hr.gX;refine(cH c4) ?_;exact(bN (gh @aZ @cN @dJ c4))
  ·cases hr.gX;have d3:L 3:=hr.dep ⟨3,.data⟩ gc rfl;have d4:L 4:=hr.dep ⟨4,.data⟩ gc rfl;have d5:L 5:=hr.dep ⟨5,.data⟩ gc rfl;have d6:L 6:=hr.dep ⟨6,.data⟩ gc rfl;have hn:¬L 7:=hr.new;refine aR.r0 g9 (by simp only[dD,bY,an,aH,m7,m6,↓reduceIte,ap,bb,cb,bw,ce,ar,aw,bP,cg d3,cg d4,cg d5,cg d6,↓j6,D2,fz hn,cr,c1,c2,c3,c4];first | done | rfl) ?_;exact((Fg.rn (f':=(21,.buf 1 4 14 (some 4))::Wn L) (n:=22) (S':=[io L 8 (.cells sX) (.cells [bF,ab 0,ab 0,bF]),.cells (I4.flatMap ao)]) [0,2] gt rfl (by (simp only[qX,gJ,bY,an,rl,sE,CY,cr,↓reduceIte,ap,c1,c2,c3,c4,cg d3,cg d4,cg d5,cg d6])<;>(repeat' apply b9)<;>first | trivial | exact .inl rfl | exact .inr rfl | exact .inr trivial | exact .inl trivial) (by (simp only[dD,gJ,bY,an,rl,sE,CY,cr,↓reduceIte,ap,c1,c2,c3,c4,cg d3,cg d4,cg d5,cg d6])<;>(repeat' apply b9)<;>first | rfl | trivial))).trans (bN (F4 @aZ @cN @dJ (fH d3) (fH d4) (fH d5) (fH d6)))
  ·cases hr.gX;have d2:L 2:=hr.dep ⟨2,.data⟩ gc rfl;have hn:¬L 8:=hr.new;refine aR.r0 g9 (by simp only[dD,bY,an,aH,m7,m6,↓reduceIte,ap,bb,cb,bw,ce,ar,aw,bP,cg d2,qY hn];first | done | rfl) ?_;exact(bN (gh @aZ @cN @dJ (fH d2)))
 have v9:∀i,i<9->∀v:SV,vo (λj=>j<9) i v=v:=λi h v=>cg h;have w9:∀i,i<9->∀v:SO,wo (λj=>j<9) i v=v:=λi h v=>ma h;have i9:∀i,i<9->∀x y:SO,io (λj=>j<9) i x y=x:=λi h x y=>Ai h;change aR _ _ _ _ _ _
 exact oA [(21,.buf 1 4 14 (some 4)),(0,.ptr 0 0)] [.cells sX,.cells (I4.flatMap ao)] (bN (cL (v9 7 gt) (w9 7 gt) (i9 8 gt)))<|(zR)<|kE [.cell 0 29,.tmp 1] (r:=.cq [.ag (an 3 DS aq::aC OY),an 14 I4 ao]) (hw:=.cq (.cons (.ag (.cons (.sl _ _ _) (.cons (.a _) (.cons (.a _) (.cons (.nil 3) .nil))))) (.cons (.buf rfl (bm.refl rfl) (aU _)) .nil)))
end Go.Proofs
namespace Go.Ev
noncomputable section
section
variable {P:Program} {ro:Option Nat}
def aR.r1{all l:List Oper}{o:Oper}{ds:List kr}{n d:Nat}{f:Fm}{S S1:List SO}{v:SV}{kill:Option Nat}{K:eR->Prop}(hst:eP all n [o]=true)(hdst:o.dst=some d)(hw:cV all f o.guard=some true)(hop:dO P f S o.op=some (v,S1,kill))
 (hk:aR P ro all l ⟨tc f kill (some d) v,n,S1,ds⟩ K):aR P ro all (o::l) ⟨f,n,S,ds⟩ K:=by
 have hd:=(fW hst).1;rw[hdst] at hd;have hw:=fi hst hw;rintro ρ0 h0 ⟨af,n',hh,ds'⟩ ⟨rfl,rfl,θ,ρ,hR,hF⟩;obtain⟨rv,h',θ',e1,e2,e3,e4⟩:=Qu hR hF hop;refine .cons (dr hF hw) (.run (C1 hop) (by rw[hdst];exact hd) e1 ?_);intro x hx;rw[rx hx];refine hk ρ0 h0 _ ⟨rfl,rfl,θ',ρ,e2,?_⟩;rw[hdst];cases rv<;>exact hF.kill e4 (gp hd) e3
end
end
end Go.Ev
namespace Go.Proofs
open Go.Ev
set_option maxRecDepth 100000
abbrev WT:List Nat:=[48,49,50,51,52,53,54,55,56,57,97,98,99,100,101,102]
def xE:aT:=.mk 5 [107,109] [] 100 0 []
def xR:jE:=⟨[114],nW,xE⟩
def xK:qJ:=⟨[119],[114],5⟩
def xH:mT:=⟨WT,[99],[0,1],[0]⟩
def Vy:eg:=⟨[xR],[],[],[],[],[]⟩
def UT:eg:=⟨[xR],[],[],[xK],[],[]⟩
def UU:eg:=⟨[],[],[],[],[],[xH]⟩
abbrev Wp:aB:=⟨1,[119],[114]⟩
abbrev Wq:aB:=⟨6,[99],WT⟩
abbrev Wr:aB:=⟨4,[119],[]⟩
def W8:fE DS OY Vy I4 [99] 5=[Wp]:=by kernel_rfl
def W9:fE DS OY UT I4 [99] 5=[]:=by kernel_rfl
def Xa:fE DS OY UU I4 [99] 5=[Wq]:=by kernel_rfl
def Xb:fE DS OY Vy I4 [119] 5=[Wr]:=by kernel_rfl
def Gu{s:List Nat}(h:(decide (s.length<=1000000)&&s.all λb=>decide (b<256))=true):fD s:=by
 simp only[aa,wp,all_eq_true] at h;exact⟨h.1,h.2⟩
def TV:mS DS:=by
 refine⟨by decide,λk hk=>?_,λk hk s hs=>?_⟩
 ·simp only[DS,dl,bk,or_false] at hk
  rcases hk with rfl | rfl<;>exact⟨Gu gt,by decide⟩
 ·simp only[DS,dl,bk,or_false] at hk
  rcases hk with rfl | rfl
  ·cases hs
  ·cases rx hs;exact⟨Gu gt,by decide⟩
def TW:gZ OY:=.mk gt λk hk=>by cases hk
def TX:∀e∈I4,lP e:=by
 intro e he;simp only[I4,dl,bk,or_false] at he
 rcases he with rfl | rfl | rfl | rfl<;>constructor<;>exact Gu gt
def Vp:gK xE:=.mk (Gu gt) (Gu gt) gt λk hk=>by cases hk
def DR{k:List qJ}{h:List mT}{r:List jE}(hr:r=[xR]\/r=[])(hk:k.length<=1)(hh:h=[xH]\/h=[]):sQ ⟨r,[],[],k,[],h⟩ where
 gb:=λq hq=>by
  rcases hr with rfl | rfl
  ·cases rx hq;exact Vp
  ·cases hq
 AL:=λq hq=>by cases hq
 Rw:=λq hq=>by cases hq
 hold:=λq hq=>by
  rcases hh with rfl | rfl
  ·cases rx hq;exact⟨by decide,by decide⟩
  ·cases hq
 lr:=by rcases hr with rfl | rfl<;>exact md rfl
 lc:=Nat.zero_le _
 ld:=Nat.zero_le _
 lh:=by rcases hh with rfl | rfl<;>exact md rfl
 ls:=Nat.zero_le _
 lx:=Nat.le_trans hk gt
def vt{b:eg}(hb:sQ b)(v:List Nat):PC prog 12 [.ag (an 3 DS aq::aC OY),.ag (aN b),an 14 I4 ao,ah v,ab 5] (·=an 3 (fE DS OY b I4 v 5) aL):=
 tz DS OY b I4 v 5 hb TV TW gt TX
def Qw(a:List aB)(h:a.length<=1000000):PC prog 11 [an 3 a aL,an 3 a aL] (·=ak true):=by
 have:=Kt a a h;rw[wl rfl] at this;exact this
abbrev w1:Fm:=[(0,ak false),(1,.ip [.sl 2 3 (DS.flatMap aq),ab 2,ab 0,.sl 0 3 []]),(2,an 14 I4 ao)]
abbrev WZ:List SV:=[.sl 1 8 (cF xR),.sl 0 5 [],.sl 0 5 [],.sl 0 3 [],.sl 0 8 [],.sl 0 4 []]
abbrev Wm:List SV:=[.sl 1 8 (cF xR),.sl 0 5 [],.sl 0 5 [],.sl 1 3 (dA xK),.sl 0 8 [],.sl 0 4 []]
abbrev W0:List SV:=[.sl 0 8 [],.sl 0 5 [],.sl 0 5 [],.sl 0 3 [],.sl 0 8 [],.sl 1 4 (cE xH)]
abbrev w3:Fm:=(3,.ip WZ)::w1
abbrev w4:Fm:=(4,.ip Wm)::w3
abbrev w5:Fm:=(5,.ip W0)::w4
def HT:PC prog 9 [] (·=ak true):=by
 have h1:=vt (DR (k:=[]) (h:=[]) (.inl rfl) gt (.inr rfl)) [99];rw[show(⟨[xR],[],[],[],[],[]⟩:eg)=Vy from rfl,W8] at h1;have h2:=vt (DR (k:=[xK]) (h:=[]) (.inl rfl) gt (.inr rfl)) [99];rw[show(⟨[xR],[],[],[xK],[],[]⟩:eg)=UT from rfl,W9] at h2;have h3:=vt (DR (k:=[]) (h:=[xH]) (.inr rfl) gt (.inl rfl)) [99];rw[show(⟨[],[],[],[],[],[xH]⟩:eg)=UU from rfl,Xa] at h3;have h4:=vt (DR (k:=[]) (h:=[]) (.inl rfl) gt (.inr rfl)) [119];rw[show(⟨[xR],[],[],[],[],[]⟩:eg)=Vy from rfl,Xb] at h4;have s1:=Qw [Wp] gt;have s2:=Qw [Wq] gt;have s3:=Qw [Wr] gt
 refine pB 58 Tryz.func9 ?_;refine(jM)<|(zK QE (hfl:=.inr (bm.refl rfl)))<|(cH (show aC OY=[ab 2,ab 0,.sl 0 3 []] from rfl)) ?_;refine zZ w1 0 rfl ⟨.inl rfl,.inr (.ptr rfl (bm.refl rfl) (bd _)),.inl rfl,trivial⟩<|zA w1 [] zH<|(zV)<|zA ((3,.ptr 1 0)::w1) [.cells [ah [114],ah nW,ab 5,ah [107,109],ah [],ab 100,ab 0,bF],.cells [.buf 0 1 8 (some 1),bF,bF,bF,bF,bF]] zH ?_;refine aE.fg (Fg.mr (f':=(3,.ptr 1 0)::w1) (S':=[.gone,.cells [.sl 1 8 (cF xR),bF,bF,bF,bF,bF]]) 0 rfl ge ⟨.inl rfl,zj⟩ ⟨.inl rfl,.inr ⟨by decide,.inr ⟨_,_,rfl,rfl,.cons (.buf rfl (.cons (.a _) (.cons (.a _) (.cons (.a _) (.cons (.a _) (.cons (.a _) (.cons (.a _) (.cons (.a _) (.cons (.nil 6) .nil)))))))) (aU _)) (bm.refl rfl)⟩⟩,trivial⟩) ?_;refine zZ w3 1 rfl ⟨.inr (.ptr rfl (.cons (.sl _ _ _) (.cons (.nil 5) (.cons (.nil 5) (.cons (.nil 3) (.cons (.nil 8) (.cons (.nil 4) .nil)))))) (bd _)),zj⟩<|zA w3 [] zH<|(oL)<|zA ((4,.ptr 0 0)::w3) [.cells [.sl 1 8 (cF xR),.sl 0 5 [],.sl 0 5 [],.buf 1 1 3 (some 1),.sl 0 8 [],.sl 0 4 []],.cells [ah [119],ah [114],ab 5]] zH ?_;refine aE.fg (Fg.mr (f':=(4,.ptr 0 0)::w3) (S':=[.cells Wm,.gone]) 1 rfl ge ⟨.inl rfl,zj⟩ ⟨.inr ⟨by decide,.inr ⟨_,_,rfl,rfl,.cons (.sl _ _ _) (.cons (.sl _ _ _) (.cons (.sl _ _ _) (.cons (.buf rfl (bm.refl rfl) (aU _)) (.cons (.sl _ _ _) (.cons (.sl _ _ _) .nil)))))⟩⟩,.inl rfl,trivial⟩) ?_;refine zZ w4 0 rfl ⟨.inr (.ptr rfl (bm.refl rfl) (bd _)),zj⟩<|zA w4 [] zH ?_
 (repeat refine aE.seq ?_)
 refine aE.region ?_;refine aR.r1 (d:=19) g9 rfl g9 zl ?_;refine oZ ((19,.sl 2 1 [ab 0,ab 1])::w4) 0 rfl ⟨.inr (.buf rfl (bm.refl rfl) (aU _)),zj⟩<|oA ((19,.sl 2 1 [ab 0,ab 1])::w4) [] zH ?_;refine aR.r1 (d:=20) g9 rfl g9 zl ?_;refine oZ ((20,.sl 1 1 [ab 0])::(19,.sl 2 1 [ab 0,ab 1])::w4) 0 rfl ⟨.inr (.buf rfl (bm.refl rfl) (aU _)),zj⟩<|oA ((20,.sl 1 1 [ab 0])::(19,.sl 2 1 [ab 0,ab 1])::w4) [] zH<|(zR)<|zA ((5,.ptr 1 0)::w4) [.cells (cE xH),.cells [bF,bF,bF,bF,bF,.buf 0 1 4 (some 1)]] zH ?_;refine aE.fg (Fg.mr (f':=(5,.ptr 1 0)::w4) (S':=[.gone,.cells [bF,bF,bF,bF,bF,.sl 1 4 (cE xH)]]) 0 rfl ge ⟨.inl rfl,zj⟩ ⟨.inl rfl,.inr ⟨by decide,.inr ⟨_,_,rfl,rfl,.cons (.a _) (.cons (.a _) (.cons (.a _) (.cons (.a _) (.cons (.a _) (.cons (.buf rfl (bm.refl rfl) (aU _)) .nil)))))⟩⟩,trivial⟩) ?_;exact zZ w5 1 rfl ⟨.inr (.ptr rfl (.cons (.nil 8) (.cons (.nil 5) (.cons (.nil 5) (.cons (.nil 3) (.cons (.nil 8) (.cons (.sl _ _ _) .nil)))))) (bd _)),zj⟩<|zA w5 [] zH<|(zC)<|(zK h1 (hwk:=bm.refl rfl) (hfl:=.inr (bm.refl rfl)))<|(zQ)<|(zK s1 (hwk:=.cons (.sl _ _ _) (.cons (.buf rfl (bm.refl rfl) (aU _)) .nil)))<|(zQ)<|(zK h2 (hwk:=bm.refl rfl) (hfl:=.inr (bm.refl rfl)))<|(zR)<|zA ((6,ak true)::w5) [] zH<|(zC)<|(zK h3 (hwk:=bm.refl rfl) (hfl:=.inr (bm.refl rfl)))<|(zQ)<|(zK s2 (hwk:=.cons (.sl _ _ _) (.cons (.buf rfl (bm.refl rfl) (aU _)) .nil)))<|(zQ)<|(zK h4 (hwk:=bm.refl rfl) (hfl:=.inr (bm.refl rfl)))<|(zQ)<|(zK s3 (hwk:=.cons (.sl _ _ _) (.cons (.buf rfl (bm.refl rfl) (aU _)) .nil)))<|(zR)<|zo [.tmp 0]
structure NX (c:List aK) (dmg:bo) (l:List aV):Prop where
 Wo:lj dmg
 cat:∀k∈c,(∀b∈k.name,b<256)/\∀s∈k.bH,∀b∈s.name,b<256
 len:l.length<=sy
 ev:∀e∈l,UI e
def O2(c:List aK)(dmg:bo)(b:eg)(l:List aV)(v:List Nat):Bool:=O3 c dmg l&&(Proofs.Ck b&&decide ((v.length:Int)<=300))
def mz{s:List Nat}(h:ko s=true)(hb:∀x∈s,x<256):fD s:=by
 unfold ko at h;simp only[ax,wn] at h;exact⟨by omega,hb⟩
def O1{b:eg}(h:Ck b=true)(hb:rH b):sQ b/\(b.rules.length<=5/\b.cM.length<=5/\b.eu.length<=5)/\b.holds.length<=5/\b.fw.length<=5/\b.oy.length<=5:=by
 unfold Ck tb at h;simp only[aa,ax,wn,wp,all_eq_true] at h;obtain⟨⟨h1,h2,h3,h4,⟨h5,h6⟩,h7,h8⟩,h9,h10,h11,h12⟩:=h;refine⟨⟨λr hr=>?_,λr hr=>?_,λd hd=>?_,λx hx=>?_,by omega,by omega,by omega,by omega,by omega,by omega⟩,⟨by omega,by omega,by omega⟩,by omega,by omega,by omega⟩
 ·have:=h6 r hr;unfold zr at this;rw[aa] at this;exact K9 this.2 (hb.gb r hr).2
 ·have:=h8 r hr;unfold zr at this;rw[aa] at this;exact K9 this.2 (hb.AL r hr).2
 ·have:=h10 d hd;unfold yp at this;simp only[es,List.all_nil,aa] at this;obtain⟨k1,k2,k3⟩:=hb.Rw d hd;exact⟨mz this.1 k1,mz this.2.1 k2,mz this.2.2.1 k3⟩
 ·have:=h12 x hx;unfold lk at this;simp only[aa,ax,wn] at this;exact⟨by omega,by omega⟩
structure WV (c:List aK) (dmg:bo) (b:eg) (l:List aV):Prop where
 cat:mS c
 Wo:gZ dmg
 book:sQ b
 len:l.length<=16
 ev:∀e∈l,lP e
 Xi:(b.rules.length<=5/\b.cM.length<=5/\b.eu.length<=5)/\b.holds.length<=5/\b.fw.length<=5/\b.oy.length<=5
def RA{c:List aK}{dmg:bo}{b:eg}{l:List aV}{v:List Nat}(h:O2 c dmg b l v=true)(ha:NX c dmg l)(hb:rH b):WV c dmg b l:=by
 unfold O2 at h;rw[aa,aa] at h;obtain⟨h1,h2,_⟩:=h;obtain⟨k1,k2⟩:=O1 h2 hb;unfold O3 at h1;simp only[aa,ax,wn,all_eq_true] at h1;obtain⟨⟨g1,g2,g3⟩,g4⟩:=h1;refine⟨O0 g2 ha.cat,OZ g3,k1,by omega,λe he=>?_,k2⟩;have:=g4 e he;unfold qC at this;simp only[aa] at this;obtain⟨q1,q2,q3,q4,q5,q6⟩:=this;have hb:=ha.ev e he;exact⟨mz q1 hb.part,mz q2 hb.kind,mz q3 hb.aJ,mz q4 hb.slot,mz q5 hb.key,mz q6 hb.value⟩
def J3(c:List aK)(dmg:bo)(b:eg)(l:List aV)(v:List Nat)(ha:NX c dmg l)(hb:rH b):PC prog 10 [.ag (an 3 c aq::aC dmg),.ag (aN b),an 14 l ao,ah v] (·=ak (O2 c dmg b l v)):=by
 have hfl:(aC dmg).length=3:=fa dmg;have hft:(aC dmg).take 3=aC dmg:=bQ (by rw[hfl];exact aU _);have hfk:=λo:Nat=>bV (o:=o) (aW dmg);have hfn:=λo:Nat=>bX (o:=o) (aW dmg);have h12:=HQ c dmg l ha.Wo ha.len;have h28:=J2 b hb;unfold O2;generalize O3 c dmg l=g1 at h12 ⊢;generalize Proofs.Ck b=g2 at h28 ⊢
 refine pB 21 Tryz.func10 ?_;refine(az (cL hfk hfn @aN.eq_1)) ?_;refine zZ [(2,an 14 l ao),(3,ah v),(4,.ip (an 3 c aq::aC dmg)),(5,.ptr 1 0)] 0 rfl ⟨.inl rfl,.inl rfl,.inr (.ptr rfl (bm.refl (aW dmg)) (bd _)),.inl rfl,trivial⟩<|zZ [(2,an 14 l ao),(3,ah v),(4,.ip (an 3 c aq::aC dmg)),(5,.ip (aN b))] 1 rfl (gV (bz @an.eq_1 @aN.eq_1))<|zA [(2,an 14 l ao),(3,ah v),(4,.ip (an 3 c aq::aC dmg)),(5,.ip (aN b))] [] zH<|(fC (bz hfl hft))<|(zK h12 (hwk:=.cons (.ag (bm.refl (aW dmg))) (bm.refl rfl))) ?_
 cases g1
 ·exact(zR)<|zo [.tmp 8]
 refine(NV @aN.eq_1)<|(zK h28) ?_
 cases g2
 ·exact(zR)<|zo [.tmp 8]
 cases g3:decide ((v.length:Int)<=300)
 ·exact(cH g3)<|zo [.tmp 8]
 ·exact(cH g3)<|zo [.tmp 8]
def oB:Nat->Ty
 | 0=>.no 6
 | 1=>.st [.no 1,.no 1,.no 1,.no 1,.no 1,.no 1]
 | j+2=>.st [i6,.str,.str,i6,i6,.sl (oB j)]
def jG:∀j,(oB j).size=6
 | 0=>rfl
 | 1=>rfl
 | j+2=>rfl
def qq(j:Nat):List Ty:=[.str,.str,oB j]
def L7:List Ty:=[.str,.str,.str,.str,i6]
def DN:List Ty:=[.str,.str,.str,i6,i6]
def DL:List Ty:=[.str,.str,i6]
def DX:List Ty:=[.str,.str,.sl i6,.sl i6]
def IQ(j:Nat):List Ty:=[.sl (.st (qq j)),.sl (.st L7),.sl (.st DN),.sl (.st DL),.sl (.st (qq j)),.sl (.st DX)]
section
variable {B:Nat} {ds:List DV}
def K7(hB:B<=sy):∀(j:Nat) {ds:List DV},kj B (oB j) ds->∃e:aT,eS ds=aX e/\eZ e
 | 0,ds,h=>by
  rw[oB,kj] at h;exact h.elim
 | 1,ds,h=>by
  rw[oB,kj,ee] at h;obtain⟨_,_,_,h,_⟩:=h;rw[kj] at h;exact h.elim
 | j+2,ds,h=>by
  rw[oB,kj] at h;obtain⟨a1,r,rfl,_,hk⟩:=dL h;obtain⟨s1,r,rfl,b1,_,hk⟩:=cZ hk;obtain⟨s2,r,rfl,b2,_,hk⟩:=cZ hk;obtain⟨a2,r,rfl,_,hk⟩:=dL hk;obtain⟨a3,r,rfl,_,hk⟩:=dL hk;obtain⟨nl,rows,r,rfl,hl,hr,hk⟩:=iV hk;have:=iC hk;subst this;obtain⟨xs,h1,h2,h3⟩:=me aX eZ λr hrr=>K7 hB j (hr r hrr);refine⟨.mk a1 s1 s2 a2 a3 xs,?_,.mk b1 b2 ii h3⟩;rw[ig,jG];simp only[eS,Gc,nf h1 h2,h2,h1]
def L3(hB:B<=sy){j:Nat}(hk:ee B (qq j) ds):∃r:jE,eS ds=cF r/\((r.name.length<=sy/\r.kind.length<=sy)/\eZ r.cond):=by
 unfold qq at hk;obtain⟨s1,r,rfl,b1,l1,hk⟩:=cZ hk;obtain⟨s2,r,rfl,b2,l2,hk⟩:=cZ hk;rw[ee] at hk;obtain⟨d1,d2,rfl,h1,h2⟩:=hk;rw[ee] at h2;subst h2;obtain⟨e,h3,h4⟩:=K7 hB j h1;exact⟨⟨s1,s2,e⟩,by simp only[eS,Gc,ct,h3,cF],⟨by show s1.length<=sy;omega,by show s2.length<=sy;omega⟩,h4⟩
def Up(hk:ee B L7 ds):∃s:vG,eS ds=eJ s/\True:=by
 unfold L7 at hk;obtain⟨s1,r,rfl,b1,l1,hk⟩:=cZ hk;obtain⟨s2,r,rfl,b2,l2,hk⟩:=cZ hk;obtain⟨s3,r,rfl,b3,l3,hk⟩:=cZ hk;obtain⟨s4,r,rfl,b4,l4,hk⟩:=cZ hk;obtain⟨a1,r,rfl,_,hk⟩:=dL hk;have:=iC hk;subst this;exact⟨⟨s1,s2,s3,s4,a1⟩,by simp only[eS,Gc,eJ],trivial⟩
def Rx(hk:ee B DN ds):∃d:ea,eS ds=bl d/\((∀x∈d.name,x<256)/\(∀x∈d.kind,x<256)/\∀x∈d.key,x<256):=by
 unfold DN at hk;obtain⟨s1,r,rfl,b1,l1,hk⟩:=cZ hk;obtain⟨s2,r,rfl,b2,l2,hk⟩:=cZ hk;obtain⟨s3,r,rfl,b3,l3,hk⟩:=cZ hk;obtain⟨a1,r,rfl,_,hk⟩:=dL hk;obtain⟨a2,r,rfl,_,hk⟩:=dL hk;have:=iC hk;subst this;exact⟨⟨s1,s2,s3,a1,a2⟩,by simp only[eS,Gc,bl],b1,b2,b3⟩
def Rp(hk:ee B DL ds):∃d:qJ,eS ds=dA d/\True:=by
 unfold DL at hk;obtain⟨s1,r,rfl,b1,l1,hk⟩:=cZ hk;obtain⟨s2,r,rfl,b2,l2,hk⟩:=cZ hk;obtain⟨a1,r,rfl,_,hk⟩:=dL hk;have:=iC hk;subst this;exact⟨⟨s1,s2,a1⟩,by simp only[eS,Gc,dA],trivial⟩
def Ph(hk:kj B i6 ds):∃n:Int,eS ds=aD ab n/\True:=by
 have h:ee B [i6] (ds++[]):=by rw[ee];exact⟨ds,[],rfl,hk,by rw[ee]⟩
 rw[ct] at h;obtain⟨n,r,rfl,_,hk⟩:=dL h;have:=iC hk;subst this;exact⟨n,by simp only[eS,Gc,aD],trivial⟩
def RE(hk:ee B DX ds):∃h:mT,eS ds=cE h/\True:=by
 unfold DX at hk;obtain⟨s1,r,rfl,b1,l1,hk⟩:=cZ hk;obtain⟨s2,r,rfl,b2,l2,hk⟩:=cZ hk;obtain⟨n1,rows1,r,rfl,_,hr1,hk⟩:=iV hk;obtain⟨n2,rows2,r,rfl,_,hr2,hk⟩:=iV hk;have:=iC hk;subst this;obtain⟨xs,h1,h2,_⟩:=me (aD ab) (λ_=>True) λr hrr=>Ph (hr1 r hrr);obtain⟨ys,h3,h4,_⟩:=me (aD ab) (λ_=>True) λr hrr=>Ph (hr2 r hrr);exact⟨⟨s1,s2,xs,ys⟩,by simp only[eS,nf h1 h2,nf h3 h4,cE];rfl,trivial⟩
def Rh(hB:B<=sy){j:Nat}(hk:ee B (IQ j) ds):∃b:eg,eS ds=aN b/\rH b:=by
 unfold IQ at hk;obtain⟨n1,r1,r,rfl,l1,k1,hk⟩:=iV hk;obtain⟨n2,r2,r,rfl,l2,k2,hk⟩:=iV hk;obtain⟨n3,r3,r,rfl,l3,k3,hk⟩:=iV hk;obtain⟨n4,r4,r,rfl,l4,k4,hk⟩:=iV hk;obtain⟨n5,r5,r,rfl,l5,k5,hk⟩:=iV hk;obtain⟨n6,r6,r,rfl,l6,k6,hk⟩:=iV hk;have:=iC hk;subst this;obtain⟨x1,a1,c1,d1⟩:=me cF (λr=>(r.name.length<=sy/\r.kind.length<=sy)/\eZ r.cond) λr hrr=>L3 hB (by have:=k1 r hrr;rw[kj] at this;exact this);obtain⟨x2,a2,c2,d2⟩:=me eJ (λ_=>True) λr hrr=>Up (by have:=k2 r hrr;rw[kj] at this;exact this);obtain⟨x3,a3,c3,d3⟩:=me bl (λd=>(∀x∈d.name,x<256)/\(∀x∈d.kind,x<256)/\∀x∈d.key,x<256) λr hrr=>Rx (by have:=k3 r hrr;rw[kj] at this;exact this);obtain⟨x4,a4,c4,d4⟩:=me dA (λ_=>True) λr hrr=>Rp (by have:=k4 r hrr;rw[kj] at this;exact this);obtain⟨x5,a5,c5,d5⟩:=me cF (λr=>(r.name.length<=sy/\r.kind.length<=sy)/\eZ r.cond) λr hrr=>L3 hB (by have:=k5 r hrr;rw[kj] at this;exact this);obtain⟨x6,a6,c6,d6⟩:=me cE (λ_=>True) λr hrr=>RE (by have:=k6 r hrr;rw[kj] at this;exact this);refine⟨⟨x1,x2,x3,x4,x5,x6⟩,?_,⟨d1,d5,d3,by show x1.length<=sy;omega,by show x5.length<=sy;omega⟩⟩;simp only[eS,nf a1 c1,nf a2 c2,nf a3 c3,nf a4 c4,nf a5 c5,nf a6 c6,aN,Ty.size,Ty.pz,qq,jG];rfl
end
end Go.Proofs
namespace Go.Proofs.YtjiejanfnnieaaaGreat
open Go.Proofs Go.Ev Go.ChangeShapes Go.WideShapes Go.ChangeAt Go.RowKit
set_option maxRecDepth 100000
def VZ:ownKnob prog.godebug=none:=by kernel_rfl
def Nc:laidOutB prog=true:=by kernel_rfl
def Ut{α:Type}:∀{l:List α},l.length=2->∃a b,l=[a,b]
 | [a,b],_=>⟨a,b,rfl⟩
def QA{α:Type}:∀{l:List α},l.length=3->∃a b c,l=[a,b,c]
 | [a,b,c],_=>⟨a,b,c,rfl⟩
def QQ:∀k,gD prog k 27=some (oS k)
 | 0=>by kernel_rfl
 | 1=>by kernel_rfl
 | k+2=>by
  have ih:=QQ k
  have h1:gD prog (k+1) 25=some (.sl (oS k)):=by
   unfold gD;rw[show prog.underlying 25=some (.slice 27) by kernel_rfl];simp only;rw[ih,m7,td,show(beq (prog.cellsOf 27) 3&&(ble 1 3&&ble 1 (prog.bytesOf 27)))=true by kernel_rfl];rfl
  have h2:gD prog (k+1) 3=some i6:=by kernel_rfl
  obtain⟨fs,hu,hfs⟩:∃fs,prog.underlying 27=some (.struct fs)/\fs.toList.map (λf=>(f.type,f.offset))=[(3,0),(3,1),(25,2)]:=by
   have q:(prog.underlying 27).bind (λu=>match u with | .struct fs=>some (fs.toList.map (λf=>(f.type,f.offset))) | _=>none)=some [(3,0),(3,1),(25,2)]:=by kernel_rfl
   obtain⟨u,e1,e2⟩:=t8 q
   cases u<;>first | (cases e2;done) | exact⟨_,e1,Option.some.inj e2⟩
  unfold gD;rw[hu];simp only;generalize fs.toList=l at hfs;obtain⟨a,b,c,rfl⟩:=QA (by have:=rc ck hfs;rwa [aS] at this)
  ·simp only[ac,cl,mt,m8,and_true] at hfs;obtain⟨⟨a1,a2⟩,⟨b1,b2⟩,c1,c2⟩:=hfs
   have n1:prog.cellsOf 3=1:=by kernel_rfl
   have n2:prog.cellsOf 25=1:=by kernel_rfl
   have n3:prog.cellsOf 27=3:=by kernel_rfl
   simp only[gH,a1,a2,b1,b2,c1,c2,h1,h2,n1,n2,n3,m7,m6,Ty.size,Ty.pz,cd,cond_true,ch,bb,oS]
def QS(j:Nat):gD prog (j+12) 29=some (.st [.st [.sl (.st wg)],oS (j+11)]):=by
 obtain⟨fs,hu,hfs⟩:∃fs,prog.underlying 29=some (.struct fs)/\fs.toList.map (λf=>(f.type,f.offset))=[(24,0),(27,1)]:=by
  have q:(prog.underlying 29).bind (λu=>match u with | .struct fs=>some (fs.toList.map (λf=>(f.type,f.offset))) | _=>none)=some [(24,0),(27,1)]:=by kernel_rfl
  obtain⟨u,e1,e2⟩:=t8 q
  cases u<;>first | (cases e2;done) | exact⟨_,e1,Option.some.inj e2⟩
 have h1:gD prog (j+11) 24=some (.st [.sl (.st wg)]):=by kernel_rfl
 have h2:=QQ (j+11);unfold gD;rw[hu];simp only;generalize fs.toList=l at hfs;obtain⟨a,b,rfl⟩:=Ut (by have:=rc ck hfs;rwa [aS] at this)
 ·simp only[ac,cl,mt,m8,and_true] at hfs;obtain⟨⟨a1,a2⟩,b1,b2⟩:=hfs
  have n1:prog.cellsOf 24=1:=by kernel_rfl
  have n2:prog.cellsOf 27=3:=by kernel_rfl
  have n3:prog.cellsOf 29=4:=by kernel_rfl
  have h2:gD prog (j+11) 27=some (oS (j+11)):=h2;simp only[gH,a1,a2,b1,b2,h1,h2,n1,n2,n3,m7,m6,Ty.size,Ty.pz,td,cd,cond_true,ch,bb]
def RO{α:Type}:∀{l:List α},l.length=3->∃a b c,l=[a,b,c]
 | [a,b,c],_=>⟨a,b,c,rfl⟩
def Lq{α:Type}:∀{l:List α},l.length=6->∃a b c d e f,l=[a,b,c,d,e,f]
 | [a,b,c,d,e,f],_=>⟨a,b,c,d,e,f,rfl⟩
def Mb:∀k,gD prog k 71=some (oB k)
 | 0=>by kernel_rfl
 | 1=>by kernel_rfl
 | k+2=>by
  have ih:=Mb k
  have h5:gD prog (k+1) 69=some (.sl (oB k)):=by
   unfold gD;rw[show prog.underlying 69=some (.slice 71) by kernel_rfl];simp only;rw[ih,m7,jG,show(beq (prog.cellsOf 71) 6&&(ble 1 6&&ble 1 (prog.bytesOf 71)))=true by kernel_rfl];rfl
  have h0:gD prog (k+1) 3=some i6:=by kernel_rfl
  have h1:gD prog (k+1) 9=some .str:=by kernel_rfl
  have h2:=h1;have h3:=h0;have h4:=h0
  obtain⟨fs,hu,hfs⟩:∃fs,prog.underlying 71=some (.struct fs)/\fs.toList.map (λf=>(f.type,f.offset))=[(3,0),(9,1),(9,2),(3,3),(3,4),(69,5)]:=by
   have q:(prog.underlying 71).bind (λu=>match u with | .struct fs=>some (fs.toList.map (λf=>(f.type,f.offset))) | _=>none)=some [(3,0),(9,1),(9,2),(3,3),(3,4),(69,5)]:=by kernel_rfl
   obtain⟨u,e1,e2⟩:=t8 q
   cases u<;>first | (cases e2;done) | exact⟨_,e1,Option.some.inj e2⟩
  unfold gD;rw[hu];simp only;generalize fs.toList=l at hfs;obtain⟨x0,x1,x2,x3,x4,x5,rfl⟩:=Lq (by have:=rc ck hfs;rwa [aS] at this);simp only[ac,cl,mt,m8,and_true] at hfs;obtain⟨⟨a0,b0⟩,⟨a1,b1⟩,⟨a2,b2⟩,⟨a3,b3⟩,⟨a4,b4⟩,a5,b5⟩:=hfs
  have n0:prog.cellsOf 3=1:=by kernel_rfl
  have n1:prog.cellsOf 9=1:=by kernel_rfl
  have n2:prog.cellsOf 9=1:=by kernel_rfl
  have n3:prog.cellsOf 3=1:=by kernel_rfl
  have n4:prog.cellsOf 3=1:=by kernel_rfl
  have n5:prog.cellsOf 69=1:=by kernel_rfl
  have nn:prog.cellsOf 71=6:=by kernel_rfl
  simp only[gH,a0,b0,a1,b1,a2,b2,a3,b3,a4,b4,a5,b5,h0,h1,h2,h3,h4,h5,n0,n1,n2,n3,n4,n5,nn,m7,m6,Ty.size,Ty.pz,oB,cd,cond_true,ch,bb]
  skip
def SQ(j:Nat):gD prog (j+10) 73=some (.st (qq (j+9))):=by
 obtain⟨fs,hu,hfs⟩:∃fs,prog.underlying 73=some (.struct fs)/\fs.toList.map (λf=>(f.type,f.offset))=[(9,0),(9,1),(71,2)]:=by
  have q:(prog.underlying 73).bind (λu=>match u with | .struct fs=>some (fs.toList.map (λf=>(f.type,f.offset))) | _=>none)=some [(9,0),(9,1),(71,2)]:=by kernel_rfl
  obtain⟨u,e1,e2⟩:=t8 q
  cases u<;>first | (cases e2;done) | exact⟨_,e1,Option.some.inj e2⟩
 have h0:gD prog (j+9) 9=some .str:=by kernel_rfl
 have h1:=h0;have h2:=Mb (j+9);unfold gD;rw[hu];simp only;generalize fs.toList=l at hfs;obtain⟨x0,x1,x2,rfl⟩:=RO (by have:=rc ck hfs;rwa [aS] at this);simp only[ac,cl,mt,m8,and_true] at hfs;obtain⟨⟨a0,b0⟩,⟨a1,b1⟩,a2,b2⟩:=hfs
 have n0:prog.cellsOf 9=1:=by kernel_rfl
 have n1:prog.cellsOf 9=1:=by kernel_rfl
 have n2:prog.cellsOf 71=6:=by kernel_rfl
 have nn:prog.cellsOf 73=8:=by kernel_rfl
 simp only[gH,a0,b0,a1,b1,a2,b2,h0,h1,h2,n0,n1,n2,nn,m7,m6,Ty.size,Ty.pz,jG,cd,cond_true,ch,bb]
 try rfl
def QR(j:Nat):gD prog (j+11) 30=some (.sl (.st (qq (j+9)))):=by
 have ih:=SQ j;unfold gD;rw[show prog.underlying 30=some (.slice 73) by kernel_rfl];simp only;rw[ih,m7,show(Ty.st (qq (j+9))).size=8 by unfold qq;simp only[Ty.size,Ty.pz,jG],show(beq (prog.cellsOf 73) 8&&(ble 1 8&&ble 1 (prog.bytesOf 73)))=true by kernel_rfl];rfl
def SP(j:Nat):gD prog (j+12) 36=some (.st (IQ (j+9))):=by
 obtain⟨fs,hu,hfs⟩:∃fs,prog.underlying 36=some (.struct fs)/\fs.toList.map (λf=>(f.type,f.offset))=[(30,0),(31,1),(32,2),(33,3),(30,4),(34,5)]:=by
  have q:(prog.underlying 36).bind (λu=>match u with | .struct fs=>some (fs.toList.map (λf=>(f.type,f.offset))) | _=>none)=some [(30,0),(31,1),(32,2),(33,3),(30,4),(34,5)]:=by kernel_rfl
  obtain⟨u,e1,e2⟩:=t8 q
  cases u<;>first | (cases e2;done) | exact⟨_,e1,Option.some.inj e2⟩
 have h0:=QR j
 have h1:gD prog (j+11) 31=some (.sl (.st L7)):=by kernel_rfl
 have h2:gD prog (j+11) 32=some (.sl (.st DN)):=by kernel_rfl
 have h3:gD prog (j+11) 33=some (.sl (.st DL)):=by kernel_rfl
 have h4:=h0
 have h5:gD prog (j+11) 34=some (.sl (.st DX)):=by kernel_rfl
 unfold gD;rw[hu];simp only;generalize fs.toList=l at hfs;obtain⟨x0,x1,x2,x3,x4,x5,rfl⟩:=Lq (by have:=rc ck hfs;rwa [aS] at this);simp only[ac,cl,mt,m8,and_true] at hfs;obtain⟨⟨a0,b0⟩,⟨a1,b1⟩,⟨a2,b2⟩,⟨a3,b3⟩,⟨a4,b4⟩,a5,b5⟩:=hfs
 have n0:prog.cellsOf 30=1:=by kernel_rfl
 have n1:prog.cellsOf 31=1:=by kernel_rfl
 have n2:prog.cellsOf 32=1:=by kernel_rfl
 have n3:prog.cellsOf 33=1:=by kernel_rfl
 have n4:prog.cellsOf 30=1:=by kernel_rfl
 have n5:prog.cellsOf 34=1:=by kernel_rfl
 have nn:prog.cellsOf 36=6:=by kernel_rfl
 simp only[gH,a0,b0,a1,b1,a2,b2,a3,b3,a4,b4,a5,b5,h0,h1,h2,h3,h4,h5,n0,n1,n2,n3,n4,n5,nn,m7,m6,Ty.size,Ty.pz,jG,cd,cond_true,ch,bb]
 try rfl
def QP(j:Nat):gD Tryz.prog (j+12) 37=some (.sl (.st DQ)):=by kernel_rfl
def We(j:Nat):gD Tryz.prog (j+12) 9=some .str:=by kernel_rfl
def Wc(j:Nat):gD Tryz.prog (j+12) 3=some i6:=by kernel_rfl
def JF:reachBytes<=sy:=by decide
def SG{B:Nat}{y:DV}(h:VC B .str y):∃s:List Nat,y=.fl (.str s)/\∀b∈s,b<256:=by
 have h:kj B .str [y]:=h;rw[kj] at h;obtain⟨s,e,w,_⟩:=h;simp only[mt,and_true] at e;exact⟨s,e,w⟩
def RG{B:Nat}{y:DV}(h:VC B i6 y):∃n:Int,y=.fl (.int .i64 n):=by
 have h:kj B i6 [y]:=h;rw[kj] at h;obtain⟨n,e,_⟩:=h;simp only[mt,and_true] at e;exact⟨n,e⟩
section
variable {H:Type} {enc:TypeId×Value->H} {P:Program} {w:World} {base:Nat} {spare:Nat->Bool} {held:Bool}
def JS{t0 t1 t2 t3 t4 t5:TypeId}{args:Array Value}{ds:List (DataW H)}{ps:List MemPlace}(h:DataW.TrodAll enc P w base spare held [t0,t1,t2,t3,t4,t5] args.toList ds ps):
 ∃v0 v1 v2 v3 v4 v5 d0 d1 d2 d3 d4 d5 p0 p1 p2 p3 p4 p5,args=#[v0,v1,v2,v3,v4,v5]/\ds=[d0,d1,d2,d3,d4,d5]/\ps=p0++p1++p2++p3++p4++p5/\DataW.Trod enc P w base spare held t0 v0 d0 p0/\DataW.Trod enc P w base spare held t1 v1 d1 p1/\DataW.Trod enc P w base spare held t2 v2 d2 p2/\DataW.Trod enc P w base spare held t3 v3 d3 p3/\DataW.Trod enc P w base spare held t4 v4 d4 p4/\DataW.Trod enc P w base spare held t5 v5 d5 p5:=by
 obtain⟨v0,_,d0,_,p0,_,hargs,rfl,rfl,e0,h⟩:=trodAll_cons h;obtain⟨v1,_,d1,_,p1,_,rfl,rfl,rfl,e1,h⟩:=trodAll_cons h;obtain⟨v2,_,d2,_,p2,_,rfl,rfl,rfl,e2,h⟩:=trodAll_cons h;obtain⟨v3,_,d3,_,p3,_,rfl,rfl,rfl,e3,h⟩:=trodAll_cons h;obtain⟨v4,_,d4,_,p4,_,rfl,rfl,rfl,e4,h⟩:=trodAll_cons h;obtain⟨v5,_,d5,_,p5,_,rfl,rfl,rfl,e5,h⟩:=trodAll_cons h;obtain⟨rfl,rfl,rfl⟩:=trodAll_nil h;exact⟨v0,v1,v2,v3,v4,v5,d0,d1,d2,d3,d4,d5,p0,p1,p2,p3,p4,p5,by cases args;simp_all,rfl,by simp,e0,e1,e2,e3,e4,e5⟩
def JR{t0 t1 t2 t3 t4 t5:TypeId}{v0 v1 v2 v3 v4 v5:Value}{d0 d1 d2 d3 d4 d5:DataW H}{p0 p1 p2 p3 p4 p5:List MemPlace}(h0:DataW.Trod enc P w base spare held t0 v0 d0 p0)(h1:DataW.Trod enc P w base spare held t1 v1 d1 p1)(h2:DataW.Trod enc P w base spare held t2 v2 d2 p2)(h3:DataW.Trod enc P w base spare held t3 v3 d3 p3)(h4:DataW.Trod enc P w base spare held t4 v4 d4 p4)(h5:DataW.Trod enc P w base spare held t5 v5 d5 p5):DataW.TrodAll enc P w base spare held [t0,t1,t2,t3,t4,t5] [v0,v1,v2,v3,v4,v5] [d0,d1,d2,d3,d4,d5] (p0++(p1++(p2++(p3++(p4++(p5)))))):=⟨p0,p1++(p2++(p3++(p4++(p5)))),h0,⟨p1,p2++(p3++(p4++(p5))),h1,⟨p2,p3++(p4++(p5)),h2,⟨p3,p4++(p5),h3,⟨p4,p5,h4,trodAll_mk1 h5,rfl⟩,rfl⟩,rfl⟩,rfl⟩,rfl⟩
end
end Go.Proofs.YtjiejanfnnieaaaGreat
namespace Go.Proofs
open Go.Ev
set_option maxRecDepth 100000
abbrev mU(p:Int×Int):Prop := -1000000000000<=p.1/\p.1<=p.2/\p.2<=1000000000000
abbrev pF(p q:Int×Int):Prop:=q.1<=p.1/\p.1<=p.2/\p.2<=q.2
def Ak(p:Int×Int):lI p.1 p.2=true↔mU p:=by
 unfold lI;simp only[aa,wp]
def pg{p q r s z:Int}:z<=cC (cC (cC p q) r) s↔z<=p/\z<=q/\z<=r/\z<=s:=by
 unfold cC;split<;>split<;>split<;>omega
def pe{p q r s z:Int}:bT (bT (bT p q) r) s<=z↔p<=z/\q<=z/\r<=z/\s<=z:=by
 unfold bT;split<;>split<;>split<;>omega
def Ec{p q r s z:Int}(h:p<=z\/q<=z\/r<=z\/s<=z):cC (cC (cC p q) r) s<=z:=by
 have:=(pg (p:=p) (q:=q) (r:=r) (s:=s)).1 (aj _);omega
def Eb{p q r s z:Int}(h:z<=p\/z<=q\/z<=r\/z<=s):z<=bT (bT (bT p q) r) s:=by
 have:=(pe (p:=p) (q:=q) (r:=r) (s:=s)).1 (aj _);omega
def iS{p q z:Int}:z<=cC p q↔z<=p/\z<=q:=by unfold cC;split<;>omega
def fc{p q z:Int}:bT p q<=z↔p<=z/\q<=z:=by unfold bT;split<;>omega
def jC{p q z:Int}:cC p q<=z↔p<=z\/q<=z:=by unfold cC;split<;>omega
def eN{p q z:Int}:z<=bT p q↔z<=p\/z<=q:=by unfold bT;split<;>omega
def uX{a b:Int}(h:a<=b):nw a<=nw b:=by
 unfold nw;rw[fc,eN,eN]
 rcases er b 1000000000000 with h1 | h1
 ·refine⟨.inl (aj _),.inr (iS.2 ⟨jC.2 (.inl h),jC.2 (.inl ii)⟩)⟩
 ·refine⟨.inl (aj _),.inr (iS.2 ⟨jC.2 (.inl h),jC.2 (.inr (aj _))⟩)⟩
def Qx(a:Int) : -1000000000000<=nw a/\nw a<=1000000000000:=by unfold nw bT cC;split<;>split<;>omega
abbrev Bt(x a b:Int):Prop:=(a<=x\/b<=x)/\(x<=a\/x<=b)
def Bt.sat{x a b:Int}(h:Bt x a b):Bt (nw x) (nw a) (nw b):=
 ⟨h.1.imp uX uX,h.2.imp uX uX⟩
structure Q0 (f:Int->Int->Int):Prop where
 Hv:∀x y,-1000000000000<=f x y/\f x y<=1000000000000
 fst:∀a b x y,-1000000000000<=a->a<=x->x<=b->b<=1000000000000 -> -1000000000000<=y->y<=1000000000000->Bt (f x y) (f a y) (f b y)
 snd:∀c d x y,-1000000000000<=c->c<=y->y<=d->d<=1000000000000 -> -1000000000000<=x->x<=1000000000000->Bt (f x y) (f x c) (f x d)
def tR{f:Int->Int->Int}{p q:Int×Int}(hp:mU p)(hq:mU q):dC f p.1 p.2 q.1 q.2=(cC (cC (cC (f p.1 q.1) (f p.1 q.2)) (f p.2 q.1)) (f p.2 q.2),bT (bT (bT (f p.1 q.1) (f p.1 q.2)) (f p.2 q.1)) (f p.2 q.2)):=by
 unfold dC;rw[(Ak p).2 hp,(Ak q).2 hq];rfl
def Q0.has{f:Int->Int->Int}(h:Q0 f){p q:Int×Int}(hp:mU p)(hq:mU q){x y:Int}(hx:p.1<=x/\x<=p.2)(hy:q.1<=y/\y<=q.2):(dC f p.1 p.2 q.1 q.2).1<=f x y/\f x y<=(dC f p.1 p.2 q.1 q.2).2:=by
 rw[tR hp hq];have h1:=h.fst p.1 p.2 x y hp.1 hx.1 hx.2 hp.2.2 ii ii;have h2:=h.snd q.1 q.2 p.1 y hq.1 hy.1 hy.2 hq.2.2 ii ii;have h3:=h.snd q.1 q.2 p.2 y hq.1 hy.1 hy.2 hq.2.2 ii ii;exact⟨Ec ii,Eb ii⟩
def mU.sub{p p':Int×Int}(h:mU p)(hs:pF p' p):mU p':=by omega
def Q0.sub{f:Int->Int->Int}(h:Q0 f){p q p' q':Int×Int}(hp:mU p)(hq:mU q)(h1:pF p' p)(h2:pF q' q):pF (dC f p'.1 p'.2 q'.1 q'.2) (dC f p.1 p.2 q.1 q.2):=by
 have c:=λx y (hx:p.1<=x/\x<=p.2) (hy:q.1<=y/\y<=q.2)=>h.has hp hq (x:=x) (y:=y) hx hy;rw[tR (hp.sub h1) (hq.sub h2)];have c1:=c p'.1 q'.1 ii ii;have c2:=c p'.1 q'.2 ii ii;have c3:=c p'.2 q'.1 ii ii;have c4:=c p'.2 q'.2 ii ii;refine⟨pg.2 ⟨c1.1,c2.1,c3.1,c4.1⟩,?_,pe.2 ⟨c1.2,c2.2,c3.2,c4.2⟩⟩;exact dc (Ec (.inl (aj _))) (Eb (.inl (aj _)))
theorem Q0.B{f:Int->Int->Int}(h:Q0 f){p q:Int×Int}(hp:mU p)(hq:mU q):mU (dC f p.1 p.2 q.1 q.2):=by
 rw[tR hp hq];have c1:=h.Hv p.1 q.1;have c2:=h.Hv p.1 q.2;have c3:=h.Hv p.2 q.1;have c4:=h.Hv p.2 q.2;refine⟨pg.2 ⟨c1.1,c2.1,c3.1,c4.1⟩,?_,pe.2 ⟨c1.2,c2.2,c3.2,c4.2⟩⟩;exact dc (Ec (.inl (aj _))) (Eb (.inl (aj _)))
def wrap64{n:Int}(h1 : -9223372036854775808<=n)(h2:n<9223372036854775808):dE .i64 n=n:=by
 rw[ga];simp[IntKind.wrap,IntKind.bits,IntKind.signed];omega
def Vo{n:Int}(h1:0<=n)(h2:n<18446744073709551616):dE .u64 n=n:=by
 rw[ga];simp[IntKind.wrap,IntKind.bits,IntKind.signed];omega
def lL:Q0 fV where
 Hv:=λx y=>Qx _
 fst:=λa b x y h1 h2 h3 h4 h5 h6=>by
  unfold fV vI;rw[wrap64 ii ii,wrap64 ii ii,wrap64 ii ii];exact Bt.sat ii
 snd:=λa b x y h1 h2 h3 h4 h5 h6=>by
  unfold fV vI;rw[wrap64 ii ii,wrap64 ii ii,wrap64 ii ii];exact Bt.sat ii
def CJ:Q0 tl where
 Hv:=λx y=>Qx _
 fst:=λa b x y h1 h2 h3 h4 h5 h6=>by
  unfold tl rp;rw[wrap64 ii ii,wrap64 ii ii,wrap64 ii ii];exact Bt.sat ii
 snd:=λa b x y h1 h2 h3 h4 h5 h6=>by
  unfold tl rp;rw[wrap64 ii ii,wrap64 ii ii,wrap64 ii ii];exact Bt.sat ii
def KJ{a:Int}(h1 : -1000000000000<=a)(h2:a<=1000000000000):iK a=a.natAbs:=by
 unfold iK Eg;rw[wrap64 ii ii,Vo (by unfold bT;split<;>omega) (by unfold bT;split<;>omega)];unfold bT;split<;>omega
def RT(P:Nat):(if P/18446744073709551616=0/\P%18446744073709551616<=1000000000000 then dE .i64 ((P%18446744073709551616:Nat):Int) else 1000000000000)=cC (P:Int) 1000000000000:=by
 split
 ·rename_i h;have e:P%18446744073709551616=P:=Nat.mod_eq_of_lt ii;rw[e] at h ⊢;rw[wrap64 ii ii];unfold cC;split<;>omega
 ·rename_i h;unfold cC;split<;>omega
def vg{a b:Int}(h1 : -1000000000000<=a)(h2:a<=1000000000000)(h3 : -1000000000000<=b)(h4:b<=1000000000000):rq a b=nw (a*b):=by
 unfold rq;rw[RT,KJ h1 h2,KJ h3 h4,<-Int.natAbs_mul]
 have hs:(decide (a<0) != decide (b<0))=true->a*b<=0:=λh=>by
  by_cases ha:a<0
  ·by_cases hb:b<0
   ·simp[ha,hb] at h
   ·exact Int.mul_nonpos_of_nonpos_of_nonneg ii ii
  ·by_cases hb:b<0
   ·exact Int.mul_nonpos_of_nonneg_of_nonpos ii ii
   ·simp[ha,hb] at h
 have hs2:(decide (a<0) != decide (b<0))=false->0<=a*b:=λh=>by
  by_cases ha:a<0
  ·by_cases hb:b<0
   ·exact Int.mul_nonneg_of_nonpos_of_nonpos ii ii
   ·simp[ha,hb] at h
  ·by_cases hb:b<0
   ·simp[ha,hb] at h
   ·exact Int.mul_nonneg ii ii
 generalize a*b=n at hs hs2;cases h:(decide (a<0) != decide (b<0))
 ·have:=hs2 h;show cC _ _=nw n;unfold nw cC bT;split<;>split<;>split<;>omega
 ·have:=hs h;show Eg (cC _ _)=nw n;unfold Eg;rw[wrap64 (by unfold cC;split<;>omega) (by unfold cC;split<;>omega)];unfold nw cC bT;split<;>split<;>split<;>omega
def Py{a b x y:Int}(h1:a<=x)(h2:x<=b):Bt (x*y) (a*y) (b*y):=by
 rcases er 0 y with h | h
 ·exact⟨.inl (ay h1 h),.inr (ay h2 h)⟩
 ·exact⟨.inr (bi h2 h),.inl (bi h1 h)⟩
def C6:Q0 λx y=>nw (x*y) where
 Hv:=λx y=>Qx _
 fst:=λa b x y h1 h2 h3 h4 h5 h6=>Bt.sat (Py h2 h3)
 snd:=λa b x y h1 h2 h3 h4 h5 h6=>by
  show Bt (nw (x*y)) (nw (x*a)) (nw (x*b));rw[co x y,co x a,co x b];exact Bt.sat (Py h2 h3)
def sW{p q:Int×Int}(hp:mU p)(hq:mU q):dC rq p.1 p.2 q.1 q.2=dC (λx y=>nw (x*y)) p.1 p.2 q.1 q.2:=by
 rw[tR hp hq,tR hp hq,vg ii ii ii ii,vg ii ii ii ii,vg ii ii ii ii,vg ii ii ii ii]
abbrev Fl(a b F:Int):Prop:=(0<b/\b*F<=a/\a<b*F+b)\/(b<0/\a<=b*F/\b*F+b<a)
def Fl.neg{a b F:Int}(h:Fl a b F):Fl (-a) (-b) F:=by
 unfold Fl at *;rw[Int.neg_mul];omega
def lE{a b:Int}(h1 : -1000000000000<=a)(h2:a<=1000000000000)(hb:b≠0):Fl a b (iu a b):=by
 have e:=Int.mul_tdiv_add_tmod a b
 have e1:a.natAbs<=1000000000000:=by omega
 have l1:(a.tdiv b).natAbs<=a.natAbs:=by rw[Int.natAbs_tdiv];exact Nat.div_le_self _ _
 have r1:(a.tmod b).natAbs<b.natAbs:=by rw[dv];exact Nat.mod_lt _ ii
 have r2:(a.tmod b).natAbs<=a.natAbs:=by rw[dv];exact Nat.mod_le _ _
 have r3:0<=a->0<=a.tmod b:=λh=>dF _ h
 have r4:a<=0->a.tmod b<=0:=λh=>by
  have:=dF b (show 0 <= -a by omega);rw[Int.neg_tmod] at this;omega
 unfold iu;rw[ut hb];unfold Px Ew rp;generalize hr:a.tmod b=r at *;generalize hq:a.tdiv b=q at *;rw[wrap64 (n:=q) ii ii,co q b];generalize hm:b*q=m at *;rw[wrap64 (n:=m) ii ii,wrap64 (n:=q-1) ii ii];split
 ·rename_i h;unfold Fl;rw[Int.mul_sub,hm,Int.mul_one];simp only[aa,ax,wn,bne_iff_ne,ne_eq,decide_eq_decide] at h;omega
 ·rename_i h;unfold Fl;rw[hm];simp only[aa,ax,wn,bne_iff_ne,ne_eq,decide_eq_decide] at h;omega
def Fl.up{a b F z:Int}(h:Fl a b F)(hb:0<b)(hz:b*z<=a):z<=F:=by
 have h:b*z<b*(F+1):=by
  rw[Int.mul_add,Int.mul_one];omega
 have:=Int.lt_of_mul_lt_mul_left h (Int.le_of_lt hb);omega
def Fl.num{a x b F G:Int}(h:Fl a b F)(hg:Fl x b G)(hb:0<b)(hx:a<=x):F<=G:=hg.up hb ii
def Fl.den{a d e F G:Int}(h:Fl a d F)(hg:Fl a e G)(hd:0<d)(he:d<=e):(0<=a->G<=F/\0<=G)/\(a<=0->F<=G/\G<=0):=by
 constructor
 ·intro ha;have g0:0<=G:=hg.up ii (by rw[Int.mul_zero];exact ha);refine⟨h.up hd ?_,g0⟩;have:=ay he g0;omega
 ·intro ha
  have g0:G<=0:=by
   by_cases hp:G<=0
   ·exact hp
   ·have:e*1<=e*G:=ca ii ii;omega
  have f0:F<=0:=by
   by_cases hp:F<=0
   ·exact hp
   ·have:d*1<=d*F:=ca ii ii;omega
  refine⟨hg.up ii ?_,g0⟩;have:=bi he f0;omega
def Fl.Hv{a b F:Int}(h:Fl a b F)(h1 : -1000000000000<=a)(h2:a<=1000000000000) : -1000000000000<=F/\F<=1000000000000:=by
 have key:∀{a b:Int},Fl a b F->0<b -> -1000000000000<=a->a<=1000000000000 -> -1000000000000<=F/\F<=1000000000000:=by
  intro a b h hb h1 h2;constructor
  ·refine h.up hb ?_;have:b*1000000000000≥1*1000000000000:=ay ii ii;omega
  ·by_cases hp:F<=0
   ·omega
   ·have:1*F<=b*F:=ay ii ii;omega
 rcases ci b 0 with hb | hb | hb
 ·exact key h.neg ii ii ii
 ·omega
 ·exact key h hb h1 h2
def O7{a x c b:Int}(h1 : -1000000000000<=a)(hx:a<=x)(hc:x<=c)(h2:c<=1000000000000)(hb:b≠0):pH a c b<=iu x b/\iu x b<=pG a c b:=by
 have f1:=lE h1 (show a<=1000000000000 by omega) hb;have f2:=lE (show -1000000000000<=x by omega) (show x<=1000000000000 by omega) hb;have f3:=lE (show -1000000000000<=c by omega) h2 hb;unfold pH pG;rw[jC,eN]
 rcases ci b 0 with hn | hn | hn
 ·have:=f2.neg.num f1.neg ii ii;have:=f3.neg.num f2.neg ii ii;omega
 ·exact ul hn hb
 ·have:=f1.num f2 hn hx;have:=f2.num f3 hn hc;omega
def TY{a d y e:Int}(h1 : -1000000000000<=a)(h2:a<=1000000000000)(hd:d<=y)(he:y<=e)(hs:0<d\/e<0):Bt (iu a y) (iu a d) (iu a e):=by
 have f1:=lE h1 h2 (show d≠0 by omega);have f2:=lE h1 h2 (show y≠0 by omega);have f3:=lE h1 h2 (show e≠0 by omega)
 rcases hs with hs | hs
 ·have k1:=f1.den f2 hs hd;have k2:=f2.den f3 ii he;omega
 ·have k1:=f3.neg.den f2.neg ii ii;have k2:=f2.neg.den f1.neg ii ii;omega
def Pj{x y:Int×Int}(hx:mU x)(hy:mU y):eo x y=(cC (cC (cC x.1 x.2) y.1) y.2,bT (bT (bT x.1 x.2) y.1) y.2):=by
 unfold eo lq;rw[(Ak x).2 hx,(Ak y).2 hy];rfl
def Al{x y:Int×Int}(hx:mU x)(hy:mU y):mU (eo x y)/\pF x (eo x y)/\pF y (eo x y)/\∀z,pF x z->pF y z->pF (eo x y) z:=by
 rw[Pj hx hy];have a1:=pg (p:=x.1) (q:=x.2) (r:=y.1) (s:=y.2) (z:=cC (cC (cC x.1 x.2) y.1) y.2);have a2:=pe (p:=x.1) (q:=x.2) (r:=y.1) (s:=y.2) (z:=bT (bT (bT x.1 x.2) y.1) y.2);have b1:=a1.1 (aj _);have b2:=a2.1 (aj _);refine⟨⟨pg.2 ii,by show _<=bT (bT (bT x.1 x.2) y.1) y.2;omega,pe.2 ii⟩,⟨b1.1,hx.2.1,b2.2.1⟩,⟨b1.2.2.1,hy.2.1,b2.2.2.2⟩,λz h1 h2=>⟨pg.2 ii,by show _<=bT (bT (bT x.1 x.2) y.1) y.2;omega,pe.2 ii⟩⟩
def La:∀(l:List (Int×Int)) (x:Int×Int),mU x->(∀r∈l,mU r)->mU (l.foldl eo x)/\pF x (l.foldl eo x)/\(∀r∈l,pF r (l.foldl eo x))/\∀z,pF x z->(∀r∈l,pF r z)->pF (l.foldl eo x) z
 | [],x,hx,_=>⟨hx,⟨aj _,hx.2.1,aj _⟩,λr h=>by (cases h),λz h _=>h⟩
 | r::l,x,hx,hl=>by
  obtain⟨j1,j2,j3,j4⟩:=Al hx (hl r ad);obtain⟨i1,i2,i3,i4⟩:=La l (eo x r) j1 λq hq=>hl q (al _ hq);refine⟨i1,?_,?_,λz h1 h2=>i4 z (j4 z h1 (h2 r ad)) λq hq=>h2 q (al _ hq)⟩
  ·rw[be];omega
  ·intro q hq;rw[be]
   rcases t6 hq with rfl | hq
   ·omega
   ·exact i3 q hq
def Hy{a b:Int×Int}{r:Int×Int}(h:r∈dQ a.1 a.2 b.1 b.2):r=(0,0)/\b.1<=0/\0<=b.2\/∃d,d≠0/\b.1<=d/\d<=b.2/\r=(pH a.1 a.2 d,pG a.1 a.2 d):=by
 unfold dQ cG at h;rw[mem_append,mem_append] at h
 rcases h with(h | h) | h
 ·split at h
  ·rename_i hz;exact .inl ⟨rx h,hz.1,hz.2⟩
  ·cases h
 ·split at h
  ·rename_i hz;rw[fc] at hz
   rcases mem_append.1 h with h | h
   ·exact .inr ⟨_,by unfold bT;split<;>omega,by unfold bT;split<;>omega,by unfold bT;split<;>omega,rx h⟩
   ·exact .inr ⟨_,by omega,by omega,by omega,rx h⟩
  ·cases h
 ·split at h
  ·rename_i hz;rw[iS] at hz
   rcases mem_append.1 h with h | h
   ·exact .inr ⟨_,by omega,by omega,by omega,rx h⟩
   ·exact .inr ⟨_,by unfold cC;split<;>omega,by unfold cC;split<;>omega,by unfold cC;split<;>omega,rx h⟩
  ·cases h
def Qo{a b:Int×Int}(ha:mU a){r:Int×Int}(h:r∈dQ a.1 a.2 b.1 b.2):mU r:=by
 rcases Hy h with⟨rfl,_⟩ | ⟨d,hd,_,_,rfl⟩
 ·exact⟨by decide,by decide,by decide⟩
 ·have f1:=(lE ha.1 (show a.1<=1000000000000 by omega) hd).Hv ha.1 ii;have f2:=(lE (show -1000000000000<=a.2 by omega) ha.2.2 hd).Hv ii ha.2.2;unfold pH pG;refine⟨iS.2 ⟨f1.1,f2.1⟩,?_,fc.2 ⟨f1.2,f2.2⟩⟩;exact dc (jC.2 (.inl (aj _))) (eN.2 (.inl (aj _)))
def DM{a b:Int×Int}(ha:mU a):mU (eD a.1 a.2 b.1 b.2)/\(∀r∈dQ a.1 a.2 b.1 b.2,pF r (eD a.1 a.2 b.1 b.2))/\∀z,dQ a.1 a.2 b.1 b.2≠[]->(∀r∈dQ a.1 a.2 b.1 b.2,pF r z)->pF (eD a.1 a.2 b.1 b.2) z:=by
 have hB:=λr hr=>Qo (b:=b) ha (r:=r) hr;unfold eD;generalize dQ a.1 a.2 b.1 b.2=l at hB ⊢
 cases l with
 | nil=>exact⟨⟨by decide,by decide,by decide⟩,λr h=>ul h bk,λz h=>ul rfl h⟩
 | cons x l=>
  obtain⟨i1,i2,i3,i4⟩:=La (x::l) x (hB x ad) hB;exact⟨i1,i3,λz _ h=>i4 z (h x ad) h⟩
def Sy{a b:Int×Int}(hb:b.1<=b.2):dQ a.1 a.2 b.1 b.2≠[]:=by
 intro h;unfold dQ cG at h;rw[cn,cn] at h;obtain⟨⟨h1,h2⟩,h3⟩:=h;split at h1
 ·cases h1
 ·split at h2
  ·cases h2
  ·rename_i k2;split at h3
   ·cases h3
   ·rename_i k3;rw[fc] at k2;rw[iS] at k3;omega
def K3{a b:Int×Int}(ha:mU a){x y:Int}(hx:a.1<=x/\x<=a.2)(hy:b.1<=y/\y<=b.2)(h0:y≠0):(eD a.1 a.2 b.1 b.2).1<=iu x y/\iu x y<=(eD a.1 a.2 b.1 b.2).2:=by
 obtain⟨-,h2,-⟩:=DM (b:=b) ha
 have hm:∃d e,d<=y/\y<=e/\(0<d\/e<0)/\(pH a.1 a.2 d,pG a.1 a.2 d)∈dQ a.1 a.2 b.1 b.2/\(pH a.1 a.2 e,pG a.1 a.2 e)∈dQ a.1 a.2 b.1 b.2:=by
  unfold dQ cG
  rcases ci y 0 with hn | hn | hn
  ·have hle:b.1<=cC b.2 (-1):=iS.2 ii;refine⟨b.1,cC b.2 (-1),hy.1,iS.2 ii,.inr (by unfold cC;split<;>omega),?_,?_⟩
   ·rw[un hle];exact a9 _ (ba _ (rt rfl))
   ·rw[un hle];exact a9 _ (a9 _ (rt rfl))
  ·exact ul hn h0
  ·have hle:bT b.1 1<=b.2:=fc.2 ii;refine⟨bT b.1 1,b.2,fc.2 ii,hy.2,.inl (by unfold bT;split<;>omega),?_,?_⟩
   ·rw[un hle];exact ba _ (a9 _ (ba _ (rt rfl)))
   ·rw[un hle];exact ba _ (a9 _ (a9 _ (rt rfl)))
 obtain⟨d,e,hd,he,hs,m1,m2⟩:=hm;have k1:=h2 _ m1;have k2:=h2 _ m2;have n1:=O7 ha.1 hx.1 hx.2 ha.2.2 (show d≠0 by omega);have n2:=O7 ha.1 hx.1 hx.2 ha.2.2 (show e≠0 by omega);have n3:=TY (show -1000000000000<=x by omega) (show x<=1000000000000 by omega) hd he hs;omega
def Rv{a b a' b':Int×Int}(ha:mU a)(h1:pF a' a)(h2:pF b' b):pF (eD a'.1 a'.2 b'.1 b'.2) (eD a.1 a.2 b.1 b.2):=by
 obtain⟨-,-,i3⟩:=DM (a:=a') (b:=b') (ha.sub h1);refine i3 _ (Sy h2.2.1) λr hr=>?_;have hrB:=Qo (ha.sub h1) hr
 rcases Hy hr with⟨rfl,k1,k2⟩ | ⟨d,hd,k1,k2,rfl⟩
 ·obtain⟨-,j2,-⟩:=DM (b:=b) ha;refine j2 _ ?_;unfold dQ;rw[un ⟨by omega,by omega⟩];exact ba _ (ba _ (rt rfl))
 ·have g1:=K3 (b:=b) ha (x:=a'.1) (y:=d) ii ii hd;have g2:=K3 (b:=b) ha (x:=a'.2) (y:=d) ii ii hd;exact⟨iS.2 ⟨g1.1,g2.1⟩,hrB.2.1,fc.2 ⟨g1.2,g2.2⟩⟩
def Oh(op:Int){a b:Int×Int}(ha:mU a)(hb:mU b):mU (applyN op a b)/\∀a' b',pF a' a->pF b' b->pF (applyN op a' b') (applyN op a b):=by
 unfold applyN;by_cases h5:op=5
 ·simp only[un h5];exact⟨lL.B ha hb,λa' b' h1 h2=>lL.sub ha hb h1 h2⟩
 by_cases h6:op=6
 ·simp only[ut h5,un h6];exact⟨CJ.B ha hb,λa' b' h1 h2=>CJ.sub ha hb h1 h2⟩
 by_cases h7:op=7
 ·simp only[ut h5,ut h6,un h7];refine⟨?_,λa' b' h1 h2=>?_⟩
  ·rw[sW ha hb];exact C6.B ha hb
  ·rw[sW ha hb,sW (ha.sub h1) (hb.sub h2)];exact C6.sub ha hb h1 h2
 by_cases h9:op=9
 ·simp only[ut h5,ut h6,ut h7,un h9];refine⟨⟨iS.2 ii,iS.2 ⟨jC.2 ii,jC.2 ii⟩,jC.2 ii⟩,λa' b' h1 h2=>⟨iS.2 ⟨jC.2 ii,jC.2 ii⟩,iS.2 ⟨jC.2 ii,jC.2 ii⟩,iS.2 ⟨jC.2 ii,jC.2 ii⟩⟩⟩
 by_cases h10:op=10
 ·simp only[ut h5,ut h6,ut h7,ut h9,un h10];refine⟨⟨eN.2 ii,fc.2 ⟨eN.2 ii,eN.2 ii⟩,fc.2 ii⟩,λa' b' h1 h2=>⟨fc.2 ⟨eN.2 ii,eN.2 ii⟩,fc.2 ⟨eN.2 ii,eN.2 ii⟩,fc.2 ⟨eN.2 ii,eN.2 ii⟩⟩⟩
 simp only[ut h5,ut h6,ut h7,ut h9,ut h10];exact⟨(DM ha).1,λa' b' h1 h2=>Rv ha h1 h2⟩
def uG{p:Int×Int}(h:mU p)(n:Int):(gS p.1 p.2 n=0↔p.2<=n)/\(gS p.1 p.2 n=2↔n<p.1):=by
 unfold gS;rw[(Ak p).2 h];by_cases h1:p.2<=n
 ·rw[wl h1];simp;omega
 ·rw[wd h1];by_cases h2:n<p.1
  ·simp[h1,h2]
  ·simp[h1,h2]
def Mt{a b c:Int×Int}(ha:mU a)(hb:mU b)(hc:mU c):mU (js a b c)/\∀a' b' c',pF a' a->pF b' b->pF c' c->pF (js a' b' c') (js a b c):=by
 obtain⟨j1,j2,j3,j4⟩:=Al hb hc;have o:=uG ha 0;unfold js;refine⟨?_,λa' b' c' h1 h2 h3=>?_⟩
 ·split
  ·exact hb
  ·split
   ·exact hc
   ·exact j1
 ·have o':=uG (ha.sub h1) 0;obtain⟨k1,k2,k3,k4⟩:=Al (hb.sub h2) (hc.sub h3);simp only[o.1,o.2,o'.1,o'.2];show pF (if _ then _ else if _ then _ else eo b' c') (if _ then _ else if _ then _ else eo b c);by_cases g1:0<a.1
  ·rw[un g1,un ii];exact h2
  ·by_cases g2:a.2<=0
   ·rw[ut g1,un g2,ut ii,un ii];exact h3
   ·rw[ut g1,ut g2];split
    ·omega
    ·split
     ·omega
     ·exact k4 _ ii ii
structure N7 (u v:gm):Prop where
 a:pF (u.u1,u.u2) (v.u1,v.u2)
 b:pF (u.u3,u.u4) (v.u3,v.u4)
 c:pF (u.u5,u.u6) (v.u5,v.u6)
def wi{u:gm}(h:u.tf=true)(op:Int):mU (ju u op)/\∀u',N7 u' u->pF (ju u' op) (ju u op):=by
 unfold gm.tf fb at h;simp only[aa,ax,wn] at h;unfold ju;refine⟨?_,λu' hu=>?_⟩
 ·split
  ·exact⟨by show _<=u.u1;omega,by show u.u1<=u.u2;omega,by show u.u2<=_;omega⟩
  split
  ·exact⟨by show _<=u.u3;omega,by show u.u3<=u.u4;omega,by show u.u4<=_;omega⟩
  ·exact⟨by show _<=u.u5;omega,by show u.u5<=u.u6;omega,by show u.u6<=_;omega⟩
 ·split
  ·exact hu.a
  split
  ·exact hu.b
  ·exact hu.c
def xW:mU (0,0):=⟨by decide,by decide,by decide⟩
def xX:pF (0,0) (0,0):=⟨by decide,by decide,by decide⟩
def Qq{u:gm}(hu:u.tf=true):∀(d:Nat) (f:bo),SizeOf.sizeOf f<d->eY f=true->mU (ke u f)/\∀u',N7 u' u->pF (ke u' f) (ke u f)
 | 0,_,h,_=>ul h (Nat.not_lt_zero _)
 | d+1,.mk op n kids,hd,hf=>by
  have hkd:∀k∈kids,SizeOf.sizeOf k<d:=λk hk=>by
   have h1:=List.sizeOf_lt_of_mem hk
   have h2:SizeOf.sizeOf (bo.mk op n kids)=1+SizeOf.sizeOf op+SizeOf.sizeOf n+SizeOf.sizeOf kids:=by simp
   omega
  rw[eY,Bool.and_eq_true] at hf;obtain⟨hf,hks⟩:=hf;rw[qn,List.all_eq_true] at hks;have ih:=λk hk=>Qq hu d k (hkd k hk) (hks k hk)
  have hrs:∀v,kD v kids=kids.map (ke v):=by
   intro v
   have:∀l:List bo,kD v l=l.map (ke v):=by
    intro l
    induction l with
    | nil=>rw[kD];rfl
    | cons a l i=>rw[kD,i];rfl
   exact this kids
  simp only[Bool.and_eq_true,Bool.not_eq_true',wn,wp] at hf;simp only[ke,hrs];by_cases h1:op=1
  ·simp only[un h1];exact⟨⟨by show _<=n;omega,Int.le_refl _,by show n<=_;omega⟩,λ_ _=>⟨Int.le_refl _,Int.le_refl _,Int.le_refl _⟩⟩
  by_cases h4:op<=4
  ·simp only[ut h1,un h4];exact wi hu op
  simp only[ut h1,ut h4]
  match kids,ih with
  | [],_=>exact⟨xW,λ_ _=>xX⟩
  | [_],_=>exact⟨xW,λ_ _=>xX⟩
  | a::b::l,ih=>
   obtain⟨a1,a2⟩:=ih a gc;obtain⟨b1,b2⟩:=ih b gc;simp only[List.map_cons];by_cases h11:op=11
   ·simp only[un h11]
    match l,ih with
    | [],_=>exact⟨xW,λ_ _=>xX⟩
    | c::l,ih=>
     obtain⟨c1,c2⟩:=ih c gc;simp only[List.map_cons];obtain⟨i1,i2⟩:=Mt a1 b1 c1;exact⟨i1,λu' h=>i2 _ _ _ (a2 u' h) (b2 u' h) (c2 u' h)⟩
   ·simp only[ut h11];obtain⟨i1,i2⟩:=Oh op a1 b1;exact⟨i1,λu' h=>i2 _ _ (a2 u' h) (b2 u' h)⟩
def Gv{u u':gm}(hu:u.tf=true)(h:N7 u' u):u'.tf=true:=by
 obtain⟨h1,h2,h3⟩:=h;unfold gm.tf fb at *;simp only[aa,ax,wn] at *;omega
def MA{f:bo}{u:gm}(hu:u.tf=true):(mU (gP f u)/\0<=(gP f u).1)/\∀u',N7 u' u->pF (gP f u') (gP f u):=by
 unfold gP;by_cases hv:fZ f=true
 ·have hr:eY f=true:=by unfold fZ at hv;rw[aa] at hv;exact hv.2
  obtain⟨i1,i2⟩:=Qq hu _ f (bv _) hr;rw[un ⟨hu,hv⟩];refine⟨⟨⟨eN.2 (.inl gt),fc.2 ⟨eN.2 (.inl (aj _)),eN.2 (.inr i1.2.1)⟩,fc.2 ⟨by decide,i1.2.2⟩⟩,eN.2 (.inl (aj _))⟩,λu' h=>?_⟩;have k:=i2 u' h;rw[un ⟨Gv hu h,hv⟩];exact⟨fc.2 ⟨eN.2 (.inl (aj _)),eN.2 (.inr k.1)⟩,fc.2 ⟨eN.2 (.inl (aj _)),eN.2 (.inr k.2.1)⟩,fc.2 ⟨eN.2 (.inl (aj _)),eN.2 (.inr k.2.2)⟩⟩
 ·rw[ut (λh=>hv h.2)];refine⟨⟨⟨by decide,by decide,by decide⟩,by decide⟩,λu' _=>?_⟩;rw[ut (λh=>hv h.2)];exact⟨by decide,by decide,by decide⟩
section
variable {α:Type}
def oW(lt:α->α->Bool)(x:α):List α->List α
 | []=>[x]
 | y::r=>if lt x y=true then y::oW lt x r else x::y::r
def Oy{lt:α->α->Bool}{x:α}:∀(R rest:List α),sY lt R.length (R.reverse++x::rest)=(oW lt x R).reverse++rest
 | [],rest=>rfl
 | y::R,rest=>by
  have e:(y::R).reverse++x::rest=R.reverse++y::x::rest:=by simp
  have hl:R.reverse.length=R.length:=List.length_reverse
  have e1:(R.reverse++y::x::rest)[R.length+1]?=some x:=by
   rw[List.getElem?_append_right ii,hl,show R.length+1-R.length=1 by omega];rfl
  have e2:(R.reverse++y::x::rest)[R.length]?=some y:=by
   rw[List.getElem?_append_right ii,hl,Nat.sub_self];rfl
  rw[e,i7];unfold sY oW;rw[e1,e2];simp only;split
  ·rw[List.set_append_right _ _ ii,hl,show R.length+1-R.length=1 by omega,List.set_append_right _ _ ii,hl,Nat.sub_self];show sY lt R.length (R.reverse++x::y::rest)=_;rw[Oy R (y::rest)];simp
  ·simp
def Lj{lt:α->α->Bool}:∀(rest R:List α),Ag lt rest.length R.length (R.reverse++rest)=(rest.foldl (λR x=>oW lt x R) R).reverse
 | [],R=>by rw[ct];rfl
 | x::rest,R=>by
  rw[i7,Ag,Oy,be,<-Lj rest]
  congr 1
  have:∀R:List α,(oW lt x R).length=R.length+1:=λR=>by
   induction R with
   | nil=>rfl
   | cons y R ih=>rw[oW];split<;>simp[ih]
  rw[this]
def Li(lt:α->α->Bool)(l:List α):Ad lt l=(l.foldl (λR x=>oW lt x R) []).reverse:=by
 cases l with
 | nil=>rfl
 | cons x l=>exact Lj (lt:=lt) l [x]
def Ah{lt:α->α->Bool}{x z:α}:∀{R:List α},z∈oW lt x R->z=x\/z∈R
 | [],h=>.inl (rx h)
 | y::R,h=>by
  rw[oW] at h;split at h
  ·rcases t6 h with rfl | h
   ·exact .inr ad
   ·exact(Ah h).imp id (al _)
  ·exact t6 h
def A0{β:Type}{lt:α->α->Bool}{lt2:β->β->Bool}{f:α->β}{P:α->Prop}(hlt:∀x y,P x->P y->lt x y=lt2 (f x) (f y)):∀(l R:List α),(∀x∈l,P x)->(∀x∈R,P x)->(l.foldl (λR x=>oW lt x R) R).map f=(l.map f).foldl (λR x=>oW lt2 x R) (R.map f)
 | [],_,_,_=>rfl
 | x::l,R,hl,hR=>by
  have hx:=hl x ad
  have one:∀R:List α,(∀y∈R,P y)->(oW lt x R).map f=oW lt2 (f x) (R.map f):=λR=>by
   induction R with
   | nil=>intro _;rfl
   | cons y R ih=>
    intro h;rw[oW,ac,oW,<-hlt x y hx (h y ad)];split
    ·rw[ac,ih λz hz=>h z (al _ hz)]
    ·rfl
  rw[be,ac,be,<-one R hR];refine A0 hlt l _ (λy hy=>hl y (al _ hy)) λy hy=>?_
  rcases Ah hy with rfl | hy
  ·exact hx
  ·exact hR y hy
variable {k:α->Int}
end
def Lr:qG sZ=λx y=>decide (x.day<y.day):=by
 funext x y;unfold qG sZ Mv;rw[decide_eq_decide];split
 ·omega
 ·split<;>omega
def sC(e:aV):aV:={ e with u1:=0,u2:=0,u3:=0,u4:=0,u5:=0,u6:=0 }
structure UB (a b:aV):Prop where
 eq:sC a=sC b
 use:N7 (ki a) (ki b)
def vP{a b:aV}(h:sC a=sC b):∃op day part kind aJ slot key value u1 u2 u3 u4 u5 u6 v1 v2 v3 v4 v5 v6,a=⟨op,day,part,kind,aJ,slot,key,value,u1,u2,u3,u4,u5,u6⟩/\b=⟨op,day,part,kind,aJ,slot,key,value,v1,v2,v3,v4,v5,v6⟩:=by
 obtain⟨a1,a2,a3,a4,a5,a6,a7,a8,u1,u2,u3,u4,u5,u6⟩:=a;obtain⟨b1,b2,b3,b4,b5,b6,b7,b8,v1,v2,v3,v4,v5,v6⟩:=b;simp only[sC,aV.mk.injEq,and_true] at h;obtain⟨rfl,rfl,rfl,rfl,rfl,rfl,rfl,rfl⟩:=h;exact⟨_,_,_,_,_,_,_,_,_,_,_,_,_,_,_,_,_,_,_,_,rfl,rfl⟩
def Qa{e:aV}(h:e.op≠4):(e.rest).u1=e.u1/\(e.rest).u2=e.u2/\(e.rest).u3=e.u3/\(e.rest).u4=e.u4/\(e.rest).u5=e.u5/\(e.rest).u6=e.u6:=by
 unfold aV.rest;rw[ut h];split
 ·exact⟨rfl,rfl,rfl,rfl,rfl,rfl⟩
 split
 ·exact⟨rfl,rfl,rfl,rfl,rfl,rfl⟩
 split
 ·exact⟨rfl,rfl,rfl,rfl,rfl,rfl⟩
 ·exact⟨rfl,rfl,rfl,rfl,rfl,rfl⟩
def Bo{e:aV}(he:cQ e=true)(h4:e.op=4):(ki e).tf=true:=by
 obtain⟨_,_,_,hm,_⟩:=oP he;unfold aV.j9 at hm;rw[h4] at hm;exact hm
def Dh{a b:aV}(h:UB a b)(hb:cQ b=true):cQ a=true:=by
 by_cases h4:b.op=4
 ·have hg:=Gv (Bo hb h4) h.use;have hg2:=Bo hb h4;obtain⟨op,day,part,kind,aJ,slot,key,value,u1,u2,u3,u4,u5,u6,v1,v2,v3,v4,v5,v6,rfl,rfl⟩:=vP h.eq;have h4:op=4:=h4;subst h4;have e1:(fb u1 u2&&(fb u3 u4&&fb u5 u6))=true:=hg;have e2:(fb v1 v2&&(fb v3 v4&&fb v5 v6))=true:=hg2;rw[<-hb];show(_&&(_&&(_&&(_&&((fb u1 u2&&(fb u3 u4&&fb u5 u6))&&_)))))=(_&&(_&&(_&&(_&&((fb v1 v2&&(fb v3 v4&&fb v5 v6))&&_)))));rw[e1,e2];rfl
 ·have hz:b.rest=aV.zero:=by
   unfold cQ at hb;simp only[aa,wp] at hb;exact hb.2.2.2.2.2.1
  obtain⟨r1,r2,r3,r4,r5,r6⟩:=Qa h4;rw[hz] at r1 r2 r3 r4 r5 r6;obtain⟨s1,s2,s3⟩:=h.use
  have e:a=b:=by
   obtain⟨op,day,part,kind,aJ,slot,key,value,u1,u2,u3,u4,u5,u6,v1,v2,v3,v4,v5,v6,rfl,rfl⟩:=vP h.eq;have k1:0=v1:=r1;have k2:0=v2:=r2;have k3:0=v3:=r3;have k4:0=v4:=r4;have k5:0=v5:=r5;have k6:0=v6:=r6;subst k1 k2 k3 k4 k5 k6;have m1:0<=u1/\u1<=u2/\u2<=0:=s1;have m2:0<=u3/\u3<=u4/\u4<=0:=s2;have m3:0<=u5/\u5<=u6/\u6<=0:=s3
   obtain rfl:u1=0:=by omega
   obtain rfl:u2=0:=by omega
   obtain rfl:u3=0:=by omega
   obtain rfl:u4=0:=by omega
   obtain rfl:u5=0:=by omega
   obtain rfl:u6=0:=by omega
   rfl
  rw[e];exact hb
def zU{c:List aK}{s:List ai}{a b:aV}(h:sC a=sC b)(ha:cQ a=true)(hb:cQ b=true):aI c s a=aI c s b:=by
 obtain⟨op,day,part,kind,aJ,slot,key,value,u1,u2,u3,u4,u5,u6,v1,v2,v3,v4,v5,v6,rfl,rfl⟩:=vP h;unfold aI;rw[ha,hb];rfl
structure IF (p q:ai):Prop where
 eq:bare p=bare q
 b1:mU (q.l1,q.l2)
 b2:mU (q.l3,q.l4)
 b3:mU (q.l5,q.l6)
 s1:pF (p.l1,p.l2) (q.l1,q.l2)
 s2:pF (p.l3,p.l4) (q.l3,q.l4)
 s3:pF (p.l5,p.l6) (q.l5,q.l6)
def IF.name{p q:ai}(h:IF p q):p.name=q.name:=(rc ai.name h.eq :)
def IF.to{p q:ai}(h:IF p q)(f:ai->ai)(hf:∀x,bare (f x)=f (bare x))(h1:(f p).l1=p.l1/\(f p).l2=p.l2/\(f p).l3=p.l3/\(f p).l4=p.l4/\(f p).l5=p.l5/\(f p).l6=p.l6)(h2:(f q).l1=q.l1/\(f q).l2=q.l2/\(f q).l3=q.l3/\(f q).l4=q.l4/\(f q).l5=q.l5/\(f q).l6=q.l6):IF (f p) (f q):=by
 obtain⟨a1,a2,a3,a4,a5,a6⟩:=h1;obtain⟨c1,c2,c3,c4,c5,c6⟩:=h2;exact⟨by rw[hf,hf,h.eq],by rw[c1,c2];exact h.b1,by rw[c3,c4];exact h.b2,by rw[c5,c6];exact h.b3,by rw[a1,a2,c1,c2];exact h.s1,by rw[a3,a4,c3,c4];exact h.s2,by rw[a5,a6,c5,c6];exact h.s3⟩
inductive mG:List ai->List ai->Prop
 | nil:mG [] []
 | cons {p q l m}:IF p q->mG l m->mG (p::l) (q::m)
def mG.bare{s t:List ai}(h:mG s t):s.map bare=t.map bare:=by
 induction h with
 | nil=>rfl
 | cons h _ ih=>rw[ac,ac,ih,h.eq]
def mG.len{s t:List ai}(h:mG s t):s.length=t.length:=by
 have:=rc ck h.bare
 rwa [aS,aS] at this
def mG.ins{s t:List ai}{x y:ai}(h:mG s t)(hx:IF x y):mG (qe x s) (qe y t):=by
 induction h with
 | nil=>exact .cons hx .nil
 | cons h ht ih=>
  rw[qe,qe,h.name,hx.name];split
  ·exact .cons h ih
  ·split
   ·exact .cons hx ht
   ·exact .cons hx (.cons h ht)
def mG.put{s t:List ai}{x y:ai}(h:mG s t)(hx:IF x y):mG (bJ s x) (bJ t y):=by
 rw[gj,gj];exact h.ins hx
def mG.find{s t:List ai}(h:mG s t)(n:List Nat):(bu s n=none/\bu t n=none)\/∃p q,bu s n=some p/\bu t n=some q/\IF p q:=by
 induction h with
 | nil=>exact .inl ⟨rfl,rfl⟩
 | @cons p q l m h _ ih=>
  unfold bu at ih ⊢;rw[ep,ep,h.name];split
  ·exact .inr ⟨p,q,rfl,rfl,h⟩
  ·exact ih
def mG.any{s t:List ai}(h:mG s t){g:ai->Bool}(hg:∀q,g (Proofs.bare q)=g q):s.any g=t.any g:=by
 have e:∀l:List ai,(l.map Proofs.bare).any g=l.any g:=λl=>by
  rw[List.any_map];exact rc (l.any ·) (funext hg)
 rw[<-e s,h.bare,e t]
def RQ:IF ai.zero ai.zero:=⟨rfl,xW,xW,xW,xX,xX,xX⟩
def mG.step{c:List aK}{s t:List ai}{e:aV}{p q h k:ai}(hs:mG s t)(hp:IF p q)(hh:IF h k):(eV c s e p h).2=(eV c t e q k).2/\mG (eV c s e p h).1 (eV c t e q k).1:=by
 have a1:=hs.any (g:=λx=>decide (x.aJ=e.aJ)&&decide (x.slot=e.slot)) λ_=>rfl;have a2:=hs.any (g:=λx=>decide (x.aJ=q.name)) λ_=>rfl;have e1:p.kind=q.kind:=(rc ai.kind hp.eq :);have e2:p.aJ=q.aJ:=(rc ai.aJ hp.eq :);have e3:p.props=q.props:=(rc ai.props hp.eq :);have e4:h.kind=k.kind:=(rc ai.kind hh.eq :);have n0:mG [] []:=.nil;have f1:=hs.put (hp.to (λx=>uj x e) (λ_=>rfl) ⟨rfl,rfl,rfl,rfl,rfl,rfl⟩ ⟨rfl,rfl,rfl,rfl,rfl,rfl⟩);have f2:=hs.put (hp.to wz (λ_=>rfl) ⟨rfl,rfl,rfl,rfl,rfl,rfl⟩ ⟨rfl,rfl,rfl,rfl,rfl,rfl⟩);have f3:=hs.put hp;have f4:mG (bJ s (gL p e)) (bJ t (gL q e)):=hs.put ⟨(rc (λx=>gL x e) hp.eq:gL (Proofs.bare p) e=gL (Proofs.bare q) e),xW,xW,xW,xX,xX,xX⟩;have f5:=hs.put (hp.to (λx=>nV x e) (λ_=>rfl) ⟨rfl,rfl,rfl,rfl,rfl,rfl⟩ ⟨rfl,rfl,rfl,rfl,rfl,rfl⟩);have f6:=hs.put (hp.to oT (λ_=>rfl) ⟨rfl,rfl,rfl,rfl,rfl,rfl⟩ ⟨rfl,rfl,rfl,rfl,rfl,rfl⟩);unfold eV;simp only;rw[e1,e2,e3,e4,hp.name,a1,a2];by_cases h2:e.op=2
 ·rw[un h2,un h2];split
  ·exact⟨rfl,n0⟩
  split
  ·exact⟨rfl,n0⟩
  split
  ·exact⟨rfl,n0⟩
  ·exact⟨rfl,f1⟩
 rw[ut h2,ut h2];by_cases h3:e.op=3
 ·rw[un h3,un h3];split
  ·exact⟨rfl,n0⟩
  ·exact⟨rfl,f2⟩
 rw[ut h3,ut h3];by_cases h4:e.op=4
 ·rw[un h4,un h4];split
  ·exact⟨rfl,f3⟩
  ·exact⟨rfl,n0⟩
 rw[ut h4,ut h4];by_cases h5:e.op=5
 ·rw[un h5,un h5];exact⟨rfl,f4⟩
 rw[ut h5,ut h5];by_cases h6:e.op=6
 ·rw[un h6,un h6];split
  ·exact⟨rfl,n0⟩
  ·exact⟨rfl,f5⟩
 rw[ut h6,ut h6];by_cases h7:e.op=7
 ·rw[un h7,un h7];split
  ·exact⟨rfl,n0⟩
  split
  ·exact⟨rfl,n0⟩
  ·exact⟨rfl,f6⟩
 rw[ut h7,ut h7];exact⟨rfl,f3⟩
def mG.UX{c:List aK}{s t:List ai}{e:aV}(hs:mG s t)(v1:cS c s=true)(v2:cS c t=true):(aI c s e).2=(aI c t e).2/\mG (aI c s e).1 (aI c t e).1:=by
 have n0:mG [] []:=.nil;unfold aI;rw[un v1,un v2];split;rotate_left
 ·exact⟨rfl,n0⟩
 split
 ·rw[en,en]
  have hi:(bu s e.part).isSome=(bu t e.part).isSome:=by
   rcases hs.find e.part with⟨h1,h2⟩ | ⟨p,q,h1,h2,_⟩<;>rw[h1,h2]<;>rfl
  unfold uy;rw[hi,hs.len];split
  ·exact⟨rfl,n0⟩
  split
  ·exact⟨rfl,n0⟩
  split
  ·exact⟨rfl,n0⟩
  ·exact⟨rfl,hs.put ⟨rfl,xW,xW,xW,xX,xX,xX⟩⟩
 ·simp only[en]
  rcases hs.find e.part with⟨h1,h2⟩ | ⟨p,q,h1,h2,hp⟩
  ·rw[h1,h2];exact⟨rfl,n0⟩
  ·rw[h1,h2]
   have hh:((if e.op=2 then bu s e.aJ else some p)=none/\(if e.op=2 then bu t e.aJ else some q)=none)\/∃h k,(if e.op=2 then bu s e.aJ else some p)=some h/\(if e.op=2 then bu t e.aJ else some q)=some k/\IF h k:=by
    by_cases h2:e.op=2
    ·rw[un h2,un h2];exact hs.find e.aJ
    ·rw[ut h2,ut h2];exact .inr ⟨p,q,rfl,rfl,hp⟩
   rcases hh with⟨g1,g2⟩ | ⟨h,k,g1,g2,hk⟩
   ·rw[g1,g2];exact⟨rfl,n0⟩
   ·rw[g1,g2];simp only;rw[show p.aY=q.aY from(rc ai.aY hp.eq :),show h.aY=k.aY from(rc ai.aY hk.eq :)];split
    ·exact⟨rfl,n0⟩
    ·exact hs.step hp hk
def w8{s:List ai}(ho:dX (s.map ai.name)=true)(part:List Nat):ec (s.map bare) part=ec s part:=by
 have ho2:dX ((s.map bare).map ai.name)=true:=by rw[rZ fk.n];exact ho
 have h1:∀t:List ai,dx part (mV 0 [] t)=(bu t part).isSome:=λt=>by
  rw[(Dx part t 0 []).1];rfl
 unfold ec;rw[h1,h1,ng fk.n,Option.isSome_map,CX ho,CX ho2,aS]
 have hk:CB (s.map bare) part=CB s part:=by
  unfold CB;rw[cv,List.map_map];rfl
 rw[hk]
def mG.inside{s t:List ai}(h:mG s t)(ho:dX (s.map ai.name)=true)(part:List Nat):ec s part=ec t part:=by
 have ho2:dX (t.map ai.name)=true:=by
  rw[<-rZ fk.n,<-h.bare,rZ fk.n];exact ho
 rw[<-w8 ho,<-w8 ho2,h.bare]
def mG.use{dmg:bo}{s t:List ai}{a b:aV}(h:mG s t)(ho:dX (s.map ai.name)=true)(he:UB a b)(hg:(ki b).tf=true):mG (qz dmg s a) (qz dmg t b):=by
 have hpart:a.part=b.part:=(rc aV.part he.eq :);have hi:=h.inside ho a.part;unfold qz;rw[hi,hpart];generalize ec t b.part++[b.part]=I;clear hi ho;obtain⟨⟨d1,_⟩,d3⟩:=MA (f:=dmg) hg;have d3:=d3 _ he.use;have g:mU ((ki b).u1,(ki b).u2)/\mU ((ki b).u3,(ki b).u4):=⟨(wi hg 2).1,(wi hg 3).1⟩;obtain⟨s1,s2,s3⟩:=he.use
 induction h with
 | nil=>exact .nil
 | @cons p q l m h _ ih=>
  rw[ac,ac];refine .cons ?_ ih;unfold rE;rw[h.name];split
  ·exact⟨(h.eq:Proofs.bare p=Proofs.bare q),lL.B h.b1 g.1,lL.B h.b2 g.2,lL.B h.b3 d1,lL.sub h.b1 g.1 h.s1 s1,lL.sub h.b2 g.2 h.s2 s2,lL.sub h.b3 d1 h.s3 d3⟩
  ·exact h
abbrev yM(z:List (aV×aV)):Prop:=∀q∈z,UB q.1 q.2
def mG.go{c:List aK}{dmg:bo}:∀(z:List (aV×aV)) {s t:List ai},yM z->mG s t->cS c s=true->cS c t=true->s.length+z.length<=20000->(su true c dmg (z.map (·.2)) t).2=0->(su true c dmg (z.map (·.1)) s).2=0/\mG (su true c dmg (z.map (·.1)) s).1 (su true c dmg (z.map (·.2)) t).1
 | [],_,_,_,h,_,_,_,_=>⟨rfl,h⟩
 | (a,b)::z,s,t,hz,h,v1,v2,hl,h0=>by
  have hab:=hz _ List.mem_cons_self;have hop:a.op=b.op:=(rc aV.op hab.eq :);rw[i7] at hl;have hlt:=h.len;rw[List.map_cons,su] at h0 ⊢;rw[List.map_cons,su];dsimp only at h0 ⊢;by_cases k0:(aI c t b).2=0
  ·rw[un k0] at h0;have vb:=(qT ii k0).2;have va:=Dh hab vb;have hf:=h.UX (e:=b) v1 v2;have e1:=zU (c:=c) (s:=s) hab.eq va vb
   have k1:(aI c s a).2=0:=by rw[e1,hf.1];exact k0
   obtain⟨n1,n2⟩:=yD (u:=true) (dmg:=dmg) ii k1;obtain⟨m1,m2⟩:=yD (u:=true) (dmg:=dmg) ii k0
   have hn:mG (if true=true/\a.op=4 then qz dmg (aI c s a).1 a else (aI c s a).1) (if true=true/\b.op=4 then qz dmg (aI c t b).1 b else (aI c t b).1):=by
    rw[hop,e1];split
    ·rename_i k;have vs:=(qT (c:=c) (ps:=s) (e:=b) ii (by rw[<-e1];exact k1)).1.1;exact hf.2.use (oq vs).2.1 hab (Bo vb k.2)
    ·exact hf.2
   rw[un k1,un k0];exact mG.go z (λq hq=>hz q (List.mem_cons_of_mem _ hq)) hn n1 m1 ii h0
  ·rw[ut k0] at h0;exact ul h0 k0
def Ld{c:List aK}{dmg:bo}:∀(z:List (aV×aV)) {s:List ai},yM z->(su false c dmg (z.map (·.2)) s).2=0->su false c dmg (z.map (·.1)) s=su false c dmg (z.map (·.2)) s
 | [],_,_,_=>rfl
 | (a,b)::z,s,hz,h0=>by
  have hab:=hz _ ad;rw[ac,su] at h0 ⊢;rw[ac,su];simp only at h0 ⊢;by_cases k0:(aI c s b).2=0
  ·have vb:=Gm k0;rw[zU hab.eq (Dh hab vb) vb];rw[un k0,ut λk:false=true/\_=>bt k.1] at h0;rw[un k0,un k0,ut λk:false=true/\_=>bt k.1,ut λk:false=true/\_=>bt k.1];exact Ld z (λq hq=>hz q (al _ hq)) h0
  ·rw[ut k0] at h0;exact ul h0 k0
def Lc{c:List aK}{d1 d2:bo}:∀(l:List aV) (s:List ai),su false c d1 l s=su false c d2 l s
 | [],_=>rfl
 | e::l,s=>by
  rw[su,su,Lc l];split
  ·rw[ut λk:false=true/\_=>bt k.1,ut λk:false=true/\_=>bt k.1]
  ·rfl
def JB{z:List (aV×aV)}(hz:yM z)(day:Int):∃y,yM y/\y.length<=z.length/\y.map (·.1)=dY (db (dK day) (z.map (·.1)))/\y.map (·.2)=dY (db (dK day) (z.map (·.2))):=by
 have hd:∀q∈z,q.1.day=q.2.day:=λq hq=>(rc aV.day (hz q hq).eq :);obtain⟨x,hx⟩:∃x,x=z.filter λq=>!dK day q.2:=⟨_,rfl⟩
 have hxz:∀q∈x,q∈z:=λq hq=>by rw[hx] at hq;exact(mem_filter.1 hq).1
 have k1:db (dK day) (z.map (·.1))=x.map (·.1):=by
  unfold db;rw[cv,hx]
  congr 1
  refine dd λq hq=>?_;show(!dK day q.1)=_;unfold dK;rw[hd q hq]
 have k2:db (dK day) (z.map (·.2))=x.map (·.2):=by
  unfold db;rw[cv,hx];rfl
 have m1:=A0 (lt:=λx y:aV×aV=>decide (x.2.day<y.2.day)) (lt2:=λx y:aV=>decide (x.day<y.day)) (f:=λq:aV×aV=>q.1) (P:=λq=>q∈z) (λa b ha hb=>by rw[hd a ha,hd b hb]) x [] hxz (λq h=>ul h bk);have m2:=A0 (lt:=λx y:aV×aV=>decide (x.2.day<y.2.day)) (lt2:=λx y:aV=>decide (x.day<y.day)) (f:=λq:aV×aV=>q.2) (P:=λq=>q∈z) (λa b _ _=>rfl) x [] hxz (λq h=>ul h bk)
 have mm:∀(l R:List (aV×aV)),∀q∈l.foldl (λR x=>oW (λx y:aV×aV=>decide (x.2.day<y.2.day)) x R) R,q∈R\/q∈l:=by
  intro l
  induction l with
  | nil=>exact λR q h=>.inl h
  | cons a l ih=>
   intro R q h
   rcases ih _ q h with h | h
   ·rcases Ah h with rfl | h
    ·exact .inr ad
    ·exact .inl h
   ·exact .inr (al _ h)
 have ml:∀(l R:List (aV×aV)),(l.foldl (λR x=>oW (λx y:aV×aV=>decide (x.2.day<y.2.day)) x R) R).length=R.length+l.length:=by
  have il:∀(x:aV×aV) (R:List (aV×aV)),(oW (λx y:aV×aV=>decide (x.2.day<y.2.day)) x R).length=R.length+1:=by
   intro x R
   induction R with
   | nil=>rfl
   | cons y R ih=>
    rw[oW];split
    ·rw[i7,ih,i7]
    ·rfl
  intro l
  induction l with
  | nil=>exact λR=>rfl
  | cons a l ih=>
   intro R;rw[be,ih,il,i7];omega
 refine⟨(x.foldl (λR x=>oW (λx y:aV×aV=>decide (x.2.day<y.2.day)) x R) []).reverse,λq hq=>?_,?_,?_,?_⟩
 ·rcases mm x [] q (List.mem_reverse.1 hq) with h | h
  ·exact ul h bk
  ·exact hz q (hxz q h)
 ·rw[c0,ml,hx];have:=cp (λq:aV×aV=>!dK day q.2) z;simpa using this
 ·unfold dY;rw[el,m1,k1,Li,Lr];rfl
 ·unfold dY;rw[el,m2,k2,Li,Lr];rfl
def yF{c:List aK}{dmg:bo}:∀(l:List aV) (i:Nat) (s:List ai),(lN c dmg i l s).2.2=(su true c dmg l s).2
 | [],_,_=>rfl
 | e::r,i,s=>by
  rw[lN,su];split
  ·split
   ·rename_i h;rw[un ⟨rfl,h⟩];exact yF r _ _
   ·rename_i h;rw[ut λk=>h k.2];exact yF r _ _
  ·rfl
def qA{c:List aK}(hc:ox c=true):cS c []=true:=by unfold cS;rw[hc];rfl
def MS{c:List aK}{dmg:bo}{z:List (aV×aV)}(hz:yM z)(hl:z.length<=20000){day:Int}(h0:(runN c dmg (z.map (·.2)) day).2.2=0):
 (runN c dmg (z.map (·.1)) day).2.2=0/\mG (runN c dmg (z.map (·.1)) day).1 (runN c dmg (z.map (·.2)) day).1/\cS c (runN c dmg (z.map (·.1)) day).1=true/\FT c (z.map (·.1)) day=FT c (z.map (·.2)) day:=by
 obtain⟨y,hy,hyl,y1,y2⟩:=JB hz day;unfold runN at h0 ⊢;split at h0;rotate_left
 ·exact ul h0 gt
 rename_i hv;rw[un hv,un hv];rw[yF,<-y2] at h0;rw[yF,EB,EB,<-y1,<-y2]
 have hc:ox c=true:=by rw[aa] at hv;exact hv.1
 obtain⟨g1,g2⟩:=mG.go y hy .nil (qA hc) (qA hc) (by simp only[i5];omega) h0;refine⟨g1,g2,?_,?_⟩
 ·have key:∀(l:List aV) (s:List ai),cS c s=true->s.length+l.length<=20000->(su true c dmg l s).2=0->cS c (su true c dmg l s).1=true:=by
   intro l
   induction l with
   | nil=>exact λs h _ _=>h
   | cons e l ih=>
    intro s hs hl h;rw[i7] at hl;rw[su] at h ⊢;split at h
    ·rename_i k;obtain⟨n1,n2⟩:=yD (u:=true) (dmg:=dmg) ii k;rw[un k];exact ih _ n1 ii h
    ·rename_i k;exact ul h k
  exact key _ _ (qA hc) (by rw[aS,i5];omega) g1
 ·unfold FT;rw[un hc,un hc,<-y1,<-y2];refine Ld y hy ?_;rw[Lc (d2:=dmg),<-h0];exact Lb (y.map (·.2)) [] (qA hc) (by rw[aS,i5];omega)
abbrev qK(a b:Int):Prop:=b=1\/a=b
def qK.not{a b:Int}(h:qK a b):qK (G7 a) (G7 b):=by
 rcases h with rfl | rfl
 ·exact .inl rfl
 ·exact .inr rfl
def Tx(a:Int):fY a=0\/fY a=1\/fY a=2:=by
 unfold fY;split
 ·rename_i h
  rcases h with rfl | rfl
  ·exact .inl rfl
  ·exact .inr (.inr rfl)
 ·exact .inr (.inl rfl)
def qK.tr{a b:Int}(h:qK a b):qK (fY a) (fY b):=by
 rcases h with rfl | rfl
 ·exact .inl rfl
 ·exact .inr rfl
def qK.and{a b x y:Int}(h:qK a b)(k:qK x y):qK (xS a x) (xS b y):=by
 have h:=h.tr;have k:=k.tr;have h1:=Tx a;have h2:=Tx b;have h3:=Tx x;have h4:=Tx y;unfold xS cC;split<;>split<;>omega
def qK.or{a b x y:Int}(h:qK a b)(k:qK x y):qK (NT a x) (NT b y):=by
 have h:=h.tr;have k:=k.tr;have h1:=Tx a;have h2:=Tx b;have h3:=Tx x;have h4:=Tx y;unfold NT bT;split<;>split<;>omega
def qK.fold{f:Int->Int->Int}(hf:∀{a b x y},qK a b->qK x y->qK (f a x) (f b y)){α:Type}{g k:α->Int}:∀(l:List α) {a b:Int},(∀x∈l,qK (g x) (k x))->qK a b->qK ((l.map g).foldl f a) ((l.map k).foldl f b)
 | [],_,_,_,h=>h
 | x::l,a,b,hl,h=>by
  rw[ac,ac,be,be];exact qK.fold hf l (λy hy=>hl y (al _ hy)) (hf h (hl x ad))
def Ep{p q:Int×Int}(hq:mU q)(h:pF p q)(n:Int):qK (gS p.1 p.2 n) (gS q.1 q.2 n):=by
 obtain⟨a1,a2⟩:=uG hq n;obtain⟨b1,b2⟩:=uG (hq.sub h) n
 have h3:gS q.1 q.2 n=0\/gS q.1 q.2 n=1\/gS q.1 q.2 n=2:=by
  unfold gS;split
  ·exact .inl rfl
  split
  ·exact .inr (.inr rfl)
  ·exact .inr (.inl rfl)
 rcases h3 with h3 | h3 | h3
 ·exact .inr ((b1.2 (by have:=a1.1 h3;omega)).trans h3.symm)
 ·exact .inl h3
 ·exact .inr ((b2.2 (by have:=a2.1 h3;omega)).trans h3.symm)
def mG.cP{s t:List ai}(h:mG s t)(n:List Nat):IF (cP s n) (cP t n):=by
 unfold Proofs.cP
 rcases h.find n with⟨h1,h2⟩ | ⟨p,q,h1,h2,h3⟩
 ·rw[h1,h2];exact RQ
 ·rw[h1,h2];exact h3
def Iz{p q:ai}(h:IF p q)(cur:List Nat)(day n:Int):(cK p cur day).2=(cK q cur day).2/\qK (gS (cK p cur day).1.1 (cK p cur day).1.2 n) (gS (cK q cur day).1.1 (cK q cur day).1.2 n):=by
 have e1:p.since=q.since:=(rc ai.since h.eq :);have e2:p.made=q.made:=(rc ai.made h.eq :);unfold cK;simp only;rw[e1,e2];by_cases hd:day<0\/40000<day
 ·simp only[un hd];split
  ·exact⟨trivial,.inr rfl⟩
  split
  ·exact⟨trivial,.inr rfl⟩
  split
  ·exact⟨trivial,.inr rfl⟩
  split
  ·exact⟨trivial,.inr rfl⟩
  split
  ·exact⟨trivial,.inr rfl⟩
  ·exact⟨trivial,.inr rfl⟩
 ·simp only[ut hd];split
  ·exact⟨rfl,Ep h.b1 h.s1 n⟩
  split
  ·exact⟨rfl,Ep h.b2 h.s2 n⟩
  split
  ·exact⟨rfl,Ep h.b3 h.s3 n⟩
  split
  ·exact⟨rfl,.inr rfl⟩
  split
  ·exact⟨rfl,.inr rfl⟩
  ·exact⟨rfl,.inr rfl⟩
def mG.eb{s t:List ai}(h:mG s t)(ho:dX (s.map ai.name)=true)(part kind:List Nat):eb s part kind=eb t part kind:=by
 unfold Proofs.eb;rw[h.inside ho];refine dd λn _=>?_;rw[show(Proofs.cP s n).kind=(Proofs.cP t n).kind from(rc ai.kind (h.cP n).eq :)]
def RN{s t:List ai}(h:mG s t)(ho:dX (s.map ai.name)=true)(day op:Int)(name value:List Nat)(n extra:Int)(part:List Nat):qK (GM s day op name value n extra part) (GM t day op name value n extra part):=by
 have hp:=h.cP part;have e1:(cP s part).props=(cP t part).props:=(rc ai.props hp.eq :);have a1:=h.any (g:=λq=>decide (q.aJ=part)&&(decide (q.slot=name)&&decide (q.kind=value))) λ_=>rfl;unfold GM;simp only;rw[e1,a1,h.eb ho];split
 ·exact .inr rfl
 split
 ·obtain⟨v1,v2⟩:=Iz hp name day (n+extra);rw[v1];split
  ·exact v2.not
  ·exact .inr rfl
 split
 ·obtain⟨v1,v2⟩:=Iz hp name day n;rw[v1];split
  ·exact v2
  ·exact .inr rfl
 split
 ·exact .inr rfl
 split
 ·exact .inr rfl
 split
 ·exact .inr rfl
 ·exact .inr rfl
def Ol{s t:List ai}(h:mG s t)(ho:dX (s.map ai.name)=true)(day:Int):∀(d:Nat) (e:aT) (part:List Nat),SizeOf.sizeOf e<d->qK (gW s day e part) (gW t day e part)
 | 0,_,_,hd=>ul hd (Nat.not_lt_zero _)
 | d+1,.mk op name value n extra kids,part,hd=>by
  have hkd:∀k∈kids,SizeOf.sizeOf k<d:=λk hk=>by
   have h1:=List.sizeOf_lt_of_mem hk
   have h2:SizeOf.sizeOf (aT.mk op name value n extra kids)=1+SizeOf.sizeOf op+SizeOf.sizeOf name+SizeOf.sizeOf value+SizeOf.sizeOf n+SizeOf.sizeOf extra+SizeOf.sizeOf kids:=by simp
   omega
  have ih:=λk hk part=>Ol h ho day d k part (hkd k hk)
  have hH:∀(f:Int->Int->Int) (b:Int),(∀{a b x y},qK a b->qK x y->qK (f a x) (f b y))->qK ((Bu s day kids (eb s part name)).foldl f b) ((Bu t day kids (eb t part name)).foldl f b):=by
   intro f b hf;rw[h.eb ho]
   cases kids with
   | nil=>rw[Bu,Bu];exact .inr rfl
   | cons k ks=>
    rw[Bu,Bu];exact qK.fold hf _ (λx _=>ih k List.mem_cons_self x) (.inr rfl)
  rw[gW,gW,rL,rL];split
  ·refine qK.not ?_
   cases kids with
   | nil=>exact .inr rfl
   | cons k ks=>exact ih k List.mem_cons_self part
  split
  ·exact qK.fold (λh k=>h.and k) kids (λk hk=>ih k hk part) (.inr rfl)
  split
  ·exact qK.fold (λh k=>h.or k) kids (λk hk=>ih k hk part) (.inr rfl)
  split
  ·exact hH _ _ λh k=>h.and k
  split
  ·exact hH _ _ λh k=>h.or k
  ·exact RN h ho day op name value n extra part
def Sx{s t:List ai}(h:mG s t)(part:List Nat):AP s part=AP t part:=by
 have key:∀(f:Nat) (part:List Nat),l7 s f part=l7 t f part:=by
  intro f
  induction f with
  | zero=>exact λ_=>rfl
  | succ f ih=>
   intro part;rw[l7,l7]
   rcases h.find part with⟨h1,h2⟩ | ⟨p,q,h1,h2,h3⟩
   ·rw[h1,h2]
   ·rw[h1,h2];simp only;rw[show p.aJ=q.aJ from(rc ai.aJ h3.eq :),ih]
 unfold AP;rw[h.len,key]
def Gy{s t:List ai}(h:mG s t)(ho:dX (s.map ai.name)=true)(e:aT)(part:List Nat)(day:Int):qK (kO s e part day) (kO t e part day):=by
 unfold kO;rw[Sx h];split
 ·exact Ol h ho day _ e part (bv _)
 ·exact .inr rfl
def Et{c:List aK}{fw:List vG}{s t:List ai}(h:mG s t)(part:List Nat)(day:Int):gA c fw s part day=gA c fw t part day:=by
 unfold gA
 rcases h.find part with⟨h1,h2⟩ | ⟨p,q,h1,h2,h3⟩
 ·rw[h1,h2]
 ·rw[h1,h2];simp only;have e1:p.aJ=q.aJ:=(rc ai.aJ h3.eq :);have e2:p.slot=q.slot:=(rc ai.slot h3.eq :);have e3:p.kind=q.kind:=(rc ai.kind h3.eq :);rw[e1]
  rcases h.find q.aJ with⟨g1,g2⟩ | ⟨x,y,g1,g2,g3⟩
  ·rw[g1,g2]
  ·rw[g1,g2];simp only
   have hb:∀tw,pN s p tw=pN t q tw:=λtw=>by
    unfold pN;rw[e1,e3];exact h.any λ_=>rfl
   simp only[e2,e3,hb,show x.kind=y.kind from(rc ai.kind g3.eq :)]
def K1{z:List (aV×aV)}(hz:yM z){P:aV->Bool}(hP:∀a b,UB a b->P a=P b):((z.map (·.1)).filter P).map aV.day=((z.map (·.2)).filter P).map aV.day:=by
 induction z with
 | nil=>rfl
 | cons q z ih=>
  have h:=hz q ad;have i:=ih λx hx=>hz x (al _ hx);rw[ac,ac,d9,d9,hP _ _ h];split
  ·rw[ac,ac,i,show q.1.day=q.2.day from(rc aV.day h.eq :)]
  ·exact i
def RM{z:List (aV×aV)}(hz:yM z)(d:ea)(part:List Nat)(day:Int):j7 d (z.map (·.1)) part day=j7 d (z.map (·.2)) part day:=by
 have o:∀a b,UB a b->Es part day a=Es part day b:=λa b h=>by
  unfold Es;rw[show a.part=b.part from(rc aV.part h.eq :),show a.day=b.day from(rc aV.day h.eq :)]
 have h1:nN d (z.map (·.1)) part day=nN d (z.map (·.2)) part day:=K1 hz λa b h=>by
  rw[o a b h,show a.op=b.op from(rc aV.op h.eq :)]
 have h2:wx d (z.map (·.1)) part day=wx d (z.map (·.2)) part day:=K1 hz λa b h=>by
  rw[o a b h,show a.op=b.op from(rc aV.op h.eq :),show a.key=b.key from(rc aV.key h.eq :)]
 unfold j7;rw[h1,h2]
def Nd{c:List aK}{z:List (aV×aV)}(hz:yM z)(ds:List ea)(part:List Nat)(day:Int)(h:FT c (z.map (·.1)) day=FT c (z.map (·.2)) day):iE ds c (z.map (·.1)) part day=iE ds c (z.map (·.2)) part day:=by
 have hl:=λd=>RM hz d part day;unfold iE rh;rw[h];simp only[hl]
def KM{c:List aK}{b:eg}{z:List (aV×aV)}(hz:yM z){s t:List ai}(h:mG s t)(ho:dX (s.map ai.name)=true){day:Int}(ha:FT c (z.map (·.1)) day=FT c (z.map (·.2)) day){p q:ai}(hp:IF p q){f:aB}(hf:f∈ou c b (z.map (·.1)) s day p):f∈ou c b (z.map (·.2)) t day q:=by
 have e1:p.kind=q.kind:=(rc ai.kind hp.eq :);have e2:p.slot=q.slot:=(rc ai.slot hp.eq :);unfold ou at hf ⊢;rw[Nd hz _ _ _ ha,Et h,e1,e2,hp.name] at hf;simp only[mem_append] at hf ⊢
 rcases hf with hf | hf | hf | hf
 ·refine .inl ?_;obtain⟨r,hr,rfl⟩:=mem_map.1 hf;refine mem_map.2 ⟨r,?_,rfl⟩;rw[mem_filter] at hr ⊢;refine⟨hr.1,?_⟩;have h2:=hr.2;simp only[aa,ax,wn] at h2 ⊢;refine⟨h2.1,h2.2.1,λk=>h2.2.2 ?_⟩
  rcases Gy h ho r.cond q.name day with g | g
  ·rw[g] at k;exact ul k gt
  ·rw[g];exact k
 ·refine .inr (.inl ?_);obtain⟨r,hr,rfl⟩:=mem_map.1 hf;refine mem_map.2 ⟨r,?_,rfl⟩;rw[mem_filter] at hr ⊢;refine⟨hr.1,?_⟩;have h2:=hr.2;simp only[aa,ax,wn] at h2 ⊢;refine⟨h2.1,λk=>h2.2 ?_⟩
  rcases Gy h ho r.cond q.name day with g | g
  ·rw[g] at k;exact ul k gt
  ·rw[g];exact k
 ·exact .inr (.inr (.inl hf))
 ·exact .inr (.inr (.inr hf))
def MR{c:List aK}{dmg:bo}{b:eg}{z:List (aV×aV)}(hz:yM z)(hl:z.length<=20000){vehicle:List Nat}{day:Int}(h:(⟨4,vehicle,[]⟩:aB)∉fE c dmg b (z.map (·.2)) vehicle day):∀f∈fE c dmg b (z.map (·.1)) vehicle day,f∈fE c dmg b (z.map (·.2)) vehicle day:=by
 intro f hf;unfold fE at h hf ⊢
 cases hv:bu (runN c dmg (z.map (·.2)) day).1 vehicle with
 | none=>
  rw[hv] at h;exact ul (rt rfl) h
 | some v=>
  rw[hv] at h;simp only at h ⊢;split at h
  ·exact ul (rt rfl) h
  ·rename_i k;rw[ut k];have h0:(runN c dmg (z.map (·.2)) day).2.2=0:=Decidable.not_not.1 λe=>k (.inl e);obtain⟨g1,g2,g3,g4⟩:=MS hz hl h0;have ho:=(oq g3).2.1
   rcases g2.find vehicle with⟨_,k2⟩ | ⟨v',v2,k1,k2,hvv⟩
   ·rw[k2] at hv;cases hv
   ·rw[k2] at hv;cases hv;rw[k1] at hf;simp only at hf;rw[g1,show v'.aY=v.aY from(rc ai.aY hvv.eq :),show v'.kind=v.kind from(rc ai.kind hvv.eq :),ut (by rw[h0] at k;exact k)] at hf;rw[(JO _).2] at hf ⊢;unfold z6 at hf ⊢;simp only[mem_append,List.mem_flatMap] at hf ⊢
    rcases hf with hf | ⟨n,hn,hf⟩ | hf
    ·exact .inl (KM hz g2 ho g4 hvv hf)
    ·exact .inr (.inl ⟨n,by rw[<-g2.inside ho];exact hn,KM hz g2 ho g4 (g2.cP n) hf⟩)
    ·exact .inr (.inr hf)
def PG(L:List aB):(uF L).length<=L.length:=by
 unfold uF;rw[aS];have:=Af L [];simpa using this
def zn{c:List aK}{dmg:bo}{b:eg}{l:List aV}{vehicle:List Nat}{day:Int}(hb:sQ b)(hl:l.length<20)(hle:∀e∈l,lP e):(fE c dmg b l vehicle day).length<=10000:=by
 have hpl:(runN c dmg l day).1.length<=20:=dt (C0 hle) ii;unfold fE;split
 ·exact md rfl
 ·rename_i v _;split
  ·exact md rfl
  ·rw[(gk _).length_eq];refine dt (PG _) ?_;unfold z6;have hil:=nk (runN c dmg l day).1 vehicle;generalize ec (runN c dmg l day).1 vehicle=I at hil;rw[li,li,aS,List.length_flatMap];have q1:=yl c b l (runN c dmg l day).1 day v;have q2:=cp (λh:mT=>decide (h.vehicle=vehicle)&&BL h) b.holds;have h1:=hb.lr;have h2:=hb.lc;have h3:=hb.ld;have h4:=hb.lh
   have q3:∀J:List (List Nat),(J.map λn=>(ou c b l (runN c dmg l day).1 day (cP (runN c dmg l day).1 n)).length).sum<=J.length*301:=by
    intro J
    induction J with
    | nil=>exact aU _
    | cons n J ih=>
     have q:=yl c b l (runN c dmg l day).1 day (cP (runN c dmg l day).1 n);rw[ac,List.sum_cons,i7];omega
   have:=q3 I;omega
def Bp(b:Bool):IB b (.a mg)=some false:=rfl
def AI(a1 a2 b1 b2:Int):Bool:=decide (b1<=a1)&&(decide (a1<=a2)&&decide (a2<=b2))
def tC(a1 a2 b1 b2:Int):PC prog 26 [.ag [ab a1,ab a2],.ag [ab b1,ab b2]] (·=ak (AI a1 a2 b1 b2)):=by
 unfold AI;refine pB 24 Tryz.func26 ?_;refine(zV) ?_;cases g1:decide (b1<=a1)
 ·exact(az g1)<|zo [.tmp 4]
 cases g2:decide (a1<=a2)
 ·exact(az (bz g1 g2))<|zo [.tmp 4]
 exact(az (bz g1 g2))<|zo [.tmp 4]
def AJ{a1 a2 b1 b2:Int}(h:AI a1 a2 b1 b2=true):pF (a1,a2) (b1,b2):=by
 unfold AI at h;simp only[aa,wp] at h;exact h
abbrev uz:List SV:=[ab 0,ab 0,ab 0,ab 0,ab 0,ab 0]
abbrev uE(e:aV):List SV:=[ab e.u1,ab e.u2,ab e.u3,ab e.u4,ab e.u5,ab e.u6]
abbrev kI(c:List aK)(dmg:bo)(b:eg)(l sh:List aV)(vehicle:List Nat)(day:Int):Fm:=[(2,an 14 l ao),(3,an 14 sh ao),(4,ah vehicle),(5,ab day),(6,.ip (an 3 c aq::aC dmg)),(7,.ip (aN b))]
noncomputable abbrev kF(c:List aK)(dmg:bo)(b:eg)(l sh:List aV)(vehicle:List Nat)(day:Int)(x y:aV)(k:Nat)(L:Nat->Prop):Fm:=(42,vo L 0 (an 14 sh ao))::(43,vo L 1 (ab k))::(44,vo L 2 (.ip (ao x)))::(45,vo L 3 (.ip (uE x)))::(46,vo L 4 (.ag (uE x)))::(47,vo L 5 (an 14 l ao))::(48,vo L 6 (ab k))::(49,vo L 7 (.ip (ao y)))::(50,vo L 8 (.ip (uE y)))::(51,vo L 9 (.ag (uE y)))::(13,ak true)::(14,ab k)::kI c dmg b l sh vehicle day
def H2(c:List aK)(dmg:bo)(b:eg)(l sh:List aV)(vehicle:List Nat)(day:Int)(ha:NX c dmg l)(hb:rH b)(hsl:sh.length<=sy)(hse:∀e∈sh,UI e):
 PC prog 8 [.ag (an 3 c aq::aC dmg),.ag (aN b),an 14 l ao,an 14 sh ao,ah vehicle,ab day] (·=ak true):=by
 have hfl:(aC dmg).length=3:=fa dmg;have hft:(aC dmg).take 3=aC dmg:=bQ (by rw[hfl];exact aU _);have hfk:=λo:Nat=>bV (o:=o) (aW dmg);have hfn:=λo:Nat=>bX (o:=o) (aW dmg);have hfew:=J3 c dmg b l vehicle ha hb;have hok:=RA (c:=c) (dmg:=dmg) (b:=b) (l:=l) (v:=vehicle);generalize O2 c dmg b l vehicle=g at hfew hok
 refine pB 120 func8 ?_;refine(az (cL hfk hfn @aN.eq_1)) ?_;refine zZ [(2,an 14 l ao),(3,an 14 sh ao),(4,ah vehicle),(5,ab day),(6,.ip (an 3 c aq::aC dmg)),(7,.ptr 1 0)] 0 rfl ⟨.inl rfl,.inl rfl,.inl rfl,.inl rfl,.inr (.ptr rfl (bm.refl (aW dmg)) (bd _)),.inl rfl,trivial⟩<|zZ (kI c dmg b l sh vehicle day) 1 rfl (gV (bz @an.eq_1 @aN.eq_1))<|zA (kI c dmg b l sh vehicle day) [] zH<|(zC)<|(zK HT)<|(zR)<|(fC (cL hfl hft @aN.eq_1))<|(zK hfew (hwk:=.cons (.ag (bm.refl (aW dmg))) (bm.refl rfl))) ?_
 cases g
 ·exact(zR)<|(cB)<|zo [.tmp 12]
 cases hlen:decide ((l.length:Int)=sh.length)
 ·exact(cH hlen)<|(cB)<|zo [.tmp 12]
 refine(cH hlen) ?_;have hlen:l.length=sh.length:=Int.ofNat.inj (ww hlen);obtain⟨hc,hf,hbo,hl,hle,-⟩:=hok rfl ha hb;refine(ly) ?_
 have hl6:l.length<=1000000:=by omega
 refine zA ((13,ak true)::(14,ab 0)::kI c dmg b l sh vehicle day) [] zH<|(zs) ?_;refine zL l (λk=>∀(i:Nat) a e,i<k->sh[i]?=some a->l[i]?=some e->UB a e) (λk=>(13,ak true)::(14,ab k)::kI c dmg b l sh vehicle day) (λk=>[]) zH (by exact λi a e h=>ul h (bs _)) ?_;intro k hk hall
 by_cases hlt:k<l.length
 ·obtain⟨y,hy⟩:∃y,l[k]?=some y:=⟨l[k],jp hlt⟩
  have hlt2:k<sh.length:=by omega
  obtain⟨x,hx⟩:∃x,sh[k]?=some x:=⟨sh[k],jp hlt2⟩
  refine(az (show decide ((k:Int)<(l.length:Int))=true by simp only[wp];omega))<|(gO) ?_
  (repeat refine aE.seq ?_)
  refine zA ((13,ak true)::(14,ab k)::kI c dmg b l sh vehicle day) [] zH ?_;have hxe:=aQ (e:=14) (enc:=ao) (λ_=>rfl) hx;have hye:=aQ (e:=14) (enc:=ao) (λ_=>rfl) hy;refine aE.xm 13 16 (λL=>⟨(15,vo L 10 (.ptr 0 0))::(16,vo L 11 (.ptr 1 0))::kF c dmg b l sh vehicle day x y k L,120,[wo L 10 (io L 12 (.cells (uE x)) (.cells uz)),wo L 11 (.cells uz)],[]⟩) rfl zW g9 gt zW (bN (bz @vA @yK)) (λL=>rfl) ?_ ?_
  ·rintro L i o him hC hr
   rcases i with _ | _ | _ | _ | _ | _ | _ | _ | _ | _ | _ | _ | _ | i
   rotate_right
   ·exact ul him ii
   ·cases hr.gX;refine(zR) ?_;exact(bN (gh @aZ @cN @dJ @ao.eq_1))
   ·cases hr.gX;refine(zR) ?_;exact(bN (gh @aZ @cN @dJ @ao.eq_1))
   ·cases hr.gX;have d0:L 0:=hr.dep ⟨0,.data⟩ gc rfl;have d1:L 1:=hr.dep ⟨1,.data⟩ gc rfl;refine(cH (lB (fH d0) (fH d1) hlt2 hxe @ao.eq_1)) ?_;exact(bN (wS @aZ @cN @dJ @ao.eq_1 (fH d0) (fH d1)))
   ·cases hr.gX;have d2:L 2:=hr.dep ⟨2,.data⟩ gc rfl;refine(cH (bz (fH d2) @ao.eq_1)) ?_;exact(bN (lB @aZ @cN @dJ @ao.eq_1 (fH d2)))
   ·cases hr.gX;have d3:L 3:=hr.dep ⟨3,.data⟩ gc rfl;refine(cH (fH d3)) ?_;exact(bN (lB @aZ @cN @dJ @ao.eq_1 (fH d3)))
   ·cases hr.gX;refine(zR) ?_;exact(bN (gh @aZ @cN @dJ @ao.eq_1))
   ·cases hr.gX;refine(zR) ?_;exact(bN (gh @aZ @cN @dJ @ao.eq_1))
   ·cases hr.gX;have d5:L 5:=hr.dep ⟨5,.data⟩ gc rfl;have d6:L 6:=hr.dep ⟨6,.data⟩ gc rfl;refine(cH (lB (fH d5) (fH d6) hlt hye @ao.eq_1)) ?_;exact(bN (wS @aZ @cN @dJ @ao.eq_1 (fH d5) (fH d6)))
   ·cases hr.gX;have d7:L 7:=hr.dep ⟨7,.data⟩ gc rfl;refine(cH (bz (fH d7) @ao.eq_1)) ?_;exact(bN (lB @aZ @cN @dJ @ao.eq_1 (fH d7)))
   ·cases hr.gX;have d8:L 8:=hr.dep ⟨8,.data⟩ gc rfl;refine(cH (fH d8)) ?_;exact(bN (lB @aZ @cN @dJ @ao.eq_1 (fH d8)))
   ·cases hr.gX;have hn:¬L 10:=hr.new;have hn2:¬L 12:=λh=>hn (hC 12 _ rfl h ⟨10,.data⟩ gc rfl);refine aR.r0 g9 (by simp only[dD,bY,an,aH,m7,m6,↓reduceIte,ap,bb,cb,bw,ce,ar,aw,bP,↓j6,D2,fz hn,cr];first | done | rfl) ?_;exact((Fg.rn (f':=(15,.ptr 0 0)::(16,vo L 11 (.ptr 1 0))::kF c dmg b l sh vehicle day x y k L) (n:=120) (S':=[.cells uz,wo L 11 (.cells uz)]) [2,1] gt rfl (by (simp only[qX,gJ,bY,an,rl,sE,CY,cr,↓reduceIte,ap])<;>(repeat' apply b9)<;>first | trivial | exact .inl rfl | exact .inr rfl | exact .inr trivial | exact .inl trivial) (by (simp only[dD,gJ,bY,an,rl,sE,CY,cr,↓reduceIte,ap])<;>(repeat' apply b9)<;>first | rfl | trivial))).trans (Fg.less (by (simp only[dD,bY,fQ,↓reduceIte,ap,an,aZ,cN,dJ,ao,qY hn2])<;>(repeat' apply b9)<;>first | rfl | trivial) (by (simp only[dD,bY,or_true,true_or,an,aZ,cN,dJ,ao,qY hn2])<;>(repeat' apply b9)<;>first | exact .inr rfl | exact .inl rfl | trivial))
   ·cases hr.gX;have hn:¬L 11:=hr.new;refine aR.r0 g9 (by simp only[dD,bY,an,aH,m7,m6,↓reduceIte,ap,bb,cb,bw,ce,ar,aw,bP,↓j6,D2,fz hn,cr];first | done | rfl) ?_;exact((Fg.rn (f':=(15,vo L 10 (.ptr 0 0))::(16,.ptr 1 0)::kF c dmg b l sh vehicle day x y k L) (n:=120) (S':=[wo L 10 (io L 12 (.cells (uE x)) (.cells uz)),.cells uz]) [0,2] gt rfl (by (simp only[qX,gJ,bY,an,rl,sE,CY,cr,↓reduceIte,ap])<;>(repeat' apply b9)<;>first | trivial | exact .inl rfl | exact .inr rfl | exact .inr trivial | exact .inl trivial) (by (simp only[dD,gJ,bY,an,rl,sE,CY,cr,↓reduceIte,ap])<;>(repeat' apply b9)<;>first | rfl | trivial))).trans (bN (gh @aZ @cN @dJ @ao.eq_1))
   ·cases hr.gX;have d4:L 4:=hr.dep ⟨4,.data⟩ gc rfl;have d10:L 10:=hr.dep ⟨10,.data⟩ gc rfl;have hn:¬L 12:=hr.new;refine aR.r0 g9 (by simp only[dD,bY,an,aH,m7,m6,↓reduceIte,ap,bb,cb,bw,ce,ar,aw,bP,cg d4,cg d10,ma d10,qY hn];first | done | rfl) ?_;exact(bN (F4 @aZ @cN @dJ @ao.eq_1 (fH d4) (fH d10) (Wg d10)))
  have v9:∀i,i<13->∀v:SV,vo (λj=>j<13) i v=v:=λi h v=>cg h;have w9:∀i,i<13->∀v:SO,wo (λj=>j<13) i v=v:=λi h v=>ma h;have i9:∀i,i<13->∀x y:SO,io (λj=>j<13) i x y=x:=λi h x y=>Ai h;change aR _ _ _ _ _ _
  refine oA ((51,.ag (uE y))::(15,.ptr 0 0)::(16,.ptr 1 0)::(13,ak true)::(14,ab k)::kI c dmg b l sh vehicle day) [.cells (uE x),.cells uz] (bN (wS (v9 9 gt) (v9 10 gt) (v9 11 gt) (w9 10 gt) (w9 11 gt) (i9 12 gt)))<|(zR) ?_;refine zZ ((15,.ip (uE x))::(16,.ptr 1 0)::(13,ak true)::(14,ab k)::kI c dmg b l sh vehicle day) 0 rfl (gV @an.eq_1)<|zZ ((15,.ip (uE x))::(16,.ip (uE y))::(13,ak true)::(14,ab k)::kI c dmg b l sh vehicle day) 1 rfl (gV @an.eq_1)<|zA ((15,.ip (uE x))::(16,.ip (uE y))::(13,ak true)::(14,ab k)::kI c dmg b l sh vehicle day) [] zH<|(az (cL hlt2 hxe @ao.eq_1))<|zA ((17,.ptr 0 0)::(15,.ip (uE x))::(16,.ip (uE y))::(13,ak true)::(14,ab k)::kI c dmg b l sh vehicle day) [.cells [ab x.op,ab x.day,ah x.part,ah x.kind,ah x.aJ,ah x.slot,ah x.key,ah x.value,ab x.u1,ab x.u2,ab x.u3,ab x.u4,ab x.u5,ab x.u6]] zH<|(zV) ?_;refine zZ ((17,.ip [ab x.op,ab x.day,ah x.part,ah x.kind,ah x.aJ,ah x.slot,ah x.key,ah x.value,ab y.u1,ab y.u2,ab y.u3,ab y.u4,ab y.u5,ab y.u6])::(15,.ip (uE x))::(16,.ip (uE y))::(13,ak true)::(14,ab k)::kI c dmg b l sh vehicle day) 0 rfl (gV @an.eq_1)<|zA ((17,.ip [ab x.op,ab x.day,ah x.part,ah x.kind,ah x.aJ,ah x.slot,ah x.key,ah x.value,ab y.u1,ab y.u2,ab y.u3,ab y.u4,ab y.u5,ab y.u6])::(15,.ip (uE x))::(16,.ip (uE y))::(13,ak true)::(14,ab k)::kI c dmg b l sh vehicle day) [] zH ?_
  have hq:=KS (C9 ⟨x.op,x.day,x.part,x.kind,x.aJ,x.slot,x.key,x.value,y.u1,y.u2,y.u3,y.u4,y.u5,y.u6⟩ y);unfold aV.av at hq
  have hxy:decide ((⟨x.op,x.day,x.part,x.kind,x.aJ,x.slot,x.key,x.value,y.u1,y.u2,y.u3,y.u4,y.u5,y.u6⟩:aV)=y)=true->sC x=sC y:=λh=>by
   have h:=ww h;have:=rc sC h;exact this
  generalize decide ((⟨x.op,x.day,x.part,x.kind,x.aJ,x.slot,x.key,x.value,y.u1,y.u2,y.u3,y.u4,y.u5,y.u6⟩:aV)=y)=q0 at hq hxy;have q1:=tC x.u1 x.u2 y.u1 y.u2;have q2:=tC x.u3 x.u4 y.u3 y.u4;have q3:=tC x.u5 x.u6 y.u5 y.u6;have i1:=AJ (a1:=x.u1) (a2:=x.u2) (b1:=y.u1) (b2:=y.u2);have i2:=AJ (a1:=x.u3) (a2:=x.u4) (b1:=y.u3) (b2:=y.u4);have i3:=AJ (a1:=x.u5) (a2:=x.u6) (b1:=y.u5) (b2:=y.u6);generalize AI x.u1 x.u2 y.u1 y.u2=p1 at q1 i1;generalize AI x.u3 x.u4 y.u3 y.u4=p2 at q2 i2;generalize AI x.u5 x.u6 y.u5 y.u6=p3 at q3 i3;refine(zs) ?_;refine oK [0,0,0,6,14,31,63,127,255,127,639,2047,4095,8191,16383,32767,65535,32767,163839,524287,1048575,2097151,4194303,8388607,16777215,8388607,41943039,134217727,268435455,536870911] ?_;cases q0
  ·exact(NO (lB hlt hye @ao.eq_1 hq @Bp))<|(zM)<|(cB)<|zo [.tmp 12]
  refine(NO (gh hlt hye @ao.eq_1 hq)) ?_;refine SD.k g9 rfl rfl g9 rfl rfl zc (q1) (zw) rfl ?_;cases p1
  ·exact(NO @Bp)<|(zM)<|(cB)<|zo [.tmp 12]
  refine(qB) ?_;refine SD.k g9 rfl rfl g9 rfl rfl zc (q2) (zw) rfl ?_;cases p2
  ·exact(NO @Bp)<|(zM)<|(cB)<|zo [.tmp 12]
  refine(qB) ?_;refine SD.k g9 rfl rfl g9 rfl rfl zc (q3) (zw) rfl ?_;cases p3
  ·exact(qB)<|(zM)<|(cB)<|zo [.tmp 12]
  refine(qB)<|(zM)<|(zN)<|(az (zi hlt hl6)) ?_;refine zX hlt zH ?_
  intro i a e hi h1 h2;by_cases hik:i=k
  ·subst hik;rw[hx] at h1;cases h1;rw[hy] at h2;cases h2;exact⟨hxy rfl,i1 rfl,i2 rfl,i3 rfl⟩
  ·exact hall i a e ii h1 h2
 obtain rfl:k=l.length:=by omega
 have hz:yM (sh.zip l):=by
  intro q hq;obtain⟨i,hi⟩:=List.mem_iff_getElem?.1 hq;rw[List.getElem?_zip_eq_some] at hi;exact hall i _ _ (by have:=(rg hi.2).1;exact this) hi.1 hi.2
 have hz1:(sh.zip l).map (·.1)=sh:=List.map_fst_zip ii;have hz2:(sh.zip l).map (·.2)=l:=List.map_snd_zip ii
 have hlz:(sh.zip l).length<=20000:=by rw[List.length_zip];omega
 have hshe:∀e∈sh,lP e:=by
  intro a h;obtain⟨i,hi⟩:=List.mem_iff_getElem?.1 h
  have hil:i<l.length:=by have:=bx hi;omega
  obtain⟨e,he⟩:∃e,l[i]?=some e:=⟨l[i],jp hil⟩;have hs:=(hall i a e hil hi he).eq;have ho:=hle e (am he);exact⟨by rw[show a.part=e.part from(rc aV.part hs :)];exact ho.part,by rw[show a.kind=e.kind from(rc aV.kind hs :)];exact ho.kind,by rw[show a.aJ=e.aJ from(rc aV.aJ hs :)];exact ho.aJ,by rw[show a.slot=e.slot from(rc aV.slot hs :)];exact ho.slot,by rw[show a.key=e.key from(rc aV.key hs :)];exact ho.key,by rw[show a.value=e.value from(rc aV.value hs :)];exact ho.value⟩
 clear hall;have hlaw:=MR (c:=c) (dmg:=dmg) (b:=b) (z:=sh.zip l) hz hlz (vehicle:=vehicle) (day:=day);rw[hz1,hz2] at hlaw;have ho1:=tz c dmg b l vehicle day hbo hc hf ii hle;have ho2:=tz c dmg b sh vehicle day hbo hc hf ii hshe;have hr1:=zn (c:=c) (dmg:=dmg) (vehicle:=vehicle) (day:=day) hbo (show l.length<20 by omega) hle;have hr2:=zn (c:=c) (dmg:=dmg) (vehicle:=vehicle) (day:=day) hbo (show sh.length<20 by omega) hshe;generalize fE c dmg b l vehicle day=R1 at hlaw ho1 hr1;generalize fE c dmg b sh vehicle day=R2 at hlaw ho2 hr2;have hn0:=HV R1 ⟨4,vehicle,[]⟩ ii
 refine(az (show decide ((l.length:Int)<(l.length:Int))=false by simp))<|(gE) ?_
 simp only[e8,df,bW,bI,if_true]
 refine(fC (cL hfl hft @aN.eq_1))<|(zK ho1 (hwk:=.cons (.ag (bm.refl (aW dmg))) (bm.refl rfl)) (hfl:=.inr (.cons (.ag (bm.refl (aW dmg))) (bm.refl rfl))))<|(zR)<|(fC (cL hfl hft @aN.eq_1))<|(zK ho2 (hwk:=.cons (.ag (bm.refl (aW dmg))) (bm.refl rfl)) (hfl:=.inr (.cons (.ag (bm.refl (aW dmg))) (bm.refl rfl))))<|(zR)<|(zC)<|(zK hn0) ?_
 cases g0:MM R1 ⟨4,vehicle,[]⟩;rotate_left
 ·exact(zR)<|(cB)<|zo [.tmp 12]
 have hlaw:=hlaw λh=>by rw[Gx.2 h] at g0;cases g0
 refine(zR)<|(ly) ?_
 have hl2:R2.length<=1000000:=by omega
 refine zA [(20,ab 0),(13,ak true),(18,an 3 R1 aL),(19,an 3 R2 aL)] [] zH<|(zs) ?_;refine zL R2 (λk2=>True) (λk2=>[(20,ab k2),(13,ak true),(18,an 3 R1 aL),(19,an 3 R2 aL)]) (λk2=>[]) zH zp ?_;intro k2 hk2 hall2
 by_cases hlt2:k2<R2.length;rotate_left
 ·exact(az (show decide ((k2:Int)<(R2.length:Int))=false by simp only[wn];omega))<|(gE)<|(zV)<|zo [.tmp 12]
 obtain⟨f,hx⟩:∃f,R2[k2]?=some f:=⟨R2[k2],jp hlt2⟩;have hnf:=HV R1 f ii;rw[Gx.2 (hlaw f (am hx))] at hnf
 refine(az (show decide ((k2:Int)<(R2.length:Int))=true by simp only[wp];omega))<|(gO)<|(fC (cL hlt2 (aQ (e:=3) (enc:=aL) (λ_=>rfl) hx) @aL.eq_1))<|(zK hnf)<|(zR)<|(zN)<|(az (zi hlt2 hl2)) ?_;refine zX hlt2 zH trivial
end Go.Proofs
namespace Go.Proofs.YtjiejanfnnieaaaGreat
open Go.Proofs Go.Ev Go.ChangeShapes Go.WideShapes Go.ChangeAt Go.RowKit
set_option maxRecDepth 100000
def Sr:Tryz.f8.params.toList=[29,36,37,37,9,3]:=by kernel_rfl
def law_lifted(os:Os)(started:os.Started)(H:Type)(enc:TypeId×Value->H):
 ReturnsInHanded {} em os 8 .any (Rows.faultKnowsSpec.pre6 enc prog Tryz.f8 Rows.faultKnowsRow.domain false) (Rows.faultKnowsSpec.post enc prog Tryz.f8 false true false false):=by
 refine returnsInHanded_of_change_sized (C:=em) VZ started zW func8
  (ChangeSpec.witness6 (enc:=enc) (C:=em) false ⟨#[],#[.agg #[.slice none 0 0,.int .i64 0,.int .i64 0,.slice none 0 0],.agg #[.slice none 0 0,.slice none 0 0,.slice none 0 0,.slice none 0 0,.slice none 0 0,.slice none 0 0],.slice none 0 0,.slice none 0 0,.string ⟨#[]⟩,.int .i64 0],[]⟩ 8 zW zW zW zW) ?_
 intro W base args ds gs before hval0 hW _ hwt0 _;have hval:∀(j:Nat) t v,Tryz.f8.params[j]?=some t->args[j]?=some v->Value.okWide prog W .any base t v:=hval0;have hW':=hW;obtain⟨p,q,hA0,hV,rfl,hfz,hnd⟩:=hW;have hA:DataW.TrodAll enc prog W 0 (λ_=>true) true Tryz.f8.params.toList args.toList ds p:=hA0;rw[Sr] at hA;obtain⟨v0,v1,v2,v3,v4,v5,d0,d1,d2,d3,d4,d5,p0,p1,p2,p3,p4,p5,rfl,rfl,rfl,h0,h1,h2,h3,h4,h5⟩:=JS hA;obtain⟨rfl,rfl⟩:=trodVars_none hV;have hwt1:(DataW.weightsEach prog (Tryz.f8.params.toList++Rows.faultKnowsSpec.plain.varTypes prog) ([d0,d1,d2,d3,d4,d5]++[])).all (·<=reachBytes)=true:=hwt0
 have hwt:∀{j:Nat} {t:TypeId} {d:DataW H},(Tryz.f8.params.toList++Rows.faultKnowsSpec.plain.varTypes prog)[j]?=some t->([d0,d1,d2,d3,d4,d5]++[])[j]?=some d->∀x∈d.weights prog t,x<=reachBytes:=by
  intro j t d ht hd x hx;have:=all_eq_true.1 hwt1 x (DataW.weights_mem_each ht hd x hx);simpa using this
 obtain⟨j0,y0,o0,w0⟩:=oM QS (hval 0 29 v0 zW rfl) h0 (hwt (j:=0) zW rfl);obtain⟨j1,y1,o1,w1⟩:=oM SP (hval 1 36 v1 zW rfl) h1 (hwt (j:=1) zW rfl);obtain⟨j2,y2,o2,w2⟩:=oM QP (hval 2 37 v2 zW rfl) h2 (hwt (j:=2) zW rfl);obtain⟨j3,y3,o3,w3⟩:=oM QP (hval 3 37 v3 zW rfl) h3 (hwt (j:=3) zW rfl);obtain⟨j4,y4,o4,w4⟩:=oM We (hval 4 9 v4 zW rfl) h4 (hwt (j:=4) zW rfl);obtain⟨j5,y5,o5,w5⟩:=oM Wc (hval 5 3 v5 zW rfl) h5 (hwt (j:=5) zW rfl);obtain⟨e0,rfl,o0⟩:=o0;obtain⟨c,dmg,s0,f0,g0⟩:=Qz JF o0;obtain⟨e1,rfl,o1⟩:=o1;obtain⟨b1,s1,f1⟩:=Rh JF o1;have o2:kj reachBytes (.sl (.st DQ)) [y2]:=o2;rw[kj] at o2;obtain⟨n2,rows2,e2,q2,k2⟩:=o2;simp only[mt,and_true] at e2;subst e2;obtain⟨l2,s2,u2,f2⟩:=me ao UI λr hr=>S8 (by have:=k2 r hr;rw[kj] at this;exact this);have o3:kj reachBytes (.sl (.st DQ)) [y3]:=o3;rw[kj] at o3;obtain⟨n3,rows3,e3,q3,k3⟩:=o3;simp only[mt,and_true] at e3;subst e3;obtain⟨l3,s3,u3,f3⟩:=me ao UI λr hr=>S8 (by have:=k3 r hr;rw[kj] at this;exact this);obtain⟨x4,rfl,f4⟩:=SG (B:=reachBytes) o4;obtain⟨x5,rfl⟩:=RG (B:=reachBytes) o5;have hr:=JF;have hlaw:=H2 c dmg b1 l2 l3 x4 x5 ⟨f0,g0,by omega,f2⟩ f1 ii f3
 have hwd:nL W [.ag e0,.ag e1,.sl n2 rows2.length (Ty.st DQ).size rows2.flatten,.sl n3 rows3.length (Ty.st DQ).size rows3.flatten,.fl (.str x4),.fl (.int .i64 x5)] (#[v0,v1,v2,v3,v4,v5]:Array Value).toList:=by
  rw[eh];refine⟨_,_,rfl,w0,?_⟩;rw[eh];refine⟨_,_,rfl,w1,?_⟩;rw[eh];refine⟨_,_,rfl,w2,?_⟩;rw[eh];refine⟨_,_,rfl,w3,?_⟩;rw[eh];refine⟨_,_,rfl,w4,?_⟩;rw[eh];refine⟨_,_,rfl,w5,?_⟩;rw[jo]
 have hdv:eS [.ag e0,.ag e1,.sl n2 rows2.length (Ty.st DQ).size rows2.flatten,.sl n3 rows3.length (Ty.st DQ).size rows3.flatten,.fl (.str x4),.fl (.int .i64 x5)]=[.ag (an 3 c aq::aC dmg),.ag (aN b1),an 14 l2 ao,an 14 l3 ao,ah x4,ab x5]:=by
  simp only[eS,↓nf s2 u2,↓nf s3 u3,Gc,s0,s1];rfl
 refine(T5 dz func8 rfl hwd (by rw[hdv];exact hlaw)).mono λe W' ⟨he,hb⟩=>?_;subst he
 have hlt:∀x∈p0++p1++p2++p3++p4++p5,x.block<W.heap.size:=λx hx=>by simpa using hW'.lt x (by simpa using hx)
 have z0:=Below.trod Nc zW (ww zW) h0 hb (λx hx=>hlt x (by simp[hx]));have z1:=Below.trod Nc zW (ww zW) h1 hb (λx hx=>hlt x (by simp[hx]));have z2:=Below.trod Nc zW (ww zW) h2 hb (λx hx=>hlt x (by simp[hx]));have z3:=Below.trod Nc zW (ww zW) h3 hb (λx hx=>hlt x (by simp[hx]));have z4:=Below.trod Nc zW (ww zW) h4 hb (λx hx=>hlt x (by simp[hx]));have z5:=Below.trod Nc zW (ww zW) h5 hb (λx hx=>hlt x (by simp[hx]));exact⟨_,rfl,_,_,_,[],_,[],hW',trodAll_mk1 (shut_bool Tryz.underlying4 true),JR z0 z1 z2 z3 z4 z5,rfl,hb.frame _,λh=>by cases h⟩
end Go.Proofs.YtjiejanfnnieaaaGreat
