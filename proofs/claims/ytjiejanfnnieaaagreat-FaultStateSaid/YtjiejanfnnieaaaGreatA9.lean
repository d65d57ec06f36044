/- Lemmas of this claim, each with its conditions. -/
import Derived.Test.YtjiejanfnnieaaaGreatA8
import Derived.Test.YtjiejanfnnieaaaGreatA7
import Derived.Test.YtjiejanfnnieaaaGreatA5
import Derived.Test.YtjiejanfnnieaaaGreatA4
import Derived.Test.YtjiejanfnnieaaaGreatA3
import Derived.ProofKit
import Derived.SizedLaws
import Derived.Carry
import Derived.Test.YtjiejanfnnieaaaGreatRows
set_option linter.all false
set_option maxHeartbeats 8000000
open Go.Proofs.Tryz (prog func4)
open Nat (ble beq)
open List (all_eq_true)
open Bool renaming and_eq_true -> aa, not_eq_true' -> ax, or_eq_true -> bh, or_assoc -> b7
open List renaming mem_of_getElem? -> ac, take_length -> aj, length_map -> am, take_of_length_le -> aS, map_cons -> aU, sizeOf_lt_of_mem -> a7, map_nil -> bc, not_mem_nil -> bd, length -> bi, mem_cons -> bk, any_append -> bw, append_nil -> bO, all_cons -> b8
open Nat renaming le_refl -> ad, zero_le -> al, reduceAdd -> ap, reduceEqDiff -> ay, beq_refl -> a8, le_trans -> a9, zero_add -> ba, lt_succ_self -> bb, not_lt_zero -> be, reduceLeDiff -> bs, reduceMul -> b6, reduceLT -> b9
open Go.Proofs.Tryz renaming checked -> bt
open And renaming intro -> bv
namespace Go.Proofs
open Go.Ev
set_option maxRecDepth 100000
inductive eO:aW->Prop
 | mk {op:Int} {name value:List Nat} {n extra:Int} {kids:List aW}:(∀b∈name,b<256)->(∀b∈value,b<256)->kids.length<=rY->(∀k∈kids,eO k)->eO (.mk op name value n extra kids)
mutual
def lz:aW->Int->Int
 | .mk _ _ _ _ _ kids,most=>iu kids most 1
def iu:List aW->Int->Int->Int
 | [],_,n=>n
 | k::ks,most,n=>if most<n then n else iu ks most (xL n (lz k (ub most n)))
end
def uk:∀(d:Nat) (f:aW),SizeOf.sizeOf f<d->eO f->∀most:Int,PC Tryz.prog 169 [.ag (aX f),ab most] (·=ab (lz f most))
 | 0,f,hd,_,_=>un hd (Nat.not_lt_zero _)
 | d+1,.mk op name value n extra kids,hd,hf,most=>by
  cases hf with
  | mk _ _ hlen hks=>
  have hkd:∀k∈kids,SizeOf.sizeOf k<d:=λk hk=>by
   have h1:=List.sizeOf_lt_of_mem hk
   have h2:SizeOf.sizeOf (aW.mk op name value n extra kids)=1+SizeOf.sizeOf op+SizeOf.sizeOf name+SizeOf.sizeOf value+SizeOf.sizeOf n+SizeOf.sizeOf extra+SizeOf.sizeOf kids:=by simp
   omega
  rw[gK,lz]
  refine pB 31 Tryz.func169 ?_;refine(zV) ?_;refine zZ [(1,ab most),(2,.ip [ab op,ah name,ah value,ab n,ab extra,an 6 kids aX])] 0 rfl (gu @an.eq_1)<|zA [(1,ab most),(2,.ip [ab op,ah name,ah value,ab n,ab extra,an 6 kids aX])] [] zH<|(oa)<|(zs) ?_;refine Hf kids (λk (acc:Int)=>iu kids most 1=iu (kids.drop k) most acc) (λk acc=>[(1,ab most),(2,.ip [ab op,ah name,ah value,ab n,ab extra,an 6 kids aX]),(5,ab acc),(6,ab k)]) (λk acc=>[]) (1) zH i4 ?_;intro k acc hk hall
  by_cases hlt:k<kids.length;rotate_left
  ·refine(aw (show decide ((k:Int)<(kids.length:Int))=false by simp only[wn];omega))<|(gh) ?_
   rw[List.drop_of_length_le i5,iu] at hall
   exact(zV)<|zo [.tmp 4] (hq:=by rw[hall])
  have hd:=show decide ((k:Int)<(kids.length:Int))=true by simp only[wp];omega
  obtain⟨x,hx⟩:∃x,kids[k]?=some x:=⟨kids[k],li hlt⟩;rw[eR hx,iu] at hall;have hxm:=List.mem_of_getElem? hx;have ih:=uk d x (hkd x hxm) (hks x hxm);have hxl:((kids.flatMap aX).drop (k*6)).take 6=aX x:=aQ (e:=6) (enc:=aX) jm hx;obtain⟨op',na',va',n',ex',kids'⟩:=x;simp only[gK] at hxl ih;cases h1:decide (acc<=most)
  ·rw[ut (by have:=wt h1;omega)] at hall
   exact(aw (bq hd h1))<|(gh)<|(zV)<|zo [.tmp 4] (hq:=by rw[hall])
  rw[v6 (by have:=ww h1;omega)] at hall
  refine(aw (bq hd h1))<|(gB)<|(fb (cG hlt hxl @oe))<|(zK (ih (ub most acc)))<|(cJ @sM)<|(aw (zi hlt hlen)) ?_;refine wq hlt (xL acc (lz (.mk op' na' va' n' ex' kids') (ub most acc))) zH hall
mutual
def mO:aW->Bool
 | .mk _ name value _ _ kids=>!(decide (300<(name.length:Int)))&&(!(decide (300<(value.length:Int)))&&tZ kids)
def tZ:List aW->Bool
 | []=>true
 | k::ks=>mO k&&tZ ks
end
def sA:∀l:List aW,tZ l=l.all mO
 | []=>by rw[tZ];rfl
 | k::l=>by rw[tZ,sA l,b8]
def yT:∀(d:Nat) (f:aW),SizeOf.sizeOf f<d->∀most:Int,-1000<=most->most<=1000->1<=lz f most/\(lz f most<=most+1\/lz f most=1)/\(lz f most<=most->eO f->mO f=true->gp f)
 | 0,f,hd,_,_,_=>un hd (Nat.not_lt_zero _)
 | d+1,.mk op name value n extra kids,hd,most,h0,h1=>by
  have hkd:∀k∈kids,SizeOf.sizeOf k<d:=λk hk=>by
   have h1:=List.sizeOf_lt_of_mem hk
   have h2:SizeOf.sizeOf (aW.mk op name value n extra kids)=1+SizeOf.sizeOf op+SizeOf.sizeOf name+SizeOf.sizeOf value+SizeOf.sizeOf n+SizeOf.sizeOf extra+SizeOf.sizeOf kids:=by simp
   omega
  have key:∀(ks:List aW) (acc:Int),(∀k∈ks,k∈kids)->1<=acc->(acc<=most+1\/acc=1)->1<=iu ks most acc/\(iu ks most acc<=most+1\/iu ks most acc=1)/\(iu ks most acc<=most->acc+ks.length<=iu ks most acc/\∀k∈ks,eO k->mO k=true->gp k):=by
   intro ks
   induction ks with
   | nil=>intro acc _ h2 h3;rw[iu];exact⟨h2,h3,λ_=>⟨by simp,λk hk=>by cases hk⟩⟩
   | cons k ks ih=>
    intro acc hm h2 h3;rw[iu];split
    ·rename_i hlt;exact⟨h2,h3,λh=>by omega⟩
    ·rename_i hlt;rw[Ky i5];obtain⟨b1,b2,b3⟩:=yT d k (hkd k (hm k List.mem_cons_self)) (most-acc) i5 i5;rw[Jn i5];obtain⟨c1,c2,c3⟩:=ih (acc+lz k (most-acc)) (λx hx=>hm x (List.mem_cons_of_mem _ hx)) i5 i5;refine⟨c1,c2,λh=>?_⟩;obtain⟨d1,d2⟩:=c3 h;refine⟨by rw[jp];omega,λx hx=>?_⟩
     rcases t7 hx with rfl | hx
     ·exact b3 i5
     ·exact d2 x hx
  rw[lz];obtain⟨c1,c2,c3⟩:=key kids 1 (λ_ h=>h) (Int.le_refl _) (.inr rfl);refine⟨c1,c2,λh hb hs=>?_⟩;obtain⟨d1,d2⟩:=c3 h
  cases hb with
  | mk n1 n2 _ n4=>
  rw[mO,sA] at hs;simp only[Bool.and_eq_true,Bool.not_eq_true',wn,List.all_eq_true] at hs;exact .mk ⟨by omega,n1⟩ ⟨by omega,n2⟩ i5 λk hk=>d2 k hk (n4 k hk) (hs.2.2 k hk)
def uq:∀(d:Nat) (f:aW),SizeOf.sizeOf f<d->eO f->PC Tryz.prog 286 [.ag (aX f)] (·=ak (mO f))
 | 0,f,hd,_=>un hd (Nat.not_lt_zero _)
 | d+1,.mk op name value n extra kids,hd,hf=>by
  cases hf with
  | mk _ _ hlen hks=>
  have hkd:∀k∈kids,SizeOf.sizeOf k<d:=λk hk=>by
   have h1:=List.sizeOf_lt_of_mem hk
   have h2:SizeOf.sizeOf (aW.mk op name value n extra kids)=1+SizeOf.sizeOf op+SizeOf.sizeOf name+SizeOf.sizeOf value+SizeOf.sizeOf n+SizeOf.sizeOf extra+SizeOf.sizeOf kids:=by simp
   omega
  rw[gK,mO,sA]
  refine pB 28 Tryz.func286 ?_;refine(zV) ?_;refine zZ [(1,.ip [ab op,ah name,ah value,ab n,ab extra,an 6 kids aX])] 0 rfl (gu @an.eq_1)<|zA [(1,.ip [ab op,ah name,ah value,ab n,ab extra,an 6 kids aX])] [] zH ?_
  cases g1:decide (300<(name.length:Int));rotate_left
  ·exact(aw g1)<|(cF)<|zo [.tmp 2]
  cases g2:decide (300<(value.length:Int));rotate_left
  ·exact(aw (bq g1 g2))<|(cF)<|zo [.tmp 2]
  refine(aw (bq g1 g2))<|(kY)<|(zs) ?_;refine zL kids (λk=>(kids.take k).all mO=true) (λk=>[(1,.ip [ab op,ah name,ah value,ab n,ab extra,an 6 kids aX]),(3,ab k)]) (λk=>[]) zH zp ?_;intro k hk hall
  by_cases hlt:k<kids.length;rotate_left
  ·refine(aw (show decide ((k:Int)<(kids.length:Int))=false by simp only[wn];omega))<|(gh) ?_
   obtain rfl:k=kids.length:=by omega
   rw[List.take_length] at hall
   exact(zV)<|zo [.tmp 2] (hq:=by rw[hall];rfl)
  obtain⟨x,hx⟩:∃x,kids[k]?=some x:=⟨kids[k],li hlt⟩;have hxm:=List.mem_of_getElem? hx;have ih:=uq d x (hkd x hxm) (hks x hxm);have hxl:((kids.flatMap aX).drop (k*6)).take 6=aX x:=aQ (e:=6) (enc:=aX) jm hx;obtain⟨b,hb⟩:∃b,b=mO x:=⟨_,rfl⟩;rw[<-hb] at ih;obtain⟨op',na',va',n',ex',kids'⟩:=x;simp only[gK] at hxl ih
  refine(aw (show decide ((k:Int)<(kids.length:Int))=true by simp only[wp];omega))<|(gB)<|(fb (bq hlt hxl))<|(zK ih) ?_
  cases b
  ·exact(zR)<|(cF)<|zo [.tmp 2] (hq:=by rw[iw hxm hb.symm];rfl)
  ·refine(zR)<|(zN)<|(aw (zi hlt hlen)) ?_;refine zX hlt zH (gG hx hall hb.symm)
def K7(e:aW):Bool:=decide (lz e 80<=80)&&mO e
def JI{e:aW}(h:K7 e=true)(hb:eO e):gp e:=by
 unfold K7 at h;rw[aa] at h;exact(yT _ e (bb _) 80 ii ii).2.2 (ww h.1) hb h.2
def DC(e:aW)(he:eO e):PC prog 236 [.ag (aX e)] (·=ak (K7 e)):=by
 have hN:=uk _ e (bb _) he 80;have hS:=uq _ e (bb _) he;unfold K7;generalize lz e 80=q at hN ⊢;generalize mO e=s at hS ⊢;refine pB 10 Tryz.func236 ?_;rw[cr] at hN hS ⊢
 refine(zV) ?_;refine zZ [(1,AF e)] 0 rfl zG<|zA [(1,AF e)] [] zH<|(zC)<|(zK hN) ?_
 cases g:decide (q<=80)
 ·exact(cJ g)<|zo [.tmp 2]
 exact(Mk g)<|(zK hS)<|(zR)<|zo [.tmp 2]
def yf(r:jl):Bool:=decide (((r.name.length+r.kind.length:Nat):Int)<=300)&&K7 r.cond
def IF(r:jl)(hr:r.name.length<=rY/\r.kind.length<=rY)(he:eO r.cond):PC prog 153 [.ag (cC r)] (·=ak (Proofs.yf r)):=by
 have hC:=DC r.cond he;unfold Proofs.yf;generalize K7 r.cond=s at hC ⊢;refine pB 16 Tryz.func153 ?_;rw[cr] at hC;rw[fP];have hadd:=xd (P:=prog) (t:=3) (a:=(r.name.length:Int)) (b:=(r.kind.length:Int)) (by have h1:r.name.length<=1000000000000000:=hr.1;have h2:r.kind.length<=1000000000000000:=hr.2;omega);rw[show(r.name.length:Int)+(r.kind.length:Int)=((r.name.length+r.kind.length:Nat):Int) from rfl] at hadd
 refine(zV) ?_;refine zZ [(1,.ip (cC r))] 0 rfl (gu @fP)<|zA [(1,.ip (cC r))] [] zH ?_
 cases g:decide (((r.name.length+r.kind.length:Nat):Int)<=300)
 ·exact(aw (cG @fP hadd g))<|zo [.tmp 2]
 exact(fb (cG @fP hadd g))<|(zK hC)<|(zR)<|zo [.tmp 2]
def se(l:List jl):Bool:=decide ((l.length:Int)<=5)&&l.all Proofs.yf
def vU(l:List jl)(hlen:l.length<=rY)(hl:∀r∈l,(r.name.length<=rY/\r.kind.length<=rY)/\eO r.cond):PC prog 70 [an 8 l cC,ab 5] (·=ak (Proofs.se l)):=by
 refine pB 28 Tryz.func70 ?_;unfold Proofs.se
 refine(oa)<|(zs) ?_;refine zL l (λk=>(l.take k).all Proofs.yf=true) (λk=>[(0,an 8 l cC),(1,ab 5),(5,ab k)]) (λk=>[]) zH zp ?_;intro k hk hall
 cases g5:decide ((l.length:Int)<=5)
 ·by_cases hlt:k<l.length
  ·exact(aw (bq (show decide ((k:Int)<(l.length:Int))=true by simp only[wp];omega) g5))<|(gh)<|(aw g5)<|zo [.tmp 4]
  ·exact(aw (bq (show decide ((k:Int)<(l.length:Int))=false by simp only[wn];omega) g5))<|(gh)<|(aw g5)<|zo [.tmp 4]
 by_cases hlt:k<l.length;rotate_left
 ·refine(aw (bq (show decide ((k:Int)<(l.length:Int))=false by simp only[wn];omega) g5))<|(gh) ?_
  obtain rfl:k=l.length:=by omega
  rw[aj] at hall
  exact(aw g5)<|zo [.tmp 4] (hq:=by rw[hall];rfl)
 obtain⟨x,hx⟩:∃x,l[k]?=some x:=⟨l[k],li hlt⟩;have hxm:=ac hx;have hF:=IF x (hl x hxm).1 (hl x hxm).2;rw[fP] at hF
 refine(aw (bq (show decide ((k:Int)<(l.length:Int))=true by simp only[wp];omega) g5))<|(gB)<|(fb (cG hlt (aQ (e:=8) (enc:=cC) qg hx) @fP))<|(zK hF) ?_
 cases g:Proofs.yf x
 ·exact(zR)<|(cF)<|zo [.tmp 4] (hq:=by rw[iw hxm g];rfl)
 ·refine(zR)<|(zN)<|(aw (zi hlt hlen)) ?_;refine zX hlt zH (gG hx hall g)
def jR(s:List Nat):Bool:=!(decide (300<(s.length:Int)))
def pP(e:bu):Bool:=jR e.part&&(jR e.kind&&(jR e.aR&&(jR e.slot&&(jR e.key&&jR e.value))))
def No(c:List aL)(dmg:bx)(l:List bu):Bool:=(!(decide (16<(l.length:Int)))&&(Proofs.sZ c&&Proofs.EU dmg))&&l.all pP
def Gt(c:List aL)(dmg:bx)(l:List bu)(hf:kE dmg)(hlen:l.length<=rY):PC prog 28 [.ag (an 3 c ao::aC dmg),an 14 l aq,ab 16] (·=ak (No c dmg l)):=by
 have hfl:(aC dmg).length=3:=eS dmg;have hft:(aC dmg).take 3=aC dmg:=aS (by rw[hfl];exact ad _);have hfk:=λo:Nat=>bR (o:=o) (aV dmg);have hfn:=λo:Nat=>bV (o:=o) (aV dmg);unfold No
 refine pB 69 Tryz.func28 ?_;refine(aw (bq hfk hfn)) ?_;refine zZ [(1,an 14 l aq),(2,ab 16),(3,.ip (an 3 c ao::aC dmg))] 0 rfl ⟨.inl rfl,.inl rfl,.inr (.ptr rfl (bg.refl (aV dmg)) (al _)),trivial⟩<|zA [(1,an 14 l aq),(2,ab 16),(3,.ip (an 3 c ao::aC dmg))] [] zH ?_
 cases g0:decide (16<(l.length:Int));rotate_left
 ·exact(aw g0)<|(cF)<|zo [.tmp 6]
 refine(fb g0)<|(zK (IE c)) ?_
 cases g1:Proofs.sZ c
 ·exact(zR)<|(cF)<|zo [.tmp 6]
 refine(Mk (bq hfl hft))<|(zK (ID dmg hf) (hwk:=bg.cons (.ag (bg.refl (aV dmg))) .nil)) ?_
 cases g2:Proofs.EU dmg
 ·exact(zR)<|(cF)<|zo [.tmp 6]
 refine(zR)<|(kY)<|(zs) ?_;refine zL l (λk=>(l.take k).all pP=true) (λk=>[(1,an 14 l aq),(7,ab k)]) (λk=>[]) zH zp ?_;intro k hk hall
 by_cases hlt:k<l.length;rotate_left
 ·refine(aw (show decide ((k:Int)<(l.length:Int))=false by simp only[wn];omega))<|(gh) ?_
  obtain rfl:k=l.length:=by omega
  rw[aj] at hall
  exact(zV)<|zo [.tmp 6] (hq:=by rw[hall];rfl)
 obtain⟨x,hx⟩:∃x,l[k]?=some x:=⟨l[k],li hlt⟩;have hbad:pP x=false->l.all pP=false:=λh=>iw (ac hx) h
 refine(aw (show decide ((k:Int)<(l.length:Int))=true by simp only[wp];omega))<|(gB)<|(aw (cG hlt (aQ (e:=14) (enc:=aq) (λ_=>rfl) hx) @aq.eq_1)) ?_
 cases h1:decide (300<(x.part.length:Int));rotate_left
 ·exact(aw h1)<|(cF)<|zo [.tmp 6] (hq:=by rw[hbad (by unfold pP jR;rw[h1];rfl)];rfl)
 cases h2:decide (300<(x.kind.length:Int));rotate_left
 ·exact(aw (bq h1 h2))<|(cF)<|zo [.tmp 6] (hq:=by rw[hbad (by unfold pP jR;rw[h1,h2];rfl)];rfl)
 cases h3:decide (300<(x.aR.length:Int));rotate_left
 ·exact(aw (cG h1 h2 h3))<|(cF)<|zo [.tmp 6] (hq:=by rw[hbad (by unfold pP jR;rw[h1,h2,h3];rfl)];rfl)
 cases h4:decide (300<(x.slot.length:Int));rotate_left
 ·exact(aw (gm h1 h2 h3 h4))<|(cF)<|zo [.tmp 6] (hq:=by rw[hbad (by unfold pP jR;rw[h1,h2,h3,h4];rfl)];rfl)
 cases h5:decide (300<(x.key.length:Int));rotate_left
 ·exact(aw (lM h1 h2 h3 h4 h5))<|(cF)<|zo [.tmp 6] (hq:=by rw[hbad (by unfold pP jR;rw[h1,h2,h3,h4,h5];rfl)];rfl)
 cases h6:decide (300<(x.value.length:Int));rotate_left
 ·exact(aw (xX h1 h2 h3 h4 h5 h6))<|(cF)<|zo [.tmp 6] (hq:=by rw[hbad (by unfold pP jR;rw[h1,h2,h3,h4,h5,h6];rfl)];rfl)
 refine(aw (xX h1 h2 h3 h4 h5 h6))<|(zN)<|(aw (zi hlt hlen)) ?_;refine zX hlt zH (gG hx hall (by unfold pP jR;rw[h1,h2,h3,h4,h5,h6];rfl))
def nH(l:List (List Nat))(hlen:l.length<=1000000):PC prog 71 [an 1 l (aB ah)] (·=ak (l.all jR)):=by
 refine pB 16 Tryz.func71 ?_;refine(oa)<|(zs) ?_;refine zL l (λk=>(l.take k).all jR=true) (λk=>[(0,an 1 l (aB ah)),(3,ab k)]) (λk=>[]) zH zp ?_;intro k hk hall
 by_cases hlt:k<l.length;rotate_left
 ·refine(aw (show decide ((k:Int)<(l.length:Int))=false by simp only[wn];omega))<|(gh) ?_
  obtain rfl:k=l.length:=by omega
  rw[aj] at hall
  exact(zV)<|zo [.tmp 2] (hq:=by rw[hall])
 obtain⟨x,hx⟩:∃x,l[k]?=some x:=⟨l[k],li hlt⟩
 refine(aw (show decide ((k:Int)<(l.length:Int))=true by simp only[wp];omega))<|(gB) ?_
 cases g:decide (300<(x.length:Int))
 ·refine(aw (gm hlt (aQ (e:=1) (enc:=aB ah) (λ_=>rfl) hx) @aB.eq_1 g))<|(zN)<|(aw (zi hlt hlen)) ?_;refine zX hlt zH (gG hx hall (by unfold jR;rw[g];rfl))
 ·exact(aw (gm hlt (aQ (e:=1) (enc:=aB ah) (λ_=>rfl) hx) @aB.eq_1 g))<|(cF)<|zo [.tmp 2] (hq:=by rw[iw (p:=jR) (ac hx) (by unfold jR;rw[g];rfl)])
def Iu(s:wy):Bool:=[s.kind,s.slot,s.other,s.pO].all jR
def xg(d:dZ):Bool:=[d.name,d.kind,d.key].all jR
def CA(x:pX):Bool:=[x.part,x.fC].all jR
def kF(h:mu):Bool:=[h.id,h.vehicle].all jR&&(!(decide (20<(h.members.length:Int)))&&!(decide (20<(h.back.length:Int))))
def Bo(b:dY):Bool:=(!(decide (5<(b.fE.length:Int)))&&(!(decide (5<(b.ec.length:Int)))&&(!(decide (5<(b.nL.length:Int)))&&(!(decide (5<(b.holds.length:Int)))&&(Proofs.se b.rules&&Proofs.se b.cI)))))&&(b.fE.all Iu&&(b.ec.all xg&&(b.nL.all CA&&b.holds.all kF)))
structure qQ (b:dY):Prop where
 fC:∀r∈b.rules,(r.name.length<=rY/\r.kind.length<=rY)/\eO r.cond
 yX:∀r∈b.cI,(r.name.length<=rY/\r.kind.length<=rY)/\eO r.cond
 PI:∀d∈b.ec,(∀x∈d.name,x<256)/\(∀x∈d.kind,x<256)/\∀x∈d.key,x<256
 lr:b.rules.length<=rY
 lc:b.cI.length<=rY
def IG(b:dY)(hb:qQ b):PC prog 24 [.ag (aM b)] (·=ak (Proofs.Bo b)):=by
 refine pB 167 Tryz.func24 ?_;unfold Proofs.Bo
 refine(aw @aM.eq_1) ?_;refine zZ [(1,.ip (aM b))] 0 rfl (gu (bq @an.eq_1 @aM.eq_1))<|zA [(1,.ip (aM b))] [] zH ?_
 cases g1:decide (5<(b.fE.length:Int));rotate_left
 ·exact(aw (bq @aM.eq_1 g1))<|(cF)<|zo [.tmp 2]
 cases g2:decide (5<(b.ec.length:Int));rotate_left
 ·exact(aw (cG @aM.eq_1 g1 g2))<|(cF)<|zo [.tmp 2]
 cases g3:decide (5<(b.nL.length:Int));rotate_left
 ·exact(aw (gm @aM.eq_1 g1 g2 g3))<|(cF)<|zo [.tmp 2]
 cases g4:decide (5<(b.holds.length:Int));rotate_left
 ·exact(aw (lM @aM.eq_1 g1 g2 g3 g4))<|(cF)<|zo [.tmp 2]
 have k1:=wt g1;have k2:=wt g2;have k3:=wt g3;have k4:=wt g4
 have l1:b.fE.length<=1000000:=by omega
 have l2:b.ec.length<=1000000:=by omega
 have l3:b.nL.length<=1000000:=by omega
 have l4:b.holds.length<=1000000:=by omega
 refine(fb (lM @aM.eq_1 g1 g2 g3 g4))<|(zK (vU b.rules hb.lr hb.fC)) ?_
 cases g5:Proofs.se b.rules
 ·exact(zR)<|(cF)<|zo [.tmp 2]
 refine(Mk @aM.eq_1)<|(zK (vU b.cI hb.lc hb.yX)) ?_
 cases g6:Proofs.se b.cI
 ·exact(zR)<|(cF)<|zo [.tmp 2]
 refine(zR)<|(kY)<|(zs) ?_;refine zL b.fE (λk=>(b.fE.take k).all Iu=true) (λk=>[(1,.ip (aM b)),(3,ab k)]) (λk=>[]) zH zp ?_;intro k hk hall
 by_cases hlt:k<b.fE.length;rotate_left
 ·refine(aw (bq @aM.eq_1 (show decide ((k:Int)<(b.fE.length:Int))=false by simp only[wn];omega)))<|(gh) ?_
  simp only[eQ,cX,bU,bK,if_true]
  obtain rfl:k=b.fE.length:=by omega
  rw[aj] at hall;rw[hall];clear hall hlt hk
  refine(zV)<|(zs) ?_;refine zL b.ec (λk=>(b.ec.take k).all xg=true) (λk=>[(1,.ip (aM b)),(4,ab k)]) (λk=>[]) zH zp ?_;intro k hk hall
  by_cases hlt:k<b.ec.length;rotate_left
  ·refine(aw (bq @aM.eq_1 (show decide ((k:Int)<(b.ec.length:Int))=false by simp only[wn];omega)))<|(gh) ?_
   simp only[eQ,cX,bU,bK,if_true]
   obtain rfl:k=b.ec.length:=by omega
   rw[aj] at hall;rw[hall];clear hall hlt hk
   refine(zV)<|(zs) ?_;refine zL b.nL (λk=>(b.nL.take k).all CA=true) (λk=>[(1,.ip (aM b)),(5,ab k)]) (λk=>[]) zH zp ?_;intro k hk hall
   by_cases hlt:k<b.nL.length;rotate_left
   ·refine(aw (bq @aM.eq_1 (show decide ((k:Int)<(b.nL.length:Int))=false by simp only[wn];omega)))<|(gh) ?_
    simp only[eQ,cX,bU,bK,if_true]
    obtain rfl:k=b.nL.length:=by omega
    rw[aj] at hall;rw[hall];clear hall hlt hk
    refine(zV)<|(zs) ?_;refine zL b.holds (λk=>(b.holds.take k).all kF=true) (λk=>[(1,.ip (aM b)),(6,ab k)]) (λk=>[]) zH zp ?_;intro k hk hall
    by_cases hlt:k<b.holds.length;rotate_left
    ·refine(aw (bq @aM.eq_1 (show decide ((k:Int)<(b.holds.length:Int))=false by simp only[wn];omega)))<|(gh) ?_
     simp only[eQ,cX,bU,bK,if_true]
     obtain rfl:k=b.holds.length:=by omega
     rw[aj] at hall;rw[hall];clear hall hlt hk
     exact(zV)<|zo [.tmp 2]
    obtain⟨x,hx⟩:∃x,b.holds[k]?=some x:=⟨b.holds[k],li hlt⟩;have hxm:=ac hx
    refine(aw (bq @aM.eq_1 (show decide ((k:Int)<(b.holds.length:Int))=true by simp only[wp];omega)))<|(gB) ?_
    have htx:=nH [x.id,x.vehicle] (by show 2<=1000000;decide)
    refine(zs) ?_;refine kZ [0,1,0,7,15,31,0,64,0,448,960,1984,4095,8191,16383,32767,65535,131071,65535,524287,1048575,2097151,4194303,8388607,16777215,33554431,67108863,134217727,67108863,536870911,1073741823,2147483647,4294967295,8589934591,17179869183] ?_;refine(kRf (gm @aM.eq_1 hlt (aQ (e:=4) (enc:=cB) (λ_=>rfl) hx) @cB.eq_1))<|(kA []) ?_
    generalize hg:[x.id,x.vehicle].all jR=g at htx;refine qR.Pp (f':=(145,ak g)::[(1,.ip (aM b)),(6,ab k)]) (S':=[]) zW rfl (λds_ K_ hK_=>?_) ?_
    ·refine(zK htx)<|oA ((145,ak g)::[(1,.ip (aM b)),(6,ab k)]) [] zH ?_;exact .nil hK_
    cases g
    ·exact(kR)<|(kN)<|(cF)<|zo [.tmp 2] (hq:=by (rw[iw (p:=kF) hxm (by unfold kF;rw[hg];rfl)];first | rfl | simp))
    cases h1:decide (20<(x.members.length:Int));rotate_left
    ·exact(kRf (lM @aM.eq_1 hlt (aQ (e:=4) (enc:=cB) (λ_=>rfl) hx) @cB.eq_1 h1))<|(kN)<|(cF)<|zo [.tmp 2] (hq:=by (rw[iw (p:=kF) hxm (by unfold kF;rw[hg,h1];rfl)];first | rfl | simp))
    cases h2:decide (20<(x.back.length:Int));rotate_left
    ·exact(kRf (xX @aM.eq_1 hlt (aQ (e:=4) (enc:=cB) (λ_=>rfl) hx) @cB.eq_1 h1 h2))<|(kN)<|(cF)<|zo [.tmp 2] (hq:=by (rw[iw (p:=kF) hxm (by unfold kF;rw[hg,h1,h2];rfl)];first | rfl | simp))
    refine(kRf (xX @aM.eq_1 hlt (aQ (e:=4) (enc:=cB) (λ_=>rfl) hx) @cB.eq_1 h1 h2))<|(kN)<|(zN)<|(aw (zi hlt l4)) ?_;refine zX hlt zH (gG hx hall (by unfold kF;rw[hg,h1,h2];rfl))
   obtain⟨x,hx⟩:∃x,b.nL[k]?=some x:=⟨b.nL[k],li hlt⟩;have hxm:=ac hx
   refine(aw (bq @aM.eq_1 (show decide ((k:Int)<(b.nL.length:Int))=true by simp only[wp];omega)))<|(gB) ?_
   have htx:=nH [x.part,x.fC] (by show 2<=1000000;decide)
   refine(zs) ?_;refine kZ [0,1,0,7,15,31,0,64,0,448,960,1984,4095,8191,16383] ?_;refine(kRf (gm @aM.eq_1 hlt (aQ (e:=3) (enc:=du) (λ_=>rfl) hx) @du.eq_1))<|(kA []) ?_
   generalize hg:[x.part,x.fC].all jR=g at htx;refine qR.Pp (f':=(123,ak g)::[(1,.ip (aM b)),(5,ab k)]) (S':=[]) zW rfl (λds_ K_ hK_=>?_) ?_
   ·refine(zK htx)<|oA ((123,ak g)::[(1,.ip (aM b)),(5,ab k)]) [] zH ?_;exact .nil hK_
   cases g
   ·exact(kR)<|(kN)<|(cF)<|zo [.tmp 2] (hq:=by (rw[iw (p:=CA) hxm hg];first | rfl | simp))
   ·refine(kR)<|(kN)<|(zN)<|(aw (zi hlt l3)) ?_;refine zX hlt zH (gG hx hall hg)
  obtain⟨x,hx⟩:∃x,b.ec[k]?=some x:=⟨b.ec[k],li hlt⟩;have hxm:=ac hx
  refine(aw (bq @aM.eq_1 (show decide ((k:Int)<(b.ec.length:Int))=true by simp only[wp];omega)))<|(gB) ?_
  have htx:=nH [x.name,x.kind,x.key] (by show 3<=1000000;decide)
  refine(zs) ?_;refine kZ [0,1,0,7,15,31,0,64,0,448,960,1984,0,4096,0,28672,61440,126976,262143,524287,1048575] ?_;refine(kRf (gm @aM.eq_1 hlt (aQ (e:=5) (enc:=bj) (λ_=>rfl) hx) @bj.eq_1))<|(kA []) ?_
  generalize hg:[x.name,x.kind,x.key].all jR=g at htx;refine qR.Pp (f':=(101,ak g)::[(1,.ip (aM b)),(4,ab k)]) (S':=[]) zW rfl (λds_ K_ hK_=>?_) ?_
  ·refine(zK htx)<|oA ((101,ak g)::[(1,.ip (aM b)),(4,ab k)]) [] zH ?_;exact .nil hK_
  cases g
  ·exact(kR)<|(kN)<|(cF)<|zo [.tmp 2] (hq:=by (rw[iw (p:=xg) hxm hg];first | rfl | simp))
  ·refine(kR)<|(kN)<|(zN)<|(aw (zi hlt l2)) ?_;refine zX hlt zH (gG hx hall hg)
 obtain⟨x,hx⟩:∃x,b.fE[k]?=some x:=⟨b.fE[k],li hlt⟩;have hxm:=ac hx
 refine(aw (bq @aM.eq_1 (show decide ((k:Int)<(b.fE.length:Int))=true by simp only[wp];omega)))<|(gB) ?_
 have htx:=nH [x.kind,x.slot,x.other,x.pO] (by show 4<=1000000;decide)
 refine(zs) ?_;refine kZ [0,1,0,7,15,31,0,64,0,448,960,1984,0,4096,0,28672,61440,126976,0,262144,0,1835008,3932160,8126464,16777215,33554431,67108863] ?_;refine(kRf (gm @aM.eq_1 hlt (aQ (e:=5) (enc:=eB) (λ_=>rfl) hx) @eB.eq_1))<|(kA []) ?_
 generalize hg:[x.kind,x.slot,x.other,x.pO].all jR=g at htx;refine qR.Pp (f':=(73,ak g)::[(1,.ip (aM b)),(3,ab k)]) (S':=[]) zW rfl (λds_ K_ hK_=>?_) ?_
 ·refine(zK htx)<|oA ((73,ak g)::[(1,.ip (aM b)),(3,ab k)]) [] zH ?_;exact .nil hK_
 cases g
 ·exact(kR)<|(kN)<|(cF)<|zo [.tmp 2] (hq:=by (rw[iw (p:=Iu) hxm hg];first | rfl | simp))
 ·refine(kR)<|(kN)<|(zN)<|(aw (zi hlt l1)) ?_;refine zX hlt zH (gG hx hall hg)
abbrev nW:List Nat:=[119,104,101,101,108,115,101,116]
abbrev nC:List Nat:=[99,111,97,99,104]
abbrev nO:List Nat:=[102,114,111,110,116]
def US:jU:=⟨nO,[nW],1⟩
def CG:List aL:=[⟨nW,false,[]⟩,⟨nC,true,[US]⟩]
def Ni:bx:=.mk 2 0 []
def T6:bu:=⟨1,0,[99],nC,[],[],[],[],0,0,0,0,0,0⟩
def T7:bu:=⟨1,0,[119],nW,[],[],[],[],0,0,0,0,0,0⟩
def T8:bu:=⟨2,0,[119],[],[99],nO,[],[],0,0,0,0,0,0⟩
def TO:bu:=⟨4,3,[99],[],[],[],[],[],90,110,0,0,0,0⟩
def HE:List bu:=[T6,T7,T8,TO]
abbrev wX:Fm:=[(0,.ptr 0 0),(2,.ip [an 3 CG ao]),(3,.ip (aq TO))]
abbrev sX:List SV:=[an 3 CG ao,ab 2,ab 0,bG]
noncomputable abbrev Uw(L:Nat->Prop):Fm:=(14,vo L 0 (.ag [an 3 CG ao]))::(15,vo L 1 (.ag [ab 2,ab 0,bG]))::(16,vo L 2 (.ag sX))::(17,vo L 3 (.ag (aq T6)))::(18,vo L 4 (.ag (aq T7)))::(19,vo L 5 (.ag (aq T8)))::(20,vo L 6 (.ag (aq TO)))::wX
noncomputable abbrev fX(L:Nat->Prop):Fm:=(21,vo L 7 (.buf 1 4 14 (some 4)))::Uw L
def OS:PC prog 27 [] (·=.cm [.ag (an 3 CG ao::aC Ni),an 14 HE aq]):=by
 have c1:aq T6=[ab 1,ab 0,ah [99],ah nC,ah [],ah [],ah [],ah [],ab 0,ab 0,ab 0,ab 0,ab 0,ab 0]:=rfl;have c2:aq T7=[ab 1,ab 0,ah [119],ah nW,ah [],ah [],ah [],ah [],ab 0,ab 0,ab 0,ab 0,ab 0,ab 0]:=rfl;have c3:aq T8=[ab 2,ab 0,ah [119],ah [],ah [99],ah nO,ah [],ah [],ab 0,ab 0,ab 0,ab 0,ab 0,ab 0]:=rfl;have c4:aq TO=[ab 4,ab 3,ah [99],ah [],ah [],ah [],ah [],ah [],ab 90,ab 110,ab 0,ab 0,ab 0,ab 0]:=rfl
 refine pB 22 Tryz.func27 ?_;refine(oa)<|zA [(0,.ptr 0 0),(2,.ptr 4 0)] [.cells [bG,ab 0,ab 0,bG],.cells [ah nW],.cells [ah nO,.buf 1 1 1 (some 1),ab 1],.cells [ah nW,ak false,bG,ah nC,ak true,.buf 2 1 3 (some 1)],.cells [.buf 3 2 3 (some 2)]] zH ?_;refine aE.fg (Fg.lQ (f':=[(0,.ptr 0 0),(2,.ptr 4 0)]) (S':=[.cells [bG,ab 0,ab 0,bG],.gone,.cells [ah nO,.sl 1 1 [ah nW],ab 1],.cells [ah nW,ak false,bG,ah nC,ak true,.buf 2 1 3 (some 1)],.cells [.buf 3 2 3 (some 2)]]) 1 rfl g9 zj ⟨.inr ⟨by decide,.inl rfl⟩,.inl rfl,.inr ⟨by decide,.inr ⟨_,_,rfl,rfl,.cons (.a _) (.cons (.buf rfl (bg.refl rfl) (ad _)) (.cons (.a _) .nil))⟩⟩,.inr ⟨by decide,.inl rfl⟩,.inr ⟨by decide,.inl rfl⟩,trivial⟩) ?_;refine aE.fg (Fg.lQ (f':=[(0,.ptr 0 0),(2,.ptr 4 0)]) (S':=[.cells [bG,ab 0,ab 0,bG],.gone,.gone,.cells [ah nW,ak false,bG,ah nC,ak true,an 3 [US] bF],.cells [.buf 3 2 3 (some 2)]]) 2 rfl g9 zj ⟨.inr ⟨by decide,.inl rfl⟩,.inl rfl,.inl rfl,.inr ⟨by decide,.inr ⟨_,_,rfl,rfl,.cons (.a _) (.cons (.a _) (.cons (.a _) (.cons (.a _) (.cons (.a _) (.cons (.buf rfl (bg.refl rfl) (ad _)) .nil)))))⟩⟩,.inr ⟨by decide,.inl rfl⟩,trivial⟩) ?_;refine aE.fg (Fg.lQ (f':=[(0,.ptr 0 0),(2,.ptr 4 0)]) (S':=[.cells [bG,ab 0,ab 0,bG],.gone,.gone,.gone,.cells [an 3 CG ao]]) 3 rfl g9 zj ⟨.inr ⟨by decide,.inl rfl⟩,.inl rfl,.inl rfl,.inl rfl,.inr ⟨by decide,.inr ⟨_,_,rfl,rfl,.cons (.buf rfl (.cons (.a _) (.cons (.a _) (.cons (.nil 3) (bg.refl rfl)))) (ad _)) .nil⟩⟩,trivial⟩) ?_;refine zZ [(0,.ptr 0 0),(2,.ip [an 3 CG ao])] 4 rfl ⟨.inl rfl,.inr (.ptr rfl (bg.refl rfl) (al _)),trivial⟩<|zA [(0,.ptr 0 0),(2,.ip [an 3 CG ao])] [.cells [bG,ab 0,ab 0,bG]] zH<|(zV) ?_;refine zZ wX 1 rfl ⟨.inl rfl,.inl rfl,.inr (.ptr rfl (bg.refl rfl) (al _)),trivial⟩<|zA wX [.cells [bG,ab 0,ab 0,bG]] zH ?_
 (repeat refine aE.seq ?_)
 refine aE.zu 9 12 (λL=>⟨fX L,22,[io L 8 (.cells sX) (.cells [bG,ab 0,ab 0,bG]),wo L 7 (.cells (HE.flatMap aq))],[]⟩) rfl zW i4 ii zW (Fg.less (by (simp only[dJ,cj,fH,↓reduceIte,ay,an,xD,D8,yz (L:=λ_=>False) (λh=>h)])<;>(repeat' apply bv)<;>first | rfl | trivial) (by (simp only[dJ,cj,or_true,true_or,an,xD,D8,yz (L:=λ_=>False) (λh=>h)])<;>(repeat' apply bv)<;>first | exact .inr rfl | exact .inl rfl | trivial)) (λL=>rfl) ?_ ?_
 ·rintro L i o him hC hr
  rcases i with _ | _ | _ | _ | _ | _ | _ | _ | _ | i
  rotate_right
  ·exact un him i5
  ·cases hr.jw;refine(zR) ?_;exact(bX (cG @bz @fi @lT))
  ·cases hr.jw;refine(zR) ?_;exact(bX (cG @bz @fi @lT))
  ·cases hr.jw;have d0:L 0:=hr.dep ⟨0,.data⟩ gt rfl;have d1:L 1:=hr.dep ⟨1,.data⟩ gt rfl;refine(cJ (bq (iK d0) (iK d1))) ?_;exact(bX (lM @bz @fi @lT (iK d0) (iK d1)))
  ·cases hr.jw;refine(zR) ?_;exact(bX (gm @bz @fi @lT c1))
  ·cases hr.jw;refine(zR) ?_;exact(bX (gm @bz @fi @lT c2))
  ·cases hr.jw;refine(zR) ?_;exact(bX (gm @bz @fi @lT c3))
  ·cases hr.jw;refine(cJ c4) ?_;exact(bX (gm @bz @fi @lT c4))
  ·cases hr.jw;have d3:L 3:=hr.dep ⟨3,.data⟩ gt rfl;have d4:L 4:=hr.dep ⟨4,.data⟩ gt rfl;have d5:L 5:=hr.dep ⟨5,.data⟩ gt rfl;have d6:L 6:=hr.dep ⟨6,.data⟩ gt rfl;have hn:¬L 7:=hr.new;refine aT.r0 i4 (by simp only[dJ,cj,an,aJ,m8,m7,↓reduceIte,ay,ap,b6,bs,b9,ar,az,bT,cz d3,cz d4,cz d5,cz d6,↓lW,PZ,gg hn,cZ,c1,c2,c3,c4];first | done | rfl) ?_;exact((Fg.rn (f':=(21,.buf 1 4 14 (some 4))::Uw L) (n:=22) (S':=[io L 8 (.cells sX) (.cells [bG,ab 0,ab 0,bG]),.cells (HE.flatMap aq)]) [0,2] ii rfl (by (simp only[si,gD,cj,an,y9,BY,Rw,cZ,↓reduceIte,ay,c1,c2,c3,c4,cz d3,cz d4,cz d5,cz d6])<;>(repeat' apply bv)<;>first | trivial | exact .inl rfl | exact .inr rfl | exact .inr trivial | exact .inl trivial) (by (simp only[dJ,gD,cj,an,y9,BY,Rw,cZ,↓reduceIte,ay,c1,c2,c3,c4,cz d3,cz d4,cz d5,cz d6])<;>(repeat' apply bv)<;>first | rfl | trivial))).trans (bX (EG @bz @fi @lT (iK d3) (iK d4) (iK d5) (iK d6)))
  ·cases hr.jw;have d2:L 2:=hr.dep ⟨2,.data⟩ gt rfl;have hn:¬L 8:=hr.new;refine aT.r0 i4 (by simp only[dJ,cj,an,aJ,m8,m7,↓reduceIte,ay,ap,b6,bs,b9,ar,az,bT,cz d2,yz hn];first | done | rfl) ?_;exact(bX (gm @bz @fi @lT (iK d2)))
 have v9:∀i,i<9->∀v:SV,vo (λj=>j<9) i v=v:=λi h v=>cz h;have w9:∀i,i<9->∀v:SO,wo (λj=>j<9) i v=v:=λi h v=>nY h;have i9:∀i,i<9->∀x y:SO,io (λj=>j<9) i x y=x:=λi h x y=>CP h;change aT _ _ _ _ _ _
 exact oA [(21,.buf 1 4 14 (some 4)),(0,.ptr 0 0)] [.cells sX,.cells (HE.flatMap aq)] (bX (cG (v9 7 ii) (w9 7 ii) (i9 8 ii)))<|(zR)<|jW [.cell 0 29,.tmp 1] (r:=.cm [.ag (an 3 CG ao::aC Ni),an 14 HE aq]) (hw:=.cm (.cons (.ag (.cons (.sl _ _ _) (.cons (.a _) (.cons (.a _) (.cons (.nil 3) .nil))))) (.cons (.buf rfl (bg.refl rfl) (ad _)) .nil)))
end Go.Proofs
namespace Go.Ev
noncomputable section
section
variable {P:Program} {ro:Option Nat}
def aT.r1{all l:List Oper}{o:Oper}{ds:List jT}{n d:Nat}{f:Fm}{S S1:List SO}{v:SV}{kill:Option Nat}{K:eI->Prop}(hst:eG all n [o]=true)(hdst:o.dst=some d)(hw:cO all f o.guard=some true)(hop:dH P f S o.op=some (v,S1,kill))
 (hk:aT P ro all l ⟨sg f kill (some d) v,n,S1,ds⟩ K):aT P ro all (o::l) ⟨f,n,S,ds⟩ K:=by
 have hd:=(fz hst).1;rw[hdst] at hd;have hw:=eX hst hw;rintro ρ0 h0 ⟨af,n',hh,ds'⟩ ⟨rfl,rfl,θ,ρ,hR,hF⟩;obtain⟨rv,h',θ',e1,e2,e3,e4⟩:=OI hR hF hop;refine .cons (di hF hw) (.run (B0 hop) (by rw[hdst];exact hd) e1 ?_);intro x hx;rw[t6 hx];refine hk ρ0 h0 _ ⟨rfl,rfl,θ',ρ,e2,?_⟩;rw[hdst];cases rv<;>exact hF.kill e4 (fO hd) e3
end
end
end Go.Ev
namespace Go.Proofs
open Go.Ev
set_option maxRecDepth 100000
abbrev U2:List Nat:=[48,49,50,51,52,53,54,55,56,57,97,98,99,100,101,102]
def xE:aW:=.mk 5 [107,109] [] 100 0 []
def xR:jl:=⟨[114],nW,xE⟩
def xK:pX:=⟨[119],[114],5⟩
def xH:mu:=⟨U2,[99],[0,1],[0]⟩
def TP:dY:=⟨[xR],[],[],[],[],[]⟩
def Ta:dY:=⟨[xR],[],[],[xK],[],[]⟩
def Tb:dY:=⟨[],[],[],[],[],[xH]⟩
abbrev Uy:aD:=⟨1,[119],[114]⟩
abbrev Uz:aD:=⟨6,[99],U2⟩
abbrev UA:aD:=⟨4,[119],[]⟩
def Vg:jc CG Ni TP HE [99] 5=[Uy]:=by kernel_rfl
def Vh:jc CG Ni Ta HE [99] 5=[]:=by kernel_rfl
def Vi:jc CG Ni Tb HE [99] 5=[Uz]:=by kernel_rfl
def Vj:jc CG Ni TP HE [119] 5=[UA]:=by kernel_rfl
def E8{s:List Nat}(h:(decide (s.length<=1000000)&&s.all λb=>decide (b<256))=true):fc s:=by
 simp only[aa,wp,all_eq_true] at h;exact⟨h.1,h.2⟩
def RT:mr CG:=by
 refine⟨by decide,λk hk=>?_,λk hk s hs=>?_⟩
 ·simp only[CG,bk,bd,or_false] at hk
  rcases hk with rfl | rfl<;>exact⟨E8 ii,by decide⟩
 ·simp only[CG,bk,bd,or_false] at hk
  rcases hk with rfl | rfl
  ·cases hs
  ·cases t6 hs;exact⟨E8 ii,by decide⟩
def RU:gE Ni:=.mk ii λk hk=>by cases hk
def RV:∀e∈HE,lK e:=by
 intro e he;simp only[HE,bk,bd,or_false] at he
 rcases he with rfl | rfl | rfl | rfl<;>constructor<;>exact E8 ii
def TE:gp xE:=.mk (E8 ii) (E8 ii) ii λk hk=>by cases hk
def CF{k:List pX}{h:List mu}{r:List jl}(hr:r=[xR]\/r=[])(hk:k.length<=1)(hh:h=[xH]\/h=[]):rZ ⟨r,[],[],k,[],h⟩ where
 fC:=λq hq=>by
  rcases hr with rfl | rfl
  ·cases t6 hq;exact TE
  ·cases hq
 yX:=λq hq=>by cases hq
 PI:=λq hq=>by cases hq
 hold:=λq hq=>by
  rcases hh with rfl | rfl
  ·cases t6 hq;exact⟨by decide,by decide⟩
  ·cases hq
 lr:=by rcases hr with rfl | rfl<;>exact mt rfl
 lc:=Nat.zero_le _
 ld:=Nat.zero_le _
 lh:=by rcases hh with rfl | rfl<;>exact mt rfl
 ls:=Nat.zero_le _
 lx:=Nat.le_trans hk ii
def uo{b:dY}(hb:rZ b)(v:List Nat):PC prog 12 [.ag (an 3 CG ao::aC Ni),.ag (aM b),an 14 HE aq,ah v,ab 5] (·=an 3 (jc CG Ni b HE v 5) aF):=
 Ai CG Ni b HE v 5 hb RT RU ii RV
def OK(a:List aD)(h:a.length<=1000000):PC prog 11 [an 3 a aF,an 3 a aF] (·=ak true):=by
 have:=I7 a a h;rw[wl rfl] at this;exact this
abbrev w1:Fm:=[(0,ak false),(1,.ip [.sl 2 3 (CG.flatMap ao),ab 2,ab 0,.sl 0 3 []]),(2,an 14 HE aq)]
abbrev U8:List SV:=[.sl 1 8 (cC xR),.sl 0 5 [],.sl 0 5 [],.sl 0 3 [],.sl 0 8 [],.sl 0 4 []]
abbrev Uv:List SV:=[.sl 1 8 (cC xR),.sl 0 5 [],.sl 0 5 [],.sl 1 3 (du xK),.sl 0 8 [],.sl 0 4 []]
abbrev U9:List SV:=[.sl 0 8 [],.sl 0 5 [],.sl 0 5 [],.sl 0 3 [],.sl 0 8 [],.sl 1 4 (cB xH)]
abbrev w3:Fm:=(3,.ip U8)::w1
abbrev w4:Fm:=(4,.ip Uv)::w3
abbrev w5:Fm:=(5,.ip U9)::w4
def Gv:PC prog 9 [] (·=ak true):=by
 have h1:=uo (CF (k:=[]) (h:=[]) (.inl rfl) ii (.inr rfl)) [99];rw[show(⟨[xR],[],[],[],[],[]⟩:dY)=TP from rfl,Vg] at h1;have h2:=uo (CF (k:=[xK]) (h:=[]) (.inl rfl) ii (.inr rfl)) [99];rw[show(⟨[xR],[],[],[xK],[],[]⟩:dY)=Ta from rfl,Vh] at h2;have h3:=uo (CF (k:=[]) (h:=[xH]) (.inr rfl) ii (.inl rfl)) [99];rw[show(⟨[],[],[],[],[],[xH]⟩:dY)=Tb from rfl,Vi] at h3;have h4:=uo (CF (k:=[]) (h:=[]) (.inl rfl) ii (.inr rfl)) [119];rw[show(⟨[xR],[],[],[],[],[]⟩:dY)=TP from rfl,Vj] at h4;have s1:=OK [Uy] ii;have s2:=OK [Uz] ii;have s3:=OK [UA] ii
 refine pB 58 Tryz.func9 ?_;refine(jt)<|(zK OS (hfl:=.inr (bg.refl rfl)))<|(cJ (show aC Ni=[ab 2,ab 0,.sl 0 3 []] from rfl)) ?_;refine zZ w1 0 rfl ⟨.inl rfl,.inr (.ptr rfl (bg.refl rfl) (al _)),.inl rfl,trivial⟩<|zA w1 [] zH<|(zV)<|zA ((3,.ptr 1 0)::w1) [.cells [ah [114],ah nW,ab 5,ah [107,109],ah [],ab 100,ab 0,bG],.cells [.buf 0 1 8 (some 1),bG,bG,bG,bG,bG]] zH ?_;refine aE.fg (Fg.lQ (f':=(3,.ptr 1 0)::w1) (S':=[.gone,.cells [.sl 1 8 (cC xR),bG,bG,bG,bG,bG]]) 0 rfl g9 ⟨.inl rfl,zj⟩ ⟨.inl rfl,.inr ⟨by decide,.inr ⟨_,_,rfl,rfl,.cons (.buf rfl (.cons (.a _) (.cons (.a _) (.cons (.a _) (.cons (.a _) (.cons (.a _) (.cons (.a _) (.cons (.a _) (.cons (.nil 6) .nil)))))))) (ad _)) (bg.refl rfl)⟩⟩,trivial⟩) ?_;refine zZ w3 1 rfl ⟨.inr (.ptr rfl (.cons (.sl _ _ _) (.cons (.nil 5) (.cons (.nil 5) (.cons (.nil 3) (.cons (.nil 8) (.cons (.nil 4) .nil)))))) (al _)),zj⟩<|zA w3 [] zH<|(oa)<|zA ((4,.ptr 0 0)::w3) [.cells [.sl 1 8 (cC xR),.sl 0 5 [],.sl 0 5 [],.buf 1 1 3 (some 1),.sl 0 8 [],.sl 0 4 []],.cells [ah [119],ah [114],ab 5]] zH ?_;refine aE.fg (Fg.lQ (f':=(4,.ptr 0 0)::w3) (S':=[.cells Uv,.gone]) 1 rfl g9 ⟨.inl rfl,zj⟩ ⟨.inr ⟨by decide,.inr ⟨_,_,rfl,rfl,.cons (.sl _ _ _) (.cons (.sl _ _ _) (.cons (.sl _ _ _) (.cons (.buf rfl (bg.refl rfl) (ad _)) (.cons (.sl _ _ _) (.cons (.sl _ _ _) .nil)))))⟩⟩,.inl rfl,trivial⟩) ?_;refine zZ w4 0 rfl ⟨.inr (.ptr rfl (bg.refl rfl) (al _)),zj⟩<|zA w4 [] zH ?_
 (repeat refine aE.seq ?_)
 refine aE.region ?_;refine aT.r1 (d:=19) i4 rfl i4 zl ?_;refine oZ ((19,.sl 2 1 [ab 0,ab 1])::w4) 0 rfl ⟨.inr (.buf rfl (bg.refl rfl) (ad _)),zj⟩<|oA ((19,.sl 2 1 [ab 0,ab 1])::w4) [] zH ?_;refine aT.r1 (d:=20) i4 rfl i4 zl ?_;refine oZ ((20,.sl 1 1 [ab 0])::(19,.sl 2 1 [ab 0,ab 1])::w4) 0 rfl ⟨.inr (.buf rfl (bg.refl rfl) (ad _)),zj⟩<|oA ((20,.sl 1 1 [ab 0])::(19,.sl 2 1 [ab 0,ab 1])::w4) [] zH<|(zR)<|zA ((5,.ptr 1 0)::w4) [.cells (cB xH),.cells [bG,bG,bG,bG,bG,.buf 0 1 4 (some 1)]] zH ?_;refine aE.fg (Fg.lQ (f':=(5,.ptr 1 0)::w4) (S':=[.gone,.cells [bG,bG,bG,bG,bG,.sl 1 4 (cB xH)]]) 0 rfl g9 ⟨.inl rfl,zj⟩ ⟨.inl rfl,.inr ⟨by decide,.inr ⟨_,_,rfl,rfl,.cons (.a _) (.cons (.a _) (.cons (.a _) (.cons (.a _) (.cons (.a _) (.cons (.buf rfl (bg.refl rfl) (ad _)) .nil)))))⟩⟩,trivial⟩) ?_;exact zZ w5 1 rfl ⟨.inr (.ptr rfl (.cons (.nil 8) (.cons (.nil 5) (.cons (.nil 5) (.cons (.nil 3) (.cons (.nil 8) (.cons (.sl _ _ _) .nil)))))) (al _)),zj⟩<|zA w5 [] zH<|(zC)<|(zK h1 (hwk:=bg.refl rfl) (hfl:=.inr (bg.refl rfl)))<|(zQ)<|(zK s1 (hwk:=.cons (.sl _ _ _) (.cons (.buf rfl (bg.refl rfl) (ad _)) .nil)))<|(zQ)<|(zK h2 (hwk:=bg.refl rfl) (hfl:=.inr (bg.refl rfl)))<|(zR)<|zA ((6,ak true)::w5) [] zH<|(zC)<|(zK h3 (hwk:=bg.refl rfl) (hfl:=.inr (bg.refl rfl)))<|(zQ)<|(zK s2 (hwk:=.cons (.sl _ _ _) (.cons (.buf rfl (bg.refl rfl) (ad _)) .nil)))<|(zQ)<|(zK h4 (hwk:=bg.refl rfl) (hfl:=.inr (bg.refl rfl)))<|(zQ)<|(zK s3 (hwk:=.cons (.sl _ _ _) (.cons (.buf rfl (bg.refl rfl) (ad _)) .nil)))<|(zR)<|zo [.tmp 0]
structure Mm (c:List aL) (dmg:bx) (l:List bu):Prop where
 Ux:kE dmg
 cat:∀k∈c,(∀b∈k.name,b<256)/\∀s∈k.bJ,∀b∈s.name,b<256
 len:l.length<=rY
 ev:∀e∈l,T1 e
def Nn(c:List aL)(dmg:bx)(b:dY)(l:List bu)(v:List Nat):Bool:=No c dmg l&&(Proofs.Bo b&&decide ((v.length:Int)<=300))
def lX{s:List Nat}(h:jR s=true)(hb:∀x∈s,x<256):fc s:=by
 unfold jR at h;simp only[ax,wn] at h;exact⟨by omega,hb⟩
def Nl{b:dY}(h:Bo b=true)(hb:qQ b):rZ b/\(b.rules.length<=5/\b.cI.length<=5/\b.ec.length<=5)/\b.holds.length<=5/\b.fE.length<=5/\b.nL.length<=5:=by
 unfold Bo se at h;simp only[aa,ax,wn,wp,all_eq_true] at h;obtain⟨⟨h1,h2,h3,h4,⟨h5,h6⟩,h7,h8⟩,h9,h10,h11,h12⟩:=h;refine⟨⟨λr hr=>?_,λr hr=>?_,λd hd=>?_,λx hx=>?_,by omega,by omega,by omega,by omega,by omega,by omega⟩,⟨by omega,by omega,by omega⟩,by omega,by omega,by omega⟩
 ·have:=h6 r hr;unfold yf at this;rw[aa] at this;exact JI this.2 (hb.fC r hr).2
 ·have:=h8 r hr;unfold yf at this;rw[aa] at this;exact JI this.2 (hb.yX r hr).2
 ·have:=h10 d hd;unfold xg at this;simp only[b8,List.all_nil,aa] at this;obtain⟨k1,k2,k3⟩:=hb.PI d hd;exact⟨lX this.1 k1,lX this.2.1 k2,lX this.2.2.1 k3⟩
 ·have:=h12 x hx;unfold kF at this;simp only[aa,ax,wn] at this;exact⟨by omega,by omega⟩
structure U4 (c:List aL) (dmg:bx) (b:dY) (l:List bu):Prop where
 cat:mr c
 Ux:gE dmg
 book:rZ b
 len:l.length<=16
 ev:∀e∈l,lK e
 Vq:(b.rules.length<=5/\b.cI.length<=5/\b.ec.length<=5)/\b.holds.length<=5/\b.fE.length<=5/\b.nL.length<=5
def PN{c:List aL}{dmg:bx}{b:dY}{l:List bu}{v:List Nat}(h:Nn c dmg b l v=true)(ha:Mm c dmg l)(hb:qQ b):U4 c dmg b l:=by
 unfold Nn at h;rw[aa,aa] at h;obtain⟨h1,h2,_⟩:=h;obtain⟨k1,k2⟩:=Nl h2 hb;unfold No at h1;simp only[aa,ax,wn,all_eq_true] at h1;obtain⟨⟨g1,g2,g3⟩,g4⟩:=h1;refine⟨Nk g2 ha.cat,Nj g3,k1,by omega,λe he=>?_,k2⟩;have:=g4 e he;unfold pP at this;simp only[aa] at this;obtain⟨q1,q2,q3,q4,q5,q6⟩:=this;have hb:=ha.ev e he;exact⟨lX q1 hb.part,lX q2 hb.kind,lX q3 hb.aR,lX q4 hb.slot,lX q5 hb.key,lX q6 hb.value⟩
def IH(c:List aL)(dmg:bx)(b:dY)(l:List bu)(v:List Nat)(ha:Mm c dmg l)(hb:qQ b):PC prog 10 [.ag (an 3 c ao::aC dmg),.ag (aM b),an 14 l aq,ah v] (·=ak (Nn c dmg b l v)):=by
 have hfl:(aC dmg).length=3:=eS dmg;have hft:(aC dmg).take 3=aC dmg:=aS (by rw[hfl];exact ad _);have hfk:=λo:Nat=>bR (o:=o) (aV dmg);have hfn:=λo:Nat=>bV (o:=o) (aV dmg);have h12:=Gt c dmg l ha.Ux ha.len;have h28:=IG b hb;unfold Nn;generalize No c dmg l=g1 at h12 ⊢;generalize Proofs.Bo b=g2 at h28 ⊢
 refine pB 21 Tryz.func10 ?_;refine(aw (cG hfk hfn @aM.eq_1)) ?_;refine zZ [(2,an 14 l aq),(3,ah v),(4,.ip (an 3 c ao::aC dmg)),(5,.ptr 1 0)] 0 rfl ⟨.inl rfl,.inl rfl,.inr (.ptr rfl (bg.refl (aV dmg)) (al _)),.inl rfl,trivial⟩<|zZ [(2,an 14 l aq),(3,ah v),(4,.ip (an 3 c ao::aC dmg)),(5,.ip (aM b))] 1 rfl (gu (bq @an.eq_1 @aM.eq_1))<|zA [(2,an 14 l aq),(3,ah v),(4,.ip (an 3 c ao::aC dmg)),(5,.ip (aM b))] [] zH<|(fb (bq hfl hft))<|(zK h12 (hwk:=.cons (.ag (bg.refl (aV dmg))) (bg.refl rfl))) ?_
 cases g1
 ·exact(zR)<|zo [.tmp 8]
 refine(Mk @aM.eq_1)<|(zK h28) ?_
 cases g2
 ·exact(zR)<|zo [.tmp 8]
 cases g3:decide ((v.length:Int)<=300)
 ·exact(cJ g3)<|zo [.tmp 8]
 ·exact(cJ g3)<|zo [.tmp 8]
def nN:Nat->Ty
 | 0=>.no 6
 | 1=>.st [.no 1,.no 1,.no 1,.no 1,.no 1,.no 1]
 | j+2=>.st [i6,.str,.str,i6,i6,.sl (nN j)]
def jn:∀j,(nN j).size=6
 | 0=>rfl
 | 1=>rfl
 | j+2=>rfl
def pI(j:Nat):List Ty:=[.str,.str,nN j]
def Kx:List Ty:=[.str,.str,.str,.str,i6]
def CC:List Ty:=[.str,.str,.str,i6,i6]
def CB:List Ty:=[.str,.str,i6]
def CK:List Ty:=[.str,.str,.sl i6,.sl i6]
def Hq(j:Nat):List Ty:=[.sl (.st (pI j)),.sl (.st Kx),.sl (.st CC),.sl (.st CB),.sl (.st (pI j)),.sl (.st CK)]
section
variable {B:Nat} {ds:List DV}
def JG(hB:B<=rY):∀(j:Nat) {ds:List DV},kr B (nN j) ds->∃e:aW,eJ ds=aX e/\eO e
 | 0,ds,h=>by
  rw[nN,kr] at h;exact h.elim
 | 1,ds,h=>by
  rw[nN,kr,dT] at h;obtain⟨_,_,_,h,_⟩:=h;rw[kr] at h;exact h.elim
 | j+2,ds,h=>by
  rw[nN,kr] at h;obtain⟨a1,r,rfl,_,hk⟩:=dB h;obtain⟨s1,r,rfl,b1,_,hk⟩:=cU hk;obtain⟨s2,r,rfl,b2,_,hk⟩:=cU hk;obtain⟨a2,r,rfl,_,hk⟩:=dB hk;obtain⟨a3,r,rfl,_,hk⟩:=dB hk;obtain⟨nl,rows,r,rfl,hl,hr,hk⟩:=iy hk;have:=gS hk;subst this;obtain⟨xs,h1,h2,h3⟩:=mP aX eO λr hrr=>JG hB j (hr r hrr);refine⟨.mk a1 s1 s2 a2 a3 xs,?_,.mk b1 b2 i5 h3⟩;rw[gK,jn];simp only[eJ,EP,nj h1 h2,h2,h1]
def Kt(hB:B<=rY){j:Nat}(hk:dT B (pI j) ds):∃r:jl,eJ ds=cC r/\((r.name.length<=rY/\r.kind.length<=rY)/\eO r.cond):=by
 unfold pI at hk;obtain⟨s1,r,rfl,b1,l1,hk⟩:=cU hk;obtain⟨s2,r,rfl,b2,l2,hk⟩:=cU hk;rw[dT] at hk;obtain⟨d1,d2,rfl,h1,h2⟩:=hk;rw[dT] at h2;subst h2;obtain⟨e,h3,h4⟩:=JG hB j h1;exact⟨⟨s1,s2,e⟩,by simp only[eJ,EP,bO,h3,cC],⟨by show s1.length<=rY;omega,by show s2.length<=rY;omega⟩,h4⟩
def Ss(hk:dT B Kx ds):∃s:wy,eJ ds=eB s/\True:=by
 unfold Kx at hk;obtain⟨s1,r,rfl,b1,l1,hk⟩:=cU hk;obtain⟨s2,r,rfl,b2,l2,hk⟩:=cU hk;obtain⟨s3,r,rfl,b3,l3,hk⟩:=cU hk;obtain⟨s4,r,rfl,b4,l4,hk⟩:=cU hk;obtain⟨a1,r,rfl,_,hk⟩:=dB hk;have:=gS hk;subst this;exact⟨⟨s1,s2,s3,s4,a1⟩,by simp only[eJ,EP,eB],trivial⟩
def PJ(hk:dT B CC ds):∃d:dZ,eJ ds=bj d/\((∀x∈d.name,x<256)/\(∀x∈d.kind,x<256)/\∀x∈d.key,x<256):=by
 unfold CC at hk;obtain⟨s1,r,rfl,b1,l1,hk⟩:=cU hk;obtain⟨s2,r,rfl,b2,l2,hk⟩:=cU hk;obtain⟨s3,r,rfl,b3,l3,hk⟩:=cU hk;obtain⟨a1,r,rfl,_,hk⟩:=dB hk;obtain⟨a2,r,rfl,_,hk⟩:=dB hk;have:=gS hk;subst this;exact⟨⟨s1,s2,s3,a1,a2⟩,by simp only[eJ,EP,bj],b1,b2,b3⟩
def PB(hk:dT B CB ds):∃d:pX,eJ ds=du d/\True:=by
 unfold CB at hk;obtain⟨s1,r,rfl,b1,l1,hk⟩:=cU hk;obtain⟨s2,r,rfl,b2,l2,hk⟩:=cU hk;obtain⟨a1,r,rfl,_,hk⟩:=dB hk;have:=gS hk;subst this;exact⟨⟨s1,s2,a1⟩,by simp only[eJ,EP,du],trivial⟩
def NC(hk:kr B i6 ds):∃n:Int,eJ ds=aB ab n/\True:=by
 have h:dT B [i6] (ds++[]):=by rw[dT];exact⟨ds,[],rfl,hk,by rw[dT]⟩
 rw[bO] at h;obtain⟨n,r,rfl,_,hk⟩:=dB h;have:=gS hk;subst this;exact⟨n,by simp only[eJ,EP,aB],trivial⟩
def PT(hk:dT B CK ds):∃h:mu,eJ ds=cB h/\True:=by
 unfold CK at hk;obtain⟨s1,r,rfl,b1,l1,hk⟩:=cU hk;obtain⟨s2,r,rfl,b2,l2,hk⟩:=cU hk;obtain⟨n1,rows1,r,rfl,_,hr1,hk⟩:=iy hk;obtain⟨n2,rows2,r,rfl,_,hr2,hk⟩:=iy hk;have:=gS hk;subst this;obtain⟨xs,h1,h2,_⟩:=mP (aB ab) (λ_=>True) λr hrr=>NC (hr1 r hrr);obtain⟨ys,h3,h4,_⟩:=mP (aB ab) (λ_=>True) λr hrr=>NC (hr2 r hrr);exact⟨⟨s1,s2,xs,ys⟩,by simp only[eJ,nj h1 h2,nj h3 h4,cB];rfl,trivial⟩
def Pt(hB:B<=rY){j:Nat}(hk:dT B (Hq j) ds):∃b:dY,eJ ds=aM b/\qQ b:=by
 unfold Hq at hk;obtain⟨n1,r1,r,rfl,l1,k1,hk⟩:=iy hk;obtain⟨n2,r2,r,rfl,l2,k2,hk⟩:=iy hk;obtain⟨n3,r3,r,rfl,l3,k3,hk⟩:=iy hk;obtain⟨n4,r4,r,rfl,l4,k4,hk⟩:=iy hk;obtain⟨n5,r5,r,rfl,l5,k5,hk⟩:=iy hk;obtain⟨n6,r6,r,rfl,l6,k6,hk⟩:=iy hk;have:=gS hk;subst this;obtain⟨x1,a1,c1,d1⟩:=mP cC (λr=>(r.name.length<=rY/\r.kind.length<=rY)/\eO r.cond) λr hrr=>Kt hB (by have:=k1 r hrr;rw[kr] at this;exact this);obtain⟨x2,a2,c2,d2⟩:=mP eB (λ_=>True) λr hrr=>Ss (by have:=k2 r hrr;rw[kr] at this;exact this);obtain⟨x3,a3,c3,d3⟩:=mP bj (λd=>(∀x∈d.name,x<256)/\(∀x∈d.kind,x<256)/\∀x∈d.key,x<256) λr hrr=>PJ (by have:=k3 r hrr;rw[kr] at this;exact this);obtain⟨x4,a4,c4,d4⟩:=mP du (λ_=>True) λr hrr=>PB (by have:=k4 r hrr;rw[kr] at this;exact this);obtain⟨x5,a5,c5,d5⟩:=mP cC (λr=>(r.name.length<=rY/\r.kind.length<=rY)/\eO r.cond) λr hrr=>Kt hB (by have:=k5 r hrr;rw[kr] at this;exact this);obtain⟨x6,a6,c6,d6⟩:=mP cB (λ_=>True) λr hrr=>PT (by have:=k6 r hrr;rw[kr] at this;exact this);refine⟨⟨x1,x2,x3,x4,x5,x6⟩,?_,⟨d1,d5,d3,by show x1.length<=rY;omega,by show x5.length<=rY;omega⟩⟩;simp only[eJ,nj a1 c1,nj a2 c2,nj a3 c3,nj a4 c4,nj a5 c5,nj a6 c6,aM,Ty.size,Ty.oN,pI,jn];rfl
end
end Go.Proofs
namespace Go.Proofs.YtjiejanfnnieaaaGreat
open Go.Proofs Go.Ev Go.ChangeShapes Go.WideShapes Go.ChangeAt Go.RowKit
set_option maxRecDepth 100000
def Ue:ownKnob prog.godebug=none:=by kernel_rfl
def Of:laidOutB prog=true:=by kernel_rfl
def Sx{α:Type}:∀{l:List α},l.length=2->∃a b,l=[a,b]
 | [a,b],_=>⟨a,b,rfl⟩
def ON{α:Type}:∀{l:List α},l.length=3->∃a b c,l=[a,b,c]
 | [a,b,c],_=>⟨a,b,c,rfl⟩
def O3:∀k,gf prog k 27=some (oq k)
 | 0=>by kernel_rfl
 | 1=>by kernel_rfl
 | k+2=>by
  have ih:=O3 k
  have h1:gf prog (k+1) 25=some (.sl (oq k)):=by
   unfold gf;rw[show prog.underlying 25=some (.slice 27) by kernel_rfl];simp only;rw[ih,m8,sh,show(beq (prog.cellsOf 27) 3&&(ble 1 3&&ble 1 (prog.bytesOf 27)))=true by kernel_rfl];rfl
  have h2:gf prog (k+1) 3=some i6:=by kernel_rfl
  obtain⟨fs,hu,hfs⟩:∃fs,prog.underlying 27=some (.struct fs)/\fs.toList.map (λf=>(f.type,f.offset))=[(3,0),(3,1),(25,2)]:=by
   have q:(prog.underlying 27).bind (λu=>match u with | .struct fs=>some (fs.toList.map (λf=>(f.type,f.offset))) | _=>none)=some [(3,0),(3,1),(25,2)]:=by kernel_rfl
   obtain⟨u,e1,e2⟩:=ul q
   cases u<;>first | (cases e2;done) | exact⟨_,e1,Option.some.inj e2⟩
  unfold gf;rw[hu];simp only;generalize fs.toList=l at hfs;obtain⟨a,b,c,rfl⟩:=ON (by have:=rg bi hfs;rwa [am] at this)
  ·simp only[aU,bc,m6,m9,and_true] at hfs;obtain⟨⟨a1,a2⟩,⟨b1,b2⟩,c1,c2⟩:=hfs
   have n1:prog.cellsOf 3=1:=by kernel_rfl
   have n2:prog.cellsOf 25=1:=by kernel_rfl
   have n3:prog.cellsOf 27=3:=by kernel_rfl
   simp only[gk,a1,a2,b1,b2,c1,c2,h1,h2,n1,n2,n3,m8,m7,Ty.size,Ty.oN,a8,cond_true,ba,ap,oq]
def O5(j:Nat):gf prog (j+12) 29=some (.st [.st [.sl (.st u9)],oq (j+11)]):=by
 obtain⟨fs,hu,hfs⟩:∃fs,prog.underlying 29=some (.struct fs)/\fs.toList.map (λf=>(f.type,f.offset))=[(24,0),(27,1)]:=by
  have q:(prog.underlying 29).bind (λu=>match u with | .struct fs=>some (fs.toList.map (λf=>(f.type,f.offset))) | _=>none)=some [(24,0),(27,1)]:=by kernel_rfl
  obtain⟨u,e1,e2⟩:=ul q
  cases u<;>first | (cases e2;done) | exact⟨_,e1,Option.some.inj e2⟩
 have h1:gf prog (j+11) 24=some (.st [.sl (.st u9)]):=by kernel_rfl
 have h2:=O3 (j+11);unfold gf;rw[hu];simp only;generalize fs.toList=l at hfs;obtain⟨a,b,rfl⟩:=Sx (by have:=rg bi hfs;rwa [am] at this)
 ·simp only[aU,bc,m6,m9,and_true] at hfs;obtain⟨⟨a1,a2⟩,b1,b2⟩:=hfs
  have n1:prog.cellsOf 24=1:=by kernel_rfl
  have n2:prog.cellsOf 27=3:=by kernel_rfl
  have n3:prog.cellsOf 29=4:=by kernel_rfl
  have h2:gf prog (j+11) 27=some (oq (j+11)):=h2;simp only[gk,a1,a2,b1,b2,h1,h2,n1,n2,n3,m8,m7,Ty.size,Ty.oN,sh,a8,cond_true,ba,ap]
def P1{α:Type}:∀{l:List α},l.length=3->∃a b c,l=[a,b,c]
 | [a,b,c],_=>⟨a,b,c,rfl⟩
def JV{α:Type}:∀{l:List α},l.length=6->∃a b c d e f,l=[a,b,c,d,e,f]
 | [a,b,c,d,e,f],_=>⟨a,b,c,d,e,f,rfl⟩
def KB:∀k,gf prog k 71=some (nN k)
 | 0=>by kernel_rfl
 | 1=>by kernel_rfl
 | k+2=>by
  have ih:=KB k
  have h5:gf prog (k+1) 69=some (.sl (nN k)):=by
   unfold gf;rw[show prog.underlying 69=some (.slice 71) by kernel_rfl];simp only;rw[ih,m8,jn,show(beq (prog.cellsOf 71) 6&&(ble 1 6&&ble 1 (prog.bytesOf 71)))=true by kernel_rfl];rfl
  have h0:gf prog (k+1) 3=some i6:=by kernel_rfl
  have h1:gf prog (k+1) 9=some .str:=by kernel_rfl
  have h2:=h1;have h3:=h0;have h4:=h0
  obtain⟨fs,hu,hfs⟩:∃fs,prog.underlying 71=some (.struct fs)/\fs.toList.map (λf=>(f.type,f.offset))=[(3,0),(9,1),(9,2),(3,3),(3,4),(69,5)]:=by
   have q:(prog.underlying 71).bind (λu=>match u with | .struct fs=>some (fs.toList.map (λf=>(f.type,f.offset))) | _=>none)=some [(3,0),(9,1),(9,2),(3,3),(3,4),(69,5)]:=by kernel_rfl
   obtain⟨u,e1,e2⟩:=ul q
   cases u<;>first | (cases e2;done) | exact⟨_,e1,Option.some.inj e2⟩
  unfold gf;rw[hu];simp only;generalize fs.toList=l at hfs;obtain⟨x0,x1,x2,x3,x4,x5,rfl⟩:=JV (by have:=rg bi hfs;rwa [am] at this);simp only[aU,bc,m6,m9,and_true] at hfs;obtain⟨⟨a0,b0⟩,⟨a1,b1⟩,⟨a2,b2⟩,⟨a3,b3⟩,⟨a4,b4⟩,a5,b5⟩:=hfs
  have n0:prog.cellsOf 3=1:=by kernel_rfl
  have n1:prog.cellsOf 9=1:=by kernel_rfl
  have n2:prog.cellsOf 9=1:=by kernel_rfl
  have n3:prog.cellsOf 3=1:=by kernel_rfl
  have n4:prog.cellsOf 3=1:=by kernel_rfl
  have n5:prog.cellsOf 69=1:=by kernel_rfl
  have nn:prog.cellsOf 71=6:=by kernel_rfl
  simp only[gk,a0,b0,a1,b1,a2,b2,a3,b3,a4,b4,a5,b5,h0,h1,h2,h3,h4,h5,n0,n1,n2,n3,n4,n5,nn,m8,m7,Ty.size,Ty.oN,nN,a8,cond_true,ba,ap]
  skip
def QU(j:Nat):gf prog (j+10) 73=some (.st (pI (j+9))):=by
 obtain⟨fs,hu,hfs⟩:∃fs,prog.underlying 73=some (.struct fs)/\fs.toList.map (λf=>(f.type,f.offset))=[(9,0),(9,1),(71,2)]:=by
  have q:(prog.underlying 73).bind (λu=>match u with | .struct fs=>some (fs.toList.map (λf=>(f.type,f.offset))) | _=>none)=some [(9,0),(9,1),(71,2)]:=by kernel_rfl
  obtain⟨u,e1,e2⟩:=ul q
  cases u<;>first | (cases e2;done) | exact⟨_,e1,Option.some.inj e2⟩
 have h0:gf prog (j+9) 9=some .str:=by kernel_rfl
 have h1:=h0;have h2:=KB (j+9);unfold gf;rw[hu];simp only;generalize fs.toList=l at hfs;obtain⟨x0,x1,x2,rfl⟩:=P1 (by have:=rg bi hfs;rwa [am] at this);simp only[aU,bc,m6,m9,and_true] at hfs;obtain⟨⟨a0,b0⟩,⟨a1,b1⟩,a2,b2⟩:=hfs
 have n0:prog.cellsOf 9=1:=by kernel_rfl
 have n1:prog.cellsOf 9=1:=by kernel_rfl
 have n2:prog.cellsOf 71=6:=by kernel_rfl
 have nn:prog.cellsOf 73=8:=by kernel_rfl
 simp only[gk,a0,b0,a1,b1,a2,b2,h0,h1,h2,n0,n1,n2,nn,m8,m7,Ty.size,Ty.oN,jn,a8,cond_true,ba,ap]
 try rfl
def O4(j:Nat):gf prog (j+11) 30=some (.sl (.st (pI (j+9)))):=by
 have ih:=QU j;unfold gf;rw[show prog.underlying 30=some (.slice 73) by kernel_rfl];simp only;rw[ih,m8,show(Ty.st (pI (j+9))).size=8 by unfold pI;simp only[Ty.size,Ty.oN,jn],show(beq (prog.cellsOf 73) 8&&(ble 1 8&&ble 1 (prog.bytesOf 73)))=true by kernel_rfl];rfl
def QT(j:Nat):gf prog (j+12) 36=some (.st (Hq (j+9))):=by
 obtain⟨fs,hu,hfs⟩:∃fs,prog.underlying 36=some (.struct fs)/\fs.toList.map (λf=>(f.type,f.offset))=[(30,0),(31,1),(32,2),(33,3),(30,4),(34,5)]:=by
  have q:(prog.underlying 36).bind (λu=>match u with | .struct fs=>some (fs.toList.map (λf=>(f.type,f.offset))) | _=>none)=some [(30,0),(31,1),(32,2),(33,3),(30,4),(34,5)]:=by kernel_rfl
  obtain⟨u,e1,e2⟩:=ul q
  cases u<;>first | (cases e2;done) | exact⟨_,e1,Option.some.inj e2⟩
 have h0:=O4 j
 have h1:gf prog (j+11) 31=some (.sl (.st Kx)):=by kernel_rfl
 have h2:gf prog (j+11) 32=some (.sl (.st CC)):=by kernel_rfl
 have h3:gf prog (j+11) 33=some (.sl (.st CB)):=by kernel_rfl
 have h4:=h0
 have h5:gf prog (j+11) 34=some (.sl (.st CK)):=by kernel_rfl
 unfold gf;rw[hu];simp only;generalize fs.toList=l at hfs;obtain⟨x0,x1,x2,x3,x4,x5,rfl⟩:=JV (by have:=rg bi hfs;rwa [am] at this);simp only[aU,bc,m6,m9,and_true] at hfs;obtain⟨⟨a0,b0⟩,⟨a1,b1⟩,⟨a2,b2⟩,⟨a3,b3⟩,⟨a4,b4⟩,a5,b5⟩:=hfs
 have n0:prog.cellsOf 30=1:=by kernel_rfl
 have n1:prog.cellsOf 31=1:=by kernel_rfl
 have n2:prog.cellsOf 32=1:=by kernel_rfl
 have n3:prog.cellsOf 33=1:=by kernel_rfl
 have n4:prog.cellsOf 30=1:=by kernel_rfl
 have n5:prog.cellsOf 34=1:=by kernel_rfl
 have nn:prog.cellsOf 36=6:=by kernel_rfl
 simp only[gk,a0,b0,a1,b1,a2,b2,a3,b3,a4,b4,a5,b5,h0,h1,h2,h3,h4,h5,n0,n1,n2,n3,n4,n5,nn,m8,m7,Ty.size,Ty.oN,jn,a8,cond_true,ba,ap]
 try rfl
def Sy(j:Nat):gf Tryz.prog (j+12) 37=some (.sl (.st K5)):=by kernel_rfl
def Up(j:Nat):gf Tryz.prog (j+12) 9=some .str:=by kernel_rfl
def Uo(j:Nat):gf Tryz.prog (j+12) 3=some i6:=by kernel_rfl
def Ii:reachBytes<=rY:=by decide
def QM{B:Nat}{y:DV}(h:TU B .str y):∃s:List Nat,y=.fl (.str s)/\∀b∈s,b<256:=by
 have h:kr B .str [y]:=h;rw[kr] at h;obtain⟨s,e,w,_⟩:=h;simp only[m6,and_true] at e;exact⟨s,e,w⟩
def PV{B:Nat}{y:DV}(h:TU B i6 y):∃n:Int,y=.fl (.int .i64 n):=by
 have h:kr B i6 [y]:=h;rw[kr] at h;obtain⟨n,e,_⟩:=h;simp only[m6,and_true] at e;exact⟨n,e⟩
section
variable {H:Type} {enc:TypeId×Value->H} {P:Program} {w:World} {base:Nat} {spare:Nat->Bool} {held:Bool}
def Iw{t0 t1 t2 t3 t4:TypeId}{args:Array Value}{ds:List (DataW H)}{ps:List MemPlace}(h:DataW.TrodAll enc P w base spare held [t0,t1,t2,t3,t4] args.toList ds ps):
 ∃v0 v1 v2 v3 v4 d0 d1 d2 d3 d4 p0 p1 p2 p3 p4,args=#[v0,v1,v2,v3,v4]/\ds=[d0,d1,d2,d3,d4]/\ps=p0++p1++p2++p3++p4/\DataW.Trod enc P w base spare held t0 v0 d0 p0/\DataW.Trod enc P w base spare held t1 v1 d1 p1/\DataW.Trod enc P w base spare held t2 v2 d2 p2/\DataW.Trod enc P w base spare held t3 v3 d3 p3/\DataW.Trod enc P w base spare held t4 v4 d4 p4:=by
 obtain⟨v0,_,d0,_,p0,_,hargs,rfl,rfl,e0,h⟩:=trodAll_cons h;obtain⟨v1,_,d1,_,p1,_,rfl,rfl,rfl,e1,h⟩:=trodAll_cons h;obtain⟨v2,_,d2,_,p2,_,rfl,rfl,rfl,e2,h⟩:=trodAll_cons h;obtain⟨v3,_,d3,_,p3,_,rfl,rfl,rfl,e3,h⟩:=trodAll_cons h;obtain⟨v4,_,d4,_,p4,_,rfl,rfl,rfl,e4,h⟩:=trodAll_cons h;obtain⟨rfl,rfl,rfl⟩:=trodAll_nil h;exact⟨v0,v1,v2,v3,v4,d0,d1,d2,d3,d4,p0,p1,p2,p3,p4,by cases args;simp_all,rfl,by simp,e0,e1,e2,e3,e4⟩
def Iv{t0 t1 t2 t3 t4:TypeId}{v0 v1 v2 v3 v4:Value}{d0 d1 d2 d3 d4:DataW H}{p0 p1 p2 p3 p4:List MemPlace}(h0:DataW.Trod enc P w base spare held t0 v0 d0 p0)(h1:DataW.Trod enc P w base spare held t1 v1 d1 p1)(h2:DataW.Trod enc P w base spare held t2 v2 d2 p2)(h3:DataW.Trod enc P w base spare held t3 v3 d3 p3)(h4:DataW.Trod enc P w base spare held t4 v4 d4 p4):DataW.TrodAll enc P w base spare held [t0,t1,t2,t3,t4] [v0,v1,v2,v3,v4] [d0,d1,d2,d3,d4] (p0++(p1++(p2++(p3++(p4))))):=⟨p0,p1++(p2++(p3++(p4))),h0,⟨p1,p2++(p3++(p4)),h1,⟨p2,p3++(p4),h2,⟨p3,p4,h3,trodAll_mk1 h4,rfl⟩,rfl⟩,rfl⟩,rfl⟩
end
end Go.Proofs.YtjiejanfnnieaaaGreat
namespace Go.Proofs
open Go.Ev
set_option maxRecDepth 100000
def Dh{c:List aL}{dmg:bx}:∀(l:List bu) (i:Nat) (s:List ai),(kW c dmg i l s).2.2=(JJ true c dmg l s).2
 | [],_,_=>rfl
 | e::r,i,s=>by
  rw[kW,JJ];split
  ·split
   ·rename_i h;rw[ut ⟨rfl,h⟩];exact Dh r _ _
   ·rename_i h;rw[v6 λk=>h k.2];exact Dh r _ _
  ·rfl
def Jj{c:List aL}(hc:og c=true):dF c []=true:=by unfold dF;rw[hc];rfl
def LI{c:List aL}{dmg:bx}{l:List bu}{day:Int}(hl:l.length<=20000)(h0:(runN c dmg l day).2.2=0):dF c (runN c dmg l day).1=true:=by
 have key:∀(l:List bu) (s:List ai),dF c s=true->s.length+l.length<=20000->(JJ true c dmg l s).2=0->dF c (JJ true c dmg l s).1=true:=by
  intro l
  induction l with
  | nil=>exact λs h _ _=>h
  | cons e l ih=>
   intro s hs hl h;rw[jp] at hl;rw[JJ] at h ⊢;split at h
   ·rename_i k;obtain⟨n1,n2⟩:=P7 (u:=true) (dmg:=dmg) i5 k;rw[ut k];exact ih _ n1 i5 h
   ·rename_i k;exact un h k
 unfold runN at h0 ⊢;split at h0;rotate_left
 ·exact un h0 ii
 rename_i hv;rw[ut hv,Ip];rw[Dh] at h0;rw[aa] at hv;have:=xw l (eN day);exact key _ _ (Jj hv.1) (by rw[i7];omega) h0
def NX(L:List aD):(tD L).length<=L.length:=by
 unfold tD;rw[am];have:=yw L [];simpa using this
def HG{c:List aL}{dmg:bx}{b:dY}{l:List bu}{vehicle:List Nat}{day:Int}(hb:rZ b)(hl:l.length<20)(hle:∀e∈l,lK e):(jc c dmg b l vehicle day).length<=10000:=by
 have hpl:(runN c dmg l day).1.length<=20:=a9 (vp hle) i5;unfold jc;split
 ·exact mt rfl
 ·rename_i v _;split
  ·exact mt rfl
  ·rw[(fJ _).length_eq];refine a9 (NX _) ?_;unfold sf;have hil:=ke (runN c dmg l day).1 vehicle;generalize ea (runN c dmg l day).1 vehicle=I at hil;rw[md,md,am,List.length_flatMap];have q1:=xb c b l (runN c dmg l day).1 day v;have q2:=List.length_filter_le (λh:mu=>decide (h.vehicle=vehicle)&&AN h) b.holds;have h1:=hb.lr;have h2:=hb.lc;have h3:=hb.ld;have h4:=hb.lh
   have q3:∀J:List (List Nat),(J.map λn=>(od c b l (runN c dmg l day).1 day (dq (runN c dmg l day).1 n)).length).sum<=J.length*301:=by
    intro J
    induction J with
    | nil=>exact ad _
    | cons n J ih=>
     have q:=xb c b l (runN c dmg l day).1 day (dq (runN c dmg l day).1 n);rw[aU,List.sum_cons,jp];omega
   have:=q3 I;omega
def Aq(b:Bool):Ha b (.a lH)=some false:=rfl
abbrev aI(c:List aL)(dmg:bx)(b:dY)(l:List bu)(vehicle:List Nat)(day:Int):Fm:=[(2,an 14 l aq),(3,ah vehicle),(4,ab day),(5,.ip (an 3 c ao::aC dmg)),(6,.ip (aM b))]
def GU(c:List aL)(dmg:bx)(b:dY)(l:List bu)(vehicle:List Nat)(day:Int)(ha:Mm c dmg l)(hb:qQ b):
 PC prog 4 [.ag (an 3 c ao::aC dmg),.ag (aM b),an 14 l aq,ah vehicle,ab day] (·=ak true):=by
 have hfl:(aC dmg).length=3:=eS dmg;have hft:(aC dmg).take 3=aC dmg:=aS (by rw[hfl];exact ad _);have hfk:=λo:Nat=>bR (o:=o) (aV dmg);have hfn:=λo:Nat=>bV (o:=o) (aV dmg);have hfew:=IH c dmg b l vehicle ha hb;have hok:=PN (c:=c) (dmg:=dmg) (b:=b) (l:=l) (v:=vehicle);generalize Nn c dmg b l vehicle=g at hfew hok
 refine pB 172 func4 ?_;refine(aw (cG hfk hfn @aM.eq_1)) ?_;refine zZ [(2,an 14 l aq),(3,ah vehicle),(4,ab day),(5,.ip (an 3 c ao::aC dmg)),(6,.ptr 1 0)] 0 rfl ⟨.inl rfl,.inl rfl,.inl rfl,.inr (.ptr rfl (bg.refl (aV dmg)) (al _)),.inl rfl,trivial⟩<|zZ (aI c dmg b l vehicle day) 1 rfl (gu (bq @an.eq_1 @aM.eq_1))<|zA (aI c dmg b l vehicle day) [] zH<|(zC)<|(zK Gv)<|(zR)<|(fb (cG hfl hft @aM.eq_1))<|(zK hfew (hwk:=.cons (.ag (bg.refl (aV dmg))) (bg.refl rfl))) ?_
 cases g
 ·exact(zR)<|(cF)<|zo [.tmp 10]
 obtain⟨hc,hf,hbo,hl,hle,-⟩:=hok rfl ha hb;have hof:=Ai c dmg b l vehicle day hbo hc hf i5 hle;have hru:=Al c dmg l day hc hf i5 hle;have hpl:(runN c dmg l day).1.length<=20:=a9 (vp hle) i5;unfold Sm at hru;obtain⟨R,hR⟩:∃R,R=jc c dmg b l vehicle day:=⟨_,rfl⟩
 have hlR:R.length<=1000000:=by rw[hR];exact a9 (HG hbo i5 hle) ii
 rw[<-hR] at hof;have hlaw:=λv=>LO (c:=c) (b:=b) (l:=l) (ps:=(runN c dmg l day).1) (vehicle:=vehicle) (day:=day) (v:=v);have hval:(runN c dmg l day).2.2=0->eu ((runN c dmg l day).1.map ai.name)=true:=λh0=>(qM (LI i5 h0)).2.1;unfold jc at hR;generalize runN c dmg l day=rr at hru hpl hR hlaw hval;have hfi:=λn=>gb rr.1 n i5;simp only[xu] at hfi;have hki:=λn=>jk c n hc.len;simp only[xu] at hki
 refine(zR)<|(zN)<|(fb (cG hfl hft @aM.eq_1))<|(zK hof (hwk:=.cons (.ag (bg.refl (aV dmg))) (bg.refl rfl)) (hfl:=.inr (.cons (.ag (bg.refl (aV dmg))) (bg.refl rfl))))<|(zR)<|(fb (bq hfl hft))<|(zK hru (hwk:=.cons (.ag (bg.refl (aV dmg))) (bg.refl rfl)) (hfl:=.inr (.cons (.ag (bg.refl (aV dmg))) (bg.refl rfl))))<|(zR) ?_
 generalize rr.1=ps at *
 refine zZ ((15,ab rr.2.2)::(13,.ip [an 14 ps ae])::[(3,ah vehicle),(5,.ip (an 3 c ao::aC dmg)),(11,ak true),(12,an 3 R aF)]) 0 rfl (gu @an.eq_1)<|zA ((15,ab rr.2.2)::(13,.ip [an 14 ps ae])::[(3,ah vehicle),(5,.ip (an 3 c ao::aC dmg)),(11,ak true),(12,an 3 R aF)]) [] zH<|(zC)<|(zK (hfi vehicle) (hfl:=.inr (bg.refl rfl))) ?_
 obtain⟨v,hv⟩:∃v,v=(bD ps vehicle).getD ai.zero:=⟨_,rfl⟩;obtain⟨is,his⟩:∃is,is=(bD ps vehicle).isSome:=⟨_,rfl⟩;rw[<-hv,<-his];have hek:ae v=[ah v.name,ah v.kind,ah v.aR,ah v.slot,ab v.made,ab v.since,ak v.bo,an 2 v.props aH,ab v.l1,ab v.l2,ab v.l3,ab v.l4,ab v.l5,ab v.l6]:=rfl
 refine(cJ hek) ?_;refine zZ ((17,ak is)::(16,.ip (ae v))::(15,ab rr.2.2)::(13,.ip [an 14 ps ae])::[(3,ah vehicle),(5,.ip (an 3 c ao::aC dmg)),(11,ak true),(12,an 3 R aF)]) 0 rfl (gu (bq @an.eq_1 @ae.eq_1))<|zA ((17,ak is)::(16,.ip (ae v))::(15,ab rr.2.2)::(13,.ip [an 14 ps ae])::[(3,ah vehicle),(5,.ip (an 3 c ao::aC dmg)),(11,ak true),(12,an 3 R aF)]) [] zH<|(fb @ae.eq_1)<|(zK (hki v.kind) (hfl:=.inr (bg.refl rfl))) ?_
 obtain⟨kd,hkd⟩:∃kd,kd=(dg c v.kind).getD aL.zero:=⟨_,rfl⟩;rw[<-hkd];generalize (dg c v.kind).isSome=kis
 refine(cJ @ao.eq_1) ?_;refine zZ ((18,.ip (ao kd))::(17,ak is)::(16,.ip (ae v))::(15,ab rr.2.2)::(13,.ip [an 14 ps ae])::[(3,ah vehicle),(11,ak true),(12,an 3 R aF)]) 0 rfl (gu (cG @an.eq_1 @ae.eq_1 @ao.eq_1))<|zA ((18,.ip (ao kd))::(17,ak is)::(16,.ip (ae v))::(15,ab rr.2.2)::(13,.ip [an 14 ps ae])::[(3,ah vehicle),(11,ak true),(12,an 3 R aF)]) [] zH ?_
 obtain⟨bad,hbad⟩:∃bad:Bool,bad=(!(decide (rr.2.2=0))||(!is||(v.bo||!kd.vehicle))):=⟨_,rfl⟩
 (repeat refine aE.seq ?_)
 refine aE.mono (Q:=λex st=>ex=.normal/\Fg st ⟨(76,ak bad)::(13,.ip [an 14 ps ae])::[(3,ah vehicle),(11,ak true),(12,an 3 R aF)],172,[],[]⟩) ?_ ?_
 ·cases g0:decide (rr.2.2=0)
  ·rw[g0] at hbad;subst hbad;refine(aw g0) ?_;exact⟨rfl,zH⟩
  cases g1:is
  ·rw[g0,g1] at hbad;subst hbad;refine(aw g0) ?_;exact⟨rfl,zH⟩
  cases g2:v.bo;rotate_left
  ·rw[g0,g1,g2] at hbad;subst hbad;refine(aw (cG g0 @ae.eq_1 g2)) ?_;exact⟨rfl,zH⟩
  cases g3:kd.vehicle
  ·rw[g0,g1,g2,g3] at hbad;subst hbad;refine(aw (lM g0 @ae.eq_1 g2 @ao.eq_1 g3)) ?_;exact⟨rfl,zH⟩
  ·rw[g0,g1,g2,g3] at hbad;subst hbad;refine(aw (lM g0 @ae.eq_1 g2 @ao.eq_1 g3)) ?_;exact⟨rfl,zH⟩
 rintro _ _ ⟨rfl,hfg⟩;simp only[cX];refine aE.fg hfg ?_;clear hfg
 have hRb:(bad=true->R=[⟨4,vehicle,[]⟩])/\(bad=false->T3 R/\∀f∈R,(f.part=vehicle\/f.part∈ea ps vehicle)/\f.kind≠4):=by
  cases hm:bD ps vehicle with
  | none=>
   rw[hm] at hR his;exact⟨λ_=>hR,λh=>by rw[hbad,his] at h;simp at h⟩
  | some w=>
   rw[hm] at hv his hR;have hv:v=w:=hv;subst hv;simp only at hR;simp only[his,Option.isSome_some,Bool.not_true,Bool.false_or] at hbad;constructor
   ·intro h;rw[ut] at hR
    ·exact hR
    ·rw[hbad] at h;rw[<-hkd];by_cases k0:rr.2.2=0
     ·cases k1:v.bo
      ·rw[k1,wl k0] at h;cases k2:kd.vehicle
       ·exact .inr (.inr rfl)
       ·rw[k2] at h;cases h
      ·exact .inr (.inl rfl)
     ·exact .inl k0
   ·intro h;rw[hbad] at h;simp only[Bool.or_eq_false_iff,Bool.not_eq_false',wp] at h;obtain⟨k0,k1,k2⟩:=h;rw[v6 (by rw[k0,k1,<-hkd,k2];simp)] at hR;rw[hR];exact hlaw v (hval k0) hm
 clear hR hlaw hval hbad;cases bad;rotate_left
 ·have hRb:=hRb.1 rfl;subst hRb;have heq:=Gr ⟨4,vehicle,[]⟩ ⟨4,vehicle,[]⟩;rw[wl rfl] at heq
  exact(zY)<|zA [(3,ah vehicle),(11,ak true),(12,.sl 1 3 [ab 4,ah vehicle,ah []])] [] zH<|(aw (lM heq (show decide (((1:Nat):Int)=1)=true from rfl) (show c7 (AV.int IntKind.i64 0)=some 0 from rfl) @Nat.zero_mul (show(0:Nat)<1 from Nat.one_pos)))<|zo [.tmp 10]
 obtain⟨hs,hp⟩:=hRb.2 rfl;clear hRb;have hin:=nF ps vehicle i5;have hil:=ke ps vehicle;generalize ea ps vehicle=I at hin hil hp;have hrc:∀(r:Nat->Nat) (l:List (List Nat)),mn r (l.flatMap (aB ah))=l.flatMap (aB ah):=λr l=>bn (aA (λ_=>rfl) l);have hbc:∀(B:Nat) (l:List (List Nat)),hY B (l.flatMap (aB ah))=true:=λB l=>bI (aA (λ_=>rfl) l);have hkc:∀(o:Nat) (l:List (List Nat)),(l.flatMap (aB ah)).map (aY o)=l.flatMap (aB ah):=λo l=>bC (enc:=aB ah) (λ_=>rfl) o l
 have hlI:I.length<=1000000:=by omega
 refine(zN) ?_
 (repeat refine aE.seq ?_)
 refine aE.mono (Q:=λex st=>ex=.normal/\Fg st ⟨(20,an 1 I (aB ah))::[(3,ah vehicle),(11,ak true),(12,an 3 R aF)],172,[],[]⟩) ?_ ?_
 ·by_cases hL:I=[]
  ·subst hL;rw[show bZ 0 1 ([]:List (List Nat)).length=bG from rfl,gl] at hin;refine(zC) ?_;refine zS [] trivial hin ?_;refine(zR) ?_;exact⟨rfl,Fg.trans (Fg.wk (f':=(20,an 1 ([]:List (List Nat)) (aB ah))::[(3,ah vehicle),(11,ak true),(12,an 3 R aF)]) ⟨.inr (Wk.nil 1),zj⟩) zH⟩
  ·have hL0:¬I.length=0:=λh=>hL (t8 h);rw[ef (o:=0) (e:=1) hL0,fw hL] at hin;refine(zC) ?_;refine zS [] (cG hrc hbc hkc) hin ?_;refine(zR) ?_;exact⟨rfl,Fg.trans (Fg.freeze (f':=(20,an 1 I (aB ah))::[(3,ah vehicle),(11,ak true),(12,an 3 R aF)]) 0 rfl g9 ⟨.inr (.buf rfl (by rw[ej (enc:=aB ah) (e:=1) (λ_=>rfl)];exact bg.refl (aA (λ_=>rfl) _)) (by rw[aZ (enc:=aB ah) (e:=1) (λ_=>rfl)];exact ad _)),zj⟩) zH⟩
 rintro _ _ ⟨rfl,hfg⟩;simp only[cX];refine aE.fg hfg ?_;clear hfg hin
 refine(zV)<|(zs) ?_;refine zL R (λk=>True) (λk=>(21,ab k)::(20,an 1 I (aB ah))::[(3,ah vehicle),(11,ak true),(12,an 3 R aF)]) (λk=>[]) zH zp ?_;intro k hk hall
 by_cases hlt:k<R.length;rotate_left
 ·exact(aw (show decide ((k:Int)<(R.length:Int))=false by simp only[wn];omega))<|(gh)<|(zV)<|zo [.tmp 10]
 obtain⟨f,hx⟩:∃f,R[k]?=some f:=⟨R[k],li hlt⟩;obtain⟨hp1,hp2⟩:=hp f (ac hx)
 refine(aw (show decide ((k:Int)<(R.length:Int))=true by simp only[wp];omega))<|(gB)<|(aw (cG hlt (aQ (e:=3) (enc:=aF) (λ_=>rfl) hx) @aF.eq_1)) ?_;refine zZ ((22,.ip (aF f))::(21,ab k)::(20,an 1 I (aB ah))::[(3,ah vehicle),(11,ak true),(12,an 3 R aF)]) 0 rfl (gu (bq @an.eq_1 @aF.eq_1))<|zA ((22,.ip (aF f))::(21,ab k)::(20,an 1 I (aB ah))::[(3,ah vehicle),(11,ak true),(12,an 3 R aF)]) [] zH<|(aw @aF.eq_1)<|(zV)<|(zs) ?_;refine Hf I (λk2 (own:Bool)=>own=(decide (f.part=vehicle)||(I.take k2).any λn=>decide (f.part=n))) (λk2 own=>(24,ab k2)::(23,ak own)::(22,.ip (aF f))::(21,ab k)::(20,an 1 I (aB ah))::[(3,ah vehicle),(11,ak true),(12,an 3 R aF)]) (λk2 own=>[]) (decide (f.part=vehicle)) zH gt ?_;intro k2 own hk2 hall2
 by_cases hlt2:k2<I.length
 ·obtain⟨n,hx2⟩:∃n,I[k2]?=some n:=⟨I[k2],li hlt2⟩
  refine(aw (show decide ((k2:Int)<(I.length:Int))=true by simp only[wp];omega))<|(gB)<|(zs) ?_;refine oS [0,1,3,7,3,3,51,115,255,511,1023] ?_
  cases own
  ·refine(QZ (gm @aF.eq_1 hlt2 (aQ (e:=1) (enc:=aB ah) (λ_=>rfl) hx2) @aB.eq_1))<|(zM)<|(aw (zi hlt2 hlI)) ?_;refine wq hlt2 (decide (f.part=n)) zH (by rw[cD hx2,bw,<-b7,<-hall2];simp)
  ·refine(QZ (gm @aF.eq_1 hlt2 (aQ (e:=1) (enc:=aB ah) (λ_=>rfl) hx2) @aB.eq_1))<|(zM)<|(aw (zi hlt2 hlI)) ?_;refine wq hlt2 (true) zH (by rw[cD hx2,bw,<-b7,<-hall2];simp)
 obtain rfl:k2=I.length:=by omega
 rw[aj] at hall2
 have hown:own=true:=by
  rw[hall2,bh,wp,List.any_eq_true];exact hp1.imp id λh=>⟨f.part,h,wl rfl⟩
 subst hown;clear hall2
 refine(aw (show decide ((I.length:Int)<(I.length:Int))=false by simp))<|(gh) ?_
 simp only[eQ,cX,bU,bK,if_true]
 refine(aw (bq @aF.eq_1 (show decide (f.kind=4)=false by simpa using hp2)))<|(zN) ?_
 cases h0:decide ((k:Int)=0);rotate_left
 ·refine(aw h0)<|(zY) ?_;refine aE.exit ?_
  (try change aE _ _ _ _ _)
  refine(aw (zi hlt hlR)) ?_;refine zX hlt zH trivial
 refine(aw h0)<|(zN) ?_
 have h0:=wt h0;obtain⟨j,hj⟩:∃j,k=j+1:=⟨k-1,by omega⟩
 have hlt3:j<R.length:=by omega
 obtain⟨p,hy⟩:∃p,R[j]?=some p:=⟨R[j],li hlt3⟩
 have hpf:vF p f=true:=by
  have:=List.pairwise_iff_getElem.1 hs j k hlt3 hlt i5;rw[li hlt3] at hy;rw[li hlt] at hx;rw[Option.some.inj hy,Option.some.inj hx] at this;exact this
 clear hs hp;have hsub:=Cr (P:=prog) (t:=3) (a:=(k:Int)) (b:=1) ⟨by omega,by omega⟩;rw[show(k:Int)-1=(j:Int) by omega] at hsub
 refine(aw (gm hsub hlt3 (aQ (e:=3) (enc:=aF) (λ_=>rfl) hy) @aF.eq_1)) ?_;refine zZ ((25,.ip (aF p))::(22,.ip (aF f))::(21,ab k)::(20,an 1 I (aB ah))::[(3,ah vehicle),(11,ak true),(12,an 3 R aF)]) 0 rfl (gu (bq @an.eq_1 @aF.eq_1))<|zA ((25,.ip (aF p))::(22,.ip (aF f))::(21,ab k)::(20,an 1 I (aB ah))::[(3,ah vehicle),(11,ak true),(12,an 3 R aF)]) [] zH ?_
 unfold vF at hpf;rw[bh,aa,wp,wp,bh,aa,wp] at hpf;cases g2:decide (p.kind=f.kind)
 ·have g1:decide (f.kind<p.kind)=false:=by
   have:=wt g2;rw[wn];omega
  refine(aw (gm @Aq @aF.eq_1 g1 g2))<|(zN)<|(aw (zi hlt hlR)) ?_;refine zX hlt zH trivial
 have g1:decide (f.kind<p.kind)=false:=by
  have:=ww g2;rw[wn];omega
 cases g4:decide (p.part=f.part)
 ·have g3:fe p.part f.part=true:=by
   rcases hpf with h | ⟨_,h | ⟨h,_⟩⟩
   ·have:=ww g2;omega
   ·exact h
   ·exact un h (wt g4)
  refine(aw (EG @Aq @aF.eq_1 g1 g2 g3 g4 @Bool.true_or))<|(zN)<|(aw (zi hlt hlR)) ?_;refine zX hlt zH trivial
 ·have e4:=ww g4
  have g3:fe p.part f.part=false:=by rw[e4];exact cS _
  have g6:uC p.part f.part=true:=by rw[j9];exact g4
  have g5:fe p.name f.name=true:=by
   rcases hpf with h | ⟨_,h | ⟨_,h⟩⟩
   ·have:=ww g2;omega
   ·rw[e4,cS] at h;cases h
   ·exact h
  refine(aw (MW @Aq @aF.eq_1 g1 g2 g3 g4 g5 g6 @Bool.or_true))<|(zN)<|(aw (zi hlt hlR)) ?_;refine zX hlt zH trivial
end Go.Proofs
namespace Go.Proofs.YtjiejanfnnieaaaGreat
open Go.Proofs Go.Ev Go.ChangeShapes Go.WideShapes Go.ChangeAt Go.RowKit
set_option maxRecDepth 100000
def QC:Tryz.f4.params.toList=[29,36,37,9,3]:=by kernel_rfl
def law_lifted(os:Os)(started:os.Started)(H:Type)(enc:TypeId×Value->H):
 ReturnsInHanded {} bt os 4 .any (Rows.faultStateSpec.pre6 enc prog Tryz.f4 Rows.faultStateRow.domain false) (Rows.faultStateSpec.post enc prog Tryz.f4 false true false false):=by
 refine returnsInHanded_of_change_sized (C:=bt) Ue started zW func4
  (ChangeSpec.witness6 (enc:=enc) (C:=bt) false ⟨#[],#[.agg #[.slice none 0 0,.int .i64 0,.int .i64 0,.slice none 0 0],.agg #[.slice none 0 0,.slice none 0 0,.slice none 0 0,.slice none 0 0,.slice none 0 0,.slice none 0 0],.slice none 0 0,.string ⟨#[]⟩,.int .i64 0],[]⟩ 8 zW zW zW zW) ?_
 intro W base args ds gs before hval0 hW _ hwt0 _;have hval:∀(j:Nat) t v,Tryz.f4.params[j]?=some t->args[j]?=some v->Value.okWide prog W .any base t v:=hval0;have hW':=hW;obtain⟨p,q,hA0,hV,rfl,hfz,hnd⟩:=hW;have hA:DataW.TrodAll enc prog W 0 (λ_=>true) true Tryz.f4.params.toList args.toList ds p:=hA0;rw[QC] at hA;obtain⟨v0,v1,v2,v3,v4,d0,d1,d2,d3,d4,p0,p1,p2,p3,p4,rfl,rfl,rfl,h0,h1,h2,h3,h4⟩:=Iw hA;obtain⟨rfl,rfl⟩:=trodVars_none hV;have hwt1:(DataW.weightsEach prog (Tryz.f4.params.toList++Rows.faultStateSpec.plain.varTypes prog) ([d0,d1,d2,d3,d4]++[])).all (·<=reachBytes)=true:=hwt0
 have hwt:∀{j:Nat} {t:TypeId} {d:DataW H},(Tryz.f4.params.toList++Rows.faultStateSpec.plain.varTypes prog)[j]?=some t->([d0,d1,d2,d3,d4]++[])[j]?=some d->∀x∈d.weights prog t,x<=reachBytes:=by
  intro j t d ht hd x hx;have:=all_eq_true.1 hwt1 x (DataW.weights_mem_each ht hd x hx);simpa using this
 obtain⟨j0,y0,o0,w0⟩:=pY O5 (hval 0 29 v0 zW rfl) h0 (hwt (j:=0) zW rfl);obtain⟨j1,y1,o1,w1⟩:=pY QT (hval 1 36 v1 zW rfl) h1 (hwt (j:=1) zW rfl);obtain⟨j2,y2,o2,w2⟩:=pY Sy (hval 2 37 v2 zW rfl) h2 (hwt (j:=2) zW rfl);obtain⟨j3,y3,o3,w3⟩:=pY Up (hval 3 9 v3 zW rfl) h3 (hwt (j:=3) zW rfl);obtain⟨j4,y4,o4,w4⟩:=pY Uo (hval 4 3 v4 zW rfl) h4 (hwt (j:=4) zW rfl);obtain⟨e0,rfl,o0⟩:=o0;obtain⟨c,dmg,s0,f0,g0⟩:=OM Ii o0;obtain⟨e1,rfl,o1⟩:=o1;obtain⟨b1,s1,f1⟩:=Pt Ii o1;have o2:kr reachBytes (.sl (.st K5)) [y2]:=o2;rw[kr] at o2;obtain⟨n2,rows2,e2,q2,k2⟩:=o2;simp only[m6,and_true] at e2;subst e2;obtain⟨l2,s2,u2,f2⟩:=mP aq T1 λr hr=>S9 (by have:=k2 r hr;rw[kr] at this;exact this);obtain⟨x3,rfl,f3⟩:=QM (B:=reachBytes) o3;obtain⟨x4,rfl⟩:=PV (B:=reachBytes) o4;have hr:=Ii;have hlaw:=GU c dmg b1 l2 x3 x4 ⟨f0,g0,by omega,f2⟩ f1
 have hwd:nf W [.ag e0,.ag e1,.sl n2 rows2.length (Ty.st K5).size rows2.flatten,.fl (.str x3),.fl (.int .i64 x4)] (#[v0,v1,v2,v3,v4]:Array Value).toList:=by
  rw[ei];refine⟨_,_,rfl,w0,?_⟩;rw[ei];refine⟨_,_,rfl,w1,?_⟩;rw[ei];refine⟨_,_,rfl,w2,?_⟩;rw[ei];refine⟨_,_,rfl,w3,?_⟩;rw[ei];refine⟨_,_,rfl,w4,?_⟩;rw[iX]
 have hdv:eJ [.ag e0,.ag e1,.sl n2 rows2.length (Ty.st K5).size rows2.flatten,.fl (.str x3),.fl (.int .i64 x4)]=[.ag (an 3 c ao::aC dmg),.ag (aM b1),an 14 l2 aq,ah x3,ab x4]:=by
  simp only[eJ,↓nj s2 u2,EP,s0,s1];rfl
 refine(R5 dr func4 rfl hwd (by rw[hdv];exact hlaw)).mono λe W' ⟨he,hb⟩=>?_;subst he
 have hlt:∀x∈p0++p1++p2++p3++p4,x.block<W.heap.size:=λx hx=>by simpa using hW'.lt x (by simpa using hx)
 have z0:=Below.trod Of zW (ww zW) h0 hb (λx hx=>hlt x (by simp[hx]));have z1:=Below.trod Of zW (ww zW) h1 hb (λx hx=>hlt x (by simp[hx]));have z2:=Below.trod Of zW (ww zW) h2 hb (λx hx=>hlt x (by simp[hx]));have z3:=Below.trod Of zW (ww zW) h3 hb (λx hx=>hlt x (by simp[hx]));have z4:=Below.trod Of zW (ww zW) h4 hb (λx hx=>hlt x (by simp[hx]));exact⟨_,rfl,_,_,_,[],_,[],hW',trodAll_mk1 (shut_bool Tryz.underlying4 true),Iv z0 z1 z2 z3 z4,rfl,hb.frame _,λh=>by cases h⟩
end Go.Proofs.YtjiejanfnnieaaaGreat
