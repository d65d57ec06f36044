/- Lemmas of this claim, each with its conditions. -/
import Derived.Test.YtjiejanfnnieaaaGreatJ8
import Derived.Test.YtjiejanfnnieaaaGreatJ7
import Derived.Test.YtjiejanfnnieaaaGreatJ5
import Derived.Test.YtjiejanfnnieaaaGreatJ4
import Derived.Test.YtjiejanfnnieaaaGreatJ3
import Derived.ProofKit
import Derived.SizedLaws
import Derived.Carry
import Derived.Test.YtjiejanfnnieaaaGreatRows
set_option linter.all false
set_option maxHeartbeats 8000000
open Go.Proofs.Tryz (prog func7)
open Nat (ble beq)
open List (all_eq_true mem_append nil_append take_zero)
open Nat renaming reduceEqDiff -> aa, reduceLeDiff -> ac, reduceAdd -> ad, le_refl -> aj, reduceMul -> al, reduceLT -> ap, zero_le -> a8, zero_add -> bd, beq_refl -> bk, zero_mul -> bt, sub_zero -> b8, le_trans -> ce
open List renaming map_cons -> am, map_nil -> ax, take_of_length_le -> ay, mem_of_getElem? -> a7, getElem?_append_left -> a9, take_length -> ba, length_map -> bb, getElem?_append -> be, append_nil -> bh, map_append -> bi, getElem?_cons_succ -> bv, getElem?_cons_zero -> bw, getElem?_replicate -> bV, length_drop -> b6, not_mem_nil -> b7, length -> b9, flatMap_append -> cb, map_replicate -> cc, mem_cons -> cd, cons_append -> ch, length_take -> ci, replicate -> cl
open And renaming intro -> aS
open Bool renaming and_eq_true -> aW, not_eq_true' -> bc, or_true -> ca
open Go.Proofs.Tryz renaming checked -> ck
namespace Go.Proofs
open Go.Ev
set_option maxRecDepth 100000
def jT(s:List Nat):Bool:=!(decide (300<(s.length:Int)))
def pX(e:bB):Bool:=jT e.part&&(jT e.kind&&(jT e.br&&(jT e.slot&&(jT e.key&&jT e.value))))
def Nq(c:List aV)(dmg:bC)(l:List bB):Bool:=(!(decide (16<(l.length:Int)))&&(Proofs.ti c&&Proofs.E1 dmg))&&l.all pX
def GA(c:List aV)(dmg:bC)(l:List bB)(hf:kI dmg)(hlen:l.length<=sj):PC prog 28 [.ag (an 3 c ao::aF dmg),an 14 l ar,ab 16] (·=ai (Nq c dmg l)):=by
 have hfl:(aF dmg).length=3:=eW dmg;have hft:(aF dmg).take 3=aF dmg:=ay (by rw[hfl];exact aj _);have hfk:=λo:Nat=>bQ (o:=o) (aT dmg);have hfn:=λo:Nat=>cg (o:=o) (aT dmg);unfold Nq
 refine pB 69 Tryz.func28 ?_;refine(aD (bu hfk hfn)) ?_;refine zZ [(1,an 14 l ar),(2,ab 16),(3,.ip (an 3 c ao::aF dmg))] 0 rfl ⟨.inl rfl,.inl rfl,.inr (.ptr rfl (cu.refl (aT dmg)) (a8 _)),trivial⟩<|zA [(1,an 14 l ar),(2,ab 16),(3,.ip (an 3 c ao::aF dmg))] [] zH ?_
 cases g0:decide (16<(l.length:Int));rotate_left
 ·exact(aD g0)<|(cI)<|zo [.tmp 6]
 refine(e9 g0)<|(zK (IL c)) ?_
 cases g1:Proofs.ti c
 ·exact(zR)<|(cI)<|zo [.tmp 6]
 refine(Mf (bu hfl hft))<|(zK (IK dmg hf) (hwk:=cu.cons (.ag (cu.refl (aT dmg))) .nil)) ?_
 cases g2:Proofs.E1 dmg
 ·exact(zR)<|(cI)<|zo [.tmp 6]
 refine(zR)<|(lj)<|(zs) ?_;refine zL l (λk=>(l.take k).all pX=true) (λk=>[(1,an 14 l ar),(7,ab k)]) (λk=>[]) zH zp ?_;intro k hk hall
 by_cases hlt:k<l.length;rotate_left
 ·refine(aD (show decide ((k:Int)<(l.length:Int))=false by simp only[wn];omega))<|(gg) ?_
  obtain rfl:k=l.length:=by omega
  rw[ba] at hall
  exact(zV)<|zo [.tmp 6] (hq:=by rw[hall];rfl)
 obtain⟨x,hx⟩:∃x,l[k]?=some x:=⟨l[k],jp hlt⟩;have hbad:pX x=false->l.all pX=false:=λh=>iu (a7 hx) h
 refine(aD (show decide ((k:Int)<(l.length:Int))=true by simp only[wp];omega))<|(gA)<|(aD (cJ hlt (aQ (e:=14) (enc:=ar) gc hx) @ar.eq_1)) ?_
 cases h1:decide (300<(x.part.length:Int));rotate_left
 ·exact(aD h1)<|(cI)<|zo [.tmp 6] (hq:=by rw[hbad (by unfold pX jT;rw[h1];rfl)];rfl)
 cases h2:decide (300<(x.kind.length:Int));rotate_left
 ·exact(aD (bu h1 h2))<|(cI)<|zo [.tmp 6] (hq:=by rw[hbad (by unfold pX jT;rw[h1,h2];rfl)];rfl)
 cases h3:decide (300<(x.br.length:Int));rotate_left
 ·exact(aD (cJ h1 h2 h3))<|(cI)<|zo [.tmp 6] (hq:=by rw[hbad (by unfold pX jT;rw[h1,h2,h3];rfl)];rfl)
 cases h4:decide (300<(x.slot.length:Int));rotate_left
 ·exact(aD (gm h1 h2 h3 h4))<|(cI)<|zo [.tmp 6] (hq:=by rw[hbad (by unfold pX jT;rw[h1,h2,h3,h4];rfl)];rfl)
 cases h5:decide (300<(x.key.length:Int));rotate_left
 ·exact(aD (lk h1 h2 h3 h4 h5))<|(cI)<|zo [.tmp 6] (hq:=by rw[hbad (by unfold pX jT;rw[h1,h2,h3,h4,h5];rfl)];rfl)
 cases h6:decide (300<(x.value.length:Int));rotate_left
 ·exact(aD (uP h1 h2 h3 h4 h5 h6))<|(cI)<|zo [.tmp 6] (hq:=by rw[hbad (by unfold pX jT;rw[h1,h2,h3,h4,h5,h6];rfl)];rfl)
 refine(aD (uP h1 h2 h3 h4 h5 h6))<|(zN)<|(aD (zi hlt hlen)) ?_;refine zX hlt zH (gF hx hall (by unfold pX jT;rw[h1,h2,h3,h4,h5,h6];rfl))
def nL(l:List (List Nat))(hlen:l.length<=1000000):PC prog 71 [an 1 l (aH ah)] (·=ai (l.all jT)):=by
 refine pB 16 Tryz.func71 ?_;refine(om)<|(zs) ?_;refine zL l (λk=>(l.take k).all jT=true) (λk=>[(0,an 1 l (aH ah)),(3,ab k)]) (λk=>[]) zH zp ?_;intro k hk hall
 by_cases hlt:k<l.length;rotate_left
 ·refine(aD (show decide ((k:Int)<(l.length:Int))=false by simp only[wn];omega))<|(gg) ?_
  obtain rfl:k=l.length:=by omega
  rw[ba] at hall
  exact(zV)<|zo [.tmp 2] (hq:=by rw[hall])
 obtain⟨x,hx⟩:∃x,l[k]?=some x:=⟨l[k],jp hlt⟩
 refine(aD (show decide ((k:Int)<(l.length:Int))=true by simp only[wp];omega))<|(gA) ?_
 cases g:decide (300<(x.length:Int))
 ·refine(aD (gm hlt (aQ (e:=1) (enc:=aH ah) gc hx) @aH.eq_1 g))<|(zN)<|(aD (zi hlt hlen)) ?_;refine zX hlt zH (gF hx hall (by unfold jT;rw[g];rfl))
 ·exact(aD (gm hlt (aQ (e:=1) (enc:=aH ah) gc hx) @aH.eq_1 g))<|(cI)<|zo [.tmp 2] (hq:=by rw[iu (p:=jT) (a7 hx) (by unfold jT;rw[g];rfl)])
def IA(s:wC):Bool:=[s.kind,s.slot,s.other,s.pW].all jT
def xm(d:ea):Bool:=[d.name,d.kind,d.key].all jT
def CE(x:qh):Bool:=[x.part,x.fh].all jT
def kJ(h:mA):Bool:=[h.id,h.vehicle].all jT&&(!(decide (20<(h.members.length:Int)))&&!(decide (20<(h.back.length:Int))))
def yg(b:dB):Bool:=(!(decide (5<(b.cH.length:Int)))&&(!(decide (5<(b.bg.length:Int)))&&(!(decide (5<(b.du.length:Int)))&&(!(decide (5<(b.holds.length:Int)))&&(Proofs.sy b.rules&&Proofs.sy b.aO)))))&&(b.cH.all IA&&(b.bg.all xm&&(b.du.all CE&&b.holds.all kJ)))
structure pa (b:dB):Prop where
 fh:∀r∈b.rules,(r.name.length<=sj/\r.kind.length<=sj)/\eS r.cond
 qI:∀r∈b.aO,(r.name.length<=sj/\r.kind.length<=sj)/\eS r.cond
 HK:∀d∈b.bg,(∀x∈d.name,x<256)/\(∀x∈d.kind,x<256)/\∀x∈d.key,x<256
 lr:b.rules.length<=sj
 lc:b.aO.length<=sj
def Ad(b:dB)(hb:pa b):PC prog 24 [.ag (aB b)] (·=ai (Proofs.yg b)):=by
 refine pB 167 Tryz.func24 ?_;unfold Proofs.yg
 refine(aD @aB.eq_1) ?_;refine zZ [(1,.ip (aB b))] 0 rfl (gw (bu @an.eq_1 @aB.eq_1))<|zA [(1,.ip (aB b))] [] zH ?_
 cases g1:decide (5<(b.cH.length:Int));rotate_left
 ·exact(aD (bu @aB.eq_1 g1))<|(cI)<|zo [.tmp 2]
 cases g2:decide (5<(b.bg.length:Int));rotate_left
 ·exact(aD (cJ @aB.eq_1 g1 g2))<|(cI)<|zo [.tmp 2]
 cases g3:decide (5<(b.du.length:Int));rotate_left
 ·exact(aD (gm @aB.eq_1 g1 g2 g3))<|(cI)<|zo [.tmp 2]
 cases g4:decide (5<(b.holds.length:Int));rotate_left
 ·exact(aD (lk @aB.eq_1 g1 g2 g3 g4))<|(cI)<|zo [.tmp 2]
 have k1:=wt g1;have k2:=wt g2;have k3:=wt g3;have k4:=wt g4
 have l1:b.cH.length<=1000000:=by omega
 have l2:b.bg.length<=1000000:=by omega
 have l3:b.du.length<=1000000:=by omega
 have l4:b.holds.length<=1000000:=by omega
 refine(e9 (lk @aB.eq_1 g1 g2 g3 g4))<|(zK (vY b.rules hb.lr hb.fh)) ?_
 cases g5:Proofs.sy b.rules
 ·exact(zR)<|(cI)<|zo [.tmp 2]
 refine(Mf @aB.eq_1)<|(zK (vY b.aO hb.lc hb.qI)) ?_
 cases g6:Proofs.sy b.aO
 ·exact(zR)<|(cI)<|zo [.tmp 2]
 refine(zR)<|(lj)<|(zs) ?_;refine zL b.cH (λk=>(b.cH.take k).all IA=true) (λk=>[(1,.ip (aB b)),(3,ab k)]) (λk=>[]) zH zp ?_;intro k hk hall
 by_cases hlt:k<b.cH.length;rotate_left
 ·refine(aD (bu @aB.eq_1 (show decide ((k:Int)<(b.cH.length:Int))=false by simp only[wn];omega)))<|(gg) ?_
  simp only[eN,c8,bW,bK,if_true]
  obtain rfl:k=b.cH.length:=by omega
  rw[ba] at hall;rw[hall];clear hall hlt hk
  refine(zV)<|(zs) ?_;refine zL b.bg (λk=>(b.bg.take k).all xm=true) (λk=>[(1,.ip (aB b)),(4,ab k)]) (λk=>[]) zH zp ?_;intro k hk hall
  by_cases hlt:k<b.bg.length;rotate_left
  ·refine(aD (bu @aB.eq_1 (show decide ((k:Int)<(b.bg.length:Int))=false by simp only[wn];omega)))<|(gg) ?_
   simp only[eN,c8,bW,bK,if_true]
   obtain rfl:k=b.bg.length:=by omega
   rw[ba] at hall;rw[hall];clear hall hlt hk
   refine(zV)<|(zs) ?_;refine zL b.du (λk=>(b.du.take k).all CE=true) (λk=>[(1,.ip (aB b)),(5,ab k)]) (λk=>[]) zH zp ?_;intro k hk hall
   by_cases hlt:k<b.du.length;rotate_left
   ·refine(aD (bu @aB.eq_1 (show decide ((k:Int)<(b.du.length:Int))=false by simp only[wn];omega)))<|(gg) ?_
    simp only[eN,c8,bW,bK,if_true]
    obtain rfl:k=b.du.length:=by omega
    rw[ba] at hall;rw[hall];clear hall hlt hk
    refine(zV)<|(zs) ?_;refine zL b.holds (λk=>(b.holds.take k).all kJ=true) (λk=>[(1,.ip (aB b)),(6,ab k)]) (λk=>[]) zH zp ?_;intro k hk hall
    by_cases hlt:k<b.holds.length;rotate_left
    ·refine(aD (bu @aB.eq_1 (show decide ((k:Int)<(b.holds.length:Int))=false by simp only[wn];omega)))<|(gg) ?_
     simp only[eN,c8,bW,bK,if_true]
     obtain rfl:k=b.holds.length:=by omega
     rw[ba] at hall;rw[hall];clear hall hlt hk
     exact(zV)<|zo [.tmp 2]
    obtain⟨x,hx⟩:∃x,b.holds[k]?=some x:=⟨b.holds[k],jp hlt⟩;have hxm:=a7 hx
    refine(aD (bu @aB.eq_1 (show decide ((k:Int)<(b.holds.length:Int))=true by simp only[wp];omega)))<|(gA) ?_
    have htx:=nL [x.id,x.vehicle] (by show 2<=1000000;decide)
    refine(zs) ?_;refine kZ [0,1,0,7,15,31,0,64,0,448,960,1984,4095,8191,16383,32767,65535,131071,65535,524287,1048575,2097151,4194303,8388607,16777215,33554431,67108863,134217727,67108863,536870911,1073741823,2147483647,4294967295,8589934591,17179869183] ?_;refine(rW (gm @aB.eq_1 hlt (aQ (e:=4) (enc:=bZ) gc hx) @bZ.eq_1))<|(kA []) ?_
    generalize hg:[x.id,x.vehicle].all jT=g at htx;refine ej.Pm (f':=(145,ai g)::[(1,.ip (aB b)),(6,ab k)]) (S':=[]) zW rfl (λds_ K_ hK_=>?_) ?_
    ·refine(zK htx)<|oA ((145,ai g)::[(1,.ip (aB b)),(6,ab k)]) [] zH ?_;exact .nil hK_
    cases g
    ·exact(kR)<|(kN)<|(cI)<|zo [.tmp 2] (hq:=by (rw[iu (p:=kJ) hxm (by unfold kJ;rw[hg];rfl)];first | rfl | simp))
    cases h1:decide (20<(x.members.length:Int));rotate_left
    ·exact(rW (lk @aB.eq_1 hlt (aQ (e:=4) (enc:=bZ) gc hx) @bZ.eq_1 h1))<|(kN)<|(cI)<|zo [.tmp 2] (hq:=by (rw[iu (p:=kJ) hxm (by unfold kJ;rw[hg,h1];rfl)];first | rfl | simp))
    cases h2:decide (20<(x.back.length:Int));rotate_left
    ·exact(rW (uP @aB.eq_1 hlt (aQ (e:=4) (enc:=bZ) gc hx) @bZ.eq_1 h1 h2))<|(kN)<|(cI)<|zo [.tmp 2] (hq:=by (rw[iu (p:=kJ) hxm (by unfold kJ;rw[hg,h1,h2];rfl)];first | rfl | simp))
    refine(rW (uP @aB.eq_1 hlt (aQ (e:=4) (enc:=bZ) gc hx) @bZ.eq_1 h1 h2))<|(kN)<|(zN)<|(aD (zi hlt l4)) ?_;refine zX hlt zH (gF hx hall (by unfold kJ;rw[hg,h1,h2];rfl))
   obtain⟨x,hx⟩:∃x,b.du[k]?=some x:=⟨b.du[k],jp hlt⟩;have hxm:=a7 hx
   refine(aD (bu @aB.eq_1 (show decide ((k:Int)<(b.du.length:Int))=true by simp only[wp];omega)))<|(gA) ?_
   have htx:=nL [x.part,x.fh] (by show 2<=1000000;decide)
   refine(zs) ?_;refine kZ [0,1,0,7,15,31,0,64,0,448,960,1984,4095,8191,16383] ?_;refine(rW (gm @aB.eq_1 hlt (aQ (e:=3) (enc:=cO) gc hx) @cO.eq_1))<|(kA []) ?_
   generalize hg:[x.part,x.fh].all jT=g at htx;refine ej.Pm (f':=(123,ai g)::[(1,.ip (aB b)),(5,ab k)]) (S':=[]) zW rfl (λds_ K_ hK_=>?_) ?_
   ·refine(zK htx)<|oA ((123,ai g)::[(1,.ip (aB b)),(5,ab k)]) [] zH ?_;exact .nil hK_
   cases g
   ·exact(kR)<|(kN)<|(cI)<|zo [.tmp 2] (hq:=by (rw[iu (p:=CE) hxm hg];first | rfl | simp))
   ·refine(kR)<|(kN)<|(zN)<|(aD (zi hlt l3)) ?_;refine zX hlt zH (gF hx hall hg)
  obtain⟨x,hx⟩:∃x,b.bg[k]?=some x:=⟨b.bg[k],jp hlt⟩;have hxm:=a7 hx
  refine(aD (bu @aB.eq_1 (show decide ((k:Int)<(b.bg.length:Int))=true by simp only[wp];omega)))<|(gA) ?_
  have htx:=nL [x.name,x.kind,x.key] (by show 3<=1000000;decide)
  refine(zs) ?_;refine kZ [0,1,0,7,15,31,0,64,0,448,960,1984,0,4096,0,28672,61440,126976,262143,524287,1048575] ?_;refine(rW (gm @aB.eq_1 hlt (aQ (e:=5) (enc:=bf) gc hx) @bf.eq_1))<|(kA []) ?_
  generalize hg:[x.name,x.kind,x.key].all jT=g at htx;refine ej.Pm (f':=(101,ai g)::[(1,.ip (aB b)),(4,ab k)]) (S':=[]) zW rfl (λds_ K_ hK_=>?_) ?_
  ·refine(zK htx)<|oA ((101,ai g)::[(1,.ip (aB b)),(4,ab k)]) [] zH ?_;exact .nil hK_
  cases g
  ·exact(kR)<|(kN)<|(cI)<|zo [.tmp 2] (hq:=by (rw[iu (p:=xm) hxm hg];first | rfl | simp))
  ·refine(kR)<|(kN)<|(zN)<|(aD (zi hlt l2)) ?_;refine zX hlt zH (gF hx hall hg)
 obtain⟨x,hx⟩:∃x,b.cH[k]?=some x:=⟨b.cH[k],jp hlt⟩;have hxm:=a7 hx
 refine(aD (bu @aB.eq_1 (show decide ((k:Int)<(b.cH.length:Int))=true by simp only[wp];omega)))<|(gA) ?_
 have htx:=nL [x.kind,x.slot,x.other,x.pW] (by show 4<=1000000;decide)
 refine(zs) ?_;refine kZ [0,1,0,7,15,31,0,64,0,448,960,1984,0,4096,0,28672,61440,126976,0,262144,0,1835008,3932160,8126464,16777215,33554431,67108863] ?_;refine(rW (gm @aB.eq_1 hlt (aQ (e:=5) (enc:=dE) gc hx) @dE.eq_1))<|(kA []) ?_
 generalize hg:[x.kind,x.slot,x.other,x.pW].all jT=g at htx;refine ej.Pm (f':=(73,ai g)::[(1,.ip (aB b)),(3,ab k)]) (S':=[]) zW rfl (λds_ K_ hK_=>?_) ?_
 ·refine(zK htx)<|oA ((73,ai g)::[(1,.ip (aB b)),(3,ab k)]) [] zH ?_;exact .nil hK_
 cases g
 ·exact(kR)<|(kN)<|(cI)<|zo [.tmp 2] (hq:=by (rw[iu (p:=IA) hxm hg];first | rfl | simp))
 ·refine(kR)<|(kN)<|(zN)<|(aD (zi hlt l1)) ?_;refine zX hlt zH (gF hx hall hg)
abbrev nW:List Nat:=[119,104,101,101,108,115,101,116]
abbrev nC:List Nat:=[99,111,97,99,104]
abbrev nO:List Nat:=[102,114,111,110,116]
def US:jV:=⟨nO,[nW],1⟩
def CK:List aV:=[⟨nW,false,[]⟩,⟨nC,true,[US]⟩]
def Nk:bC:=.mk 2 0 []
def T6:bB:=⟨1,0,[99],nC,[],[],[],[],0,0,0,0,0,0⟩
def T7:bB:=⟨1,0,[119],nW,[],[],[],[],0,0,0,0,0,0⟩
def T8:bB:=⟨2,0,[119],[],[99],nO,[],[],0,0,0,0,0,0⟩
def TN:bB:=⟨4,3,[99],[],[],[],[],[],90,110,0,0,0,0⟩
def HO:List bB:=[T6,T7,T8,TN]
abbrev wX:Fm:=[(0,.ptr 0 0),(2,.ip [an 3 CK ao]),(3,.ip (ar TN))]
abbrev sX:List SV:=[an 3 CK ao,ab 2,ab 0,aR]
noncomputable abbrev Uw(L:Nat->Prop):Fm:=(14,vo L 0 (.ag [an 3 CK ao]))::(15,vo L 1 (.ag [ab 2,ab 0,aR]))::(16,vo L 2 (.ag sX))::(17,vo L 3 (.ag (ar T6)))::(18,vo L 4 (.ag (ar T7)))::(19,vo L 5 (.ag (ar T8)))::(20,vo L 6 (.ag (ar TN)))::wX
noncomputable abbrev fX(L:Nat->Prop):Fm:=(21,vo L 7 (.buf 1 4 14 (some 4)))::Uw L
def OO:PC prog 27 [] (·=.cx [.ag (an 3 CK ao::aF Nk),an 14 HO ar]):=by
 have c1:ar T6=[ab 1,ab 0,ah [99],ah nC,ah [],ah [],ah [],ah [],ab 0,ab 0,ab 0,ab 0,ab 0,ab 0]:=rfl;have c2:ar T7=[ab 1,ab 0,ah [119],ah nW,ah [],ah [],ah [],ah [],ab 0,ab 0,ab 0,ab 0,ab 0,ab 0]:=rfl;have c3:ar T8=[ab 2,ab 0,ah [119],ah [],ah [99],ah nO,ah [],ah [],ab 0,ab 0,ab 0,ab 0,ab 0,ab 0]:=rfl;have c4:ar TN=[ab 4,ab 3,ah [99],ah [],ah [],ah [],ah [],ah [],ab 90,ab 110,ab 0,ab 0,ab 0,ab 0]:=rfl
 refine pB 22 Tryz.func27 ?_;refine(om)<|zA [(0,.ptr 0 0),(2,.ptr 4 0)] [.cells [aR,ab 0,ab 0,aR],.cells [ah nW],.cells [ah nO,.buf 1 1 1 (some 1),ab 1],.cells [ah nW,ai false,aR,ah nC,ai true,.buf 2 1 3 (some 1)],.cells [.buf 3 2 3 (some 2)]] zH ?_;refine aG.fg (Fg.lS (f':=[(0,.ptr 0 0),(2,.ptr 4 0)]) (S':=[.cells [aR,ab 0,ab 0,aR],.gone,.cells [ah nO,.sl 1 1 [ah nW],ab 1],.cells [ah nW,ai false,aR,ah nC,ai true,.buf 2 1 3 (some 1)],.cells [.buf 3 2 3 (some 2)]]) 1 rfl gt zj ⟨.inr ⟨by decide,.inl rfl⟩,.inl rfl,.inr ⟨by decide,.inr ⟨_,_,rfl,rfl,.cons (.a _) (.cons (.buf rfl (cu.refl rfl) (aj _)) (.cons (.a _) .nil))⟩⟩,.inr ⟨by decide,.inl rfl⟩,.inr ⟨by decide,.inl rfl⟩,trivial⟩) ?_;refine aG.fg (Fg.lS (f':=[(0,.ptr 0 0),(2,.ptr 4 0)]) (S':=[.cells [aR,ab 0,ab 0,aR],.gone,.gone,.cells [ah nW,ai false,aR,ah nC,ai true,an 3 [US] bH],.cells [.buf 3 2 3 (some 2)]]) 2 rfl gt zj ⟨.inr ⟨by decide,.inl rfl⟩,.inl rfl,.inl rfl,.inr ⟨by decide,.inr ⟨_,_,rfl,rfl,.cons (.a _) (.cons (.a _) (.cons (.a _) (.cons (.a _) (.cons (.a _) (.cons (.buf rfl (cu.refl rfl) (aj _)) .nil)))))⟩⟩,.inr ⟨by decide,.inl rfl⟩,trivial⟩) ?_;refine aG.fg (Fg.lS (f':=[(0,.ptr 0 0),(2,.ptr 4 0)]) (S':=[.cells [aR,ab 0,ab 0,aR],.gone,.gone,.gone,.cells [an 3 CK ao]]) 3 rfl gt zj ⟨.inr ⟨by decide,.inl rfl⟩,.inl rfl,.inl rfl,.inl rfl,.inr ⟨by decide,.inr ⟨_,_,rfl,rfl,.cons (.buf rfl (.cons (.a _) (.cons (.a _) (.cons (.nil 3) zr))) (aj _)) .nil⟩⟩,trivial⟩) ?_;refine zZ [(0,.ptr 0 0),(2,.ip [an 3 CK ao])] 4 rfl ⟨.inl rfl,.inr (.ptr rfl (cu.refl rfl) (a8 _)),trivial⟩<|zA [(0,.ptr 0 0),(2,.ip [an 3 CK ao])] [.cells [aR,ab 0,ab 0,aR]] zH<|(zV) ?_;refine zZ wX 1 rfl ⟨.inl rfl,.inl rfl,.inr (.ptr rfl (cu.refl rfl) (a8 _)),trivial⟩<|zA wX [.cells [aR,ab 0,ab 0,aR]] zH ?_
 (repeat refine aG.seq ?_)
 refine aG.zu 9 12 (λL=>⟨fX L,22,[io L 8 (.cells sX) (.cells [aR,ab 0,ab 0,aR]),wo L 7 (.cells (HO.flatMap ar))],[]⟩) rfl zW ii g9 zW (Fg.less (by (simp only[cL,bI,fF,↓reduceIte,aa,an,xG,Eh,yz (L:=λ_=>False) (λh=>h)])<;>(repeat' apply aS)<;>first | rfl | trivial) (by (simp only[cL,bI,or_true,true_or,an,xG,Eh,yz (L:=λ_=>False) (λh=>h)])<;>(repeat' apply aS)<;>first | exact .inr rfl | exact .inl rfl | trivial)) (λL=>rfl) ?_ ?_
 ·rintro L i o him hC hr
  rcases i with _ | _ | _ | _ | _ | _ | _ | _ | _ | i
  rotate_right
  ·exact un him i4
  ·cases hr.ju;refine(zR) ?_;exact(cf (cJ @bz @fp @lV))
  ·cases hr.ju;refine(zR) ?_;exact(cf (cJ @bz @fp @lV))
  ·cases hr.ju;have d0:L 0:=hr.dep ⟨0,.data⟩ ge rfl;have d1:L 1:=hr.dep ⟨1,.data⟩ ge rfl;refine(cP (bu (iM d0) (iM d1))) ?_;exact(cf (lk @bz @fp @lV (iM d0) (iM d1)))
  ·cases hr.ju;refine(zR) ?_;exact(cf (gm @bz @fp @lV c1))
  ·cases hr.ju;refine(zR) ?_;exact(cf (gm @bz @fp @lV c2))
  ·cases hr.ju;refine(zR) ?_;exact(cf (gm @bz @fp @lV c3))
  ·cases hr.ju;refine(cP c4) ?_;exact(cf (gm @bz @fp @lV c4))
  ·cases hr.ju;have d3:L 3:=hr.dep ⟨3,.data⟩ ge rfl;have d4:L 4:=hr.dep ⟨4,.data⟩ ge rfl;have d5:L 5:=hr.dep ⟨5,.data⟩ ge rfl;have d6:L 6:=hr.dep ⟨6,.data⟩ ge rfl;have hn:¬L 7:=hr.new;refine aL.r0 ii (by simp only[cL,bI,an,aC,m7,m6,↓reduceIte,aa,ad,al,ac,ap,ak,au,bl,cG d3,cG d4,cG d5,cG d6,↓lY,PW,gf hn,db,c1,c2,c3,c4];first | done | rfl) ?_;exact((Fg.rn (f':=(21,.buf 1 4 14 (some 4))::Uw L) (n:=22) (S':=[io L 8 (.cells sX) (.cells [aR,ab 0,ab 0,aR]),.cells (HO.flatMap ar)]) [0,2] g9 rfl (by (simp only[sA,gn,bI,an,yZ,BY,Rs,db,↓reduceIte,aa,c1,c2,c3,c4,cG d3,cG d4,cG d5,cG d6])<;>(repeat' apply aS)<;>first | trivial | exact .inl rfl | exact .inr rfl | exact .inr trivial | exact .inl trivial) (by (simp only[cL,gn,bI,an,yZ,BY,Rs,db,↓reduceIte,aa,c1,c2,c3,c4,cG d3,cG d4,cG d5,cG d6])<;>(repeat' apply aS)<;>first | rfl | trivial))).trans (cf (Hm @bz @fp @lV (iM d3) (iM d4) (iM d5) (iM d6)))
  ·cases hr.ju;have d2:L 2:=hr.dep ⟨2,.data⟩ ge rfl;have hn:¬L 8:=hr.new;refine aL.r0 ii (by simp only[cL,bI,an,aC,m7,m6,↓reduceIte,aa,ad,al,ac,ap,ak,au,bl,cG d2,yz hn];first | done | rfl) ?_;exact(cf (gm @bz @fp @lV (iM d2)))
 have v9:∀i,i<9->∀v:SV,vo (λj=>j<9) i v=v:=λi h v=>cG h;have w9:∀i,i<9->∀v:SO,wo (λj=>j<9) i v=v:=λi h v=>oh h;have i9:∀i,i<9->∀x y:SO,io (λj=>j<9) i x y=x:=λi h x y=>CX h;change aL _ _ _ _ _ _
 exact oA [(21,.buf 1 4 14 (some 4)),(0,.ptr 0 0)] [.cells sX,.cells (HO.flatMap ar)] (cf (cJ (v9 7 g9) (w9 7 g9) (i9 8 g9)))<|(zR)<|jZ [.cell 0 29,.tmp 1] (r:=.cx [.ag (an 3 CK ao::aF Nk),an 14 HO ar]) (hw:=.cx (.cons (.ag (.cons (.sl _ _ _) (.cons (.a _) (.cons (.a _) (.cons (.nil 3) .nil))))) (.cons (.buf rfl (cu.refl rfl) (aj _)) .nil)))
end Go.Proofs
namespace Go.Ev
noncomputable section
section
variable {P:Program} {ro:Option Nat}
def aL.r1{all l:List Oper}{o:Oper}{ds:List jv}{n d:Nat}{f:Fm}{S S1:List SO}{v:SV}{kill:Option Nat}{K:eu->Prop}(hst:de all n [o]=true)(hdst:o.dst=some d)(hw:bM all f o.guard=some true)(hop:dj P f S o.op=some (v,S1,kill))
 (hk:aL P ro all l ⟨pz f kill (some d) v,n,S1,ds⟩ K):aL P ro all (o::l) ⟨f,n,S,ds⟩ K:=by
 have hd:=(fD hst).1;rw[hdst] at hd;have hw:=e8 hst hw;rintro ρ0 h0 ⟨af,n',hh,ds'⟩ ⟨rfl,rfl,θ,ρ,hR,hF⟩;obtain⟨rv,h',θ',e1,e2,e3,e4⟩:=OF hR hF hop;refine .cons (dr hF hw) (.run (B1 hop) (by rw[hdst];exact hd) e1 ?_);intro x hx;rw[t6 hx];refine hk ρ0 h0 _ ⟨rfl,rfl,θ',ρ,e2,?_⟩;rw[hdst];cases rv<;>exact hF.kill e4 (fK hd) e3
end
end
end Go.Ev
namespace Go.Proofs
open Go.Ev
set_option maxRecDepth 100000
abbrev U3:List Nat:=[48,49,50,51,52,53,54,55,56,57,97,98,99,100,101,102]
def xE:aY:=.mk 5 [107,109] [] 100 0 []
def xR:iN:=⟨[114],nW,xE⟩
def xK:qh:=⟨[119],[114],5⟩
def xH:mA:=⟨U3,[99],[0,1],[0]⟩
def TO:dB:=⟨[xR],[],[],[],[],[]⟩
def S8:dB:=⟨[xR],[],[],[xK],[],[]⟩
def S9:dB:=⟨[],[],[],[],[],[xH]⟩
abbrev Uy:aA:=⟨1,[119],[114]⟩
abbrev Uz:aA:=⟨6,[99],U3⟩
abbrev UA:aA:=⟨4,[119],[]⟩
def Vh:eX CK Nk TO HO [99] 5=[Uy]:=by kernel_rfl
def Vi:eX CK Nk S8 HO [99] 5=[]:=by kernel_rfl
def Vj:eX CK Nk S9 HO [99] 5=[Uz]:=by kernel_rfl
def Vk:eX CK Nk TO HO [119] 5=[UA]:=by kernel_rfl
def Ff{s:List Nat}(h:(decide (s.length<=1000000)&&s.all λb=>decide (b<256))=true):fi s:=by
 simp only[aW,wp,all_eq_true] at h;exact⟨h.1,h.2⟩
def RO:mz CK:=by
 refine⟨by decide,λk hk=>?_,λk hk s hs=>?_⟩
 ·simp only[CK,cd,b7,or_false] at hk
  rcases hk with rfl | rfl<;>exact⟨Ff g9,by decide⟩
 ·simp only[CK,cd,b7,or_false] at hk
  rcases hk with rfl | rfl
  ·cases hs
  ·cases t6 hs;exact⟨Ff g9,by decide⟩
def RP:gD Nk:=.mk g9 λk hk=>by cases hk
def RQ:∀e∈HO,lN e:=by
 intro e he;simp only[HO,cd,b7,or_false] at he
 rcases he with rfl | rfl | rfl | rfl<;>constructor<;>exact Ff g9
def TE:gp xE:=.mk (Ff g9) (Ff g9) g9 λk hk=>by cases hk
def CJ{k:List qh}{h:List mA}{r:List iN}(hr:r=[xR]\/r=[])(hk:k.length<=1)(hh:h=[xH]\/h=[]):jf ⟨r,[],[],k,[],h⟩ where
 fh:=λq hq=>by
  rcases hr with rfl | rfl
  ·cases t6 hq;exact TE
  ·cases hq
 qI:=λq hq=>by cases hq
 HK:=λq hq=>by cases hq
 hold:=λq hq=>by
  rcases hh with rfl | rfl
  ·cases t6 hq;exact⟨by decide,by decide⟩
  ·cases hq
 lr:=by rcases hr with rfl | rfl<;>exact md rfl
 lc:=Nat.zero_le _
 ld:=Nat.zero_le _
 lh:=by rcases hh with rfl | rfl<;>exact md rfl
 ls:=Nat.zero_le _
 lx:=Nat.le_trans hk g9
def uz{b:dB}(hb:jf b)(v:List Nat):PC prog 12 [.ag (an 3 CK ao::aF Nk),.ag (aB b),an 14 HO ar,ah v,ab 5] (·=an 3 (eX CK Nk b HO v 5) aw):=
 pV CK Nk b HO v 5 hb RO RP g9 RQ
def OH(a:List aA)(h:a.length<=1000000):PC prog 11 [an 3 a aw,an 3 a aw] (·=ai true):=by
 have:=Al a a h;rw[wl rfl] at this;exact this
abbrev w1:Fm:=[(0,ai false),(1,.ip [.sl 2 3 (CK.flatMap ao),ab 2,ab 0,.sl 0 3 []]),(2,an 14 HO ar)]
abbrev U9:List SV:=[.sl 1 8 (bD xR),.sl 0 5 [],.sl 0 5 [],.sl 0 3 [],.sl 0 8 [],.sl 0 4 []]
abbrev Uv:List SV:=[.sl 1 8 (bD xR),.sl 0 5 [],.sl 0 5 [],.sl 1 3 (cO xK),.sl 0 8 [],.sl 0 4 []]
abbrev Va:List SV:=[.sl 0 8 [],.sl 0 5 [],.sl 0 5 [],.sl 0 3 [],.sl 0 8 [],.sl 1 4 (bZ xH)]
abbrev w3:Fm:=(3,.ip U9)::w1
abbrev w4:Fm:=(4,.ip Uv)::w3
abbrev w5:Fm:=(5,.ip Va)::w4
def GC:PC prog 9 [] (·=ai true):=by
 have h1:=uz (CJ (k:=[]) (h:=[]) (.inl rfl) g9 (.inr rfl)) [99];rw[show(⟨[xR],[],[],[],[],[]⟩:dB)=TO from rfl,Vh] at h1;have h2:=uz (CJ (k:=[xK]) (h:=[]) (.inl rfl) g9 (.inr rfl)) [99];rw[show(⟨[xR],[],[],[xK],[],[]⟩:dB)=S8 from rfl,Vi] at h2;have h3:=uz (CJ (k:=[]) (h:=[xH]) (.inr rfl) g9 (.inl rfl)) [99];rw[show(⟨[],[],[],[],[],[xH]⟩:dB)=S9 from rfl,Vj] at h3;have h4:=uz (CJ (k:=[]) (h:=[]) (.inl rfl) g9 (.inr rfl)) [119];rw[show(⟨[xR],[],[],[],[],[]⟩:dB)=TO from rfl,Vk] at h4;have s1:=OH [Uy] g9;have s2:=OH [Uz] g9;have s3:=OH [UA] g9
 refine pB 58 Tryz.func9 ?_;refine(jr)<|(zK OO (hfl:=.inr zr))<|(cP (show aF Nk=[ab 2,ab 0,.sl 0 3 []] from rfl)) ?_;refine zZ w1 0 rfl ⟨.inl rfl,.inr (.ptr rfl (cu.refl rfl) (a8 _)),.inl rfl,trivial⟩<|zA w1 [] zH<|(zV)<|zA ((3,.ptr 1 0)::w1) [.cells [ah [114],ah nW,ab 5,ah [107,109],ah [],ab 100,ab 0,aR],.cells [.buf 0 1 8 (some 1),aR,aR,aR,aR,aR]] zH ?_;refine aG.fg (Fg.lS (f':=(3,.ptr 1 0)::w1) (S':=[.gone,.cells [.sl 1 8 (bD xR),aR,aR,aR,aR,aR]]) 0 rfl gt ⟨.inl rfl,zj⟩ ⟨.inl rfl,.inr ⟨by decide,.inr ⟨_,_,rfl,rfl,.cons (.buf rfl (.cons (.a _) (.cons (.a _) (.cons (.a _) (.cons (.a _) (.cons (.a _) (.cons (.a _) (.cons (.a _) (.cons (.nil 6) .nil)))))))) (aj _)) zr⟩⟩,trivial⟩) ?_;refine zZ w3 1 rfl ⟨.inr (.ptr rfl (.cons (.sl _ _ _) (.cons (.nil 5) (.cons (.nil 5) (.cons (.nil 3) (.cons (.nil 8) (.cons (.nil 4) .nil)))))) (a8 _)),zj⟩<|zA w3 [] zH<|(om)<|zA ((4,.ptr 0 0)::w3) [.cells [.sl 1 8 (bD xR),.sl 0 5 [],.sl 0 5 [],.buf 1 1 3 (some 1),.sl 0 8 [],.sl 0 4 []],.cells [ah [119],ah [114],ab 5]] zH ?_;refine aG.fg (Fg.lS (f':=(4,.ptr 0 0)::w3) (S':=[.cells Uv,.gone]) 1 rfl gt ⟨.inl rfl,zj⟩ ⟨.inr ⟨by decide,.inr ⟨_,_,rfl,rfl,.cons (.sl _ _ _) (.cons (.sl _ _ _) (.cons (.sl _ _ _) (.cons (.buf rfl (cu.refl rfl) (aj _)) (.cons (.sl _ _ _) (.cons (.sl _ _ _) .nil)))))⟩⟩,.inl rfl,trivial⟩) ?_;refine zZ w4 0 rfl ⟨.inr (.ptr rfl (cu.refl rfl) (a8 _)),zj⟩<|zA w4 [] zH ?_
 (repeat refine aG.seq ?_)
 refine aG.region ?_;refine aL.r1 (d:=19) ii rfl ii zl ?_;refine oZ ((19,.sl 2 1 [ab 0,ab 1])::w4) 0 rfl ⟨.inr (.buf rfl (cu.refl rfl) (aj _)),zj⟩<|oA ((19,.sl 2 1 [ab 0,ab 1])::w4) [] zH ?_;refine aL.r1 (d:=20) ii rfl ii zl ?_;refine oZ ((20,.sl 1 1 [ab 0])::(19,.sl 2 1 [ab 0,ab 1])::w4) 0 rfl ⟨.inr (.buf rfl (cu.refl rfl) (aj _)),zj⟩<|oA ((20,.sl 1 1 [ab 0])::(19,.sl 2 1 [ab 0,ab 1])::w4) [] zH<|(zR)<|zA ((5,.ptr 1 0)::w4) [.cells (bZ xH),.cells [aR,aR,aR,aR,aR,.buf 0 1 4 (some 1)]] zH ?_;refine aG.fg (Fg.lS (f':=(5,.ptr 1 0)::w4) (S':=[.gone,.cells [aR,aR,aR,aR,aR,.sl 1 4 (bZ xH)]]) 0 rfl gt ⟨.inl rfl,zj⟩ ⟨.inl rfl,.inr ⟨by decide,.inr ⟨_,_,rfl,rfl,.cons (.a _) (.cons (.a _) (.cons (.a _) (.cons (.a _) (.cons (.a _) (.cons (.buf rfl (cu.refl rfl) (aj _)) .nil)))))⟩⟩,trivial⟩) ?_;exact zZ w5 1 rfl ⟨.inr (.ptr rfl (.cons (.nil 8) (.cons (.nil 5) (.cons (.nil 5) (.cons (.nil 3) (.cons (.nil 8) (.cons (.sl _ _ _) .nil)))))) (a8 _)),zj⟩<|zA w5 [] zH<|(zC)<|(zK h1 (hwk:=cu.refl rfl) (hfl:=.inr zr))<|(zQ)<|(zK s1 (hwk:=.cons (.sl _ _ _) (.cons (.buf rfl (cu.refl rfl) (aj _)) .nil)))<|(zQ)<|(zK h2 (hwk:=cu.refl rfl) (hfl:=.inr zr))<|(zR)<|zA ((6,ai true)::w5) [] zH<|(zC)<|(zK h3 (hwk:=cu.refl rfl) (hfl:=.inr zr))<|(zQ)<|(zK s2 (hwk:=.cons (.sl _ _ _) (.cons (.buf rfl (cu.refl rfl) (aj _)) .nil)))<|(zQ)<|(zK h4 (hwk:=cu.refl rfl) (hfl:=.inr zr))<|(zQ)<|(zK s3 (hwk:=.cons (.sl _ _ _) (.cons (.buf rfl (cu.refl rfl) (aj _)) .nil)))<|(zR)<|zo [.tmp 0]
structure Mn (c:List aV) (dmg:bC) (l:List bB):Prop where
 Ux:kI dmg
 cat:∀k∈c,(∀b∈k.name,b<256)/\∀s∈k.bL,∀b∈s.name,b<256
 len:l.length<=sj
 ev:∀e∈l,T2 e
def Np(c:List aV)(dmg:bC)(b:dB)(l:List bB)(v:List Nat):Bool:=Nq c dmg l&&(Proofs.yg b&&decide ((v.length:Int)<=300))
def lZ{s:List Nat}(h:jT s=true)(hb:∀x∈s,x<256):fi s:=by
 unfold jT at h;simp only[bc,wn] at h;exact⟨by omega,hb⟩
def E2{b:dB}(h:yg b=true)(hb:pa b):jf b/\(b.rules.length<=5/\b.aO.length<=5/\b.bg.length<=5)/\b.holds.length<=5/\b.cH.length<=5/\b.du.length<=5:=by
 unfold yg sy at h;simp only[aW,bc,wn,wp,all_eq_true] at h;obtain⟨⟨h1,h2,h3,h4,⟨h5,h6⟩,h7,h8⟩,h9,h10,h11,h12⟩:=h;refine⟨⟨λr hr=>?_,λr hr=>?_,λd hd=>?_,λx hx=>?_,by omega,by omega,by omega,by omega,by omega,by omega⟩,⟨by omega,by omega,by omega⟩,by omega,by omega,by omega⟩
 ·have:=h6 r hr;unfold yf at this;rw[aW] at this;exact JM this.2 (hb.fh r hr).2
 ·have:=h8 r hr;unfold yf at this;rw[aW] at this;exact JM this.2 (hb.qI r hr).2
 ·have:=h10 d hd;unfold xm at this;simp only[List.all_cons,List.all_nil,aW] at this;obtain⟨k1,k2,k3⟩:=hb.HK d hd;exact⟨lZ this.1 k1,lZ this.2.1 k2,lZ this.2.2.1 k3⟩
 ·have:=h12 x hx;unfold kJ at this;simp only[aW,bc,wn] at this;exact⟨by omega,by omega⟩
structure U5 (c:List aV) (dmg:bC) (b:dB) (l:List bB):Prop where
 cat:mz c
 Ux:gD dmg
 book:jf b
 len:l.length<=16
 ev:∀e∈l,lN e
 Vs:(b.rules.length<=5/\b.aO.length<=5/\b.bg.length<=5)/\b.holds.length<=5/\b.cH.length<=5/\b.du.length<=5
def PI{c:List aV}{dmg:bC}{b:dB}{l:List bB}{v:List Nat}(h:Np c dmg b l v=true)(ha:Mn c dmg l)(hb:pa b):U5 c dmg b l:=by
 unfold Np at h;rw[aW,aW] at h;obtain⟨h1,h2,_⟩:=h;obtain⟨k1,k2⟩:=E2 h2 hb;unfold Nq at h1;simp only[aW,bc,wn,all_eq_true] at h1;obtain⟨⟨g1,g2,g3⟩,g4⟩:=h1;refine⟨No g2 ha.cat,Nn g3,k1,by omega,λe he=>?_,k2⟩;have:=g4 e he;unfold pX at this;simp only[aW] at this;obtain⟨q1,q2,q3,q4,q5,q6⟩:=this;have hb:=ha.ev e he;exact⟨lZ q1 hb.part,lZ q2 hb.kind,lZ q3 hb.br,lZ q4 hb.slot,lZ q5 hb.key,lZ q6 hb.value⟩
def IN(c:List aV)(dmg:bC)(b:dB)(l:List bB)(v:List Nat)(ha:Mn c dmg l)(hb:pa b):PC prog 10 [.ag (an 3 c ao::aF dmg),.ag (aB b),an 14 l ar,ah v] (·=ai (Np c dmg b l v)):=by
 have hfl:(aF dmg).length=3:=eW dmg;have hft:(aF dmg).take 3=aF dmg:=ay (by rw[hfl];exact aj _);have hfk:=λo:Nat=>bQ (o:=o) (aT dmg);have hfn:=λo:Nat=>cg (o:=o) (aT dmg);have h12:=GA c dmg l ha.Ux ha.len;have h28:=Ad b hb;unfold Np;generalize Nq c dmg l=g1 at h12 ⊢;generalize Proofs.yg b=g2 at h28 ⊢
 refine pB 21 Tryz.func10 ?_;refine(aD (cJ hfk hfn @aB.eq_1)) ?_;refine zZ [(2,an 14 l ar),(3,ah v),(4,.ip (an 3 c ao::aF dmg)),(5,.ptr 1 0)] 0 rfl ⟨.inl rfl,.inl rfl,.inr (.ptr rfl (cu.refl (aT dmg)) (a8 _)),.inl rfl,trivial⟩<|zZ [(2,an 14 l ar),(3,ah v),(4,.ip (an 3 c ao::aF dmg)),(5,.ip (aB b))] 1 rfl (gw (bu @an.eq_1 @aB.eq_1))<|zA [(2,an 14 l ar),(3,ah v),(4,.ip (an 3 c ao::aF dmg)),(5,.ip (aB b))] [] zH<|(e9 (bu hfl hft))<|(zK h12 (hwk:=.cons (.ag (cu.refl (aT dmg))) zr)) ?_
 cases g1
 ·exact(zR)<|zo [.tmp 8]
 refine(Mf @aB.eq_1)<|(zK h28) ?_
 cases g2
 ·exact(zR)<|zo [.tmp 8]
 cases g3:decide ((v.length:Int)<=300)
 ·exact(cP g3)<|zo [.tmp 8]
 ·exact(cP g3)<|zo [.tmp 8]
def nT:Nat->Ty
 | 0=>.no 6
 | 1=>.st [.no 1,.no 1,.no 1,.no 1,.no 1,.no 1]
 | j+2=>.st [i6,.str,.str,i6,i6,.sl (nT j)]
def jl:∀j,(nT j).size=6
 | 0=>rfl
 | 1=>rfl
 | j+2=>rfl
def pN(j:Nat):List Ty:=[.str,.str,nT j]
def Kw:List Ty:=[.str,.str,.str,.str,i6]
def CG:List Ty:=[.str,.str,.str,i6,i6]
def CF:List Ty:=[.str,.str,i6]
def CQ:List Ty:=[.str,.str,.sl i6,.sl i6]
def Hy(j:Nat):List Ty:=[.sl (.st (pN j)),.sl (.st Kw),.sl (.st CG),.sl (.st CF),.sl (.st (pN j)),.sl (.st CQ)]
section
variable {B:Nat} {ds:List DV}
def JK(hB:B<=sj):∀(j:Nat) {ds:List DV},kr B (nT j) ds->∃e:aY,eO ds=aZ e/\eS e
 | 0,ds,h=>by
  rw[nT,kr] at h;exact h.elim
 | 1,ds,h=>by
  rw[nT,kr,dY] at h;obtain⟨_,_,_,h,_⟩:=h;rw[kr] at h;exact h.elim
 | j+2,ds,h=>by
  rw[nT,kr] at h;obtain⟨a1,r,rfl,_,hk⟩:=dI h;obtain⟨s1,r,rfl,b1,_,hk⟩:=cY hk;obtain⟨s2,r,rfl,b2,_,hk⟩:=cY hk;obtain⟨a2,r,rfl,_,hk⟩:=dI hk;obtain⟨a3,r,rfl,_,hk⟩:=dI hk;obtain⟨nl,rows,r,rfl,hl,hr,hk⟩:=iw hk;have:=gT hk;subst this;obtain⟨xs,h1,h2,h3⟩:=mV aZ eS λr hrr=>JK hB j (hr r hrr);refine⟨.mk a1 s1 s2 a2 a3 xs,?_,.mk b1 b2 i4 h3⟩;rw[gJ,jl];simp only[eO,EY,nw h1 h2,h2,h1]
def Ks(hB:B<=sj){j:Nat}(hk:dY B (pN j) ds):∃r:iN,eO ds=bD r/\((r.name.length<=sj/\r.kind.length<=sj)/\eS r.cond):=by
 unfold pN at hk;obtain⟨s1,r,rfl,b1,l1,hk⟩:=cY hk;obtain⟨s2,r,rfl,b2,l2,hk⟩:=cY hk;rw[dY] at hk;obtain⟨d1,d2,rfl,h1,h2⟩:=hk;rw[dY] at h2;subst h2;obtain⟨e,h3,h4⟩:=JK hB j h1;exact⟨⟨s1,s2,e⟩,by simp only[eO,EY,bh,h3,bD],⟨by show s1.length<=sj;omega,by show s2.length<=sj;omega⟩,h4⟩
def Sn(hk:dY B Kw ds):∃s:wC,eO ds=dE s/\True:=by
 unfold Kw at hk;obtain⟨s1,r,rfl,b1,l1,hk⟩:=cY hk;obtain⟨s2,r,rfl,b2,l2,hk⟩:=cY hk;obtain⟨s3,r,rfl,b3,l3,hk⟩:=cY hk;obtain⟨s4,r,rfl,b4,l4,hk⟩:=cY hk;obtain⟨a1,r,rfl,_,hk⟩:=dI hk;have:=gT hk;subst this;exact⟨⟨s1,s2,s3,s4,a1⟩,by simp only[eO,EY,dE],trivial⟩
def PE(hk:dY B CG ds):∃d:ea,eO ds=bf d/\((∀x∈d.name,x<256)/\(∀x∈d.kind,x<256)/\∀x∈d.key,x<256):=by
 unfold CG at hk;obtain⟨s1,r,rfl,b1,l1,hk⟩:=cY hk;obtain⟨s2,r,rfl,b2,l2,hk⟩:=cY hk;obtain⟨s3,r,rfl,b3,l3,hk⟩:=cY hk;obtain⟨a1,r,rfl,_,hk⟩:=dI hk;obtain⟨a2,r,rfl,_,hk⟩:=dI hk;have:=gT hk;subst this;exact⟨⟨s1,s2,s3,a1,a2⟩,by simp only[eO,EY,bf],b1,b2,b3⟩
def Px(hk:dY B CF ds):∃d:qh,eO ds=cO d/\True:=by
 unfold CF at hk;obtain⟨s1,r,rfl,b1,l1,hk⟩:=cY hk;obtain⟨s2,r,rfl,b2,l2,hk⟩:=cY hk;obtain⟨a1,r,rfl,_,hk⟩:=dI hk;have:=gT hk;subst this;exact⟨⟨s1,s2,a1⟩,by simp only[eO,EY,cO],trivial⟩
def NB(hk:kr B i6 ds):∃n:Int,eO ds=aH ab n/\True:=by
 have h:dY B [i6] (ds++[]):=by rw[dY];exact⟨ds,[],rfl,hk,by rw[dY]⟩
 rw[bh] at h;obtain⟨n,r,rfl,_,hk⟩:=dI h;have:=gT hk;subst this;exact⟨n,by simp only[eO,EY,aH],trivial⟩
def PQ(hk:dY B CQ ds):∃h:mA,eO ds=bZ h/\True:=by
 unfold CQ at hk;obtain⟨s1,r,rfl,b1,l1,hk⟩:=cY hk;obtain⟨s2,r,rfl,b2,l2,hk⟩:=cY hk;obtain⟨n1,rows1,r,rfl,_,hr1,hk⟩:=iw hk;obtain⟨n2,rows2,r,rfl,_,hr2,hk⟩:=iw hk;have:=gT hk;subst this;obtain⟨xs,h1,h2,_⟩:=mV (aH ab) (λ_=>True) λr hrr=>NB (hr1 r hrr);obtain⟨ys,h3,h4,_⟩:=mV (aH ab) (λ_=>True) λr hrr=>NB (hr2 r hrr);exact⟨⟨s1,s2,xs,ys⟩,by simp only[eO,nw h1 h2,nw h3 h4,bZ];rfl,trivial⟩
def JD(hB:B<=sj){j:Nat}(hk:dY B (Hy j) ds):∃b:dB,eO ds=aB b/\pa b:=by
 unfold Hy at hk;obtain⟨n1,r1,r,rfl,l1,k1,hk⟩:=iw hk;obtain⟨n2,r2,r,rfl,l2,k2,hk⟩:=iw hk;obtain⟨n3,r3,r,rfl,l3,k3,hk⟩:=iw hk;obtain⟨n4,r4,r,rfl,l4,k4,hk⟩:=iw hk;obtain⟨n5,r5,r,rfl,l5,k5,hk⟩:=iw hk;obtain⟨n6,r6,r,rfl,l6,k6,hk⟩:=iw hk;have:=gT hk;subst this;obtain⟨x1,a1,c1,d1⟩:=mV bD (λr=>(r.name.length<=sj/\r.kind.length<=sj)/\eS r.cond) λr hrr=>Ks hB (by have:=k1 r hrr;rw[kr] at this;exact this);obtain⟨x2,a2,c2,d2⟩:=mV dE (λ_=>True) λr hrr=>Sn (by have:=k2 r hrr;rw[kr] at this;exact this);obtain⟨x3,a3,c3,d3⟩:=mV bf (λd=>(∀x∈d.name,x<256)/\(∀x∈d.kind,x<256)/\∀x∈d.key,x<256) λr hrr=>PE (by have:=k3 r hrr;rw[kr] at this;exact this);obtain⟨x4,a4,c4,d4⟩:=mV cO (λ_=>True) λr hrr=>Px (by have:=k4 r hrr;rw[kr] at this;exact this);obtain⟨x5,a5,c5,d5⟩:=mV bD (λr=>(r.name.length<=sj/\r.kind.length<=sj)/\eS r.cond) λr hrr=>Ks hB (by have:=k5 r hrr;rw[kr] at this;exact this);obtain⟨x6,a6,c6,d6⟩:=mV bZ (λ_=>True) λr hrr=>PQ (by have:=k6 r hrr;rw[kr] at this;exact this);refine⟨⟨x1,x2,x3,x4,x5,x6⟩,?_,⟨d1,d5,d3,by show x1.length<=sj;omega,by show x5.length<=sj;omega⟩⟩;simp only[eO,nw a1 c1,nw a2 c2,nw a3 c3,nw a4 c4,nw a5 c5,nw a6 c6,aB,Ty.size,Ty.oU,pN,jl];rfl
end
end Go.Proofs
namespace Go.Proofs.YtjiejanfnnieaaaGreat
open Go.Proofs Go.Ev Go.ChangeShapes Go.WideShapes Go.ChangeAt Go.RowKit
set_option maxRecDepth 100000
def Ug:ownKnob prog.godebug=none:=by kernel_rfl
def LB:laidOutB prog=true:=by kernel_rfl
variable{α:Type}
def Ss:∀{l:List α},l.length=2->∃a b,l=[a,b]
 | [a,b],_=>⟨a,b,rfl⟩
def OK:∀{l:List α},l.length=3->∃a b c,l=[a,b,c]
 | [a,b,c],_=>⟨a,b,c,rfl⟩
def O0:∀k,ga prog k 27=some (oB k)
 | 0=>by kernel_rfl
 | 1=>by kernel_rfl
 | k+2=>by
  have ih:=O0 k
  have h1:ga prog (k+1) 25=some (.sl (oB k)):=by
   unfold ga;rw[show prog.underlying 25=some (.slice 27) by kernel_rfl];simp only;rw[ih,m7,sz,show(beq (prog.cellsOf 27) 3&&(ble 1 3&&ble 1 (prog.bytesOf 27)))=true by kernel_rfl];rfl
  have h2:ga prog (k+1) 3=some i6:=by kernel_rfl
  obtain⟨fs,hu,hfs⟩:∃fs,prog.underlying 27=some (.struct fs)/\fs.toList.map (λf=>(f.type,f.offset))=[(3,0),(3,1),(25,2)]:=by
   have q:(prog.underlying 27).bind (λu=>match u with | .struct fs=>some (fs.toList.map (λf=>(f.type,f.offset))) | _=>none)=some [(3,0),(3,1),(25,2)]:=by kernel_rfl
   obtain⟨u,e1,e2⟩:=ul q
   cases u<;>first | (cases e2;done) | exact⟨_,e1,Option.some.inj e2⟩
  unfold ga;rw[hu];simp only;generalize fs.toList=l at hfs;obtain⟨a,b,c,rfl⟩:=OK (by have:=rc b9 hfs;rwa [bb] at this)
  ·simp only[am,ax,mt,m8,and_true] at hfs;obtain⟨⟨a1,a2⟩,⟨b1,b2⟩,c1,c2⟩:=hfs
   have n1:prog.cellsOf 3=1:=by kernel_rfl
   have n2:prog.cellsOf 25=1:=by kernel_rfl
   have n3:prog.cellsOf 27=3:=by kernel_rfl
   simp only[gj,a1,a2,b1,b2,c1,c2,h1,h2,n1,n2,n3,m7,m6,Ty.size,Ty.oU,bk,cond_true,bd,ad,oB]
def O2(j:Nat):ga prog (j+12) 29=some (.st [.st [.sl (.st ve)],oB (j+11)]):=by
 obtain⟨fs,hu,hfs⟩:∃fs,prog.underlying 29=some (.struct fs)/\fs.toList.map (λf=>(f.type,f.offset))=[(24,0),(27,1)]:=by
  have q:(prog.underlying 29).bind (λu=>match u with | .struct fs=>some (fs.toList.map (λf=>(f.type,f.offset))) | _=>none)=some [(24,0),(27,1)]:=by kernel_rfl
  obtain⟨u,e1,e2⟩:=ul q
  cases u<;>first | (cases e2;done) | exact⟨_,e1,Option.some.inj e2⟩
 have h1:ga prog (j+11) 24=some (.st [.sl (.st ve)]):=by kernel_rfl
 have h2:=O0 (j+11);unfold ga;rw[hu];simp only;generalize fs.toList=l at hfs;obtain⟨a,b,rfl⟩:=Ss (by have:=rc b9 hfs;rwa [bb] at this)
 ·simp only[am,ax,mt,m8,and_true] at hfs;obtain⟨⟨a1,a2⟩,b1,b2⟩:=hfs
  have n1:prog.cellsOf 24=1:=by kernel_rfl
  have n2:prog.cellsOf 27=3:=by kernel_rfl
  have n3:prog.cellsOf 29=4:=by kernel_rfl
  have h2:ga prog (j+11) 27=some (oB (j+11)):=h2;simp only[gj,a1,a2,b1,b2,h1,h2,n1,n2,n3,m7,m6,Ty.size,Ty.oU,sz,bk,cond_true,bd,ad]
def PY:∀{l:List α},l.length=3->∃a b c,l=[a,b,c]
 | [a,b,c],_=>⟨a,b,c,rfl⟩
def JV:∀{l:List α},l.length=6->∃a b c d e f,l=[a,b,c,d,e,f]
 | [a,b,c,d,e,f],_=>⟨a,b,c,d,e,f,rfl⟩
def Kz:∀k,ga prog k 71=some (nT k)
 | 0=>by kernel_rfl
 | 1=>by kernel_rfl
 | k+2=>by
  have ih:=Kz k
  have h5:ga prog (k+1) 69=some (.sl (nT k)):=by
   unfold ga;rw[show prog.underlying 69=some (.slice 71) by kernel_rfl];simp only;rw[ih,m7,jl,show(beq (prog.cellsOf 71) 6&&(ble 1 6&&ble 1 (prog.bytesOf 71)))=true by kernel_rfl];rfl
  have h0:ga prog (k+1) 3=some i6:=by kernel_rfl
  have h1:ga prog (k+1) 9=some .str:=by kernel_rfl
  have h2:=h1;have h3:=h0;have h4:=h0
  obtain⟨fs,hu,hfs⟩:∃fs,prog.underlying 71=some (.struct fs)/\fs.toList.map (λf=>(f.type,f.offset))=[(3,0),(9,1),(9,2),(3,3),(3,4),(69,5)]:=by
   have q:(prog.underlying 71).bind (λu=>match u with | .struct fs=>some (fs.toList.map (λf=>(f.type,f.offset))) | _=>none)=some [(3,0),(9,1),(9,2),(3,3),(3,4),(69,5)]:=by kernel_rfl
   obtain⟨u,e1,e2⟩:=ul q
   cases u<;>first | (cases e2;done) | exact⟨_,e1,Option.some.inj e2⟩
  unfold ga;rw[hu];simp only;generalize fs.toList=l at hfs;obtain⟨x0,x1,x2,x3,x4,x5,rfl⟩:=JV (by have:=rc b9 hfs;rwa [bb] at this);simp only[am,ax,mt,m8,and_true] at hfs;obtain⟨⟨a0,b0⟩,⟨a1,b1⟩,⟨a2,b2⟩,⟨a3,b3⟩,⟨a4,b4⟩,a5,b5⟩:=hfs
  have n0:prog.cellsOf 3=1:=by kernel_rfl
  have n1:prog.cellsOf 9=1:=by kernel_rfl
  have n2:prog.cellsOf 9=1:=by kernel_rfl
  have n3:prog.cellsOf 3=1:=by kernel_rfl
  have n4:prog.cellsOf 3=1:=by kernel_rfl
  have n5:prog.cellsOf 69=1:=by kernel_rfl
  have nn:prog.cellsOf 71=6:=by kernel_rfl
  simp only[gj,a0,b0,a1,b1,a2,b2,a3,b3,a4,b4,a5,b5,h0,h1,h2,h3,h4,h5,n0,n1,n2,n3,n4,n5,nn,m7,m6,Ty.size,Ty.oU,nT,bk,cond_true,bd,ad]
  skip
def QP(j:Nat):ga prog (j+10) 73=some (.st (pN (j+9))):=by
 obtain⟨fs,hu,hfs⟩:∃fs,prog.underlying 73=some (.struct fs)/\fs.toList.map (λf=>(f.type,f.offset))=[(9,0),(9,1),(71,2)]:=by
  have q:(prog.underlying 73).bind (λu=>match u with | .struct fs=>some (fs.toList.map (λf=>(f.type,f.offset))) | _=>none)=some [(9,0),(9,1),(71,2)]:=by kernel_rfl
  obtain⟨u,e1,e2⟩:=ul q
  cases u<;>first | (cases e2;done) | exact⟨_,e1,Option.some.inj e2⟩
 have h0:ga prog (j+9) 9=some .str:=by kernel_rfl
 have h1:=h0;have h2:=Kz (j+9);unfold ga;rw[hu];simp only;generalize fs.toList=l at hfs;obtain⟨x0,x1,x2,rfl⟩:=PY (by have:=rc b9 hfs;rwa [bb] at this);simp only[am,ax,mt,m8,and_true] at hfs;obtain⟨⟨a0,b0⟩,⟨a1,b1⟩,a2,b2⟩:=hfs
 have n0:prog.cellsOf 9=1:=by kernel_rfl
 have n1:prog.cellsOf 9=1:=by kernel_rfl
 have n2:prog.cellsOf 71=6:=by kernel_rfl
 have nn:prog.cellsOf 73=8:=by kernel_rfl
 simp only[gj,a0,b0,a1,b1,a2,b2,h0,h1,h2,n0,n1,n2,nn,m7,m6,Ty.size,Ty.oU,jl,bk,cond_true,bd,ad]
 try rfl
def O1(j:Nat):ga prog (j+11) 30=some (.sl (.st (pN (j+9)))):=by
 have ih:=QP j;unfold ga;rw[show prog.underlying 30=some (.slice 73) by kernel_rfl];simp only;rw[ih,m7,show(Ty.st (pN (j+9))).size=8 by unfold pN;simp only[Ty.size,Ty.oU,jl],show(beq (prog.cellsOf 73) 8&&(ble 1 8&&ble 1 (prog.bytesOf 73)))=true by kernel_rfl];rfl
def Ky(j:Nat):ga prog (j+12) 36=some (.st (Hy (j+9))):=by
 obtain⟨fs,hu,hfs⟩:∃fs,prog.underlying 36=some (.struct fs)/\fs.toList.map (λf=>(f.type,f.offset))=[(30,0),(31,1),(32,2),(33,3),(30,4),(34,5)]:=by
  have q:(prog.underlying 36).bind (λu=>match u with | .struct fs=>some (fs.toList.map (λf=>(f.type,f.offset))) | _=>none)=some [(30,0),(31,1),(32,2),(33,3),(30,4),(34,5)]:=by kernel_rfl
  obtain⟨u,e1,e2⟩:=ul q
  cases u<;>first | (cases e2;done) | exact⟨_,e1,Option.some.inj e2⟩
 have h0:=O1 j
 have h1:ga prog (j+11) 31=some (.sl (.st Kw)):=by kernel_rfl
 have h2:ga prog (j+11) 32=some (.sl (.st CG)):=by kernel_rfl
 have h3:ga prog (j+11) 33=some (.sl (.st CF)):=by kernel_rfl
 have h4:=h0
 have h5:ga prog (j+11) 34=some (.sl (.st CQ)):=by kernel_rfl
 unfold ga;rw[hu];simp only;generalize fs.toList=l at hfs;obtain⟨x0,x1,x2,x3,x4,x5,rfl⟩:=JV (by have:=rc b9 hfs;rwa [bb] at this);simp only[am,ax,mt,m8,and_true] at hfs;obtain⟨⟨a0,b0⟩,⟨a1,b1⟩,⟨a2,b2⟩,⟨a3,b3⟩,⟨a4,b4⟩,a5,b5⟩:=hfs
 have n0:prog.cellsOf 30=1:=by kernel_rfl
 have n1:prog.cellsOf 31=1:=by kernel_rfl
 have n2:prog.cellsOf 32=1:=by kernel_rfl
 have n3:prog.cellsOf 33=1:=by kernel_rfl
 have n4:prog.cellsOf 30=1:=by kernel_rfl
 have n5:prog.cellsOf 34=1:=by kernel_rfl
 have nn:prog.cellsOf 36=6:=by kernel_rfl
 simp only[gj,a0,b0,a1,b1,a2,b2,a3,b3,a4,b4,a5,b5,h0,h1,h2,h3,h4,h5,n0,n1,n2,n3,n4,n5,nn,m7,m6,Ty.size,Ty.oU,jl,bk,cond_true,bd,ad]
 try rfl
def Su(j:Nat):ga Tryz.prog (j+12) 37=some (.sl (.st K4)):=by kernel_rfl
def Uq(j:Nat):ga Tryz.prog (j+12) 9=some .str:=by kernel_rfl
def Up(j:Nat):ga Tryz.prog (j+12) 3=some i6:=by kernel_rfl
def Dj:reachBytes<=sj:=by decide
def QI{B:Nat}{y:DV}(h:TU B .str y):∃s:List Nat,y=.fl (.str s)/\∀b∈s,b<256:=by
 have h:kr B .str [y]:=h;rw[kr] at h;obtain⟨s,e,w,_⟩:=h;simp only[mt,and_true] at e;exact⟨s,e,w⟩
def PS{B:Nat}{y:DV}(h:TU B i6 y):∃n:Int,y=.fl (.int .i64 n):=by
 have h:kr B i6 [y]:=h;rw[kr] at h;obtain⟨n,e,_⟩:=h;simp only[mt,and_true] at e;exact⟨n,e⟩
section
variable {H:Type} {enc:TypeId×Value->H} {P:Program} {w:World} {base:Nat} {spare:Nat->Bool} {held:Bool}
def IC{t0 t1 t2 t3 t4 t5:TypeId}{args:Array Value}{ds:List (DataW H)}{ps:List MemPlace}(h:DataW.TrodAll enc P w base spare held [t0,t1,t2,t3,t4,t5] args.toList ds ps):
 ∃v0 v1 v2 v3 v4 v5 d0 d1 d2 d3 d4 d5 p0 p1 p2 p3 p4 p5,args=#[v0,v1,v2,v3,v4,v5]/\ds=[d0,d1,d2,d3,d4,d5]/\ps=p0++p1++p2++p3++p4++p5/\DataW.Trod enc P w base spare held t0 v0 d0 p0/\DataW.Trod enc P w base spare held t1 v1 d1 p1/\DataW.Trod enc P w base spare held t2 v2 d2 p2/\DataW.Trod enc P w base spare held t3 v3 d3 p3/\DataW.Trod enc P w base spare held t4 v4 d4 p4/\DataW.Trod enc P w base spare held t5 v5 d5 p5:=by
 obtain⟨v0,_,d0,_,p0,_,hargs,rfl,rfl,e0,h⟩:=trodAll_cons h;obtain⟨v1,_,d1,_,p1,_,rfl,rfl,rfl,e1,h⟩:=trodAll_cons h;obtain⟨v2,_,d2,_,p2,_,rfl,rfl,rfl,e2,h⟩:=trodAll_cons h;obtain⟨v3,_,d3,_,p3,_,rfl,rfl,rfl,e3,h⟩:=trodAll_cons h;obtain⟨v4,_,d4,_,p4,_,rfl,rfl,rfl,e4,h⟩:=trodAll_cons h;obtain⟨v5,_,d5,_,p5,_,rfl,rfl,rfl,e5,h⟩:=trodAll_cons h;obtain⟨rfl,rfl,rfl⟩:=trodAll_nil h;exact⟨v0,v1,v2,v3,v4,v5,d0,d1,d2,d3,d4,d5,p0,p1,p2,p3,p4,p5,by cases args;simp_all,rfl,by simp,e0,e1,e2,e3,e4,e5⟩
def IB{t0 t1 t2 t3 t4 t5:TypeId}{v0 v1 v2 v3 v4 v5:Value}{d0 d1 d2 d3 d4 d5:DataW H}{p0 p1 p2 p3 p4 p5:List MemPlace}(h0:DataW.Trod enc P w base spare held t0 v0 d0 p0)(h1:DataW.Trod enc P w base spare held t1 v1 d1 p1)(h2:DataW.Trod enc P w base spare held t2 v2 d2 p2)(h3:DataW.Trod enc P w base spare held t3 v3 d3 p3)(h4:DataW.Trod enc P w base spare held t4 v4 d4 p4)(h5:DataW.Trod enc P w base spare held t5 v5 d5 p5):DataW.TrodAll enc P w base spare held [t0,t1,t2,t3,t4,t5] [v0,v1,v2,v3,v4,v5] [d0,d1,d2,d3,d4,d5] (p0++(p1++(p2++(p3++(p4++(p5)))))):=⟨p0,p1++(p2++(p3++(p4++(p5)))),h0,⟨p1,p2++(p3++(p4++(p5))),h1,⟨p2,p3++(p4++(p5)),h2,⟨p3,p4++(p5),h3,⟨p4,p5,h4,trodAll_mk1 h5,rfl⟩,rfl⟩,rfl⟩,rfl⟩,rfl⟩
end
end Go.Proofs.YtjiejanfnnieaaaGreat
namespace Go.Proofs
open Go.Ev
set_option maxRecDepth 100000
def NV(L:List aA):(rY L).length<=L.length:=by
 unfold rY;rw[bb];have:=yw L [];simpa using this
def sw{c:List aV}{dmg:bC}{b:dB}{l:List bB}{vehicle:List Nat}{day:Int}(hb:jf b)(hl:l.length<20)(hle:∀e∈l,lN e):(eX c dmg b l vehicle day).length<=10000:=by
 have hpl:(runN c dmg l day).1.length<=20:=ce (B0 hle) i4;unfold eX;split
 ·exact md rfl
 ·rename_i v _;split
  ·exact md rfl
  ·rw[(fG _).length_eq];refine ce (NV _) ?_;unfold lz;have hil:=mK (runN c dmg l day).1 vehicle;generalize fP (runN c dmg l day).1 vehicle=I at hil;rw[li,li,bb,List.length_flatMap];have q1:=xf c b l (runN c dmg l day).1 day v;have q2:=List.length_filter_le (λh:mA=>decide (h.vehicle=vehicle)&&AP h) b.holds;have h1:=hb.lr;have h2:=hb.lc;have h3:=hb.ld;have h4:=hb.lh
   have q3:∀J:List (List Nat),(J.map λn=>(nj c b l (runN c dmg l day).1 day (dL (runN c dmg l day).1 n)).length).sum<=J.length*301:=by
    intro J
    induction J with
    | nil=>exact aj _
    | cons n J ih=>
     have q:=xf c b l (runN c dmg l day).1 day (dL (runN c dmg l day).1 n);rw[am,List.sum_cons,i7];omega
   have:=q3 I;omega
end Go.Proofs
namespace Go.Ev
noncomputable section
section
variable {P:Program} {ro:Option Nat}
mutual
def T9:∀v:SV,∃M,∀o,M<=o->names o v=false
 | .ptr p _=>⟨p+1,λo h=>by rw[names];exact wd i4⟩
 | .map p=>⟨p+1,λo h=>by rw[names];exact wd i4⟩
 | .buf p _ _ _=>⟨p+1,λo h=>by rw[names];exact wd i4⟩
 | .sub p _ _ _ _=>⟨p+1,λo h=>by rw[names];exact wd i4⟩
 | .ag cs=>(Nl cs).imp λM h o k=>by rw[names];exact h o k
 | .cx cs=>(Nl cs).imp λM h o k=>by rw[names];exact h o k
 | .fn _ f c=>by
  obtain⟨M,h⟩:=Nl f;obtain⟨N,k⟩:=Nl c;exact⟨M+N,λo q=>by rw[names,h o i4,k o i4];rfl⟩
 | .iface _ v=>(T9 v).imp λM h o k=>by rw[names];exact h o k
 | .any=>⟨0,λ_ _=>rfl⟩
 | .a _=>⟨0,λ_ _=>rfl⟩
 | .sl ..=>⟨0,λ_ _=>rfl⟩
 | .im ..=>⟨0,λ_ _=>rfl⟩
 | .ip ..=>⟨0,λ_ _=>rfl⟩
 | .e0 ..=>⟨0,λ_ _=>rfl⟩
def Nl:∀l:List SV,∃M,∀o,M<=o->eI o l=false
 | []=>⟨0,λ_ _=>rfl⟩
 | v::l=>by
  obtain⟨M,h⟩:=T9 v;obtain⟨N,k⟩:=Nl l;exact⟨M+N,λo q=>by rw[eI,h o i4,k o i4];rfl⟩
end
def PH(v:SV):∃M,∀o,M<=o->aM o v=v:=(T9 v).imp λM h o k=>by unfold aM;rw[h o k];rfl
def CL{α:Type}(q:Nat->α->α)(hq:∀x,∃M,∀o,M<=o->q o x=x)(l:List α):∃M,∀o,M<=o->l.map (q o)=l:=by
 induction l with
 | nil=>exact⟨0,λ_ _=>rfl⟩
 | cons x l ih=>
  obtain⟨M,h⟩:=hq x;obtain⟨N,k⟩:=ih;exact⟨M+N,λo q=>by rw[am,h o i4,k o i4]⟩
def RR(f:Fm):∃M,∀o,M<=o->bX o f=f:=CL (λo p=>(p.1,aM o p.2)) (λp=>(PH p.2).imp λM h o k=>by rw[h o k]) f
def Tb(S:List SO):∃M,∀o,M<=o->cA o S=S:=CL bF (λ
 | .cells cs=>(CL aM PH cs).imp λM h o k=>by rw[bF,h o k]
 | .map ks vs b=>(CL aM PH vs).imp λM h o k=>by rw[bF,h o k]
 | .iter m bs c pos=>(PH m).imp λM h o k=>by rw[bF,h o k]
 | .oE ..=>⟨0,λ_ _=>rfl⟩
 | .gone=>⟨0,λ_ _=>rfl⟩
 | .loop c ls p f=>(RR f).imp λM h o k=>by rw[bF,h o k]
 | .ml _=>⟨0,λ_ _=>rfl⟩) S
section
variable {all:List Oper} {o:Oper} {f:Fm} {S:List SO} {n d:Nat} {ds:List jv} {K:eu->Prop} {m e:Nat} {c:Option Nat} {cs:List SV}
def aL.lay(hst:de all n [o]=true)(hdst:o.dst=some d)(hw:bM all f o.guard=some true)(hop:∀S2,dj P f S2 o.op=some (.buf S2.length m e c,dS S2 (.cells cs),some S2.length))(hcs:bR cs=true)(hlen:cs.length=m*e)
 (hK:aL P ro all [] ⟨(d,.sl m e cs)::f,n,S,ds⟩ K):aL P ro all [o] ⟨f,n,S,ds⟩ K:=by
 obtain⟨A,hA⟩:=RR f;obtain⟨B,hB⟩:=Tb S;obtain⟨T,hT⟩:∃T,T=S++cl (A+B) SO.gone:=⟨_,rfl⟩
 have hM:T.length=S.length+(A+B):=by rw[hT];simp
 have hTS:∀(p:Nat) (s:SO),T[p]?=some s->s≠.gone->S[p]?=some s:=by
  intro p s h1 h2;rw[hT,be] at h1;split at h1
  ·exact h1
  ·rw[bV] at h1;split at h1
   ·cases h1;exact un rfl h2
   ·cases h1
 have hN:dS T (.cells cs)=T++[.cells cs]:=by
  have h1:cA T.length T=T:=by
   rw[hT];unfold cA;rw[bi,cc,show S.map (bF _)=S from hB _ (by rw[<-hT,hM];omega)];rfl
  rw[dS,h1,bF,bQ hcs]
 refine aL.fg (Fg.sub (S':=T) hTS) (aL.r1 hst hdst hw (hop _) ?_);rw[hN];show aL P ro all [] ⟨(d,.buf T.length m e c)::bX T.length f,n,T++[.cells cs],ds⟩ K;rw[hA _ i4]
 have hat:(T++[SO.cells cs])[T.length]?=some (.cells cs):=by rw[List.getElem?_append_right (aj _),Nat.sub_self];rfl
 refine aL.fg (Fg.xp (f':=(d,.sl m e cs)::f) T.length hat gt λj=>?_) (aL.fg (Fg.sub (S':=S) λp s h1 h2=>?_) hK)
 ·show(if d=j then _ else aK f j)=(if d=j then _ else aK f j)\/Wk _ (if d=j then _ else aK f j) (if d=j then _ else aK f j);by_cases h:d=j
  ·rw[ut h,ut h];exact .inr (.buf (Gk _ _) (by rw[ay (by rw[hlen];exact aj _)];exact cu.refl hcs) (by rw[hlen];exact aj _))
  ·rw[v6 h,v6 h];exact .inl rfl
 ·have hp:=bq h1;rw[List.getElem?_set_ne i4,a9 i4,hT,a9 hp];exact h1
def aL.Ub(hst:de all n [o]=true)(hdst:o.dst=some d)(hw:bM all f o.guard=some true)(hop:∀S2,dj P f S2 o.op=some (.buf S2.length 0 e (some 0),dS S2 (.cells []),some S2.length))(hK:K ⟨(d,.e0 e)::f,n,S,ds⟩):aL P ro all [o] ⟨f,n,S,ds⟩ K:=by
 obtain⟨A,hA⟩:=RR f;obtain⟨B,hB⟩:=Tb S;obtain⟨T,hT⟩:∃T,T=S++cl (A+B) SO.gone:=⟨_,rfl⟩
 have hM:T.length=S.length+(A+B):=by rw[hT];simp
 have hTS:∀(p:Nat) (s:SO),T[p]?=some s->s≠.gone->S[p]?=some s:=by
  intro p s h1 h2;rw[hT,be] at h1;split at h1
  ·exact h1
  ·rw[bV] at h1;split at h1
   ·cases h1;exact un rfl h2
   ·cases h1
 have hN:dS T (.cells [])=T++[.cells []]:=by
  have h1:cA T.length T=T:=by
   rw[hT];unfold cA;rw[bi,cc,show S.map (bF _)=S from hB _ (by rw[<-hT,hM];omega)];rfl
  rw[dS,h1];rfl
 refine aL.fg (Fg.sub (S':=T) hTS) (aL.r1 hst hdst hw (hop _) ?_);rw[hN];show aL P ro all [] ⟨(d,.buf T.length 0 e (some 0))::bX T.length f,n,T++[.cells []],ds⟩ K;rw[hA _ i4];refine aL.fg (Fg.e0 d e (.inr ⟨_,ut rfl⟩)) (aL.fg (Fg.tmps (f':=(d,.e0 e)::f) λj=>.inl ?_) (aL.fg (Fg.sub (S':=S) λp s h1 h2=>?_) (.nil hK)))
 ·show(if d=j then _ else _)=(if d=j then _ else if d=j then _ else _);by_cases h:d=j
  ·rw[ut h,ut h]
  ·rw[v6 h,v6 h,v6 h]
 ·have hp:=bq h1;rw[a9 i4,hT,a9 hp];exact h1
end
section
variable {f':Fm} {S':List SO} {G:List Nat} {all:List Oper} {ms:List Nat} {n:Nat} {b:Bool} {hp:List Nat} {l:List (Nat×Oper)} {f:Fm} {S:List SO} {K:Fm->List SO->Prop} {i:Nat} {o:Oper} {d:Nat} {f0:Fm} {kl:List (Nat×Nat)} {m e:Nat} {cs:List SV} {c:Option Nat}
def ej.gb(hst:de all n [o]=true)(hdst:o.dst=some d)(hw:bM all f o.guard=some true)(hG:G.contains i=true)(hch:sC o.op=true)(hop:∀S2,dj P f S2 o.op=some (.buf S2.length m e c,dS S2 (.cells cs),some S2.length))(hcs:bR cs=true)(hlen:cs.length=m*e):
 ej G P ro all ms n f0 kl b hp l ((d,.sl m e cs)::f) S K->ej G P ro all ms n f0 kl b hp ((i,o)::l) f S K:=
 .g hst hdst hw hG (λ_=>rfl) λf2 S2 ds K h1 h2 h3 hK=>.lay h1 hdst h2 (λS3=>by rw[jj (by rw[hch,ca]) h3];exact hop S3) hcs hlen (.nil hK)
def ej.g0(hst:de all n [o]=true)(hdst:o.dst=some d)(hw:bM all f o.guard=some true)(hG:G.contains i=true)(hch:sC o.op=true)(hop:∀S2,dj P f S2 o.op=some (.buf S2.length 0 e (some 0),dS S2 (.cells []),some S2.length)):
 ej G P ro all ms n f0 kl b hp l ((d,.e0 e)::f) S K->ej G P ro all ms n f0 kl b hp ((i,o)::l) f S K:=
 .g hst hdst hw hG (λ_=>rfl) λf2 S2 ds K h1 h2 h3 hK=>.Ub h1 hdst h2 (λS3=>by rw[jj (by rw[hch,ca]) h3];exact hop S3) hK
def O5(N e m:Nat):SV:=if m=0 then .e0 e else .buf N m e none
variable{N:Nat}
def yQ{e m:Nat}(h:m=0):O5 N e m=.e0 e:=ut h
def yR{e m:Nat}(h:m≠0):O5 N e m=.buf N m e none:=v6 h
def dQ{e m o:Nat}(h:N≠o):aM o (O5 N e m)=O5 N e m:=by
 unfold O5;split
 ·rfl
 ·unfold aM;rw[names,wd h];rfl
def gk{e m o:Nat}:aM o (aM N (O5 N e m))=aM N (O5 N e m):=by
 unfold O5;split
 ·rfl
 ·unfold aM;rw[names,wl rfl];rfl
def oF{m o:Nat}{cs:List SV}(h:cs.map (aM o)=cs):bF o (if m=0 then .gone else .cells cs)=if m=0 then .gone else .cells cs:=by
 split
 ·rfl
 ·rw[bF,h]
def ej.SB(T:List Nat)(hst:de all n [o]=true)(hdst:o.dst=some d)(hw:bM all f o.guard=some true)(hwr:cj G i o.op=true)(hms:hp.all (λj=>bG (ms.getD i 0) j)=true)(hT:((sa all ms i).all λt=>T.contains t)=true)
 (hN:S.length=N) (hop:dj P f S o.op=if m=0 then some (.e0 e,S,none) else some (.buf S.length m e none,dS S (.cells cs),some S.length)) (hns:dS S (.cells cs)=S++[.cells cs]) (hf:bX N f=f') (ht:As f0 f N T) (hkl:gO ms i (O5 N e m) kl) (hS':S++[if m=0 then .gone else .cells cs]=S') (hk:ej G P ro all ms n f0 ((i,N)::kl) false hp l ((d,O5 N e m)::f') S' K):ej G P ro all ms n f0 kl b hp ((i,o)::l) f S K:=
 .x T hst hdst hw hwr hms hT (λf2 ds K h1 h2 h3 hK=>by
  have h4:=(jj (S:=S) (by rw[HF hwr,ca]) h3).trans hop;by_cases h:m=0
  ·rw[ut h] at h4;rw[ut h,yQ h] at hK;refine aL.r1 h1 hdst h2 h4 (aL.fg (Fg.tmps (f':=(d,.e0 e)::bX N f2) λj=>?_) (aL.fg (Fg.sub (S':=S++[.gone]) λp s k1 k2=>?_) (.nil hK)))
   ·show(if d=j then _ else aK (bX N f2) j)=(if d=j then _ else aK f2 j)\/(if d=j then _ else aK (bX N f2) j)=_;split
    ·exact .inl rfl
    ·rw[ez];exact tH (some _) _
   ·rw[be] at k1;split at k1
    ·exact k1
    ·cases hq:p-S.length with
     | zero=>rw[hq] at k1;cases k1;exact un rfl k2
     | succ q=>rw[hq] at k1;cases k1
  ·rw[v6 h,hns,hN] at h4;rw[v6 h,yR h] at hK
   exact aL.r1 h1 hdst h2 h4 (.nil hK)) hf ht hkl (hS'▸hk)
def ej.SE{k:Nat}{cs2:List SV}(T:List Nat)(hst:de all n [o]=true)(hdst:o.dst=some d)(hw:bM all f o.guard=some true)(hwr:cj G i o.op=true)(hms:hp.all (λj=>bG (ms.getD i 0) j)=true)(hT:((sa all ms i).all λt=>T.contains t)=true)
 (hop0:k=0->∀S2,dj P f S2 o.op=if m=0 then some (.e0 e,S2,none) else some (.buf S2.length m e none,dS S2 (.cells cs2),some S2.length))
 (hop1:k≠0->dj P f S o.op=if m=0 then some (.buf N k e none,S,none) else some (.buf N (k+m) e none,(cA N S).set N (bF N (.cells (cs++cs2))),some N))
 (hS:k≠0->S[N]?=some (.cells cs)) (hks:cA N S=S) (h1:bR cs=true) (h2:bR cs2=true) (l1:cs.length=k*e) (l2:cs2.length=m*e) (hf:bX N f=f') (ht:As f0 f N T) (hS':S.set N .gone=S')
 (hk:ej G P ro all ms n f0 ((i,N)::kl) false hp l ((d,.sl (k+m) e (cs++cs2))::f') S' K):ej G P ro all ms n f0 kl b hp ((i,o)::l) f S K:=
 .x T hst hdst hw hwr hms hT (λf2 ds K g1 g2 g3 hK=>by
  have h4:=λS2=>jj (P:=P) (S:=S2) (by rw[HF hwr,ca]) g3
  have ktm:∀{v:SV} j,aK ((d,v)::bX N f2) j=aK ((d,v)::f2) j\/aK ((d,v)::bX N f2) j=.any:=λ{v} j=>by
   show(if d=j then _ else aK (bX N f2) j)=(if d=j then _ else aK f2 j)\/(if d=j then _ else aK (bX N f2) j)=_;split
   ·exact .inl rfl
   ·rw[ez];exact tH (some _) _
  have gsub:∀(p:Nat) (s:SO),(S.set N .gone)[p]?=some s->s≠.gone->S[p]?=some s:=λp s k1 k2=>by
   rw[List.getElem?_set] at k1;split at k1
   ·split at k1
    ·cases k1;exact un rfl k2
    ·cases k1
   ·exact k1
  by_cases h:k=0
  ·subst h;obtain rfl:cs=[]:=t8 (by rw[l1,bt]);rw[nil_append,bd] at hK;by_cases hm:m=0
   ·subst hm;obtain rfl:cs2=[]:=t8 (by rw[l2,bt]);refine aL.r1 g1 hdst g2 ((h4 S).trans ((hop0 rfl S).trans (ut rfl))) (aL.fg (Fg.U0 (f':=(d,.sl 0 e [])::f2) λj=>?_) (aL.fg (Fg.tmps ktm) (aL.fg (Fg.sub gsub) (.nil hK))));show(if d=j then _ else aK f2 j)=(if d=j then _ else aK f2 j)\/Wk [] (if d=j then _ else aK f2 j) (if d=j then _ else aK f2 j);by_cases hd:d=j
    ·rw[ut hd,ut hd];exact .inr (.SI e)
    ·rw[v6 hd,v6 hd];exact .inl rfl
   ·exact aL.lay g1 hdst g2 (λS2=>(h4 S2).trans ((hop0 rfl S2).trans (v6 hm))) h2 l2 (aL.fg (Fg.tmps ktm) (aL.fg (Fg.sub gsub) (.nil hK)))
  ·have hS:=hS h
   have frz:∀{q:Nat} {cs3:List SV} {f3:Fm},bR cs3=true->cs3.length=q*e->∀j,aK ((d,.sl q e cs3)::f3) j=aK ((d,.buf N q e none)::f3) j\/Wk (jq N (.cells cs3)) (aK ((d,.buf N q e none)::f3) j) (aK ((d,.sl q e cs3)::f3) j):=λ{q cs3 f3} hg hl j=>by
    show(if d=j then _ else aK f3 j)=(if d=j then _ else aK f3 j)\/Wk _ (if d=j then _ else aK f3 j) (if d=j then _ else aK f3 j);by_cases h:d=j
    ·rw[ut h,ut h];exact .inr (.buf (Gk _ _) (by rw[ay (by rw[hl];exact aj _)];exact cu.refl hg) (by rw[hl];exact aj _))
    ·rw[v6 h,v6 h];exact .inl rfl
   by_cases hm:m=0
   ·subst hm;obtain rfl:cs2=[]:=t8 (by rw[l2,bt]);rw[Nat.add_zero,bh] at hK;exact aL.r1 g1 hdst g2 ((h4 S).trans ((hop1 h).trans (ut rfl))) (aL.fg (Fg.xp N hS gt (frz h1 l1)) (aL.fg (Fg.tmps ktm) (.nil hK)))
   ·have hg:bR (cs++cs2)=true:=kT h1 h2;refine aL.r1 g1 hdst g2 ((h4 S).trans ((hop1 h).trans (v6 hm))) ?_;rw[hks,bF,bQ hg];refine aL.fg (Fg.xp N (List.getElem?_set_self (bq hS)) gt (frz hg (by rw[li,l1,l2,Nat.add_mul]))) ?_;rw[List.set_set]
    exact .nil hK) hf ht (Fu λ_=>rfl) (hS'▸hk)
end
end
end
end Go.Ev
namespace Go.Proofs
open Go.Ev
set_option maxRecDepth 100000
def BW{x:aA}:∀{l:List aA} {k:Nat},(∀y∈l.take k,rR y x=true)->(∀y,l[k]?=some y->rR y x=false)->iG x l=if l[k]?=some x then l else l.take k++x::l.drop k
 | [],k,_,_=>by simp[iG]
 | y::l,0,_,h=>by
  rw[iG,v6 (by rw[h y rfl];exact Bool.false_ne_true)];simp only[bw,qr];rfl
 | y::l,k+1,h1,h2=>by
  rw[iG,ut (h1 y List.mem_cons_self),BW (k:=k) (λy hy=>h1 y (List.mem_cons_of_mem _ hy)) λy hy=>h2 y hy];simp only[bv,List.take_succ_cons,List.drop_succ_cons,ch];split<;>rfl
def QT{S:List SO}{o n:Nat}{q:List aA}(hS:S[o]?=some (.cells (q.flatMap aw)))(hn:q.length=n):Wk S (.buf o n 3 none) (an 3 q aw):=by
 subst hn;rw[pP];exact .buf hS (by rw[ek (enc:=aw) (e:=3) gc];exact cu.refl (aE cB q)) (by rw[aU (enc:=aw) (e:=3) gc];exact aj _)
def KB{p:Prop}(h:p:=by refine QT ?_ ?_;simp only[List.getElem?_cons_succ,List.getElem?_cons_zero,List.flatMap_append,List.flatMap_cons,List.flatMap_nil,List.append_nil,aw,List.append_assoc,List.cons_append,List.nil_append,hk0,hnil,List.take_zero];(first | (simp only[li,i7,i5,List.length_drop,hln];done) | (simp only[li,i7,i5,List.length_drop,hln];omega))):p:=h
def T5(x:aA){l:List aA}{k:Nat}(hln:(l.take k).length=k):(∀o:Nat,((l.take k).flatMap aw++[ab x.kind,ah x.part,ah x.name]).map (aM o)=(l.take k).flatMap aw++[ab x.kind,ah x.part,ah x.name])/\
 ((l.flatMap aw).drop (k*3)).take ((l.length-k)*3)=(l.drop k).flatMap aw/\((l.drop k).flatMap aw).all eB=true/\(∀o:Nat,((l.drop k).flatMap aw).map (aM o)=(l.drop k).flatMap aw)/\
 ((l.take k).flatMap aw++[ab x.kind,ah x.part,ah x.name]).length=(k+1)*3/\((l.take k).flatMap aw++[ab x.kind,ah x.part,ah x.name]).take ((k+1)*3)=(l.take k).flatMap aw++[ab x.kind,ah x.part,ah x.name]/\
 ∀o:Nat,((l.take k).flatMap aw++[ab x.kind,ah x.part,ah x.name]++(l.drop k).flatMap aw).map (aM o)=(l.take k).flatMap aw++[ab x.kind,ah x.part,ah x.name]++(l.drop k).flatMap aw:=by
 have hkl:∀o:Nat,((l.take k).flatMap aw).map (aM o)=(l.take k).flatMap aw:=λo=>bx (enc:=aw) cB o (l.take k)
 have hfl:((l.take k).flatMap aw).length=k*3:=by rw[aU (enc:=aw) (e:=3) gc,hln]
 have hck:∀o:Nat,((l.take k).flatMap aw++[ab x.kind,ah x.part,ah x.name]).map (aM o)=(l.take k).flatMap aw++[ab x.kind,ah x.part,ah x.name]:=λo=>by rw[bi,hkl];rfl
 have hdk:=λo:Nat=>bx (enc:=aw) cB o (l.drop k)
 have hcl:((l.take k).flatMap aw++[ab x.kind,ah x.part,ah x.name]).length=(k+1)*3:=by rw[li,hfl];show k*3+3=_;omega
 refine⟨hck,?_,xz _,hdk,hcl,ay (by rw[hcl];exact aj _),λo=>by rw[bi,hck,hdk]⟩;rw[mI (enc:=aw) (e:=3) gc,ay (by rw[aU (enc:=aw) (e:=3) gc,b6];exact aj _)]
def Mb(l:List aA)(x:aA)(hl:l.length<=900000):PC prog 21 [an 3 l aw,.ag (aw x)] (·=an 3 (iG x l) aw):=by
 have hbef:=λy:aA=>DA y x
 have hlen:l.length<=1000000:=by omega
 refine pB 45 Tryz.func21 ?_;refine(aD @aw.eq_1) ?_;refine zZ [(0,an 3 l aw),(3,.ip (aw x))] 0 rfl (gw (bu @an.eq_1 @aw.eq_1))<|zA [(0,an 3 l aw),(3,.ip (aw x))] [] zH<|(zV)<|(zs) ?_;refine zL l (λk=>∀y∈l.take k,rR y x=true) (λk=>[(0,an 3 l aw),(3,.ip (aw x)),(5,ab k)]) (λk=>[]) zH (by exact λy h=>un h ge) ?_;intro k hk hall
 have hsplit:=BW (l:=l) (x:=x) hall
 have hln:(l.take k).length=k:=by rw[ci];omega
 have hft:(l.flatMap aw).take (k*3)=(l.take k).flatMap aw:=gN (enc:=aw) (e:=3) gc l k;have hon:((l.take k).flatMap aw).all eB=true:=xz _;have hkl:∀o:Nat,((l.take k).flatMap aw).map (aM o)=(l.take k).flatMap aw:=λo=>bx (enc:=aw) cB o (l.take k)
 have hfl:((l.take k).flatMap aw).length=k*3:=by rw[aU (enc:=aw) (e:=3) gc,hln]
 have hfa:((l.take k).flatMap aw).take (k*3)=(l.take k).flatMap aw:=ay (by rw[hfl];exact aj _)
 have hk6:k<=1000000:=by omega
 obtain⟨hck,hdt,hdo,hdk,hcl,hct,hcd⟩:=T5 x (l:=l) hln;by_cases hlt:k<l.length
 ·obtain⟨y,hx⟩:∃y,l[k]?=some y:=⟨l[k],jp hlt⟩
  have hd:=show decide ((k:Int)<(l.length:Int))=true by simp only[wp];omega
  have hby:=hbef y;rw[hx] at hsplit;simp only[qr,forall_eq'] at hsplit;refine(zs) ?_;refine nh [0,0,2,7,15,31,31,127,255,31,1023,2047] ?_;cases hbf:rR y x;rotate_left
  ·rw[hbf] at hby
   refine(Hp (gm hd hlt (aQ (e:=3) (enc:=aw) gc hx) @aw.eq_1)) ?_;refine SD.k ii rfl rfl ii rfl rfl (Cg @aw.eq_1) (hby) (zw) rfl ?_;refine(qg)<|(zM)<|(gA)<|(zs) ?_;refine aG.r0 ii (me (Ct (Nz hlt hlen g9))) ?_;refine⟨l.length-(k+1),_,by omega,(Fg.less T0 Vq),k+1,by omega,rfl,(by rw[cM hx];intro z hz;rcases mem_append.1 hz with h | h;exact hall z h;rw[List.mem_singleton] at h;rw[h];exact hbf),rfl⟩
  rw[hbf] at hby;have hsplit:=hsplit hbf
  refine(Hp (gm hd hlt (aQ (e:=3) (enc:=aw) gc hx) @aw.eq_1)) ?_;refine SD.k ii rfl rfl ii rfl rfl (Cg @aw.eq_1) (hby) (zw) rfl ?_;refine(qg)<|(zM)<|(gg) ?_
  simp only[eN,c8,bW,bK,if_true];refine zA [(0,an 3 l aw),(3,.ip (aw x)),(5,ab k)] [] zH ?_;have heq:=Gy y x;refine(zs) ?_;refine nh [0,0,2,7,15,31,31,127,255,31,1023,2047] ?_;cases he:decide (y=x);rotate_left
  ·rw[he] at heq;rw[ut (ww he)] at hsplit;rw[hsplit]
   exact(Hp (lk hd hlt (aQ (e:=3) (enc:=aw) gc hx) @aw.eq_1 heq))<|(zM)<|(cI)<|zo [.tmp 4]
  rw[he] at heq;rw[v6 (wt he)] at hsplit;rw[hsplit]
  refine(Hp (lk hd hlt (aQ (e:=3) (enc:=aw) gc hx) @aw.eq_1 heq))<|(zM)<|(zN)<|zA [(0,an 3 l aw),(3,.ip (aw x)),(5,ab k)] [] zH ?_
  have hnil:l.drop k=[]\/True:=.inr trivial;by_cases hk0:k=0
  ·refine(zs) ?_;refine aG.uQ [0,6] (ms:=[0,0,0,6,15,0,32,127,0,0,768,2047,4095]) rfl zW zW ?_;refine ej.g0 ii rfl ii ii ii (by intro S_;simp only[cL,bI,an,aC,m7,m6,↓reduceIte,aa,ad,al,ac,ap,ak,au,bl];first | done | rfl) ?_;refine(rW (cJ (RJ hk) @b8 hft))<|(TQ (gm hkl hon hk6 (eq_true hk0)))<|(rW @aw.eq_1) ?_;refine ej.gb (m:=1) (e:=3) (c:=some 1) (cs:=[ab x.kind,ah x.part,ah x.name]) ii rfl ii ii ii (by intro S_;simp only[cL,bI,an,aC,m7,m6,↓reduceIte,aa,ad,al,ac,ap,ak,au,bl];first | done | rfl) ii ii ?_;exact(Rb [41,0,42,5,43] (cJ @bt @take_zero.{0} @nil_append.{0}))<|(rW (KI hk))<|(Rb [] (bu (Mj hkl hfa hfl hdt (show ¬l.length-k=0 by omega) (show l.length-k<=1000000 by omega) (show(0+1)<=1000000 by omega) hdo hdk) (lk hcl hct hck hcd @aj)))<|(kR)<|(kN)<|zo [.tmp 4] (r:=an 3 (l.take k++x::l.drop k) aw) (hw:=KB)
  ·refine(zs) ?_;refine aG.uQ [0,6] (ms:=[0,0,0,6,15,0,32,127,0,0,768,2047,4095]) rfl zW zW ?_;refine ej.g0 ii rfl ii ii ii (by intro S_;simp only[cL,bI,an,aC,m7,m6,↓reduceIte,aa,ad,al,ac,ap,ak,au,bl];first | done | rfl) ?_;refine(rW (cJ (RJ hk) @b8 hft))<|(Rb [38,3,39,41,0,42,5,43] (uP hkl hon hk6 hk0 hft (show 0<k by omega)))<|(rW @aw.eq_1) ?_;refine ej.gb (m:=1) (e:=3) (c:=some 1) (cs:=[ab x.kind,ah x.part,ah x.name]) ii rfl ii ii ii (by intro S_;simp only[cL,bI,an,aC,m7,m6,↓reduceIte,aa,ad,al,ac,ap,ak,au,bl];first | done | rfl) ii ii ?_;exact(Rb [41,0,42,5,43] (uP hkl hfa hfl hk6 hck @aj))<|(rW (KI hk))<|(Rb [] (bu (Mj hkl hfa hfl hdt (show ¬l.length-k=0 by omega) (show l.length-k<=1000000 by omega) (show(k+1)<=1000000 by omega) hdo hdk) (lk hcl hct hck hcd @aj)))<|(kR)<|(kN)<|zo [.tmp 4] (r:=an 3 (l.take k++x::l.drop k) aw) (hw:=KB)
 have hke:k=l.length:=by omega
 have hnil:l.drop k=[]:=List.drop_of_length_le i4
 have hd:=show decide ((k:Int)<(l.length:Int))=false by simp only[wn];omega
 rw[List.getElem?_eq_none i4] at hsplit
 have hsplit:=hsplit nofun
 rw[v6 gt] at hsplit;rw[hsplit]
 refine(zs) ?_;refine nh [0,0,2,7,15,31,31,127,255,31,1023,2047] ?_;refine(Hp hd)<|(zM)<|(gg) ?_
 simp only[eN,c8,bW,bK,if_true]
 refine zA [(0,an 3 l aw),(3,.ip (aw x)),(5,ab k)] [] zH<|(zs) ?_;refine nh [0,0,2,7,15,31,31,127,255,31,1023,2047] ?_;refine(Hp hd)<|(zM)<|(zN)<|zA [(0,an 3 l aw),(3,.ip (aw x)),(5,ab k)] [] zH ?_
 by_cases hk0:k=0
 ·rw[hk0] at hnil
  refine(zs) ?_;refine aG.uQ [0,6] (ms:=[0,0,0,6,15,0,32,127,0,0,768,2047,4095]) rfl zW zW ?_;refine ej.g0 ii rfl ii ii ii (by intro S_;simp only[cL,bI,an,aC,m7,m6,↓reduceIte,aa,ad,al,ac,ap,ak,au,bl];first | done | rfl) ?_;refine(rW (cJ (RJ hk) @b8 hft))<|(TQ (gm hkl hon hk6 (eq_true hk0)))<|(rW @aw.eq_1) ?_;refine ej.gb (m:=1) (e:=3) (c:=some 1) (cs:=[ab x.kind,ah x.part,ah x.name]) ii rfl ii ii ii (by intro S_;simp only[cL,bI,an,aC,m7,m6,↓reduceIte,aa,ad,al,ac,ap,ak,au,bl];first | done | rfl) ii ii ?_;exact(Rb [41,0,42,5,43] (cJ @bt @take_zero.{0} @nil_append.{0}))<|(rW (KI hk))<|(TQ (lk hkl hfa hfl (show l.length-k=0 by omega) (show(0+1)<=1000000 by omega)))<|(kR)<|(kN)<|zo [.tmp 4] (r:=an 3 (l.take k++x::l.drop k) aw) (hw:=KB)
 ·refine(zs) ?_;refine aG.uQ [0,6] (ms:=[0,0,0,6,15,0,32,127,0,0,768,2047,4095]) rfl zW zW ?_;refine ej.g0 ii rfl ii ii ii (by intro S_;simp only[cL,bI,an,aC,m7,m6,↓reduceIte,aa,ad,al,ac,ap,ak,au,bl];first | done | rfl) ?_;refine(rW (cJ (RJ hk) @b8 hft))<|(Rb [38,3,39,41,0,42,5,43] (uP hkl hon hk6 hk0 hft (show 0<k by omega)))<|(rW @aw.eq_1) ?_;refine ej.gb (m:=1) (e:=3) (c:=some 1) (cs:=[ab x.kind,ah x.part,ah x.name]) ii rfl ii ii ii (by intro S_;simp only[cL,bI,an,aC,m7,m6,↓reduceIte,aa,ad,al,ac,ap,ak,au,bl];first | done | rfl) ii ii ?_;exact(Rb [41,0,42,5,43] (uP hkl hfa hfl hk6 hck @aj))<|(rW (KI hk))<|(TQ (lk hkl hfa hfl (show l.length-k=0 by omega) (show(k+1)<=1000000 by omega)))<|(kR)<|(kN)<|zo [.tmp 4] (r:=an 3 (l.take k++x::l.drop k) aw) (hw:=KB)
def PK{α:Type}{enc:α->List SV}{e:Nat}(he:∀x,(enc x).length=e)(hg:∀x,bR (enc x)=true)(ho:∀x,(enc x).all eB=true)(l:List α):(l.flatMap enc).all eB=true/\bR (l.flatMap enc)=true/\(l.flatMap enc).length=l.length*e/\(∀o,(l.flatMap enc).map (aM o)=l.flatMap enc)/\(l.flatMap enc).take (l.length*e)=l.flatMap enc:=
 ⟨by rw[List.all_flatMap];exact all_eq_true.2 λx _=>ho x,aE hg l,aU he l,λo=>bx hg o l,ay (by rw[aU he];exact aj _)⟩
def CO(l:List iN):(l.flatMap bD).all eB=true/\bR (l.flatMap bD)=true/\(l.flatMap bD).length=l.length*8/\(∀o,(l.flatMap bD).map (aM o)=l.flatMap bD)/\(l.flatMap bD).take (l.length*8)=l.flatMap bD:=PK ny (λr=>by rw[eD];rfl) (λr=>by rw[eD];rfl) l
abbrev Q9(a b:dB):dB:=⟨a.rules++b.rules,a.cH++b.cH,a.bg++b.bg,a.du++b.du,a.aO++b.aO,a.holds++b.holds⟩
def QG{α:Type}{enc:α->List SV}{e:Nat}(a b:List α):an e (a++b) enc=.sl (a.length+b.length) e (a.flatMap enc++b.flatMap enc):=by rw[pP,li,List.flatMap_append]
def IE(a b:dB)(ha:jf a)(hb:jf b):PC prog 25 [.ag (aB a),.ag (aB b)] (·=.ag (aB (Q9 a b))):=by
 have la0:a.rules.length<=1000000:=by have:=ha.lr;omega
 obtain⟨oa0,ga0,na0,ka0,ta0⟩:=CO a.rules
 have lb0:b.rules.length<=1000000:=by have:=hb.lr;omega
 obtain⟨ob0,gb0,nb0,kb0,tb0⟩:=CO b.rules
 have la1:a.cH.length<=1000000:=by have:=ha.ls;omega
 obtain⟨oa1,ga1,na1,ka1,ta1⟩:=PK (enc:=dE) (e:=5) gc (λ_=>rfl) (λ_=>rfl) a.cH
 have lb1:b.cH.length<=1000000:=by have:=hb.ls;omega
 obtain⟨ob1,gb1,nb1,kb1,tb1⟩:=PK (enc:=dE) (e:=5) gc (λ_=>rfl) (λ_=>rfl) b.cH
 have la2:a.bg.length<=1000000:=by have:=ha.ld;omega
 obtain⟨oa2,ga2,na2,ka2,ta2⟩:=PK (enc:=bf) (e:=5) gc (λ_=>rfl) (λ_=>rfl) a.bg
 have lb2:b.bg.length<=1000000:=by have:=hb.ld;omega
 obtain⟨ob2,gb2,nb2,kb2,tb2⟩:=PK (enc:=bf) (e:=5) gc (λ_=>rfl) (λ_=>rfl) b.bg
 have la3:a.du.length<=1000000:=by have:=ha.lx;omega
 obtain⟨oa3,ga3,na3,ka3,ta3⟩:=PK (enc:=cO) (e:=3) gc (λ_=>rfl) (λ_=>rfl) a.du
 have lb3:b.du.length<=1000000:=by have:=hb.lx;omega
 obtain⟨ob3,gb3,nb3,kb3,tb3⟩:=PK (enc:=cO) (e:=3) gc (λ_=>rfl) (λ_=>rfl) b.du
 have la4:a.aO.length<=1000000:=by have:=ha.lc;omega
 obtain⟨oa4,ga4,na4,ka4,ta4⟩:=CO a.aO
 have lb4:b.aO.length<=1000000:=by have:=hb.lc;omega
 obtain⟨ob4,gb4,nb4,kb4,tb4⟩:=CO b.aO
 have la5:a.holds.length<=1000000:=by have:=ha.lh;omega
 obtain⟨oa5,ga5,na5,ka5,ta5⟩:=PK (enc:=bZ) (e:=4) gc (λ_=>rfl) (λ_=>rfl) a.holds
 have lb5:b.holds.length<=1000000:=by have:=hb.lh;omega
 obtain⟨ob5,gb5,nb5,kb5,tb5⟩:=PK (enc:=bZ) (e:=4) gc (λ_=>rfl) (λ_=>rfl) b.holds
 refine pB 48 Tryz.func25 ?_;refine(aD @aB.eq_1) ?_;refine zZ [(2,.ip (aB a)),(3,.ptr 1 0),(4,.ptr 2 0)] 0 rfl (gw (bu @an.eq_1 @aB.eq_1))<|zZ [(2,.ip (aB a)),(3,.ip (aB b)),(4,.ptr 2 0)] 1 rfl (gw (bu @an.eq_1 @aB.eq_1))<|zA [(2,.ip (aB a)),(3,.ip (aB b)),(4,.ptr 2 0)] [.gone,.gone,.cells [aR,aR,aR,aR,aR,aR]] zH ?_
 (repeat refine aG.seq ?_)
 refine aG.uQ [0,7,14,21,28,35] (ms:=[0,0,2,7,0,16,63,0,0,256,1023,0,2048,8191,0,0,32768,131071,0,262144,1048575,0,0,4194304,16777215,0,33554432,134217727,0,0,536870912,2147483647,0,4294967296,17179869183,0,0,68719476736,274877906943,0,549755813888,2199023255551,4398046511103,8796093022207]) rfl zW zW ?_;refine ej.g0 ii rfl ii ii ii (by intro S_;simp only[cL,bI,an,aC,m7,m6,↓reduceIte,aa,ad,al,ac,ap,ak,au,bl];first | done | rfl) ?_;refine(rW @aB.eq_1) ?_;refine ej.SB (N:=3) (m:=a.rules.length) (e:=8) (cs:=a.rules.flatMap bD) (S':=[.gone,.gone,.cells [aR,aR,aR,aR,aR,aR],if a.rules.length=0 then .gone else .cells (a.rules.flatMap bD)]) [9,3,10,12,13,2,14,16,17,19,20,21,23,24,26,27,28,30,31,33,34,35,37,38,40,41,42,44,45] ii rfl ii ii zW zW rfl (me (bu la0 oa0)) (by (simp only[dS,cA,am,ax,bF,ka0])<;>rfl) (by (try simp only[bX,am,ax,gk])<;>rfl) (by (simp only[As])<;>(repeat' apply aS)<;>first | exact True.intro | rfl | exact dQ g9) (by first | exact trivial | ((simp only[gO])<;>(repeat' apply aS)<;>first | exact True.intro | exact .inr rfl | exact .inr (dQ g9) | exact .inl zW)) rfl ?_;refine(rW @aB.eq_1) ?_;refine ej.SE (N:=3) (k:=a.rules.length) (m:=b.rules.length) (e:=8) (cs:=a.rules.flatMap bD) (cs2:=b.rules.flatMap bD) (S':=[.gone,.gone,.cells [aR,aR,aR,aR,aR,aR],.gone]) [12,13,2,14,16,3,17,19,20,21,23,24,26,27,28,30,31,33,34,35,37,38,40,41,42,44,45] ii rfl ii ii zW zW (λh S2_=>by simp only[cL,bI,an,aC,m7,m6,↓reduceIte,aa,ad,al,ac,ap,ak,au,bl,yQ h,lb0,ob0];first | done | rfl) (λh=>by simp only[cL,bI,an,aC,m7,m6,↓reduceIte,aa,ad,al,ac,ap,ak,au,bl,yR h,h,la0,lb0,ob0,na0,ta0,aj];first | done | rfl) (λh=>rc some (v6 h)) (by (simp only[cA,am,ax,oF (ka0 _)])<;>rfl) ga0 gb0 na0 nb0 (by (try simp only[bX,am,ax,gk])<;>rfl) (by (simp only[As])<;>(repeat' apply aS)<;>first | exact True.intro | rfl | exact dQ g9) rfl ?_;refine ej.g0 ii rfl ii ii ii (by intro S_;simp only[cL,bI,an,aC,m7,m6,↓reduceIte,aa,ad,al,ac,ap,ak,au,bl];first | done | rfl) ?_;refine(rW @aB.eq_1) ?_;refine ej.SB (N:=4) (m:=a.cH.length) (e:=5) (cs:=a.cH.flatMap dE) (S':=[.gone,.gone,.cells [aR,aR,aR,aR,aR,aR],.gone,if a.cH.length=0 then .gone else .cells (a.cH.flatMap dE)]) [16,3,17,19,20,2,21,23,24,26,27,28,30,31,33,34,35,37,38,40,41,42,44,45] ii rfl ii ii zW zW rfl (me (bu la1 oa1)) (by (simp only[dS,cA,am,ax,bF,ka1])<;>rfl) (by (try simp only[bX,am,ax,gk])<;>rfl) (by (simp only[As])<;>(repeat' apply aS)<;>first | exact True.intro | rfl | exact dQ g9) (by first | exact trivial | ((simp only[gO])<;>(repeat' apply aS)<;>first | exact True.intro | exact .inr rfl | exact .inr (dQ g9) | exact .inl zW)) rfl ?_;refine(rW @aB.eq_1) ?_;refine ej.SE (N:=4) (k:=a.cH.length) (m:=b.cH.length) (e:=5) (cs:=a.cH.flatMap dE) (cs2:=b.cH.flatMap dE) (S':=[.gone,.gone,.cells [aR,aR,aR,aR,aR,aR],.gone,.gone]) [19,20,2,21,23,3,24,26,27,28,30,31,33,34,35,37,38,40,41,42,44,45] ii rfl ii ii zW zW (λh S2_=>by simp only[cL,bI,an,aC,m7,m6,↓reduceIte,aa,ad,al,ac,ap,ak,au,bl,yQ h,lb1,ob1];first | done | rfl) (λh=>by simp only[cL,bI,an,aC,m7,m6,↓reduceIte,aa,ad,al,ac,ap,ak,au,bl,yR h,h,la1,lb1,ob1,na1,ta1,aj];first | done | rfl) (λh=>rc some (v6 h)) (by (simp only[cA,am,ax,oF (ka1 _)])<;>rfl) ga1 gb1 na1 nb1 (by (try simp only[bX,am,ax,gk])<;>rfl) (by (simp only[As])<;>(repeat' apply aS)<;>first | exact True.intro | rfl | exact dQ g9) rfl ?_;refine ej.g0 ii rfl ii ii ii (by intro S_;simp only[cL,bI,an,aC,m7,m6,↓reduceIte,aa,ad,al,ac,ap,ak,au,bl];first | done | rfl) ?_;refine(rW @aB.eq_1) ?_;refine ej.SB (N:=5) (m:=a.bg.length) (e:=5) (cs:=a.bg.flatMap bf) (S':=[.gone,.gone,.cells [aR,aR,aR,aR,aR,aR],.gone,.gone,if a.bg.length=0 then .gone else .cells (a.bg.flatMap bf)]) [23,3,24,26,27,2,28,30,31,33,34,35,37,38,40,41,42,44,45] ii rfl ii ii zW zW rfl (me (bu la2 oa2)) (by (simp only[dS,cA,am,ax,bF,ka2])<;>rfl) (by (try simp only[bX,am,ax,gk])<;>rfl) (by (simp only[As])<;>(repeat' apply aS)<;>first | exact True.intro | rfl | exact dQ g9) (by first | exact trivial | ((simp only[gO])<;>(repeat' apply aS)<;>first | exact True.intro | exact .inr rfl | exact .inr (dQ g9) | exact .inl zW)) rfl ?_;refine(rW @aB.eq_1) ?_;refine ej.SE (N:=5) (k:=a.bg.length) (m:=b.bg.length) (e:=5) (cs:=a.bg.flatMap bf) (cs2:=b.bg.flatMap bf) (S':=[.gone,.gone,.cells [aR,aR,aR,aR,aR,aR],.gone,.gone,.gone]) [26,27,2,28,30,3,31,33,34,35,37,38,40,41,42,44,45] ii rfl ii ii zW zW (λh S2_=>by simp only[cL,bI,an,aC,m7,m6,↓reduceIte,aa,ad,al,ac,ap,ak,au,bl,yQ h,lb2,ob2];first | done | rfl) (λh=>by simp only[cL,bI,an,aC,m7,m6,↓reduceIte,aa,ad,al,ac,ap,ak,au,bl,yR h,h,la2,lb2,ob2,na2,ta2,aj];first | done | rfl) (λh=>rc some (v6 h)) (by (simp only[cA,am,ax,oF (ka2 _)])<;>rfl) ga2 gb2 na2 nb2 (by (try simp only[bX,am,ax,gk])<;>rfl) (by (simp only[As])<;>(repeat' apply aS)<;>first | exact True.intro | rfl | exact dQ g9) rfl ?_;refine ej.g0 ii rfl ii ii ii (by intro S_;simp only[cL,bI,an,aC,m7,m6,↓reduceIte,aa,ad,al,ac,ap,ak,au,bl];first | done | rfl) ?_;refine(rW @aB.eq_1) ?_;refine ej.SB (N:=6) (m:=a.du.length) (e:=3) (cs:=a.du.flatMap cO) (S':=[.gone,.gone,.cells [aR,aR,aR,aR,aR,aR],.gone,.gone,.gone,if a.du.length=0 then .gone else .cells (a.du.flatMap cO)]) [30,3,31,33,34,2,35,37,38,40,41,42,44,45] ii rfl ii ii zW zW rfl (me (bu la3 oa3)) (by (simp only[dS,cA,am,ax,bF,ka3])<;>rfl) (by (try simp only[bX,am,ax,gk])<;>rfl) (by (simp only[As])<;>(repeat' apply aS)<;>first | exact True.intro | rfl | exact dQ g9) (by first | exact trivial | ((simp only[gO])<;>(repeat' apply aS)<;>first | exact True.intro | exact .inr rfl | exact .inr (dQ g9) | exact .inl zW)) rfl ?_;refine(rW @aB.eq_1) ?_;refine ej.SE (N:=6) (k:=a.du.length) (m:=b.du.length) (e:=3) (cs:=a.du.flatMap cO) (cs2:=b.du.flatMap cO) (S':=[.gone,.gone,.cells [aR,aR,aR,aR,aR,aR],.gone,.gone,.gone,.gone]) [33,34,2,35,37,3,38,40,41,42,44,45] ii rfl ii ii zW zW (λh S2_=>by simp only[cL,bI,an,aC,m7,m6,↓reduceIte,aa,ad,al,ac,ap,ak,au,bl,yQ h,lb3,ob3];first | done | rfl) (λh=>by simp only[cL,bI,an,aC,m7,m6,↓reduceIte,aa,ad,al,ac,ap,ak,au,bl,yR h,h,la3,lb3,ob3,na3,ta3,aj];first | done | rfl) (λh=>rc some (v6 h)) (by (simp only[cA,am,ax,oF (ka3 _)])<;>rfl) ga3 gb3 na3 nb3 (by (try simp only[bX,am,ax,gk])<;>rfl) (by (simp only[As])<;>(repeat' apply aS)<;>first | exact True.intro | rfl | exact dQ g9) rfl ?_;refine ej.g0 ii rfl ii ii ii (by intro S_;simp only[cL,bI,an,aC,m7,m6,↓reduceIte,aa,ad,al,ac,ap,ak,au,bl];first | done | rfl) ?_;refine(rW @aB.eq_1) ?_;refine ej.SB (N:=7) (m:=a.aO.length) (e:=8) (cs:=a.aO.flatMap bD) (S':=[.gone,.gone,.cells [aR,aR,aR,aR,aR,aR],.gone,.gone,.gone,.gone,if a.aO.length=0 then .gone else .cells (a.aO.flatMap bD)]) [37,3,38,40,41,2,42,44,45] ii rfl ii ii zW zW rfl (me (bu la4 oa4)) (by (simp only[dS,cA,am,ax,bF,ka4])<;>rfl) (by (try simp only[bX,am,ax,gk])<;>rfl) (by (simp only[As])<;>(repeat' apply aS)<;>first | exact True.intro | rfl | exact dQ g9) (by first | exact trivial | ((simp only[gO])<;>(repeat' apply aS)<;>first | exact True.intro | exact .inr rfl | exact .inr (dQ g9) | exact .inl zW)) rfl ?_;refine(rW @aB.eq_1) ?_;refine ej.SE (N:=7) (k:=a.aO.length) (m:=b.aO.length) (e:=8) (cs:=a.aO.flatMap bD) (cs2:=b.aO.flatMap bD) (S':=[.gone,.gone,.cells [aR,aR,aR,aR,aR,aR],.gone,.gone,.gone,.gone,.gone]) [40,41,2,42,44,3,45] ii rfl ii ii zW zW (λh S2_=>by simp only[cL,bI,an,aC,m7,m6,↓reduceIte,aa,ad,al,ac,ap,ak,au,bl,yQ h,lb4,ob4];first | done | rfl) (λh=>by simp only[cL,bI,an,aC,m7,m6,↓reduceIte,aa,ad,al,ac,ap,ak,au,bl,yR h,h,la4,lb4,ob4,na4,ta4,aj];first | done | rfl) (λh=>rc some (v6 h)) (by (simp only[cA,am,ax,oF (ka4 _)])<;>rfl) ga4 gb4 na4 nb4 (by (try simp only[bX,am,ax,gk])<;>rfl) (by (simp only[As])<;>(repeat' apply aS)<;>first | exact True.intro | rfl | exact dQ g9) rfl ?_;refine ej.g0 ii rfl ii ii ii (by intro S_;simp only[cL,bI,an,aC,m7,m6,↓reduceIte,aa,ad,al,ac,ap,ak,au,bl];first | done | rfl) ?_;refine(rW @aB.eq_1) ?_;refine ej.SB (N:=8) (m:=a.holds.length) (e:=4) (cs:=a.holds.flatMap bZ) (S':=[.gone,.gone,.cells [aR,aR,aR,aR,aR,aR],.gone,.gone,.gone,.gone,.gone,if a.holds.length=0 then .gone else .cells (a.holds.flatMap bZ)]) [44,3,45] ii rfl ii ii zW zW rfl (me (bu la5 oa5)) (by (simp only[dS,cA,am,ax,bF,ka5])<;>rfl) (by (try simp only[bX,am,ax,gk])<;>rfl) (by (simp only[As])<;>(repeat' apply aS)<;>first | exact True.intro | rfl | exact dQ g9) (by first | exact trivial | ((simp only[gO])<;>(repeat' apply aS)<;>first | exact True.intro | exact .inr rfl | exact .inr (dQ g9) | exact .inl zW)) rfl ?_;refine(rW @aB.eq_1) ?_;refine ej.SE (N:=8) (k:=a.holds.length) (m:=b.holds.length) (e:=4) (cs:=a.holds.flatMap bZ) (cs2:=b.holds.flatMap bZ) (S':=[.gone,.gone,.cells [aR,aR,aR,aR,aR,aR],.gone,.gone,.gone,.gone,.gone,.gone]) [] ii rfl ii ii zW zW (λh S2_=>by simp only[cL,bI,an,aC,m7,m6,↓reduceIte,aa,ad,al,ac,ap,ak,au,bl,yQ h,lb5,ob5];first | done | rfl) (λh=>by simp only[cL,bI,an,aC,m7,m6,↓reduceIte,aa,ad,al,ac,ap,ak,au,bl,yR h,h,la5,lb5,ob5,na5,ta5,aj];first | done | rfl) (λh=>rc some (v6 h)) (by (simp only[cA,am,ax,oF (ka5 _)])<;>rfl) ga5 gb5 na5 nb5 (by (try simp only[bX,am,ax,gk])<;>rfl) (by (simp only[As])<;>(repeat' apply aS)<;>first | exact True.intro | rfl | exact dQ g9) rfl ?_;refine(kR) ?_;refine ej.e ii ii rfl zW zl (by first | exact trivial | ((simp only[gO])<;>(repeat' apply aS)<;>first | exact True.intro | exact .inr rfl | (refine .inr ?_;simp only[cL,bI,an,aC,m7,m6,↓reduceIte,aa,ad,al,ac,ap,ak,au,bl,aM];first | done | rfl) | exact .inl zW)) ?_;exact(kN)<|zo [.cell 4 36] (hq:=by simp only[aB,QG])
def Ol(xs:List aA):∀l:List aA,(oP l xs).length<=l.length+xs.length:=by
 have one:∀(x:aA) (l:List aA),(iG x l).length<=l.length+1:=by
  intro x l
  induction l with
  | nil=>exact aj _
  | cons y l ih=>
   rw[iG];split
   ·rw[i7,i7];omega
   ·split
    ·omega
    ·rw[i7];exact aj _
 induction xs with
 | nil=>exact λl=>aj _
 | cons x xs ih=>
  intro l;have h1:=ih (iG x l);have h2:=one x l;show(oP (iG x l) xs).length<=_;rw[i7];omega
def LI(l xs:List aA)(x:aA):oP l (xs++[x])=iG x (oP l xs):=by
 unfold oP;rw[List.foldl_append];rfl
def Pp{a b:dB}(ha:jf a)(hb:jf b):jf ⟨b.rules,a.cH,b.bg,a.du,b.aO,b.holds⟩:=⟨hb.fh,hb.qI,hb.HK,hb.hold,hb.lr,hb.lc,hb.ld,hb.lh,ha.ls,ha.lx⟩
def MP{a b:dB}(ha:jf a)(hb:jf b)(fa:(a.rules.length<=5/\a.aO.length<=5/\a.bg.length<=5)/\a.holds.length<=5/\a.cH.length<=5/\a.du.length<=5)(fb:(b.rules.length<=5/\b.aO.length<=5/\b.bg.length<=5)/\b.holds.length<=5/\b.cH.length<=5/\b.du.length<=5):jf ⟨a.rules++b.rules,a.cH,a.bg++b.bg,a.du,a.aO++b.aO,a.holds++b.holds⟩:=by
 obtain⟨⟨f1,f2,f3⟩,f4,-⟩:=fa;obtain⟨⟨g1,g2,g3⟩,g4,-⟩:=fb;refine⟨λr hr=>?_,λr hr=>?_,λr hr=>?_,λr hr=>?_,?_,?_,?_,?_,ha.ls,ha.lx⟩
 ·exact(mem_append.1 hr).elim (ha.fh r) (hb.fh r)
 ·exact(mem_append.1 hr).elim (ha.qI r) (hb.qI r)
 ·exact(mem_append.1 hr).elim (ha.HK r) (hb.HK r)
 ·exact(mem_append.1 hr).elim (ha.hold r) (hb.hold r)
 all_goals
  rw[li];omega
abbrev jI(c:List aV)(dmg:bC)(a:dB)(l:List bB)(vehicle:List Nat)(day:Int):Fm:=[(3,an 14 l ar),(4,ah vehicle),(5,ab day),(6,.ip (an 3 c ao::aF dmg)),(7,.ip (aB a))]
def GG(c:List aV)(dmg:bC)(a b:dB)(l:List bB)(vehicle:List Nat)(day:Int)(ha:Mn c dmg l)(hba:pa a)(hbb:pa b):
 PC prog 7 [.ag (an 3 c ao::aF dmg),.ag (aB a),.ag (aB b),an 14 l ar,ah vehicle,ab day] (·=ai true):=by
 have hfl:(aF dmg).length=3:=eW dmg;have hft:(aF dmg).take 3=aF dmg:=ay (by rw[hfl];exact aj _);have hfk:=λo:Nat=>bQ (o:=o) (aT dmg);have hfn:=λo:Nat=>cg (o:=o) (aT dmg);have hfew:=IN c dmg a l vehicle ha hba;have hok:=PI (c:=c) (dmg:=dmg) (b:=a) (l:=l) (v:=vehicle);have h28:=Ad b hbb;have hok2:=E2 (b:=b);generalize Np c dmg a l vehicle=g at hfew hok;generalize Proofs.yg b=g2 at h28 hok2
 refine pB 81 func7 ?_;refine(aD (cJ hfk hfn @aB.eq_1)) ?_;refine zZ [(3,an 14 l ar),(4,ah vehicle),(5,ab day),(6,.ip (an 3 c ao::aF dmg)),(7,.ptr 1 0),(8,.ptr 2 0)] 0 rfl ⟨.inl rfl,.inl rfl,.inl rfl,.inr (.ptr rfl (cu.refl (aT dmg)) (a8 _)),zj⟩<|zZ ((8,.ptr 2 0)::jI c dmg a l vehicle day) 1 rfl (gw (bu @an.eq_1 @aB.eq_1))<|zA ((8,.ptr 2 0)::jI c dmg a l vehicle day) [.gone,.gone,.cells (aB b)] (cf @aB.eq_1)<|(zC)<|(zK GC)<|(zR)<|(e9 (cJ hfl hft @aB.eq_1))<|(zK hfew (hwk:=.cons (.ag (cu.refl (aT dmg))) zr)) ?_
 cases g
 ·exact(zR)<|(cI)<|zo [.tmp 12]
 refine(Mf @aB.eq_1)<|(zK h28) ?_
 cases g2
 ·exact(zR)<|(cI)<|zo [.tmp 12]
 refine(zR)<|(zN) ?_
 obtain⟨hc,hf,hbo,hl,hle,hfe⟩:=hok rfl ha hba;obtain⟨hbo2,hfe2⟩:=hok2 rfl hbb;have hmix:=Pp hbo hbo2;have hjoin:=MP hbo hbo2 hfe hfe2;have hlaw:=Lf c dmg a b l vehicle day;have h1:=pV c dmg a l vehicle day hbo hc hf i4 hle;have h2:=pV c dmg ⟨b.rules,a.cH,b.bg,a.du,b.aO,b.holds⟩ l vehicle day hmix hc hf i4 hle;have h3:=pV c dmg ⟨a.rules++b.rules,a.cH,a.bg++b.bg,a.du,a.aO++b.aO,a.holds++b.holds⟩ l vehicle day hjoin hc hf i4 hle;have l1:=sw (c:=c) (dmg:=dmg) (vehicle:=vehicle) (day:=day) hbo (l:=l) i4 hle;have l2:=sw (c:=c) (dmg:=dmg) (vehicle:=vehicle) (day:=day) hmix (l:=l) i4 hle;have l3:=sw (c:=c) (dmg:=dmg) (vehicle:=vehicle) (day:=day) hjoin (l:=l) i4 hle;have hboth:=IE a ⟨b.rules,a.cH,b.bg,a.du,b.aO,b.holds⟩ hbo hmix
 refine zA ((8,.ptr 2 0)::(13,ai true)::jI c dmg a l vehicle day) [.gone,.gone,.cells (aB b)] (cf @aB.eq_1)<|(zs) ?_;refine nh [0,1,0,4,3,19,63,127] ?_;refine(Hp @aB.eq_1) ?_;refine SD.e ii rfl ii rfl rfl ii (me @aB.eq_1) ?_;refine(Hp @aB.eq_1) ?_;refine SD.e ii rfl ii rfl rfl ii (me @aB.eq_1) ?_;refine(zM) ?_;refine zZ ((8,.ip (aB ⟨b.rules,a.cH,b.bg,a.du,b.aO,b.holds⟩))::(13,ai true)::jI c dmg a l vehicle day) 2 rfl (gw (bu @an.eq_1 @aB.eq_1))<|zA ((8,.ip (aB ⟨b.rules,a.cH,b.bg,a.du,b.aO,b.holds⟩))::(13,ai true)::jI c dmg a l vehicle day) [] (cf @aB.eq_1)<|(e9 @aB.eq_1)<|(zK hboth (hc:=Cg @aB.eq_1) (hfl:=.inr zr))<|(cP @aB.eq_1)<|zA ((14,.ptr 0 0)::(8,.ip (aB ⟨b.rules,a.cH,b.bg,a.du,b.aO,b.holds⟩))::(13,ai true)::jI c dmg a l vehicle day) [.cells (aB (Q9 a ⟨b.rules,a.cH,b.bg,a.du,b.aO,b.holds⟩))] (cf @aB.eq_1)<|(zs) ?_;refine nh [0,1,0,4,3,19,63,127] ?_;refine(Hp @aB.eq_1) ?_;refine SD.e ii rfl ii rfl rfl ii (me @aB.eq_1) ?_;refine(Hp @aB.eq_1) ?_;refine SD.e ii rfl ii rfl rfl ii (me @aB.eq_1) ?_;refine(zM) ?_;refine zZ ((14,.ip (aB ⟨a.rules++b.rules,a.cH,a.bg++b.bg,a.du,a.aO++b.aO,a.holds++b.holds⟩))::(8,.ip (aB ⟨b.rules,a.cH,b.bg,a.du,b.aO,b.holds⟩))::(13,ai true)::jI c dmg a l vehicle day) 0 rfl (gw (bu @an.eq_1 @aB.eq_1))<|zA ((14,.ip (aB ⟨a.rules++b.rules,a.cH,a.bg++b.bg,a.du,a.aO++b.aO,a.holds++b.holds⟩))::(8,.ip (aB ⟨b.rules,a.cH,b.bg,a.du,b.aO,b.holds⟩))::(13,ai true)::jI c dmg a l vehicle day) [] (cf @aB.eq_1) ?_
 obtain⟨R1,e1⟩:∃R,R=eX c dmg a l vehicle day:=⟨_,rfl⟩;obtain⟨R2,e2⟩:∃R,R=eX c dmg ⟨b.rules,a.cH,b.bg,a.du,b.aO,b.holds⟩ l vehicle day:=⟨_,rfl⟩;obtain⟨R3,e3⟩:∃R,R=eX c dmg ⟨a.rules++b.rules,a.cH,a.bg++b.bg,a.du,a.aO++b.aO,a.holds++b.holds⟩ l vehicle day:=⟨_,rfl⟩;rw[<-e1] at h1 l1 hlaw;rw[<-e2] at h2 l2 hlaw;rw[<-e3] at h3 l3 hlaw;clear e1 e2 e3
 refine(e9 (cJ hfl hft @aB.eq_1))<|(zK h1 (hwk:=.cons (.ag (cu.refl (aT dmg))) zr) (hfl:=.inr (.cons (.ag (cu.refl (aT dmg))) zr)))<|(zR)<|(e9 (cJ hfl hft @aB.eq_1))<|(zK h2 (hwk:=.cons (.ag (cu.refl (aT dmg))) zr) (hfl:=.inr (.cons (.ag (cu.refl (aT dmg))) zr)))<|(zR)<|(zV) ?_
 have hlR2:R2.length<=1000000:=by omega
 refine(zs) ?_;refine Ho R2 (λk (w:List aA)=>w=oP R1 (R2.take k)) (λk w=>(17,ab k)::(16,an 3 R2 aw)::(15,an 3 w aw)::(14,.ip (aB ⟨a.rules++b.rules,a.cH,a.bg++b.bg,a.du,a.aO++b.aO,a.holds++b.holds⟩))::(13,ai true)::jI c dmg a l vehicle day) (λk w=>[]) (R1) zH ii ?_;intro k w hk hall;by_cases hlt:k<R2.length
 ·obtain⟨f,hx⟩:∃f,R2[k]?=some f:=⟨R2[k],jp hlt⟩;have hp:=Ol (R2.take k) R1;rw[<-hall,ci] at hp;have hput:=Mb w f i4
  refine(aD (show decide ((k:Int)<(R2.length:Int))=true by simp only[wp];omega))<|(gA)<|(e9 (cJ hlt (aQ (e:=3) (enc:=aw) gc hx) @aw.eq_1))<|(zK hput (hc:=Cg @aw.eq_1) (hfl:=.inr zr))<|(zR)<|(aD (zi hlt hlR2)) ?_;refine w8 hlt (iG f w) zH (by rw[cM hx,LI,<-hall])
 obtain rfl:k=R2.length:=by omega
 rw[ba,<-hlaw] at hall;subst hall;have hsame:=Al w w i4;rw[wl rfl] at hsame
 refine(aD (show decide ((R2.length:Int)<(R2.length:Int))=false by simp))<|(gg) ?_
 simp only[eN,c8,bW,bK,if_true]
 (try change aG _ _ _ _ _)
 exact(e9 (cJ hfl hft @aB.eq_1))<|(zK h3 (hwk:=.cons (.ag (cu.refl (aT dmg))) zr) (hfl:=.inr (.cons (.ag (cu.refl (aT dmg))) zr)))<|(zQ)<|(zK hsame)<|(zR)<|zo [.tmp 12]
end Go.Proofs
namespace Go.Proofs.YtjiejanfnnieaaaGreat
open Go.Proofs Go.Ev Go.ChangeShapes Go.WideShapes Go.ChangeAt Go.RowKit
set_option maxRecDepth 100000
def Qz:Tryz.f7.params.toList=[29,36,36,37,9,3]:=by kernel_rfl
def law_lifted(os:Os)(started:os.Started)(H:Type)(enc:TypeId×Value->H):
 ReturnsInHanded {} ck os 7 .any (Rows.faultJoinsSpec.pre6 enc prog Tryz.f7 Rows.faultJoinsRow.domain false) (Rows.faultJoinsSpec.post enc prog Tryz.f7 false true false false):=by
 refine returnsInHanded_of_change_sized (C:=ck) Ug started zW func7
  (ChangeSpec.witness6 (enc:=enc) (C:=ck) false ⟨#[],#[.agg #[.slice none 0 0,.int .i64 0,.int .i64 0,.slice none 0 0],.agg #[.slice none 0 0,.slice none 0 0,.slice none 0 0,.slice none 0 0,.slice none 0 0,.slice none 0 0],.agg #[.slice none 0 0,.slice none 0 0,.slice none 0 0,.slice none 0 0,.slice none 0 0,.slice none 0 0],.slice none 0 0,.string ⟨#[]⟩,.int .i64 0],[]⟩ 8 zW zW zW zW) ?_
 intro W base args ds gs before hval0 hW _ hwt0 _;have hval:∀(j:Nat) t v,Tryz.f7.params[j]?=some t->args[j]?=some v->Value.okWide prog W .any base t v:=hval0;have hW':=hW;obtain⟨p,q,hA0,hV,rfl,hfz,hnd⟩:=hW;have hA:DataW.TrodAll enc prog W 0 (λ_=>true) true Tryz.f7.params.toList args.toList ds p:=hA0;rw[Qz] at hA;obtain⟨v0,v1,v2,v3,v4,v5,d0,d1,d2,d3,d4,d5,p0,p1,p2,p3,p4,p5,rfl,rfl,rfl,h0,h1,h2,h3,h4,h5⟩:=IC hA;obtain⟨rfl,rfl⟩:=trodVars_none hV;have hwt1:(DataW.weightsEach prog (Tryz.f7.params.toList++Rows.faultJoinsSpec.plain.varTypes prog) ([d0,d1,d2,d3,d4,d5]++[])).all (·<=reachBytes)=true:=hwt0
 have hwt:∀{j:Nat} {t:TypeId} {d:DataW H},(Tryz.f7.params.toList++Rows.faultJoinsSpec.plain.varTypes prog)[j]?=some t->([d0,d1,d2,d3,d4,d5]++[])[j]?=some d->∀x∈d.weights prog t,x<=reachBytes:=by
  intro j t d ht hd x hx;have:=all_eq_true.1 hwt1 x (DataW.weights_mem_each ht hd x hx);simpa using this
 obtain⟨j0,y0,o0,w0⟩:=oq O2 (hval 0 29 v0 zW rfl) h0 (hwt (j:=0) zW rfl);obtain⟨j1,y1,o1,w1⟩:=oq Ky (hval 1 36 v1 zW rfl) h1 (hwt (j:=1) zW rfl);obtain⟨j2,y2,o2,w2⟩:=oq Ky (hval 2 36 v2 zW rfl) h2 (hwt (j:=2) zW rfl);obtain⟨j3,y3,o3,w3⟩:=oq Su (hval 3 37 v3 zW rfl) h3 (hwt (j:=3) zW rfl);obtain⟨j4,y4,o4,w4⟩:=oq Uq (hval 4 9 v4 zW rfl) h4 (hwt (j:=4) zW rfl);obtain⟨j5,y5,o5,w5⟩:=oq Up (hval 5 3 v5 zW rfl) h5 (hwt (j:=5) zW rfl);obtain⟨e0,rfl,o0⟩:=o0;obtain⟨c,dmg,s0,f0,g0⟩:=OJ Dj o0;obtain⟨e1,rfl,o1⟩:=o1;obtain⟨b1,s1,f1⟩:=JD Dj o1;obtain⟨e2,rfl,o2⟩:=o2;obtain⟨b2,s2,f2⟩:=JD Dj o2;have o3:kr reachBytes (.sl (.st K4)) [y3]:=o3;rw[kr] at o3;obtain⟨n3,rows3,e3,q3,k3⟩:=o3;simp only[mt,and_true] at e3;subst e3;obtain⟨l3,s3,u3,f3⟩:=mV ar T2 λr hr=>S7 (by have:=k3 r hr;rw[kr] at this;exact this);obtain⟨x4,rfl,f4⟩:=QI (B:=reachBytes) o4;obtain⟨x5,rfl⟩:=PS (B:=reachBytes) o5;have hr:=Dj;have hlaw:=GG c dmg b1 b2 l3 x4 x5 ⟨f0,g0,by omega,f3⟩ f1 f2
 have hwd:nr W [.ag e0,.ag e1,.ag e2,.sl n3 rows3.length (Ty.st K4).size rows3.flatten,.fl (.str x4),.fl (.int .i64 x5)] (#[v0,v1,v2,v3,v4,v5]:Array Value).toList:=by
  rw[eb];refine⟨_,_,rfl,w0,?_⟩;rw[eb];refine⟨_,_,rfl,w1,?_⟩;rw[eb];refine⟨_,_,rfl,w2,?_⟩;rw[eb];refine⟨_,_,rfl,w3,?_⟩;rw[eb];refine⟨_,_,rfl,w4,?_⟩;rw[eb];refine⟨_,_,rfl,w5,?_⟩;rw[iX]
 have hdv:eO [.ag e0,.ag e1,.ag e2,.sl n3 rows3.length (Ty.st K4).size rows3.flatten,.fl (.str x4),.fl (.int .i64 x5)]=[.ag (an 3 c ao::aF dmg),.ag (aB b1),.ag (aB b2),an 14 l3 ar,ah x4,ab x5]:=by
  simp only[eO,↓nw s3 u3,EY,s0,s1,s2];rfl
 refine(RZ dz func7 rfl hwd (by rw[hdv];exact hlaw)).mono λe W' ⟨he,hb⟩=>?_;subst he
 have hlt:∀x∈p0++p1++p2++p3++p4++p5,x.block<W.heap.size:=λx hx=>by simpa using hW'.lt x (by simpa using hx)
 have z0:=Below.trod LB zW (ww zW) h0 hb (λx hx=>hlt x (by simp[hx]));have z1:=Below.trod LB zW (ww zW) h1 hb (λx hx=>hlt x (by simp[hx]));have z2:=Below.trod LB zW (ww zW) h2 hb (λx hx=>hlt x (by simp[hx]));have z3:=Below.trod LB zW (ww zW) h3 hb (λx hx=>hlt x (by simp[hx]));have z4:=Below.trod LB zW (ww zW) h4 hb (λx hx=>hlt x (by simp[hx]));have z5:=Below.trod LB zW (ww zW) h5 hb (λx hx=>hlt x (by simp[hx]));exact⟨_,rfl,_,_,_,[],_,[],hW',trodAll_mk1 (shut_bool Tryz.underlying4 true),IB z0 z1 z2 z3 z4 z5,rfl,hb.frame _,λh=>by cases h⟩
end Go.Proofs.YtjiejanfnnieaaaGreat
