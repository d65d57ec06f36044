/- Lemmas of this claim, each with its conditions. -/
import Derived.Test.YtjiejanfnnieaaaGreatW8
import Derived.Test.YtjiejanfnnieaaaGreatW7
import Derived.Test.YtjiejanfnnieaaaGreatW5
import Derived.Test.YtjiejanfnnieaaaGreatW4
import Derived.Test.YtjiejanfnnieaaaGreatW3
import Derived.ProofKit
import Derived.SizedLaws
import Derived.Carry
import Derived.Test.YtjiejanfnnieaaaGreatRows
set_option linter.all false
set_option maxHeartbeats 8000000
open Go.Proofs.Tryz (prog func6)
open Nat (ble beq)
open List (all_eq_true mem_append)
open Nat renaming reduceEqDiff -> aa, reduceLeDiff -> ac, reduceAdd -> aj, reduceMul -> al, reduceLT -> ap, le_refl -> ax, zero_le -> a8, zero_add -> bd, beq_refl -> bh, le_trans -> b7, zero_mul -> b8
open List renaming map_cons -> ad, map_nil -> am, mem_of_getElem? -> aV, take_of_length_le -> a7, getElem?_append_left -> a9, length_map -> ba, take_length -> bb, getElem?_append -> be, getElem?_replicate -> bi, not_mem_nil -> bk, append_nil -> bt, length -> bv, map_replicate -> bw, mem_cons -> b6, map_append -> cb, replicate -> cc
open And renaming intro -> ay
open Bool renaming and_eq_true -> aS, not_eq_true' -> bc, or_true -> b9
open Go.Proofs.Tryz renaming checked -> ca
namespace Go.Proofs
open Go.Ev
set_option maxRecDepth 100000
def jQ(s:List Nat):Bool:=!(decide (300<(s.length:Int)))
def pT(e:bC):Bool:=jQ e.part&&(jQ e.kind&&(jQ e.bu&&(jQ e.slot&&(jQ e.key&&jQ e.value))))
def Nd(c:List aU)(dmg:bE)(l:List bC):Bool:=(!(decide (16<(l.length:Int)))&&(Proofs.sU c&&Proofs.EU dmg))&&l.all pT
def Gt(c:List aU)(dmg:bE)(l:List bC)(hf:kF dmg)(hlen:l.length<=r9):PC prog 28 [.ag (ak 3 c aq::aE dmg),ak 14 l ar,ab 16] (·=ai (Nd c dmg l)):=by
 have hfl:(aE dmg).length=3:=eX dmg;have hft:(aE dmg).take 3=aE dmg:=a7 (by rw[hfl];exact ax _);have hfk:=λo:Nat=>bU (o:=o) (aY dmg);have hfn:=λo:Nat=>cr (o:=o) (aY dmg);unfold Nd
 refine pB 69 Tryz.func28 ?_;refine(aA (bx hfk hfn)) ?_;refine zZ [(1,ak 14 l ar),(2,ab 16),(3,.ip (ak 3 c aq::aE dmg))] 0 rfl ⟨.inl rfl,.inl rfl,.inr (.ptr rfl (cC.refl (aY dmg)) (a8 _)),trivial⟩<|zA [(1,ak 14 l ar),(2,ab 16),(3,.ip (ak 3 c aq::aE dmg))] [] zH ?_
 cases g0:decide (16<(l.length:Int));rotate_left
 ·exact(aA g0)<|(cL)<|zo [.tmp 6]
 refine(e9 g0)<|(zK (IB c)) ?_
 cases g1:Proofs.sU c
 ·exact(zR)<|(cL)<|zo [.tmp 6]
 refine(L5 (bx hfl hft))<|(zK (IA dmg hf) (hwk:=cC.cons (.ag (cC.refl (aY dmg))) .nil)) ?_
 cases g2:Proofs.EU dmg
 ·exact(zR)<|(cL)<|zo [.tmp 6]
 refine(zR)<|(lf)<|(zs) ?_;refine zL l (λk=>(l.take k).all pT=true) (λk=>[(1,ak 14 l ar),(7,ab k)]) (λk=>[]) zH zp ?_;intro k hk hall
 by_cases hlt:k<l.length;rotate_left
 ·refine(aA (show decide ((k:Int)<(l.length:Int))=false by simp only[wn];omega))<|(gh) ?_
  obtain rfl:k=l.length:=by omega
  rw[bb] at hall
  exact(zV)<|zo [.tmp 6] (hq:=by rw[hall];rfl)
 obtain⟨x,hx⟩:∃x,l[k]?=some x:=⟨l[k],jp hlt⟩;have hbad:pT x=false->l.all pT=false:=λh=>iq (aV hx) h
 refine(aA (show decide ((k:Int)<(l.length:Int))=true by simp only[wp];omega))<|(gz)<|(aA (cO hlt (aT (e:=14) (enc:=ar) gc hx) @ar.eq_1)) ?_
 cases h1:decide (300<(x.part.length:Int));rotate_left
 ·exact(aA h1)<|(cL)<|zo [.tmp 6] (hq:=by rw[hbad (by unfold pT jQ;rw[h1];rfl)];rfl)
 cases h2:decide (300<(x.kind.length:Int));rotate_left
 ·exact(aA (bx h1 h2))<|(cL)<|zo [.tmp 6] (hq:=by rw[hbad (by unfold pT jQ;rw[h1,h2];rfl)];rfl)
 cases h3:decide (300<(x.bu.length:Int));rotate_left
 ·exact(aA (cO h1 h2 h3))<|(cL)<|zo [.tmp 6] (hq:=by rw[hbad (by unfold pT jQ;rw[h1,h2,h3];rfl)];rfl)
 cases h4:decide (300<(x.slot.length:Int));rotate_left
 ·exact(aA (gr h1 h2 h3 h4))<|(cL)<|zo [.tmp 6] (hq:=by rw[hbad (by unfold pT jQ;rw[h1,h2,h3,h4];rfl)];rfl)
 cases h5:decide (300<(x.key.length:Int));rotate_left
 ·exact(aA (na h1 h2 h3 h4 h5))<|(cL)<|zo [.tmp 6] (hq:=by rw[hbad (by unfold pT jQ;rw[h1,h2,h3,h4,h5];rfl)];rfl)
 cases h6:decide (300<(x.value.length:Int));rotate_left
 ·exact(aA (xO h1 h2 h3 h4 h5 h6))<|(cL)<|zo [.tmp 6] (hq:=by rw[hbad (by unfold pT jQ;rw[h1,h2,h3,h4,h5,h6];rfl)];rfl)
 refine(aA (xO h1 h2 h3 h4 h5 h6))<|(zN)<|(aA (zi hlt hlen)) ?_;refine zX hlt zH (gE hx hall (by unfold pT jQ;rw[h1,h2,h3,h4,h5,h6];rfl))
def nH(l:List (List Nat))(hlen:l.length<=1000000):PC prog 71 [ak 1 l (aG ah)] (·=ai (l.all jQ)):=by
 refine pB 16 Tryz.func71 ?_;refine(og)<|(zs) ?_;refine zL l (λk=>(l.take k).all jQ=true) (λk=>[(0,ak 1 l (aG ah)),(3,ab k)]) (λk=>[]) zH zp ?_;intro k hk hall
 by_cases hlt:k<l.length;rotate_left
 ·refine(aA (show decide ((k:Int)<(l.length:Int))=false by simp only[wn];omega))<|(gh) ?_
  obtain rfl:k=l.length:=by omega
  rw[bb] at hall
  exact(zV)<|zo [.tmp 2] (hq:=by rw[hall])
 obtain⟨x,hx⟩:∃x,l[k]?=some x:=⟨l[k],jp hlt⟩
 refine(aA (show decide ((k:Int)<(l.length:Int))=true by simp only[wp];omega))<|(gz) ?_
 cases g:decide (300<(x.length:Int))
 ·refine(aA (gr hlt (aT (e:=1) (enc:=aG ah) gc hx) @aG.eq_1 g))<|(zN)<|(aA (zi hlt hlen)) ?_;refine zX hlt zH (gE hx hall (by unfold jQ;rw[g];rfl))
 ·exact(aA (gr hlt (aT (e:=1) (enc:=aG ah) gc hx) @aG.eq_1 g))<|(cL)<|zo [.tmp 2] (hq:=by rw[iq (p:=jQ) (aV hx) (by unfold jQ;rw[g];rfl)])
def Iq(s:uD):Bool:=[s.kind,s.slot,s.other,s.pQ].all jQ
def w8(d:ea):Bool:=[d.name,d.kind,d.key].all jQ
def Ct(x:pS):Bool:=[x.part,x.eN].all jQ
def kG(h:mw):Bool:=[h.id,h.vehicle].all jQ&&(!(decide (20<(h.members.length:Int)))&&!(decide (20<(h.back.length:Int))))
def x8(b:dy):Bool:=(!(decide (5<(b.bB.length:Int)))&&(!(decide (5<(b.aW.length:Int)))&&(!(decide (5<(b.cg.length:Int)))&&(!(decide (5<(b.holds.length:Int)))&&(Proofs.sg b.rules&&Proofs.sg b.aL)))))&&(b.bB.all Iq&&(b.aW.all w8&&(b.cg.all Ct&&b.holds.all kG)))
structure oV (b:dy):Prop where
 eN:∀r∈b.rules,(r.name.length<=r9/\r.kind.length<=r9)/\eS r.cond
 qC:∀r∈b.aL,(r.name.length<=r9/\r.kind.length<=r9)/\eS r.cond
 Hy:∀d∈b.aW,(∀x∈d.name,x<256)/\(∀x∈d.kind,x<256)/\∀x∈d.key,x<256
 lr:b.rules.length<=r9
 lc:b.aL.length<=r9
def zJ(b:dy)(hb:oV b):PC prog 24 [.ag (az b)] (·=ai (Proofs.x8 b)):=by
 refine pB 167 Tryz.func24 ?_;unfold Proofs.x8
 refine(aA @az.eq_1) ?_;refine zZ [(1,.ip (az b))] 0 rfl (gm (bx @ak.eq_1 @az.eq_1))<|zA [(1,.ip (az b))] [] zH ?_
 cases g1:decide (5<(b.bB.length:Int));rotate_left
 ·exact(aA (bx @az.eq_1 g1))<|(cL)<|zo [.tmp 2]
 cases g2:decide (5<(b.aW.length:Int));rotate_left
 ·exact(aA (cO @az.eq_1 g1 g2))<|(cL)<|zo [.tmp 2]
 cases g3:decide (5<(b.cg.length:Int));rotate_left
 ·exact(aA (gr @az.eq_1 g1 g2 g3))<|(cL)<|zo [.tmp 2]
 cases g4:decide (5<(b.holds.length:Int));rotate_left
 ·exact(aA (na @az.eq_1 g1 g2 g3 g4))<|(cL)<|zo [.tmp 2]
 have k1:=wt g1;have k2:=wt g2;have k3:=wt g3;have k4:=wt g4
 have l1:b.bB.length<=1000000:=by omega
 have l2:b.aW.length<=1000000:=by omega
 have l3:b.cg.length<=1000000:=by omega
 have l4:b.holds.length<=1000000:=by omega
 refine(e9 (na @az.eq_1 g1 g2 g3 g4))<|(zK (vQ b.rules hb.lr hb.eN)) ?_
 cases g5:Proofs.sg b.rules
 ·exact(zR)<|(cL)<|zo [.tmp 2]
 refine(L5 @az.eq_1)<|(zK (vQ b.aL hb.lc hb.qC)) ?_
 cases g6:Proofs.sg b.aL
 ·exact(zR)<|(cL)<|zo [.tmp 2]
 refine(zR)<|(lf)<|(zs) ?_;refine zL b.bB (λk=>(b.bB.take k).all Iq=true) (λk=>[(1,.ip (az b)),(3,ab k)]) (λk=>[]) zH zp ?_;intro k hk hall
 by_cases hlt:k<b.bB.length;rotate_left
 ·refine(aA (bx @az.eq_1 (show decide ((k:Int)<(b.bB.length:Int))=false by simp only[wn];omega)))<|(gh) ?_
  simp only[eV,dh,cq,bP,if_true]
  obtain rfl:k=b.bB.length:=by omega
  rw[bb] at hall;rw[hall];clear hall hlt hk
  refine(zV)<|(zs) ?_;refine zL b.aW (λk=>(b.aW.take k).all w8=true) (λk=>[(1,.ip (az b)),(4,ab k)]) (λk=>[]) zH zp ?_;intro k hk hall
  by_cases hlt:k<b.aW.length;rotate_left
  ·refine(aA (bx @az.eq_1 (show decide ((k:Int)<(b.aW.length:Int))=false by simp only[wn];omega)))<|(gh) ?_
   simp only[eV,dh,cq,bP,if_true]
   obtain rfl:k=b.aW.length:=by omega
   rw[bb] at hall;rw[hall];clear hall hlt hk
   refine(zV)<|(zs) ?_;refine zL b.cg (λk=>(b.cg.take k).all Ct=true) (λk=>[(1,.ip (az b)),(5,ab k)]) (λk=>[]) zH zp ?_;intro k hk hall
   by_cases hlt:k<b.cg.length;rotate_left
   ·refine(aA (bx @az.eq_1 (show decide ((k:Int)<(b.cg.length:Int))=false by simp only[wn];omega)))<|(gh) ?_
    simp only[eV,dh,cq,bP,if_true]
    obtain rfl:k=b.cg.length:=by omega
    rw[bb] at hall;rw[hall];clear hall hlt hk
    refine(zV)<|(zs) ?_;refine zL b.holds (λk=>(b.holds.take k).all kG=true) (λk=>[(1,.ip (az b)),(6,ab k)]) (λk=>[]) zH zp ?_;intro k hk hall
    by_cases hlt:k<b.holds.length;rotate_left
    ·refine(aA (bx @az.eq_1 (show decide ((k:Int)<(b.holds.length:Int))=false by simp only[wn];omega)))<|(gh) ?_
     simp only[eV,dh,cq,bP,if_true]
     obtain rfl:k=b.holds.length:=by omega
     rw[bb] at hall;rw[hall];clear hall hlt hk
     exact(zV)<|zo [.tmp 2]
    obtain⟨x,hx⟩:∃x,b.holds[k]?=some x:=⟨b.holds[k],jp hlt⟩;have hxm:=aV hx
    refine(aA (bx @az.eq_1 (show decide ((k:Int)<(b.holds.length:Int))=true by simp only[wp];omega)))<|(gz) ?_
    have htx:=nH [x.id,x.vehicle] (by show 2<=1000000;decide)
    refine(zs) ?_;refine kZ [0,1,0,7,15,31,0,64,0,448,960,1984,4095,8191,16383,32767,65535,131071,65535,524287,1048575,2097151,4194303,8388607,16777215,33554431,67108863,134217727,67108863,536870911,1073741823,2147483647,4294967295,8589934591,17179869183] ?_;refine(xf (gr @az.eq_1 hlt (aT (e:=4) (enc:=bG) gc hx) @bG.eq_1))<|(kA []) ?_
    generalize hg:[x.id,x.vehicle].all jQ=g at htx;refine eP.Pd (f':=(145,ai g)::[(1,.ip (az b)),(6,ab k)]) (S':=[]) zW rfl (λds_ K_ hK_=>?_) ?_
    ·refine(zK htx)<|oA ((145,ai g)::[(1,.ip (az b)),(6,ab k)]) [] zH ?_;exact .nil hK_
    cases g
    ·exact(kR)<|(kN)<|(cL)<|zo [.tmp 2] (hq:=by (rw[iq (p:=kG) hxm (by unfold kG;rw[hg];rfl)];first | rfl | simp))
    cases h1:decide (20<(x.members.length:Int));rotate_left
    ·exact(xf (na @az.eq_1 hlt (aT (e:=4) (enc:=bG) gc hx) @bG.eq_1 h1))<|(kN)<|(cL)<|zo [.tmp 2] (hq:=by (rw[iq (p:=kG) hxm (by unfold kG;rw[hg,h1];rfl)];first | rfl | simp))
    cases h2:decide (20<(x.back.length:Int));rotate_left
    ·exact(xf (xO @az.eq_1 hlt (aT (e:=4) (enc:=bG) gc hx) @bG.eq_1 h1 h2))<|(kN)<|(cL)<|zo [.tmp 2] (hq:=by (rw[iq (p:=kG) hxm (by unfold kG;rw[hg,h1,h2];rfl)];first | rfl | simp))
    refine(xf (xO @az.eq_1 hlt (aT (e:=4) (enc:=bG) gc hx) @bG.eq_1 h1 h2))<|(kN)<|(zN)<|(aA (zi hlt l4)) ?_;refine zX hlt zH (gE hx hall (by unfold kG;rw[hg,h1,h2];rfl))
   obtain⟨x,hx⟩:∃x,b.cg[k]?=some x:=⟨b.cg[k],jp hlt⟩;have hxm:=aV hx
   refine(aA (bx @az.eq_1 (show decide ((k:Int)<(b.cg.length:Int))=true by simp only[wp];omega)))<|(gz) ?_
   have htx:=nH [x.part,x.eN] (by show 2<=1000000;decide)
   refine(zs) ?_;refine kZ [0,1,0,7,15,31,0,64,0,448,960,1984,4095,8191,16383] ?_;refine(xf (gr @az.eq_1 hlt (aT (e:=3) (enc:=bD) gc hx) @bD.eq_1))<|(kA []) ?_
   generalize hg:[x.part,x.eN].all jQ=g at htx;refine eP.Pd (f':=(123,ai g)::[(1,.ip (az b)),(5,ab k)]) (S':=[]) zW rfl (λds_ K_ hK_=>?_) ?_
   ·refine(zK htx)<|oA ((123,ai g)::[(1,.ip (az b)),(5,ab k)]) [] zH ?_;exact .nil hK_
   cases g
   ·exact(kR)<|(kN)<|(cL)<|zo [.tmp 2] (hq:=by (rw[iq (p:=Ct) hxm hg];first | rfl | simp))
   ·refine(kR)<|(kN)<|(zN)<|(aA (zi hlt l3)) ?_;refine zX hlt zH (gE hx hall hg)
  obtain⟨x,hx⟩:∃x,b.aW[k]?=some x:=⟨b.aW[k],jp hlt⟩;have hxm:=aV hx
  refine(aA (bx @az.eq_1 (show decide ((k:Int)<(b.aW.length:Int))=true by simp only[wp];omega)))<|(gz) ?_
  have htx:=nH [x.name,x.kind,x.key] (by show 3<=1000000;decide)
  refine(zs) ?_;refine kZ [0,1,0,7,15,31,0,64,0,448,960,1984,0,4096,0,28672,61440,126976,262143,524287,1048575] ?_;refine(xf (gr @az.eq_1 hlt (aT (e:=5) (enc:=aQ) gc hx) @aQ.eq_1))<|(kA []) ?_
  generalize hg:[x.name,x.kind,x.key].all jQ=g at htx;refine eP.Pd (f':=(101,ai g)::[(1,.ip (az b)),(4,ab k)]) (S':=[]) zW rfl (λds_ K_ hK_=>?_) ?_
  ·refine(zK htx)<|oA ((101,ai g)::[(1,.ip (az b)),(4,ab k)]) [] zH ?_;exact .nil hK_
  cases g
  ·exact(kR)<|(kN)<|(cL)<|zo [.tmp 2] (hq:=by (rw[iq (p:=w8) hxm hg];first | rfl | simp))
  ·refine(kR)<|(kN)<|(zN)<|(aA (zi hlt l2)) ?_;refine zX hlt zH (gE hx hall hg)
 obtain⟨x,hx⟩:∃x,b.bB[k]?=some x:=⟨b.bB[k],jp hlt⟩;have hxm:=aV hx
 refine(aA (bx @az.eq_1 (show decide ((k:Int)<(b.bB.length:Int))=true by simp only[wp];omega)))<|(gz) ?_
 have htx:=nH [x.kind,x.slot,x.other,x.pQ] (by show 4<=1000000;decide)
 refine(zs) ?_;refine kZ [0,1,0,7,15,31,0,64,0,448,960,1984,0,4096,0,28672,61440,126976,0,262144,0,1835008,3932160,8126464,16777215,33554431,67108863] ?_;refine(xf (gr @az.eq_1 hlt (aT (e:=5) (enc:=bR) gc hx) @bR.eq_1))<|(kA []) ?_
 generalize hg:[x.kind,x.slot,x.other,x.pQ].all jQ=g at htx;refine eP.Pd (f':=(73,ai g)::[(1,.ip (az b)),(3,ab k)]) (S':=[]) zW rfl (λds_ K_ hK_=>?_) ?_
 ·refine(zK htx)<|oA ((73,ai g)::[(1,.ip (az b)),(3,ab k)]) [] zH ?_;exact .nil hK_
 cases g
 ·exact(kR)<|(kN)<|(cL)<|zo [.tmp 2] (hq:=by (rw[iq (p:=Iq) hxm hg];first | rfl | simp))
 ·refine(kR)<|(kN)<|(zN)<|(aA (zi hlt l1)) ?_;refine zX hlt zH (gE hx hall hg)
abbrev nW:List Nat:=[119,104,101,101,108,115,101,116]
abbrev nC:List Nat:=[99,111,97,99,104]
abbrev nO:List Nat:=[102,114,111,110,116]
def UG:jS:=⟨nO,[nW],1⟩
def CA:List aU:=[⟨nW,false,[]⟩,⟨nC,true,[UG]⟩]
def M7:bE:=.mk 2 0 []
def TT:bC:=⟨1,0,[99],nC,[],[],[],[],0,0,0,0,0,0⟩
def TU:bC:=⟨1,0,[119],nW,[],[],[],[],0,0,0,0,0,0⟩
def TV:bC:=⟨2,0,[119],[],[99],nO,[],[],0,0,0,0,0,0⟩
def Tz:bC:=⟨4,3,[99],[],[],[],[],[],90,110,0,0,0,0⟩
def HC:List bC:=[TT,TU,TV,Tz]
abbrev wX:Fm:=[(0,.ptr 0 0),(2,.ip [ak 3 CA aq]),(3,.ip (ar Tz))]
abbrev sX:List SV:=[ak 3 CA aq,ab 2,ab 0,aR]
noncomputable abbrev Uk(L:Nat->Prop):Fm:=(14,vo L 0 (.ag [ak 3 CA aq]))::(15,vo L 1 (.ag [ab 2,ab 0,aR]))::(16,vo L 2 (.ag sX))::(17,vo L 3 (.ag (ar TT)))::(18,vo L 4 (.ag (ar TU)))::(19,vo L 5 (.ag (ar TV)))::(20,vo L 6 (.ag (ar Tz)))::wX
noncomputable abbrev fX(L:Nat->Prop):Fm:=(21,vo L 7 (.buf 1 4 14 (some 4)))::Uk L
def OD:PC prog 27 [] (·=.cA [.ag (ak 3 CA aq::aE M7),ak 14 HC ar]):=by
 have c1:ar TT=[ab 1,ab 0,ah [99],ah nC,ah [],ah [],ah [],ah [],ab 0,ab 0,ab 0,ab 0,ab 0,ab 0]:=rfl;have c2:ar TU=[ab 1,ab 0,ah [119],ah nW,ah [],ah [],ah [],ah [],ab 0,ab 0,ab 0,ab 0,ab 0,ab 0]:=rfl;have c3:ar TV=[ab 2,ab 0,ah [119],ah [],ah [99],ah nO,ah [],ah [],ab 0,ab 0,ab 0,ab 0,ab 0,ab 0]:=rfl;have c4:ar Tz=[ab 4,ab 3,ah [99],ah [],ah [],ah [],ah [],ah [],ab 90,ab 110,ab 0,ab 0,ab 0,ab 0]:=rfl
 refine pB 22 Tryz.func27 ?_;refine(og)<|zA [(0,.ptr 0 0),(2,.ptr 4 0)] [.cells [aR,ab 0,ab 0,aR],.cells [ah nW],.cells [ah nO,.buf 1 1 1 (some 1),ab 1],.cells [ah nW,ai false,aR,ah nC,ai true,.buf 2 1 3 (some 1)],.cells [.buf 3 2 3 (some 2)]] zH ?_;refine aF.fg (Fg.lP (f':=[(0,.ptr 0 0),(2,.ptr 4 0)]) (S':=[.cells [aR,ab 0,ab 0,aR],.gone,.cells [ah nO,.sl 1 1 [ah nW],ab 1],.cells [ah nW,ai false,aR,ah nC,ai true,.buf 2 1 3 (some 1)],.cells [.buf 3 2 3 (some 2)]]) 1 rfl gt zj ⟨.inr ⟨by decide,.inl rfl⟩,.inl rfl,.inr ⟨by decide,.inr ⟨_,_,rfl,rfl,.cons (.a _) (.cons (.buf rfl (cC.refl rfl) (ax _)) (.cons (.a _) .nil))⟩⟩,.inr ⟨by decide,.inl rfl⟩,.inr ⟨by decide,.inl rfl⟩,trivial⟩) ?_;refine aF.fg (Fg.lP (f':=[(0,.ptr 0 0),(2,.ptr 4 0)]) (S':=[.cells [aR,ab 0,ab 0,aR],.gone,.gone,.cells [ah nW,ai false,aR,ah nC,ai true,ak 3 [UG] bJ],.cells [.buf 3 2 3 (some 2)]]) 2 rfl gt zj ⟨.inr ⟨by decide,.inl rfl⟩,.inl rfl,.inl rfl,.inr ⟨by decide,.inr ⟨_,_,rfl,rfl,.cons (.a _) (.cons (.a _) (.cons (.a _) (.cons (.a _) (.cons (.a _) (.cons (.buf rfl (cC.refl rfl) (ax _)) .nil)))))⟩⟩,.inr ⟨by decide,.inl rfl⟩,trivial⟩) ?_;refine aF.fg (Fg.lP (f':=[(0,.ptr 0 0),(2,.ptr 4 0)]) (S':=[.cells [aR,ab 0,ab 0,aR],.gone,.gone,.gone,.cells [ak 3 CA aq]]) 3 rfl gt zj ⟨.inr ⟨by decide,.inl rfl⟩,.inl rfl,.inl rfl,.inl rfl,.inr ⟨by decide,.inr ⟨_,_,rfl,rfl,.cons (.buf rfl (.cons (.a _) (.cons (.a _) (.cons (.nil 3) zr))) (ax _)) .nil⟩⟩,trivial⟩) ?_;refine zZ [(0,.ptr 0 0),(2,.ip [ak 3 CA aq])] 4 rfl ⟨.inl rfl,.inr (.ptr rfl (cC.refl rfl) (a8 _)),trivial⟩<|zA [(0,.ptr 0 0),(2,.ip [ak 3 CA aq])] [.cells [aR,ab 0,ab 0,aR]] zH<|(zV) ?_;refine zZ wX 1 rfl ⟨.inl rfl,.inl rfl,.inr (.ptr rfl (cC.refl rfl) (a8 _)),trivial⟩<|zA wX [.cells [aR,ab 0,ab 0,aR]] zH ?_
 (repeat refine aF.seq ?_)
 refine aF.za 9 12 (λL=>⟨fX L,22,[io L 8 (.cells sX) (.cells [aR,ab 0,ab 0,aR]),wo L 7 (.cells (HC.flatMap ar))],[]⟩) rfl zW ii g9 zW (Fg.less (by (simp only[cN,bL,fF,↓reduceIte,aa,ak,xq,D8,yo (L:=λ_=>False) (λh=>h)])<;>(repeat' apply ay)<;>first | rfl | trivial) (by (simp only[cN,bL,or_true,true_or,ak,xq,D8,yo (L:=λ_=>False) (λh=>h)])<;>(repeat' apply ay)<;>first | exact .inr rfl | exact .inl rfl | trivial)) (λL=>rfl) ?_ ?_
 ·rintro L i o him hC hr
  rcases i with _ | _ | _ | _ | _ | _ | _ | _ | _ | i
  rotate_right
  ·exact un him i4
  ·cases hr.jr;refine(zR) ?_;exact(cm (cO @bz @fp @lS))
  ·cases hr.jr;refine(zR) ?_;exact(cm (cO @bz @fp @lS))
  ·cases hr.jr;have d0:L 0:=hr.dep ⟨0,.data⟩ ge rfl;have d1:L 1:=hr.dep ⟨1,.data⟩ ge rfl;refine(cP (bx (iK d0) (iK d1))) ?_;exact(cm (na @bz @fp @lS (iK d0) (iK d1)))
  ·cases hr.jr;refine(zR) ?_;exact(cm (gr @bz @fp @lS c1))
  ·cases hr.jr;refine(zR) ?_;exact(cm (gr @bz @fp @lS c2))
  ·cases hr.jr;refine(zR) ?_;exact(cm (gr @bz @fp @lS c3))
  ·cases hr.jr;refine(cP c4) ?_;exact(cm (gr @bz @fp @lS c4))
  ·cases hr.jr;have d3:L 3:=hr.dep ⟨3,.data⟩ ge rfl;have d4:L 4:=hr.dep ⟨4,.data⟩ ge rfl;have d5:L 5:=hr.dep ⟨5,.data⟩ ge rfl;have d6:L 6:=hr.dep ⟨6,.data⟩ ge rfl;have hn:¬L 7:=hr.new;refine aK.r0 ii (by simp only[cN,bL,ak,aB,m7,m6,↓reduceIte,aa,aj,al,ac,ap,an,au,bn,cJ d3,cJ d4,cJ d5,cJ d6,↓lV,PM,gg hn,de,c1,c2,c3,c4];first | done | rfl) ?_;exact((Fg.rn (f':=(21,.buf 1 4 14 (some 4))::Uk L) (n:=22) (S':=[io L 8 (.cells sX) (.cells [aR,ab 0,ab 0,aR]),.cells (HC.flatMap ar)]) [0,2] g9 rfl (by (simp only[si,gx,bL,ak,yR,BO,Ri,de,↓reduceIte,aa,c1,c2,c3,c4,cJ d3,cJ d4,cJ d5,cJ d6])<;>(repeat' apply ay)<;>first | trivial | exact .inl rfl | exact .inr rfl | exact .inr trivial | exact .inl trivial) (by (simp only[cN,gx,bL,ak,yR,BO,Ri,de,↓reduceIte,aa,c1,c2,c3,c4,cJ d3,cJ d4,cJ d5,cJ d6])<;>(repeat' apply ay)<;>first | rfl | trivial))).trans (cm (He @bz @fp @lS (iK d3) (iK d4) (iK d5) (iK d6)))
  ·cases hr.jr;have d2:L 2:=hr.dep ⟨2,.data⟩ ge rfl;have hn:¬L 8:=hr.new;refine aK.r0 ii (by simp only[cN,bL,ak,aB,m7,m6,↓reduceIte,aa,aj,al,ac,ap,an,au,bn,cJ d2,yo hn];first | done | rfl) ?_;exact(cm (gr @bz @fp @lS (iK d2)))
 have v9:∀i,i<9->∀v:SV,vo (λj=>j<9) i v=v:=λi h v=>cJ h;have w9:∀i,i<9->∀v:SO,wo (λj=>j<9) i v=v:=λi h v=>oa h;have i9:∀i,i<9->∀x y:SO,io (λj=>j<9) i x y=x:=λi h x y=>CM h;change aK _ _ _ _ _ _
 exact oA [(21,.buf 1 4 14 (some 4)),(0,.ptr 0 0)] [.cells sX,.cells (HC.flatMap ar)] (cm (cO (v9 7 g9) (w9 7 g9) (i9 8 g9)))<|(zR)<|jW [.cell 0 29,.tmp 1] (r:=.cA [.ag (ak 3 CA aq::aE M7),ak 14 HC ar]) (hw:=.cA (.cons (.ag (.cons (.sl _ _ _) (.cons (.a _) (.cons (.a _) (.cons (.nil 3) .nil))))) (.cons (.buf rfl (cC.refl rfl) (ax _)) .nil)))
end Go.Proofs
namespace Go.Ev
noncomputable section
section
variable {P:Program} {ro:Option Nat}
def aK.r1{all l:List Oper}{o:Oper}{ds:List js}{n d:Nat}{f:Fm}{S S1:List SO}{v:SV}{kill:Option Nat}{K:ep->Prop}(hst:dn all n [o]=true)(hdst:o.dst=some d)(hw:bX all f o.guard=some true)(hop:dx P f S o.op=some (v,S1,kill))
 (hk:aK P ro all l ⟨po f kill (some d) v,n,S1,ds⟩ K):aK P ro all (o::l) ⟨f,n,S,ds⟩ K:=by
 have hd:=(fD hst).1;rw[hdst] at hd;have hw:=e8 hst hw;rintro ρ0 h0 ⟨af,n',hh,ds'⟩ ⟨rfl,rfl,θ,ρ,hR,hF⟩;obtain⟨rv,h',θ',e1,e2,e3,e4⟩:=Ou hR hF hop;refine .cons (dw hF hw) (.run (BR hop) (by rw[hdst];exact hd) e1 ?_);intro x hx;rw[t6 hx];refine hk ρ0 h0 _ ⟨rfl,rfl,θ',ρ,e2,?_⟩;rw[hdst];cases rv<;>exact hF.kill e4 (fK hd) e3
end
end
end Go.Ev
namespace Go.Proofs
open Go.Ev
set_option maxRecDepth 100000
abbrev UQ:List Nat:=[48,49,50,51,52,53,54,55,56,57,97,98,99,100,101,102]
def xE:aZ:=.mk 5 [107,109] [] 100 0 []
def xR:iL:=⟨[114],nW,xE⟩
def xK:pS:=⟨[119],[114],5⟩
def xH:mw:=⟨UQ,[99],[0,1],[0]⟩
def TA:dy:=⟨[xR],[],[],[],[],[]⟩
def SM:dy:=⟨[xR],[],[],[xK],[],[]⟩
def SP:dy:=⟨[],[],[],[],[],[xH]⟩
abbrev Um:aC:=⟨1,[119],[114]⟩
abbrev Un:aC:=⟨6,[99],UQ⟩
abbrev Uo:aC:=⟨4,[119],[]⟩
def U5:fN CA M7 TA HC [99] 5=[Um]:=by kernel_rfl
def U6:fN CA M7 SM HC [99] 5=[]:=by kernel_rfl
def U7:fN CA M7 SP HC [99] 5=[Un]:=by kernel_rfl
def U8:fN CA M7 TA HC [119] 5=[Uo]:=by kernel_rfl
def E8{s:List Nat}(h:(decide (s.length<=1000000)&&s.all λb=>decide (b<256))=true):fi s:=by
 simp only[aS,wp,all_eq_true] at h;exact⟨h.1,h.2⟩
def RC:mu CA:=by
 refine⟨by decide,λk hk=>?_,λk hk s hs=>?_⟩
 ·simp only[CA,b6,bk,or_false] at hk
  rcases hk with rfl | rfl<;>exact⟨E8 g9,by decide⟩
 ·simp only[CA,b6,bk,or_false] at hk
  rcases hk with rfl | rfl
  ·cases hs
  ·cases t6 hs;exact⟨E8 g9,by decide⟩
def RD:gC M7:=.mk g9 λk hk=>by cases hk
def RE:∀e∈HC,lK e:=by
 intro e he;simp only[HC,b6,bk,or_false] at he
 rcases he with rfl | rfl | rfl | rfl<;>constructor<;>exact E8 g9
def Tq:gn xE:=.mk (E8 g9) (E8 g9) g9 λk hk=>by cases hk
def Cz{k:List pS}{h:List mw}{r:List iL}(hr:r=[xR]\/r=[])(hk:k.length<=1)(hh:h=[xH]\/h=[]):jX ⟨r,[],[],k,[],h⟩ where
 eN:=λq hq=>by
  rcases hr with rfl | rfl
  ·cases t6 hq;exact Tq
  ·cases hq
 qC:=λq hq=>by cases hq
 Hy:=λq hq=>by cases hq
 hold:=λq hq=>by
  rcases hh with rfl | rfl
  ·cases t6 hq;exact⟨by decide,by decide⟩
  ·cases hq
 lr:=by rcases hr with rfl | rfl<;>exact md rfl
 lc:=Nat.zero_le _
 ld:=Nat.zero_le _
 lh:=by rcases hh with rfl | rfl<;>exact md rfl
 ls:=Nat.zero_le _
 lx:=Nat.le_trans hk g9
def um{b:dy}(hb:jX b)(v:List Nat):PC prog 12 [.ag (ak 3 CA aq::aE M7),.ag (az b),ak 14 HC ar,ah v,ab 5] (·=ak 3 (fN CA M7 b HC v 5) aM):=
 sB CA M7 b HC v 5 hb RC RD g9 RE
def Ow(a:List aC)(h:a.length<=1000000):PC prog 11 [ak 3 a aM,ak 3 a aM] (·=ai true):=by
 have:=I4 a a h;rw[wl rfl] at this;exact this
abbrev w1:Fm:=[(0,ai false),(1,.ip [.sl 2 3 (CA.flatMap aq),ab 2,ab 0,.sl 0 3 []]),(2,ak 14 HC ar)]
abbrev UX:List SV:=[.sl 1 8 (bj xR),.sl 0 5 [],.sl 0 5 [],.sl 0 3 [],.sl 0 8 [],.sl 0 4 []]
abbrev Uj:List SV:=[.sl 1 8 (bj xR),.sl 0 5 [],.sl 0 5 [],.sl 1 3 (bD xK),.sl 0 8 [],.sl 0 4 []]
abbrev UY:List SV:=[.sl 0 8 [],.sl 0 5 [],.sl 0 5 [],.sl 0 3 [],.sl 0 8 [],.sl 1 4 (bG xH)]
abbrev w3:Fm:=(3,.ip UX)::w1
abbrev w4:Fm:=(4,.ip Uj)::w3
abbrev w5:Fm:=(5,.ip UY)::w4
def Gw:PC prog 9 [] (·=ai true):=by
 have h1:=um (Cz (k:=[]) (h:=[]) (.inl rfl) g9 (.inr rfl)) [99];rw[show(⟨[xR],[],[],[],[],[]⟩:dy)=TA from rfl,U5] at h1;have h2:=um (Cz (k:=[xK]) (h:=[]) (.inl rfl) g9 (.inr rfl)) [99];rw[show(⟨[xR],[],[],[xK],[],[]⟩:dy)=SM from rfl,U6] at h2;have h3:=um (Cz (k:=[]) (h:=[xH]) (.inr rfl) g9 (.inl rfl)) [99];rw[show(⟨[],[],[],[],[],[xH]⟩:dy)=SP from rfl,U7] at h3;have h4:=um (Cz (k:=[]) (h:=[]) (.inl rfl) g9 (.inr rfl)) [119];rw[show(⟨[xR],[],[],[],[],[]⟩:dy)=TA from rfl,U8] at h4;have s1:=Ow [Um] g9;have s2:=Ow [Un] g9;have s3:=Ow [Uo] g9
 refine pB 58 Tryz.func9 ?_;refine(jn)<|(zK OD (hfl:=.inr zr))<|(cP (show aE M7=[ab 2,ab 0,.sl 0 3 []] from rfl)) ?_;refine zZ w1 0 rfl ⟨.inl rfl,.inr (.ptr rfl (cC.refl rfl) (a8 _)),.inl rfl,trivial⟩<|zA w1 [] zH<|(zV)<|zA ((3,.ptr 1 0)::w1) [.cells [ah [114],ah nW,ab 5,ah [107,109],ah [],ab 100,ab 0,aR],.cells [.buf 0 1 8 (some 1),aR,aR,aR,aR,aR]] zH ?_;refine aF.fg (Fg.lP (f':=(3,.ptr 1 0)::w1) (S':=[.gone,.cells [.sl 1 8 (bj xR),aR,aR,aR,aR,aR]]) 0 rfl gt ⟨.inl rfl,zj⟩ ⟨.inl rfl,.inr ⟨by decide,.inr ⟨_,_,rfl,rfl,.cons (.buf rfl (.cons (.a _) (.cons (.a _) (.cons (.a _) (.cons (.a _) (.cons (.a _) (.cons (.a _) (.cons (.a _) (.cons (.nil 6) .nil)))))))) (ax _)) zr⟩⟩,trivial⟩) ?_;refine zZ w3 1 rfl ⟨.inr (.ptr rfl (.cons (.sl _ _ _) (.cons (.nil 5) (.cons (.nil 5) (.cons (.nil 3) (.cons (.nil 8) (.cons (.nil 4) .nil)))))) (a8 _)),zj⟩<|zA w3 [] zH<|(og)<|zA ((4,.ptr 0 0)::w3) [.cells [.sl 1 8 (bj xR),.sl 0 5 [],.sl 0 5 [],.buf 1 1 3 (some 1),.sl 0 8 [],.sl 0 4 []],.cells [ah [119],ah [114],ab 5]] zH ?_;refine aF.fg (Fg.lP (f':=(4,.ptr 0 0)::w3) (S':=[.cells Uj,.gone]) 1 rfl gt ⟨.inl rfl,zj⟩ ⟨.inr ⟨by decide,.inr ⟨_,_,rfl,rfl,.cons (.sl _ _ _) (.cons (.sl _ _ _) (.cons (.sl _ _ _) (.cons (.buf rfl (cC.refl rfl) (ax _)) (.cons (.sl _ _ _) (.cons (.sl _ _ _) .nil)))))⟩⟩,.inl rfl,trivial⟩) ?_;refine zZ w4 0 rfl ⟨.inr (.ptr rfl (cC.refl rfl) (a8 _)),zj⟩<|zA w4 [] zH ?_
 (repeat refine aF.seq ?_)
 refine aF.region ?_;refine aK.r1 (d:=19) ii rfl ii zl ?_;refine oZ ((19,.sl 2 1 [ab 0,ab 1])::w4) 0 rfl ⟨.inr (.buf rfl (cC.refl rfl) (ax _)),zj⟩<|oA ((19,.sl 2 1 [ab 0,ab 1])::w4) [] zH ?_;refine aK.r1 (d:=20) ii rfl ii zl ?_;refine oZ ((20,.sl 1 1 [ab 0])::(19,.sl 2 1 [ab 0,ab 1])::w4) 0 rfl ⟨.inr (.buf rfl (cC.refl rfl) (ax _)),zj⟩<|oA ((20,.sl 1 1 [ab 0])::(19,.sl 2 1 [ab 0,ab 1])::w4) [] zH<|(zR)<|zA ((5,.ptr 1 0)::w4) [.cells (bG xH),.cells [aR,aR,aR,aR,aR,.buf 0 1 4 (some 1)]] zH ?_;refine aF.fg (Fg.lP (f':=(5,.ptr 1 0)::w4) (S':=[.gone,.cells [aR,aR,aR,aR,aR,.sl 1 4 (bG xH)]]) 0 rfl gt ⟨.inl rfl,zj⟩ ⟨.inl rfl,.inr ⟨by decide,.inr ⟨_,_,rfl,rfl,.cons (.a _) (.cons (.a _) (.cons (.a _) (.cons (.a _) (.cons (.a _) (.cons (.buf rfl (cC.refl rfl) (ax _)) .nil)))))⟩⟩,trivial⟩) ?_;exact zZ w5 1 rfl ⟨.inr (.ptr rfl (.cons (.nil 8) (.cons (.nil 5) (.cons (.nil 5) (.cons (.nil 3) (.cons (.nil 8) (.cons (.sl _ _ _) .nil)))))) (a8 _)),zj⟩<|zA w5 [] zH<|(zC)<|(zK h1 (hwk:=cC.refl rfl) (hfl:=.inr zr))<|(zQ)<|(zK s1 (hwk:=.cons (.sl _ _ _) (.cons (.buf rfl (cC.refl rfl) (ax _)) .nil)))<|(zQ)<|(zK h2 (hwk:=cC.refl rfl) (hfl:=.inr zr))<|(zR)<|zA ((6,ai true)::w5) [] zH<|(zC)<|(zK h3 (hwk:=cC.refl rfl) (hfl:=.inr zr))<|(zQ)<|(zK s2 (hwk:=.cons (.sl _ _ _) (.cons (.buf rfl (cC.refl rfl) (ax _)) .nil)))<|(zQ)<|(zK h4 (hwk:=cC.refl rfl) (hfl:=.inr zr))<|(zQ)<|(zK s3 (hwk:=.cons (.sl _ _ _) (.cons (.buf rfl (cC.refl rfl) (ax _)) .nil)))<|(zR)<|zo [.tmp 0]
structure Mc (c:List aU) (dmg:bE) (l:List bC):Prop where
 Ul:kF dmg
 cat:∀k∈c,(∀b∈k.name,b<256)/\∀s∈k.bN,∀b∈s.name,b<256
 len:l.length<=r9
 ev:∀e∈l,TN e
def Nc(c:List aU)(dmg:bE)(b:dy)(l:List bC)(v:List Nat):Bool:=Nd c dmg l&&(Proofs.x8 b&&decide ((v.length:Int)<=300))
def lW{s:List Nat}(h:jQ s=true)(hb:∀x∈s,x<256):fi s:=by
 unfold jQ at h;simp only[bc,wn] at h;exact⟨by omega,hb⟩
def EV{b:dy}(h:x8 b=true)(hb:oV b):jX b/\(b.rules.length<=5/\b.aL.length<=5/\b.aW.length<=5)/\b.holds.length<=5/\b.bB.length<=5/\b.cg.length<=5:=by
 unfold x8 sg at h;simp only[aS,bc,wn,wp,all_eq_true] at h;obtain⟨⟨h1,h2,h3,h4,⟨h5,h6⟩,h7,h8⟩,h9,h10,h11,h12⟩:=h;refine⟨⟨λr hr=>?_,λr hr=>?_,λd hd=>?_,λx hx=>?_,by omega,by omega,by omega,by omega,by omega,by omega⟩,⟨by omega,by omega,by omega⟩,by omega,by omega,by omega⟩
 ·have:=h6 r hr;unfold x7 at this;rw[aS] at this;exact JE this.2 (hb.eN r hr).2
 ·have:=h8 r hr;unfold x7 at this;rw[aS] at this;exact JE this.2 (hb.qC r hr).2
 ·have:=h10 d hd;unfold w8 at this;simp only[List.all_cons,List.all_nil,aS] at this;obtain⟨k1,k2,k3⟩:=hb.Hy d hd;exact⟨lW this.1 k1,lW this.2.1 k2,lW this.2.2.1 k3⟩
 ·have:=h12 x hx;unfold kG at this;simp only[aS,bc,wn] at this;exact⟨by omega,by omega⟩
structure US (c:List aU) (dmg:bE) (b:dy) (l:List bC):Prop where
 cat:mu c
 Ul:gC dmg
 book:jX b
 len:l.length<=16
 ev:∀e∈l,lK e
 Vf:(b.rules.length<=5/\b.aL.length<=5/\b.aW.length<=5)/\b.holds.length<=5/\b.bB.length<=5/\b.cg.length<=5
def Pz{c:List aU}{dmg:bE}{b:dy}{l:List bC}{v:List Nat}(h:Nc c dmg b l v=true)(ha:Mc c dmg l)(hb:oV b):US c dmg b l:=by
 unfold Nc at h;rw[aS,aS] at h;obtain⟨h1,h2,_⟩:=h;obtain⟨k1,k2⟩:=EV h2 hb;unfold Nd at h1;simp only[aS,bc,wn,all_eq_true] at h1;obtain⟨⟨g1,g2,g3⟩,g4⟩:=h1;refine⟨Nb g2 ha.cat,M9 g3,k1,by omega,λe he=>?_,k2⟩;have:=g4 e he;unfold pT at this;simp only[aS] at this;obtain⟨q1,q2,q3,q4,q5,q6⟩:=this;have hb:=ha.ev e he;exact⟨lW q1 hb.part,lW q2 hb.kind,lW q3 hb.bu,lW q4 hb.slot,lW q5 hb.key,lW q6 hb.value⟩
def ID(c:List aU)(dmg:bE)(b:dy)(l:List bC)(v:List Nat)(ha:Mc c dmg l)(hb:oV b):PC prog 10 [.ag (ak 3 c aq::aE dmg),.ag (az b),ak 14 l ar,ah v] (·=ai (Nc c dmg b l v)):=by
 have hfl:(aE dmg).length=3:=eX dmg;have hft:(aE dmg).take 3=aE dmg:=a7 (by rw[hfl];exact ax _);have hfk:=λo:Nat=>bU (o:=o) (aY dmg);have hfn:=λo:Nat=>cr (o:=o) (aY dmg);have h12:=Gt c dmg l ha.Ul ha.len;have h28:=zJ b hb;unfold Nc;generalize Nd c dmg l=g1 at h12 ⊢;generalize Proofs.x8 b=g2 at h28 ⊢
 refine pB 21 Tryz.func10 ?_;refine(aA (cO hfk hfn @az.eq_1)) ?_;refine zZ [(2,ak 14 l ar),(3,ah v),(4,.ip (ak 3 c aq::aE dmg)),(5,.ptr 1 0)] 0 rfl ⟨.inl rfl,.inl rfl,.inr (.ptr rfl (cC.refl (aY dmg)) (a8 _)),.inl rfl,trivial⟩<|zZ [(2,ak 14 l ar),(3,ah v),(4,.ip (ak 3 c aq::aE dmg)),(5,.ip (az b))] 1 rfl (gm (bx @ak.eq_1 @az.eq_1))<|zA [(2,ak 14 l ar),(3,ah v),(4,.ip (ak 3 c aq::aE dmg)),(5,.ip (az b))] [] zH<|(e9 (bx hfl hft))<|(zK h12 (hwk:=.cons (.ag (cC.refl (aY dmg))) zr)) ?_
 cases g1
 ·exact(zR)<|zo [.tmp 8]
 refine(L5 @az.eq_1)<|(zK h28) ?_
 cases g2
 ·exact(zR)<|zo [.tmp 8]
 cases g3:decide ((v.length:Int)<=300)
 ·exact(cP g3)<|zo [.tmp 8]
 ·exact(cP g3)<|zo [.tmp 8]
def nP:Nat->Ty
 | 0=>.no 6
 | 1=>.st [.no 1,.no 1,.no 1,.no 1,.no 1,.no 1]
 | j+2=>.st [i6,.str,.str,i6,i6,.sl (nP j)]
def ji:∀j,(nP j).size=6
 | 0=>rfl
 | 1=>rfl
 | j+2=>rfl
def pK(j:Nat):List Ty:=[.str,.str,nP j]
def Kq:List Ty:=[.str,.str,.str,.str,i6]
def Cw:List Ty:=[.str,.str,.str,i6,i6]
def Cu:List Ty:=[.str,.str,i6]
def CG:List Ty:=[.str,.str,.sl i6,.sl i6]
def Hn(j:Nat):List Ty:=[.sl (.st (pK j)),.sl (.st Kq),.sl (.st Cw),.sl (.st Cu),.sl (.st (pK j)),.sl (.st CG)]
section
variable {B:Nat} {ds:List DV}
def JC(hB:B<=r9):∀(j:Nat) {ds:List DV},kn B (nP j) ds->∃e:aZ,eL ds=bf e/\eS e
 | 0,ds,h=>by
  rw[nP,kn] at h;exact h.elim
 | 1,ds,h=>by
  rw[nP,kn,dY] at h;obtain⟨_,_,_,h,_⟩:=h;rw[kn] at h;exact h.elim
 | j+2,ds,h=>by
  rw[nP,kn] at h;obtain⟨a1,r,rfl,_,hk⟩:=dJ h;obtain⟨s1,r,rfl,b1,_,hk⟩:=c7 hk;obtain⟨s2,r,rfl,b2,_,hk⟩:=c7 hk;obtain⟨a2,r,rfl,_,hk⟩:=dJ hk;obtain⟨a3,r,rfl,_,hk⟩:=dJ hk;obtain⟨nl,rows,r,rfl,hl,hr,hk⟩:=iu hk;have:=gQ hk;subst this;obtain⟨xs,h1,h2,h3⟩:=mS bf eS λr hrr=>JC hB j (hr r hrr);refine⟨.mk a1 s1 s2 a2 a3 xs,?_,.mk b1 b2 i4 h3⟩;rw[gI,ji];simp only[eL,EP,nq h1 h2,h2,h1]
def Kl(hB:B<=r9){j:Nat}(hk:dY B (pK j) ds):∃r:iL,eL ds=bj r/\((r.name.length<=r9/\r.kind.length<=r9)/\eS r.cond):=by
 unfold pK at hk;obtain⟨s1,r,rfl,b1,l1,hk⟩:=c7 hk;obtain⟨s2,r,rfl,b2,l2,hk⟩:=c7 hk;rw[dY] at hk;obtain⟨d1,d2,rfl,h1,h2⟩:=hk;rw[dY] at h2;subst h2;obtain⟨e,h3,h4⟩:=JC hB j h1;exact⟨⟨s1,s2,e⟩,by simp only[eL,EP,bt,h3,bj],⟨by show s1.length<=r9;omega,by show s2.length<=r9;omega⟩,h4⟩
def Sc(hk:dY B Kq ds):∃s:uD,eL ds=bR s/\True:=by
 unfold Kq at hk;obtain⟨s1,r,rfl,b1,l1,hk⟩:=c7 hk;obtain⟨s2,r,rfl,b2,l2,hk⟩:=c7 hk;obtain⟨s3,r,rfl,b3,l3,hk⟩:=c7 hk;obtain⟨s4,r,rfl,b4,l4,hk⟩:=c7 hk;obtain⟨a1,r,rfl,_,hk⟩:=dJ hk;have:=gQ hk;subst this;exact⟨⟨s1,s2,s3,s4,a1⟩,by simp only[eL,EP,bR],trivial⟩
def Pv(hk:dY B Cw ds):∃d:ea,eL ds=aQ d/\((∀x∈d.name,x<256)/\(∀x∈d.kind,x<256)/\∀x∈d.key,x<256):=by
 unfold Cw at hk;obtain⟨s1,r,rfl,b1,l1,hk⟩:=c7 hk;obtain⟨s2,r,rfl,b2,l2,hk⟩:=c7 hk;obtain⟨s3,r,rfl,b3,l3,hk⟩:=c7 hk;obtain⟨a1,r,rfl,_,hk⟩:=dJ hk;obtain⟨a2,r,rfl,_,hk⟩:=dJ hk;have:=gQ hk;subst this;exact⟨⟨s1,s2,s3,a1,a2⟩,by simp only[eL,EP,aQ],b1,b2,b3⟩
def Pp(hk:dY B Cu ds):∃d:pS,eL ds=bD d/\True:=by
 unfold Cu at hk;obtain⟨s1,r,rfl,b1,l1,hk⟩:=c7 hk;obtain⟨s2,r,rfl,b2,l2,hk⟩:=c7 hk;obtain⟨a1,r,rfl,_,hk⟩:=dJ hk;have:=gQ hk;subst this;exact⟨⟨s1,s2,a1⟩,by simp only[eL,EP,bD],trivial⟩
def Nr(hk:kn B i6 ds):∃n:Int,eL ds=aG ab n/\True:=by
 have h:dY B [i6] (ds++[]):=by rw[dY];exact⟨ds,[],rfl,hk,by rw[dY]⟩
 rw[bt] at h;obtain⟨n,r,rfl,_,hk⟩:=dJ h;have:=gQ hk;subst this;exact⟨n,by simp only[eL,EP,aG],trivial⟩
def PF(hk:dY B CG ds):∃h:mw,eL ds=bG h/\True:=by
 unfold CG at hk;obtain⟨s1,r,rfl,b1,l1,hk⟩:=c7 hk;obtain⟨s2,r,rfl,b2,l2,hk⟩:=c7 hk;obtain⟨n1,rows1,r,rfl,_,hr1,hk⟩:=iu hk;obtain⟨n2,rows2,r,rfl,_,hr2,hk⟩:=iu hk;have:=gQ hk;subst this;obtain⟨xs,h1,h2,_⟩:=mS (aG ab) (λ_=>True) λr hrr=>Nr (hr1 r hrr);obtain⟨ys,h3,h4,_⟩:=mS (aG ab) (λ_=>True) λr hrr=>Nr (hr2 r hrr);exact⟨⟨s1,s2,xs,ys⟩,by simp only[eL,nq h1 h2,nq h3 h4,bG];rfl,trivial⟩
def Jv(hB:B<=r9){j:Nat}(hk:dY B (Hn j) ds):∃b:dy,eL ds=az b/\oV b:=by
 unfold Hn at hk;obtain⟨n1,r1,r,rfl,l1,k1,hk⟩:=iu hk;obtain⟨n2,r2,r,rfl,l2,k2,hk⟩:=iu hk;obtain⟨n3,r3,r,rfl,l3,k3,hk⟩:=iu hk;obtain⟨n4,r4,r,rfl,l4,k4,hk⟩:=iu hk;obtain⟨n5,r5,r,rfl,l5,k5,hk⟩:=iu hk;obtain⟨n6,r6,r,rfl,l6,k6,hk⟩:=iu hk;have:=gQ hk;subst this;obtain⟨x1,a1,c1,d1⟩:=mS bj (λr=>(r.name.length<=r9/\r.kind.length<=r9)/\eS r.cond) λr hrr=>Kl hB (by have:=k1 r hrr;rw[kn] at this;exact this);obtain⟨x2,a2,c2,d2⟩:=mS bR (λ_=>True) λr hrr=>Sc (by have:=k2 r hrr;rw[kn] at this;exact this);obtain⟨x3,a3,c3,d3⟩:=mS aQ (λd=>(∀x∈d.name,x<256)/\(∀x∈d.kind,x<256)/\∀x∈d.key,x<256) λr hrr=>Pv (by have:=k3 r hrr;rw[kn] at this;exact this);obtain⟨x4,a4,c4,d4⟩:=mS bD (λ_=>True) λr hrr=>Pp (by have:=k4 r hrr;rw[kn] at this;exact this);obtain⟨x5,a5,c5,d5⟩:=mS bj (λr=>(r.name.length<=r9/\r.kind.length<=r9)/\eS r.cond) λr hrr=>Kl hB (by have:=k5 r hrr;rw[kn] at this;exact this);obtain⟨x6,a6,c6,d6⟩:=mS bG (λ_=>True) λr hrr=>PF (by have:=k6 r hrr;rw[kn] at this;exact this);refine⟨⟨x1,x2,x3,x4,x5,x6⟩,?_,⟨d1,d5,d3,by show x1.length<=r9;omega,by show x5.length<=r9;omega⟩⟩;simp only[eL,nq a1 c1,nq a2 c2,nq a3 c3,nq a4 c4,nq a5 c5,nq a6 c6,az,Ty.size,Ty.oQ,pK,ji];rfl
end
end Go.Proofs
namespace Go.Proofs.YtjiejanfnnieaaaGreat
open Go.Proofs Go.Ev Go.ChangeShapes Go.WideShapes Go.ChangeAt Go.RowKit
set_option maxRecDepth 100000
def T3:ownKnob prog.godebug=none:=by kernel_rfl
def Lu:laidOutB prog=true:=by kernel_rfl
variable{α:Type}
def Sh:∀{l:List α},l.length=2->∃a b,l=[a,b]
 | [a,b],_=>⟨a,b,rfl⟩
def Oz:∀{l:List α},l.length=3->∃a b c,l=[a,b,c]
 | [a,b,c],_=>⟨a,b,c,rfl⟩
def OP:∀k,gf prog k 27=some (ox k)
 | 0=>by kernel_rfl
 | 1=>by kernel_rfl
 | k+2=>by
  have ih:=OP k
  have h1:gf prog (k+1) 25=some (.sl (ox k)):=by
   unfold gf;rw[show prog.underlying 25=some (.slice 27) by kernel_rfl];simp only;rw[ih,m7,sh,show(beq (prog.cellsOf 27) 3&&(ble 1 3&&ble 1 (prog.bytesOf 27)))=true by kernel_rfl];rfl
  have h2:gf prog (k+1) 3=some i6:=by kernel_rfl
  obtain⟨fs,hu,hfs⟩:∃fs,prog.underlying 27=some (.struct fs)/\fs.toList.map (λf=>(f.type,f.offset))=[(3,0),(3,1),(25,2)]:=by
   have q:(prog.underlying 27).bind (λu=>match u with | .struct fs=>some (fs.toList.map (λf=>(f.type,f.offset))) | _=>none)=some [(3,0),(3,1),(25,2)]:=by kernel_rfl
   obtain⟨u,e1,e2⟩:=ul q
   cases u<;>first | (cases e2;done) | exact⟨_,e1,Option.some.inj e2⟩
  unfold gf;rw[hu];simp only;generalize fs.toList=l at hfs;obtain⟨a,b,c,rfl⟩:=Oz (by have:=rc bv hfs;rwa [ba] at this)
  ·simp only[ad,am,mt,m8,and_true] at hfs;obtain⟨⟨a1,a2⟩,⟨b1,b2⟩,c1,c2⟩:=hfs
   have n1:prog.cellsOf 3=1:=by kernel_rfl
   have n2:prog.cellsOf 25=1:=by kernel_rfl
   have n3:prog.cellsOf 27=3:=by kernel_rfl
   simp only[gk,a1,a2,b1,b2,c1,c2,h1,h2,n1,n2,n3,m7,m6,Ty.size,Ty.oQ,bh,cond_true,bd,aj,ox]
def OS(j:Nat):gf prog (j+12) 29=some (.st [.st [.sl (.st uY)],ox (j+11)]):=by
 obtain⟨fs,hu,hfs⟩:∃fs,prog.underlying 29=some (.struct fs)/\fs.toList.map (λf=>(f.type,f.offset))=[(24,0),(27,1)]:=by
  have q:(prog.underlying 29).bind (λu=>match u with | .struct fs=>some (fs.toList.map (λf=>(f.type,f.offset))) | _=>none)=some [(24,0),(27,1)]:=by kernel_rfl
  obtain⟨u,e1,e2⟩:=ul q
  cases u<;>first | (cases e2;done) | exact⟨_,e1,Option.some.inj e2⟩
 have h1:gf prog (j+11) 24=some (.st [.sl (.st uY)]):=by kernel_rfl
 have h2:=OP (j+11);unfold gf;rw[hu];simp only;generalize fs.toList=l at hfs;obtain⟨a,b,rfl⟩:=Sh (by have:=rc bv hfs;rwa [ba] at this)
 ·simp only[ad,am,mt,m8,and_true] at hfs;obtain⟨⟨a1,a2⟩,b1,b2⟩:=hfs
  have n1:prog.cellsOf 24=1:=by kernel_rfl
  have n2:prog.cellsOf 27=3:=by kernel_rfl
  have n3:prog.cellsOf 29=4:=by kernel_rfl
  have h2:gf prog (j+11) 27=some (ox (j+11)):=h2;simp only[gk,a1,a2,b1,b2,h1,h2,n1,n2,n3,m7,m6,Ty.size,Ty.oQ,sh,bh,cond_true,bd,aj]
def PO:∀{l:List α},l.length=3->∃a b c,l=[a,b,c]
 | [a,b,c],_=>⟨a,b,c,rfl⟩
def JN:∀{l:List α},l.length=6->∃a b c d e f,l=[a,b,c,d,e,f]
 | [a,b,c,d,e,f],_=>⟨a,b,c,d,e,f,rfl⟩
def Kt:∀k,gf prog k 71=some (nP k)
 | 0=>by kernel_rfl
 | 1=>by kernel_rfl
 | k+2=>by
  have ih:=Kt k
  have h5:gf prog (k+1) 69=some (.sl (nP k)):=by
   unfold gf;rw[show prog.underlying 69=some (.slice 71) by kernel_rfl];simp only;rw[ih,m7,ji,show(beq (prog.cellsOf 71) 6&&(ble 1 6&&ble 1 (prog.bytesOf 71)))=true by kernel_rfl];rfl
  have h0:gf prog (k+1) 3=some i6:=by kernel_rfl
  have h1:gf prog (k+1) 9=some .str:=by kernel_rfl
  have h2:=h1;have h3:=h0;have h4:=h0
  obtain⟨fs,hu,hfs⟩:∃fs,prog.underlying 71=some (.struct fs)/\fs.toList.map (λf=>(f.type,f.offset))=[(3,0),(9,1),(9,2),(3,3),(3,4),(69,5)]:=by
   have q:(prog.underlying 71).bind (λu=>match u with | .struct fs=>some (fs.toList.map (λf=>(f.type,f.offset))) | _=>none)=some [(3,0),(9,1),(9,2),(3,3),(3,4),(69,5)]:=by kernel_rfl
   obtain⟨u,e1,e2⟩:=ul q
   cases u<;>first | (cases e2;done) | exact⟨_,e1,Option.some.inj e2⟩
  unfold gf;rw[hu];simp only;generalize fs.toList=l at hfs;obtain⟨x0,x1,x2,x3,x4,x5,rfl⟩:=JN (by have:=rc bv hfs;rwa [ba] at this);simp only[ad,am,mt,m8,and_true] at hfs;obtain⟨⟨a0,b0⟩,⟨a1,b1⟩,⟨a2,b2⟩,⟨a3,b3⟩,⟨a4,b4⟩,a5,b5⟩:=hfs
  have n0:prog.cellsOf 3=1:=by kernel_rfl
  have n1:prog.cellsOf 9=1:=by kernel_rfl
  have n2:prog.cellsOf 9=1:=by kernel_rfl
  have n3:prog.cellsOf 3=1:=by kernel_rfl
  have n4:prog.cellsOf 3=1:=by kernel_rfl
  have n5:prog.cellsOf 69=1:=by kernel_rfl
  have nn:prog.cellsOf 71=6:=by kernel_rfl
  simp only[gk,a0,b0,a1,b1,a2,b2,a3,b3,a4,b4,a5,b5,h0,h1,h2,h3,h4,h5,n0,n1,n2,n3,n4,n5,nn,m7,m6,Ty.size,Ty.oQ,nP,bh,cond_true,bd,aj]
  skip
def QF(j:Nat):gf prog (j+10) 73=some (.st (pK (j+9))):=by
 obtain⟨fs,hu,hfs⟩:∃fs,prog.underlying 73=some (.struct fs)/\fs.toList.map (λf=>(f.type,f.offset))=[(9,0),(9,1),(71,2)]:=by
  have q:(prog.underlying 73).bind (λu=>match u with | .struct fs=>some (fs.toList.map (λf=>(f.type,f.offset))) | _=>none)=some [(9,0),(9,1),(71,2)]:=by kernel_rfl
  obtain⟨u,e1,e2⟩:=ul q
  cases u<;>first | (cases e2;done) | exact⟨_,e1,Option.some.inj e2⟩
 have h0:gf prog (j+9) 9=some .str:=by kernel_rfl
 have h1:=h0;have h2:=Kt (j+9);unfold gf;rw[hu];simp only;generalize fs.toList=l at hfs;obtain⟨x0,x1,x2,rfl⟩:=PO (by have:=rc bv hfs;rwa [ba] at this);simp only[ad,am,mt,m8,and_true] at hfs;obtain⟨⟨a0,b0⟩,⟨a1,b1⟩,a2,b2⟩:=hfs
 have n0:prog.cellsOf 9=1:=by kernel_rfl
 have n1:prog.cellsOf 9=1:=by kernel_rfl
 have n2:prog.cellsOf 71=6:=by kernel_rfl
 have nn:prog.cellsOf 73=8:=by kernel_rfl
 simp only[gk,a0,b0,a1,b1,a2,b2,h0,h1,h2,n0,n1,n2,nn,m7,m6,Ty.size,Ty.oQ,ji,bh,cond_true,bd,aj]
 try rfl
def OQ(j:Nat):gf prog (j+11) 30=some (.sl (.st (pK (j+9)))):=by
 have ih:=QF j;unfold gf;rw[show prog.underlying 30=some (.slice 73) by kernel_rfl];simp only;rw[ih,m7,show(Ty.st (pK (j+9))).size=8 by unfold pK;simp only[Ty.size,Ty.oQ,ji],show(beq (prog.cellsOf 73) 8&&(ble 1 8&&ble 1 (prog.bytesOf 73)))=true by kernel_rfl];rfl
def Ks(j:Nat):gf prog (j+12) 36=some (.st (Hn (j+9))):=by
 obtain⟨fs,hu,hfs⟩:∃fs,prog.underlying 36=some (.struct fs)/\fs.toList.map (λf=>(f.type,f.offset))=[(30,0),(31,1),(32,2),(33,3),(30,4),(34,5)]:=by
  have q:(prog.underlying 36).bind (λu=>match u with | .struct fs=>some (fs.toList.map (λf=>(f.type,f.offset))) | _=>none)=some [(30,0),(31,1),(32,2),(33,3),(30,4),(34,5)]:=by kernel_rfl
  obtain⟨u,e1,e2⟩:=ul q
  cases u<;>first | (cases e2;done) | exact⟨_,e1,Option.some.inj e2⟩
 have h0:=OQ j
 have h1:gf prog (j+11) 31=some (.sl (.st Kq)):=by kernel_rfl
 have h2:gf prog (j+11) 32=some (.sl (.st Cw)):=by kernel_rfl
 have h3:gf prog (j+11) 33=some (.sl (.st Cu)):=by kernel_rfl
 have h4:=h0
 have h5:gf prog (j+11) 34=some (.sl (.st CG)):=by kernel_rfl
 unfold gf;rw[hu];simp only;generalize fs.toList=l at hfs;obtain⟨x0,x1,x2,x3,x4,x5,rfl⟩:=JN (by have:=rc bv hfs;rwa [ba] at this);simp only[ad,am,mt,m8,and_true] at hfs;obtain⟨⟨a0,b0⟩,⟨a1,b1⟩,⟨a2,b2⟩,⟨a3,b3⟩,⟨a4,b4⟩,a5,b5⟩:=hfs
 have n0:prog.cellsOf 30=1:=by kernel_rfl
 have n1:prog.cellsOf 31=1:=by kernel_rfl
 have n2:prog.cellsOf 32=1:=by kernel_rfl
 have n3:prog.cellsOf 33=1:=by kernel_rfl
 have n4:prog.cellsOf 30=1:=by kernel_rfl
 have n5:prog.cellsOf 34=1:=by kernel_rfl
 have nn:prog.cellsOf 36=6:=by kernel_rfl
 simp only[gk,a0,b0,a1,b1,a2,b2,a3,b3,a4,b4,a5,b5,h0,h1,h2,h3,h4,h5,n0,n1,n2,n3,n4,n5,nn,m7,m6,Ty.size,Ty.oQ,ji,bh,cond_true,bd,aj]
 try rfl
def Si(j:Nat):gf Tryz.prog (j+12) 37=some (.sl (.st KW)):=by kernel_rfl
def Ud(j:Nat):gf Tryz.prog (j+12) 9=some .str:=by kernel_rfl
def Uc(j:Nat):gf Tryz.prog (j+12) 3=some i6:=by kernel_rfl
def Db:reachBytes<=r9:=by decide
def Qy{B:Nat}{y:DV}(h:TE B .str y):∃s:List Nat,y=.fl (.str s)/\∀b∈s,b<256:=by
 have h:kn B .str [y]:=h;rw[kn] at h;obtain⟨s,e,w,_⟩:=h;simp only[mt,and_true] at e;exact⟨s,e,w⟩
def PH{B:Nat}{y:DV}(h:TE B i6 y):∃n:Int,y=.fl (.int .i64 n):=by
 have h:kn B i6 [y]:=h;rw[kn] at h;obtain⟨n,e,_⟩:=h;simp only[mt,and_true] at e;exact⟨n,e⟩
section
variable {H:Type} {enc:TypeId×Value->H} {P:Program} {w:World} {base:Nat} {spare:Nat->Bool} {held:Bool}
def Is{t0 t1 t2 t3 t4 t5:TypeId}{args:Array Value}{ds:List (DataW H)}{ps:List MemPlace}(h:DataW.TrodAll enc P w base spare held [t0,t1,t2,t3,t4,t5] args.toList ds ps):
 ∃v0 v1 v2 v3 v4 v5 d0 d1 d2 d3 d4 d5 p0 p1 p2 p3 p4 p5,args=#[v0,v1,v2,v3,v4,v5]/\ds=[d0,d1,d2,d3,d4,d5]/\ps=p0++p1++p2++p3++p4++p5/\DataW.Trod enc P w base spare held t0 v0 d0 p0/\DataW.Trod enc P w base spare held t1 v1 d1 p1/\DataW.Trod enc P w base spare held t2 v2 d2 p2/\DataW.Trod enc P w base spare held t3 v3 d3 p3/\DataW.Trod enc P w base spare held t4 v4 d4 p4/\DataW.Trod enc P w base spare held t5 v5 d5 p5:=by
 obtain⟨v0,_,d0,_,p0,_,hargs,rfl,rfl,e0,h⟩:=trodAll_cons h;obtain⟨v1,_,d1,_,p1,_,rfl,rfl,rfl,e1,h⟩:=trodAll_cons h;obtain⟨v2,_,d2,_,p2,_,rfl,rfl,rfl,e2,h⟩:=trodAll_cons h;obtain⟨v3,_,d3,_,p3,_,rfl,rfl,rfl,e3,h⟩:=trodAll_cons h;obtain⟨v4,_,d4,_,p4,_,rfl,rfl,rfl,e4,h⟩:=trodAll_cons h;obtain⟨v5,_,d5,_,p5,_,rfl,rfl,rfl,e5,h⟩:=trodAll_cons h;obtain⟨rfl,rfl,rfl⟩:=trodAll_nil h;exact⟨v0,v1,v2,v3,v4,v5,d0,d1,d2,d3,d4,d5,p0,p1,p2,p3,p4,p5,by cases args;simp_all,rfl,by simp,e0,e1,e2,e3,e4,e5⟩
def Ir{t0 t1 t2 t3 t4 t5:TypeId}{v0 v1 v2 v3 v4 v5:Value}{d0 d1 d2 d3 d4 d5:DataW H}{p0 p1 p2 p3 p4 p5:List MemPlace}(h0:DataW.Trod enc P w base spare held t0 v0 d0 p0)(h1:DataW.Trod enc P w base spare held t1 v1 d1 p1)(h2:DataW.Trod enc P w base spare held t2 v2 d2 p2)(h3:DataW.Trod enc P w base spare held t3 v3 d3 p3)(h4:DataW.Trod enc P w base spare held t4 v4 d4 p4)(h5:DataW.Trod enc P w base spare held t5 v5 d5 p5):DataW.TrodAll enc P w base spare held [t0,t1,t2,t3,t4,t5] [v0,v1,v2,v3,v4,v5] [d0,d1,d2,d3,d4,d5] (p0++(p1++(p2++(p3++(p4++(p5)))))):=⟨p0,p1++(p2++(p3++(p4++(p5)))),h0,⟨p1,p2++(p3++(p4++(p5))),h1,⟨p2,p3++(p4++(p5)),h2,⟨p3,p4++(p5),h3,⟨p4,p5,h4,trodAll_mk1 h5,rfl⟩,rfl⟩,rfl⟩,rfl⟩,rfl⟩
end
end Go.Proofs.YtjiejanfnnieaaaGreat
namespace Go.Proofs
open Go.Ev
set_option maxRecDepth 100000
def NL(L:List aC):(tD L).length<=L.length:=by
 unfold tD;rw[ba];have:=yn L [];simpa using this
def xZ{c:List aU}{dmg:bE}{b:dy}{l:List bC}{vehicle:List Nat}{day:Int}(hb:jX b)(hl:l.length<20)(hle:∀e∈l,lK e):(fN c dmg b l vehicle day).length<=10000:=by
 have hpl:(runN c dmg l day).1.length<=20:=b7 (BQ hle) i4;unfold fN;split
 ·exact md rfl
 ·rename_i v _;split
  ·exact md rfl
  ·rw[(fG _).length_eq];refine b7 (NL _) ?_;unfold mF;have hil:=mH (runN c dmg l day).1 vehicle;generalize fQ (runN c dmg l day).1 vehicle=I at hil;rw[li,li,ba,List.length_flatMap];have q1:=wU c b l (runN c dmg l day).1 day v;have q2:=List.length_filter_le (λh:mw=>decide (h.vehicle=vehicle)&&AF h) b.holds;have h1:=hb.lr;have h2:=hb.lc;have h3:=hb.ld;have h4:=hb.lh
   have q3:∀J:List (List Nat),(J.map λn=>(lg c b l (runN c dmg l day).1 day (dM (runN c dmg l day).1 n)).length).sum<=J.length*301:=by
    intro J
    induction J with
    | nil=>exact ax _
    | cons n J ih=>
     have q:=wU c b l (runN c dmg l day).1 day (dM (runN c dmg l day).1 n);rw[ad,List.sum_cons,i7];omega
   have:=q3 I;omega
end Go.Proofs
namespace Go.Ev
noncomputable section
section
variable {P:Program} {ro:Option Nat}
mutual
def TW:∀v:SV,∃M,∀o,M<=o->names o v=false
 | .ptr p _=>⟨p+1,λo h=>by rw[names];exact wd i4⟩
 | .map p=>⟨p+1,λo h=>by rw[names];exact wd i4⟩
 | .buf p _ _ _=>⟨p+1,λo h=>by rw[names];exact wd i4⟩
 | .sub p _ _ _ _=>⟨p+1,λo h=>by rw[names];exact wd i4⟩
 | .ag cs=>(M8 cs).imp λM h o k=>by rw[names];exact h o k
 | .cA cs=>(M8 cs).imp λM h o k=>by rw[names];exact h o k
 | .fn _ f c=>by
  obtain⟨M,h⟩:=M8 f;obtain⟨N,k⟩:=M8 c;exact⟨M+N,λo q=>by rw[names,h o i4,k o i4];rfl⟩
 | .iface _ v=>(TW v).imp λM h o k=>by rw[names];exact h o k
 | .any=>⟨0,λ_ _=>rfl⟩
 | .a _=>⟨0,λ_ _=>rfl⟩
 | .sl ..=>⟨0,λ_ _=>rfl⟩
 | .im ..=>⟨0,λ_ _=>rfl⟩
 | .ip ..=>⟨0,λ_ _=>rfl⟩
 | .e0 ..=>⟨0,λ_ _=>rfl⟩
def M8:∀l:List SV,∃M,∀o,M<=o->eG o l=false
 | []=>⟨0,λ_ _=>rfl⟩
 | v::l=>by
  obtain⟨M,h⟩:=TW v;obtain⟨N,k⟩:=M8 l;exact⟨M+N,λo q=>by rw[eG,h o i4,k o i4];rfl⟩
end
def Py(v:SV):∃M,∀o,M<=o->aO o v=v:=(TW v).imp λM h o k=>by unfold aO;rw[h o k];rfl
def CB{α:Type}(q:Nat->α->α)(hq:∀x,∃M,∀o,M<=o->q o x=x)(l:List α):∃M,∀o,M<=o->l.map (q o)=l:=by
 induction l with
 | nil=>exact⟨0,λ_ _=>rfl⟩
 | cons x l ih=>
  obtain⟨M,h⟩:=hq x;obtain⟨N,k⟩:=ih;exact⟨M+N,λo q=>by rw[ad,h o i4,k o i4]⟩
def RF(f:Fm):∃M,∀o,M<=o->bZ o f=f:=CB (λo p=>(p.1,aO o p.2)) (λp=>(Py p.2).imp λM h o k=>by rw[h o k]) f
def SS(S:List SO):∃M,∀o,M<=o->cy o S=S:=CB bI (λ
 | .cells cs=>(CB aO Py cs).imp λM h o k=>by rw[bI,h o k]
 | .map ks vs b=>(CB aO Py vs).imp λM h o k=>by rw[bI,h o k]
 | .iter m bs c pos=>(Py m).imp λM h o k=>by rw[bI,h o k]
 | .oB ..=>⟨0,λ_ _=>rfl⟩
 | .gone=>⟨0,λ_ _=>rfl⟩
 | .loop c ls p f=>(RF f).imp λM h o k=>by rw[bI,h o k]
 | .mf _=>⟨0,λ_ _=>rfl⟩) S
section
variable {all:List Oper} {o:Oper} {f:Fm} {S:List SO} {n d:Nat} {ds:List js} {K:ep->Prop} {m e:Nat} {c:Option Nat} {cs:List SV}
def aK.lay(hst:dn all n [o]=true)(hdst:o.dst=some d)(hw:bX all f o.guard=some true)(hop:∀S2,dx P f S2 o.op=some (.buf S2.length m e c,dO S2 (.cells cs),some S2.length))(hcs:bV cs=true)(hlen:cs.length=m*e)
 (hK:aK P ro all [] ⟨(d,.sl m e cs)::f,n,S,ds⟩ K):aK P ro all [o] ⟨f,n,S,ds⟩ K:=by
 obtain⟨A,hA⟩:=RF f;obtain⟨B,hB⟩:=SS S;obtain⟨T,hT⟩:∃T,T=S++cc (A+B) SO.gone:=⟨_,rfl⟩
 have hM:T.length=S.length+(A+B):=by rw[hT];simp
 have hTS:∀(p:Nat) (s:SO),T[p]?=some s->s≠.gone->S[p]?=some s:=by
  intro p s h1 h2;rw[hT,be] at h1;split at h1
  ·exact h1
  ·rw[bi] at h1;split at h1
   ·cases h1;exact un rfl h2
   ·cases h1
 have hN:dO T (.cells cs)=T++[.cells cs]:=by
  have h1:cy T.length T=T:=by
   rw[hT];unfold cy;rw[cb,bw,show S.map (bI _)=S from hB _ (by rw[<-hT,hM];omega)];rfl
  rw[dO,h1,bI,bU hcs]
 refine aK.fg (Fg.sub (S':=T) hTS) (aK.r1 hst hdst hw (hop _) ?_);rw[hN];show aK P ro all [] ⟨(d,.buf T.length m e c)::bZ T.length f,n,T++[.cells cs],ds⟩ K;rw[hA _ i4]
 have hat:(T++[SO.cells cs])[T.length]?=some (.cells cs):=by rw[List.getElem?_append_right (ax _),Nat.sub_self];rfl
 refine aK.fg (Fg.xd (f':=(d,.sl m e cs)::f) T.length hat gt λj=>?_) (aK.fg (Fg.sub (S':=S) λp s h1 h2=>?_) hK)
 ·show(if d=j then _ else aJ f j)=(if d=j then _ else aJ f j)\/Wk _ (if d=j then _ else aJ f j) (if d=j then _ else aJ f j);by_cases h:d=j
  ·rw[ut h,ut h];exact .inr (.buf (Gd _ _) (by rw[a7 (by rw[hlen];exact ax _)];exact cC.refl hcs) (by rw[hlen];exact ax _))
  ·rw[v6 h,v6 h];exact .inl rfl
 ·have hp:=br h1;rw[List.getElem?_set_ne i4,a9 i4,hT,a9 hp];exact h1
def aK.TY(hst:dn all n [o]=true)(hdst:o.dst=some d)(hw:bX all f o.guard=some true)(hop:∀S2,dx P f S2 o.op=some (.buf S2.length 0 e (some 0),dO S2 (.cells []),some S2.length))(hK:K ⟨(d,.e0 e)::f,n,S,ds⟩):aK P ro all [o] ⟨f,n,S,ds⟩ K:=by
 obtain⟨A,hA⟩:=RF f;obtain⟨B,hB⟩:=SS S;obtain⟨T,hT⟩:∃T,T=S++cc (A+B) SO.gone:=⟨_,rfl⟩
 have hM:T.length=S.length+(A+B):=by rw[hT];simp
 have hTS:∀(p:Nat) (s:SO),T[p]?=some s->s≠.gone->S[p]?=some s:=by
  intro p s h1 h2;rw[hT,be] at h1;split at h1
  ·exact h1
  ·rw[bi] at h1;split at h1
   ·cases h1;exact un rfl h2
   ·cases h1
 have hN:dO T (.cells [])=T++[.cells []]:=by
  have h1:cy T.length T=T:=by
   rw[hT];unfold cy;rw[cb,bw,show S.map (bI _)=S from hB _ (by rw[<-hT,hM];omega)];rfl
  rw[dO,h1];rfl
 refine aK.fg (Fg.sub (S':=T) hTS) (aK.r1 hst hdst hw (hop _) ?_);rw[hN];show aK P ro all [] ⟨(d,.buf T.length 0 e (some 0))::bZ T.length f,n,T++[.cells []],ds⟩ K;rw[hA _ i4];refine aK.fg (Fg.e0 d e (.inr ⟨_,ut rfl⟩)) (aK.fg (Fg.tmps (f':=(d,.e0 e)::f) λj=>.inl ?_) (aK.fg (Fg.sub (S':=S) λp s h1 h2=>?_) (.nil hK)))
 ·show(if d=j then _ else _)=(if d=j then _ else if d=j then _ else _);by_cases h:d=j
  ·rw[ut h,ut h]
  ·rw[v6 h,v6 h,v6 h]
 ·have hp:=br h1;rw[a9 i4,hT,a9 hp];exact h1
end
section
variable {f':Fm} {S':List SO} {G:List Nat} {all:List Oper} {ms:List Nat} {n:Nat} {b:Bool} {hp:List Nat} {l:List (Nat×Oper)} {f:Fm} {S:List SO} {K:Fm->List SO->Prop} {i:Nat} {o:Oper} {d:Nat} {f0:Fm} {kl:List (Nat×Nat)} {m e:Nat} {cs:List SV} {c:Option Nat}
def eP.g0(hst:dn all n [o]=true)(hdst:o.dst=some d)(hw:bX all f o.guard=some true)(hG:G.contains i=true)(hch:tm o.op=true)(hop:∀S2,dx P f S2 o.op=some (.buf S2.length 0 e (some 0),dO S2 (.cells []),some S2.length)):
 eP G P ro all ms n f0 kl b hp l ((d,.e0 e)::f) S K->eP G P ro all ms n f0 kl b hp ((i,o)::l) f S K:=
 .g hst hdst hw hG (λ_=>rfl) λf2 S2 ds K h1 h2 h3 hK=>.TY h1 hdst h2 (λS3=>by rw[kr (by rw[hch,b9]) h3];exact hop S3) hK
def OW(N e m:Nat):SV:=if m=0 then .e0 e else .buf N m e none
variable{N:Nat}
def tw{e m:Nat}(h:m=0):OW N e m=.e0 e:=ut h
def tx{e m:Nat}(h:m≠0):OW N e m=.buf N m e none:=v6 h
def cR{e m o:Nat}(h:N≠o):aO o (OW N e m)=OW N e m:=by
 unfold OW;split
 ·rfl
 ·unfold aO;rw[names,wd h];rfl
def ej{e m o:Nat}:aO o (aO N (OW N e m))=aO N (OW N e m):=by
 unfold OW;split
 ·rfl
 ·unfold aO;rw[names,wl rfl];rfl
def kU{m o:Nat}{cs:List SV}(h:cs.map (aO o)=cs):bI o (if m=0 then .gone else .cells cs)=if m=0 then .gone else .cells cs:=by
 split
 ·rfl
 ·rw[bI,h]
def eP.QN(T:List Nat)(hst:dn all n [o]=true)(hdst:o.dst=some d)(hw:bX all f o.guard=some true)(hwr:cB G i o.op=true)(hms:hp.all (λj=>bM (ms.getD i 0) j)=true)(hT:((uc all ms i).all λt=>T.contains t)=true)
 (hN:S.length=N) (hop:dx P f S o.op=if m=0 then some (.e0 e,S,none) else some (.buf S.length m e none,dO S (.cells cs),some S.length)) (hns:dO S (.cells cs)=S++[.cells cs]) (hf:bZ N f=f') (ht:xn f0 f N T) (hkl:ic ms i (OW N e m) kl) (hS':S++[if m=0 then .gone else .cells cs]=S') (hk:eP G P ro all ms n f0 ((i,N)::kl) false hp l ((d,OW N e m)::f') S' K):eP G P ro all ms n f0 kl b hp ((i,o)::l) f S K:=
 .x T hst hdst hw hwr hms hT (λf2 ds K h1 h2 h3 hK=>by
  have h4:=(kr (S:=S) (by rw[Ht hwr,b9]) h3).trans hop;by_cases h:m=0
  ·rw[ut h] at h4;rw[ut h,tw h] at hK;refine aK.r1 h1 hdst h2 h4 (aK.fg (Fg.tmps (f':=(d,.e0 e)::bZ N f2) λj=>?_) (aK.fg (Fg.sub (S':=S++[.gone]) λp s k1 k2=>?_) (.nil hK)))
   ·show(if d=j then _ else aJ (bZ N f2) j)=(if d=j then _ else aJ f2 j)\/(if d=j then _ else aJ (bZ N f2) j)=_;split
    ·exact .inl rfl
    ·rw[ew];exact tq (some _) _
   ·rw[be] at k1;split at k1
    ·exact k1
    ·cases hq:p-S.length with
     | zero=>rw[hq] at k1;cases k1;exact un rfl k2
     | succ q=>rw[hq] at k1;cases k1
  ·rw[v6 h,hns,hN] at h4;rw[v6 h,tx h] at hK
   exact aK.r1 h1 hdst h2 h4 (.nil hK)) hf ht hkl (hS'▸hk)
def eP.QO{k:Nat}{cs2:List SV}(T:List Nat)(hst:dn all n [o]=true)(hdst:o.dst=some d)(hw:bX all f o.guard=some true)(hwr:cB G i o.op=true)(hms:hp.all (λj=>bM (ms.getD i 0) j)=true)(hT:((uc all ms i).all λt=>T.contains t)=true)
 (hop0:k=0->∀S2,dx P f S2 o.op=if m=0 then some (.e0 e,S2,none) else some (.buf S2.length m e none,dO S2 (.cells cs2),some S2.length))
 (hop1:k≠0->dx P f S o.op=if m=0 then some (.buf N k e none,S,none) else some (.buf N (k+m) e none,(cy N S).set N (bI N (.cells (cs++cs2))),some N))
 (hS:k≠0->S[N]?=some (.cells cs)) (hks:cy N S=S) (h1:bV cs=true) (h2:bV cs2=true) (l1:cs.length=k*e) (l2:cs2.length=m*e) (hf:bZ N f=f') (ht:xn f0 f N T) (hS':S.set N .gone=S')
 (hk:eP G P ro all ms n f0 ((i,N)::kl) false hp l ((d,.sl (k+m) e (cs++cs2))::f') S' K):eP G P ro all ms n f0 kl b hp ((i,o)::l) f S K:=
 .x T hst hdst hw hwr hms hT (λf2 ds K g1 g2 g3 hK=>by
  have h4:=λS2=>kr (P:=P) (S:=S2) (by rw[Ht hwr,b9]) g3
  have ktm:∀{v:SV} j,aJ ((d,v)::bZ N f2) j=aJ ((d,v)::f2) j\/aJ ((d,v)::bZ N f2) j=.any:=λ{v} j=>by
   show(if d=j then _ else aJ (bZ N f2) j)=(if d=j then _ else aJ f2 j)\/(if d=j then _ else aJ (bZ N f2) j)=_;split
   ·exact .inl rfl
   ·rw[ew];exact tq (some _) _
  have gsub:∀(p:Nat) (s:SO),(S.set N .gone)[p]?=some s->s≠.gone->S[p]?=some s:=λp s k1 k2=>by
   rw[List.getElem?_set] at k1;split at k1
   ·split at k1
    ·cases k1;exact un rfl k2
    ·cases k1
   ·exact k1
  by_cases h:k=0
  ·subst h;obtain rfl:cs=[]:=t8 (by rw[l1,b8]);rw[List.nil_append,bd] at hK;by_cases hm:m=0
   ·subst hm;obtain rfl:cs2=[]:=t8 (by rw[l2,b8]);refine aK.r1 g1 hdst g2 ((h4 S).trans ((hop0 rfl S).trans (ut rfl))) (aK.fg (Fg.UN (f':=(d,.sl 0 e [])::f2) λj=>?_) (aK.fg (Fg.tmps ktm) (aK.fg (Fg.sub gsub) (.nil hK))));show(if d=j then _ else aJ f2 j)=(if d=j then _ else aJ f2 j)\/Wk [] (if d=j then _ else aJ f2 j) (if d=j then _ else aJ f2 j);by_cases hd:d=j
    ·rw[ut hd,ut hd];exact .inr (.Ss e)
    ·rw[v6 hd,v6 hd];exact .inl rfl
   ·exact aK.lay g1 hdst g2 (λS2=>(h4 S2).trans ((hop0 rfl S2).trans (v6 hm))) h2 l2 (aK.fg (Fg.tmps ktm) (aK.fg (Fg.sub gsub) (.nil hK)))
  ·have hS:=hS h
   have frz:∀{q:Nat} {cs3:List SV} {f3:Fm},bV cs3=true->cs3.length=q*e->∀j,aJ ((d,.sl q e cs3)::f3) j=aJ ((d,.buf N q e none)::f3) j\/Wk (jm N (.cells cs3)) (aJ ((d,.buf N q e none)::f3) j) (aJ ((d,.sl q e cs3)::f3) j):=λ{q cs3 f3} hg hl j=>by
    show(if d=j then _ else aJ f3 j)=(if d=j then _ else aJ f3 j)\/Wk _ (if d=j then _ else aJ f3 j) (if d=j then _ else aJ f3 j);by_cases h:d=j
    ·rw[ut h,ut h];exact .inr (.buf (Gd _ _) (by rw[a7 (by rw[hl];exact ax _)];exact cC.refl hg) (by rw[hl];exact ax _))
    ·rw[v6 h,v6 h];exact .inl rfl
   by_cases hm:m=0
   ·subst hm;obtain rfl:cs2=[]:=t8 (by rw[l2,b8]);rw[Nat.add_zero,bt] at hK;exact aK.r1 g1 hdst g2 ((h4 S).trans ((hop1 h).trans (ut rfl))) (aK.fg (Fg.xd N hS gt (frz h1 l1)) (aK.fg (Fg.tmps ktm) (.nil hK)))
   ·have hg:bV (cs++cs2)=true:=kP h1 h2;refine aK.r1 g1 hdst g2 ((h4 S).trans ((hop1 h).trans (v6 hm))) ?_;rw[hks,bI,bU hg];refine aK.fg (Fg.xd N (List.getElem?_set_self (br hS)) gt (frz hg (by rw[li,l1,l2,Nat.add_mul]))) ?_;rw[List.set_set]
    exact .nil hK) hf ht (Fl λ_=>rfl) (hS'▸hk)
end
end
end
end Go.Ev
namespace Go.Proofs
open Go.Ev
set_option maxRecDepth 100000
def K2{α:Type}{enc:α->List SV}{e:Nat}(he:∀x,(enc x).length=e)(hg:∀x,bV (enc x)=true)(ho:∀x,(enc x).all eM=true)(l:List α):(l.flatMap enc).all eM=true/\bV (l.flatMap enc)=true/\(l.flatMap enc).length=l.length*e/\(∀o,(l.flatMap enc).map (aO o)=l.flatMap enc)/\(l.flatMap enc).take (l.length*e)=l.flatMap enc:=
 ⟨by rw[List.all_flatMap];exact all_eq_true.2 λx _=>ho x,aD hg l,bg he l,λo=>bF hg o l,a7 (by rw[bg he];exact ax _)⟩
def CE(l:List iL):(l.flatMap bj).all eM=true/\bV (l.flatMap bj)=true/\(l.flatMap bj).length=l.length*8/\(∀o,(l.flatMap bj).map (aO o)=l.flatMap bj)/\(l.flatMap bj).take (l.length*8)=l.flatMap bj:=K2 nr (λr=>by rw[eB];rfl) (λr=>by rw[eB];rfl) l
abbrev QZ(a b:dy):dy:=⟨a.rules++b.rules,a.bB++b.bB,a.aW++b.aW,a.cg++b.cg,a.aL++b.aL,a.holds++b.holds⟩
def Kp{α:Type}{enc:α->List SV}{e:Nat}(a b:List α):ak e (a++b) enc=.sl (a.length+b.length) e (a.flatMap enc++b.flatMap enc):=by rw[qG,li,List.flatMap_append]
def Iu(a b:dy)(ha:jX a)(hb:jX b):PC prog 25 [.ag (az a),.ag (az b)] (·=.ag (az (QZ a b))):=by
 have la0:a.rules.length<=1000000:=by have:=ha.lr;omega
 obtain⟨oa0,ga0,na0,ka0,ta0⟩:=CE a.rules
 have lb0:b.rules.length<=1000000:=by have:=hb.lr;omega
 obtain⟨ob0,gb0,nb0,kb0,tb0⟩:=CE b.rules
 have la1:a.bB.length<=1000000:=by have:=ha.ls;omega
 obtain⟨oa1,ga1,na1,ka1,ta1⟩:=K2 (enc:=bR) (e:=5) gc (λ_=>rfl) (λ_=>rfl) a.bB
 have lb1:b.bB.length<=1000000:=by have:=hb.ls;omega
 obtain⟨ob1,gb1,nb1,kb1,tb1⟩:=K2 (enc:=bR) (e:=5) gc (λ_=>rfl) (λ_=>rfl) b.bB
 have la2:a.aW.length<=1000000:=by have:=ha.ld;omega
 obtain⟨oa2,ga2,na2,ka2,ta2⟩:=K2 (enc:=aQ) (e:=5) gc (λ_=>rfl) (λ_=>rfl) a.aW
 have lb2:b.aW.length<=1000000:=by have:=hb.ld;omega
 obtain⟨ob2,gb2,nb2,kb2,tb2⟩:=K2 (enc:=aQ) (e:=5) gc (λ_=>rfl) (λ_=>rfl) b.aW
 have la3:a.cg.length<=1000000:=by have:=ha.lx;omega
 obtain⟨oa3,ga3,na3,ka3,ta3⟩:=K2 (enc:=bD) (e:=3) gc (λ_=>rfl) (λ_=>rfl) a.cg
 have lb3:b.cg.length<=1000000:=by have:=hb.lx;omega
 obtain⟨ob3,gb3,nb3,kb3,tb3⟩:=K2 (enc:=bD) (e:=3) gc (λ_=>rfl) (λ_=>rfl) b.cg
 have la4:a.aL.length<=1000000:=by have:=ha.lc;omega
 obtain⟨oa4,ga4,na4,ka4,ta4⟩:=CE a.aL
 have lb4:b.aL.length<=1000000:=by have:=hb.lc;omega
 obtain⟨ob4,gb4,nb4,kb4,tb4⟩:=CE b.aL
 have la5:a.holds.length<=1000000:=by have:=ha.lh;omega
 obtain⟨oa5,ga5,na5,ka5,ta5⟩:=K2 (enc:=bG) (e:=4) gc (λ_=>rfl) (λ_=>rfl) a.holds
 have lb5:b.holds.length<=1000000:=by have:=hb.lh;omega
 obtain⟨ob5,gb5,nb5,kb5,tb5⟩:=K2 (enc:=bG) (e:=4) gc (λ_=>rfl) (λ_=>rfl) b.holds
 refine pB 48 Tryz.func25 ?_;refine(aA @az.eq_1) ?_;refine zZ [(2,.ip (az a)),(3,.ptr 1 0),(4,.ptr 2 0)] 0 rfl (gm (bx @ak.eq_1 @az.eq_1))<|zZ [(2,.ip (az a)),(3,.ip (az b)),(4,.ptr 2 0)] 1 rfl (gm (bx @ak.eq_1 @az.eq_1))<|zA [(2,.ip (az a)),(3,.ip (az b)),(4,.ptr 2 0)] [.gone,.gone,.cells [aR,aR,aR,aR,aR,aR]] zH ?_
 (repeat refine aF.seq ?_)
 refine aF.Cv [0,7,14,21,28,35] (ms:=[0,0,2,7,0,16,63,0,0,256,1023,0,2048,8191,0,0,32768,131071,0,262144,1048575,0,0,4194304,16777215,0,33554432,134217727,0,0,536870912,2147483647,0,4294967296,17179869183,0,0,68719476736,274877906943,0,549755813888,2199023255551,4398046511103,8796093022207]) rfl zW zW ?_;refine eP.g0 ii rfl ii ii ii (by intro S_;simp only[cN,bL,ak,aB,m7,m6,↓reduceIte,aa,aj,al,ac,ap,an,au,bn];first | done | rfl) ?_;refine(xf @az.eq_1) ?_;refine eP.QN (N:=3) (m:=a.rules.length) (e:=8) (cs:=a.rules.flatMap bj) (S':=[.gone,.gone,.cells [aR,aR,aR,aR,aR,aR],if a.rules.length=0 then .gone else .cells (a.rules.flatMap bj)]) [9,3,10,12,13,2,14,16,17,19,20,21,23,24,26,27,28,30,31,33,34,35,37,38,40,41,42,44,45] ii rfl ii ii zW zW rfl (mr (bx la0 oa0)) (by (simp only[dO,cy,ad,am,bI,ka0])<;>rfl) (by (try simp only[bZ,ad,am,ej])<;>rfl) (by (simp only[xn])<;>(repeat' apply ay)<;>first | exact True.intro | rfl | exact cR g9) (by first | exact trivial | ((simp only[ic])<;>(repeat' apply ay)<;>first | exact True.intro | exact .inr rfl | exact .inr (cR g9) | exact .inl zW)) rfl ?_;refine(xf @az.eq_1) ?_;refine eP.QO (N:=3) (k:=a.rules.length) (m:=b.rules.length) (e:=8) (cs:=a.rules.flatMap bj) (cs2:=b.rules.flatMap bj) (S':=[.gone,.gone,.cells [aR,aR,aR,aR,aR,aR],.gone]) [12,13,2,14,16,3,17,19,20,21,23,24,26,27,28,30,31,33,34,35,37,38,40,41,42,44,45] ii rfl ii ii zW zW (λh S2_=>by simp only[cN,bL,ak,aB,m7,m6,↓reduceIte,aa,aj,al,ac,ap,an,au,bn,tw h,lb0,ob0];first | done | rfl) (λh=>by simp only[cN,bL,ak,aB,m7,m6,↓reduceIte,aa,aj,al,ac,ap,an,au,bn,tx h,h,la0,lb0,ob0,na0,ta0,ax];first | done | rfl) (λh=>rc some (v6 h)) (by (simp only[cy,ad,am,kU (ka0 _)])<;>rfl) ga0 gb0 na0 nb0 (by (try simp only[bZ,ad,am,ej])<;>rfl) (by (simp only[xn])<;>(repeat' apply ay)<;>first | exact True.intro | rfl | exact cR g9) rfl ?_;refine eP.g0 ii rfl ii ii ii (by intro S_;simp only[cN,bL,ak,aB,m7,m6,↓reduceIte,aa,aj,al,ac,ap,an,au,bn];first | done | rfl) ?_;refine(xf @az.eq_1) ?_;refine eP.QN (N:=4) (m:=a.bB.length) (e:=5) (cs:=a.bB.flatMap bR) (S':=[.gone,.gone,.cells [aR,aR,aR,aR,aR,aR],.gone,if a.bB.length=0 then .gone else .cells (a.bB.flatMap bR)]) [16,3,17,19,20,2,21,23,24,26,27,28,30,31,33,34,35,37,38,40,41,42,44,45] ii rfl ii ii zW zW rfl (mr (bx la1 oa1)) (by (simp only[dO,cy,ad,am,bI,ka1])<;>rfl) (by (try simp only[bZ,ad,am,ej])<;>rfl) (by (simp only[xn])<;>(repeat' apply ay)<;>first | exact True.intro | rfl | exact cR g9) (by first | exact trivial | ((simp only[ic])<;>(repeat' apply ay)<;>first | exact True.intro | exact .inr rfl | exact .inr (cR g9) | exact .inl zW)) rfl ?_;refine(xf @az.eq_1) ?_;refine eP.QO (N:=4) (k:=a.bB.length) (m:=b.bB.length) (e:=5) (cs:=a.bB.flatMap bR) (cs2:=b.bB.flatMap bR) (S':=[.gone,.gone,.cells [aR,aR,aR,aR,aR,aR],.gone,.gone]) [19,20,2,21,23,3,24,26,27,28,30,31,33,34,35,37,38,40,41,42,44,45] ii rfl ii ii zW zW (λh S2_=>by simp only[cN,bL,ak,aB,m7,m6,↓reduceIte,aa,aj,al,ac,ap,an,au,bn,tw h,lb1,ob1];first | done | rfl) (λh=>by simp only[cN,bL,ak,aB,m7,m6,↓reduceIte,aa,aj,al,ac,ap,an,au,bn,tx h,h,la1,lb1,ob1,na1,ta1,ax];first | done | rfl) (λh=>rc some (v6 h)) (by (simp only[cy,ad,am,kU (ka1 _)])<;>rfl) ga1 gb1 na1 nb1 (by (try simp only[bZ,ad,am,ej])<;>rfl) (by (simp only[xn])<;>(repeat' apply ay)<;>first | exact True.intro | rfl | exact cR g9) rfl ?_;refine eP.g0 ii rfl ii ii ii (by intro S_;simp only[cN,bL,ak,aB,m7,m6,↓reduceIte,aa,aj,al,ac,ap,an,au,bn];first | done | rfl) ?_;refine(xf @az.eq_1) ?_;refine eP.QN (N:=5) (m:=a.aW.length) (e:=5) (cs:=a.aW.flatMap aQ) (S':=[.gone,.gone,.cells [aR,aR,aR,aR,aR,aR],.gone,.gone,if a.aW.length=0 then .gone else .cells (a.aW.flatMap aQ)]) [23,3,24,26,27,2,28,30,31,33,34,35,37,38,40,41,42,44,45] ii rfl ii ii zW zW rfl (mr (bx la2 oa2)) (by (simp only[dO,cy,ad,am,bI,ka2])<;>rfl) (by (try simp only[bZ,ad,am,ej])<;>rfl) (by (simp only[xn])<;>(repeat' apply ay)<;>first | exact True.intro | rfl | exact cR g9) (by first | exact trivial | ((simp only[ic])<;>(repeat' apply ay)<;>first | exact True.intro | exact .inr rfl | exact .inr (cR g9) | exact .inl zW)) rfl ?_;refine(xf @az.eq_1) ?_;refine eP.QO (N:=5) (k:=a.aW.length) (m:=b.aW.length) (e:=5) (cs:=a.aW.flatMap aQ) (cs2:=b.aW.flatMap aQ) (S':=[.gone,.gone,.cells [aR,aR,aR,aR,aR,aR],.gone,.gone,.gone]) [26,27,2,28,30,3,31,33,34,35,37,38,40,41,42,44,45] ii rfl ii ii zW zW (λh S2_=>by simp only[cN,bL,ak,aB,m7,m6,↓reduceIte,aa,aj,al,ac,ap,an,au,bn,tw h,lb2,ob2];first | done | rfl) (λh=>by simp only[cN,bL,ak,aB,m7,m6,↓reduceIte,aa,aj,al,ac,ap,an,au,bn,tx h,h,la2,lb2,ob2,na2,ta2,ax];first | done | rfl) (λh=>rc some (v6 h)) (by (simp only[cy,ad,am,kU (ka2 _)])<;>rfl) ga2 gb2 na2 nb2 (by (try simp only[bZ,ad,am,ej])<;>rfl) (by (simp only[xn])<;>(repeat' apply ay)<;>first | exact True.intro | rfl | exact cR g9) rfl ?_;refine eP.g0 ii rfl ii ii ii (by intro S_;simp only[cN,bL,ak,aB,m7,m6,↓reduceIte,aa,aj,al,ac,ap,an,au,bn];first | done | rfl) ?_;refine(xf @az.eq_1) ?_;refine eP.QN (N:=6) (m:=a.cg.length) (e:=3) (cs:=a.cg.flatMap bD) (S':=[.gone,.gone,.cells [aR,aR,aR,aR,aR,aR],.gone,.gone,.gone,if a.cg.length=0 then .gone else .cells (a.cg.flatMap bD)]) [30,3,31,33,34,2,35,37,38,40,41,42,44,45] ii rfl ii ii zW zW rfl (mr (bx la3 oa3)) (by (simp only[dO,cy,ad,am,bI,ka3])<;>rfl) (by (try simp only[bZ,ad,am,ej])<;>rfl) (by (simp only[xn])<;>(repeat' apply ay)<;>first | exact True.intro | rfl | exact cR g9) (by first | exact trivial | ((simp only[ic])<;>(repeat' apply ay)<;>first | exact True.intro | exact .inr rfl | exact .inr (cR g9) | exact .inl zW)) rfl ?_;refine(xf @az.eq_1) ?_;refine eP.QO (N:=6) (k:=a.cg.length) (m:=b.cg.length) (e:=3) (cs:=a.cg.flatMap bD) (cs2:=b.cg.flatMap bD) (S':=[.gone,.gone,.cells [aR,aR,aR,aR,aR,aR],.gone,.gone,.gone,.gone]) [33,34,2,35,37,3,38,40,41,42,44,45] ii rfl ii ii zW zW (λh S2_=>by simp only[cN,bL,ak,aB,m7,m6,↓reduceIte,aa,aj,al,ac,ap,an,au,bn,tw h,lb3,ob3];first | done | rfl) (λh=>by simp only[cN,bL,ak,aB,m7,m6,↓reduceIte,aa,aj,al,ac,ap,an,au,bn,tx h,h,la3,lb3,ob3,na3,ta3,ax];first | done | rfl) (λh=>rc some (v6 h)) (by (simp only[cy,ad,am,kU (ka3 _)])<;>rfl) ga3 gb3 na3 nb3 (by (try simp only[bZ,ad,am,ej])<;>rfl) (by (simp only[xn])<;>(repeat' apply ay)<;>first | exact True.intro | rfl | exact cR g9) rfl ?_;refine eP.g0 ii rfl ii ii ii (by intro S_;simp only[cN,bL,ak,aB,m7,m6,↓reduceIte,aa,aj,al,ac,ap,an,au,bn];first | done | rfl) ?_;refine(xf @az.eq_1) ?_;refine eP.QN (N:=7) (m:=a.aL.length) (e:=8) (cs:=a.aL.flatMap bj) (S':=[.gone,.gone,.cells [aR,aR,aR,aR,aR,aR],.gone,.gone,.gone,.gone,if a.aL.length=0 then .gone else .cells (a.aL.flatMap bj)]) [37,3,38,40,41,2,42,44,45] ii rfl ii ii zW zW rfl (mr (bx la4 oa4)) (by (simp only[dO,cy,ad,am,bI,ka4])<;>rfl) (by (try simp only[bZ,ad,am,ej])<;>rfl) (by (simp only[xn])<;>(repeat' apply ay)<;>first | exact True.intro | rfl | exact cR g9) (by first | exact trivial | ((simp only[ic])<;>(repeat' apply ay)<;>first | exact True.intro | exact .inr rfl | exact .inr (cR g9) | exact .inl zW)) rfl ?_;refine(xf @az.eq_1) ?_;refine eP.QO (N:=7) (k:=a.aL.length) (m:=b.aL.length) (e:=8) (cs:=a.aL.flatMap bj) (cs2:=b.aL.flatMap bj) (S':=[.gone,.gone,.cells [aR,aR,aR,aR,aR,aR],.gone,.gone,.gone,.gone,.gone]) [40,41,2,42,44,3,45] ii rfl ii ii zW zW (λh S2_=>by simp only[cN,bL,ak,aB,m7,m6,↓reduceIte,aa,aj,al,ac,ap,an,au,bn,tw h,lb4,ob4];first | done | rfl) (λh=>by simp only[cN,bL,ak,aB,m7,m6,↓reduceIte,aa,aj,al,ac,ap,an,au,bn,tx h,h,la4,lb4,ob4,na4,ta4,ax];first | done | rfl) (λh=>rc some (v6 h)) (by (simp only[cy,ad,am,kU (ka4 _)])<;>rfl) ga4 gb4 na4 nb4 (by (try simp only[bZ,ad,am,ej])<;>rfl) (by (simp only[xn])<;>(repeat' apply ay)<;>first | exact True.intro | rfl | exact cR g9) rfl ?_;refine eP.g0 ii rfl ii ii ii (by intro S_;simp only[cN,bL,ak,aB,m7,m6,↓reduceIte,aa,aj,al,ac,ap,an,au,bn];first | done | rfl) ?_;refine(xf @az.eq_1) ?_;refine eP.QN (N:=8) (m:=a.holds.length) (e:=4) (cs:=a.holds.flatMap bG) (S':=[.gone,.gone,.cells [aR,aR,aR,aR,aR,aR],.gone,.gone,.gone,.gone,.gone,if a.holds.length=0 then .gone else .cells (a.holds.flatMap bG)]) [44,3,45] ii rfl ii ii zW zW rfl (mr (bx la5 oa5)) (by (simp only[dO,cy,ad,am,bI,ka5])<;>rfl) (by (try simp only[bZ,ad,am,ej])<;>rfl) (by (simp only[xn])<;>(repeat' apply ay)<;>first | exact True.intro | rfl | exact cR g9) (by first | exact trivial | ((simp only[ic])<;>(repeat' apply ay)<;>first | exact True.intro | exact .inr rfl | exact .inr (cR g9) | exact .inl zW)) rfl ?_;refine(xf @az.eq_1) ?_;refine eP.QO (N:=8) (k:=a.holds.length) (m:=b.holds.length) (e:=4) (cs:=a.holds.flatMap bG) (cs2:=b.holds.flatMap bG) (S':=[.gone,.gone,.cells [aR,aR,aR,aR,aR,aR],.gone,.gone,.gone,.gone,.gone,.gone]) [] ii rfl ii ii zW zW (λh S2_=>by simp only[cN,bL,ak,aB,m7,m6,↓reduceIte,aa,aj,al,ac,ap,an,au,bn,tw h,lb5,ob5];first | done | rfl) (λh=>by simp only[cN,bL,ak,aB,m7,m6,↓reduceIte,aa,aj,al,ac,ap,an,au,bn,tx h,h,la5,lb5,ob5,na5,ta5,ax];first | done | rfl) (λh=>rc some (v6 h)) (by (simp only[cy,ad,am,kU (ka5 _)])<;>rfl) ga5 gb5 na5 nb5 (by (try simp only[bZ,ad,am,ej])<;>rfl) (by (simp only[xn])<;>(repeat' apply ay)<;>first | exact True.intro | rfl | exact cR g9) rfl ?_;refine(kR) ?_;refine eP.e ii ii rfl zW zl (by first | exact trivial | ((simp only[ic])<;>(repeat' apply ay)<;>first | exact True.intro | exact .inr rfl | (refine .inr ?_;simp only[cN,bL,ak,aB,m7,m6,↓reduceIte,aa,aj,al,ac,ap,an,au,bn,aO];first | done | rfl) | exact .inl zW)) ?_;exact(kN)<|zo [.cell 4 36] (hq:=by simp only[az,Kp])
def ME{a b:dy}(ha:jX a)(hb:jX b)(fa:(a.rules.length<=5/\a.aL.length<=5/\a.aW.length<=5)/\a.holds.length<=5/\a.bB.length<=5/\a.cg.length<=5)(fb:(b.rules.length<=5/\b.aL.length<=5/\b.aW.length<=5)/\b.holds.length<=5/\b.bB.length<=5/\b.cg.length<=5):jX ⟨a.rules++b.rules,a.bB,a.aW++b.aW,a.cg,a.aL++b.aL,a.holds++b.holds⟩:=by
 obtain⟨⟨f1,f2,f3⟩,f4,-⟩:=fa;obtain⟨⟨g1,g2,g3⟩,g4,-⟩:=fb;refine⟨λr hr=>?_,λr hr=>?_,λr hr=>?_,λr hr=>?_,?_,?_,?_,?_,ha.ls,ha.lx⟩
 ·exact(mem_append.1 hr).elim (ha.eN r) (hb.eN r)
 ·exact(mem_append.1 hr).elim (ha.qC r) (hb.qC r)
 ·exact(mem_append.1 hr).elim (ha.Hy r) (hb.Hy r)
 ·exact(mem_append.1 hr).elim (ha.hold r) (hb.hold r)
 all_goals
  rw[li];omega
abbrev jI(c:List aU)(dmg:bE)(a:dy)(l:List bC)(vehicle:List Nat)(day:Int):Fm:=[(3,ak 14 l ar),(4,ah vehicle),(5,ab day),(6,.ip (ak 3 c aq::aE dmg)),(7,.ip (az a))]
def Gu(c:List aU)(dmg:bE)(a b:dy)(l:List bC)(vehicle:List Nat)(day:Int)(ha:Mc c dmg l)(hba:oV a)(hbb:oV b):
 PC prog 6 [.ag (ak 3 c aq::aE dmg),.ag (az a),.ag (az b),ak 14 l ar,ah vehicle,ab day] (·=ai true):=by
 have hfl:(aE dmg).length=3:=eX dmg;have hft:(aE dmg).take 3=aE dmg:=a7 (by rw[hfl];exact ax _);have hfk:=λo:Nat=>bU (o:=o) (aY dmg);have hfn:=λo:Nat=>cr (o:=o) (aY dmg);have hfew:=ID c dmg a l vehicle ha hba;have hok:=Pz (c:=c) (dmg:=dmg) (b:=a) (l:=l) (v:=vehicle);have h28:=zJ b hbb;have hok2:=EV (b:=b);generalize Nc c dmg a l vehicle=g at hfew hok;generalize Proofs.x8 b=g2 at h28 hok2
 refine pB 84 func6 ?_;refine(aA (cO hfk hfn @az.eq_1)) ?_;refine zZ [(3,ak 14 l ar),(4,ah vehicle),(5,ab day),(6,.ip (ak 3 c aq::aE dmg)),(7,.ptr 1 0),(8,.ptr 2 0)] 0 rfl ⟨.inl rfl,.inl rfl,.inl rfl,.inr (.ptr rfl (cC.refl (aY dmg)) (a8 _)),zj⟩<|zZ ((8,.ptr 2 0)::jI c dmg a l vehicle day) 1 rfl (gm (bx @ak.eq_1 @az.eq_1))<|zZ ((8,.ip (az b))::jI c dmg a l vehicle day) 2 rfl (gm (bx @ak.eq_1 @az.eq_1))<|zA ((8,.ip (az b))::jI c dmg a l vehicle day) [] zH<|(zC)<|(zK Gw)<|(zR)<|(e9 (cO hfl hft @az.eq_1))<|(zK hfew (hwk:=.cons (.ag (cC.refl (aY dmg))) zr)) ?_
 cases g
 ·exact(zR)<|(cL)<|zo [.tmp 12]
 refine(L5 @az.eq_1)<|(zK h28) ?_
 cases g2
 ·exact(zR)<|(cL)<|zo [.tmp 12]
 refine(zR)<|(zN) ?_
 obtain⟨hc,hf,hbo,hl,hle,hfe⟩:=hok rfl ha hba;obtain⟨hbo2,hfe2⟩:=hok2 rfl hbb;have hjoin:=ME hbo hbo2 hfe hfe2;have hless:jX ⟨a.rules,a.bB++b.bB,a.aW,a.cg++b.cg,a.aL,a.holds⟩:=⟨hbo.eN,hbo.qC,hbo.Hy,hbo.hold,hbo.lr,hbo.lc,hbo.ld,hbo.lh,by rw[li];omega,by rw[li];omega⟩;have hlaw:=KZ c dmg a b l vehicle day;have h1:=sB c dmg ⟨a.rules++b.rules,a.bB,a.aW++b.aW,a.cg,a.aL++b.aL,a.holds++b.holds⟩ l vehicle day hjoin hc hf i4 hle;have h2:=sB c dmg ⟨a.rules,a.bB++b.bB,a.aW,a.cg++b.cg,a.aL,a.holds⟩ l vehicle day hless hc hf i4 hle
 have he:az ⟨a.rules,a.bB++b.bB,a.aW,a.cg++b.cg,a.aL,a.holds⟩=[ak 8 a.rules bj,.sl (a.bB.length+b.bB.length) 5 (a.bB.flatMap bR++b.bB.flatMap bR),ak 5 a.aW aQ,.sl (a.cg.length+b.cg.length) 3 (a.cg.flatMap bD++b.cg.flatMap bD),ak 8 a.aL bj,ak 4 a.holds bG]:=by simp only[az,Kp]
 rw[he] at h2;have l1:=xZ (c:=c) (dmg:=dmg) (vehicle:=vehicle) (day:=day) hjoin (l:=l) i4 hle;have l2:=xZ (c:=c) (dmg:=dmg) (vehicle:=vehicle) (day:=day) hless (l:=l) i4 hle;have hboth:=Iu a b hbo hbo2;obtain⟨hfe3,hfe4,hfe5,hfe6⟩:=hfe;obtain⟨hff3,hff4,hff5,hff6⟩:=hfe2
 have la0:a.bB.length<=1000000:=by omega
 have lb0:b.bB.length<=1000000:=by omega
 have la1:a.cg.length<=1000000:=by omega
 have lb1:b.cg.length<=1000000:=by omega
 obtain⟨oa0,ga0,na0,ka0,ta0⟩:=K2 (enc:=bR) (e:=5) gc (λ_=>rfl) (λ_=>rfl) a.bB;obtain⟨ob0,gb0,nb0,kb0,tb0⟩:=K2 (enc:=bR) (e:=5) gc (λ_=>rfl) (λ_=>rfl) b.bB;obtain⟨oa1,ga1,na1,ka1,ta1⟩:=K2 (enc:=bD) (e:=3) gc (λ_=>rfl) (λ_=>rfl) a.cg;obtain⟨ob1,gb1,nb1,kb1,tb1⟩:=K2 (enc:=bD) (e:=3) gc (λ_=>rfl) (λ_=>rfl) b.cg
 refine zA ((8,.ip (az b))::(13,ai true)::jI c dmg a l vehicle day) [] zH<|(e9 @az.eq_1)<|(zK hboth (hc:=Ef @az.eq_1) (hfl:=.inr zr))<|(cP @az.eq_1)<|zA ((14,.ptr 0 0)::(8,.ip (az b))::(13,ai true)::jI c dmg a l vehicle day) [.cells (az (QZ a b))] (cm @az.eq_1)<|(zs) ?_;refine oe [0,1,0,4,3,19,63,127] ?_;refine(OZ @az.eq_1) ?_;refine SD.e ii rfl ii rfl rfl ii (mr @az.eq_1) ?_;refine(OZ @az.eq_1) ?_;refine SD.e ii rfl ii rfl rfl ii (mr @az.eq_1) ?_;refine(zM) ?_;refine zZ ((14,.ip (az ⟨a.rules++b.rules,a.bB,a.aW++b.aW,a.cg,a.aL++b.aL,a.holds++b.holds⟩))::(8,.ip (az b))::(13,ai true)::jI c dmg a l vehicle day) 0 rfl (gm (bx @ak.eq_1 @az.eq_1))<|zA ((14,.ip (az ⟨a.rules++b.rules,a.bB,a.aW++b.aW,a.cg,a.aL++b.aL,a.holds++b.holds⟩))::(8,.ip (az b))::(13,ai true)::jI c dmg a l vehicle day) [] (cm @az.eq_1)<|(aA @az.eq_1)<|zA ((15,.ptr 0 0)::(14,.ip (az ⟨a.rules++b.rules,a.bB,a.aW++b.aW,a.cg,a.aL++b.aL,a.holds++b.holds⟩))::(8,.ip (az b))::(13,ai true)::jI c dmg a l vehicle day) [.cells [ak 8 a.rules bj,ak 5 a.bB bR,ak 5 a.aW aQ,ak 3 a.cg bD,ak 8 a.aL bj,ak 4 a.holds bG]] (cm @az.eq_1)<|(zs) ?_;refine aF.Cv [0] (ms:=[0,0,2,7,0,16,63,127,255]) rfl zW zW ?_;refine eP.g0 ii rfl ii ii ii (by intro S_;simp only[cN,bL,ak,aB,m7,m6,↓reduceIte,aa,aj,al,ac,ap,an,au,bn];first | done | rfl) ?_;refine(xf @az.eq_1) ?_;refine eP.QN (N:=1) (m:=a.bB.length) (e:=5) (cs:=a.bB.flatMap bR) (S':=[.cells [ak 8 a.rules bj,ak 5 a.bB bR,ak 5 a.aW aQ,ak 3 a.cg bD,ak 8 a.aL bj,ak 4 a.holds bG],if a.bB.length=0 then .gone else .cells (a.bB.flatMap bR)]) [46,8,47] ii rfl ii ii zW zW rfl (mr (bx la0 oa0)) (by (simp only[dO,cy,ad,am,bI,ka0])<;>rfl) (by (try simp only[bZ,ad,am,ej])<;>rfl) (by (simp only[xn])<;>(repeat' apply ay)<;>first | exact True.intro | rfl | exact cR g9) (by first | exact trivial | ((simp only[ic])<;>(repeat' apply ay)<;>first | exact True.intro | exact .inr rfl | exact .inr (cR g9) | exact .inl zW)) rfl ?_;refine(xf @az.eq_1) ?_;refine eP.QO (N:=1) (k:=a.bB.length) (m:=b.bB.length) (e:=5) (cs:=a.bB.flatMap bR) (cs2:=b.bB.flatMap bR) (S':=[.cells [ak 8 a.rules bj,ak 5 a.bB bR,ak 5 a.aW aQ,ak 3 a.cg bD,ak 8 a.aL bj,ak 4 a.holds bG],.gone]) [] ii rfl ii ii zW zW (λh S2_=>by simp only[cN,bL,ak,aB,m7,m6,↓reduceIte,aa,aj,al,ac,ap,an,au,bn,tw h,lb0,ob0];first | done | rfl) (λh=>by simp only[cN,bL,ak,aB,m7,m6,↓reduceIte,aa,aj,al,ac,ap,an,au,bn,tx h,h,la0,lb0,ob0,na0,ta0,ax];first | done | rfl) (λh=>rc some (v6 h)) (by (simp only[cy,ad,am,kU (ka0 _)])<;>rfl) ga0 gb0 na0 nb0 (by (try simp only[bZ,ad,am,ej])<;>rfl) (by (simp only[xn])<;>(repeat' apply ay)<;>first | exact True.intro | rfl | exact cR g9) rfl ?_;refine(kR) ?_;refine eP.e ii ii rfl zW zl (by first | exact trivial | ((simp only[ic])<;>(repeat' apply ay)<;>first | exact True.intro | exact .inr rfl | (refine .inr ?_;simp only[cN,bL,ak,aB,m7,m6,↓reduceIte,aa,aj,al,ac,ap,an,au,bn,aO];first | done | rfl) | exact .inl zW)) ?_;refine(kN)<|zA ((15,.ptr 0 0)::(14,.ip (az ⟨a.rules++b.rules,a.bB,a.aW++b.aW,a.cg,a.aL++b.aL,a.holds++b.holds⟩))::(8,.ip (az b))::(13,ai true)::jI c dmg a l vehicle day) [.cells [ak 8 a.rules bj,.sl (a.bB.length+b.bB.length) 5 (a.bB.flatMap bR++b.bB.flatMap bR),ak 5 a.aW aQ,ak 3 a.cg bD,ak 8 a.aL bj,ak 4 a.holds bG]] (cm @az.eq_1)<|(zs) ?_;refine aF.Cv [0] (ms:=[0,0,2,7,0,16,63,127,255]) rfl zW zW ?_;refine eP.g0 ii rfl ii ii ii (by intro S_;simp only[cN,bL,ak,aB,m7,m6,↓reduceIte,aa,aj,al,ac,ap,an,au,bn];first | done | rfl) ?_;refine(xf @az.eq_1) ?_;refine eP.QN (N:=1) (m:=a.cg.length) (e:=3) (cs:=a.cg.flatMap bD) (S':=[.cells [ak 8 a.rules bj,.sl (a.bB.length+b.bB.length) 5 (a.bB.flatMap bR++b.bB.flatMap bR),ak 5 a.aW aQ,ak 3 a.cg bD,ak 8 a.aL bj,ak 4 a.holds bG],if a.cg.length=0 then .gone else .cells (a.cg.flatMap bD)]) [54,8,55] ii rfl ii ii zW zW rfl (mr (bx la1 oa1)) (by (simp only[dO,cy,ad,am,bI,ka1])<;>rfl) (by (try simp only[bZ,ad,am,ej])<;>rfl) (by (simp only[xn])<;>(repeat' apply ay)<;>first | exact True.intro | rfl | exact cR g9) (by first | exact trivial | ((simp only[ic])<;>(repeat' apply ay)<;>first | exact True.intro | exact .inr rfl | exact .inr (cR g9) | exact .inl zW)) rfl ?_;refine(xf @az.eq_1) ?_;refine eP.QO (N:=1) (k:=a.cg.length) (m:=b.cg.length) (e:=3) (cs:=a.cg.flatMap bD) (cs2:=b.cg.flatMap bD) (S':=[.cells [ak 8 a.rules bj,.sl (a.bB.length+b.bB.length) 5 (a.bB.flatMap bR++b.bB.flatMap bR),ak 5 a.aW aQ,ak 3 a.cg bD,ak 8 a.aL bj,ak 4 a.holds bG],.gone]) [] ii rfl ii ii zW zW (λh S2_=>by simp only[cN,bL,ak,aB,m7,m6,↓reduceIte,aa,aj,al,ac,ap,an,au,bn,tw h,lb1,ob1];first | done | rfl) (λh=>by simp only[cN,bL,ak,aB,m7,m6,↓reduceIte,aa,aj,al,ac,ap,an,au,bn,tx h,h,la1,lb1,ob1,na1,ta1,ax];first | done | rfl) (λh=>rc some (v6 h)) (by (simp only[cy,ad,am,kU (ka1 _)])<;>rfl) ga1 gb1 na1 nb1 (by (try simp only[bZ,ad,am,ej])<;>rfl) (by (simp only[xn])<;>(repeat' apply ay)<;>first | exact True.intro | rfl | exact cR g9) rfl ?_;refine(kR) ?_;refine eP.e ii ii rfl zW zl (by first | exact trivial | ((simp only[ic])<;>(repeat' apply ay)<;>first | exact True.intro | exact .inr rfl | (refine .inr ?_;simp only[cN,bL,ak,aB,m7,m6,↓reduceIte,aa,aj,al,ac,ap,an,au,bn,aO];first | done | rfl) | exact .inl zW)) ?_;refine(kN) ?_;refine zZ ((15,.ip [ak 8 a.rules bj,.sl (a.bB.length+b.bB.length) 5 (a.bB.flatMap bR++b.bB.flatMap bR),ak 5 a.aW aQ,.sl (a.cg.length+b.cg.length) 3 (a.cg.flatMap bD++b.cg.flatMap bD),ak 8 a.aL bj,ak 4 a.holds bG])::(14,.ip (az ⟨a.rules++b.rules,a.bB,a.aW++b.aW,a.cg,a.aL++b.aL,a.holds++b.holds⟩))::(13,ai true)::jI c dmg a l vehicle day) 0 rfl (gm (bx @ak.eq_1 @az.eq_1))<|zA ((15,.ip [ak 8 a.rules bj,.sl (a.bB.length+b.bB.length) 5 (a.bB.flatMap bR++b.bB.flatMap bR),ak 5 a.aW aQ,.sl (a.cg.length+b.cg.length) 3 (a.cg.flatMap bD++b.cg.flatMap bD),ak 8 a.aL bj,ak 4 a.holds bG])::(14,.ip (az ⟨a.rules++b.rules,a.bB,a.aW++b.aW,a.cg,a.aL++b.aL,a.holds++b.holds⟩))::(13,ai true)::jI c dmg a l vehicle day) [] (cm @az.eq_1) ?_
 obtain⟨R1,e1⟩:∃R,R=fN c dmg ⟨a.rules++b.rules,a.bB,a.aW++b.aW,a.cg,a.aL++b.aL,a.holds++b.holds⟩ l vehicle day:=⟨_,rfl⟩;obtain⟨R2,e2⟩:∃R,R=fN c dmg ⟨a.rules,a.bB++b.bB,a.aW,a.cg++b.cg,a.aL,a.holds⟩ l vehicle day:=⟨_,rfl⟩;rw[<-e1] at h1 l1 hlaw;rw[<-e2] at h2 l2 hlaw;clear e1 e2
 refine(e9 (cO hfl hft @az.eq_1))<|(zK h1 (hwk:=.cons (.ag (cC.refl (aY dmg))) zr) (hfl:=.inr (.cons (.ag (cC.refl (aY dmg))) zr)))<|(zR)<|(e9 (bx hfl hft))<|(zK h2 (hwk:=.cons (.ag (cC.refl (aY dmg))) zr) (hfl:=.inr (.cons (.ag (cC.refl (aY dmg))) zr)))<|(zR)<|(zV) ?_
 have hlR2:R2.length<=1000000:=by omega
 refine(zs) ?_;refine zL R2 (λk=>True) (λk=>(18,ab k)::(17,ak 3 R2 aM)::(16,ak 3 R1 aM)::(13,ai true)::jI c dmg a l vehicle day) (λk=>[]) zH zp ?_;intro k hk hall;by_cases hlt:k<R2.length
 ·obtain⟨f,hx⟩:∃f,R2[k]?=some f:=⟨R2[k],jp hlt⟩;have hin:=OE R1 f i4;rw[Np.2 (hlaw f (aV hx))] at hin
  refine(aA (show decide ((k:Int)<(R2.length:Int))=true by simp only[wp];omega))<|(gz)<|(e9 (cO hlt (aT (e:=3) (enc:=aM) gc hx) @aM.eq_1))<|(zK hin (hc:=Ef @aM.eq_1))<|(zR)<|(zN)<|(aA (zi hlt hlR2)) ?_;refine zX hlt zH trivial
 refine(aA (show decide ((k:Int)<(R2.length:Int))=false by simp only[wn];omega))<|(gh) ?_
 simp only[eV,dh,cq,bP,if_true]
 (try change aF _ _ _ _ _)
 exact(zV)<|zo [.tmp 12]
end Go.Proofs
namespace Go.Proofs.YtjiejanfnnieaaaGreat
open Go.Proofs Go.Ev Go.ChangeShapes Go.WideShapes Go.ChangeAt Go.RowKit
set_option maxRecDepth 100000
def Qo:Tryz.f6.params.toList=[29,36,36,37,9,3]:=by kernel_rfl
def law_lifted(os:Os)(started:os.Started)(H:Type)(enc:TypeId×Value->H):
 ReturnsInHanded {} ca os 6 .any (Rows.faultFewerSpec.pre6 enc prog Tryz.f6 Rows.faultFewerRow.domain false) (Rows.faultFewerSpec.post enc prog Tryz.f6 false true false false):=by
 refine returnsInHanded_of_change_sized (C:=ca) T3 started zW func6
  (ChangeSpec.witness6 (enc:=enc) (C:=ca) false ⟨#[],#[.agg #[.slice none 0 0,.int .i64 0,.int .i64 0,.slice none 0 0],.agg #[.slice none 0 0,.slice none 0 0,.slice none 0 0,.slice none 0 0,.slice none 0 0,.slice none 0 0],.agg #[.slice none 0 0,.slice none 0 0,.slice none 0 0,.slice none 0 0,.slice none 0 0,.slice none 0 0],.slice none 0 0,.string ⟨#[]⟩,.int .i64 0],[]⟩ 8 zW zW zW zW) ?_
 intro W base args ds gs before hval0 hW _ hwt0 _;have hval:∀(j:Nat) t v,Tryz.f6.params[j]?=some t->args[j]?=some v->Value.okWide prog W .any base t v:=hval0;have hW':=hW;obtain⟨p,q,hA0,hV,rfl,hfz,hnd⟩:=hW;have hA:DataW.TrodAll enc prog W 0 (λ_=>true) true Tryz.f6.params.toList args.toList ds p:=hA0;rw[Qo] at hA;obtain⟨v0,v1,v2,v3,v4,v5,d0,d1,d2,d3,d4,d5,p0,p1,p2,p3,p4,p5,rfl,rfl,rfl,h0,h1,h2,h3,h4,h5⟩:=Is hA;obtain⟨rfl,rfl⟩:=trodVars_none hV;have hwt1:(DataW.weightsEach prog (Tryz.f6.params.toList++Rows.faultFewerSpec.plain.varTypes prog) ([d0,d1,d2,d3,d4,d5]++[])).all (·<=reachBytes)=true:=hwt0
 have hwt:∀{j:Nat} {t:TypeId} {d:DataW H},(Tryz.f6.params.toList++Rows.faultFewerSpec.plain.varTypes prog)[j]?=some t->([d0,d1,d2,d3,d4,d5]++[])[j]?=some d->∀x∈d.weights prog t,x<=reachBytes:=by
  intro j t d ht hd x hx;have:=all_eq_true.1 hwt1 x (DataW.weights_mem_each ht hd x hx);simpa using this
 obtain⟨j0,y0,o0,w0⟩:=oh OS (hval 0 29 v0 zW rfl) h0 (hwt (j:=0) zW rfl);obtain⟨j1,y1,o1,w1⟩:=oh Ks (hval 1 36 v1 zW rfl) h1 (hwt (j:=1) zW rfl);obtain⟨j2,y2,o2,w2⟩:=oh Ks (hval 2 36 v2 zW rfl) h2 (hwt (j:=2) zW rfl);obtain⟨j3,y3,o3,w3⟩:=oh Si (hval 3 37 v3 zW rfl) h3 (hwt (j:=3) zW rfl);obtain⟨j4,y4,o4,w4⟩:=oh Ud (hval 4 9 v4 zW rfl) h4 (hwt (j:=4) zW rfl);obtain⟨j5,y5,o5,w5⟩:=oh Uc (hval 5 3 v5 zW rfl) h5 (hwt (j:=5) zW rfl);obtain⟨e0,rfl,o0⟩:=o0;obtain⟨c,dmg,s0,f0,g0⟩:=Oy Db o0;obtain⟨e1,rfl,o1⟩:=o1;obtain⟨b1,s1,f1⟩:=Jv Db o1;obtain⟨e2,rfl,o2⟩:=o2;obtain⟨b2,s2,f2⟩:=Jv Db o2;have o3:kn reachBytes (.sl (.st KW)) [y3]:=o3;rw[kn] at o3;obtain⟨n3,rows3,e3,q3,k3⟩:=o3;simp only[mt,and_true] at e3;subst e3;obtain⟨l3,s3,u3,f3⟩:=mS ar TN λr hr=>SL (by have:=k3 r hr;rw[kn] at this;exact this);obtain⟨x4,rfl,f4⟩:=Qy (B:=reachBytes) o4;obtain⟨x5,rfl⟩:=PH (B:=reachBytes) o5;have hr:=Db;have hlaw:=Gu c dmg b1 b2 l3 x4 x5 ⟨f0,g0,by omega,f3⟩ f1 f2
 have hwd:ni W [.ag e0,.ag e1,.ag e2,.sl n3 rows3.length (Ty.st KW).size rows3.flatten,.fl (.str x4),.fl (.int .i64 x5)] (#[v0,v1,v2,v3,v4,v5]:Array Value).toList:=by
  rw[eb];refine⟨_,_,rfl,w0,?_⟩;rw[eb];refine⟨_,_,rfl,w1,?_⟩;rw[eb];refine⟨_,_,rfl,w2,?_⟩;rw[eb];refine⟨_,_,rfl,w3,?_⟩;rw[eb];refine⟨_,_,rfl,w4,?_⟩;rw[eb];refine⟨_,_,rfl,w5,?_⟩;rw[iV]
 have hdv:eL [.ag e0,.ag e1,.ag e2,.sl n3 rows3.length (Ty.st KW).size rows3.flatten,.fl (.str x4),.fl (.int .i64 x5)]=[.ag (ak 3 c aq::aE dmg),.ag (az b1),.ag (az b2),ak 14 l3 ar,ah x4,ab x5]:=by
  simp only[eL,↓nq s3 u3,EP,s0,s1,s2];rfl
 refine(RO dC func6 rfl hwd (by rw[hdv];exact hlaw)).mono λe W' ⟨he,hb⟩=>?_;subst he
 have hlt:∀x∈p0++p1++p2++p3++p4++p5,x.block<W.heap.size:=λx hx=>by simpa using hW'.lt x (by simpa using hx)
 have z0:=Below.trod Lu zW (ww zW) h0 hb (λx hx=>hlt x (by simp[hx]));have z1:=Below.trod Lu zW (ww zW) h1 hb (λx hx=>hlt x (by simp[hx]));have z2:=Below.trod Lu zW (ww zW) h2 hb (λx hx=>hlt x (by simp[hx]));have z3:=Below.trod Lu zW (ww zW) h3 hb (λx hx=>hlt x (by simp[hx]));have z4:=Below.trod Lu zW (ww zW) h4 hb (λx hx=>hlt x (by simp[hx]));have z5:=Below.trod Lu zW (ww zW) h5 hb (λx hx=>hlt x (by simp[hx]));exact⟨_,rfl,_,_,_,[],_,[],hW',trodAll_mk1 (shut_bool Tryz.underlying4 true),Ir z0 z1 z2 z3 z4 z5,rfl,hb.frame _,λh=>by cases h⟩
end Go.Proofs.YtjiejanfnnieaaaGreat
