/- Lemmas of this claim, each with its conditions. -/
import Derived.Test.YtchdmmkclcnmnaaGreatA27
import Derived.Test.YtchdmmkclcnmnaaGreatA19
import Derived.Test.YtchdmmkclcnmnaaGreatA17
set_option linter.all false
open List (flatMap_cons nil_append)
open Nat renaming reduceAdd -> aa, reduceEqDiff -> ac, reduceLeDiff -> ad, reduceLT -> ap, le_refl -> a0, reduceMul -> a1, reduceSub -> a7, min_eq_left -> a9, le_trans -> ba, zero_le -> bc, add_zero -> bi, sub_self -> bk
open List renaming length_take -> af, length_append -> al, length_map -> aR, getElem?_eq_getElem -> aS, mem_of_getElem? -> a2, length_set -> a4, append_assoc -> a5, take_of_length_le -> a8, flatMap_append -> bb, drop_length -> bd, take_length -> be
open And renaming intro -> aj
open Option renaming bind_some -> bh, map_some -> bo
namespace Go.Proofs
open Go.Ev
set_option maxRecDepth 100000
def iY(B:Nat)(l:List (List Nat)):kl B (e8 l)=true:=by
 unfold e8;split
 ·rfl
 ·rw[kl];exact bC (aB (λ_=>rfl) l)
def jI(B e n:Nat):dI (B+1) (bn 0 e n)=true:=by
 unfold bn;split
 ·exact fF rfl
 ·rw[dI];exact wd (Nat.succ_pos B)
def NV:∀(n:Nat) (r:jF) (ls:List (List Nat)),(dT n r ls).length<=r.length
 | 0,_,_=>bc _
 | n+1,r,ls=>by
  rw[dT];split
  ·exact bc _
  ·rw[al,aR];have h1:=NV n (r.filter λe=>!ls.contains e.2) ((r.filter λe=>ls.contains e.2).map (·.1));have h2:=z6 (λe:List Nat×List Nat=>ls.contains e.2) r;omega
def Iy(ps:List aH)(part:List Nat):(lZ ps part).length<=ps.length:=by
 unfold lZ;split
 ·have h1:(dM (dT (ps.length+2) (OQ ps part) [part])).length=(dT (ps.length+2) (OQ ps part) [part]).length:=(qP _).length_eq;rw[h1];refine ba (NV _ _ _) (ba yz (ba (List.length_filterMap_le _ _) ?_));have:=C7 ps 0 [];simpa using this
 ·exact bc _
def D1(l:List bJ)(d:bJ->Bool):(gE (fh d l)).length<=l.length:=by
 rw[gE,yS];exact List.length_filter_le _ _
def K7{l:List bJ}{d:bJ->Bool}{e:bJ}(h:e∈gE (fh d l)):e∈l:=(List.mem_filter.1 ((B5 _ _).mem_iff.1 h)).1
abbrev eT(e:bJ):List SV:=[ae e.part,ae e.kind,ae e.bN,ae e.slot,ae e.key,ae e.value,ab e.u1,ab e.u2,ab e.u3,ab e.u4,ab e.u5,ab e.u6]
abbrev eA(e:bJ):List SV:=[ab e.op,ab e.day,ae e.part,ae e.kind,ae e.bN,ae e.slot,ae e.key,ae e.value,ab e.u1,ab e.u2,ab e.u3,ab e.u4,ab e.u5,ab e.u6]
abbrev wE(c:List aP)(dmg:bB)(e:bJ)(ev:List bJ)(k:Nat):Fm:=[(3,.ip (ak 3 c ao::aE dmg)),(6,.ptr 0 0),(10,.ptr 1 0),(12,.ip (eA e)),(34,ak 14 ev aF),(35,ab ev.length),(36,ab k)]
abbrev wF(c:List aP)(dmg:bB)(e:bJ)(ev:List bJ)(k:Nat)(I:List (List Nat))(d:Int×Int)(n k2:Nat):Fm:=[(3,.ip (ak 3 c ao::aE dmg)),(6,.ptr 0 0),(10,.ptr 1 0),(12,.ip (eA e)),(15,ak 1 I (aA ae)),(16,.ip [ab d.1,ab d.2]),(34,ak 14 ev aF),(35,ab ev.length),(36,ab k),(77,ab n),(78,ab k2)]
set_option maxHeartbeats 8000000 in
def sR(c:List aP)(dmg:bB)(l:List bJ)(day:Int)(hc:jD c)(hf:gD dmg)(hlen:l.length<20)(hl:∀e∈l,p8 e):PC Tryz.prog 17 [.ag (ak 3 c ao::aE dmg),ak 14 l aF,ab day] (·=O7 (runN c dmg l day)):=by
 have hfl:(aE dmg).length=3:=eD dmg;have hft:(aE dmg).take 3=aE dmg:=a8 (by rw[hfl];exact a0 _);have hfk:=λo:Nat=>bI (o:=o) (aM dmg);have hfn:=λo:Nat=>dm (o:=o) (aM dmg);refine pB 101 Tryz.func17 ?_;refine aC (n2 hfk hfn) ?_;refine ar.fg (Fg.freeze (f':=[(1,ak 14 l aF),(3,.ip (ak 3 c ao::aE dmg)),(5,.ptr 1 0),(6,.ptr 2 0),(7,ab 0),(8,ab 0)]) 0 rfl (λh=>by cases h) ⟨.inl rfl,.inr (.ptr rfl (bp.refl (aM dmg)) (bc _)),.inl rfl,.inl rfl,.inl rfl,.inl rfl,trivial⟩) ?_
 (try change ar _ _ _ _ _)
 refine zC ?_;refine zK (nQ c hc) ?_;cases h1:lT c
 ·refine zR ?_;refine cL ?_;refine zE ?_;exact zO [.cell 6 76,.tmp 7,.tmp 8] (r:=.bE [.ag [.sl 0 14 []],ab (-1),ab 1]) (hw:=zv) (hq:=by (try simp only[dh,aW]);first | done | (rw[show runN c dmg l day=([],-1,1) by simp[runN,h1]];rfl))
 refine QT (n2 hfl hft) ?_;refine zK (qV dmg hf) ?_ (hwk:=bp.cons (.ag (bp.refl (aM dmg))) .nil);cases h2:Proofs.dV dmg
 ·refine zR ?_;refine cL ?_;refine zE ?_;exact zO [.cell 6 76,.tmp 7,.tmp 8] (r:=.bE [.ag [.sl 0 14 []],ab (-1),ab 1]) (hw:=zv) (hq:=by (try simp only[dh,aW]);first | done | (rw[show runN c dmg l day=([],-1,1) by simp[runN,h1,h2]];rfl))
 refine zR ?_;refine zN ?_
 have hN:runN c dmg l day=qO c dmg 0 (gE (fh (mO day) l)) []:=by rw[runN,h1,h2];rfl
 refine ar.fg (st':=⟨[(1,ak 14 l aF),(3,.ip (ak 3 c ao::aE dmg)),(5,.ptr 1 0),(6,.ptr 2 0)],101,[.gone,.cells [ab day],.cells [.a (.slice none 0 0 (some 0))]],[]⟩) zH ?_;clear h1 h2;obtain⟨kp,hkp⟩:∃kp,kp=fh (mO day) l:=⟨_,rfl⟩
 have hkl:kp.length<=l.length:=by rw[hkp];exact N0 _ _
 rw[<-hkp] at hN
 (repeat refine ar.seq ?_)
 refine ar.mono (Q:=λe st=>e=.normal/\Fg st ⟨[(3,.ip (ak 3 c ao::aE dmg)),(6,.ptr 0 0),(9,ak 14 kp aF)],101,[.cells [.a (.slice none 0 0 (some 0))]],[]⟩) ?_ ?_
 ·by_cases hne:l=[]
  ·subst hne;have hk0:kp=[]:=hkp;subst hk0;refine zC ?_;refine zS [] (n2 hfk hfn) Bj ?_;refine zQ ?_;refine zS [1] (n2 hfk hfn) (Jg 41 [ab day] rfl (mO day) (λx=>wT x day)) ?_;refine zR ?_;refine⟨rfl,?_⟩;refine Fg.trans (b:=⟨[(3,.ip (ak 3 c ao::aE dmg)),(6,.ptr 2 0),(9,ak 14 [] aF)],101,[.gone,.gone,.cells [.a (.slice none 0 0 (some 0))]],[]⟩) ?_ (Fg.rn (f':=[(3,.ip (ak 3 c ao::aE dmg)),(6,.ptr 0 0),(9,ak 14 [] aF)]) (n:=101) (S':=[.cells [.a (.slice none 0 0 (some 0))]]) [2] (by decide) rfl (by (simp only[qw,ef,bg,ak,aY (aM dmg)])<;>(repeat' apply aj)<;>first | trivial | exact .inl rfl | exact .inr rfl | exact .inr trivial | exact .inl trivial) (by (simp only[bP,ef,bg,ak,aY (aM dmg)])<;>(repeat' apply aj)<;>first | rfl | trivial));exact Fg.trans (Fg.wk (f':=[(3,.ip (ak 3 c ao::aE dmg)),(6,.ptr 2 0),(9,ak 14 [] aF)]) ⟨.inl rfl,.inl rfl,.inr (.TM 14),trivial⟩) zH
  ·have hne0:¬l.length=0:=λh=>hne (List.length_eq_zero_iff.1 h);have hrq:∀(r:Nat->Nat) (q:List bJ),kh r (q.flatMap aF)=q.flatMap aF:=λr q=>aY (aB cY q);have hbq:∀(B:Nat) (q:List bJ),fq B (q.flatMap aF)=true:=λB q=>bC (aB cY q);have hkq:=aZ cY;have hdel:=Jh 41 [ab day] rfl (mO day) (λx=>wT x day) l (by omega);rw[<-hkp] at hdel;obtain⟨q,hq⟩:∃q,q=kp++List.replicate (l.length-kp.length) bJ.zero:=⟨_,rfl⟩
   have hqt:(q.flatMap aF).take (kp.length*14)=kp.flatMap aF:=by
    rw[hY cT,hq,List.take_append_of_le_length (a0 _),a8 (a0 _)]
   have hql:(q.flatMap aF).length=l.length*14:=by rw[aJ cT,hq,al,List.length_replicate];congr 1;omega
   rw[<-hq] at hdel;refine zC ?_;refine zS [] (n5 hfk hfn hrq hbq hkq) (Bk l (by omega) hne) ?_;refine zQ ?_;refine zS [4,1] (n5 hfk hfn hrq hbq hkq) hdel ?_;refine zR ?_;refine⟨rfl,?_⟩;refine Fg.trans (b:=⟨[(3,.ip (ak 3 c ao::aE dmg)),(6,.ptr 2 0),(9,ak 14 kp aF)],101,[.gone,.gone,.cells [.a (.slice none 0 0 (some 0))]],[]⟩) ?_ (Fg.rn (f':=[(3,.ip (ak 3 c ao::aE dmg)),(6,.ptr 0 0),(9,ak 14 kp aF)]) (n:=101) (S':=[.cells [.a (.slice none 0 0 (some 0))]]) [2] (by decide) rfl (by (simp only[qw,ef,bg,ak,aY (aM dmg)])<;>(repeat' apply aj)<;>first | trivial | exact .inl rfl | exact .inr rfl | exact .inr trivial | exact .inl trivial) (by (simp only[bP,ef,bg,ak,aY (aM dmg)])<;>(repeat' apply aj)<;>first | rfl | trivial));exact Fg.trans (Fg.freeze (f':=[(3,.ip (ak 3 c ao::aE dmg)),(6,.ptr 2 0),(9,ak 14 kp aF)]) 4 rfl (λh=>by cases h) ⟨.inl rfl,.inl rfl,.inr (.buf rfl (by rw[hqt];exact bp.refl (aB cY _)) (by rw[hql];exact Nat.mul_le_mul_right 14 hkl)),trivial⟩) zH
 rintro e st ⟨rfl,hfg⟩;refine ar.fg hfg ?_;clear hfg
 (try change ar _ _ _ _ _)
 have hkm:∀e∈gE kp,p8 e:=λe he=>hl e (by rw[hkp] at he;exact K7 he)
 have hsl:(gE kp).length<20:=by have:=D1 l (mO day);rw[<-hkp] at this;omega
 refine kD ?_;refine zK (Hw kp (by omega)) ?_ (hfl:=.inr (bp.refl (by rw[cr,ak,lB,cr];rfl)));generalize gE kp=ev at hN hkm hsl;refine zR ?_
 have hlen1:ev.length<=1000000:=by omega
 refine ar.fg (st':=⟨[(3,.ip (ak 3 c ao::aE dmg)),(6,.ptr 0 0),(10,.ptr 1 0),(34,ak 14 ev aF),(35,ab ev.length),(36,ab 0)],101,[.cells [.a (.slice none 0 0 (some 0))],.cells [.a (.slice none 0 0 (some 0))]],[]⟩) zH ?_;refine ar.fg (Fg.Ur (S':=[.cells [.a (.slice none 0 0 (some 0))],.cells [ak 14 ([]:List aH) ah]]) ⟨.inr ⟨by decide,.inl rfl⟩,.inr ⟨by decide,.inr ⟨_,_,rfl,rfl,.cons (.nil _) .nil⟩⟩,trivial⟩) ?_
 (try change ar _ _ _ _ _)
 refine zs ?_;refine MX ev (λk (ps:List aH)=>(qO c dmg 0 ev []=qO c dmg k (ev.drop k) ps/\(∀p∈ps,gR p)/\ps.length<=k)) (λk ps=>[(3,.ip (ak 3 c ao::aE dmg)),(6,.ptr 0 0),(10,.ptr 1 0),(34,ak 14 ev aF),(35,ab ev.length),(36,ab k)]) (λk ps=>[.cells [.a (.slice none 0 0 (some 0))],.cells [ak 14 ps ah]]) ([]) zH (by exact⟨rfl,(λp hp=>by cases hp),a0 _⟩) ?_;intro k ps hk hall;refine zT ev k ?_ ?_;rintro rfl;rotate_left;intro e hx hlt;rotate_left
 ·refine dZ ?_;obtain⟨hr,_,_⟩:=hall;rw[bd] at hr;refine zV ?_;refine zE ?_;exact zO [.cell 6 76,.tmp 7,.tmp 8] (r:=.bE [.ag [ak 14 ps ah],ab (-1),ab 0]) (hw:=zv) (hq:=by (try simp only[dh,aW]);first | done | (rw[hN,hr];rfl))
 obtain⟨hr,hps,hpl⟩:=hall;rw[ft hx] at hr;have heo:=hkm e (a2 hx);have hap:=Av c ps e hc (by omega) hps heo;obtain⟨q1,q2,q3,q4⟩:=vm (c:=c) hps heo
 have hr2:qO c dmg k (e::ev.drop (k+1)) ps=if (aV c ps e).2=0 then (if e.op=4 then qO c dmg (k+1) (ev.drop (k+1)) (J0 dmg (aV c ps e).1 e) else qO c dmg (k+1) (ev.drop (k+1)) (aV c ps e).1) else ([],(k:Int),(aV c ps e).2):=rfl
 rw[hr2] at hr;clear hr2;obtain⟨nx,er,hne⟩:∃nx er,aV c ps e=(nx,er):=⟨_,_,rfl⟩;rw[hne] at hap q1 q2 q3 q4 hr;simp only at q1 q2 q3 q4 hr;rw[dx] at hap;refine eQ ?_;refine aC (n3 hlt (aG (e:=14) (enc:=aF) (λ_=>rfl) hx) @dx) ?_;refine ar.fg (Fg.freeze (f':=[(3,.ip (ak 3 c ao::aE dmg)),(6,.ptr 0 0),(10,.ptr 1 0),(11,ab k),(12,.ip (eA e)),(34,ak 14 ev aF),(35,ab ev.length),(36,ab k)]) 2 rfl (λh=>by cases h) (rK @ak.eq_1)) ?_
 (try change ar _ _ _ _ _)
 refine zC ?_;refine zK hap ?_ (hfl:=.inr (bp.refl rfl));refine cM @kH.eq_1 ?_;by_cases herr:er=0;rotate_left
 ·rw[un herr] at hr;have hnil:=q4 herr;refine aC (ut herr) ?_;refine cL ?_;refine zE ?_;exact zO [.cell 6 76,.tmp 7,.tmp 8] (r:=.bE [.ag [.sl 0 14 []],ab k,ab er]) (hw:=zv) (hq:=by (try simp only[dh,aW]);first | done | (rw[hN,hr];rfl))
 rw[ul herr] at hr;subst herr;refine H2 ?_;refine zV ?_;by_cases hop:e.op=4;rotate_left
 ·rw[un hop] at hr;refine aC (ut hop) ?_;refine zY ?_;refine ar.exit ?_
  (try change ar _ _ _ _ _)
  refine aC (zi hlt hlen1) ?_;refine H3 hlt (nx) zH (⟨hr,q1,by omega⟩)
 rw[ul hop] at hr;refine aC (wd hop) ?_;refine zN ?_;refine ar.fg (st':=⟨wE c dmg e ev k,101,[.cells [.a (.slice none 0 0 (some 0))],.cells [ak 14 nx ah]],[]⟩) zH ?_
 (try change ar _ _ _ _ _)
 obtain⟨ins,hins⟩:∃ins,ins=lZ nx e.part:=⟨_,rfl⟩
 have hinl:ins.length<=100000:=by rw[hins];exact ba (Iy nx e.part) (by omega)
 (repeat refine ar.seq ?_)
 refine ar.wL 7 12 (λL=>⟨(58,vo L 0 (.ag [ak 14 nx ah]))::(59,vo L 1 (.ip (eT e)))::(60,vo L 2 (ae e.part))::(61,vo L 3 (bn 2 1 ins.length))::(62,vo L 4 (.ip (eT e)))::(63,vo L 5 (ae e.part))::(64,vo L 6 (.buf 3 1 1 (some 1)))::wE c dmg e ev k,101,[.cells [.a (.slice none 0 0 (some 0))],.cells [ak 14 nx ah],wo L 3 (e8 ins),wo L 6 (.cells [ae e.part])],[]⟩) rfl (by kernel_rfl) (by rfl) (by decide) (by kernel_rfl) (bL (n2 @mh @Lh)) (λL=>rfl) ?_ ?_
 ·rintro L i o him hC hr
  rcases i with _ | _ | _ | _ | _ | _ | _ | i
  rotate_right
  ·exact t8 him (by omega)
  ·cases hr.fE;refine zR ?_;exact(bL (n2 @aO @fe))
  ·cases hr.fE;refine zR ?_;exact(bL (n2 @aO @fe))
  ·cases hr.fE;have d1:L 1:=hr.dep ⟨1,.data⟩ (by simp) rfl;refine cM (dP d1) ?_;exact(bL (n3 @aO @fe (dP d1)))
  ·cases hr.fE;have d0:L 0:=hr.dep ⟨0,.data⟩ (by simp) rfl;have d2:L 2:=hr.dep ⟨2,.data⟩ (by simp) rfl;have hn3:¬L 3:=hr.new;have hin:=He nx e.part (by omega);rw[<-hins] at hin;refine aI.sk [] (by rfl) rfl rfl (by rfl) rfl (J3 (n2 (dP d0) (dP d2))) (hin) (by simp only[ef,bg,ak,↓reduceIte,ac,aa,a7,a1,ad,ap,dq d0,dq d2,↓jW,cu,hfk,hfn,cz (show 2≠4 by decide),fN,dY,eM,jI,iY,gp hn3];first | done | rfl) rfl (by decide) (by simp only[sD,ef,bg,ak,dq d0,dq d2,↓jW,cu,hfk,hfn,cz (show 2≠4 by decide),fN,dY,eM,jI,iY,gp hn3]<;>(repeat' apply aj)<;>first | trivial | rfl | (intro hh;cases hh)) (by simp only[xw,ef,bg,ak,aa,ap,decide_true,dq d0,dq d2,↓jW,cu,hfk,hfn,cz (show 2≠4 by decide),fN,dY,eM,jI,iY,gp hn3];first | done | rfl) (by simp only[xw,ef,bg,ak,aa,ap,decide_true,dq d0,dq d2,↓jW,cu,hfk,hfn,cz (show 2≠4 by decide),fN,dY,eM,jI,iY,gp hn3];first | done | rfl) (by simp only[ef,bg,ak,↓reduceIte,ac,aa,a7,a1,ad,ap,dq d0,dq d2,↓jW,cu,hfk,hfn,cz (show 2≠4 by decide),fN,dY,eM,jI,iY,gp hn3];first | done | rfl) (by simp only[ef,bg,ak,↓reduceIte,ac,aa,a7,a1,ad,ap,dq d0,dq d2,↓jW,cu,hfk,hfn,cz (show 2≠4 by decide),fN,dY,eM,jI,iY,gp hn3,dJ,dB,bQ,bf,bP];first | done | rfl) (by simp only[ef,bg,ak,↓reduceIte,ac,aa,a7,a1,ad,ap,dq d0,dq d2,↓jW,cu,hfk,hfn,cz (show 2≠4 by decide),fN,dY,eM,jI,iY,gp hn3,dJ,dB,bQ,bf,bP];first | done | rfl) ?_;refine .nil ?_;exact((Fg.rn (f':=(58,(.ag [ak 14 nx ah]))::(59,vo L 1 (.ip (eT e)))::(60,(ae e.part))::(61,(bn 2 1 ins.length))::(62,vo L 4 (.ip (eT e)))::(63,vo L 5 (ae e.part))::(64,vo L 6 (.buf 3 1 1 (some 1)))::wE c dmg e ev k) (n:=101) (S':=[.cells [.a (.slice none 0 0 (some 0))],.cells [ak 14 nx ah],e8 ins,wo L 6 (.cells [ae e.part])]) [0,1,4,3] (by decide) rfl (by (simp only[qw,ef,bg,ak,r6,r7,eM,dY,aY (aM dmg),cu,cz (show 2≠4 by decide)])<;>(repeat' apply aj)<;>first | trivial | exact .inl rfl | exact .inr rfl | exact .inr trivial | exact .inl trivial) (by (simp only[bP,ef,bg,ak,r6,r7,eM,dY,aY (aM dmg),cu,cz (show 2≠4 by decide)])<;>(repeat' apply aj)<;>first | rfl | trivial))).trans (bL (n4 @aO @fe (dP d0) (dP d2)))
  ·cases hr.fE;refine zR ?_;exact(bL (n2 @aO @fe))
  ·cases hr.fE;have d4:L 4:=hr.dep ⟨4,.data⟩ (by simp) rfl;refine cM (dP d4) ?_;exact(bL (n3 @aO @fe (dP d4)))
  ·cases hr.fE;have d5:L 5:=hr.dep ⟨5,.data⟩ (by simp) rfl;have hn6:¬L 6:=hr.new;refine aI.r0 (by rfl) (by simp only[bP,bg,ak,aw,bh,bo,↓reduceIte,ac,aa,a1,ad,ap,ai,an,aU,dq d5,↓jW,cu,hfk,hfn,cz (show 2≠4 by decide),fN,gp hn6];first | done | rfl) ?_;exact((Fg.rn (f':=(58,vo L 0 (.ag [ak 14 nx ah]))::(59,vo L 1 (.ip (eT e)))::(60,vo L 2 (ae e.part))::(61,vo L 3 (bn 2 1 ins.length))::(62,vo L 4 (.ip (eT e)))::(63,(ae e.part))::(64,(.buf 3 1 1 (some 1)))::wE c dmg e ev k) (n:=101) (S':=[.cells [.a (.slice none 0 0 (some 0))],.cells [ak 14 nx ah],wo L 3 (e8 ins),.cells [ae e.part]]) [0,1,2,4] (by decide) rfl (by (simp only[qw,ef,bg,ak,r6,r7,eM,dY,aY (aM dmg),cu,cz (show 2≠4 by decide)])<;>(repeat' apply aj)<;>first | trivial | exact .inl rfl | exact .inr rfl | exact .inr trivial | exact .inl trivial) (by (simp only[bP,ef,bg,ak,r6,r7,eM,dY,aY (aM dmg),cu,cz (show 2≠4 by decide)])<;>(repeat' apply aj)<;>first | rfl | trivial))).trans (bL (n3 @aO @fe (dP d5)))
 change aI _ _ _ _ _ _;refine aI.mono (K:=λx=>Fg x ⟨(65,.buf 2 (ins.length+1) 1 none)::wE c dmg e ev k,101,[.cells [.a (.slice none 0 0 (some 0))],.cells [ak 14 nx ah],.cells ((ins++[e.part]).flatMap (aA ae))],[]⟩) ?_ λx hx=>?_
 ·have v7:∀i,i<7->∀v:SV,vo (λj=>j<7) i v=v:=λi h v=>dq h;have w7:∀i,i<7->∀v:SO,wo (λj=>j<7) i v=v:=λi h v=>lO h;have a3:=v7 3 (by decide);have a6:=v7 6 (by decide);have b3:=w7 3 (by decide);have b6:=w7 6 (by decide);have happ:=eh (enc:=aA ae) (e:=1) (λ_=>rfl) (λ_=>rfl) 2 ins e.part;rw[show aA ae e.part=[ae e.part] from rfl,Nat.mul_one] at happ;have hcl:=aJ (enc:=aA ae) (e:=1) (λ_=>rfl) ins;by_cases hi0:ins=[]
  ·subst hi0;refine cM (n10 a3 a6 b3 b6 @eH @List.length_nil.{0} @j6 hfk hfn @cu) ?_;exact((Fg.rn (f':=(65,.buf 2 1 1 none)::wE c dmg e ev k) (n:=101) (S':=[.cells [.a (.slice none 0 0 (some 0))],.cells [ak 14 nx ah],.cells [ae e.part]]) [0,1,4] (by decide) rfl (by (simp only[qw,ef,bg,ak,aY (aM dmg)])<;>(repeat' apply aj)<;>first | trivial | exact .inl rfl | exact .inr rfl | exact .inr trivial | exact .inl trivial) (by (simp only[bP,ef,bg,ak,aY (aM dmg)])<;>(repeat' apply aj)<;>first | rfl | trivial))).trans (bL (n5 @aA.eq_1 @nil_append.{0} @flatMap_cons.{0,0} @List.flatMap_nil.{0,0} @List.length_nil.{0}))
  ·have hil:¬ins.length=0:=λh=>hi0 (List.length_eq_zero_iff.1 h);refine aI.r0 (by rfl) (by simp only[bP,bg,ak,aw,bh,bo,↓reduceIte,ac,aa,a1,ad,ap,ai,an,aU,a3,a6,b3,b6,bV hil,ig hi0,hfk,hfn,cu,aZ (enc:=aA ae) (λ_=>rfl) _ ins,hcl,Nat.mul_one,a0,show ins.length<=1000000 by omega,happ];first | done | rfl) ?_;exact zH
 change aI _ _ _ _ _ _;refine aI.fg hx ?_;refine zR ?_;change ar _ _ _ _ _;refine ar.fg (st':=⟨(15,.buf 2 (ins.length+1) 1 none)::wE c dmg e ev k,101,[.cells [.a (.slice none 0 0 (some 0))],.cells [ak 14 nx ah],.cells ((ins++[e.part]).flatMap (aA ae))],[]⟩) zH ?_;obtain⟨I,hI⟩:∃I,I=ins++[e.part]:=⟨_,rfl⟩
 have hIl:I.length=ins.length+1:=by rw[hI,al];rfl
 rw[<-hI];refine ar.fg (Fg.freeze (f':=[(3,.ip (ak 3 c ao::aE dmg)),(6,.ptr 0 0),(10,.ptr 1 0),(12,.ip (eA e)),(15,ak 1 I (aA ae)),(34,ak 14 ev aF),(35,ab ev.length),(36,ab k)]) 2 rfl (λh=>by cases h) ⟨.inl rfl,.inl rfl,.inl rfl,.inl rfl,.inr (by rw[lM 1 I (aA ae),hIl];exact .buf rfl (by rw[<-hIl,cV (enc:=aA ae) (e:=1) (λ_=>rfl)];exact bp.refl (aB (λ_=>rfl) _)) (by rw[aJ (enc:=aA ae) (e:=1) (λ_=>rfl),hIl];exact a0 _)),.inl rfl,.inl rfl,.inl rfl,trivial⟩) ?_
 (try change ar _ _ _ _ _)
 have hd:=G6 dmg (nT e) hf;simp only[dU,nT] at hd;obtain⟨d,hdd⟩:∃d,d=q7 dmg (nT e):=⟨_,rfl⟩;have hdd2:q7 dmg ⟨e.u1,e.u2,e.u3,e.u4,e.u5,e.u6⟩=d:=hdd.symm;rw[hdd2] at hd;refine gG (n2 hfl hft) ?_;refine zK hd ?_ (hwk:=bp.cons (.ag (bp.refl (aM dmg))) (.cons (.ag (bp.refl rfl)) .nil));refine cM (n4 @oy.eq_1 @lq.eq_1 hfk hfn) ?_;have hnn:=q3 rfl;have hn0:0<nx.length:=Nat.pos_of_ne_zero λh=>hnn (List.length_eq_zero_iff.1 h);have hrq:∀(r:Nat->Nat) (q:List aH),kh r (q.flatMap ah)=q.flatMap ah:=λr q=>aY (aB bH q);have hbq:∀(B:Nat) (q:List aH),fq B (q.flatMap ah)=true:=λB q=>bC (aB bH q);have hkq:=aZ (enc:=ah) bH;refine zC ?_;refine zS [] (n5 hfk hfn hrq hbq hkq) (pU nx (by omega) hnn) ?_;refine zR ?_;refine zV ?_;refine ar.fg (st':=⟨[(3,.ip (ak 3 c ao::aE dmg)),(6,.ptr 0 0),(10,.ptr 1 0),(12,.ip (eA e)),(15,ak 1 I (aA ae)),(16,.ptr 3 0),(34,ak 14 ev aF),(35,ab ev.length),(36,ab k),(76,.buf 5 nx.length 14 none),(77,ab nx.length),(78,ab 0)],101,[.cells [.a (.slice none 0 0 (some 0))],.cells [.buf 5 nx.length 14 none],.gone,.cells [ab d.1,ab d.2],.gone,.cells (nx.flatMap ah)],[]⟩) zH ?_;refine ar.fg (Fg.freeze (f':=(wF c dmg e ev k I d nx.length 0)) 3 rfl (λh=>by cases h) (rK @ak.eq_1)) ?_;refine ar.fg (st':=⟨(wF c dmg e ev k I d nx.length 0),101,[.cells [.a (.slice none 0 0 (some 0))],.cells [.buf 2 nx.length 14 none],.cells (nx.flatMap ah)],[]⟩) (Fg.rn [0,1,5] (by decide) rfl (by (simp only[qw,ef,bg,ak,hrq,aY (aM dmg)])<;>(repeat' apply aj)<;>first | trivial | exact .inl rfl | exact .inr rfl | exact .inr trivial | exact .inl trivial) (by (simp only[bP,ef,bg,ak,hrq,aY (aM dmg)])<;>(repeat' apply aj)<;>first | rfl | trivial)) ?_
 have hIu:J0 dmg nx e=nx.map (AS dmg I e):=by unfold J0;rw[hI,hins]
 have hnl:nx.length<=1000000:=by omega
 refine zs ?_;refine zL nx (λk2=>True) (λk2=>(wF c dmg e ev k I d nx.length k2)) (λk2=>[.cells [.a (.slice none 0 0 (some 0))],.cells [.buf 2 nx.length 14 none],.cells ((((nx.take k2).map (AS dmg I e))++nx.drop k2).flatMap ah)]) (bL (n4 @List.take_zero.{0} @List.map_nil.{0,0} @List.drop_zero.{0} @nil_append.{0})) zp ?_;intro k2 hk2 hall2;refine zT nx k2 ?_ ?_;rintro rfl;rotate_left;intro p hx2 hlt2;rotate_left
 ·refine dZ ?_;rw[be,bd,List.append_nil,<-hIu];obtain⟨r1,r2⟩:=Lf (dmg:=dmg) (e:=e) q1;generalize J0 dmg nx e=ux at hr r1 r2;refine ar.fg (Fg.xT (f':=[(3,.ip (ak 3 c ao::aE dmg)),(6,.ptr 0 0),(10,.ptr 1 0),(12,.ip (eA e)),(15,ak 1 I (aA ae)),(34,ak 14 ev aF),(35,ab ev.length),(36,ab k)]) (S':=[.cells [.a (.slice none 0 0 (some 0))],.cells [ak 14 ux ah]]) 2 rfl (λh=>by cases h) (rK @ak.eq_1) ⟨.inr ⟨by decide,.inl rfl⟩,.inr ⟨by decide,.inr ⟨_,_,rfl,rfl,.cons (by rw[lM 14 ux ah,r2];exact .buf rfl (by rw[<-r2,cV (enc:=ah) (e:=14) (λ_=>rfl)];exact bp.refl (aB bH _)) (by rw[aJ (enc:=ah) (e:=14) (λ_=>rfl),r2];exact a0 _)) .nil⟩⟩,trivial⟩) ?_
  (try change ar _ _ _ _ _)
  refine aC (zi hlt hlen1) ?_;refine H3 hlt (ux) zH (⟨hr,r1,by omega⟩)
 have hdrop:=ft hx2;obtain⟨q,hq⟩:∃q,q=(nx.take k2).map (AS dmg I e)++nx.drop k2:=⟨_,rfl⟩
 have hqx:q[k2]?=some p:=by
  rw[hq,List.getElem?_append_right (by rw[aR,af];omega),aR,af,a9 (by omega),bk,hdrop];rfl
 have hql:q.length=nx.length:=by rw[hq,al,aR,af,List.length_drop];omega
 have hqc:(q.flatMap ah).length=nx.length*14:=by rw[aJ (enc:=ah) (e:=14) (λ_=>rfl),hql]
 have hnext:((nx.take (k2+1)).map (AS dmg I e)++nx.drop (k2+1))=q.set k2 (AS dmg I e p):=by
  rw[hq,br hx2,List.map_append,hdrop,List.set_append_right _ _ (by rw[aR,af];omega),aR,af,a9 (by omega),bk,List.set_cons_zero,a5];rfl
 have hcell:(q.flatMap ah)[k2*14]?=some (ae p.name):=by
  have h1:((q.flatMap ah).drop (k2*14)).take 14=ah p:=aG (e:=14) (enc:=ah) (λ_=>rfl) hqx;have h2:=congrArg (λl=>l[0]?) h1;simp only[List.getElem?_take,List.getElem?_drop,bi] at h2;exact h2
 rw[<-hq];refine eQ ?_;refine zV ?_;refine gG (n3 hlt2 @bi hcell) ?_;refine zK (kV I p.name (by omega)) ?_ (hwk:=bp.cons (.sl _ _ _) (.cons (.a _) .nil));cases hcn:I.contains p.name
 ·have hup:AS dmg I e p=p:=by unfold AS;rw[hcn];rfl
  rw[hup] at hnext
  have hset:q.set k2 p=q:=by
   apply List.ext_getElem?;intro j;by_cases hj:k2=j
   ·subst hj;rw[List.getElem?_set_self (bD hqx),hqx]
   ·rw[List.getElem?_set_ne hj]
  rw[hset] at hnext;refine zR ?_;refine zN ?_;refine aC (zi hlt2 hnl) ?_;refine zX hlt2 (bL hnext) trivial
 refine zR ?_;refine zY ?_
 have hup:AS dmg I e p=xK (nT e) d p:=by unfold AS;rw[hcn,<-hdd];rfl
 obtain⟨A,hA⟩:∃A,A=(q.take k2).flatMap ah++[ae p.name,ae p.kind,ae p.bN,ae p.slot,ab p.made,ab p.since,az p.eI,ak 2 p.props au]:=⟨_,rfl⟩;obtain⟨B,hB⟩:∃B,B=(q.drop (k2+1)).flatMap ah:=⟨_,rfl⟩
 have hkl:k2<q.length:=by omega
 have hAl:A.length=k2*14+8:=by rw[hA,al,aJ (enc:=ah) (e:=14) (λ_=>rfl),af,a9 (by omega)];rfl
 have hqs:q.take k2++(p::q.drop (k2+1))=q:=by rw[<-ft hqx,List.take_append_drop]
 have hsplit:q.flatMap ah=A++(B9 p.l1 p.l2 p.l3 p.l4 p.l5 p.l6++B):=by
  rw[hA,hB,a5]
  conv=>lhs;rw[<-hqs,bb,flatMap_cons]
  rfl
 have hset:(q.set k2 (xK (nT e) d p)).flatMap ah=A++(N8 p.l1 p.l2 p.l3 p.l4 p.l5 p.l6 (nT e) d.1 d.2++B):=by
  rw[hA,hB,a5,List.set_eq_take_append_cons_drop,ul hkl,bb,flatMap_cons];rfl
 rw[hup] at hnext;have hla:=Et A B p.l1 p.l2 p.l3 p.l4 p.l5 p.l6 (nT e) d.1 d.2 (by rw[<-hsplit];exact aB bH q);rw[<-hsplit,<-hset,hAl] at hla;simp only[dU,nT,lq] at hla;refine ar.wL 8 9 (λL=>⟨(89,vo L 0 (.ptr 1 0))::(90,vo L 1 (.buf 2 nx.length 14 none))::(91,vo L 2 (ab k2))::(92,vo L 3 (.ptr 2 (k2*14)))::(93,vo L 4 (.ptr 2 (k2*14+8)))::(94,vo L 5 (.ip [ab e.u1,ab e.u2,ab e.u3,ab e.u4,ab e.u5,ab e.u6]))::(95,vo L 6 (.ag [ab e.u1,ab e.u2,ab e.u3,ab e.u4,ab e.u5,ab e.u6]))::(96,vo L 7 (.ag [ab d.1,ab d.2]))::(17,ab k2)::wF c dmg e ev k I d nx.length k2,101,[.cells [.a (.slice none 0 0 (some 0))],.cells [.buf 2 nx.length 14 none],.cells (q.flatMap ah)],[]⟩) rfl (by kernel_rfl) (by rfl) (by decide) (by kernel_rfl) (bL @mh) (λL=>rfl) ?_ ?_
 ·rintro L i o him hC hr
  rcases i with _ | _ | _ | _ | _ | _ | _ | _ | i
  rotate_right
  ·exact t8 him (by omega)
  ·cases hr.fE;refine zR ?_;exact(bL @aO)
  ·cases hr.fE;have d0:L 0:=hr.dep ⟨0,.data⟩ (by simp) rfl;refine cM (dP d0) ?_;exact(bL (n2 @aO (dP d0)))
  ·cases hr.fE;refine zR ?_;exact(bL @aO)
  ·cases hr.fE;have d1:L 1:=hr.dep ⟨1,.data⟩ (by simp) rfl;have d2:L 2:=hr.dep ⟨2,.data⟩ (by simp) rfl;refine cM (n3 (dP d1) (dP d2) hlt2) ?_;exact(bL (n3 @aO (dP d1) (dP d2)))
  ·cases hr.fE;have d3:L 3:=hr.dep ⟨3,.data⟩ (by simp) rfl;refine cM (n2 (dP d3) hqc) ?_;exact(bL (n2 @aO (dP d3)))
  ·cases hr.fE;refine zR ?_;exact(bL @aO)
  ·cases hr.fE;have d5:L 5:=hr.dep ⟨5,.data⟩ (by simp) rfl;refine cM (dP d5) ?_;exact(bL (n2 @aO (dP d5)))
  ·cases hr.fE;refine zR ?_;exact(bL @aO)
 have v8:∀i,i<8->∀v:SV,vo (λj=>j<8) i v=v:=λi h v=>dq h;have v84:=v8 4 (by decide);have v86:=v8 6 (by decide);have v87:=v8 7 (by decide);change aI _ _ _ _ _ _;refine aI.fg (st':=⟨(93,.ptr 2 (k2*14+8))::(95,.ag [ab e.u1,ab e.u2,ab e.u3,ab e.u4,ab e.u5,ab e.u6])::(96,.ag [ab d.1,ab d.2])::wF c dmg e ev k I d nx.length k2,101,[.cells [.a (.slice none 0 0 (some 0))],.cells [.buf 2 nx.length 14 none],.cells (q.flatMap ah)],[]⟩) (bL (n3 v84 v86 v87)) ?_;refine zS [2] (n5 hfk hfn hrq hbq hkq) hla ?_;refine zR ?_;simp only[nT] at hnext;refine aC (zi hlt2 hnl) ?_;refine zX hlt2 (bL hnext) trivial
def Py(least:Int)(p:bu×Int):Bool:=!(decide (bF p.1=0))&&(!(decide (p.2<least))&&!(decide (bF p.1<=p.2)))
def lJ(c:List aP)(l:List bu)(ch:List Int)(least:Int):Bool:=lT c&&(decide (l.length=ch.length)&&(l.zip ch).all (Py least))
set_option maxHeartbeats 1000000 in
def AD(c:List aP)(l:List bu)(ch:List Int)(least:Int)(hc:jD c)(hl:∀r∈l,ea r)(hlen:l.length<=1000000)(hlc:ch.length<=1000000):PC Tryz.prog 208 [.ag [ak 3 c ao],ak 2 l aD,ak 1 ch (aA ab),ab least] (·=az (lJ c l ch least)):=by
 refine pB 50 Tryz.func208 ?_;refine kD ?_;refine zK (nQ c hc) ?_;cases h1:lT c
 ·refine cM h1 ?_;refine cL ?_;exact zo [.tmp 8] (hq:=by rw[lJ,h1];rfl)
 by_cases heq:l.length=ch.length;rotate_left
 ·refine cM (n2 h1 (show(!decide ((ch.length:Int)=(l.length:Int)))=true by simp;omega)) ?_;refine cL ?_;exact zo [.tmp 8] (hq:=by rw[lJ,h1,ut heq];rfl)
 refine cM (n2 h1 (show(!decide ((ch.length:Int)=(l.length:Int)))=false by simp;omega)) ?_;refine iK ?_
 have hz:∀{k:Nat} {r:bu} {n:Int},l[k]?=some r->ch[k]?=some n->(l.zip ch)[k]?=some (r,n):=λh1 h2=>by
  rw[List.getElem?_zip_eq_some];exact⟨h1,h2⟩
 refine zs ?_;refine zL l (λk=>((l.zip ch).take k).all (Py least)=true) (λk=>[(2,ak 1 ch (aA ab)),(3,ab least),(22,ak 2 l aD),(23,ab l.length),(24,ab k)]) (λk=>[]) zH zp ?_;intro k hk hall;refine zT l k ?_ ?_;rintro rfl;rotate_left;intro r hx hlt;rotate_left
 ·refine dZ ?_
  have hzl:(l.zip ch).length=l.length:=by rw[List.length_zip,<-heq,Nat.min_self]
  rw[<-hzl,be] at hall;refine zV ?_;exact zo [.tmp 8] (hq:=by rw[lJ,h1,wd heq,hall];rfl)
 have hrk:ea r:=hl r (a2 hx);have hr1:=hrk.len;obtain⟨n,hn⟩:∃n,ch[k]?=some n:=⟨ch[k],aS (by omega)⟩;have hzk:=hz hx hn;have ht:=br hzk
 have hlc2:k<ch.length:=by omega
 have hall2:Py least (r,n)=true->((l.zip ch).take (k+1)).all (Py least)=true:=λh=>by
  rw[ht,List.all_append,hall];show(true&&(Py least (r,n)&&true))=true;rw[h];rfl
 have hbad:Py least (r,n)=false->lJ c l ch least=false:=λh=>by
  rw[lJ,h1,wd heq];refine Bool.eq_false_iff.2 λh2=>?_;have:=List.all_eq_true.1 h2 _ (a2 hzk);rw[h] at this;cases this
 refine eQ ?_;refine aC (n3 hlt (aG (e:=2) (enc:=aD) (λ_=>rfl) hx) @aD.eq_1) ?_;refine zC ?_;refine zK (iJ r hrk) ?_;refine zR ?_;cases g0:decide (bF r=0);rotate_left
 ·refine aC g0 ?_;refine cL ?_;exact zo [.tmp 8] (hq:=by rw[hbad (by rw[Py,g0];rfl)])
 cases g1:decide (n<least);rotate_left
 ·refine aC (n5 g0 g1 hlc2 (aG (e:=1) (enc:=aA ab) (λ_=>rfl) hn) @aA.eq_1) ?_;refine cL ?_;exact zo [.tmp 8] (hq:=by rw[hbad (by rw[Py,g0,g1];rfl)])
 cases g2:decide (bF r<=n);rotate_left
 ·refine aC (n6 g0 g1 g2 hlc2 (aG (e:=1) (enc:=aA ab) (λ_=>rfl) hn) @aA.eq_1) ?_;refine cL ?_;exact zo [.tmp 8] (hq:=by rw[hbad (by rw[Py,g0,g1,g2];rfl)])
 refine aC (n6 g0 g1 g2 hlc2 (aG (e:=1) (enc:=aA ab) (λ_=>rfl) hn) @aA.eq_1) ?_;refine zN ?_;refine aC (zi hlt hlen) ?_;refine zX hlt zH (hall2 (by rw[Py,g0,g1,g2];rfl))
def RV(a b:Int):Int:=dO .i64 (a-b)
def bX(p:bJ×Int):List SV:=[ab p.1.op,ab p.1.day,ae p.1.part,ae p.1.kind,ae p.1.bN,ae p.1.slot,ae p.1.key,ae p.1.value,ab p.1.u1,ab p.1.u2,ab p.1.u3,ab p.1.u4,ab p.1.u5,ab p.1.u6,ab p.2]
def gA(e:bJ×Int):(bX e).length=15:=rfl
def oD(p:bJ×Int):bX p=[ab p.1.op,ab p.1.day,ae p.1.part,ae p.1.kind,ae p.1.bN,ae p.1.slot,ae p.1.key,ae p.1.value,ab p.1.u1,ab p.1.u2,ab p.1.u3,ab p.1.u4,ab p.1.u5,ab p.1.u6,ab p.2]:=rfl
def eW(e:bJ×Int):cr (bX e)=true:=rfl
def Kk(a b:bJ×Int):Int:=RV a.1.day b.1.day
def Np{P:Program}{t:TypeId}{a b:Int}:cS P .sub t (.int .i64 a) (.int .i64 b)=some (.int .i64 (RV a b)):=by
 simp only[cS,yV,ai,RV]
def Eh(a b:bJ×Int):PC Tryz.prog 236 [.ag (bX a),.ag (bX b)] (·=ab (Kk a b)):=by
 refine pB 12 Tryz.func236 ?_;refine aC @bX.eq_1 ?_;refine aC @Np ?_;exact zo [.tmp 4]
def sF(cmp:(bJ×Int)->(bJ×Int)->Int)(x y:(bJ×Int)):Bool:=decide (cmp x y<0)
set_option maxHeartbeats 2000000 in
def Jr(g:FuncId)(cmp:(bJ×Int)->(bJ×Int)->Int)(hg:∀x y,PC Tryz.prog g [.ag (bX x),.ag (bX y)] (·=ab (cmp x y)))(c:Option Nat)(l:List (bJ×Int))(hlen:l.length<=100000):
 SC Tryz.prog 246 [.buf 0 l.length 15 c,ab 0,ab l.length,.fn g [] []] [.cells (l.flatMap bX)] [] (λr S'=>r=.bE []/\S'=[.cells ((qx (sF cmp) l).flatMap bX)]):=by
 refine GU 53 Tryz.func246 ?_;refine zV ?_
 (repeat refine ar.seq ?_)
 refine ar.block (ar.loop (λm st=>∃(i:Nat) (q:List (bJ×Int)),(q.length=l.length/\(i+1<=l.length\/i=0))/\qx (sF cmp) l=xo (sF cmp) (l.length-(i+1)) (i+1) q/\l.length-i=m/\st=⟨[(0,.buf 0 l.length 15 c),(1,ab 0),(2,ab l.length),(3,.fn g [] []),(8,cx (i+1)),(1000000,.ptr 0 0)],53,[.cells (q.flatMap bX)],[]⟩) l.length zH ⟨0,l,⟨rfl,.inr rfl⟩,rfl,Nat.sub_zero _,rfl⟩ (by rintro m st ⟨i,q,_,_,_,rfl⟩;rfl) ?_);rintro m st ⟨i,q,⟨hql,hi⟩,hres,rfl,rfl⟩;refine zV ?_;by_cases hlt:i+1<l.length;rotate_left
 ·rw[show decide (((i+1:Nat):Int)<(l.length:Int))=false by simp only[wp];omega];refine zN ?_;refine ar.fg (st':=⟨[(1000000,.ptr 0 0)],53,[.cells (q.flatMap bX)],[]⟩) zH ?_;refine ar.exit ?_;simp only[fV,dS,cE,cq,if_true];rw[show l.length-(i+1)=0 by omega,xo] at hres;exact zP [] (hq:=by (try simp only[dh,aW]);first | done | (rw[hres];first | exact⟨rfl,rfl⟩ | exact⟨trivial,rfl⟩ | exact⟨rfl,trivial⟩ | exact⟨trivial,trivial⟩))
 rw[show decide (((i+1:Nat):Int)<(l.length:Int))=true by simp only[wr];omega];refine eQ ?_;refine zV ?_;obtain⟨s,hs⟩:∃s,l.length-(i+1)=s+1:=⟨l.length-(i+1)-1,by omega⟩;rw[hs,xo] at hres
 (repeat refine ar.seq ?_)
 refine ar.block (ar.loop (λm st=>∃(j:Nat) (p:List (bJ×Int)),(p.length=l.length/\j<=i+1)/\pV (sF cmp) (i+1) q=pV (sF cmp) j p/\j=m/\st=⟨[(0,.buf 0 l.length 15 c),(1,ab 0),(2,ab l.length),(3,.fn g [] []),(8,cx (i+1)),(9,cx j),(1000000,.ptr 0 0)],53,[.cells (p.flatMap bX)],[]⟩) (i+1) zH ⟨i+1,q,⟨hql,a0 _⟩,rfl,rfl,rfl⟩ (by rintro m st ⟨j,p,_,_,_,rfl⟩;rfl) ?_);rintro m st ⟨j,p,⟨hpl,hj⟩,hb,rfl,rfl⟩;have hil:i+1<l.length:=hlt
 have hcl:(p.flatMap bX).length=l.length*15:=by rw[aJ gA,hpl]
 cases j with
 | zero=>
  refine zs ?_;refine oz [0,0,3,7,15,15,15,111,239,15,15,1039,3599,7695,16383,32767,65535] ?_;refine ni (show decide ((0:Int)<((0:Nat):Int))=false from rfl) ?_;refine zM ?_;refine dZ ?_;refine aC (p9 (show -9223372036854775808<=((i+1:Nat):Int)+1/\((i+1:Nat):Int)+1<=9223372036854775807 from⟨by omega,by omega⟩)) ?_;exact⟨l.length-(i+1),_,by omega,zH,i+1,p,⟨hpl,.inl (by omega)⟩,by rw[hres,hb,pV,show l.length-(i+1+1)=s by omega],rfl,rfl⟩
 | succ j=>
  have hj1:j+1<l.length:=by omega
  have hj0:j<l.length:=by omega
  obtain⟨x,hx⟩:∃x,p[j+1]?=some x:=⟨p[j+1],aS (by omega)⟩;obtain⟨y,hy⟩:∃y,p[j]?=some y:=⟨p[j],aS (by omega)⟩;have ax:((p.flatMap bX).drop ((j+1)*15)).take 15=bX x:=aG (e:=15) (enc:=bX) gA hx;have ay:((p.flatMap bX).drop (j*15)).take 15=bX y:=aG (e:=15) (enc:=bX) gA hy
  have hbs:pV (sF cmp) (j+1) p=if sF cmp x y=true then pV (sF cmp) j ((p.set (j+1) y).set j x) else p:=by rw[pV,hx,hy]
  have s1:=gB (enc:=bX) gA (l:=p) (i:=j+1) y (by omega);have s2:=gB (enc:=bX) gA (l:=p.set (j+1) y) (i:=j) x (by rw[a4];omega)
  have hcl2:((p.set (j+1) y).flatMap bX).length=l.length*15:=by rw[aJ gA,a4,hpl]
  rw[oD y] at s1 ay;rw[oD x] at s2 ax;simp only[List.cons_append,nil_append] at s1 s2;have hgx:=hg x y;rw[oD y,oD x] at hgx;refine zs ?_;refine oz [0,0,3,7,15,15,15,111,239,15,15,1039,3599,7695,16383,32767,65535] ?_;refine ni (n10 (show decide ((0:Int)<((j+1:Nat):Int))=true from by simp only[wr];omega) hj1 hj0 (Lo (show -9223372036854775808<=((j+1:Nat):Int)-1/\((j+1:Nat):Int)-1<=9223372036854775807 from⟨by omega,by omega⟩)) (show((j+1:Nat):Int)-1=(j:Int) from by omega) hcl (show(j+1)*15+15<=l.length*15 by omega) (show j*15+15<=l.length*15 by omega) ax ay) ?_;refine SD.k (by rfl) rfl rfl (by rfl) rfl rfl zc (hgx) (zw) rfl ?_;cases hc:decide (cmp x y<0)
  ·rw[sF,hc,un (by decide)] at hbs;refine ni hc ?_;refine zM ?_;refine dZ ?_;refine aC (p9 (show -9223372036854775808<=((i+1:Nat):Int)+1/\((i+1:Nat):Int)+1<=9223372036854775807 from⟨by omega,by omega⟩)) ?_;exact⟨l.length-(i+1),_,by omega,zH,i+1,p,⟨hpl,.inl (by omega)⟩,by rw[hres,hb,hbs,show l.length-(i+1+1)=s by omega],rfl,rfl⟩
  ·rw[sF,hc,ul rfl] at hbs;refine ni hc ?_;refine zM ?_;refine eQ ?_;refine zs ?_;refine oz [0,0,0,0,8,0,0,64,224,480,0,0,3072,7168,16355,32739,65535,131071] ?_;refine ni (n9 hj1 hj0 (Lo (show -9223372036854775808<=((j+1:Nat):Int)-1/\((j+1:Nat):Int)-1<=9223372036854775807 from⟨by omega,by omega⟩)) (show((j+1:Nat):Int)-1=(j:Int) from by omega) hcl (show(j+1)*15+15<=l.length*15 by omega) (show j*15+15<=l.length*15 by omega) ax ay) ?_;refine SD.e (by rfl) rfl (by rfl) rfl rfl (by rfl) (gQ (n3 hcl (show(j+1)*15+15<=l.length*15 by omega) s1)) ?_;refine ni (n4 hj1 hj0 (Lo (show -9223372036854775808<=((j+1:Nat):Int)-1/\((j+1:Nat):Int)-1<=9223372036854775807 from⟨by omega,by omega⟩)) (show((j+1:Nat):Int)-1=(j:Int) from by omega)) ?_;refine SD.e (by rfl) rfl (by rfl) rfl rfl (by rfl) (gQ (n3 hcl2 (show j*15+15<=l.length*15 by omega) s2)) ?_;refine zM ?_;refine aC (n2 (Lo (show -9223372036854775808<=((j+1:Nat):Int)-1/\((j+1:Nat):Int)-1<=9223372036854775807 from⟨by omega,by omega⟩)) (show((j+1:Nat):Int)-1=(j:Int) from by omega)) ?_;exact⟨j,_,by omega,zH,j,(p.set (j+1) y).set j x,⟨by rw[a4,a4,hpl],by omega⟩,by rw[hb,hbs],rfl,rfl⟩
def Hz(g:FuncId)(cmp:(bJ×Int)->(bJ×Int)->Int)(hg:∀x y,PC Tryz.prog g [.ag (bX x),.ag (bX y)] (·=ab (cmp x y)))(c:Option Nat)(l:List (bJ×Int))(hlen:l.length<20):
 SC Tryz.prog 244 [.buf 0 l.length 15 c,ab l.length,.fn g [] []] [.cells (l.flatMap bX)] [] (λr S'=>r=.bE []/\S'=[.cells ((qx (sF cmp) l).flatMap bX)]):=by
 have hins:=Jr g cmp hg c l (by omega);have hrc:∀(g:Nat->Nat) (l:List (bJ×Int)),kh g (l.flatMap bX)=l.flatMap bX:=λg l=>aY (aB eW l);have hbc:∀(B:Nat) (l:List (bJ×Int)),fq B (l.flatMap bX)=true:=λB l=>bC (aB eW l);have hkc:∀(o:Nat) (l:List (bJ×Int)),(l.flatMap bX).map (bf o)=l.flatMap bX:=λo l=>aZ eW o l
 have h1:decide ((20:Int)<=(l.length:Int))=false:=by simp only[wp];omega
 have h2:decide ((20:Int)<(l.length:Int))=false:=by simp only[wp];omega
 refine GU 63 Tryz.func244 ?_;refine lC ?_
 (repeat refine ar.seq ?_)
 refine ar.block (ar.loop (λm st=>m=0/\st=⟨[(0,.buf 0 l.length 15 c),(1,ab l.length),(2,.fn g [] []),(6,ab 20),(7,ab 0),(8,ab 20),(1000000,.ptr 0 0)],63,[.cells (l.flatMap bX)],[]⟩) 0 zH ⟨rfl,rfl⟩ (by rintro m st ⟨_,rfl⟩;rfl) ?_);rintro m st ⟨rfl,rfl⟩;refine aC h1 ?_;refine dZ ?_
 (try change ar _ _ _ _ _)
 refine zC ?_;refine zS [0] (n3 hrc hbc hkc) hins ?_;refine zR ?_
 (repeat refine ar.seq ?_)
 refine ar.block (ar.loop (λm st=>m=0/\st=⟨[(1,ab l.length),(6,ab 20),(1000000,.ptr 0 0)],63,[.cells ((qx (sF cmp) l).flatMap bX)],[]⟩) 0 zH ⟨rfl,rfl⟩ (by rintro m st ⟨_,rfl⟩;rfl) ?_);rintro m st ⟨rfl,rfl⟩;refine aC h2 ?_;refine dZ ?_;simp only[fV,dS,cE,cq,if_true];exact zP []
def BA(g:FuncId)(cmp:(bJ×Int)->(bJ×Int)->Int)(hg:∀x y,PC Tryz.prog g [.ag (bX x),.ag (bX y)] (·=ab (cmp x y)))(c:Option Nat)(l:List (bJ×Int))(hlen:l.length<20):
 SC Tryz.prog 235 [.buf 0 l.length 15 c,.fn g [] []] [.cells (l.flatMap bX)] [] (λr S'=>r=.bE []/\S'=[.cells ((qx (sF cmp) l).flatMap bX)]):=by
 have hins:=Hz g cmp hg c l hlen;have hrc:∀(g:Nat->Nat) (l:List (bJ×Int)),kh g (l.flatMap bX)=l.flatMap bX:=λg l=>aY (aB eW l);have hbc:∀(B:Nat) (l:List (bJ×Int)),fq B (l.flatMap bX)=true:=λB l=>bC (aB eW l);have hkc:∀(o:Nat) (l:List (bJ×Int)),(l.flatMap bX).map (bf o)=l.flatMap bX:=λo l=>aZ eW o l;refine GU 9 Tryz.func235 ?_;refine zC ?_;refine zS [0] (n3 hrc hbc hkc) hins ?_;refine zR ?_;exact zP []
end Go.Proofs
