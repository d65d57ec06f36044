/- A part of the texts of this claim: every theorem says what it proves, with its conditions. -/
import Derived.Test.YtnaiockballhaaaGreatA34
import Derived.Test.YtnaiockballhaaaGreatA23
set_option linter.unusedSimpArgs false
set_option linter.unusedVariables false
set_option linter.unusedSectionVars false
open Nat (reduceAdd reduceLT le_refl reduceEqDiff reduceLeDiff reduceMul zero_le le_trans reduceSub)
open List (length_map length_take length_append flatMap_cons nil_append append_assoc length_nil map_nil)
open Option (bind_some map_some)
namespace Go.Proofs
open Go.Ev
set_option maxRecDepth 100000
theorem iy(B:Nat)(l:List (List Nat)):kD B (eG l)=true:=by
 unfold eG;split
 ·rfl
 ·rw[kD];exact bu (aB (λ_=>rfl) l)
theorem jm(B e n:Nat):dx (B+1) (bm 0 e n)=true:=by
 unfold bm;split
 ·exact fe rfl
 ·rw[dx];exact decide_eq_true (Nat.succ_pos B)
theorem LI:∀(n:Nat) (r:jj) (ls:List (List Nat)),(dN n r ls).length<=r.length
 | 0,_,_=>zero_le _
 | n+1,r,ls=>by
  rw[dN];split
  ·exact zero_le _
  ·rw[length_append,length_map];have h1:=LI n (r.filter λe=>!ls.contains e.2) ((r.filter λe=>ls.contains e.2).map (·.1));have h2:=x4 (λe:List Nat×List Nat=>ls.contains e.2) r;omega
theorem GO(ps:List aG)(part:List Nat):(lr ps part).length<=ps.length:=by
 unfold lr;split
 ·have h1:(dG (dN (ps.length+2) (Mw ps part) [part])).length=(dN (ps.length+2) (Mw ps part) [part]).length:=(pR _).length_eq;rw[h1];refine le_trans (LI _ _ _) (le_trans xb (le_trans (List.length_filterMap_le _ _) ?_));have:=BH ps 0 [];simpa using this
 ·exact zero_le _
theorem Cs(l:List bB)(d:bB->Bool):(fW (eR d l)).length<=l.length:=by
 rw[fW,xC];exact List.length_filter_le _ _
theorem Jm{l:List bB}{d:bB->Bool}{e:bB}(h:e∈fW (eR d l)):e∈l:=(List.mem_filter.1 ((AK _ _).mem_iff.1 h)).1
abbrev eT(e:bB):List SV:=[ak e.part,ak e.kind,ak e.bD,ak e.slot,ak e.key,ak e.value,aa e.u1,aa e.u2,aa e.u3,aa e.u4,aa e.u5,aa e.u6]
abbrev eA(e:bB):List SV:=[aa e.op,aa e.day,ak e.part,ak e.kind,ak e.bD,ak e.slot,ak e.key,ak e.value,aa e.u1,aa e.u2,aa e.u3,aa e.u4,aa e.u5,aa e.u6]
abbrev wE(c:List aU)(dmg:bE)(e:bB)(ev:List bB)(k:Nat):Fm:=[(3,.ip (an 3 c aq::aI dmg)),(6,.ptr 0 0),(10,.ptr 1 0),(12,.ip (eA e)),(34,an 14 ev aF),(35,aa ev.length),(36,aa k)]
abbrev wF(c:List aU)(dmg:bE)(e:bB)(ev:List bB)(k:Nat)(I:List (List Nat))(d:Int×Int)(n k2:Nat):Fm:=[(3,.ip (an 3 c aq::aI dmg)),(6,.ptr 0 0),(10,.ptr 1 0),(12,.ip (eA e)),(15,an 1 I (az ak)),(16,.ip [aa d.1,aa d.2]),(34,an 14 ev aF),(35,aa ev.length),(36,aa k),(77,aa n),(78,aa k2)]
set_option maxHeartbeats 8000000 in
theorem rD(c:List aU)(dmg:bE)(l:List bB)(day:Int)(hc:jJ c)(hf:gm dmg)(hlen:l.length<20)(hl:∀e∈l,oZ e):PC Tryz.prog 10 [.ag (an 3 c aq::aI dmg),an 14 l aF,aa day] (·=Oj (runN c dmg l day)):=by
 have hfl:(aI dmg).length=3:=eM dmg;have hft:(aI dmg).take 3=aI dmg:=List.take_of_length_le (by rw[hfl];exact le_refl _);have hfk:=λo:Nat=>bK (o:=o) (aO dmg);have hfn:=λo:Nat=>du (o:=o) (aO dmg);refine pB 101 Tryz.func10 ?_;refine aE (n2 hfk hfn) ?_;refine ai.fg (Fg.freeze (f':=[(1,an 14 l aF),(3,.ip (an 3 c aq::aI dmg)),(5,.ptr 1 0),(6,.ptr 2 0),(7,aa 0),(8,aa 0)]) 0 rfl (λh=>by cases h) ⟨.inl rfl,.inr (.ptr rfl (bn.refl (aO dmg)) (zero_le _)),.inl rfl,.inl rfl,.inl rfl,.inl rfl,trivial⟩) ?_
 (try change ai _ _ _ _ _)
 refine zC ?_;refine zK (mU c hc) ?_;cases h1:mX c
 ·refine zR ?_;refine cE ?_;refine zE ?_;exact zO [.cell 6 55,.tmp 7,.tmp 8] (r:=.bI [.ag [.sl 0 14 []],aa (-1),aa 1]) (hw:=zv) (hq:=by (try simp only[aC,ab]);first | done | (rw[show runN c dmg l day=([],-1,1) by simp[runN,h1]];rfl))
 refine PH (n2 hfl hft) ?_;refine zK (pW dmg hf) ?_ (hwk:=bn.cons (.ag (bn.refl (aO dmg))) .nil);cases h2:Proofs.eK dmg
 ·refine zR ?_;refine cE ?_;refine zE ?_;exact zO [.cell 6 55,.tmp 7,.tmp 8] (r:=.bI [.ag [.sl 0 14 []],aa (-1),aa 1]) (hw:=zv) (hq:=by (try simp only[aC,ab]);first | done | (rw[show runN c dmg l day=([],-1,1) by simp[runN,h1,h2]];rfl))
 refine zR ?_;refine zN ?_
 have hN:runN c dmg l day=pQ c dmg 0 (fW (eR (lV day) l)) []:=by rw[runN,h1,h2];rfl
 refine ai.fg (st':=⟨[(1,an 14 l aF),(3,.ip (an 3 c aq::aI dmg)),(5,.ptr 1 0),(6,.ptr 2 0)],101,[.gone,.cells [aa day],.cells [.a (.slice none 0 0 (some 0))]],[]⟩) zH ?_;clear h1 h2;obtain⟨kp,hkp⟩:∃kp,kp=eR (lV day) l:=⟨_,rfl⟩
 have hkl:kp.length<=l.length:=by rw[hkp];exact LO _ _
 rw[<-hkp] at hN
 (repeat refine ai.seq ?_)
 refine ai.mono (Q:=λe st=>e=.normal/\Fg st ⟨[(3,.ip (an 3 c aq::aI dmg)),(6,.ptr 0 0),(9,an 14 kp aF)],101,[.cells [.a (.slice none 0 0 (some 0))]],[]⟩) ?_ ?_
 ·by_cases hne:l=[]
  ·subst hne;have hk0:kp=[]:=hkp;subst hk0;refine zC ?_;refine zS [] (n2 hfk hfn) zr ?_;refine zQ ?_;refine zS [1] (n2 hfk hfn) (Hr 37 [aa day] rfl (lV day) (λx=>vp x day)) ?_;refine zR ?_;refine⟨rfl,?_⟩;refine Fg.trans (b:=⟨[(3,.ip (an 3 c aq::aI dmg)),(6,.ptr 2 0),(9,an 14 [] aF)],101,[.gone,.gone,.cells [.a (.slice none 0 0 (some 0))]],[]⟩) ?_ (Fg.rn (f':=[(3,.ip (an 3 c aq::aI dmg)),(6,.ptr 0 0),(9,an 14 [] aF)]) (n:=101) (S':=[.cells [.a (.slice none 0 0 (some 0))]]) [2] (by decide) rfl (by (simp only[si,ec,aX,an,aZ (aO dmg)])<;>(repeat' apply And.intro)<;>first | trivial | exact .inl rfl | exact .inr rfl | exact .inr trivial | exact .inl trivial) (by (simp only[bx,ec,aX,an,aZ (aO dmg)])<;>(repeat' apply And.intro)<;>first | rfl | trivial));exact Fg.trans (Fg.wk (f':=[(3,.ip (an 3 c aq::aI dmg)),(6,.ptr 2 0),(9,an 14 [] aF)]) ⟨.inl rfl,.inl rfl,.inr (.QH 14),trivial⟩) zH
  ·have hne0:¬l.length=0:=λh=>hne (List.length_eq_zero_iff.1 h);have hrq:∀(r:Nat->Nat) (q:List bB),jM r (q.flatMap aF)=q.flatMap aF:=λr q=>aZ (aB cU q);have hbq:∀(B:Nat) (q:List bB),fc B (q.flatMap aF)=true:=λB q=>bu (aB cU q);have hkq:=aW cU;have hdel:=Hs 37 [aa day] rfl (lV day) (λx=>vp x day) l (by omega);rw[<-hkp] at hdel;obtain⟨q,hq⟩:∃q,q=kp++List.replicate (l.length-kp.length) bB.zero:=⟨_,rfl⟩
   have hqt:(q.flatMap aF).take (kp.length*14)=kp.flatMap aF:=by
    rw[gA cN,hq,List.take_append_of_le_length (le_refl _),List.take_of_length_le (le_refl _)]
   have hql:(q.flatMap aF).length=l.length*14:=by rw[aJ cN,hq,length_append,List.length_replicate];congr 1;omega
   rw[<-hq] at hdel;refine zC ?_;refine zS [] (n5 hfk hfn hrq hbq hkq) (zu l (by omega) hne) ?_;refine zQ ?_;refine zS [4,1] (n5 hfk hfn hrq hbq hkq) hdel ?_;refine zR ?_;refine⟨rfl,?_⟩;refine Fg.trans (b:=⟨[(3,.ip (an 3 c aq::aI dmg)),(6,.ptr 2 0),(9,an 14 kp aF)],101,[.gone,.gone,.cells [.a (.slice none 0 0 (some 0))]],[]⟩) ?_ (Fg.rn (f':=[(3,.ip (an 3 c aq::aI dmg)),(6,.ptr 0 0),(9,an 14 kp aF)]) (n:=101) (S':=[.cells [.a (.slice none 0 0 (some 0))]]) [2] (by decide) rfl (by (simp only[si,ec,aX,an,aZ (aO dmg)])<;>(repeat' apply And.intro)<;>first | trivial | exact .inl rfl | exact .inr rfl | exact .inr trivial | exact .inl trivial) (by (simp only[bx,ec,aX,an,aZ (aO dmg)])<;>(repeat' apply And.intro)<;>first | rfl | trivial));exact Fg.trans (Fg.freeze (f':=[(3,.ip (an 3 c aq::aI dmg)),(6,.ptr 2 0),(9,an 14 kp aF)]) 4 rfl (λh=>by cases h) ⟨.inl rfl,.inl rfl,.inr (.buf rfl (by rw[hqt];exact bn.refl (aB cU _)) (by rw[hql];exact Nat.mul_le_mul_right 14 hkl)),trivial⟩) zH
 rintro e st ⟨rfl,hfg⟩;refine ai.fg hfg ?_;clear hfg
 (try change ai _ _ _ _ _)
 have hkm:∀e∈fW kp,oZ e:=λe he=>hl e (by rw[hkp] at he;exact Jm he)
 have hsl:(fW kp).length<20:=by have:=Cs l (lV day);rw[<-hkp] at this;omega
 refine ki ?_;refine zK (FQ kp (by omega)) ?_ (hfl:=.inr (bn.refl (by rw[cr,an,ld,cr];rfl)));generalize fW kp=ev at hN hkm hsl;refine zR ?_
 have hlen1:ev.length<=1000000:=by omega
 refine ai.fg (st':=⟨[(3,.ip (an 3 c aq::aI dmg)),(6,.ptr 0 0),(10,.ptr 1 0),(34,an 14 ev aF),(35,aa ev.length),(36,aa 0)],101,[.cells [.a (.slice none 0 0 (some 0))],.cells [.a (.slice none 0 0 (some 0))]],[]⟩) zH ?_;refine ai.fg (Fg.Rj (S':=[.cells [.a (.slice none 0 0 (some 0))],.cells [an 14 ([]:List aG) ae]]) ⟨.inr ⟨by decide,.inl rfl⟩,.inr ⟨by decide,.inr ⟨_,_,rfl,rfl,.cons (.nil _) .nil⟩⟩,trivial⟩) ?_
 (try change ai _ _ _ _ _)
 refine zs ?_;refine ai.block (ai.loop (λm st=>∃k:Nat,∃ps:List aG,k<=ev.length/\m=ev.length-k/\((pQ c dmg 0 ev []=pQ c dmg k (ev.drop k) ps/\(∀p∈ps,gn p)/\ps.length<=k))/\st=⟨[(3,.ip (an 3 c aq::aI dmg)),(6,.ptr 0 0),(10,.ptr 1 0),(34,an 14 ev aF),(35,aa ev.length),(36,aa k)],101,[.cells [.a (.slice none 0 0 (some 0))],.cells [an 14 ps ae]],[]⟩) ev.length (Fg.less uR yS) ⟨0,[],zero_le _,rfl,(by exact⟨rfl,(λp hp=>by cases hp),le_refl _⟩),rfl⟩ (by rintro m st ⟨k,_,_,_,_,rfl⟩;rfl) ?_);rintro m st ⟨k,ps,hk,rfl,hall,rfl⟩;refine zs ?_;refine ai.r0 (by rfl) zl ?_;by_cases hlt:k<ev.length;rotate_left;obtain rfl:k=ev.length:=(by omega);rw[show decide ((ev.length:Int)<(ev.length:Int))=false by simp];rotate_left;rw[show decide ((k:Int)<(ev.length:Int))=true by simp only[decide_eq_true_eq];omega];obtain⟨e,hx⟩:∃zz,ev[k]?=some zz:=⟨ev[k],List.getElem?_eq_getElem hlt⟩;rotate_left
 ·refine zN ?_;refine ai.exit ?_;obtain⟨hr,_,_⟩:=hall;rw[List.drop_length] at hr;refine zV ?_;refine zE ?_;exact zO [.cell 6 55,.tmp 7,.tmp 8] (r:=.bI [.ag [an 14 ps ae],aa (-1),aa 0]) (hw:=zv) (hq:=by (try simp only[aC,ab]);first | done | (rw[hN,hr];rfl))
 obtain⟨hr,hps,hpl⟩:=hall;rw[eZ hx] at hr;have heo:=hkm e (List.mem_of_getElem? hx);have hap:=yr c ps e hc (by omega) hps heo;obtain⟨q1,q2,q3,q4⟩:=ub (c:=c) hps heo
 have hr2:pQ c dmg k (e::ev.drop (k+1)) ps=if (aV c ps e).2=0 then (if e.op=4 then pQ c dmg (k+1) (ev.drop (k+1)) (H9 dmg (aV c ps e).1 e) else pQ c dmg (k+1) (ev.drop (k+1)) (aV c ps e).1) else ([],(k:Int),(aV c ps e).2):=rfl
 rw[hr2] at hr;clear hr2;obtain⟨nx,er,hne⟩:∃nx er,aV c ps e=(nx,er):=⟨_,_,rfl⟩;rw[hne] at hap q1 q2 q3 q4 hr;simp only at q1 q2 q3 q4 hr;rw[dg] at hap;refine zY ?_
 (repeat refine ai.seq ?_)
 refine ai.block ?_;refine aE (n3 hlt (aH (e:=14) (enc:=aF) (λ_=>rfl) hx) @dg) ?_;refine ai.fg (Fg.freeze (f':=[(3,.ip (an 3 c aq::aI dmg)),(6,.ptr 0 0),(10,.ptr 1 0),(11,aa k),(12,.ip (eA e)),(34,an 14 ev aF),(35,aa ev.length),(36,aa k)]) 2 rfl (λh=>by cases h) (p6 @an.eq_1)) ?_
 (try change ai _ _ _ _ _)
 refine zC ?_;refine zK hap ?_ (hfl:=.inr (bn.refl rfl));refine cS @jR.eq_1 ?_;by_cases herr:er=0;rotate_left
 ·rw[if_neg herr] at hr;have hnil:=q4 herr;refine aE (decide_eq_false herr) ?_;refine cE ?_;refine zE ?_;exact zO [.cell 6 55,.tmp 7,.tmp 8] (r:=.bI [.ag [.sl 0 14 []],aa k,aa er]) (hw:=zv) (hq:=by (try simp only[aC,ab]);first | done | (rw[hN,hr];rfl))
 rw[if_pos herr] at hr;subst herr;refine Gl ?_;refine zV ?_;by_cases hop:e.op=4;rotate_left
 ·rw[if_neg hop] at hr;refine aE (decide_eq_false hop) ?_;refine zY ?_;refine ai.exit ?_
  (try change ai _ _ _ _ _)
  refine zs ?_;refine ai.r0 (by rfl) (gY (nh (dX hlt hlen1 (by decide)))) ?_;refine⟨ev.length-(k+1),_,by omega,(Fg.less uR yS),k+1,nx,by omega,rfl,⟨hr,q1,by omega⟩,rfl⟩
 rw[if_pos hop] at hr;refine aE (decide_eq_true hop) ?_;refine zN ?_;refine ai.fg (st':=⟨wE c dmg e ev k,101,[.cells [.a (.slice none 0 0 (some 0))],.cells [an 14 nx ae]],[]⟩) zH ?_
 (try change ai _ _ _ _ _)
 obtain⟨ins,hins⟩:∃ins,ins=lr nx e.part:=⟨_,rfl⟩
 have hinl:ins.length<=100000:=by rw[hins];exact le_trans (GO nx e.part) (by omega)
 (repeat refine ai.seq ?_)
 refine ai.Bf 7 12 (λL=>⟨(58,vo L 0 (.ag [an 14 nx ae]))::(59,vo L 1 (.ip (eT e)))::(60,vo L 2 (ak e.part))::(61,vo L 3 (bm 2 1 ins.length))::(62,vo L 4 (.ip (eT e)))::(63,vo L 5 (ak e.part))::(64,vo L 6 (.buf 3 1 1 (some 1)))::wE c dmg e ev k,101,[.cells [.a (.slice none 0 0 (some 0))],.cells [an 14 nx ae],wo L 3 (eG ins),wo L 6 (.cells [ak e.part])],[]⟩) rfl (by kernel_rfl) (by rfl) (by decide) (by kernel_rfl) (cI (n2 @Jw @OA)) (λL=>rfl) ?_ ?_
 ·rintro L i o him hC hr
  rcases i with _ | _ | _ | _ | _ | _ | _ | i
  rotate_right
  ·exact absurd him (by omega)
  ·cases hr.ik;refine zR ?_;exact(cI (n2 @br @oL))
  ·cases hr.ik;refine zR ?_;exact(cI (n2 @br @oL))
  ·cases hr.ik;have d1:L 1:=hr.dep ⟨1,.data⟩ (by simp) rfl;refine cS (ft d1) ?_;exact(cI (n3 @br @oL (ft d1)))
  ·cases hr.ik;have d0:L 0:=hr.dep ⟨0,.data⟩ (by simp) rfl;have d2:L 2:=hr.dep ⟨2,.data⟩ (by simp) rfl;have hn3:¬L 3:=hr.new;have hin:=Fz nx e.part (by omega);rw[<-hins] at hin;refine aM.sk [] (by rfl) rfl rfl (by rfl) rfl (Gh (n2 (ft d0) (ft d2))) (hin) (by simp only[ec,aX,an,↓reduceIte,reduceEqDiff,reduceAdd,reduceSub,reduceMul,reduceLeDiff,reduceLT,cT d0,cT d2,↓mI,dj,hfk,hfn,cj (show 2≠4 by decide),fp,dS,ez,jm,iy,ij hn3];first | done | rfl) rfl (by decide) (by simp only[rb,ec,aX,an,cT d0,cT d2,↓mI,dj,hfk,hfn,cj (show 2≠4 by decide),fp,dS,ez,jm,iy,ij hn3]<;>(repeat' apply And.intro)<;>first | trivial | rfl | (intro hh;cases hh)) (by simp only[vN,ec,aX,an,reduceAdd,reduceLT,decide_true,cT d0,cT d2,↓mI,dj,hfk,hfn,cj (show 2≠4 by decide),fp,dS,ez,jm,iy,ij hn3];first | done | rfl) (by simp only[vN,ec,aX,an,reduceAdd,reduceLT,decide_true,cT d0,cT d2,↓mI,dj,hfk,hfn,cj (show 2≠4 by decide),fp,dS,ez,jm,iy,ij hn3];first | done | rfl) (by simp only[ec,aX,an,↓reduceIte,reduceEqDiff,reduceAdd,reduceSub,reduceMul,reduceLeDiff,reduceLT,cT d0,cT d2,↓mI,dj,hfk,hfn,cj (show 2≠4 by decide),fp,dS,ez,jm,iy,ij hn3];first | done | rfl) (by simp only[ec,aX,an,↓reduceIte,reduceEqDiff,reduceAdd,reduceSub,reduceMul,reduceLeDiff,reduceLT,cT d0,cT d2,↓mI,dj,hfk,hfn,cj (show 2≠4 by decide),fp,dS,ez,jm,iy,ij hn3,dz,dq,bP,bf,bx];first | done | rfl) (by simp only[ec,aX,an,↓reduceIte,reduceEqDiff,reduceAdd,reduceSub,reduceMul,reduceLeDiff,reduceLT,cT d0,cT d2,↓mI,dj,hfk,hfn,cj (show 2≠4 by decide),fp,dS,ez,jm,iy,ij hn3,dz,dq,bP,bf,bx];first | done | rfl) ?_;refine .nil ?_;exact((Fg.rn (f':=(58,(.ag [an 14 nx ae]))::(59,vo L 1 (.ip (eT e)))::(60,(ak e.part))::(61,(bm 2 1 ins.length))::(62,vo L 4 (.ip (eT e)))::(63,vo L 5 (ak e.part))::(64,vo L 6 (.buf 3 1 1 (some 1)))::wE c dmg e ev k) (n:=101) (S':=[.cells [.a (.slice none 0 0 (some 0))],.cells [an 14 nx ae],eG ins,wo L 6 (.cells [ak e.part])]) [0,1,4,3] (by decide) rfl (by (simp only[si,ec,aX,an,Jh,Ji,ez,dS,aZ (aO dmg),dj,cj (show 2≠4 by decide)])<;>(repeat' apply And.intro)<;>first | trivial | exact .inl rfl | exact .inr rfl | exact .inr trivial | exact .inl trivial) (by (simp only[bx,ec,aX,an,Jh,Ji,ez,dS,aZ (aO dmg),dj,cj (show 2≠4 by decide)])<;>(repeat' apply And.intro)<;>first | rfl | trivial))).trans (cI (n4 @br @oL (ft d0) (ft d2)))
  ·cases hr.ik;refine zR ?_;exact(cI (n2 @br @oL))
  ·cases hr.ik;have d4:L 4:=hr.dep ⟨4,.data⟩ (by simp) rfl;refine cS (ft d4) ?_;exact(cI (n3 @br @oL (ft d4)))
  ·cases hr.ik;have d5:L 5:=hr.dep ⟨5,.data⟩ (by simp) rfl;have hn6:¬L 6:=hr.new;refine aM.r0 (by rfl) (by simp only[bx,aX,an,aw,bind_some,map_some,↓reduceIte,reduceEqDiff,reduceAdd,reduceMul,reduceLeDiff,reduceLT,ah,ao,aP,cT d5,↓mI,dj,hfk,hfn,cj (show 2≠4 by decide),fp,ij hn6];first | done | rfl) ?_;(try change ai _ _ _ _ _);exact((Fg.rn (f':=(58,vo L 0 (.ag [an 14 nx ae]))::(59,vo L 1 (.ip (eT e)))::(60,vo L 2 (ak e.part))::(61,vo L 3 (bm 2 1 ins.length))::(62,vo L 4 (.ip (eT e)))::(63,(ak e.part))::(64,(.buf 3 1 1 (some 1)))::wE c dmg e ev k) (n:=101) (S':=[.cells [.a (.slice none 0 0 (some 0))],.cells [an 14 nx ae],wo L 3 (eG ins),.cells [ak e.part]]) [0,1,2,4] (by decide) rfl (by (simp only[si,ec,aX,an,Jh,Ji,ez,dS,aZ (aO dmg),dj,cj (show 2≠4 by decide)])<;>(repeat' apply And.intro)<;>first | trivial | exact .inl rfl | exact .inr rfl | exact .inr trivial | exact .inl trivial) (by (simp only[bx,ec,aX,an,Jh,Ji,ez,dS,aZ (aO dmg),dj,cj (show 2≠4 by decide)])<;>(repeat' apply And.intro)<;>first | rfl | trivial))).trans (cI (n3 @br @oL (ft d5)))
 change aM _ _ _ _ _ _;refine aM.mono (K:=λx=>Fg x ⟨(65,.buf 2 (ins.length+1) 1 none)::wE c dmg e ev k,101,[.cells [.a (.slice none 0 0 (some 0))],.cells [an 14 nx ae],.cells ((ins++[e.part]).flatMap (az ak))],[]⟩) ?_ λx hx=>?_
 ·have v7:∀i,i<7->∀v:SV,vo (λj=>j<7) i v=v:=λi h v=>cT h;have w7:∀i,i<7->∀v:SO,wo (λj=>j<7) i v=v:=λi h v=>oK h;have a3:=v7 3 (by decide);have a6:=v7 6 (by decide);have b3:=w7 3 (by decide);have b6:=w7 6 (by decide);have happ:=dO (enc:=az ak) (e:=1) (λ_=>rfl) (λ_=>rfl) 2 ins e.part;rw[show az ak e.part=[ak e.part] from rfl,Nat.mul_one] at happ;have hcl:=aJ (enc:=az ak) (e:=1) (λ_=>rfl) ins;by_cases hi0:ins=[]
  ·subst hi0;refine cS (n10 a3 a6 b3 b6 @dy @length_nil.{0} @iG hfk hfn @dj) ?_;exact((Fg.rn (f':=(65,.buf 2 1 1 none)::wE c dmg e ev k) (n:=101) (S':=[.cells [.a (.slice none 0 0 (some 0))],.cells [an 14 nx ae],.cells [ak e.part]]) [0,1,4] (by decide) rfl (by (simp only[si,ec,aX,an,aZ (aO dmg)])<;>(repeat' apply And.intro)<;>first | trivial | exact .inl rfl | exact .inr rfl | exact .inr trivial | exact .inl trivial) (by (simp only[bx,ec,aX,an,aZ (aO dmg)])<;>(repeat' apply And.intro)<;>first | rfl | trivial))).trans (Fg.less (nM (n5 @az.eq_1 @nil_append.{0} @flatMap_cons.{0,0} @List.flatMap_nil.{0,0} @length_nil.{0})) (nN (n5 @az.eq_1 @nil_append.{0} @flatMap_cons.{0,0} @List.flatMap_nil.{0,0} @length_nil.{0})))
  ·have hil:¬ins.length=0:=λh=>hi0 (List.length_eq_zero_iff.1 h);refine aM.r0 (by rfl) (by simp only[bx,aX,an,aw,bind_some,map_some,↓reduceIte,reduceEqDiff,reduceAdd,reduceMul,reduceLeDiff,reduceLT,ah,ao,aP,a3,a6,b3,b6,bV hil,gG hi0,hfk,hfn,dj,aW (enc:=az ak) (λ_=>rfl) _ ins,hcl,Nat.mul_one,le_refl,show ins.length<=1000000 by omega,happ];first | done | rfl) ?_;exact zH
 change aM _ _ _ _ _ _;refine aM.fg hx ?_;refine zR ?_;change ai _ _ _ _ _;refine ai.fg (st':=⟨(15,.buf 2 (ins.length+1) 1 none)::wE c dmg e ev k,101,[.cells [.a (.slice none 0 0 (some 0))],.cells [an 14 nx ae],.cells ((ins++[e.part]).flatMap (az ak))],[]⟩) zH ?_;obtain⟨I,hI⟩:∃I,I=ins++[e.part]:=⟨_,rfl⟩
 have hIl:I.length=ins.length+1:=by rw[hI,length_append];rfl
 rw[<-hI];refine ai.fg (Fg.freeze (f':=[(3,.ip (an 3 c aq::aI dmg)),(6,.ptr 0 0),(10,.ptr 1 0),(12,.ip (eA e)),(15,an 1 I (az ak)),(34,an 14 ev aF),(35,aa ev.length),(36,aa k)]) 2 rfl (λh=>by cases h) ⟨.inl rfl,.inl rfl,.inl rfl,.inl rfl,.inr (by rw[mc 1 I (az ak),hIl];exact .buf rfl (by rw[<-hIl,cu (enc:=az ak) (e:=1) (λ_=>rfl)];exact bn.refl (aB (λ_=>rfl) _)) (by rw[aJ (enc:=az ak) (e:=1) (λ_=>rfl),hIl];exact le_refl _)),.inl rfl,.inl rfl,.inl rfl,trivial⟩) ?_
 (try change ai _ _ _ _ _)
 have hd:=Fq dmg (mV e) hf;simp only[dJ,mV] at hd;obtain⟨d,hdd⟩:∃d,d=p9 dmg (mV e):=⟨_,rfl⟩;have hdd2:p9 dmg ⟨e.u1,e.u2,e.u3,e.u4,e.u5,e.u6⟩=d:=hdd.symm;rw[hdd2] at hd;refine gl (n2 hfl hft) ?_;refine zK hd ?_ (hwk:=bn.cons (.ag (bn.refl (aO dmg))) (.cons (.ag (bn.refl rfl)) .nil));refine cS (n4 @nj.eq_1 @kJ.eq_1 hfk hfn) ?_;have hnn:=q3 rfl;have hn0:0<nx.length:=Nat.pos_of_ne_zero λh=>hnn (List.length_eq_zero_iff.1 h);have hrq:∀(r:Nat->Nat) (q:List aG),jM r (q.flatMap ae)=q.flatMap ae:=λr q=>aZ (aB bz q);have hbq:∀(B:Nat) (q:List aG),fc B (q.flatMap ae)=true:=λB q=>bu (aB bz q);have hkq:=aW (enc:=ae) bz;refine zC ?_;refine zS [] (n5 hfk hfn hrq hbq hkq) (oQ nx (by omega) hnn) ?_;refine zR ?_;refine zV ?_;refine ai.fg (st':=⟨[(3,.ip (an 3 c aq::aI dmg)),(6,.ptr 0 0),(10,.ptr 1 0),(12,.ip (eA e)),(15,an 1 I (az ak)),(16,.ptr 3 0),(34,an 14 ev aF),(35,aa ev.length),(36,aa k),(76,.buf 5 nx.length 14 none),(77,aa nx.length),(78,aa 0)],101,[.cells [.a (.slice none 0 0 (some 0))],.cells [.buf 5 nx.length 14 none],.gone,.cells [aa d.1,aa d.2],.gone,.cells (nx.flatMap ae)],[]⟩) zH ?_;refine ai.fg (Fg.freeze (f':=(wF c dmg e ev k I d nx.length 0)) 3 rfl (λh=>by cases h) (p6 @an.eq_1)) ?_;refine ai.fg (st':=⟨(wF c dmg e ev k I d nx.length 0),101,[.cells [.a (.slice none 0 0 (some 0))],.cells [.buf 2 nx.length 14 none],.cells (nx.flatMap ae)],[]⟩) (Fg.rn [0,1,5] (by decide) rfl (by (simp only[si,ec,aX,an,hrq,aZ (aO dmg)])<;>(repeat' apply And.intro)<;>first | trivial | exact .inl rfl | exact .inr rfl | exact .inr trivial | exact .inl trivial) (by (simp only[bx,ec,aX,an,hrq,aZ (aO dmg)])<;>(repeat' apply And.intro)<;>first | rfl | trivial)) ?_
 have hIu:H9 dmg nx e=nx.map (yO dmg I e):=by unfold H9;rw[hI,hins]
 have hnl:nx.length<=1000000:=by omega
 refine zs ?_;refine zL nx (λk2=>True) (λk2=>(wF c dmg e ev k I d nx.length k2)) (λk2=>[.cells [.a (.slice none 0 0 (some 0))],.cells [.buf 2 nx.length 14 none],.cells ((((nx.take k2).map (yO dmg I e))++nx.drop k2).flatMap ae)]) (Fg.less (nM (n4 @List.take_zero.{0} @map_nil.{0,0} @List.drop_zero.{0} @nil_append.{0})) (nN (n4 @List.take_zero.{0} @map_nil.{0,0} @List.drop_zero.{0} @nil_append.{0}))) zp ?_;intro k2 hk2 hall2;refine zV ?_;by_cases hlt2:k2<nx.length;rotate_left;obtain rfl:k2=nx.length:=(by omega);rw[zf];rotate_left;rw[zt hlt2];obtain⟨p,hx2⟩:=zx hlt2;rotate_left
 ·refine zN ?_;refine ai.exit ?_;rw[List.take_length,List.drop_length,List.append_nil,<-hIu];obtain⟨r1,r2⟩:=Jv (dmg:=dmg) (e:=e) q1;generalize H9 dmg nx e=ux at hr r1 r2;refine ai.fg (Fg.BV (f':=[(3,.ip (an 3 c aq::aI dmg)),(6,.ptr 0 0),(10,.ptr 1 0),(12,.ip (eA e)),(15,an 1 I (az ak)),(34,an 14 ev aF),(35,aa ev.length),(36,aa k)]) (S':=[.cells [.a (.slice none 0 0 (some 0))],.cells [an 14 ux ae]]) 2 rfl (λh=>by cases h) (p6 @an.eq_1) ⟨.inr ⟨by decide,.inl rfl⟩,.inr ⟨by decide,.inr ⟨_,_,rfl,rfl,.cons (by rw[mc 14 ux ae,r2];exact .buf rfl (by rw[<-r2,cu (enc:=ae) (e:=14) (λ_=>rfl)];exact bn.refl (aB bz _)) (by rw[aJ (enc:=ae) (e:=14) (λ_=>rfl),r2];exact le_refl _)) .nil⟩⟩,trivial⟩) ?_
  (try change ai _ _ _ _ _)
  refine zs ?_;refine ai.r0 (by rfl) (gY (nh (dX hlt hlen1 (by decide)))) ?_;refine⟨ev.length-(k+1),_,by omega,(Fg.less uR yS),k+1,ux,by omega,rfl,⟨hr,r1,by omega⟩,rfl⟩
 have hdrop:=eZ hx2;obtain⟨q,hq⟩:∃q,q=(nx.take k2).map (yO dmg I e)++nx.drop k2:=⟨_,rfl⟩
 have hqx:q[k2]?=some p:=by
  rw[hq,List.getElem?_append_right (by rw[length_map,length_take];omega),length_map,length_take,Nat.min_eq_left (by omega),Nat.sub_self,hdrop];rfl
 have hql:q.length=nx.length:=by rw[hq,length_append,length_map,length_take,List.length_drop];omega
 have hqc:(q.flatMap ae).length=nx.length*14:=by rw[aJ (enc:=ae) (e:=14) (λ_=>rfl),hql]
 have hnext:((nx.take (k2+1)).map (yO dmg I e)++nx.drop (k2+1))=q.set k2 (yO dmg I e p):=by
  rw[hq,bo hx2,List.map_append,hdrop,List.set_append_right _ _ (by rw[length_map,length_take];omega),length_map,length_take,Nat.min_eq_left (by omega),Nat.sub_self,List.set_cons_zero,append_assoc];rfl
 have hcell:(q.flatMap ae)[k2*14]?=some (ak p.name):=by
  have h1:((q.flatMap ae).drop (k2*14)).take 14=ae p:=aH (e:=14) (enc:=ae) (λ_=>rfl) hqx;have h2:=congrArg (λl=>l[0]?) h1;simp only[List.getElem?_take,List.getElem?_drop,Nat.add_zero] at h2;exact h2
 rw[<-hq];refine zY ?_
 (repeat refine ai.seq ?_)
 refine ai.block ?_;refine zV ?_;refine gl (n3 hlt2 @Nat.add_zero hcell) ?_;refine zK (kg I p.name (by omega)) ?_ (hwk:=bn.cons (.sl _ _ _) (.cons (.a _) .nil));cases hcn:I.contains p.name
 ·have hup:yO dmg I e p=p:=by unfold yO;rw[hcn];rfl
  rw[hup] at hnext
  have hset:q.set k2 p=q:=by
   apply List.ext_getElem?;intro j;by_cases hj:k2=j
   ·subst hj;rw[List.getElem?_set_self (bl hqx),hqx]
   ·rw[List.getElem?_set_ne hj]
  rw[hset] at hnext;refine zR ?_;refine zN ?_;refine aE (zi hlt2 hnl) ?_;refine zX hlt2 (cI hnext) trivial
 refine zR ?_;refine zY ?_
 have hup:yO dmg I e p=vX (mV e) d p:=by unfold yO;rw[hcn,<-hdd];rfl
 obtain⟨A,hA⟩:∃A,A=(q.take k2).flatMap ae++[ak p.name,ak p.kind,ak p.bD,ak p.slot,aa p.made,aa p.since,aA p.eu,an 2 p.props ar]:=⟨_,rfl⟩;obtain⟨B,hB⟩:∃B,B=(q.drop (k2+1)).flatMap ae:=⟨_,rfl⟩
 have hkl:k2<q.length:=by omega
 have hAl:A.length=k2*14+8:=by rw[hA,length_append,aJ (enc:=ae) (e:=14) (λ_=>rfl),length_take,Nat.min_eq_left (by omega)];rfl
 have hqs:q.take k2++(p::q.drop (k2+1))=q:=by rw[<-eZ hqx,List.take_append_drop]
 have hsplit:q.flatMap ae=A++(AQ p.l1 p.l2 p.l3 p.l4 p.l5 p.l6++B):=by
  rw[hA,hB,append_assoc]
  conv=>lhs;rw[<-hqs,List.flatMap_append,flatMap_cons]
  rfl
 have hset:(q.set k2 (vX (mV e) d p)).flatMap ae=A++(LW p.l1 p.l2 p.l3 p.l4 p.l5 p.l6 (mV e) d.1 d.2++B):=by
  rw[hA,hB,append_assoc,List.set_eq_take_append_cons_drop,if_pos hkl,List.flatMap_append,flatMap_cons];rfl
 rw[hup] at hnext;have hla:=CQ A B p.l1 p.l2 p.l3 p.l4 p.l5 p.l6 (mV e) d.1 d.2 (by rw[<-hsplit];exact aB bz q);rw[<-hsplit,<-hset,hAl] at hla;simp only[dJ,mV,kJ] at hla;refine ai.Bf 8 9 (λL=>⟨(89,vo L 0 (.ptr 1 0))::(90,vo L 1 (.buf 2 nx.length 14 none))::(91,vo L 2 (aa k2))::(92,vo L 3 (.ptr 2 (k2*14)))::(93,vo L 4 (.ptr 2 (k2*14+8)))::(94,vo L 5 (.ip [aa e.u1,aa e.u2,aa e.u3,aa e.u4,aa e.u5,aa e.u6]))::(95,vo L 6 (.ag [aa e.u1,aa e.u2,aa e.u3,aa e.u4,aa e.u5,aa e.u6]))::(96,vo L 7 (.ag [aa d.1,aa d.2]))::(17,aa k2)::wF c dmg e ev k I d nx.length k2,101,[.cells [.a (.slice none 0 0 (some 0))],.cells [.buf 2 nx.length 14 none],.cells (q.flatMap ae)],[]⟩) rfl (by kernel_rfl) (by rfl) (by decide) (by kernel_rfl) (cI @Jw) (λL=>rfl) ?_ ?_
 ·rintro L i o him hC hr
  rcases i with _ | _ | _ | _ | _ | _ | _ | _ | i
  rotate_right
  ·exact absurd him (by omega)
  ·cases hr.ik;refine zR ?_;exact(cI @br)
  ·cases hr.ik;have d0:L 0:=hr.dep ⟨0,.data⟩ (by simp) rfl;refine cS (ft d0) ?_;exact(cI (n2 @br (ft d0)))
  ·cases hr.ik;refine zR ?_;exact(cI @br)
  ·cases hr.ik;have d1:L 1:=hr.dep ⟨1,.data⟩ (by simp) rfl;have d2:L 2:=hr.dep ⟨2,.data⟩ (by simp) rfl;refine cS (n3 (ft d1) (ft d2) hlt2) ?_;exact(cI (n3 @br (ft d1) (ft d2)))
  ·cases hr.ik;have d3:L 3:=hr.dep ⟨3,.data⟩ (by simp) rfl;refine cS (n2 (ft d3) hqc) ?_;exact(cI (n2 @br (ft d3)))
  ·cases hr.ik;refine zR ?_;exact(cI @br)
  ·cases hr.ik;have d5:L 5:=hr.dep ⟨5,.data⟩ (by simp) rfl;refine cS (ft d5) ?_;exact(cI (n2 @br (ft d5)))
  ·cases hr.ik;refine zR ?_;exact(cI @br)
 have v8:∀i,i<8->∀v:SV,vo (λj=>j<8) i v=v:=λi h v=>cT h;have v84:=v8 4 (by decide);have v86:=v8 6 (by decide);have v87:=v8 7 (by decide);change aM _ _ _ _ _ _;refine aM.fg (st':=⟨(93,.ptr 2 (k2*14+8))::(95,.ag [aa e.u1,aa e.u2,aa e.u3,aa e.u4,aa e.u5,aa e.u6])::(96,.ag [aa d.1,aa d.2])::wF c dmg e ev k I d nx.length k2,101,[.cells [.a (.slice none 0 0 (some 0))],.cells [.buf 2 nx.length 14 none],.cells (q.flatMap ae)],[]⟩) (cI (n3 v84 v86 v87)) ?_;refine zS [2] (n5 hfk hfn hrq hbq hkq) hla ?_;refine zR ?_;simp only[mV] at hnext;refine aE (zi hlt2 hnl) ?_;refine zX hlt2 (cI hnext) trivial
def M7(least:Int)(p:bq×Int):Bool:=!(decide (bp p.1=0))&&(!(decide (p.2<least))&&!(decide (bp p.1<=p.2)))
def kY(c:List aU)(l:List bq)(ch:List Int)(least:Int):Bool:=mX c&&(decide (l.length=ch.length)&&(l.zip ch).all (M7 least))
set_option maxHeartbeats 1000000 in
theorem yA(c:List aU)(l:List bq)(ch:List Int)(least:Int)(hc:jJ c)(hl:∀r∈l,ea r)(hlen:l.length<=1000000)(hlc:ch.length<=1000000):PC Tryz.prog 110 [.ag [an 3 c aq],an 2 l aD,an 1 ch (az aa),aa least] (·=aA (kY c l ch least)):=by
 refine pB 50 Tryz.func110 ?_;refine ki ?_;refine zK (mU c hc) ?_;cases h1:mX c
 ·refine cS h1 ?_;refine cE ?_;refine zE ?_;exact zO [.tmp 8] (hq:=by (try simp only[aC,ab]);first | done | (rw[kY,h1];rfl))
 by_cases heq:l.length=ch.length;rotate_left
 ·refine cS (n2 h1 (show(!decide ((ch.length:Int)=(l.length:Int)))=true by simp;omega)) ?_;refine cE ?_;refine zE ?_;exact zO [.tmp 8] (hq:=by (try simp only[aC,ab]);first | done | (rw[kY,h1,decide_eq_false heq];rfl))
 refine cS (n2 h1 (show(!decide ((ch.length:Int)=(l.length:Int)))=false by simp;omega)) ?_;refine gX ?_
 have hz:∀{k:Nat} {r:bq} {n:Int},l[k]?=some r->ch[k]?=some n->(l.zip ch)[k]?=some (r,n):=λh1 h2=>by
  rw[List.getElem?_zip_eq_some];exact⟨h1,h2⟩
 refine zs ?_;refine zL l (λk=>((l.zip ch).take k).all (M7 least)=true) (λk=>[(2,an 1 ch (az aa)),(3,aa least),(22,an 2 l aD),(23,aa l.length),(24,aa k)]) (λk=>[]) zH zp ?_;intro k hk hall;refine zV ?_;by_cases hlt:k<l.length;rotate_left;obtain rfl:k=l.length:=(by omega);rw[zf];rotate_left;rw[zt hlt];obtain⟨r,hx⟩:=zx hlt;rotate_left
 ·refine zN ?_;refine ai.exit ?_
  have hzl:(l.zip ch).length=l.length:=by rw[List.length_zip,<-heq,Nat.min_self]
  rw[<-hzl,List.take_length] at hall;refine zV ?_;refine zE ?_;exact zO [.tmp 8] (hq:=by (try simp only[aC,ab]);first | done | (rw[kY,h1,decide_eq_true heq,hall];rfl))
 have hrk:ea r:=hl r (List.mem_of_getElem? hx);have hr1:=hrk.len;obtain⟨n,hn⟩:∃n,ch[k]?=some n:=⟨ch[k],List.getElem?_eq_getElem (by omega)⟩;have hzk:=hz hx hn;have ht:=bo hzk
 have hlc2:k<ch.length:=by omega
 have hall2:M7 least (r,n)=true->((l.zip ch).take (k+1)).all (M7 least)=true:=λh=>by
  rw[ht,List.all_append,hall];show(true&&(M7 least (r,n)&&true))=true;rw[h];rfl
 have hbad:M7 least (r,n)=false->kY c l ch least=false:=λh=>by
  rw[kY,h1,decide_eq_true heq];refine Bool.eq_false_iff.2 λh2=>?_;have:=List.all_eq_true.1 h2 _ (List.mem_of_getElem? hzk);rw[h] at this;cases this
 refine zY ?_
 (repeat refine ai.seq ?_)
 refine ai.block ?_;refine aE (n3 hlt (aH (e:=2) (enc:=aD) (λ_=>rfl) hx) @aD.eq_1) ?_;refine zC ?_;refine zK (gS r hrk) ?_;refine zR ?_;cases g0:decide (bp r=0);rotate_left
 ·refine aE g0 ?_;refine cE ?_;refine zE ?_;exact zO [.tmp 8] (hq:=by (try simp only[aC,ab]);first | done | (rw[hbad (by rw[M7,g0];rfl)]))
 cases g1:decide (n<least);rotate_left
 ·refine aE (n5 g0 g1 hlc2 (aH (e:=1) (enc:=az aa) (λ_=>rfl) hn) @az.eq_1) ?_;refine cE ?_;refine zE ?_;exact zO [.tmp 8] (hq:=by (try simp only[aC,ab]);first | done | (rw[hbad (by rw[M7,g0,g1];rfl)]))
 cases g2:decide (bp r<=n);rotate_left
 ·refine aE (n6 g0 g1 g2 hlc2 (aH (e:=1) (enc:=az aa) (λ_=>rfl) hn) @az.eq_1) ?_;refine cE ?_;refine zE ?_;exact zO [.tmp 8] (hq:=by (try simp only[aC,ab]);first | done | (rw[hbad (by rw[M7,g0,g1,g2];rfl)]))
 refine aE (n6 g0 g1 g2 hlc2 (aH (e:=1) (enc:=az aa) (λ_=>rfl) hn) @az.eq_1) ?_;refine zN ?_;refine aE (zi hlt hlen) ?_;refine zX hlt zH (hall2 (by rw[M7,g0,g1,g2];rfl))
end Go.Proofs
