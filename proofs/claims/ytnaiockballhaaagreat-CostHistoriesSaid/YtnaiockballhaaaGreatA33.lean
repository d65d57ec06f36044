/- A part of the texts of this claim: every theorem says what it proves, with its conditions. -/
import Derived.Test.YtnaiockballhaaaGreatA32
import Derived.Test.YtnaiockballhaaaGreatA23
import Derived.Test.YtnaiockballhaaaGreatA20
set_option linter.unusedSimpArgs false
set_option linter.unusedVariables false
set_option linter.unusedSectionVars false
open Bool (and_eq_true)
open List (any_eq_true map_cons mem_map Perm)
namespace Go.Proofs
open Go.Ev
set_option maxRecDepth 100000
theorem CM{l:List (aG)}(p:aG->Bool){fid:FuncId}{first cap:List SV}(hlen:l.length<=1000000)(hp:∀x∈l,PC Tryz.prog fid ((first++[.ag (ae x)])++cap) (·=aA (p x)))(hg:cr first=true/\cr cap=true):PC Tryz.prog 125 [an 14 l ae,.fn fid first cap] (·=aa (jf p l)):=by
 refine pB 19 Tryz.func125 ?_;refine aE @an.eq_1 ?_;refine zV ?_;refine zs ?_;refine zL l (λk=>∀(i:Nat) y,i<k->l[i]?=some y->p y=false) (λk=>[(0,.sl l.length 14 (l.flatMap ae)),(1,.fn fid first cap),(7,aa l.length),(8,aa k)]) (λk=>[]) zH zp ?_;intro k hk hall;refine zV ?_;by_cases hlt:k<l.length;rotate_left;obtain rfl:k=l.length:=(by omega);rw[zf];rotate_left;rw[zt hlt];obtain⟨x,hx⟩:=zx hlt;rotate_left
 ·refine zN ?_;refine ai.exit ?_;refine zV ?_;refine zE ?_;exact zO [.tmp 4] (hq:=by (try simp only[aC,ab]);first | done | (rw[iW hall]))
 ·refine zY ?_
  (repeat refine ai.seq ?_)
  refine ai.block ?_;refine zV ?_;refine gl (n3 hlt (aH (e:=14) (enc:=ae) (λ_=>rfl) hx) @ae.eq_1) ?_;refine zK (hp x (List.mem_iff_getElem?.2 ⟨k,hx⟩)) ?_ (hwk:=((bn.refl hg.1).app (bn.refl rfl)).app (bn.refl hg.2));refine aM.nil ?_;change ai _ _ _ _ _;cases hpx:p x
  ·refine zN ?_;refine aE (zi hlt hlen) ?_;refine zX hlt zH ?_;intro i y hi hy;by_cases hik:i=k
   ·subst hik;rw[hx] at hy;cases hy;exact hpx
   ·exact hall i y (by omega) hy
  ·refine cE ?_;refine zE ?_;exact zO [.tmp 4] (hq:=by (try simp only[aC,ab]);first | done | (rw[mG hx hpx hall]))
theorem Cz{l:List (aG)}(p:aG->Bool){fid:FuncId}{first cap:List SV}(hlen:l.length<=1000000)(hp:∀x∈l,PC Tryz.prog fid ((first++[.ag (ae x)])++cap) (·=aA (p x)))(hg:cr first=true/\cr cap=true):PC Tryz.prog 85 [an 14 l ae,.fn fid first cap] (·=aA (l.any p)):=by
 refine pB 9 Tryz.func85 ?_;refine ki ?_;refine zK (CM p hlen hp hg) ?_ (hwk:=.cons (Wk.sl _ _ _) (.cons (.fn (bn.refl hg.1) (bn.refl hg.2)) .nil));refine zR ?_;refine zE ?_;exact zO [.tmp 4] (hq:=by (try simp only[aC,ab]);first | done | (rw[BX]))
def jR(r:List aG×Int):SV:=.bI [.ag [an 14 r.1 ae],aa r.2]
theorem de(k:Int):PC Tryz.prog 81 [aa k] (·=jR ([],k)):=by
 refine pB 6 Tryz.func81 ?_;refine kQ ?_;refine zE ?_;exact zO [.cell 2 55,.tmp 3] (r:=.bI [.ag [.sl 0 14 []],aa k]) (hw:=zv)
theorem zZ(p:aG):PC Tryz.prog 80 [.ag (ae p)] (·=ak p.name):=by
 refine pB 5 Tryz.func80 ?_;refine aE @ae.eq_1 ?_;refine zV ?_;refine zE ?_;exact zO [.tmp 2]
theorem z6(p:bG):PC Tryz.prog 89 [.ag (ar p)] (·=ak p.key):=by
 refine pB 5 Tryz.func89 ?_;refine aE @ar.eq_1 ?_;refine zV ?_;refine zE ?_;exact zO [.tmp 2]
theorem fz(ps:List aG)(hlen:ps.length<=100000)(ho:j8 (ps.map aG.name)=true)(p:aG):PC Tryz.prog 78 [.ag (ae p),.ip [an 14 ps ae]] (·=jR (Proofs.c7 ps p,0)):=by
 refine pB 10 Tryz.func78 ?_;have hput:=C0 ps hlen p (g:=80) (cap:=[]) rfl zZ ho;rw[dE] at hput ⊢;refine ki ?_;refine zK hput ?_ (hfl:=.inr (bn.refl rfl));refine zR ?_;refine zE ?_;exact zO [.cell 3 55,.tmp 4]
theorem Fw(e:bB)(q:aG):PC Tryz.prog 87 [.ag (ae q),.ip (aF e)] (·=aA (decide (q.bD=e.bD)&&decide (q.slot=e.slot))):=by
 refine pB 16 Tryz.func87 ?_;refine aE (n2 @ae.eq_1 @aF.eq_1) ?_;cases h:decide (q.bD=e.bD)
 ·refine aE h ?_;refine zE ?_;exact zO [.tmp 3]
 ·refine aE h ?_;refine zE ?_;exact zO [.tmp 3]
theorem Fx(p q:aG):PC Tryz.prog 90 [.ag (ae q),.ip (ae p)] (·=aA (decide (q.bD=p.name))):=by
 refine pB 9 Tryz.func90 ?_;refine aE @ae.eq_1 ?_;refine zV ?_;refine zE ?_;exact zO [.tmp 3]
theorem ti(ps:List aG)(hlen:ps.length<=1000000)(d:aG->Bool){g:FuncId}{cap:List SV}(hcap:cr cap=true)(hp:∀q∈ps,PC Tryz.prog g ([.ag (ae q)]++cap) (·=aA (d q))):PC Tryz.prog 84 [.fn g [] cap,.ip [an 14 ps ae]] (·=aA (ps.any d)):=by
 refine pB 8 Tryz.func84 ?_;have h:=Cz (l:=ps) d (fid:=g) (first:=[]) (cap:=cap) hlen hp ⟨rfl,hcap⟩;refine ki ?_;refine zK h ?_ (hwk:=bn.cons (Wk.sl _ _ _) (.cons (.fn .nil (bn.refl hcap)) .nil));refine zR ?_;refine zE ?_;exact zO [.tmp 3]
def qq(e:bB):aG:=⟨e.part,e.kind,[],[],e.day,e.day,false,[],0,0,0,0,0,0⟩
def AX(c:List aU)(ps:List aG)(e:bB)(is:Bool):List aG×Int:=
 if is=true then ([],3) else if (eD c e.kind).isNone=true then ([],4) else if ((ps.length:Int)=20000) then ([],7) else (c7 ps (qq e),0)
def y6(p:aG)(e:bB):aG:={ p with bD:=e.bD,slot:=e.slot }
def ze(p:aG):aG:={ p with bD:=[],slot:=[] }
def mZ(p:aG)(e:bB):aG:={ p with since:=dQ p.since e.day,l1:=0,l2:=0,l3:=0,l4:=0,l5:=0,l6:=0 }
def qQ(p:aG)(e:bB):aG:={ p with props:=lA p.props ⟨e.key,e.value⟩ }
def qN(p:aG):aG:={ p with eu:=true }
def jN(c:List aU)(ps:List aG)(e:bB)(p h:aG):List aG×Int:=
 let k:=(eD c p.kind).getD aU.zero
 if e.op=2 then (if (k.fN||!uK c h.kind e.slot p.kind)=true then ([],4) else if p.bD≠[] then ([],5) else
  if (ps.any λq=>decide (q.bD=e.bD)&&decide (q.slot=e.slot))=true then ([],6) else (c7 ps (y6 p e),0))
 else if e.op=3 then (if p.bD=[] then ([],5) else (c7 ps (ze p),0))
 else if e.op=4 then (if k.fN=true then (c7 ps p,0) else ([],4))
 else if e.op=5 then (c7 ps (mZ p e),0)
 else if e.op=6 then (if 60<((Proofs.lA p.props ⟨e.key,e.value⟩).length:Int) then ([],7) else (c7 ps (qQ p e),0))
 else if e.op=7 then (if p.bD≠[] then ([],5) else if (ps.any λq=>decide (q.bD=p.name))=true then ([],5) else (c7 ps (qN p),0))
 else (c7 ps p,0)
def aV(c:List aU)(ps:List aG)(e:bB):List aG×Int:=
 if k8 c ps=true then (if gf e=true then
  (if e.op=1 then AX c ps e (pz ps (qL 0 [] ps) e.part).isSome else
   match pz ps (qL 0 [] ps) e.part,(if e.op=2 then pz ps (qL 0 [] ps) e.bD else pz ps (qL 0 [] ps) e.part) with
   | some p,some h=>if (p.eu||h.eu)=true then ([],5) else jN c ps e p h
   | _,_=>([],2))
  else ([],1)) else ([],1)
theorem pL{c:List aU}{ps:List aG}{m:List (List Nat×Int)}:∀{taken:List (gT×Bool)} {l:List aG},fG c ps m taken l=true->∀p∈l,kc c p=true
 | _,[],_,p,hp=>by simp at hp
 | taken,q::r,h,p,hp=>by
  rw[fG,and_eq_true,and_eq_true] at h
  rcases List.mem_cons.1 hp with rfl | hp
  ·exact h.1
  ·cases hd:decide (q.bD=[]) with
   | true=>rw[hd,ah] at h;exact pL h.2.2 p hp
   | false=>rw[hd,ao,and_eq_true] at h;exact pL h.2.2.2 p hp
theorem Ia{c:List aU}{ps:List aG}(h:k8 c ps=true){p:aG}(hp:p∈ps):p.props.length<=60/\j8 (p.props.map bG.key)=true:=by
 unfold k8 at h;simp only[and_eq_true] at h;have:=pL h.2.2.2 p hp;unfold kc at this;simp only[and_eq_true,Bool.not_eq_true',decide_eq_false_iff_not] at this;refine⟨by have:=this.2.2.2.2.2.1;omega,this.2.2.2.2.2.2.2.1⟩
set_option maxHeartbeats 40000000 in
theorem yr(c:List aU)(ps:List aG)(e:bB)(hc:jJ c)(hlen:ps.length<=100000)(hps:∀p∈ps,gn p)(he:oZ e):PC Tryz.prog 39 [.ag [an 3 c aq],.ag [an 14 ps ae],.ag (aF e)] (·=jR (aV c ps e)):=by
 have hlen1:ps.length<=1000000:=by omega
 have hct:∀k∈c,k.bJ.length<=1000000/\∀s∈k.bJ,s.kinds.length<=1000000:=λk hk=>⟨(hc.kind k hk).2,λs hs=>(hc.slot k hk s hs).2⟩;have hy:PJ ps (qL 0 [] ps):=Gv (by omega) (Jy ps);have hvE:=pV e he;refine pB 235 Tryz.func39 ?_;rw[dg] at hvE ⊢;refine ki ?_;refine zK (F6 c ps hc hlen1 hps) ?_;cases h1:Proofs.k8 c ps
 ·refine zR ?_;refine cE ?_;refine zE ?_;exact zO [.cell 6 55,.tmp 7] (r:=.bI [.ag [.sl 0 14 []],aa 1]) (hw:=zv) (hq:=by (try simp only[aC,ab]);first | done | (rw[show aV c ps e=([],1) by simp[aV,h1]];rfl))
 refine zQ ?_;refine zK hvE ?_;cases h2:gf e
 ·refine zR ?_;refine cE ?_;refine zE ?_;exact zO [.cell 6 55,.tmp 7] (r:=.bI [.ag [.sl 0 14 []],aa 1]) (hw:=zv) (hq:=by (try simp only[aC,ab]);first | done | (rw[show aV c ps e=([],1) by simp[aV,h1,h2]];rfl))
 refine zR ?_;refine zN ?_
 have ho:j8 (ps.map aG.name)=true:=by
  unfold Proofs.k8 at h1;simp only[and_eq_true] at h1;exact h1.2.2.1
 refine ai.fg (st':=⟨[(3,.ptr 0 0),(4,.ptr 1 0),(5,.ptr 2 0),(6,.ptr 3 0),(7,aa 0)],235,[.cells [an 3 c aq],.cells [an 14 ps ae],.cells [aa e.op,aa e.day,ak e.part,ak e.kind,ak e.bD,ak e.slot,ak e.key,ak e.value,aa e.u1,aa e.u2,aa e.u3,aa e.u4,aa e.u5,aa e.u6],.cells [.a (.slice none 0 0 (some 0))]],[]⟩) zH ?_;refine ai.fg (Fg.freeze (f':=[(3,.ip [an 3 c aq]),(4,.ptr 1 0),(5,.ptr 2 0),(6,.ptr 3 0),(7,aa 0)]) 0 rfl (λh=>by cases h) (p6 @an.eq_1)) ?_;refine ai.fg (Fg.freeze (f':=[(3,.ip [an 3 c aq]),(4,.ip [an 14 ps ae]),(5,.ptr 2 0),(6,.ptr 3 0),(7,aa 0)]) 1 rfl (λh=>by cases h) (p6 @an.eq_1)) ?_;refine ai.fg (Fg.freeze (f':=[(3,.ip [an 3 c aq]),(4,.ip [an 14 ps ae]),(5,.ip [aa e.op,aa e.day,ak e.part,ak e.kind,ak e.bD,ak e.slot,ak e.key,ak e.value,aa e.u1,aa e.u2,aa e.u3,aa e.u4,aa e.u5,aa e.u6]),(6,.ptr 3 0),(7,aa 0)]) 2 rfl (λh=>by cases h) (p6 @an.eq_1)) ?_
 (try change ai _ _ _ _ _)
 refine zC ?_;refine zK (uO ps hlen1) ?_ (hfl:=.inr (bn.refl rfl));generalize hM:qL 0 [] ps=M at hy;refine cS (n2 @Gg.eq_1 hM) ?_;refine kQ ?_;refine zC ?_;have hG:=oG ps M e.part hy
 cases hg:pz ps M e.part with
 | none=>
  rw[hg] at hG;refine zK hG ?_ (hfl:=.inr (bn.refl rfl));refine cS (n3 @nG.eq_1 @ae.eq_1 @aG.zero.eq_1) ?_;by_cases ho1:e.op=1
  ·refine aE (decide_eq_true ho1) ?_;refine cE ?_;refine M9 ?_;have hF:=mi c e.kind hc.len
   cases hf:eD c e.kind with
   | none=>
    rw[hf] at hF;refine zK hF ?_ (hfl:=.inr (bn.refl rfl));refine cS (n3 @nG.eq_1 @aq.eq_1 @aU.zero.eq_1) ?_;refine wy ?_;refine zC ?_;refine zK (de _) ?_ (hfl:=.inr (bn.refl rfl));refine cS @an.eq_1 ?_;refine zE ?_;exact zO [.cell 6 55,.tmp 7] (hq:=by (try simp only[aC,ab]);first | done | (rw[show aV c ps e=([],4) by simp[aV,AX,h1,h2,hM,hg,ho1,hf]];rfl))
   | some k=>
    rw[hf] at hF;refine zK hF ?_ (hfl:=.inr (bn.refl rfl));refine cS (n2 @nG.eq_1 @aq.eq_1) ?_;refine Gl ?_;by_cases hl:(ps.length:Int)=20000
    ·refine aE (decide_eq_true hl) ?_;refine zY ?_;refine zC ?_;refine zK (de _) ?_ (hfl:=.inr (bn.refl rfl));refine cS @an.eq_1 ?_;refine zE ?_;exact zO [.cell 6 55,.tmp 7] (hq:=by (try simp only[aC,ab]);first | done | (rw[show aV c ps e=([],7) by simp[aV,AX,h1,h2,hM,hg,ho1,hf,hl]];rfl))
    ·refine aE (decide_eq_false hl) ?_;refine zN ?_;have hnext:=fz ps hlen ho (qq e);simp only[dE,qq] at hnext;refine zC ?_;refine zK hnext ?_ (hfl:=.inr zw);refine cS (n2 @jR.eq_1 @an.eq_1) ?_;refine zE ?_;exact zO [.cell 6 55,.tmp 7] (hq:=by (try simp only[aC,ab]);first | done | (rw[show aV c ps e=(Proofs.c7 ps (qq e),0) by simp[aV,AX,h1,h2,hM,hg,ho1,hf,hl]];rfl))
  by_cases ho2:e.op=2
  ·refine aE (decide_eq_false ho1) ?_;refine gX ?_;refine aE (decide_eq_true ho2) ?_;refine zY ?_;refine zC ?_;have hH:=oG ps M e.bD hy
   obtain⟨q,b,hq⟩:∃(q:aG) (b:Bool),nG ae aG.zero (pz ps M e.bD)=.bI [.ag (ae q),aA b]:=by
    cases pz ps M e.bD with
    | none=>exact⟨aG.zero,false,rfl⟩
    | some q=>exact⟨q,true,rfl⟩
   rw[hq] at hH;refine zK hH ?_ (hfl:=.inr (bn.refl rfl));refine cS @ae.eq_1 ?_;refine wy ?_;refine zC ?_;refine zK (de _) ?_ (hfl:=.inr (bn.refl rfl));refine cS @an.eq_1 ?_;refine zE ?_;exact zO [.cell 6 55,.tmp 7] (hq:=by (try simp only[aC,ab]);first | done | (rw[show aV c ps e=([],2) by simp[aV,h1,h2,hM,hg,ho1,ho2]];rfl))
  ·refine aE (decide_eq_false ho1) ?_;refine gX ?_;refine aE (decide_eq_false ho2) ?_;refine gX ?_;refine zY ?_;refine zC ?_;refine zK (de _) ?_ (hfl:=.inr (bn.refl rfl));refine cS @an.eq_1 ?_;refine zE ?_;exact zO [.cell 6 55,.tmp 7] (hq:=by (try simp only[aC,ab]);first | done | (rw[show aV c ps e=([],2) by simp[aV,h1,h2,hM,hg,ho1,ho2]];rfl))
 | some p=>
  rw[hg] at hG;refine zK hG ?_ (hfl:=.inr (bn.refl rfl));refine cS (n2 @nG.eq_1 @ae.eq_1) ?_;by_cases ho1:e.op=1
  ·refine aE (decide_eq_true ho1) ?_;refine cE ?_;refine zY ?_;refine zC ?_;refine zK (de _) ?_ (hfl:=.inr (bn.refl rfl));refine cS @an.eq_1 ?_;refine zE ?_;exact zO [.cell 6 55,.tmp 7] (hq:=by (try simp only[aC,ab]);first | done | (rw[show aV c ps e=([],3) by simp[aV,AX,h1,h2,hM,hg,ho1]];rfl))
  refine ai.fg (st':=⟨[(3,.ip [an 3 c aq]),(4,.ip [an 14 ps ae]),(5,.ip [aa e.op,aa e.day,ak e.part,ak e.kind,ak e.bD,ak e.slot,ak e.key,ak e.value,aa e.u1,aa e.u2,aa e.u3,aa e.u4,aa e.u5,aa e.u6]),(6,.ptr 3 0),(7,aa 0),(8,.ptr 4 0),(9,.fn 78 [] [.ip [an 14 ps ae]]),(10,.fn 81 [] []),(11,.ptr 5 0),(12,aA true)],235,[.gone,.gone,.gone,.cells [.a (.slice none 0 0 (some 0))],.cells [an 14 ps ae,qG AV.str aa M],.cells [ak p.name,ak p.kind,ak p.bD,ak p.slot,aa p.made,aa p.since,aA p.eu,an 2 p.props ar,aa p.l1,aa p.l2,aa p.l3,aa p.l4,aa p.l5,aa p.l6]],[]⟩) zH ?_
  (try change ai _ _ _ _ _)
  refine aE (decide_eq_false ho1) ?_;refine gX ?_;by_cases ho2:e.op=2
  ·refine aE (decide_eq_true ho2) ?_;refine zY ?_;refine zC ?_;have hH:=oG ps M e.bD hy
   cases hh:pz ps M e.bD with
   | none=>
    rw[hh] at hH;refine zK hH ?_ (hfl:=.inr (bn.refl rfl));refine cS (n3 @nG.eq_1 @ae.eq_1 @aG.zero.eq_1) ?_;refine wy ?_;refine zC ?_;refine zK (de _) ?_ (hfl:=.inr (bn.refl rfl));refine cS @an.eq_1 ?_;refine zE ?_;exact zO [.cell 6 55,.tmp 7] (hq:=by (try simp only[aC,ab]);first | done | (rw[show aV c ps e=([],2) by simp[aV,h1,h2,hM,hg,ho1,ho2,hh]];rfl))
   | some h=>
    rw[hh] at hH;refine zK hH ?_ (hfl:=.inr (bn.refl rfl));refine cS (n2 @nG.eq_1 @ae.eq_1) ?_;refine Gl ?_;cases f1:p.eu;rotate_left
    ·refine aE f1 ?_;refine zY ?_;refine zC ?_;refine zK (de _) ?_ (hfl:=.inr (bn.refl rfl));refine cS @an.eq_1 ?_;refine zE ?_;exact zO [.cell 6 55,.tmp 7] (hq:=by (try simp only[aC,ab]);first | done | (rw[show aV c ps e=([],5) by simp[aV,h1,h2,hM,hg,ho1,ho2,hh,f1]];rfl))
    cases f2:h.eu;rotate_left
    ·refine aE (n2 f1 f2) ?_;refine zY ?_;refine zC ?_;refine zK (de _) ?_ (hfl:=.inr (bn.refl rfl));refine cS @an.eq_1 ?_;refine zE ?_;exact zO [.cell 6 55,.tmp 7] (hq:=by (try simp only[aC,ab]);first | done | (rw[show aV c ps e=([],5) by simp[aV,h1,h2,hM,hg,ho1,ho2,hh,f1,f2]];rfl))
    refine aE (n2 f1 f2) ?_;refine gX ?_;refine zC ?_;have hF:=mi c p.kind hc.len
    obtain⟨kd,b,hq,hkd⟩:∃(kd:aU) (b:Bool),nG aq aU.zero (eD c p.kind)=.bI [.ag (aq kd),aA b]/\(eD c p.kind).getD aU.zero=kd:=by
     cases eD c p.kind with
     | none=>exact⟨aU.zero,false,rfl,rfl⟩
     | some q=>exact⟨q,true,rfl,rfl⟩
    rw[hq] at hF;refine zK hF ?_ (hfl:=.inr (bn.refl rfl));refine cS @aq.eq_1 ?_;refine zV ?_;refine ai.fg (st':=⟨[(3,.ip [an 3 c aq]),(4,.ip [an 14 ps ae]),(5,.ip [aa e.op,aa e.day,ak e.part,ak e.kind,ak e.bD,ak e.slot,ak e.key,ak e.value,aa e.u1,aa e.u2,aa e.u3,aa e.u4,aa e.u5,aa e.u6]),(6,.ptr 3 0),(7,aa 0),(9,.fn 78 [] [.ip [an 14 ps ae]]),(10,.fn 81 [] []),(11,.ptr 5 0),(15,.ptr 6 0),(17,.fn 84 [] [.ip [an 14 ps ae]]),(18,.ptr 7 0),(123,aa e.op)],235,[.gone,.gone,.gone,.cells [.a (.slice none 0 0 (some 0))],.gone,.cells [ak p.name,ak p.kind,ak p.bD,ak p.slot,aa p.made,aa p.since,aA false,an 2 p.props ar,aa p.l1,aa p.l2,aa p.l3,aa p.l4,aa p.l5,aa p.l6],.cells [ak h.name,ak h.kind,ak h.bD,ak h.slot,aa h.made,aa h.since,aA false,an 2 h.props ar,aa h.l1,aa h.l2,aa h.l3,aa h.l4,aa h.l5,aa h.l6],.cells [ak kd.name,aA kd.fN,an 3 kd.bJ bH]],[]⟩) (cI @ae.eq_1) ?_
    (try change ai _ _ _ _ _)
    (repeat refine ai.seq ?_)
    refine ai.block ?_;refine aE (decide_eq_true ho2) ?_;refine zY ?_
    (repeat refine ai.seq ?_)
    refine ai.block ?_;cases g1:kd.fN;rotate_left
    ·refine aE g1 ?_;refine zY ?_;refine zC ?_;refine zK (de _) ?_ (hfl:=.inr (bn.refl rfl));refine cS @an.eq_1 ?_;refine zE ?_;exact zO [.cell 6 55,.tmp 7] (hq:=by (try simp only[aC,ab]);first | done | (rw[show aV c ps e=([],4) by simp[aV,h1,h2,hM,hg,ho1,ho2,hh,f1,f2,jN,hkd,g1]];rfl))
    refine gl g1 ?_;refine zK (vB c h.kind e.slot p.kind hc.len hct) ?_;cases g2:Proofs.uK c h.kind e.slot p.kind
    ·refine zR ?_;refine zY ?_;refine zC ?_;refine zK (de _) ?_ (hfl:=.inr (bn.refl rfl));refine cS @an.eq_1 ?_;refine zE ?_;exact zO [.cell 6 55,.tmp 7] (hq:=by (try simp only[aC,ab]);first | done | (rw[show aV c ps e=([],4) by simp[aV,h1,h2,hM,hg,ho1,ho2,hh,f1,f2,jN,hkd,g1,g2]];rfl))
    refine zR ?_;refine zN ?_;by_cases g3:p.bD=[];rotate_left
    ·refine aE (decide_eq_false g3) ?_;refine zY ?_;refine zC ?_;refine zK (de _) ?_ (hfl:=.inr (bn.refl rfl));refine cS @an.eq_1 ?_;refine zE ?_;exact zO [.cell 6 55,.tmp 7] (hq:=by (try simp only[aC,ab]);first | done | (rw[show aV c ps e=([],5) by simp[aV,h1,h2,hM,hg,ho1,ho2,hh,f1,f2,jN,hkd,g1,g2,g3]];rfl))
    refine aE (decide_eq_true g3) ?_;refine M9 ?_;have hho:=ti ps hlen1 (λq=>decide (q.bD=e.bD)&&decide (q.slot=e.slot)) (g:=87) (cap:=[.ip [aa e.op,aa e.day,ak e.part,ak e.kind,ak e.bD,ak e.slot,ak e.key,ak e.value,aa e.u1,aa e.u2,aa e.u3,aa e.u4,aa e.u5,aa e.u6]]) rfl (λq _=>by rw[<-dg];exact Fw e q);refine zK hho ?_;cases g4:ps.any λq=>decide (q.bD=e.bD)&&decide (q.slot=e.slot);rotate_left
    ·refine zR ?_;refine zY ?_;refine zC ?_;refine zK (de _) ?_ (hfl:=.inr (bn.refl rfl));refine cS @an.eq_1 ?_;refine zE ?_;exact zO [.cell 6 55,.tmp 7] (hq:=by (try simp only[aC,ab]);first | done | (rw[show aV c ps e=([],6) by simp[aV,h1,h2,hM,hg,ho1,ho2,hh,f1,f2,jN,hkd,g1,g2,g3,g4,-any_eq_true]];rfl))
    refine zR ?_;refine zN ?_
    (try change ai _ _ _ _ _)
    refine zs ?_;refine oW [0,1,0,4,3,19,63,127] ?_
    (repeat (first | refine SD.ri (by rfl) rfl (by rfl) rfl zl zl ?_ | refine SD.r (by rfl) rfl (by rfl) (by rfl) zl ?_ | refine SD.s (by rfl) rfl (by rfl) (by rfl) ?_ | fail))
    refine SD.e (by rfl) rfl (by rfl) rfl rfl (by rfl) zl ?_
    (repeat (first | refine SD.ri (by rfl) rfl (by rfl) rfl zl zl ?_ | refine SD.r (by rfl) rfl (by rfl) (by rfl) zl ?_ | refine SD.s (by rfl) rfl (by rfl) (by rfl) ?_ | fail))
    refine SD.e (by rfl) rfl (by rfl) rfl rfl (by rfl) zl ?_;refine zM ?_
    (try change ai _ _ _ _ _)
    obtain⟨R,hR⟩:∃R,R=Proofs.c7 ps (y6 p e):=⟨_,rfl⟩;have hnext:=fz ps hlen ho (y6 p e);rw[<-hR] at hnext;simp only[dE,f1,y6,ze,mZ,qQ,qN] at hnext;refine zC ?_;refine zK hnext ?_ (hfl:=.inr zw);refine cS (n2 @jR.eq_1 @an.eq_1) ?_;refine zE ?_;exact zO [.cell 6 55,.tmp 7] (hq:=by (try simp only[aC,ab]);first | done | (rw[show aV c ps e=(R,0) by rw[hR];simp[aV,h1,h2,hM,hg,ho1,ho2,hh,f1,f2,jN,hkd,g1,g2,g3,g4,-any_eq_true,-List.any_eq_false]];rfl))
  ·refine aE (decide_eq_false ho2) ?_;refine gX ?_;refine zN ?_;cases f1:p.eu;rotate_left
   ·refine aE f1 ?_;refine zY ?_;refine zC ?_;refine zK (de _) ?_ (hfl:=.inr (bn.refl rfl));refine cS @an.eq_1 ?_;refine zE ?_;exact zO [.cell 6 55,.tmp 7] (hq:=by (try simp only[aC,ab]);first | done | (rw[show aV c ps e=([],5) by simp[aV,h1,h2,hM,hg,ho1,ho2,f1]];rfl))
   have f2:=f1;refine aE (n2 f1 f2) ?_;refine gX ?_;refine zC ?_;have hF:=mi c p.kind hc.len
   obtain⟨kd,b,hq,hkd⟩:∃(kd:aU) (b:Bool),nG aq aU.zero (eD c p.kind)=.bI [.ag (aq kd),aA b]/\(eD c p.kind).getD aU.zero=kd:=by
    cases eD c p.kind with
    | none=>exact⟨aU.zero,false,rfl,rfl⟩
    | some q=>exact⟨q,true,rfl,rfl⟩
   rw[hq] at hF;refine zK hF ?_ (hfl:=.inr (bn.refl rfl));refine cS @aq.eq_1 ?_;refine zV ?_;refine ai.fg (st':=⟨[(3,.ip [an 3 c aq]),(4,.ip [an 14 ps ae]),(5,.ip [aa e.op,aa e.day,ak e.part,ak e.kind,ak e.bD,ak e.slot,ak e.key,ak e.value,aa e.u1,aa e.u2,aa e.u3,aa e.u4,aa e.u5,aa e.u6]),(6,.ptr 3 0),(7,aa 0),(9,.fn 78 [] [.ip [an 14 ps ae]]),(10,.fn 81 [] []),(11,.ptr 5 0),(15,.ptr 6 0),(17,.fn 84 [] [.ip [an 14 ps ae]]),(18,.ptr 7 0),(123,aa e.op)],235,[.gone,.gone,.gone,.cells [.a (.slice none 0 0 (some 0))],.gone,.cells [ak p.name,ak p.kind,ak p.bD,ak p.slot,aa p.made,aa p.since,aA false,an 2 p.props ar,aa p.l1,aa p.l2,aa p.l3,aa p.l4,aa p.l5,aa p.l6],.cells [ak p.name,ak p.kind,ak p.bD,ak p.slot,aa p.made,aa p.since,aA false,an 2 p.props ar,aa p.l1,aa p.l2,aa p.l3,aa p.l4,aa p.l5,aa p.l6],.cells [ak kd.name,aA kd.fN,an 3 kd.bJ bH]],[]⟩) (cI @ae.eq_1) ?_
   (try change ai _ _ _ _ _)
   (repeat refine ai.seq ?_)
   refine ai.block ?_;refine aE (decide_eq_false ho2) ?_;refine zN ?_;by_cases ho3:e.op=3
   ·refine aE (decide_eq_true ho3) ?_;refine zY ?_;by_cases g3:p.bD=[]
    ·refine aE (decide_eq_true g3) ?_;refine zY ?_;refine zC ?_;refine zK (de _) ?_ (hfl:=.inr (bn.refl rfl));refine cS @an.eq_1 ?_;refine zE ?_;exact zO [.cell 6 55,.tmp 7] (hq:=by (try simp only[aC,ab]);first | done | (rw[show aV c ps e=([],5) by simp[aV,h1,h2,hM,hg,ho1,ho2,f1,jN,hkd,ho3,g3]];rfl))
    refine aE (decide_eq_false g3) ?_;refine gX ?_
    (try change ai _ _ _ _ _)
    obtain⟨R,hR⟩:∃R,R=Proofs.c7 ps (ze p):=⟨_,rfl⟩;have hnext:=fz ps hlen ho (ze p);rw[<-hR] at hnext;simp only[dE,f1,y6,ze,mZ,qQ,qN] at hnext;refine zC ?_;refine zK hnext ?_ (hfl:=.inr zw);refine cS (n2 @jR.eq_1 @an.eq_1) ?_;refine zE ?_;exact zO [.cell 6 55,.tmp 7] (hq:=by (try simp only[aC,ab]);first | done | (rw[show aV c ps e=(R,0) by rw[hR];simp[aV,h1,h2,hM,hg,ho1,ho2,f1,jN,hkd,ho3,g3]];rfl))
   refine aE (decide_eq_false ho3) ?_;refine zN ?_;by_cases ho4:e.op=4
   ·refine aE (decide_eq_true ho4) ?_;refine zY ?_;cases g1:kd.fN
    ·refine aE g1 ?_;refine zY ?_;refine zC ?_;refine zK (de _) ?_ (hfl:=.inr (bn.refl rfl));refine cS @an.eq_1 ?_;refine zE ?_;exact zO [.cell 6 55,.tmp 7] (hq:=by (try simp only[aC,ab]);first | done | (rw[show aV c ps e=([],4) by simp[aV,h1,h2,hM,hg,ho1,ho2,f1,jN,hkd,ho3,ho4,g1]];rfl))
    refine aE g1 ?_;refine zN ?_
    (try change ai _ _ _ _ _)
    obtain⟨R,hR⟩:∃R,R=Proofs.c7 ps p:=⟨_,rfl⟩;have hnext:=fz ps hlen ho p;rw[<-hR] at hnext;simp only[dE,f1,y6,ze,mZ,qQ,qN] at hnext;refine zC ?_;refine zK hnext ?_ (hfl:=.inr zw);refine cS (n2 @jR.eq_1 @an.eq_1) ?_;refine zE ?_;exact zO [.cell 6 55,.tmp 7] (hq:=by (try simp only[aC,ab]);first | done | (rw[show aV c ps e=(R,0) by rw[hR];simp[aV,h1,h2,hM,hg,ho1,ho2,f1,jN,hkd,ho3,ho4,g1]];rfl))
   refine aE (decide_eq_false ho4) ?_;refine zN ?_;by_cases ho5:e.op=5
   ·refine aE (decide_eq_true ho5) ?_;refine zY ?_;refine aE @e8 ?_
    (try change ai _ _ _ _ _)
    obtain⟨R,hR⟩:∃R,R=Proofs.c7 ps (mZ p e):=⟨_,rfl⟩;have hnext:=fz ps hlen ho (mZ p e);rw[<-hR] at hnext;simp only[dE,f1,y6,ze,mZ,qQ,qN] at hnext;refine zC ?_;refine zK hnext ?_ (hfl:=.inr zw);refine cS (n2 @jR.eq_1 @an.eq_1) ?_;refine zE ?_;exact zO [.cell 6 55,.tmp 7] (hq:=by (try simp only[aC,ab]);first | done | (rw[show aV c ps e=(R,0) by rw[hR];simp[aV,h1,h2,hM,hg,ho1,ho2,f1,jN,hkd,ho3,ho4,ho5]];rfl))
   refine aE (decide_eq_false ho5) ?_;refine zN ?_;by_cases ho6:e.op=6
   ·refine aE (decide_eq_true ho6) ?_;refine zY ?_
    have hpp:p∈ps:=by
     unfold pz at hg;split at hg
     ·exact List.mem_of_getElem? hg
     ·cases hg
    have hpl:p.props.length<=60/\j8 (p.props.map bG.key)=true:=Ia h1 hpp;have hput:=C1 p.props (by omega) ⟨e.key,e.value⟩ (g:=89) (cap:=[]) rfl z6 hpl.2;rw[lP] at hput;refine zC ?_;refine zK hput ?_ (hfl:=.inr (bn.refl rfl));refine zR ?_;by_cases g3:60<((Proofs.lA p.props ⟨e.key,e.value⟩).length:Int)
    ·refine aE (decide_eq_true g3) ?_;refine zY ?_;refine zC ?_;refine zK (de _) ?_ (hfl:=.inr (bn.refl rfl));refine cS @an.eq_1 ?_;refine zE ?_;exact zO [.cell 6 55,.tmp 7] (hq:=by (try simp only[aC,ab]);first | done | (rw[show aV c ps e=([],7) by simp[aV,h1,h2,hM,hg,ho1,ho2,f1,jN,hkd,ho3,ho4,ho5,ho6,g3]];rfl))
    refine aE (decide_eq_false g3) ?_;refine zN ?_
    (try change ai _ _ _ _ _)
    obtain⟨R,hR⟩:∃R,R=Proofs.c7 ps (qQ p e):=⟨_,rfl⟩;have hnext:=fz ps hlen ho (qQ p e);rw[<-hR] at hnext;simp only[dE,f1,y6,ze,mZ,qQ,qN] at hnext;refine zC ?_;refine zK hnext ?_ (hfl:=.inr zw);refine cS (n2 @jR.eq_1 @an.eq_1) ?_;refine zE ?_;exact zO [.cell 6 55,.tmp 7] (hq:=by (try simp only[aC,ab]);first | done | (rw[show aV c ps e=(R,0) by rw[hR];simp[aV,h1,h2,hM,hg,ho1,ho2,f1,jN,hkd,ho3,ho4,ho5,ho6,g3]];rfl))
   refine aE (decide_eq_false ho6) ?_;refine zN ?_;by_cases ho7:e.op=7
   ·refine aE (decide_eq_true ho7) ?_;refine zY ?_;by_cases g3:p.bD=[];rotate_left
    ·refine aE (decide_eq_false g3) ?_;refine zY ?_;refine zC ?_;refine zK (de _) ?_ (hfl:=.inr (bn.refl rfl));refine cS @an.eq_1 ?_;refine zE ?_;exact zO [.cell 6 55,.tmp 7] (hq:=by (try simp only[aC,ab]);first | done | (rw[show aV c ps e=([],5) by simp[aV,h1,h2,hM,hg,ho1,ho2,f1,jN,hkd,ho3,ho4,ho5,ho6,ho7,g3]];rfl))
    refine gl (decide_eq_true g3) ?_;have hho:=ti ps hlen1 (λq=>decide (q.bD=p.name)) (g:=90) (cap:=[.ip (ae p)]) rfl (λq _=>Fx p q);rw[dE,f1] at hho;refine zK hho ?_ (hwk:=zw);cases g4:ps.any λq=>decide (q.bD=p.name);rotate_left
    ·refine zR ?_;refine zY ?_;refine zC ?_;refine zK (de _) ?_ (hfl:=.inr (bn.refl rfl));refine cS @an.eq_1 ?_;refine zE ?_;exact zO [.cell 6 55,.tmp 7] (hq:=by (try simp only[aC,ab]);first | done | (rw[show aV c ps e=([],5) by simp[aV,h1,h2,hM,hg,ho1,ho2,f1,jN,hkd,ho3,ho4,ho5,ho6,ho7,g3,g4,-any_eq_true]];rfl))
    refine zR ?_;refine gX ?_
    (try change ai _ _ _ _ _)
    obtain⟨R,hR⟩:∃R,R=Proofs.c7 ps (qN p):=⟨_,rfl⟩;have hnext:=fz ps hlen ho (qN p);rw[<-hR] at hnext;simp only[dE,f1,y6,ze,mZ,qQ,qN] at hnext;refine zC ?_;refine zK hnext ?_ (hfl:=.inr zw);refine cS (n2 @jR.eq_1 @an.eq_1) ?_;refine zE ?_;exact zO [.cell 6 55,.tmp 7] (hq:=by (try simp only[aC,ab]);first | done | (rw[show aV c ps e=(R,0) by rw[hR];simp[aV,h1,h2,hM,hg,ho1,ho2,f1,jN,hkd,ho3,ho4,ho5,ho6,ho7,g3,g4,-any_eq_true,-List.any_eq_false]];rfl))
   refine aE (decide_eq_false ho7) ?_;refine zN ?_
   (try change ai _ _ _ _ _)
   obtain⟨R,hR⟩:∃R,R=Proofs.c7 ps p:=⟨_,rfl⟩;have hnext:=fz ps hlen ho p;rw[<-hR] at hnext;simp only[dE,f1,y6,ze,mZ,qQ,qN] at hnext;refine zC ?_;refine zK hnext ?_ (hfl:=.inr zw);refine cS (n2 @jR.eq_1 @an.eq_1) ?_;refine zE ?_;exact zO [.cell 6 55,.tmp 7] (hq:=by (try simp only[aC,ab]);first | done | (rw[show aV c ps e=(R,0) by rw[hR];simp[aV,h1,h2,hM,hg,ho1,ho2,f1,jN,hkd,ho3,ho4,ho5,ho6,ho7]];rfl))
theorem rz{a b:List (List Nat)}(h:a.Perm b):dG a=dG b:=by
 have h1:(dG a).Pairwise λa b=>xJ a b=true:=Fb a;have h2:(dG b).Pairwise λa b=>xJ a b=true:=Fb b;have hp:(dG a).Perm (dG b):=((pR a).trans h).trans (pR b).symm;exact Perm.eq_of_pairwise (λa b _ _ h1 h2=>Ed h1 h2) h1 h2 hp
def Gm(ps:List aG)(m:List (List Nat×Int)):Prop:=(∀e∈m,∃(k:Nat) (x:aG),e.2=(k:Int)/\ps[k]?=some x/\x.name=e.1)/\(m.map (·.1)).Nodup
theorem sh{K U:Type}[DecidableEq K]{k:K}{l:List (K×U)}:dh k l=true↔k∈l.map (·.1):=by
 unfold dh;simp only[any_eq_true,decide_eq_true_eq,mem_map];exact⟨λ⟨e,h1,h2⟩=>⟨e,h1,h2.symm⟩,λ⟨e,h1,h2⟩=>⟨e,h1,h2.symm⟩⟩
theorem Dt{ps:List aG}:∀{l:List aG} {i:Nat} {m:List (List Nat×Int)},ps.drop i=l->Gm ps m->Gm ps (qL i m l)
 | [],_,_,_,h=>h
 | p::r,i,m,hd,h=>by
  rw[qL]
  have hp:ps[i]?=some p:=by
   have:=congrArg (λl=>l[0]?) hd;simpa using this
  have hd2:ps.drop (i+1)=r:=by
   have:=congrArg (List.drop 1) hd;simpa using this
  refine Dt hd2 ?_
  cases hh:dh p.name m with
  | true=>exact h
  | false=>
   simp only[Bool.false_eq_true,if_false];rw[pN hh];refine⟨λe he=>?_,?_⟩
   ·rcases List.mem_append.1 he with he | he
    ·exact h.1 e he
    ·rw[List.mem_singleton.1 he];exact⟨i,p,rfl,hp,rfl⟩
   ·rw[List.map_append,List.nodup_append];refine⟨h.2,by simp,λa ha b hb=>?_⟩;simp only[map_cons,List.map_nil,List.mem_singleton] at hb;subst hb;intro e;subst e;rw[sh.2 ha] at hh;cases hh
def BZ(ps:List aG)(i:Int):List Nat:=match ps[i.toNat]? with
 | some p=>p.bD
 | none=>[]
abbrev jj:=List (List Nat×List Nat)
def jC(ps:List aG)(hd:List (List Nat×Int)):jj:=hd.filterMap λe=>if BZ ps e.2=[] then none else some (e.1,BZ ps e.2)
theorem x8{ps:List aG}{hd:List (List Nat×Int)}{k:List Nat}(h:k∈(jC ps hd).map (·.1)):k∈hd.map (·.1):=by
 obtain⟨e,he,rfl⟩:=mem_map.1 h;obtain⟨e',he',h2⟩:=List.mem_filterMap.1 he;split at h2
 ·cases h2
 ·cases h2;exact List.mem_map_of_mem he'
theorem iZ{ps:List aG}:∀{hd:List (List Nat×Int)},(hd.map (·.1)).Nodup->((jC ps hd).map (·.1)).Nodup
 | [],_=>List.nodup_nil
 | e::hd,h=>by
  rw[map_cons,List.nodup_cons] at h;unfold jC;rw[List.filterMap_cons];split
  ·exact iZ h.2
  ·rename_i b hb;split at hb
   ·cases hb
   ·cases hb;rw[map_cons,List.nodup_cons];exact⟨λhm=>h.1 (x8 hm),iZ h.2⟩
theorem GL{U:Type}{l:List (List Nat×U)}{pos:List Nat}{j:Nat}{e:List Nat×U}(hn:(l.map (·.1)).Nodup)(he:l[j]?=some e)(hj:j∉pos):e.1∉(bU l pos).map (·.1):=by
 intro hm;obtain⟨e',he',h2⟩:=mem_map.1 hm;obtain⟨i,hi,h3⟩:=List.mem_filterMap.1 he'
 have h4:(l.map (·.1))[i]?=some e.1:=by rw[List.getElem?_map,h3];exact congrArg some h2
 have h5:(l.map (·.1))[j]?=some e.1:=by rw[List.getElem?_map,he];rfl
 exact hj ((List.getElem?_inj (bl h4) hn).1 (h4.trans h5.symm)▸hi)
def dN:Nat->jj->List (List Nat)->List (List Nat)
 | 0,_,_=>[]
 | n+1,r,ls=>if ls=[] then [] else ((r.filter λe=>ls.contains e.2).map (·.1))++dN n (r.filter λe=>!ls.contains e.2) ((r.filter λe=>ls.contains e.2).map (·.1))
def Mw(ps:List aG)(part:List Nat):jj:=lj part (jC ps (qL 0 [] ps))
def lr(ps:List aG)(part:List Nat):List (List Nat):=if dh part (qL 0 [] ps)=true then dG (dN (ps.length+2) (Mw ps part) [part]) else []
theorem m6:∀(n:Nat) {r r':jj} {ls ls':List (List Nat)},r.Perm r'->(∀x,ls.contains x=ls'.contains x)->(ls=[]↔ls'=[])->(dN n r ls).Perm (dN n r' ls')
 | 0,_,_,_,_,_,_,_=>Perm.refl _
 | n+1,r,r',ls,ls',h1,h2,h3=>by
  rw[dN,dN];by_cases h:ls=[]
  ·rw[if_pos h,if_pos (h3.1 h)]
  ·rw[if_neg h,if_neg (λe=>h (h3.2 e))];have e1:(λe:List Nat×List Nat=>ls.contains e.2)=λe=>ls'.contains e.2:=funext λe=>h2 _
   have e2:(λe:List Nat×List Nat=>!ls.contains e.2)=λe=>!ls'.contains e.2:=funext λe=>by rw[h2]
   rw[e1,e2];have p1:=(h1.filter λe=>ls'.contains e.2).map (·.1);have p2:=h1.filter λe=>!ls'.contains e.2;refine p1.append (m6 n p2 (λx=>?_) ⟨λe=>?_,λe=>?_⟩)
   ·rw[Bool.eq_iff_iff,List.contains_iff_mem,List.contains_iff_mem];exact p1.mem_iff
   ·rw[e] at p1;exact p1.nil_eq.symm
   ·rw[e] at p1;exact p1.eq_nil
def eG(l:List (List Nat)):SO:=if l=[] then .gone else .cells (l.flatMap (az ak))
theorem gG{l:List (List Nat)}(h:¬l=[]):eG l=.cells (l.flatMap (az ak)):=if_neg h
theorem iG:eG []=.gone:=rfl
theorem fp(o:Nat)(l:List (List Nat)):bP o (eG l)=eG l:=by
 unfold eG;split
 ·rfl
 ·rw[bP];congr 1;exact bK (aB (λ_=>rfl) l)
theorem ez(r:Nat->Nat)(l:List (List Nat)):nO r (eG l)=eG l:=by
 unfold eG;split
 ·rfl
 ·rw[My];congr 1;exact aZ (aB (λ_=>rfl) l)
theorem HU{S:List SO}{o:Nat}{l:jj}(s u:List Nat)(hS:S[o]?=some (bO AV.str ak l)):e7 Tryz.prog S 169 (.map o) (.a (.str s)) (.a (.str u))=some (S.set o (bO AV.str ak (dk s u l))):=
 EW (uv:=ak) (kt:=9) (et:=9) (by simp only[aw]) fa hS rfl u
theorem yv{S:List SO}{o:Nat}{l:jj}(s:List Nat)(hS:S[o]?=some (bO AV.str ak l)):JO Tryz.prog S 169 (.map o) (.a (.str s))=some (S.set o (bO AV.str ak (lj s l))):=
 PZ (uv:=ak) (k:=s) (kt:=9) (et:=9) (by simp only[aw]) fa hS rfl
theorem jy{n:Nat}{l:jj}:bP n (bO AV.str ak l)=bO AV.str ak l:=lH λ_=>ko _
end Go.Proofs
