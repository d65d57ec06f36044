/- Lemmas of this claim, each with its conditions. -/
import Derived.Test.YtchdmmkclcnmnaaGreatA25
import Derived.Test.YtchdmmkclcnmnaaGreatA19
import Derived.Test.YtchdmmkclcnmnaaGreatA17
set_option linter.all false
open List (mem_map Perm)
open Bool renaming and_eq_true -> aa
open List renaming any_eq_true -> ac, contains_iff_mem -> ad, any_eq_false -> af, getElem?_map -> aj, map_cons -> al, nodup_cons -> ap
namespace Go.Proofs
open Go.Ev
set_option maxRecDepth 100000
def Eo{l:List (aH)}(p:aH->Bool){fid:FuncId}{first cap:List SV}(hlen:l.length<=1000000)(hp:∀x∈l,PC Tryz.prog fid ((first++[.ag (ah x)])++cap) (·=az (p x)))(hg:cr first=true/\cr cap=true):PC Tryz.prog 133 [ak 14 l ah,.fn fid first cap] (·=ab (js p l)):=by
 refine pB 19 Tryz.func133 ?_;refine aC @ak.eq_1 ?_;refine zV ?_;refine zs ?_;refine zL l (λk=>∀(i:Nat) y,i<k->l[i]?=some y->p y=false) (λk=>[(0,.sl l.length 14 (l.flatMap ah)),(1,.fn fid first cap),(7,ab l.length),(8,ab k)]) (λk=>[]) zH zp ?_;intro k hk hall;refine zT l k ?_ ?_;rintro rfl;rotate_left;intro x hx hlt;rotate_left
 ·refine dZ ?_;refine zV ?_;exact zo [.tmp 4] (hq:=by rw[iC hall])
 ·refine eQ ?_;refine zV ?_;refine gG (n3 hlt (aG (e:=14) (enc:=ah) (λ_=>rfl) hx) @ah.eq_1) ?_;refine zK (hp x (List.mem_iff_getElem?.2 ⟨k,hx⟩)) ?_ (hwk:=((bp.refl hg.1).app (bp.refl rfl)).app (bp.refl hg.2));refine aI.nil ?_;change ar _ _ _ _ _;cases hpx:p x
  ·refine zN ?_;refine aC (zi hlt hlen) ?_;refine zX hlt zH ?_;intro i y hi hy;by_cases hik:i=k
   ·subst hik;rw[hx] at hy;cases hy;exact hpx
   ·exact hall i y (by omega) hy
  ·refine cL ?_;exact zo [.tmp 4] (hq:=by rw[lY hx hpx hall])
def Ea{l:List (aH)}(p:aH->Bool){fid:FuncId}{first cap:List SV}(hlen:l.length<=1000000)(hp:∀x∈l,PC Tryz.prog fid ((first++[.ag (ah x)])++cap) (·=az (p x)))(hg:cr first=true/\cr cap=true):PC Tryz.prog 90 [ak 14 l ah,.fn fid first cap] (·=az (l.any p)):=by
 refine pB 9 Tryz.func90 ?_;refine kD ?_;refine zK (Eo p hlen hp hg) ?_ (hwk:=.cons (Wk.sl _ _ _) (.cons (.fn (bp.refl hg.1) (bp.refl hg.2)) .nil));refine zR ?_;exact zo [.tmp 4] (hq:=by rw[xU])
def kH(r:List aH×Int):SV:=.bE [.ag [ak 14 r.1 ah],ab r.2]
def dw(k:Int):PC Tryz.prog 86 [ab k] (·=kH ([],k)):=by
 refine pB 6 Tryz.func86 ?_;refine lC ?_;exact iA [.cell 2 76,.tmp 3] (r:=.bE [.ag [.sl 0 14 []],ab k]) (hw:=zv)
def Bt(p:aH):PC Tryz.prog 85 [.ag (ah p)] (·=ae p.name):=by
 refine pB 5 Tryz.func85 ?_;refine aC @ah.eq_1 ?_;refine zV ?_;exact zo [.tmp 2]
def Bu(p:bO):PC Tryz.prog 94 [.ag (au p)] (·=ae p.key):=by
 refine pB 5 Tryz.func94 ?_;refine aC @au.eq_1 ?_;refine zV ?_;exact zo [.tmp 2]
def fY(ps:List aH)(hlen:ps.length<=100000)(ho:kS (ps.map aH.name)=true)(p:aH):PC Tryz.prog 83 [.ag (ah p),.ip [ak 14 ps ah]] (·=kH (Proofs.dg ps p,0)):=by
 refine pB 10 Tryz.func83 ?_;have hput:=EE ps hlen p (g:=85) (cap:=[]) rfl Bt ho;rw[dL] at hput ⊢;refine kD ?_;refine zK hput ?_ (hfl:=.inr (bp.refl rfl));refine zR ?_;exact iA [.cell 3 76,.tmp 4]
def Ha(e:bJ)(q:aH):PC Tryz.prog 92 [.ag (ah q),.ip (aF e)] (·=az (decide (q.bN=e.bN)&&decide (q.slot=e.slot))):=by
 refine pB 16 Tryz.func92 ?_;refine aC (n2 @ah.eq_1 @aF.eq_1) ?_;cases h:decide (q.bN=e.bN)
 ·refine aC h ?_;exact zo [.tmp 3]
 ·refine aC h ?_;exact zo [.tmp 3]
def Hc(p q:aH):PC Tryz.prog 95 [.ag (ah q),.ip (ah p)] (·=az (decide (q.bN=p.name))):=by
 refine pB 9 Tryz.func95 ?_;refine aC @ah.eq_1 ?_;refine zV ?_;exact zo [.tmp 3]
def uy(ps:List aH)(hlen:ps.length<=1000000)(d:aH->Bool){g:FuncId}{cap:List SV}(hcap:cr cap=true)(hp:∀q∈ps,PC Tryz.prog g ([.ag (ah q)]++cap) (·=az (d q))):PC Tryz.prog 89 [.fn g [] cap,.ip [ak 14 ps ah]] (·=az (ps.any d)):=by
 refine pB 8 Tryz.func89 ?_;have h:=Ea (l:=ps) d (fid:=g) (first:=[]) (cap:=cap) hlen hp ⟨rfl,hcap⟩;refine kD ?_;refine zK h ?_ (hwk:=bp.cons (Wk.sl _ _ _) (.cons (.fn .nil (bp.refl hcap)) .nil));refine zR ?_;exact zo [.tmp 3]
def ry(e:bJ):aH:=⟨e.part,e.kind,[],[],e.day,e.day,false,[],0,0,0,0,0,0⟩
def Cg(c:List aP)(ps:List aH)(e:bJ)(is:Bool):List aH×Int:=
 if is=true then ([],3) else if (eS c e.kind).isNone=true then ([],4) else if ((ps.length:Int)=20000) then ([],7) else (dg ps (ry e),0)
def A5(p:aH)(e:bJ):aH:={ p with bN:=e.bN,slot:=e.slot }
def Bd(p:aH):aH:={ p with bN:=[],slot:=[] }
def nY(p:aH)(e:bJ):aH:={ p with since:=dX p.since e.day,l1:=0,l2:=0,l3:=0,l4:=0,l5:=0,l6:=0 }
def r5(p:aH)(e:bJ):aH:={ p with props:=mf p.props ⟨e.key,e.value⟩ }
def rX(p:aH):aH:={ p with eI:=true }
def kC(c:List aP)(ps:List aH)(e:bJ)(p h:aH):List aH×Int:=
 let k:=(eS c p.kind).getD aP.zero
 if e.op=2 then (if (k.gn||!vV c h.kind e.slot p.kind)=true then ([],4) else if p.bN≠[] then ([],5) else
  if (ps.any λq=>decide (q.bN=e.bN)&&decide (q.slot=e.slot))=true then ([],6) else (dg ps (A5 p e),0))
 else if e.op=3 then (if p.bN=[] then ([],5) else (dg ps (Bd p),0))
 else if e.op=4 then (if k.gn=true then (dg ps p,0) else ([],4))
 else if e.op=5 then (dg ps (nY p e),0)
 else if e.op=6 then (if 60<((Proofs.mf p.props ⟨e.key,e.value⟩).length:Int) then ([],7) else (dg ps (r5 p e),0))
 else if e.op=7 then (if p.bN≠[] then ([],5) else if (ps.any λq=>decide (q.bN=p.name))=true then ([],5) else (dg ps (rX p),0))
 else (dg ps p,0)
def aV(c:List aP)(ps:List aH)(e:bJ):List aH×Int:=
 if lN c ps=true then (if gM e=true then
  (if e.op=1 then Cg c ps e (qv ps (rU 0 [] ps) e.part).isSome else
   match qv ps (rU 0 [] ps) e.part,(if e.op=2 then qv ps (rU 0 [] ps) e.bN else qv ps (rU 0 [] ps) e.part) with
   | some p,some h=>if (p.eI||h.eI)=true then ([],5) else kC c ps e p h
   | _,_=>([],2))
  else ([],1)) else ([],1)
def qH{c:List aP}{ps:List aH}{m:List (List Nat×Int)}:∀{taken:List (iL×Bool)} {l:List aH},gi c ps m taken l=true->∀p∈l,kT c p=true
 | _,[],_,p,hp=>by simp at hp
 | taken,q::r,h,p,hp=>by
  rw[gi,aa,aa] at h
  rcases List.mem_cons.1 hp with rfl | hp
  ·exact h.1
  ·cases hd:decide (q.bN=[]) with
   | true=>rw[hd,ai] at h;exact qH h.2.2 p hp
   | false=>rw[hd,an,aa] at h;exact qH h.2.2.2 p hp
def J1{c:List aP}{ps:List aH}(h:lN c ps=true){p:aH}(hp:p∈ps):p.props.length<=60/\kS (p.props.map bO.key)=true:=by
 unfold lN at h;simp only[aa] at h;have:=qH h.2.2.2 p hp;unfold kT at this;simp only[aa,Bool.not_eq_true',wp] at this;refine⟨by have:=this.2.2.2.2.2.1;omega,this.2.2.2.2.2.2.2.1⟩
set_option maxHeartbeats 40000000 in
def Av(c:List aP)(ps:List aH)(e:bJ)(hc:jD c)(hlen:ps.length<=100000)(hps:∀p∈ps,gR p)(he:p8 e):PC Tryz.prog 43 [.ag [ak 3 c ao],.ag [ak 14 ps ah],.ag (aF e)] (·=kH (aV c ps e)):=by
 have hlen1:ps.length<=1000000:=by omega
 have hct:∀k∈c,k.cm.length<=1000000/\∀s∈k.cm,s.kinds.length<=1000000:=λk hk=>⟨(hc.kind k hk).2,λs hs=>(hc.slot k hk s hs).2⟩;have hy:Sa ps (rU 0 [] ps):=Ib (by omega) (Lj ps);have hvE:=qU e he;refine pB 235 Tryz.func43 ?_;rw[dx] at hvE ⊢;refine kD ?_;refine zK (HK c ps hc hlen1 hps) ?_;cases h1:Proofs.lN c ps
 ·refine zR ?_;refine cL ?_;exact iA [.cell 6 76,.tmp 7] (r:=.bE [.ag [.sl 0 14 []],ab 1]) (hw:=zv) (hq:=by rw[show aV c ps e=([],1) by simp[aV,h1]];rfl)
 refine zQ ?_;refine zK hvE ?_;cases h2:gM e
 ·refine zR ?_;refine cL ?_;exact iA [.cell 6 76,.tmp 7] (r:=.bE [.ag [.sl 0 14 []],ab 1]) (hw:=zv) (hq:=by rw[show aV c ps e=([],1) by simp[aV,h1,h2]];rfl)
 refine zR ?_;refine zN ?_
 have ho:kS (ps.map aH.name)=true:=by
  unfold Proofs.lN at h1;simp only[aa] at h1;exact h1.2.2.1
 refine ar.fg (st':=⟨[(3,.ptr 0 0),(4,.ptr 1 0),(5,.ptr 2 0),(6,.ptr 3 0),(7,ab 0)],235,[.cells [ak 3 c ao],.cells [ak 14 ps ah],.cells [ab e.op,ab e.day,ae e.part,ae e.kind,ae e.bN,ae e.slot,ae e.key,ae e.value,ab e.u1,ab e.u2,ab e.u3,ab e.u4,ab e.u5,ab e.u6],.cells [.a (.slice none 0 0 (some 0))]],[]⟩) zH ?_;refine ar.fg (Fg.freeze (f':=[(3,.ip [ak 3 c ao]),(4,.ptr 1 0),(5,.ptr 2 0),(6,.ptr 3 0),(7,ab 0)]) 0 rfl (λh=>by cases h) (rK @ak.eq_1)) ?_;refine ar.fg (Fg.freeze (f':=[(3,.ip [ak 3 c ao]),(4,.ip [ak 14 ps ah]),(5,.ptr 2 0),(6,.ptr 3 0),(7,ab 0)]) 1 rfl (λh=>by cases h) (rK @ak.eq_1)) ?_;refine ar.fg (Fg.freeze (f':=[(3,.ip [ak 3 c ao]),(4,.ip [ak 14 ps ah]),(5,.ip [ab e.op,ab e.day,ae e.part,ae e.kind,ae e.bN,ae e.slot,ae e.key,ae e.value,ab e.u1,ab e.u2,ab e.u3,ab e.u4,ab e.u5,ab e.u6]),(6,.ptr 3 0),(7,ab 0)]) 2 rfl (λh=>by cases h) (rK @ak.eq_1)) ?_
 (try change ar _ _ _ _ _)
 refine zC ?_;refine zK (we ps hlen1) ?_ (hfl:=.inr (bp.refl rfl));generalize hM:rU 0 [] ps=M at hy;refine cM (n2 @HW.eq_1 hM) ?_;refine lC ?_;refine zC ?_;have hG:=pN ps M e.part hy
 cases hg:qv ps M e.part with
 | none=>
  rw[hg] at hG;refine zK hG ?_ (hfl:=.inr (bp.refl rfl));refine cM (n3 @oS.eq_1 @ah.eq_1 @aH.zero.eq_1) ?_;by_cases ho1:e.op=1
  ·refine aC (wd ho1) ?_;refine cL ?_;refine QS ?_;have hF:=nf c e.kind hc.len
   cases hf:eS c e.kind with
   | none=>
    rw[hf] at hF;refine zK hF ?_ (hfl:=.inr (bp.refl rfl));refine cM (n3 @oS.eq_1 @ao.eq_1 @aP.zero.eq_1) ?_;refine xd ?_;refine zC ?_;refine zK (dw _) ?_ (hfl:=.inr (bp.refl rfl));refine cM @ak.eq_1 ?_;exact iA [.cell 6 76,.tmp 7] (hq:=by rw[show aV c ps e=([],4) by simp[aV,Cg,h1,h2,hM,hg,ho1,hf]];rfl)
   | some k=>
    rw[hf] at hF;refine zK hF ?_ (hfl:=.inr (bp.refl rfl));refine cM (n2 @oS.eq_1 @ao.eq_1) ?_;refine H2 ?_;by_cases hl:(ps.length:Int)=20000
    ·refine aC (wd hl) ?_;refine zY ?_;refine zC ?_;refine zK (dw _) ?_ (hfl:=.inr (bp.refl rfl));refine cM @ak.eq_1 ?_;exact iA [.cell 6 76,.tmp 7] (hq:=by rw[show aV c ps e=([],7) by simp[aV,Cg,h1,h2,hM,hg,ho1,hf,hl]];rfl)
    ·refine aC (ut hl) ?_;refine zN ?_;have hnext:=fY ps hlen ho (ry e);simp only[dL,ry] at hnext;refine zC ?_;refine zK hnext ?_ (hfl:=.inr zw);refine cM (n2 @kH.eq_1 @ak.eq_1) ?_;exact iA [.cell 6 76,.tmp 7] (hq:=by rw[show aV c ps e=(Proofs.dg ps (ry e),0) by simp[aV,Cg,h1,h2,hM,hg,ho1,hf,hl]];rfl)
  by_cases ho2:e.op=2
  ·refine aC (ut ho1) ?_;refine iK ?_;refine aC (wd ho2) ?_;refine zY ?_;refine zC ?_;have hH:=pN ps M e.bN hy
   obtain⟨q,b,hq⟩:∃(q:aH) (b:Bool),oS ah aH.zero (qv ps M e.bN)=.bE [.ag (ah q),az b]:=by
    cases qv ps M e.bN with
    | none=>exact⟨aH.zero,false,rfl⟩
    | some q=>exact⟨q,true,rfl⟩
   rw[hq] at hH;refine zK hH ?_ (hfl:=.inr (bp.refl rfl));refine cM @ah.eq_1 ?_;refine xd ?_;refine zC ?_;refine zK (dw _) ?_ (hfl:=.inr (bp.refl rfl));refine cM @ak.eq_1 ?_;exact iA [.cell 6 76,.tmp 7] (hq:=by rw[show aV c ps e=([],2) by simp[aV,h1,h2,hM,hg,ho1,ho2]];rfl)
  ·refine aC (ut ho1) ?_;refine iK ?_;refine aC (ut ho2) ?_;refine iK ?_;refine zY ?_;refine zC ?_;refine zK (dw _) ?_ (hfl:=.inr (bp.refl rfl));refine cM @ak.eq_1 ?_;exact iA [.cell 6 76,.tmp 7] (hq:=by rw[show aV c ps e=([],2) by simp[aV,h1,h2,hM,hg,ho1,ho2]];rfl)
 | some p=>
  rw[hg] at hG;refine zK hG ?_ (hfl:=.inr (bp.refl rfl));refine cM (n2 @oS.eq_1 @ah.eq_1) ?_;by_cases ho1:e.op=1
  ·refine aC (wd ho1) ?_;refine cL ?_;refine zY ?_;refine zC ?_;refine zK (dw _) ?_ (hfl:=.inr (bp.refl rfl));refine cM @ak.eq_1 ?_;exact iA [.cell 6 76,.tmp 7] (hq:=by rw[show aV c ps e=([],3) by simp[aV,Cg,h1,h2,hM,hg,ho1]];rfl)
  refine ar.fg (st':=⟨[(3,.ip [ak 3 c ao]),(4,.ip [ak 14 ps ah]),(5,.ip [ab e.op,ab e.day,ae e.part,ae e.kind,ae e.bN,ae e.slot,ae e.key,ae e.value,ab e.u1,ab e.u2,ab e.u3,ab e.u4,ab e.u5,ab e.u6]),(6,.ptr 3 0),(7,ab 0),(8,.ptr 4 0),(9,.fn 83 [] [.ip [ak 14 ps ah]]),(10,.fn 86 [] []),(11,.ptr 5 0),(12,az true)],235,[.gone,.gone,.gone,.cells [.a (.slice none 0 0 (some 0))],.cells [ak 14 ps ah,nZ AV.str ab M],.cells [ae p.name,ae p.kind,ae p.bN,ae p.slot,ab p.made,ab p.since,az p.eI,ak 2 p.props au,ab p.l1,ab p.l2,ab p.l3,ab p.l4,ab p.l5,ab p.l6]],[]⟩) zH ?_
  (try change ar _ _ _ _ _)
  refine aC (ut ho1) ?_;refine iK ?_;by_cases ho2:e.op=2
  ·refine aC (wd ho2) ?_;refine zY ?_;refine zC ?_;have hH:=pN ps M e.bN hy
   cases hh:qv ps M e.bN with
   | none=>
    rw[hh] at hH;refine zK hH ?_ (hfl:=.inr (bp.refl rfl));refine cM (n3 @oS.eq_1 @ah.eq_1 @aH.zero.eq_1) ?_;refine xd ?_;refine zC ?_;refine zK (dw _) ?_ (hfl:=.inr (bp.refl rfl));refine cM @ak.eq_1 ?_;exact iA [.cell 6 76,.tmp 7] (hq:=by rw[show aV c ps e=([],2) by simp[aV,h1,h2,hM,hg,ho1,ho2,hh]];rfl)
   | some h=>
    rw[hh] at hH;refine zK hH ?_ (hfl:=.inr (bp.refl rfl));refine cM (n2 @oS.eq_1 @ah.eq_1) ?_;refine H2 ?_;cases f1:p.eI;rotate_left
    ·refine aC f1 ?_;refine zY ?_;refine zC ?_;refine zK (dw _) ?_ (hfl:=.inr (bp.refl rfl));refine cM @ak.eq_1 ?_;exact iA [.cell 6 76,.tmp 7] (hq:=by rw[show aV c ps e=([],5) by simp[aV,h1,h2,hM,hg,ho1,ho2,hh,f1]];rfl)
    cases f2:h.eI;rotate_left
    ·refine aC (n2 f1 f2) ?_;refine zY ?_;refine zC ?_;refine zK (dw _) ?_ (hfl:=.inr (bp.refl rfl));refine cM @ak.eq_1 ?_;exact iA [.cell 6 76,.tmp 7] (hq:=by rw[show aV c ps e=([],5) by simp[aV,h1,h2,hM,hg,ho1,ho2,hh,f1,f2]];rfl)
    refine aC (n2 f1 f2) ?_;refine iK ?_;refine zC ?_;have hF:=nf c p.kind hc.len
    obtain⟨kd,b,hq,hkd⟩:∃(kd:aP) (b:Bool),oS ao aP.zero (eS c p.kind)=.bE [.ag (ao kd),az b]/\(eS c p.kind).getD aP.zero=kd:=by
     cases eS c p.kind with
     | none=>exact⟨aP.zero,false,rfl,rfl⟩
     | some q=>exact⟨q,true,rfl,rfl⟩
    rw[hq] at hF;refine zK hF ?_ (hfl:=.inr (bp.refl rfl));refine cM @ao.eq_1 ?_;refine zV ?_;refine ar.fg (st':=⟨[(3,.ip [ak 3 c ao]),(4,.ip [ak 14 ps ah]),(5,.ip [ab e.op,ab e.day,ae e.part,ae e.kind,ae e.bN,ae e.slot,ae e.key,ae e.value,ab e.u1,ab e.u2,ab e.u3,ab e.u4,ab e.u5,ab e.u6]),(6,.ptr 3 0),(7,ab 0),(9,.fn 83 [] [.ip [ak 14 ps ah]]),(10,.fn 86 [] []),(11,.ptr 5 0),(15,.ptr 6 0),(17,.fn 89 [] [.ip [ak 14 ps ah]]),(18,.ptr 7 0),(123,ab e.op)],235,[.gone,.gone,.gone,.cells [.a (.slice none 0 0 (some 0))],.gone,.cells [ae p.name,ae p.kind,ae p.bN,ae p.slot,ab p.made,ab p.since,az false,ak 2 p.props au,ab p.l1,ab p.l2,ab p.l3,ab p.l4,ab p.l5,ab p.l6],.cells [ae h.name,ae h.kind,ae h.bN,ae h.slot,ab h.made,ab h.since,az false,ak 2 h.props au,ab h.l1,ab h.l2,ab h.l3,ab h.l4,ab h.l5,ab h.l6],.cells [ae kd.name,az kd.gn,ak 3 kd.cm bU]],[]⟩) (bL @ah.eq_1) ?_
    (try change ar _ _ _ _ _)
    refine zB ?_;refine aC (wd ho2) ?_;refine eQ ?_;cases g1:kd.gn;rotate_left
    ·refine aC g1 ?_;refine zY ?_;refine zC ?_;refine zK (dw _) ?_ (hfl:=.inr (bp.refl rfl));refine cM @ak.eq_1 ?_;exact iA [.cell 6 76,.tmp 7] (hq:=by rw[show aV c ps e=([],4) by simp[aV,h1,h2,hM,hg,ho1,ho2,hh,f1,f2,kC,hkd,g1]];rfl)
    refine gG g1 ?_;refine zK (w9 c h.kind e.slot p.kind hc.len hct) ?_;cases g2:Proofs.vV c h.kind e.slot p.kind
    ·refine zR ?_;refine zY ?_;refine zC ?_;refine zK (dw _) ?_ (hfl:=.inr (bp.refl rfl));refine cM @ak.eq_1 ?_;exact iA [.cell 6 76,.tmp 7] (hq:=by rw[show aV c ps e=([],4) by simp[aV,h1,h2,hM,hg,ho1,ho2,hh,f1,f2,kC,hkd,g1,g2]];rfl)
    refine zR ?_;refine zN ?_;by_cases g3:p.bN=[];rotate_left
    ·refine aC (ut g3) ?_;refine zY ?_;refine zC ?_;refine zK (dw _) ?_ (hfl:=.inr (bp.refl rfl));refine cM @ak.eq_1 ?_;exact iA [.cell 6 76,.tmp 7] (hq:=by rw[show aV c ps e=([],5) by simp[aV,h1,h2,hM,hg,ho1,ho2,hh,f1,f2,kC,hkd,g1,g2,g3]];rfl)
    refine aC (wd g3) ?_;refine QS ?_;have hho:=uy ps hlen1 (λq=>decide (q.bN=e.bN)&&decide (q.slot=e.slot)) (g:=92) (cap:=[.ip [ab e.op,ab e.day,ae e.part,ae e.kind,ae e.bN,ae e.slot,ae e.key,ae e.value,ab e.u1,ab e.u2,ab e.u3,ab e.u4,ab e.u5,ab e.u6]]) rfl (λq _=>by rw[<-dx];exact Ha e q);refine zK hho ?_;cases g4:ps.any λq=>decide (q.bN=e.bN)&&decide (q.slot=e.slot);rotate_left
    ·refine zR ?_;refine zY ?_;refine zC ?_;refine zK (dw _) ?_ (hfl:=.inr (bp.refl rfl));refine cM @ak.eq_1 ?_;exact iA [.cell 6 76,.tmp 7] (hq:=by rw[show aV c ps e=([],6) by simp[aV,h1,h2,hM,hg,ho1,ho2,hh,f1,f2,kC,hkd,g1,g2,g3,g4,-ac]];rfl)
    refine zR ?_;refine zN ?_
    (try change ar _ _ _ _ _)
    refine zs ?_;refine oz [0,1,0,4,3,19,63,127] ?_
    (repeat (first | refine SD.ri (by rfl) rfl (by rfl) rfl zl zl ?_ | refine SD.r (by rfl) rfl (by rfl) (by rfl) zl ?_ | refine SD.s (by rfl) rfl (by rfl) (by rfl) ?_ | fail))
    refine SD.e (by rfl) rfl (by rfl) rfl rfl (by rfl) zl ?_
    (repeat (first | refine SD.ri (by rfl) rfl (by rfl) rfl zl zl ?_ | refine SD.r (by rfl) rfl (by rfl) (by rfl) zl ?_ | refine SD.s (by rfl) rfl (by rfl) (by rfl) ?_ | fail))
    refine SD.e (by rfl) rfl (by rfl) rfl rfl (by rfl) zl ?_;refine zM ?_
    (try change ar _ _ _ _ _)
    obtain⟨R,hR⟩:∃R,R=Proofs.dg ps (A5 p e):=⟨_,rfl⟩;have hnext:=fY ps hlen ho (A5 p e);rw[<-hR] at hnext;simp only[dL,f1,A5,Bd,nY,r5,rX] at hnext;refine zC ?_;refine zK hnext ?_ (hfl:=.inr zw);refine cM (n2 @kH.eq_1 @ak.eq_1) ?_;exact iA [.cell 6 76,.tmp 7] (hq:=by rw[show aV c ps e=(R,0) by rw[hR];simp[aV,h1,h2,hM,hg,ho1,ho2,hh,f1,f2,kC,hkd,g1,g2,g3,g4,-ac,-af]];rfl)
  ·refine aC (ut ho2) ?_;refine iK ?_;refine zN ?_;cases f1:p.eI;rotate_left
   ·refine aC f1 ?_;refine zY ?_;refine zC ?_;refine zK (dw _) ?_ (hfl:=.inr (bp.refl rfl));refine cM @ak.eq_1 ?_;exact iA [.cell 6 76,.tmp 7] (hq:=by rw[show aV c ps e=([],5) by simp[aV,h1,h2,hM,hg,ho1,ho2,f1]];rfl)
   have f2:=f1;refine aC (n2 f1 f2) ?_;refine iK ?_;refine zC ?_;have hF:=nf c p.kind hc.len
   obtain⟨kd,b,hq,hkd⟩:∃(kd:aP) (b:Bool),oS ao aP.zero (eS c p.kind)=.bE [.ag (ao kd),az b]/\(eS c p.kind).getD aP.zero=kd:=by
    cases eS c p.kind with
    | none=>exact⟨aP.zero,false,rfl,rfl⟩
    | some q=>exact⟨q,true,rfl,rfl⟩
   rw[hq] at hF;refine zK hF ?_ (hfl:=.inr (bp.refl rfl));refine cM @ao.eq_1 ?_;refine zV ?_;refine ar.fg (st':=⟨[(3,.ip [ak 3 c ao]),(4,.ip [ak 14 ps ah]),(5,.ip [ab e.op,ab e.day,ae e.part,ae e.kind,ae e.bN,ae e.slot,ae e.key,ae e.value,ab e.u1,ab e.u2,ab e.u3,ab e.u4,ab e.u5,ab e.u6]),(6,.ptr 3 0),(7,ab 0),(9,.fn 83 [] [.ip [ak 14 ps ah]]),(10,.fn 86 [] []),(11,.ptr 5 0),(15,.ptr 6 0),(17,.fn 89 [] [.ip [ak 14 ps ah]]),(18,.ptr 7 0),(123,ab e.op)],235,[.gone,.gone,.gone,.cells [.a (.slice none 0 0 (some 0))],.gone,.cells [ae p.name,ae p.kind,ae p.bN,ae p.slot,ab p.made,ab p.since,az false,ak 2 p.props au,ab p.l1,ab p.l2,ab p.l3,ab p.l4,ab p.l5,ab p.l6],.cells [ae p.name,ae p.kind,ae p.bN,ae p.slot,ab p.made,ab p.since,az false,ak 2 p.props au,ab p.l1,ab p.l2,ab p.l3,ab p.l4,ab p.l5,ab p.l6],.cells [ae kd.name,az kd.gn,ak 3 kd.cm bU]],[]⟩) (bL @ah.eq_1) ?_
   (try change ar _ _ _ _ _)
   refine zB ?_;refine aC (ut ho2) ?_;refine zN ?_;by_cases ho3:e.op=3
   ·refine aC (wd ho3) ?_;refine zY ?_;by_cases g3:p.bN=[]
    ·refine aC (wd g3) ?_;refine zY ?_;refine zC ?_;refine zK (dw _) ?_ (hfl:=.inr (bp.refl rfl));refine cM @ak.eq_1 ?_;exact iA [.cell 6 76,.tmp 7] (hq:=by rw[show aV c ps e=([],5) by simp[aV,h1,h2,hM,hg,ho1,ho2,f1,kC,hkd,ho3,g3]];rfl)
    refine aC (ut g3) ?_;refine iK ?_
    (try change ar _ _ _ _ _)
    obtain⟨R,hR⟩:∃R,R=Proofs.dg ps (Bd p):=⟨_,rfl⟩;have hnext:=fY ps hlen ho (Bd p);rw[<-hR] at hnext;simp only[dL,f1,A5,Bd,nY,r5,rX] at hnext;refine zC ?_;refine zK hnext ?_ (hfl:=.inr zw);refine cM (n2 @kH.eq_1 @ak.eq_1) ?_;exact iA [.cell 6 76,.tmp 7] (hq:=by rw[show aV c ps e=(R,0) by rw[hR];simp[aV,h1,h2,hM,hg,ho1,ho2,f1,kC,hkd,ho3,g3]];rfl)
   refine aC (ut ho3) ?_;refine zN ?_;by_cases ho4:e.op=4
   ·refine aC (wd ho4) ?_;refine zY ?_;cases g1:kd.gn
    ·refine aC g1 ?_;refine zY ?_;refine zC ?_;refine zK (dw _) ?_ (hfl:=.inr (bp.refl rfl));refine cM @ak.eq_1 ?_;exact iA [.cell 6 76,.tmp 7] (hq:=by rw[show aV c ps e=([],4) by simp[aV,h1,h2,hM,hg,ho1,ho2,f1,kC,hkd,ho3,ho4,g1]];rfl)
    refine aC g1 ?_;refine zN ?_
    (try change ar _ _ _ _ _)
    obtain⟨R,hR⟩:∃R,R=Proofs.dg ps p:=⟨_,rfl⟩;have hnext:=fY ps hlen ho p;rw[<-hR] at hnext;simp only[dL,f1,A5,Bd,nY,r5,rX] at hnext;refine zC ?_;refine zK hnext ?_ (hfl:=.inr zw);refine cM (n2 @kH.eq_1 @ak.eq_1) ?_;exact iA [.cell 6 76,.tmp 7] (hq:=by rw[show aV c ps e=(R,0) by rw[hR];simp[aV,h1,h2,hM,hg,ho1,ho2,f1,kC,hkd,ho3,ho4,g1]];rfl)
   refine aC (ut ho4) ?_;refine zN ?_;by_cases ho5:e.op=5
   ·refine aC (wd ho5) ?_;refine zY ?_;refine aC @fw ?_
    (try change ar _ _ _ _ _)
    obtain⟨R,hR⟩:∃R,R=Proofs.dg ps (nY p e):=⟨_,rfl⟩;have hnext:=fY ps hlen ho (nY p e);rw[<-hR] at hnext;simp only[dL,f1,A5,Bd,nY,r5,rX] at hnext;refine zC ?_;refine zK hnext ?_ (hfl:=.inr zw);refine cM (n2 @kH.eq_1 @ak.eq_1) ?_;exact iA [.cell 6 76,.tmp 7] (hq:=by rw[show aV c ps e=(R,0) by rw[hR];simp[aV,h1,h2,hM,hg,ho1,ho2,f1,kC,hkd,ho3,ho4,ho5]];rfl)
   refine aC (ut ho5) ?_;refine zN ?_;by_cases ho6:e.op=6
   ·refine aC (wd ho6) ?_;refine zY ?_
    have hpp:p∈ps:=by
     unfold qv at hg;split at hg
     ·exact List.mem_of_getElem? hg
     ·cases hg
    have hpl:p.props.length<=60/\kS (p.props.map bO.key)=true:=J1 h1 hpp;have hput:=EF p.props (by omega) ⟨e.key,e.value⟩ (g:=94) (cap:=[]) rfl Bu hpl.2;rw[mF] at hput;refine zC ?_;refine zK hput ?_ (hfl:=.inr (bp.refl rfl));refine zR ?_;by_cases g3:60<((Proofs.mf p.props ⟨e.key,e.value⟩).length:Int)
    ·refine aC (wd g3) ?_;refine zY ?_;refine zC ?_;refine zK (dw _) ?_ (hfl:=.inr (bp.refl rfl));refine cM @ak.eq_1 ?_;exact iA [.cell 6 76,.tmp 7] (hq:=by rw[show aV c ps e=([],7) by simp[aV,h1,h2,hM,hg,ho1,ho2,f1,kC,hkd,ho3,ho4,ho5,ho6,g3]];rfl)
    refine aC (ut g3) ?_;refine zN ?_
    (try change ar _ _ _ _ _)
    obtain⟨R,hR⟩:∃R,R=Proofs.dg ps (r5 p e):=⟨_,rfl⟩;have hnext:=fY ps hlen ho (r5 p e);rw[<-hR] at hnext;simp only[dL,f1,A5,Bd,nY,r5,rX] at hnext;refine zC ?_;refine zK hnext ?_ (hfl:=.inr zw);refine cM (n2 @kH.eq_1 @ak.eq_1) ?_;exact iA [.cell 6 76,.tmp 7] (hq:=by rw[show aV c ps e=(R,0) by rw[hR];simp[aV,h1,h2,hM,hg,ho1,ho2,f1,kC,hkd,ho3,ho4,ho5,ho6,g3]];rfl)
   refine aC (ut ho6) ?_;refine zN ?_;by_cases ho7:e.op=7
   ·refine aC (wd ho7) ?_;refine zY ?_;by_cases g3:p.bN=[];rotate_left
    ·refine aC (ut g3) ?_;refine zY ?_;refine zC ?_;refine zK (dw _) ?_ (hfl:=.inr (bp.refl rfl));refine cM @ak.eq_1 ?_;exact iA [.cell 6 76,.tmp 7] (hq:=by rw[show aV c ps e=([],5) by simp[aV,h1,h2,hM,hg,ho1,ho2,f1,kC,hkd,ho3,ho4,ho5,ho6,ho7,g3]];rfl)
    refine gG (wd g3) ?_;have hho:=uy ps hlen1 (λq=>decide (q.bN=p.name)) (g:=95) (cap:=[.ip (ah p)]) rfl (λq _=>Hc p q);rw[dL,f1] at hho;refine zK hho ?_ (hwk:=zw);cases g4:ps.any λq=>decide (q.bN=p.name);rotate_left
    ·refine zR ?_;refine zY ?_;refine zC ?_;refine zK (dw _) ?_ (hfl:=.inr (bp.refl rfl));refine cM @ak.eq_1 ?_;exact iA [.cell 6 76,.tmp 7] (hq:=by rw[show aV c ps e=([],5) by simp[aV,h1,h2,hM,hg,ho1,ho2,f1,kC,hkd,ho3,ho4,ho5,ho6,ho7,g3,g4,-ac]];rfl)
    refine zR ?_;refine iK ?_
    (try change ar _ _ _ _ _)
    obtain⟨R,hR⟩:∃R,R=Proofs.dg ps (rX p):=⟨_,rfl⟩;have hnext:=fY ps hlen ho (rX p);rw[<-hR] at hnext;simp only[dL,f1,A5,Bd,nY,r5,rX] at hnext;refine zC ?_;refine zK hnext ?_ (hfl:=.inr zw);refine cM (n2 @kH.eq_1 @ak.eq_1) ?_;exact iA [.cell 6 76,.tmp 7] (hq:=by rw[show aV c ps e=(R,0) by rw[hR];simp[aV,h1,h2,hM,hg,ho1,ho2,f1,kC,hkd,ho3,ho4,ho5,ho6,ho7,g3,g4,-ac,-af]];rfl)
   refine aC (ut ho7) ?_;refine zN ?_
   (try change ar _ _ _ _ _)
   obtain⟨R,hR⟩:∃R,R=Proofs.dg ps p:=⟨_,rfl⟩;have hnext:=fY ps hlen ho p;rw[<-hR] at hnext;simp only[dL,f1,A5,Bd,nY,r5,rX] at hnext;refine zC ?_;refine zK hnext ?_ (hfl:=.inr zw);refine cM (n2 @kH.eq_1 @ak.eq_1) ?_;exact iA [.cell 6 76,.tmp 7] (hq:=by rw[show aV c ps e=(R,0) by rw[hR];simp[aV,h1,h2,hM,hg,ho1,ho2,f1,kC,hkd,ho3,ho4,ho5,ho6,ho7]];rfl)
def sN{a b:List (List Nat)}(h:a.Perm b):dM a=dM b:=by
 have h1:(dM a).Pairwise λa b=>y4 a b=true:=GW a;have h2:(dM b).Pairwise λa b=>y4 a b=true:=GW b;have hp:(dM a).Perm (dM b):=((qP a).trans h).trans (qP b).symm;exact Perm.eq_of_pairwise (λa b _ _ h1 h2=>F0 h1 h2) h1 h2 hp
def H4(ps:List aH)(m:List (List Nat×Int)):Prop:=(∀e∈m,∃(k:Nat) (x:aH),e.2=(k:Int)/\ps[k]?=some x/\x.name=e.1)/\(m.map (·.1)).Nodup
def tD{K U:Type}[DecidableEq K]{k:K}{l:List (K×U)}:dy k l=true↔k∈l.map (·.1):=by
 unfold dy;simp only[ac,wr,mem_map];exact⟨λ⟨e,h1,h2⟩=>⟨e,h1,h2.symm⟩,λ⟨e,h1,h2⟩=>⟨e,h1,h2.symm⟩⟩
def E6{ps:List aH}:∀{l:List aH} {i:Nat} {m:List (List Nat×Int)},ps.drop i=l->H4 ps m->H4 ps (rU i m l)
 | [],_,_,_,h=>h
 | p::r,i,m,hd,h=>by
  rw[rU]
  have hp:ps[i]?=some p:=by
   have:=congrArg (λl=>l[0]?) hd;simpa using this
  have hd2:ps.drop (i+1)=r:=by
   have:=congrArg (List.drop 1) hd;simpa using this
  refine E6 hd2 ?_
  cases hh:dy p.name m with
  | true=>exact h
  | false=>
   simp only[Bool.false_eq_true,if_false];rw[mS hh];refine⟨λe he=>?_,?_⟩
   ·rcases List.mem_append.1 he with he | he
    ·exact h.1 e he
    ·rw[List.mem_singleton.1 he];exact⟨i,p,rfl,hp,rfl⟩
   ·rw[List.map_append,List.nodup_append];refine⟨h.2,by simp,λa ha b hb=>?_⟩;simp only[al,List.map_nil,List.mem_singleton] at hb;subst hb;intro e;subst e;rw[tD.2 ha] at hh;cases hh
def Dm(ps:List aH)(i:Int):List Nat:=match ps[i.toNat]? with
 | some p=>p.bN
 | none=>[]
abbrev jF:=List (List Nat×List Nat)
def ku(ps:List aH)(hd:List (List Nat×Int)):jF:=hd.filterMap λe=>if Dm ps e.2=[] then none else some (e.1,Dm ps e.2)
def Ab{ps:List aH}{hd:List (List Nat×Int)}{k:List Nat}(h:k∈(ku ps hd).map (·.1)):k∈hd.map (·.1):=by
 obtain⟨e,he,rfl⟩:=mem_map.1 h;obtain⟨e',he',h2⟩:=List.mem_filterMap.1 he;split at h2
 ·cases h2
 ·cases h2;exact List.mem_map_of_mem he'
def jz{ps:List aH}:∀{hd:List (List Nat×Int)},(hd.map (·.1)).Nodup->((ku ps hd).map (·.1)).Nodup
 | [],_=>List.nodup_nil
 | e::hd,h=>by
  rw[al,ap] at h;unfold ku;rw[List.filterMap_cons];split
  ·exact jz h.2
  ·rename_i b hb;split at hb
   ·cases hb
   ·cases hb;rw[al,ap];exact⟨λhm=>h.1 (Ab hm),jz h.2⟩
def Iu{U:Type}{l:List (List Nat×U)}{pos:List Nat}{j:Nat}{e:List Nat×U}(hn:(l.map (·.1)).Nodup)(he:l[j]?=some e)(hj:j∉pos):e.1∉(bq l pos).map (·.1):=by
 intro hm;obtain⟨e',he',h2⟩:=mem_map.1 hm;obtain⟨i,hi,h3⟩:=List.mem_filterMap.1 he'
 have h4:(l.map (·.1))[i]?=some e.1:=by rw[aj,h3];exact congrArg some h2
 have h5:(l.map (·.1))[j]?=some e.1:=by rw[aj,he];rfl
 exact hj ((List.getElem?_inj (bD h4) hn).1 (h4.trans h5.symm)▸hi)
def dT:Nat->jF->List (List Nat)->List (List Nat)
 | 0,_,_=>[]
 | n+1,r,ls=>if ls=[] then [] else ((r.filter λe=>ls.contains e.2).map (·.1))++dT n (r.filter λe=>!ls.contains e.2) ((r.filter λe=>ls.contains e.2).map (·.1))
def OQ(ps:List aH)(part:List Nat):jF:=lV part (ku ps (rU 0 [] ps))
def lZ(ps:List aH)(part:List Nat):List (List Nat):=if dy part (rU 0 [] ps)=true then dM (dT (ps.length+2) (OQ ps part) [part]) else []
def oa:∀(n:Nat) {r r':jF} {ls ls':List (List Nat)},r.Perm r'->(∀x,ls.contains x=ls'.contains x)->(ls=[]↔ls'=[])->(dT n r ls).Perm (dT n r' ls')
 | 0,_,_,_,_,_,_,_=>Perm.refl _
 | n+1,r,r',ls,ls',h1,h2,h3=>by
  rw[dT,dT];by_cases h:ls=[]
  ·rw[ul h,ul (h3.1 h)]
  ·rw[un h,un (λe=>h (h3.2 e))];have e1:(λe:List Nat×List Nat=>ls.contains e.2)=λe=>ls'.contains e.2:=funext λe=>h2 _
   have e2:(λe:List Nat×List Nat=>!ls.contains e.2)=λe=>!ls'.contains e.2:=funext λe=>by rw[h2]
   rw[e1,e2];have p1:=(h1.filter λe=>ls'.contains e.2).map (·.1);have p2:=h1.filter λe=>!ls'.contains e.2;refine p1.append (oa n p2 (λx=>?_) ⟨λe=>?_,λe=>?_⟩)
   ·rw[Bool.eq_iff_iff,ad,ad];exact p1.mem_iff
   ·rw[e] at p1;exact p1.nil_eq.symm
   ·rw[e] at p1;exact p1.eq_nil
def e8(l:List (List Nat)):SO:=if l=[] then .gone else .cells (l.flatMap (aA ae))
def ig{l:List (List Nat)}(h:¬l=[]):e8 l=.cells (l.flatMap (aA ae)):=un h
def j6:e8 []=.gone:=rfl
def fN(o:Nat)(l:List (List Nat)):bQ o (e8 l)=e8 l:=by
 unfold e8;split
 ·rfl
 ·rw[bQ];congr 1;exact bI (aB (λ_=>rfl) l)
def eM(r:Nat->Nat)(l:List (List Nat)):nk r (e8 l)=e8 l:=by
 unfold e8;split
 ·rfl
 ·rw[OT];congr 1;exact aY (aB (λ_=>rfl) l)
def JK{S:List SO}{o:Nat}{l:jF}(s u:List Nat)(hS:S[o]?=some (bz AV.str ae l)):fv Tryz.prog S 177 (.map o) (.a (.str s)) (.a (.str u))=some (S.set o (bz AV.str ae (cw s u l))):=
 GG (uv:=ae) (kt:=9) (et:=9) (by simp only[aw]) fz hS rfl u
def Ay{S:List SO}{o:Nat}{l:jF}(s:List Nat)(hS:S[o]?=some (bz AV.str ae l)):LA Tryz.prog S 177 (.map o) (.a (.str s))=some (S.set o (bz AV.str ae (lV s l))):=
 Sy (uv:=ae) (k:=s) (kt:=9) (et:=9) (by simp only[aw]) fz hS rfl
def jU{n:Nat}{l:jF}:bQ n (bz AV.str ae l)=bz AV.str ae l:=kM λ_=>jo _
end Go.Proofs
