/- Lemmas of this claim, each with its conditions. -/
import Derived.Test.YtchdmmkclcnmnaaGreatA20
import Derived.Test.YtchdmmkclcnmnaaGreatA19
import Derived.Test.YtchdmmkclcnmnaaGreatA15
import Derived.Test.YtchdmmkclcnmnaaGreatA9
import Derived.Shelf.Bits.Mul64
set_option linter.all false
open List (length_cons length_nil take_zero length_append)
open Nat renaming reduceEqDiff -> aa, reduceLeDiff -> ac, reduceAdd -> ad, reduceSub -> af, reduceLT -> aj, reduceMul -> al, zero_le -> a3, zero_lt_succ -> a8
open Option renaming bind_some -> ap, map_some -> ay
open List renaming getElem?_eq_getElem -> ax, flatten_nil -> aS, take_length -> a0, drop_length -> a4, replicate -> a5, flatMap_cons -> a6, take_add_one -> a7
open And renaming intro -> aR
open Bool renaming and_eq_true -> a9
namespace Go.Proofs
open Go.Ev
set_option maxRecDepth 100000
def Hp{S:List SO}{o:Nat}{l:List (List Nat×Int)}(s:List Nat)(ok:Bool)(hS:S[o]?=some (bz AV.str ab l)):dW Tryz.prog S 100 (.map o) (.a (.str s)) ok=some (cond ok (.bE [ab (getM 0 s l),az (dy s l)]) (ab (getM 0 s l))):=
 Ce (uv:=ab) (u0:=0) (k:=s) (kt:=9) (et:=3) (z:=.int .i64 0) (by simp only[aw]) fz (by simp only[aw]) rfl hS rfl ok
def JI{S:List SO}{o:Nat}{l:List (List Nat×Int)}(s:List Nat)(u:Int)(hS:S[o]?=some (bz AV.str ab l)):fv Tryz.prog S 100 (.map o) (.a (.str s)) (.a (.int .i64 u))=some (S.set o (bz AV.str ab (cw s u l))):=
 GG (uv:=ab) (kt:=9) (et:=3) (by simp only[aw]) fz hS rfl u
def wV{S:List SO}{l:List (List Nat×Int)}(s:List Nat)(ok:Bool):dW Tryz.prog S 100 (nZ AV.str ab l) (.a (.str s)) ok=some (cond ok (.bE [ab (getM 0 s l),az (dy s l)]) (ab (getM 0 s l))):=
 Ob (uv:=ab) (u0:=0) (k:=s) (kt:=9) (et:=3) (z:=.int .i64 0) (by simp only[aw]) fz (by simp only[aw]) rfl rfl ok
def rU:Nat->List (List Nat×Int)->List aH->List (List Nat×Int)
 | _,m,[]=>m
 | i,m,p::ps=>rU (i+1) (if dy p.name m=true then m else cw p.name i m) ps
def HW(ps:List aH):SV:=.ag [ak 14 ps ah,nZ AV.str ab (rU 0 [] ps)]
set_option maxHeartbeats 1000000 in
def we(ps:List aH)(hlen:ps.length<=1000000):PC Tryz.prog 82 [.ag [ak 14 ps ah]] (·=HW ps):=by
 refine pB 37 Tryz.func82 ?_;refine lC ?_;refine zV ?_;refine zs ?_;refine MX ps (λk (m0:List (List Nat×Int))=>rU 0 [] ps=rU k m0 (ps.drop k)) (λk m0=>[(2,.ptr 1 0),(3,.ptr 3 0),(13,ak 14 ps ah),(14,ab ps.length),(15,ab k)]) (λk m0=>[.gone,.cells [.a (.slice none 0 0 (some 0)),.a (.map none)],bz AV.str ab m0,.cells [ak 14 ps ah,.map 2]]) ([]) zH (by rfl) ?_;intro k m0 hk hall;refine zT ps k ?_ ?_;rintro rfl;rotate_left;intro x hx hlt;rotate_left
 ·refine dZ ?_;refine zV ?_;exact zo [.cell 2 159] (r:=.ag [ak 14 ps ah,nZ AV.str ab m0]) (hw:=Wk.ag (.cons (.sl _ _ _) (.cons (nU (λ_=>rfl) rfl) .nil))) (hq:=by rw[HW,hall,a4];rfl)
 rw[ft hx] at hall;refine eQ ?_;refine aC (n4 hlt (aG (e:=14) (enc:=ah) (λ_=>rfl) hx) @ah.eq_1 @RE) ?_;refine zs ?_;refine ar.r0 (by rfl) (by simp only[bP,bg,ak,aw,ap,ay,↓reduceIte,aa,ad,al,ac,aj,ai,an,aU,Hp (l:=m0)];first | done | rfl) ?_;refine zV ?_;cases h1:dy x.name m0
 ·refine zY ?_;refine zs ?_;refine ar.r0 (by rfl) (by simp only[bP,bg,ak,aw,ap,ay,↓reduceIte,aa,ad,al,ac,aj,ai,an,aU,JI (l:=m0)];first | done | rfl) ?_;refine aC (zi hlt hlen) ?_;refine H3 hlt (cw x.name (k:Int) m0) zH (show rU 0 [] ps=rU (k+1) (cw x.name (k:Int) m0) (ps.drop (k+1)) by rw[hall,rU,h1];rfl)
 ·refine zN ?_;refine aC (zi hlt hlen) ?_;refine H3 hlt (m0) zH (show rU 0 [] ps=rU (k+1) m0 (ps.drop (k+1)) by rw[hall,rU,ul h1])
def qv(ps:List aH)(m:List (List Nat×Int))(name:List Nat):Option aH:=if dy name m=true then ps[(getM 0 name m).toNat]? else none
def Sa(ps:List aH)(m:List (List Nat×Int)):Prop:=∀name,dy name m=true->∃k:Nat,getM 0 name m=(k:Int)/\k<ps.length
def pN(ps:List aH)(m:List (List Nat×Int))(name:List Nat)(hm:Sa ps m):PC Tryz.prog 87 [.ag [ak 14 ps ah,nZ AV.str ab m],ae name] (·=oS ah aH.zero (qv ps m name)):=by
 refine pB 23 Tryz.func87 ?_;refine zV ?_;refine aC @wV ?_;refine zV ?_;cases h1:dy name m
 ·refine cL ?_;exact iA [.cell 4 73,.tmp 5] (r:=.bE [.ag [ae [],ae [],ae [],ae [],ab 0,ab 0,az false,.sl 0 2 [],ab 0,ab 0,ab 0,ab 0,ab 0,ab 0],az false]) (hw:=zv) (hq:=by rw[qv,h1];rfl)
 obtain⟨k,hk,hlt⟩:=hm name h1;obtain⟨x,hx⟩:∃x,ps[k]?=some x:=⟨ps[k],ax hlt⟩;refine zN ?_;refine aC (n4 hk hlt (aG (e:=14) (enc:=ah) (λ_=>rfl) hx) @ah.eq_1) ?_;exact iA [.cell 4 73,.tmp 5] (hq:=by rw[qv,ul h1,hk,Int.toNat_natCast,hx];rfl)
def Ib:∀{ps l:List aH} {i:Nat} {m:List (List Nat×Int)},i+ps.length=l.length->Sa l m->Sa l (rU i m ps)
 | [],_,_,_,_,h=>h
 | p::ps,l,i,m,hl,h=>by
  rw[rU];refine Ib (by rw[length_cons] at hl;omega) ?_;split
  ·exact h
  ·intro name hn;by_cases e:name=p.name
   ·subst e;exact⟨i,by rw[ja,ul rfl],by rw[length_cons] at hl;omega⟩
   ·rw[yO,ut e,Bool.false_or] at hn;rw[ja,un e];exact h name hn
def xh(a b:Int):Bool:=decide (0<=a)&&(decide (a<=b)&&decide (b<=1000000000000))
def qI(x:bO):Bool:=cD x.key&&(!(decide (x.value=[]))&&decide ((x.value.length:Int)<=200))
def Au(a b:Int):PC Tryz.prog 181 [.ag [ab a,ab b]] (·=az (xh a b)):=by
 refine pB 18 Tryz.func181 ?_;refine zV ?_;cases h1:decide (0<=a)
 ·refine aC h1 ?_;exact zo [.tmp 2] (hq:=by rw[xh,h1];rfl)
 cases h2:decide (a<=b)
 ·refine aC (n2 h1 h2) ?_;exact zo [.tmp 2] (hq:=by rw[xh,h1,h2];rfl)
 ·refine aC (n2 h1 h2) ?_;exact zo [.tmp 2] (hq:=by rw[xh,h1,h2];rfl)
def MR(x:bO)(hx:jw x.key):PC Tryz.prog 182 [.ag (au x)] (·=az (qI x)):=by
 refine pB 17 Tryz.func182 ?_;refine aC @au.eq_1 ?_;refine zC ?_;refine zK (fj x.key hx) ?_;cases h1:cD x.key
 ·refine zR ?_;exact zo [.tmp 2] (hq:=by rw[qI,h1];rfl)
 cases h2:decide (x.value=[]);rotate_left
 ·refine cM h2 ?_;exact zo [.tmp 2] (hq:=by rw[qI,h1,h2];rfl)
 ·refine cM h2 ?_;exact zo [.tmp 2] (hq:=by rw[qI,h1,h2];rfl)
structure gR (p:aH):Prop where
 name:jw p.name
 kind:jw p.kind
 bN:jw p.bN
 slot:jw p.slot
 len:p.props.length<=1000000
 prop:∀x∈p.props,jw x.key/\jw x.value
def kT(c:List aP)(p:aH):Bool:=(eS c p.kind).isSome&&(cD p.name&&(!(decide (p.made<0))&&(!(decide (p.since<p.made))&&(!(decide (40000<p.since))&&(!(decide (60<(p.props.length:Int)))&&(p.props.all qI&&(kS (p.props.map bO.key)&&(xh p.l1 p.l2&&(xh p.l3 p.l4&&xh p.l5 p.l6)))))))))
def Nd{α:Type}{p:α->Bool}{l:List α}{k:Nat}{x:α}(h:l[k]?=some x):(l.drop k).all p=(p x&&(l.drop (k+1)).all p):=by rw[ft h,List.all_cons]
set_option maxHeartbeats 2000000 in
def JL(c:List aP)(p:aH)(hc:c.length<=1000000)(hp:gR p):PC Tryz.prog 126 [.ag [ak 3 c ao],.ag (ah p)] (·=az (kT c p)):=by
 have hlen:=hp.len;refine pB 85 Tryz.func126 ?_
 obtain⟨q,b,h1,hb⟩:∃(q:aP) (b:Bool),oS ao aP.zero (eS c p.kind)=.bE [.ag (ao q),az b]/\(eS c p.kind).isSome=b:=by
  cases hf:eS c p.kind with
  | none=>exact⟨aP.zero,false,rfl,rfl⟩
  | some q=>exact⟨q,true,rfl,rfl⟩
 have hF:=nf c p.kind hc;rw[h1] at hF;refine aC @ah.eq_1 ?_;refine lC ?_;refine zC ?_;refine zK hF ?_ (hfl:=.inr (bp.refl rfl));refine cM @ao.eq_1 ?_;cases b
 ·refine xd ?_;refine zV ?_;exact zo [.tmp 4] (hq:=by rw[kT,hb];rfl)
 refine zC ?_;refine zK (fj p.name hp.name) ?_;cases h2:cD p.name
 ·refine zR ?_;refine cL ?_;exact zo [.tmp 4] (hq:=by rw[kT,hb,h2];rfl)
 cases h3:decide (p.made<0);rotate_left
 ·refine cM h3 ?_;refine cL ?_;exact zo [.tmp 4] (hq:=by rw[kT,hb,h2,h3];rfl)
 cases h4:decide (p.since<p.made);rotate_left
 ·refine cM (n2 h3 h4) ?_;refine cL ?_;exact zo [.tmp 4] (hq:=by rw[kT,hb,h2,h3,h4];rfl)
 cases h5:decide (40000<p.since);rotate_left
 ·refine cM (n3 h3 h4 h5) ?_;refine cL ?_;exact zo [.tmp 4] (hq:=by rw[kT,hb,h2,h3,h4,h5];rfl)
 cases h6:decide (60<(p.props.length:Int));rotate_left
 ·refine cM (n4 h3 h4 h5 h6) ?_;refine cL ?_;exact zo [.tmp 4] (hq:=by rw[kT,hb,h2,h3,h4,h5,h6];rfl)
 refine cM (n4 h3 h4 h5 h6) ?_;refine zN ?_
 have hv:kT c p=(p.props.all qI&&(kS (p.props.map bO.key)&&(xh p.l1 p.l2&&(xh p.l3 p.l4&&xh p.l5 p.l6)))):=by rw[kT,hb,h2,h3,h4,h5,h6];rfl
 refine zV ?_;refine zs ?_;refine zL p.props (λk=>p.props.all qI=(p.props.drop k).all qI) (λk=>[(3,.ptr 1 0),(5,.fn 181 [] []),(6,.fn 182 [] []),(50,ak 2 p.props au),(51,ab p.props.length),(52,ab k)]) (λk=>[.gone,.cells (ah p)]) (bL @ah.eq_1) (by rfl) ?_;intro k hk hall;refine zT p.props k ?_ ?_;rintro rfl;rotate_left;intro x hx hlt;rotate_left
 ·refine dZ ?_;rw[a4] at hall;refine gG @ah.eq_1 ?_;refine zK (EB p.props hlen) ?_;cases g1:kS (p.props.map bO.key)
  ·refine zR ?_;exact zo [.tmp 4] (hq:=by rw[hv,hall,g1];rfl)
  refine zQ ?_;refine zK (Au p.l1 p.l2) ?_;cases g2:xh p.l1 p.l2
  ·refine zR ?_;exact zo [.tmp 4] (hq:=by rw[hv,hall,g1,g2];rfl)
  refine zQ ?_;refine zK (Au p.l3 p.l4) ?_;cases g3:xh p.l3 p.l4
  ·refine zR ?_;exact zo [.tmp 4] (hq:=by rw[hv,hall,g1,g2,g3];rfl)
  refine zQ ?_;refine zK (Au p.l5 p.l6) ?_;refine zR ?_;exact zo [.tmp 4] (hq:=by rw[hv,hall,g1,g2,g3];rfl)
 rw[Nd hx] at hall;refine eQ ?_;refine aC (n4 hlt (aG (e:=2) (enc:=au) (λ_=>rfl) hx) @au.eq_1 @ah.eq_1) ?_;refine zC ?_;refine zK (MR x (hp.prop x (List.mem_iff_getElem?.2 ⟨k,hx⟩)).1) ?_;cases g1:qI x
 ·refine zR ?_;refine cL ?_;exact zo [.tmp 4] (hq:=by rw[hv,hall,g1];rfl)
 ·refine zR ?_;refine zN ?_;refine aC (zi hlt hlen) ?_;refine zX hlt (bL @ah.eq_1) (show p.props.all qI=(p.props.drop (k+1)).all qI by rw[hall,g1];rfl)
structure iL where
 bN:List Nat
 slot:List Nat
 deriving DecidableEq
def iL.av(s:iL):List AV:=[.str s.bN,.str s.slot]
def Ah(s:iL):AV:=.agg s.av
def iL.eq(a b:iL):gT gd a.av b.av=decide (a=b):=by
 obtain⟨a1,a2⟩:=a;obtain⟨b1,b2⟩:=b;simp only[iL.av,gT,gd,mG,Bool.and_true,iL.mk.injEq,Bool.decide_and]
def AL:Keys Tryz.prog 224 Ah:=
 vu (ks:=[.s,.s]) (by kernel_rfl) (by simp only[aw,ay]) (λ_=>rfl) iL.eq λ_=>rfl
def se{S:List SO}{o:Nat}{l:List (iL×Bool)}(a b:List Nat)(ok:Bool)(hS:S[o]?=some (bz Ah az l)):dW Tryz.prog S 221 (.map o) (.ag [ae a,ae b]) ok=some (cond ok (.bE [az (getM false (⟨a,b⟩:iL) l),az (dy (⟨a,b⟩:iL) l)]) (az (getM false (⟨a,b⟩:iL) l))):=
 Ce (uv:=az) (u0:=false) (k:=(⟨a,b⟩:iL)) (kt:=224) (et:=4) (z:=.bool false) (by simp only[aw]) AL (by simp only[aw]) rfl hS rfl ok
def EG{S:List SO}{o:Nat}{l:List (iL×Bool)}(a b:List Nat)(u:Bool)(hS:S[o]?=some (bz Ah az l)):fv Tryz.prog S 221 (.map o) (.ag [ae a,ae b]) (.a (.bool u))=some (S.set o (bz Ah az (cw (⟨a,b⟩:iL) u l))):=
 GG (uv:=az) (k:=(⟨a,b⟩:iL)) (kt:=224) (et:=4) (by simp only[aw]) AL hS rfl u
def oM{n:Nat}{l:List (iL×Bool)}:bQ n (bz Ah az l)=bz Ah az l:=kM λ_=>jo _
def CM(a b:Bool):cS Tryz.prog .neq 4 (.bool a) (.bool b)=some (.bool (!(a==b))):=by
 have h1:Tryz.prog.eqGuardType Tryz.prog.depth 4=false:=by kernel_rfl
 have h2:Tryz.prog.underlying 4=some .bool:=by kernel_rfl
 have h3:lA Tryz.prog 8 4 (.bool a) (.bool b)=some (a==b):=by unfold lA;rw[h2]
 show cond (Tryz.prog.eqGuardType Tryz.prog.depth 4) none ((lA Tryz.prog 8 4 (.bool a) (.bool b)).map λb=>AV.bool (!b))=_;rw[h1,an,h3];rfl
def wy(c:List aP)(taken:List (iL×Bool))(p:aH):Option aH->Bool
 | some h=>!(p.eI||(h.eI||(getM false ⟨p.bN,p.slot⟩ taken||!vV c h.kind p.slot p.kind)))
 | none=>false
def gi(c:List aP)(ps:List aH)(m:List (List Nat×Int)):List (iL×Bool)->List aH->Bool
 | _,[]=>true
 | taken,p::r=>kT c p&&((decide (p.bN=[])==decide (p.slot=[]))&&cond (decide (p.bN=[])) (gi c ps m taken r) (wy c taken p (qv ps m p.bN)&&gi c ps m (cw ⟨p.bN,p.slot⟩ true taken) r))
def lN(c:List aP)(ps:List aH):Bool:=lT c&&(!(decide (20000<(ps.length:Int)))&&(kS (ps.map aH.name)&&gi c ps (rU 0 [] ps) [] ps))
def Lj(ps:List aH):Sa ps []:=λname h=>by cases h
set_option maxHeartbeats 2000000 in
def HK(c:List aP)(ps:List aH)(hc:jD c)(hlen:ps.length<=1000000)(hps:∀p∈ps,gR p):PC Tryz.prog 81 [.ag [ak 3 c ao],.ag [ak 14 ps ah]] (·=az (Proofs.lN c ps)):=by
 have hct:∀k∈c,k.cm.length<=1000000/\∀s∈k.cm,s.kinds.length<=1000000:=λk hk=>⟨(hc.kind k hk).2,λs hs=>(hc.slot k hk s hs).2⟩;have hy:Sa ps (rU 0 [] ps):=Ib (by omega) (Lj ps);refine pB 94 Tryz.func81 ?_;refine kD ?_;refine zK (nQ c hc) ?_;cases h1:lT c
 ·refine zR ?_;refine cL ?_;exact zo [.tmp 4] (hq:=by rw[Proofs.lN,h1];rfl)
 cases h2:decide (20000<(ps.length:Int));rotate_left
 ·refine cM h2 ?_;refine cL ?_;exact zo [.tmp 4] (hq:=by rw[Proofs.lN,h1,h2];rfl)
 refine QT h2 ?_;refine zK (EA ps hlen) ?_;cases h3:kS (ps.map aH.name)
 ·refine zR ?_;refine cL ?_;exact zo [.tmp 4] (hq:=by rw[Proofs.lN,h1,h2,h3];rfl)
 refine zR ?_;refine zN ?_
 have hv:Proofs.lN c ps=gi c ps (rU 0 [] ps) [] ps:=by rw[Proofs.lN,h1,h2,h3];rfl
 clear h1 h2 h3;refine zC ?_;refine zK (we ps hlen) ?_ (hfl:=.inr (bp.refl rfl));generalize hM:rU 0 [] ps=M at hv hy;refine cM (n2 @HW.eq_1 hM) ?_;refine lC ?_;refine zs ?_;refine MX ps (λk (taken:List (iL×Bool))=>gi c ps M [] ps=gi c ps M taken (ps.drop k)) (λk taken=>[(2,.ptr 0 0),(5,.ptr 2 0),(6,.map 3),(31,ak 14 ps ah),(32,ab ps.length),(33,ab k)]) (λk taken=>[.cells [ak 3 c ao],.gone,.cells [ak 14 ps ah,nZ AV.str ab M],bz Ah az taken]) ([]) zH (by rfl) ?_;intro k taken hk hall;refine zT ps k ?_ ?_;rintro rfl;rotate_left;intro p hx hlt;rotate_left
 ·refine dZ ?_;refine zV ?_;exact zo [.tmp 4] (hq:=by rw[hv,hall,a4];rfl)
 have no:gi c ps M taken (ps.drop k)=false->Proofs.lN c ps=false:=λh=>by rw[hv,hall,h]
 rw[ft hx] at no hall;have hp:=hps p (List.mem_iff_getElem?.2 ⟨k,hx⟩);refine eQ ?_;refine aC (n4 hlt (aG (e:=14) (enc:=ah) (λ_=>rfl) hx) @ah.eq_1 @oM) ?_;refine zC ?_;refine zK (JL c p hc.len hp) ?_;cases g1:kT c p
 ·refine zR ?_;refine cL ?_;exact zo [.tmp 4] (hq:=by rw[no (by simp[gi,g1])])
 cases g2:(decide (p.bN=[])==decide (p.slot=[]))
 ·refine cM (n2 @CM g2) ?_;refine cL ?_;exact zo [.tmp 4] (hq:=by rw[no (by simp only[gi,g1,g2,Bool.true_and,Bool.false_and])])
 refine cM (n2 @CM g2) ?_;refine iK ?_;cases g3:decide (p.bN=[]);rotate_left
 ·refine zY ?_;refine ar.exit ?_
  (try change ar _ _ _ _ _)
  refine aC (zi hlt hlen) ?_;refine H3 hlt (taken) zH (show gi c ps M [] ps=gi c ps M taken (ps.drop (k+1)) by rw[hall,gi,g1,g2,g3];rfl)
 refine zN ?_
 have hpv:∀r,gi c ps M taken (p::r)=(wy c taken p (qv ps M p.bN)&&gi c ps M (cw ⟨p.bN,p.slot⟩ true taken) r):=by intro r;rw[gi,g1,g2,g3];rfl
 rw[hpv] at no hall;refine zC ?_;have hG:=pN ps M p.bN hy
 cases hg:qv ps M p.bN with
 | none=>
  rw[hg] at hG no;refine zK hG ?_ (hfl:=.inr (bp.refl rfl));refine cM (n4 @oS.eq_1 @ah.eq_1 @aH.zero.eq_1 @oM) ?_;refine aC @oM ?_;refine xd ?_;refine zV ?_;exact zo [.tmp 4] (hq:=by rw[no rfl])
 | some h=>
  rw[hg] at hG no hall;refine zK hG ?_ (hfl:=.inr (bp.refl rfl));refine cM (n3 @oS.eq_1 @ah.eq_1 @oM) ?_;refine aC @oM ?_;cases f1:p.eI;rotate_left
  ·refine xd ?_;refine zV ?_;exact zo [.tmp 4] (hq:=by rw[no (by simp[wy,f1])])
  cases f2:h.eI;rotate_left
  ·refine xd ?_;refine zV ?_;exact zo [.tmp 4] (hq:=by rw[no (by simp[wy,f2])])
  cases f3:getM false (⟨p.bN,p.slot⟩:iL) taken;rotate_left
  ·refine zs ?_;refine ar.r0 (by rfl) (by simp only[bP,bg,ak,aw,ap,ay,↓reduceIte,aa,ad,al,ac,aj,ai,an,aU,se (l:=taken),f3];first | done | rfl) ?_;refine cL ?_;exact zo [.tmp 4] (hq:=by rw[no (by simp[wy,f3])])
  refine zs ?_;refine ar.Pz (by rfl) (by simp only[bP,bg,ak,aw,ap,ay,↓reduceIte,aa,ad,al,ac,aj,ai,an,aU,se (l:=taken),f3];first | done | rfl) ?_;refine zK (w9 c h.kind p.slot p.kind hc.len hct) ?_;cases f4:Proofs.vV c h.kind p.slot p.kind
  ·refine zR ?_;refine cL ?_;exact zo [.tmp 4] (hq:=by rw[no (by simp[wy,f4])])
  refine zR ?_;refine zN ?_;refine zs ?_;refine ar.r0 (by rfl) (by simp only[bP,bg,ak,aw,ap,ay,↓reduceIte,aa,ad,al,ac,aj,ai,an,aU,EG (l:=taken)];first | done | rfl) ?_;refine aC (zi hlt hlen) ?_;refine H3 hlt (cw ⟨p.bN,p.slot⟩ true taken) zH (show gi c ps M [] ps=gi c ps M (cw ⟨p.bN,p.slot⟩ true taken) (ps.drop (k+1)) by rw[hall,show wy c taken p (some h)=true by simp[wy,f1,f2,f3,f4]];rfl)
def H8(a b:Int):Int:=dO .i64 (a+b)
def Ao(a b:Int):Int:=dO .i64 (a-b)
def Md(a:Int):Int:=dO .i64 (0-a)
def yj{P:Program}{t:TypeId}(a b:Int):cS P .add t (.int .i64 a) (.int .i64 b)=some (.int .i64 (H8 a b)):=rfl
def qc{P:Program}{t:TypeId}(a b:Int):cS P .sub t (.int .i64 a) (.int .i64 b)=some (.int .i64 (Ao a b)):=rfl
def lq(a b:Int):SV:=.ag [ab a,ab b]
def nE(a b:Int):Bool:=decide (-1000000000000<=a)&&(decide (a<=b)&&decide (b<=1000000000000))
def oZ(a b:Int):PC Tryz.prog 203 [lq a b] (·=az (nE a b)):=by
 refine pB 18 Tryz.func203 ?_;refine aC @lq.eq_1 ?_;cases h1:decide (-1000000000000<=a)
 ·refine aC h1 ?_;exact zo [.tmp 2] (hq:=by rw[nE,h1];rfl)
 cases h2:decide (a<=b)
 ·refine aC (n2 h1 h2) ?_;exact zo [.tmp 2] (hq:=by rw[nE,h1,h2];rfl)
 refine aC (n2 h1 h2) ?_;exact zo [.tmp 2] (hq:=by rw[nE,h1,h2];rfl)
def eO(a b:Int):Int:=if a<=b then a else b
def dX(a b:Int):Int:=if b<=a then a else b
def iG(a b:Int):sH false (.int .i64 a) (.int .i64 b)=some (.int .i64 (eO a b)):=Gc
def fw(a b:Int):sH true (.int .i64 a) (.int .i64 b)=some (.int .i64 (dX a b)):=Gb
def RT(n:Int):Int:=dX (-1000000000000) (eO n 1000000000000)
def qT(n:Int):PC Tryz.prog 205 [ab n] (·=ab (RT n)):=by
 refine pB 6 Tryz.func205 ?_;refine zV ?_;refine aC (n2 @iG @fw) ?_;exact zo [.tmp 2]
def j7(a b:Int):Int:=RT (H8 a b)
def DC(a b:Int):Int:=RT (Ao a b)
def MQ(a b:Int):PC Tryz.prog 141 [ab a,ab b] (·=ab (j7 a b)):=by
 refine pB 9 Tryz.func141 ?_;refine zV ?_;refine gG @yj ?_;refine zK (qT _) ?_;refine zR ?_;exact zo [.tmp 4]
def JC(a b:Int):PC Tryz.prog 274 [ab a,ab b] (·=ab (DC a b)):=by
 refine pB 9 Tryz.func274 ?_;refine zV ?_;refine gG @qc ?_;refine zK (qT _) ?_;refine zR ?_;refine zE ?_;exact sf.of (rs:=[.tmp 4]) rfl rfl zl (Wk.refl rfl) zq
def rf{f:Int->Int->Int}{r:List Int}{j:Nat}{x y:Int}(h:r[j]?=some x):(r.take (j+1)).foldl f y=f ((r.take j).foldl f y) x:=by
 rw[a7,h,Option.toList_some,List.foldl_append];rfl
def JO(a:Int)(r:List Int)(hlen:r.length<1000000):PC Tryz.prog 230 [ak 1 (a::r) (aA ab)] (·=ab (r.foldl eO a)):=by
 refine pB 25 Tryz.func230 ?_;refine zV ?_;refine aC (n2 @length_cons.{0} (show decide (((r.length+1:Nat):Int)<1)=false by simp only[wp];omega)) ?_;refine zN ?_;refine aC (n4 @length_cons.{0} @a8 (aG (l:=a::r) (e:=1) (enc:=aA ab) (λ_=>rfl) (show(a::r)[0]?=some a from rfl)) @aA.eq_1) ?_;refine zV ?_
 (repeat refine ar.seq ?_)
 refine ar.block (ar.loop (λm st=>∃j:Nat,j<=r.length/\m=r.length-j/\st=⟨[(0,ak 1 (a::r) (aA ab)),(3,ab ((r.take j).foldl eO a)),(4,ab ((j+1:Nat):Int))],25,[],[]⟩) r.length (bL (n2 @take_zero.{0} @List.foldl_nil.{0,0})) ⟨0,a3 _,rfl,rfl⟩ (by rintro m st ⟨j,_,_,rfl⟩;rfl) ?_);rintro m st ⟨j,hj,rfl,rfl⟩;refine aC @length_cons.{0} ?_;by_cases hlt:j<r.length;rotate_left
 ·rw[show decide (((j+1:Nat):Int)<((r.length+1:Nat):Int))=false by simp only[wp];omega];refine dZ ?_;refine zV ?_
  obtain rfl:j=r.length:=by omega
  exact zo [.tmp 2] (hq:=by rw[a0])
 rw[show decide (((j+1:Nat):Int)<((r.length+1:Nat):Int))=true by simp only[wr];omega];obtain⟨x,hx⟩:∃x,r[j]?=some x:=⟨r[j],ax hlt⟩;refine eQ ?_;refine aC (n5 @length_cons.{0} (show j+1<r.length+1 by omega) (aG (l:=a::r) (i:=j+1) (e:=1) (enc:=aA ab) (λ_=>rfl) (show(a::r)[j+1]?=some x from hx)) @aA.eq_1 @iG) ?_;refine zs ?_;refine ar.r0 (by rfl) (gQ (bA (((j+1:Nat):Int)) 1 (by omega))) ?_;exact⟨r.length-(j+1),_,by omega,(Fg.less (by (simp only[bP,bg,dr,↓reduceIte,aa,rf hx])<;>(repeat' apply aR)<;>first | rfl | trivial) (by (simp only[bP,bg,or_true,true_or,rf hx])<;>(repeat' apply aR)<;>first | exact .inr rfl | exact .inl rfl | trivial)),j+1,by omega,rfl,rfl⟩
def JN(a:Int)(r:List Int)(hlen:r.length<1000000):PC Tryz.prog 231 [ak 1 (a::r) (aA ab)] (·=ab (r.foldl dX a)):=by
 refine pB 25 Tryz.func231 ?_;refine zV ?_;refine aC (n2 @length_cons.{0} (show decide (((r.length+1:Nat):Int)<1)=false by simp only[wp];omega)) ?_;refine zN ?_;refine aC (n4 @length_cons.{0} @a8 (aG (l:=a::r) (e:=1) (enc:=aA ab) (λ_=>rfl) (show(a::r)[0]?=some a from rfl)) @aA.eq_1) ?_;refine zV ?_
 (repeat refine ar.seq ?_)
 refine ar.block (ar.loop (λm st=>∃j:Nat,j<=r.length/\m=r.length-j/\st=⟨[(0,ak 1 (a::r) (aA ab)),(3,ab ((r.take j).foldl dX a)),(4,ab ((j+1:Nat):Int))],25,[],[]⟩) r.length (bL (n2 @take_zero.{0} @List.foldl_nil.{0,0})) ⟨0,a3 _,rfl,rfl⟩ (by rintro m st ⟨j,_,_,rfl⟩;rfl) ?_);rintro m st ⟨j,hj,rfl,rfl⟩;refine aC @length_cons.{0} ?_;by_cases hlt:j<r.length;rotate_left
 ·rw[show decide (((j+1:Nat):Int)<((r.length+1:Nat):Int))=false by simp only[wp];omega];refine dZ ?_;refine zV ?_
  obtain rfl:j=r.length:=by omega
  exact zo [.tmp 2] (hq:=by rw[a0])
 rw[show decide (((j+1:Nat):Int)<((r.length+1:Nat):Int))=true by simp only[wr];omega];obtain⟨x,hx⟩:∃x,r[j]?=some x:=⟨r[j],ax hlt⟩;refine eQ ?_;refine aC (n5 @length_cons.{0} (show j+1<r.length+1 by omega) (aG (l:=a::r) (i:=j+1) (e:=1) (enc:=aA ab) (λ_=>rfl) (show(a::r)[j+1]?=some x from hx)) @aA.eq_1 @fw) ?_;refine zs ?_;refine ar.r0 (by rfl) (gQ (bA (((j+1:Nat):Int)) 1 (by omega))) ?_;exact⟨r.length-(j+1),_,by omega,(Fg.less (by (simp only[bP,bg,dr,↓reduceIte,aa,rf hx])<;>(repeat' apply aR)<;>first | rfl | trivial) (by (simp only[bP,bg,or_true,true_or,rf hx])<;>(repeat' apply aR)<;>first | exact .inr rfl | exact .inl rfl | trivial)),j+1,by omega,rfl,rfl⟩
def wN(a:Int)(r:List Int)(hlen:r.length<1000000):PC Tryz.prog 204 [ak 1 (a::r) (aA ab)] (·=lq (r.foldl eO a) (r.foldl dX a)):=by
 refine pB 8 Tryz.func204 ?_;refine kD ?_;refine zK (JO a r hlen) ?_;refine zQ ?_;refine zK (JN a r hlen) ?_;refine zR ?_;exact zo [.cell 2 54]
def fk(f:Int->Int->Int)(a b c d:Int):Int×Int:=
 if nE a b&&nE c d then (eO (eO (eO (f a c) (f a d)) (f b c)) (f b d),dX (dX (dX (f a c) (f a d)) (f b c)) (f b d)) else (0,0)
def oy(p:Int×Int):SV:=lq p.1 p.2
def vZ(g:FuncId)(fn:Int->Int->Int)(hg:∀x y,PC Tryz.prog g [ab x,ab y] (·=ab (fn x y)))(a b c d:Int):PC Tryz.prog 140 [lq a b,lq c d,.fn g [] []] (·=oy (fk fn a b c d)):=by
 refine pB 46 Tryz.func140 ?_;refine aC @lq.eq_1 ?_;refine zC ?_;refine zK (oZ a b) ?_;cases h1:nE a b
 ·refine zR ?_;refine cL ?_;exact zo [.cell 6 54] (hq:=by rw[fk,h1];rfl)
 refine zQ ?_;refine zK (oZ c d) ?_;cases h2:nE c d
 ·refine zR ?_;refine cL ?_;exact zo [.cell 6 54] (hq:=by rw[fk,h1,h2];rfl)
 refine zR ?_;refine zN ?_;refine zs ?_;refine oz [0,1,0,4,0,16,0,64,3,271,831,2047] ?_;refine zD ?_;refine zM ?_;refine zC ?_;refine zK (hg a c) ?_;refine zQ ?_;refine zK (hg a d) ?_;refine zQ ?_;refine zK (hg b c) ?_;refine zQ ?_;refine zK (hg b d) ?_;refine zQ ?_;refine zK (wN (fn a c) [fn a d,fn b c,fn b d] (by show 3<1000000;omega)) ?_;refine zR ?_;exact zo [.cell 6 54] (hq:=by rw[fk,h1,h2];rfl)
def pO(a b c d:Int):PC Tryz.prog 99 [lq a b,lq c d] (·=oy (fk j7 a b c d)):=by
 refine pB 8 Tryz.func99 ?_;refine aC @lq.eq_1 ?_;refine zC ?_;refine zK (vZ 141 j7 MQ a b c d) ?_;refine cM (n2 @oy.eq_1 @lq.eq_1) ?_;exact zo [.cell 4 54]
def Jt(a b c d:Int):PC Tryz.prog 269 [lq a b,lq c d] (·=oy (fk DC a b c d)):=by
 refine pB 8 Tryz.func269 ?_;refine aC @lq.eq_1 ?_;refine zC ?_;refine zK (vZ 274 DC JC a b c d) ?_;refine cM (n2 @oy.eq_1 @lq.eq_1) ?_;exact zo [.cell 4 54]
def l8(a b c d:Int):Int×Int:=if nE a b&&nE c d then (eO (eO (eO a b) c) d,dX (dX (dX a b) c) d) else (0,0)
def nP(a b c d:Int):PC Tryz.prog 273 [lq a b,lq c d] (·=oy (l8 a b c d)):=by
 refine pB 24 Tryz.func273 ?_;refine aC @lq.eq_1 ?_;refine zC ?_;refine zK (oZ a b) ?_;cases h1:nE a b
 ·refine zR ?_;refine cL ?_;exact zo [.cell 4 54] (hq:=by rw[l8,h1];rfl)
 refine zQ ?_;refine zK (oZ c d) ?_;cases h2:nE c d
 ·refine zR ?_;refine cL ?_;exact zo [.cell 4 54] (hq:=by rw[l8,h1,h2];rfl)
 refine zR ?_;refine QS ?_;refine zK (wN a [b,c,d] (by show 3<1000000;omega)) ?_;refine zR ?_;exact zo [.cell 4 54] (hq:=by rw[l8,h1,h2];rfl)
def tT(a b n:Int):Int:=if (!nE a b)||decide (b<=n) then 0 else if n<a then 2 else 1
def Hf(a b n:Int):PC Tryz.prog 272 [lq a b,ab n] (·=ab (tT a b n)):=by
 refine pB 20 Tryz.func272 ?_;refine aC @lq.eq_1 ?_;refine zB ?_;refine zC ?_;refine zK (oZ a b) ?_;cases h1:nE a b
 ·refine zR ?_;refine cL ?_;exact zo [.tmp 4] (hq:=by rw[tT,h1];rfl)
 cases h2:decide (b<=n);rotate_left
 ·refine cM h2 ?_;refine cL ?_;exact zo [.tmp 4] (hq:=by rw[tT,h1,h2];rfl)
 refine cM h2 ?_;refine zN ?_;cases h3:decide (n<a)
 ·refine aC h3 ?_;refine iK ?_;exact zo [.tmp 4] (hq:=by rw[tT,h1,h2,un (wt h3)];rfl)
 ·refine aC h3 ?_;refine cL ?_;exact zo [.tmp 4] (hq:=by rw[tT,h1,h2,ul (ww h3)];rfl)
open Go.Ev Go.RowKit Go.Lib Go.Shelf
set_option maxHeartbeats 1000000 in
def Hq(x y:Nat)(hx:x<18446744073709551616)(hy:y<18446744073709551616)(w:World):
 Calls Tryz.prog 278 #[.int .u64 x,.int .u64 y] w λe w'=>e=.returned (.tuple #[.int .u64 ((x*y/18446744073709551616:Nat):Int),.int .u64 ((x*y%18446744073709551616:Nat):Int)])/\w'=w:=by
 obtain⟨bd,bt,bw,hhi⟩:=Lib.mul64_hi x y hx hy;have ba:=Lib.half_mul_le (a:=x/4294967296) (b:=y/4294967296) (by omega) (by omega);have bb:=Lib.half_mul_le (a:=x/4294967296) (b:=y%4294967296) (by omega) (by omega);have bc:=Lib.half_mul_le (a:=x%4294967296) (b:=y/4294967296) (by omega) (by omega)
 have ba':x/4294967296*(y/4294967296)<18446744073709551616:=by omega
 have bb':x/4294967296*(y%4294967296)<18446744073709551616:=by omega
 have bc':x%4294967296*(y/4294967296)<18446744073709551616:=by omega
 have bh1:x/4294967296*(y/4294967296)+(x/4294967296*(y%4294967296)+x%4294967296*(y%4294967296)/4294967296)/4294967296<18446744073709551616:=by omega
 have bh:x/4294967296*(y/4294967296)+(x/4294967296*(y%4294967296)+x%4294967296*(y%4294967296)/4294967296)/4294967296+((x/4294967296*(y%4294967296)+x%4294967296*(y%4294967296)/4294967296)%4294967296+x%4294967296*(y/4294967296))/4294967296<18446744073709551616:=by omega
 go_enter Tryz.func278,Tryz.ntmps278
 go_wp2
 simp only[Mul64.maskN x hx,Mul64.maskN y hy,Mul64.divN,Mul64.mulN,Mul64.addN,Mul64.wrapN _ bd,Mul64.wrapN _ bb',Mul64.wrapN _ bt,Mul64.maskN _ bt,Mul64.wrapN _ bc',Mul64.wrapN _ bw,Mul64.wrapN _ ba',Mul64.wrapN _ bh1,Mul64.wrapN _ bh,Mul64.wrapM (x*y)];rw[hhi]
 go_ret2
 exact⟨rfl,rfl⟩
def Hr(x y:Nat)(hx:x<18446744073709551616)(hy:y<18446744073709551616):PC Tryz.prog 278 [.a (.int .u64 x),.a (.int .u64 y)]
 (·=.bE [.a (.int .u64 ((x*y/18446744073709551616:Nat):Int)),.a (.int .u64 ((x*y%18446744073709551616:Nat):Int))]):=by
 intro ρ h avs _ hA;rw[ep] at hA;obtain⟨a,r,rfl,hA1,hA2⟩:=hA;rw[ep] at hA2;obtain⟨b,r2,rfl,hB1,hB2⟩:=hA2;rw[gH] at hB2;subst hB2;rw[GS] at hA1 hB1;subst hA1;subst hB1
 have hc:dC Tryz.prog (.func 278) [.int .u64 x,.int .u64 y] h (λa h'=>a=.bE [.int .u64 ((x*y/18446744073709551616:Nat):Int),.int .u64 ((x*y%18446744073709551616:Nat):Int)]/\h'=h):=by
  intro σ w args' hv hr;obtain⟨v1,v2,rfl,k1,k2⟩:=E5 hv;cases k1;cases k2;refine(A4 dG Tryz.func278 (by rfl) hr (a:=.bE [.int .u64 ((x*y/18446744073709551616:Nat):Int),.int .u64 ((x*y%18446744073709551616:Nat):Int)]) (V.Oi (.cons (.int _ _) (.cons (.int _ _) .nil))) ((Hq x y hx hy w).mono ?_)).mono ?_
  ·rintro e w' ⟨rfl,rfl⟩;exact⟨rfl,Below.refl _ _⟩
  ·rintro v w' ⟨a,h',hm,hg⟩;have:=List.mem_singleton.1 hm;cases this;exact⟨_,_,⟨rfl,rfl⟩,hg⟩
 refine hc.mono ?_;rintro v h' ⟨rfl,rfl⟩;refine⟨_,ρ,rfl,.refl _ _,λid ob hi=>.inl hi,?_⟩;rw[GS];exact⟨_,rfl,by rw[ep];exact⟨_,_,rfl,by rw[GS],by rw[ep];exact⟨_,_,rfl,by rw[GS],by rw[gH]⟩⟩⟩
def iX(a:Int):Nat:=(dO .u64 (dX a (Md a))).toNat
def EP(n:Int):dO .u64 n=((dO .u64 n).toNat:Int)/\(dO .u64 n).toNat<18446744073709551616:=by
 have h:dO .u64 n=n%18446744073709551616:=by rw[iy];simp[IntKind.wrap,IntKind.bits,IntKind.signed]
 rw[h];omega
def sU(a:Int):R0 .neg (.int .i64 a)=some (.int .i64 (Md a)):=rfl
def Ar(a b:Int):Int:=
 cond ((decide (a<0)) != (decide (b<0)))
  (Md (if iX a*iX b/18446744073709551616=0/\iX a*iX b%18446744073709551616<=1000000000000 then dO .i64 ((iX a*iX b%18446744073709551616:Nat):Int) else 1000000000000))
  (if iX a*iX b/18446744073709551616=0/\iX a*iX b%18446744073709551616<=1000000000000 then dO .i64 ((iX a*iX b%18446744073709551616:Nat):Int) else 1000000000000)
def Eb(n:Int):mE Tryz.prog 247 261 (.int .i64 n)=some (.int .u64 (dO .u64 n)):=by
 unfold mE;rw[show Tryz.prog.underlying 247=some (.int .i64) by kernel_rfl,show Tryz.prog.underlying 261=some (.int .u64) by kernel_rfl]
def Ec(n:Int):mE Tryz.prog 261 247 (.int .u64 n)=some (.int .i64 (dO .i64 n)):=by
 unfold mE;rw[show Tryz.prog.underlying 247=some (.int .i64) by kernel_rfl,show Tryz.prog.underlying 261=some (.int .u64) by kernel_rfl]
def Uf{P:Program}{t:TypeId}(a b:Int):cS P .eql t (.int .u64 a) (.int .u64 b)=some (.bool (decide (a=b))):=tb rfl
def RZ{P:Program}{t:TypeId}(a b:Int):cS P .leq t (.int .u64 a) (.int .u64 b)=some (.bool (decide (a<=b))):=tc rfl
def JT(a b:Int):PC Tryz.prog 275 [ab a,ab b] (·=ab (Ar a b)):=by
 refine pB 38 Tryz.func275 ?_;have hm:=Hr (iX a) (iX b) (EP _).2 (EP _).2;rw[show((iX a:Nat):Int)=dO .u64 (dX a (Md a)) from(EP _).1.symm,show((iX b:Nat):Int)=dO .u64 (dX b (Md b)) from(EP _).1.symm] at hm;have ht:Ar a b=cond ((decide (a<0)) != (decide (b<0))) (Md (if iX a*iX b/18446744073709551616=0/\iX a*iX b%18446744073709551616<=1000000000000 then dO .i64 ((iX a*iX b%18446744073709551616:Nat):Int) else 1000000000000)) (if iX a*iX b/18446744073709551616=0/\iX a*iX b%18446744073709551616<=1000000000000 then dO .i64 ((iX a*iX b%18446744073709551616:Nat):Int) else 1000000000000):=rfl;generalize iX a*iX b/18446744073709551616=hi at hm ht;generalize iX a*iX b%18446744073709551616=lo at hm ht;refine zV ?_;refine gG (n3 @sU @fw @Eb) ?_;refine zK hm ?_;refine zR ?_;refine zV ?_;by_cases h1:hi=0/\lo<=1000000000000
 ·rw[ul h1] at ht;refine aC (n4 @Uf @RZ (show decide ((hi:Int)=0)=true by simp;omega) (show decide ((lo:Int)<=1000000000000)=true by simp;omega)) ?_;refine zY ?_;refine aC @Ec ?_;cases g1:decide (a<0)<;>cases g2:decide (b<0)
  ·rw[g1,g2] at ht;refine aC (n2 g1 g2) ?_;refine iK ?_;exact zo [.tmp 4] (hq:=by rw[ht];rfl)
  ·rw[g1,g2] at ht;refine aC (n2 g1 g2) ?_;refine zY ?_;refine aC @sU ?_;exact zo [.tmp 4] (hq:=by rw[ht];rfl)
  ·rw[g1,g2] at ht;refine aC (n2 g1 g2) ?_;refine zY ?_;refine aC @sU ?_;exact zo [.tmp 4] (hq:=by rw[ht];rfl)
  ·rw[g1,g2] at ht;refine aC (n2 g1 g2) ?_;refine iK ?_;exact zo [.tmp 4] (hq:=by rw[ht];rfl)
 ·rw[un h1] at ht;by_cases h2:hi=0
  ·refine aC (n4 @Uf @RZ (show decide ((hi:Int)=0)=true by simp;omega) (show decide ((lo:Int)<=1000000000000)=false by simp;omega)) ?_;refine zN ?_;cases g1:decide (a<0)<;>cases g2:decide (b<0)
   ·rw[g1,g2] at ht;refine aC (n2 g1 g2) ?_;refine iK ?_;exact zo [.tmp 4] (hq:=by rw[ht];rfl)
   ·rw[g1,g2] at ht;refine aC (n2 g1 g2) ?_;refine zY ?_;refine aC @sU ?_;exact zo [.tmp 4] (hq:=by rw[ht];rfl)
   ·rw[g1,g2] at ht;refine aC (n2 g1 g2) ?_;refine zY ?_;refine aC @sU ?_;exact zo [.tmp 4] (hq:=by rw[ht];rfl)
   ·rw[g1,g2] at ht;refine aC (n2 g1 g2) ?_;refine iK ?_;exact zo [.tmp 4] (hq:=by rw[ht];rfl)
  ·refine aC (n3 @Uf @RZ (show decide ((hi:Int)=0)=false by simp;omega)) ?_;refine zN ?_;cases g1:decide (a<0)<;>cases g2:decide (b<0)
   ·rw[g1,g2] at ht;refine aC (n2 g1 g2) ?_;refine iK ?_;exact zo [.tmp 4] (hq:=by rw[ht];rfl)
   ·rw[g1,g2] at ht;refine aC (n2 g1 g2) ?_;refine zY ?_;refine aC @sU ?_;exact zo [.tmp 4] (hq:=by rw[ht];rfl)
   ·rw[g1,g2] at ht;refine aC (n2 g1 g2) ?_;refine zY ?_;refine aC @sU ?_;exact zo [.tmp 4] (hq:=by rw[ht];rfl)
   ·rw[g1,g2] at ht;refine aC (n2 g1 g2) ?_;refine iK ?_;exact zo [.tmp 4] (hq:=by rw[ht];rfl)
def Js(a b c d:Int):PC Tryz.prog 270 [lq a b,lq c d] (·=oy (fk Ar a b c d)):=by
 refine pB 8 Tryz.func270 ?_;refine aC @lq.eq_1 ?_;refine zC ?_;refine zK (vZ 275 Ar JT a b c d) ?_;refine cM (n2 @oy.eq_1 @lq.eq_1) ?_;exact zo [.cell 4 54]
def Qi(a b:Int):Int:=dO .i64 (a*b)
def GH(a b:Int):Int:=dO .i64 (a.tdiv b)
def qa{P:Program}{t:TypeId}(a b:Int):cS P .mul t (.int .i64 a) (.int .i64 b)=some (.int .i64 (Qi a b)):=rfl
def No{P:Program}{t:TypeId}{a b:Int}(h:¬b=0):cS P .quo t (.int .i64 a) (.int .i64 b)=some (.int .i64 (GH a b)):=by
 have:NZ b=false:=by
  cases b with
  | ofNat n=>
   cases n with
   | zero=>exact t8 rfl h
   | succ n=>rfl
  | negSucc n=>rfl
 unfold cS;simp only[this];rfl
def qo(a b:Int):Int:=if b=0 then 0 else if (!(decide (Qi (GH a b) b=a)))&&((decide (a<0)) != (decide (b<0))) then Ao (GH a b) 1 else GH a b
def iq(a b:Int):PC Tryz.prog 277 [ab a,ab b] (·=ab (qo a b)):=by
 refine pB 26 Tryz.func277 ?_;refine zV ?_;cases h0:decide (b=0);rotate_left
 ·refine aC h0 ?_;refine cL ?_;exact zo [.tmp 4] (hq:=by rw[qo,ul (ww h0)])
 have h0':=wt h0;refine aC h0 ?_;refine zN ?_;refine zs ?_;refine ar.r0 (by rfl) (by simp only[bP,bg,ak,aw,ap,ay,↓reduceIte,aa,ad,al,ac,aj,ai,an,aU,No h0'];first | done | rfl) ?_
 have hf:qo a b=if (!(decide (Qi (GH a b) b=a)))&&((decide (a<0)) != (decide (b<0))) then Ao (GH a b) 1 else GH a b:=by rw[qo,un h0']
 cases h1:decide (Qi (GH a b) b=a);rotate_left
 ·rw[h1] at hf;refine zs ?_;refine ar.r0 (by rfl) (gQ (n2 @qa h1)) ?_;refine zs ?_;refine ar.no rfl ?_;(try (refine ar.skip ?_;try change ar _ _ _ _ _));refine zs ?_;refine ar.r0 (by rfl) zl ?_;refine zE ?_;exact sf.of (rs:=[.tmp 4]) rfl rfl zl (Wk.refl rfl) (by (try simp only[dh,aW]);first | done | (rw[hf];rfl))
 cases g1:decide (a<0)<;>cases g2:decide (b<0)<;>rw[h1,g1,g2] at hf
 ·refine zs ?_;refine ar.r0 (by rfl) (gQ (n4 @qa h1 g1 g2)) ?_;refine iK ?_;exact zo [.tmp 4] (hq:=by rw[hf];rfl)
 ·refine aC (n4 @qa h1 g1 g2) ?_;refine zY ?_;refine aC @qc ?_;refine zV ?_;exact zo [.tmp 4] (hq:=by rw[hf];rfl)
 ·refine aC (n4 @qa h1 g1 g2) ?_;refine zY ?_;refine aC @qc ?_;refine zV ?_;exact zo [.tmp 4] (hq:=by rw[hf];rfl)
 ·refine aC (n4 @qa h1 g1 g2) ?_;refine iK ?_;exact zo [.tmp 4] (hq:=by rw[hf];rfl)
abbrev cN:SV:=.a (.slice none 0 0 (some 0))
def Kf{n k:Nat}{c:Option Nat}{q:IntKind}(h:k<=n):cQ n c none (some (.int q (k:Int))) none=some (0,k,c):=by
 unfold cQ nC oH;simp only[jY,ap,eN h,Bool.true_or,ai]
def uX{n k:Nat}{c:Option Nat}{q:IntKind}(h:k<=n):cQ n c (some (.int q (k:Int))) none none=some (k,n,c):=by
 unfold cQ nC;simp only[jY,ap,eN h,ai]
def rI(a:Int)(h : -9223372036854775808<=a/\a<=9223372036854775807):cS Tryz.prog .sub 3 (.int .i64 a) (.int .i64 ((0:Nat):Int))=some (.int .i64 a):=by
 have:=xP (P:=Tryz.prog) (t:=3) (a:=a) (b:=((0:Nat):Int)) (by simpa using h);rw[this];simp
def C1(n:Nat):(rep [AV.str []] n).map SV.a=(a5 n []).flatMap (aA ae):=by
 induction n with
 | zero=>rfl
 | succ n ih=>rw[rep,List.map_append,ih];rfl
def zI(l:List (List Nat)):(l.flatMap (aA ae)).all ec=true:=by
 induction l with
 | nil=>rfl
 | cons a l ih=>rw[a6,List.all_append,ih];rfl
def l9(l:List (List Nat)):(l.flatMap (aA ae)).length=l.length:=by
 induction l with
 | nil=>rfl
 | cons a l ih=>rw[a6,length_append,ih,length_cons];show 1+_=_;omega
def Ej(n:Nat)(h0:0<n)(hb:n<=1000000):SC Tryz.prog 243 [cN,ab n] [] [] (λr S'=>r=.buf 0 0 1 none/\S'=[.cells ((a5 n []).flatMap (aA ae))]):=by
 refine K6 27 Tryz.func243 ?_
 have h1:decide ((n:Int)<0)=false:=by simp
 have h2:decide (0<(n:Int))=true:=by simp;omega
 have h3:¬n=0:=by omega
 refine zV ?_;refine aC h1 ?_;refine zN ?_;refine aC (n2 (rI ((0:Nat):Int) (by decide)) (rI n ⟨by omega,by omega⟩)) ?_;refine aC h2 ?_;refine zY ?_;refine zs ?_;refine ar.r0 (by rfl) (gQ (n8 (Sx (a3 0)) (Sx (a3 n)) hb h3 @C1 @zI @Nat.sub_self @oN)) ?_;refine zs ?_;refine ar.r0 (by rfl) zl ?_;refine zE ?_;exact MV.of (rs:=[.tmp 4]) rfl rfl zl (by (try simp only[dh,aW]);first | done | (first | exact⟨rfl,rfl⟩ | exact⟨trivial,trivial⟩ | trivial)) zd zg
def Bo:SC Tryz.prog 243 [cN,ab 0] [] [] (λr S'=>r=cN/\S'=[]):=by
 refine K6 27 Tryz.func243 ?_;refine lC ?_;refine zN ?_;refine aC (n2 (rI ((0:Nat):Int) (by decide)) (rI 0 (by decide))) ?_;refine H2 ?_;refine zV ?_;refine zE ?_;exact zP [.tmp 4]
def jj(l:List (List Nat)):List SV:=[ak 1 l (aA ae)]
def pJ(o:Nat)(l:List (List Nat)):SV:=if l=[] then cN else .buf o l.length 1 none
def O5(l:List (List Nat)):List SO:=if l=[] then [] else [.cells (l.flatMap (aA ae))]
def BW{α:Type}(ls:List (List α)){k:Nat}{x:List α}(h:ls[k]?=some x):(ls.take (k+1)).flatten=(ls.take k).flatten++x:=by
 rw[a7,h];simp
def wx{α:Type}(ls:List (List α))(k:Nat):(ls.take k).flatten.length<=ls.flatten.length:=by
 conv=>rhs;rw[<-List.take_append_drop k ls]
 rw[List.flatten_append,length_append];omega
def G4(ls:List (List (List Nat)))(hl:ls.length<=1000000)(hb:ls.flatten.length<=1000000):
 SC Tryz.prog 232 [ak 1 ls jj] [] [] (λr S'=>r=pJ 0 ls.flatten/\S'=O5 ls.flatten):=by
 refine K6 36 Tryz.func232 ?_;have hlen:=hl;refine lC ?_;refine zV ?_;refine zs ?_;refine zL ls (λk=>True) (λk=>[(0,ak 1 ls jj),(3,ab ((ls.take k).flatten.length:Nat)),(9,ak 1 ls jj),(10,ab ls.length),(11,ab k)]) (λk=>[]) (Fg.less (by (simp only[bP,bg,dr,↓reduceIte,aa,ak,take_zero,aS,length_nil])<;>(repeat' apply aR)<;>first | rfl | trivial) (by (simp only[bP,bg,or_true,true_or,ak,take_zero,aS,length_nil])<;>(repeat' apply aR)<;>first | exact .inr rfl | exact .inl rfl | trivial)) zp ?_;intro k hk hall;refine zT ls k ?_ ?_;rintro rfl;rotate_left;intro x hx hlt;rotate_left;rotate_left
 ·refine zY ?_;have h1:=BW ls hx;have h2:=wx ls (k+1)
  have h3:(((ls.take k).flatten.length:Nat):Int)+((x.length:Nat):Int)=(((ls.take (k+1)).flatten.length:Nat):Int):=by rw[h1,length_append];omega
  have h4:decide ((((ls.take (k+1)).flatten.length:Nat):Int)<0)=false:=by simp
  refine zB ?_;refine aC (n3 hlt (aG (e:=1) (enc:=jj) (λ_=>rfl) hx) @jj.eq_1) ?_;refine aC (n2 (p9 (show -9223372036854775808<=(((ls.take k).flatten.length:Nat):Int)+((x.length:Nat):Int)/\(((ls.take k).flatten.length:Nat):Int)+((x.length:Nat):Int)<=9223372036854775807 from⟨by omega,by omega⟩)) h3) ?_;refine aC h4 ?_;refine zN ?_;refine aC (zi hlt hlen) ?_;refine zX hlt zH trivial
 refine dZ ?_;have htk:ls.take ls.length=ls:=a0;by_cases h0:ls.flatten=[]
 ·have h0':((ls.flatten.length:Nat):Int)=0:=by rw[h0];rfl
  refine zC ?_;rw[htk];refine zS [] trivial Bo ?_ (hc:=J3 h0');refine zR ?_;refine zV ?_;refine zs ?_;refine zL ls (λk2=>True) (λk2=>[(6,cN),(25,ak 1 ls jj),(26,ab ls.length),(27,ab k2)]) (λk2=>[]) zH zp ?_;intro k2 hk2 hall2;refine zT ls k2 ?_ ?_;rintro rfl;rotate_left;intro x2 hx2 hlt2;rotate_left
  ·refine dZ ?_;refine zV ?_;refine zE ?_;exact zP [.tmp 2] (hq:=by (try simp only[dh,aW]);first | done | (rw[pJ,O5,ul h0,ul h0];exact⟨rfl,rfl⟩))
  refine zY ?_
  have hx0:x2=[]:=by
   have:=List.mem_iff_getElem?.2 ⟨k2,hx2⟩;exact List.flatten_eq_nil_iff.1 h0 x2 this
  subst hx0;refine zB ?_;refine aC (n3 hlt2 (aG (e:=1) (enc:=jj) (λ_=>rfl) hx2) @jj.eq_1) ?_;refine aC @length_nil.{0} ?_;refine aC (zi hlt2 hlen) ?_;refine zX hlt2 zH trivial
 have hpos:0<ls.flatten.length:=by
  cases h:ls.flatten with
  | nil=>exact t8 h h0
  | cons a l=>rw[length_cons];omega
 refine zC ?_;rw[htk];refine aI.sk [] (by rfl) rfl rfl (by rfl) rfl zc (Ej ls.flatten.length hpos hb) (by simp only[ef,bg,ak,↓reduceIte,aa,ad,af,al,ac,aj,af];first | done | rfl) rfl (by decide) (by simp only[sD,ef,bg,ak,af]<;>(repeat' apply aR)<;>first | trivial | rfl | (intro hh;cases hh)) (by simp only[xw,ef,bg,ak,ad,aj,decide_true,af];first | done | rfl) (by simp only[xw,ef,bg,ak,ad,aj,decide_true,af];first | done | rfl) (by simp only[ef,bg,ak,↓reduceIte,aa,ad,af,al,ac,aj,af];first | done | rfl) (by simp only[ef,bg,ak,↓reduceIte,aa,ad,af,al,ac,aj,af,dJ,dB,bQ,bf,bP];first | done | rfl) (by simp only[ef,bg,ak,↓reduceIte,aa,ad,af,al,ac,aj,af,dJ,dB,bQ,bf,bP];first | done | rfl) ?_;refine zR ?_;refine zV ?_;refine zs ?_;refine MX ls (λk2 (cs:List SV)=>((ls.take k2).flatten.length<=cs.length/\cs.take (ls.take k2).flatten.length=(ls.take k2).flatten.flatMap (aA ae))/\(cs.map (bf 0)=cs/\((ls.take k2).flatten≠[]->cs.length=(ls.take k2).flatten.length))) (λk2 cs=>[(6,.buf 0 (ls.take k2).flatten.length 1 none),(25,ak 1 ls jj),(26,ab ls.length),(27,ab k2)]) (λk2 cs=>[.cells cs]) (((a5 ls.flatten.length []).flatMap (aA ae))) (Fg.less (by (simp only[bP,bg,dr,↓reduceIte,aa,ak,take_zero,aS,length_nil])<;>(repeat' apply aR)<;>first | rfl | trivial) (by (simp only[bP,bg,or_true,true_or,ak,take_zero,aS,length_nil])<;>(repeat' apply aR)<;>first | exact .inr rfl | exact .inl rfl | trivial)) (by exact⟨⟨a3 _,rfl⟩,oN _ _,λh=>t8 rfl h⟩) ?_;intro k2 cs hk2 hall2;refine zT ls k2 ?_ ?_;rintro rfl;rotate_left;intro x2 hx2 hlt2;rotate_left
 ·rw[htk] at hall2 ⊢;obtain⟨⟨g1,g2⟩,g3,g4⟩:=hall2
  have g5:cs=ls.flatten.flatMap (aA ae):=by
   rw[<-g2,<-g4 h0,a0]
  refine dZ ?_;refine zV ?_;refine zE ?_;exact zP [.tmp 2] (hq:=by (try simp only[dh,aW]);first | done | (rw[pJ,O5,un h0,un h0,g5];exact⟨rfl,rfl⟩))
 refine zY ?_;obtain⟨⟨g1,g2⟩,g3,g4⟩:=hall2;have h1:=BW ls hx2;have h2:=wx ls (k2+1);have h2':=h2;rw[h1,length_append] at h2;refine zB ?_;refine aC (n3 hlt2 (aG (e:=1) (enc:=jj) (λ_=>rfl) hx2) @jj.eq_1) ?_;by_cases hx0:x2=[]
 ·subst hx0;rw[List.append_nil] at h1;refine aC (n2 @length_nil.{0} (show(ls.take k2).flatten.length<=1000000 by omega)) ?_;refine aC (zi hlt2 hlen) ?_;refine H3 hlt2 (cs) (bL h1) (by rw[h1];exact⟨⟨g1,g2⟩,g3,g4⟩)
 have hx0':¬x2.length=0:=λe=>hx0 (List.length_eq_zero_iff.1 e)
 have g6:(cs.take ((ls.take k2).flatten.length*1)++x2.flatMap (aA ae)).map (bf 0)=(ls.take (k2+1)).flatten.flatMap (aA ae):=by
  rw[Nat.mul_one,g2,h1,<-List.flatMap_append,oN]
 refine aC (n6 hx0' (show x2.length<=1000000 by omega) @zI (show(ls.take k2).flatten.length<=1000000 by omega) (show(ls.take k2).flatten.length*1<=cs.length by omega) g6) ?_;refine aC (zi hlt2 hlen) ?_;refine H3 hlt2 (((ls.take (k2+1)).flatten.flatMap (aA ae))) (bL (n2 h1 @length_append.{0})) (by refine⟨⟨?_,?_⟩,oN _ _,λ_=>l9 _⟩;(rw[l9];exact Nat.le_refl _);(rw[List.take_of_length_le (by rw[l9];exact Nat.le_refl _)]))
open Go.Ev Go.RowKit
structure Wy where
 kind:List Nat
 cH:List Nat
 days:Int
 km:Int
 vJ:Int
structure Pt where
 name:List Nat
 kind:List Nat
 bN:List Nat
 slot:List Nat
 made:Int
 since:Int
 U5:Bool
 props:AV
 U3:Int
 Uy:Int
 U0:Int
 UZ:Int
 U2:Int
 U1:Int
structure Co where
 part:List Nat
 owner:List Nat
 day:Int
 am:Int
def FV(n:Int):Bool:=decide (0<=n)&&decide (n<=40000)
def PM{P:Program}{t:TypeId}{a b:Int}(hb:b≠0)(h : -9223372036854775808<=a.tdiv b/\a.tdiv b<=9223372036854775807):cS P .quo t (.int .i64 a) (.int .i64 b)=some (.int .i64 (a.tdiv b)):=by
 have h1:(rZ (-9223372036854775808) (a.tdiv b)&&rZ (a.tdiv b) 9223372036854775807)=true:=by
  rw[eU,eU];simp[h.1,h.2]
 have hz:NZ b=false:=by
  unfold NZ
  cases b with
  | ofNat n=>
   cases n with
   | zero=>exact t8 rfl hb
   | succ n=>rfl
  | negSucc n=>rfl
 simp only[cS,yV,ai,hz,an,dO,N9,NW,h1]
def J9{P:Program}{t:TypeId}{a b:Int}(hb:b≠0):cS P .rem t (.int .i64 a) (.int .i64 b)=some (.int .i64 (a.tmod b)):=by
 have hz:NZ b=false:=by
  unfold NZ
  cases b with
  | ofNat n=>
   cases n with
   | zero=>exact t8 rfl hb
   | succ n=>rfl
  | negSucc n=>rfl
 simp only[cS,yV,ai,hz,an]
def pZ(a p:Int):Int:=if 100<2*(a*p%100)\/(2*(a*p%100)=100/\a*p/100%2≠0) then a*p/100+1 else a*p/100
def Q8(a p:Int):Bool:=xp a&&(decide (0<=p)&&decide (p<=100))
def KB{a p:Int}(ha:0<=a/\a<=1000000000000)(hp:0<=p/\p<=100):0<=a*p/\a*p<=100000000000000:=by
 refine⟨Int.mul_nonneg ha.1 hp.1,?_⟩;have h1:a*p<=1000000000000*p:=Int.mul_le_mul_of_nonneg_right ha.2 hp.1;omega
def KQ{a p:Int}(ha:0<=a/\a<=1000000000000)(hp:0<=p/\p<=100):0<=pZ a p/\pZ a p<=a:=by
 obtain⟨h1,h2⟩:=KB ha hp;have h3:a*p<=a*100:=Int.mul_le_mul_of_nonneg_left hp.2 ha.1;unfold pZ;generalize a*p=m at *;split<;>omega
def p6(k:List Nat):List AV:=[.str k]
def Af(ks:List (List Nat)):∀r∈ks.map p6,r.length=1:=by intro r hr;obtain⟨t,_,rfl⟩:=List.mem_map.1 hr;rfl
def Wy.ok(w:Wy):Bool:=cD w.kind&&(cD w.cH&&(FV w.days&&(xp w.km&&(decide (0<=w.vJ)&&decide (w.vJ<=100)))))
def Co.ok(c:Co):Bool:=cD c.part&&(cD c.owner&&(FV c.day&&xp c.am))
structure Wy.fits (w:Wy):Prop where
 k:w.kind.length<=1000000
 kb:∀b∈w.kind,b<256
 m:w.cH.length<=1000000
 mb:∀b∈w.cH,b<256
structure Co.fits (c:Co):Prop where
 p:c.part.length<=1000000
 pb:∀b∈c.part,b<256
 o:c.owner.length<=1000000
 ob:∀b∈c.owner,b<256
def ee(ws:List Wy)(c:Co):Bool:=ws.all Wy.ok&&c.ok
def kU(day fr:Int):Int:=if day<=fr then 0 else day-(if day-1000000000000<=fr then fr else day-1000000000000)
def lU(p:Pt)(c:Co)(w:Wy):Bool:=decide (w.kind=p.kind)&&(decide (kU c.day p.made<=w.days)&&decide (p.Uy<=w.km))
def o9(ws:List Wy)(po:Option Pt)(c:Co):List (List Nat×Int):=match po with
 | none=>[(c.owner,c.am)]
 | some p=>match ws.find? (lU p c) with
  | none=>[(c.owner,c.am)]
  | some w=>cw w.cH (getM 0 w.cH (cw c.owner (c.am-pZ c.am w.vJ) [(c.owner,c.am)])+pZ c.am w.vJ) (cw c.owner (c.am-pZ c.am w.vJ) [(c.owner,c.am)])
def Cu{w:Wy}{c:Co}(hw:w.ok=true)(hc:c.ok=true):Q8 c.am w.vJ=true/\(0<=c.am/\c.am<=1000000000000)/\(0<=w.vJ/\w.vJ<=100):=by
 unfold Wy.ok at hw;unfold Co.ok at hc;simp only[a9,xp,wr] at hw hc;unfold Q8 xp;simp only[a9,wr];omega
def uO(ml:List (List Nat×Int))(ks:List (List Nat)):List Sh:=(ks.filter λk=>decide (0<getM 0 k ml)).map λk=>⟨k,getM 0 k ml⟩
def q0(ks:List (List Nat)):Prop:=ks.Pairwise λa b=>gJ b a=false
structure kE (ml:List (List Nat×Int)) (ss:List Sh):Prop where
 ex:∃ks:List (List Nat),ks.Perm (ml.map (·.1))/\q0 ks/\ss=uO ml ks
def Pe(ml:List (List Nat×Int))(ks:List (List Nat))(k:List Nat):uO ml (ks++[k])=if 0<getM 0 k ml then uO ml ks++[⟨k,getM 0 k ml⟩] else uO ml ks:=by
 unfold uO;rw[List.filter_append];by_cases h:0<getM 0 k ml<;>simp[h]
def D3(ml:List (List Nat×Int))(ks:List (List Nat)):(uO ml ks).length<=ks.length:=by
 unfold uO;rw[List.length_map];exact List.length_filter_le _ _
end Go.Proofs
