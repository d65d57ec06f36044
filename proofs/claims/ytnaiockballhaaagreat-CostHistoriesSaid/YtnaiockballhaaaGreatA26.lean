/- A part of the texts of this claim: every theorem says what it proves, with its conditions. -/
import Derived.Test.YtnaiockballhaaaGreatA25
import Derived.Test.YtnaiockballhaaaGreatA23
import Derived.Test.YtnaiockballhaaaGreatA18
import Derived.Shelf.Bits.Mul64
set_option linter.unusedSimpArgs false
set_option linter.unusedVariables false
set_option linter.unusedSectionVars false
open List (length_cons foldl_nil take_zero)
open Nat (reduceEqDiff reduceAdd reduceLT reduceLeDiff reduceMul zero_le)
open Option (bind_some map_some)
namespace Go.Proofs
open Go.Ev
set_option maxRecDepth 100000
def vE(a b:Int):Bool:=decide (0<=a)&&(decide (a<=b)&&decide (b<=1000000000000))
def pM(x:bG):Bool:=cO x.key&&(!(decide (x.value=[]))&&decide ((x.value.length:Int)<=200))
theorem yq(a b:Int):PC Tryz.prog 153 [.ag [aa a,aa b]] (·=aA (vE a b)):=by
 refine pB 18 Tryz.func153 ?_;refine zV ?_;cases h1:decide (0<=a)
 ·refine aE h1 ?_;refine zE ?_;exact zO [.tmp 2] (hq:=by (try simp only[aC,ab]);first | done | (rw[vE,h1];rfl))
 cases h2:decide (a<=b)
 ·refine aE (n2 h1 h2) ?_;refine zE ?_;exact zO [.tmp 2] (hq:=by (try simp only[aC,ab]);first | done | (rw[vE,h1,h2];rfl))
 ·refine aE (n2 h1 h2) ?_;refine zE ?_;exact zO [.tmp 2] (hq:=by (try simp only[aC,ab]);first | done | (rw[vE,h1,h2];rfl))
theorem KK(x:bG)(hx:iV x.key):PC Tryz.prog 154 [.ag (ar x)] (·=aA (pM x)):=by
 refine pB 17 Tryz.func154 ?_;refine aE @ar.eq_1 ?_;refine zC ?_;refine zK (eV x.key hx) ?_;cases h1:cO x.key
 ·refine zR ?_;refine zE ?_;exact zO [.tmp 2] (hq:=by (try simp only[aC,ab]);first | done | (rw[pM,h1];rfl))
 cases h2:decide (x.value=[]);rotate_left
 ·refine cS h2 ?_;refine zE ?_;exact zO [.tmp 2] (hq:=by (try simp only[aC,ab]);first | done | (rw[pM,h1,h2];rfl))
 ·refine cS h2 ?_;refine zE ?_;exact zO [.tmp 2] (hq:=by (try simp only[aC,ab]);first | done | (rw[pM,h1,h2];rfl))
structure gn (p:aG):Prop where
 name:iV p.name
 kind:iV p.kind
 bD:iV p.bD
 slot:iV p.slot
 len:p.props.length<=1000000
 prop:∀x∈p.props,iV x.key/\iV x.value
def kc(c:List aU)(p:aG):Bool:=(eD c p.kind).isSome&&(cO p.name&&(!(decide (p.made<0))&&(!(decide (p.since<p.made))&&(!(decide (40000<p.since))&&(!(decide (60<(p.props.length:Int)))&&(p.props.all pM&&(j8 (p.props.map bG.key)&&(vE p.l1 p.l2&&(vE p.l3 p.l4&&vE p.l5 p.l6)))))))))
theorem K5{α:Type}{p:α->Bool}{l:List α}{k:Nat}{x:α}(h:l[k]?=some x):(l.drop k).all p=(p x&&(l.drop (k+1)).all p):=by rw[eZ h,List.all_cons]
set_option maxHeartbeats 2000000 in
theorem HV(c:List aU)(p:aG)(hc:c.length<=1000000)(hp:gn p):PC Tryz.prog 118 [.ag [an 3 c aq],.ag (ae p)] (·=aA (kc c p)):=by
 have hlen:=hp.len;refine pB 85 Tryz.func118 ?_
 obtain⟨q,b,h1,hb⟩:∃(q:aU) (b:Bool),nG aq aU.zero (eD c p.kind)=.bI [.ag (aq q),aA b]/\(eD c p.kind).isSome=b:=by
  cases hf:eD c p.kind with
  | none=>exact⟨aU.zero,false,rfl,rfl⟩
  | some q=>exact⟨q,true,rfl,rfl⟩
 have hF:=mi c p.kind hc;rw[h1] at hF;refine aE @ae.eq_1 ?_;refine kQ ?_;refine zC ?_;refine zK hF ?_ (hfl:=.inr (bn.refl rfl));refine cS @aq.eq_1 ?_;cases b
 ·refine wy ?_;refine zV ?_;refine zE ?_;exact zO [.tmp 4] (hq:=by (try simp only[aC,ab]);first | done | (rw[kc,hb];rfl))
 refine zC ?_;refine zK (eV p.name hp.name) ?_;cases h2:cO p.name
 ·refine zR ?_;refine cE ?_;refine zE ?_;exact zO [.tmp 4] (hq:=by (try simp only[aC,ab]);first | done | (rw[kc,hb,h2];rfl))
 cases h3:decide (p.made<0);rotate_left
 ·refine cS h3 ?_;refine cE ?_;refine zE ?_;exact zO [.tmp 4] (hq:=by (try simp only[aC,ab]);first | done | (rw[kc,hb,h2,h3];rfl))
 cases h4:decide (p.since<p.made);rotate_left
 ·refine cS (n2 h3 h4) ?_;refine cE ?_;refine zE ?_;exact zO [.tmp 4] (hq:=by (try simp only[aC,ab]);first | done | (rw[kc,hb,h2,h3,h4];rfl))
 cases h5:decide (40000<p.since);rotate_left
 ·refine cS (n3 h3 h4 h5) ?_;refine cE ?_;refine zE ?_;exact zO [.tmp 4] (hq:=by (try simp only[aC,ab]);first | done | (rw[kc,hb,h2,h3,h4,h5];rfl))
 cases h6:decide (60<(p.props.length:Int));rotate_left
 ·refine cS (n4 h3 h4 h5 h6) ?_;refine cE ?_;refine zE ?_;exact zO [.tmp 4] (hq:=by (try simp only[aC,ab]);first | done | (rw[kc,hb,h2,h3,h4,h5,h6];rfl))
 refine cS (n4 h3 h4 h5 h6) ?_;refine zN ?_
 have hv:kc c p=(p.props.all pM&&(j8 (p.props.map bG.key)&&(vE p.l1 p.l2&&(vE p.l3 p.l4&&vE p.l5 p.l6)))):=by rw[kc,hb,h2,h3,h4,h5,h6];rfl
 refine zV ?_;refine zs ?_;refine zL p.props (λk=>p.props.all pM=(p.props.drop k).all pM) (λk=>[(3,.ptr 1 0),(5,.fn 153 [] []),(6,.fn 154 [] []),(50,an 2 p.props ar),(51,aa p.props.length),(52,aa k)]) (λk=>[.gone,.cells (ae p)]) (cI @ae.eq_1) (by rfl) ?_;intro k hk hall;refine zV ?_;by_cases hlt:k<p.props.length;rotate_left;obtain rfl:k=p.props.length:=(by omega);rw[zf];rotate_left;rw[zt hlt];obtain⟨x,hx⟩:=zx hlt;rotate_left
 ·refine zN ?_;refine ai.exit ?_;rw[List.drop_length] at hall;refine gl @ae.eq_1 ?_;refine zK (CX p.props hlen) ?_;cases g1:j8 (p.props.map bG.key)
  ·refine zR ?_;refine zE ?_;exact zO [.tmp 4] (hq:=by (try simp only[aC,ab]);first | done | (rw[hv,hall,g1];rfl))
  refine zQ ?_;refine zK (yq p.l1 p.l2) ?_;cases g2:vE p.l1 p.l2
  ·refine zR ?_;refine zE ?_;exact zO [.tmp 4] (hq:=by (try simp only[aC,ab]);first | done | (rw[hv,hall,g1,g2];rfl))
  refine zQ ?_;refine zK (yq p.l3 p.l4) ?_;cases g3:vE p.l3 p.l4
  ·refine zR ?_;refine zE ?_;exact zO [.tmp 4] (hq:=by (try simp only[aC,ab]);first | done | (rw[hv,hall,g1,g2,g3];rfl))
  refine zQ ?_;refine zK (yq p.l5 p.l6) ?_;refine zR ?_;refine zE ?_;exact zO [.tmp 4] (hq:=by (try simp only[aC,ab]);first | done | (rw[hv,hall,g1,g2,g3];rfl))
 rw[K5 hx] at hall;refine zY ?_
 (repeat refine ai.seq ?_)
 refine ai.block ?_;refine aE (n4 hlt (aH (e:=2) (enc:=ar) (λ_=>rfl) hx) @ar.eq_1 @ae.eq_1) ?_;refine zC ?_;refine zK (KK x (hp.prop x (List.mem_iff_getElem?.2 ⟨k,hx⟩)).1) ?_;cases g1:pM x
 ·refine zR ?_;refine cE ?_;refine zE ?_;exact zO [.tmp 4] (hq:=by (try simp only[aC,ab]);first | done | (rw[hv,hall,g1];rfl))
 ·refine zR ?_;refine zN ?_;refine aE (zi hlt hlen) ?_;refine zX hlt (cI @ae.eq_1) (show p.props.all pM=(p.props.drop (k+1)).all pM by rw[hall,g1];rfl)
structure gT where
 bD:List Nat
 slot:List Nat
 deriving DecidableEq
def gT.av(s:gT):List AV:=[.str s.bD,.str s.slot]
def ye(s:gT):AV:=.agg s.av
theorem gT.eq(a b:gT):hY gx a.av b.av=decide (a=b):=by
 obtain⟨a1,a2⟩:=a;obtain⟨b1,b2⟩:=b;simp only[gT.av,hY,gx,mY,Bool.and_true,gT.mk.injEq,Bool.decide_and]
theorem yH:wz Tryz.prog 206 ye:=
 AN (ks:=[.s,.s]) (by kernel_rfl) (by simp only[aw,map_some]) (λ_=>rfl) gT.eq λ_=>rfl
theorem qV{S:List SO}{o:Nat}{l:List (gT×Bool)}(a b:List Nat)(ok:Bool)(hS:S[o]?=some (bO ye aA l)):eN Tryz.prog S 203 (.map o) (.ag [ak a,ak b]) ok=some (cond ok (.bI [aA (getM false (⟨a,b⟩:gT) l),aA (dh (⟨a,b⟩:gT) l)]) (aA (getM false (⟨a,b⟩:gT) l))):=
 AU (uv:=aA) (u0:=false) (k:=(⟨a,b⟩:gT)) (kt:=206) (et:=4) (z:=.bool false) (by simp only[aw]) yH (by simp only[aw]) rfl hS rfl ok
theorem C2{S:List SO}{o:Nat}{l:List (gT×Bool)}(a b:List Nat)(u:Bool)(hS:S[o]?=some (bO ye aA l)):e7 Tryz.prog S 203 (.map o) (.ag [ak a,ak b]) (.a (.bool u))=some (S.set o (bO ye aA (dk (⟨a,b⟩:gT) u l))):=
 EW (uv:=aA) (k:=(⟨a,b⟩:gT)) (kt:=206) (et:=4) (by simp only[aw]) yH hS rfl u
theorem nC{n:Nat}{l:List (gT×Bool)}:bP n (bO ye aA l)=bO ye aA l:=lH λ_=>ko _
theorem Bo(a b:Bool):cM Tryz.prog .neq 4 (.bool a) (.bool b)=some (.bool (!(a==b))):=by
 have h1:Tryz.prog.eqGuardType Tryz.prog.depth 4=false:=by kernel_rfl
 have h2:Tryz.prog.underlying 4=some .bool:=by kernel_rfl
 have h3:kR Tryz.prog 8 4 (.bool a) (.bool b)=some (a==b):=by unfold kR;rw[h2]
 show cond (Tryz.prog.eqGuardType Tryz.prog.depth 4) none ((kR Tryz.prog 8 4 (.bool a) (.bool b)).map λb=>AV.bool (!b))=_;rw[h1,ao,h3];rfl
def uY(c:List aU)(taken:List (gT×Bool))(p:aG):Option aG->Bool
 | some h=>!(p.eu||(h.eu||(getM false ⟨p.bD,p.slot⟩ taken||!uK c h.kind p.slot p.kind)))
 | none=>false
def fG(c:List aU)(ps:List aG)(m:List (List Nat×Int)):List (gT×Bool)->List aG->Bool
 | _,[]=>true
 | taken,p::r=>kc c p&&((decide (p.bD=[])==decide (p.slot=[]))&&cond (decide (p.bD=[])) (fG c ps m taken r) (uY c taken p (pz ps m p.bD)&&fG c ps m (dk ⟨p.bD,p.slot⟩ true taken) r))
def k8(c:List aU)(ps:List aG):Bool:=mX c&&(!(decide (20000<(ps.length:Int)))&&(j8 (ps.map aG.name)&&fG c ps (qL 0 [] ps) [] ps))
theorem Jy(ps:List aG):PJ ps []:=λname h=>by cases h
set_option maxHeartbeats 2000000 in
theorem F6(c:List aU)(ps:List aG)(hc:jJ c)(hlen:ps.length<=1000000)(hps:∀p∈ps,gn p):PC Tryz.prog 76 [.ag [an 3 c aq],.ag [an 14 ps ae]] (·=aA (Proofs.k8 c ps)):=by
 have hct:∀k∈c,k.bJ.length<=1000000/\∀s∈k.bJ,s.kinds.length<=1000000:=λk hk=>⟨(hc.kind k hk).2,λs hs=>(hc.slot k hk s hs).2⟩;have hy:PJ ps (qL 0 [] ps):=Gv (by omega) (Jy ps);refine pB 94 Tryz.func76 ?_;refine ki ?_;refine zK (mU c hc) ?_;cases h1:mX c
 ·refine zR ?_;refine cE ?_;refine zE ?_;exact zO [.tmp 4] (hq:=by (try simp only[aC,ab]);first | done | (rw[Proofs.k8,h1];rfl))
 cases h2:decide (20000<(ps.length:Int));rotate_left
 ·refine cS h2 ?_;refine cE ?_;refine zE ?_;exact zO [.tmp 4] (hq:=by (try simp only[aC,ab]);first | done | (rw[Proofs.k8,h1,h2];rfl))
 refine PH h2 ?_;refine zK (CW ps hlen) ?_;cases h3:j8 (ps.map aG.name)
 ·refine zR ?_;refine cE ?_;refine zE ?_;exact zO [.tmp 4] (hq:=by (try simp only[aC,ab]);first | done | (rw[Proofs.k8,h1,h2,h3];rfl))
 refine zR ?_;refine zN ?_
 have hv:Proofs.k8 c ps=fG c ps (qL 0 [] ps) [] ps:=by rw[Proofs.k8,h1,h2,h3];rfl
 clear h1 h2 h3;refine zC ?_;refine zK (uO ps hlen) ?_ (hfl:=.inr (bn.refl rfl));generalize hM:qL 0 [] ps=M at hv hy;refine cS (n2 @Gg.eq_1 hM) ?_;refine kQ ?_;refine zs ?_;refine ai.block (ai.loop (λm st=>∃k:Nat,∃taken:List (gT×Bool),k<=ps.length/\m=ps.length-k/\(fG c ps M [] ps=fG c ps M taken (ps.drop k))/\st=⟨[(2,.ptr 0 0),(5,.ptr 2 0),(6,.map 3),(31,an 14 ps ae),(32,aa ps.length),(33,aa k)],94,[.cells [an 3 c aq],.gone,.cells [an 14 ps ae,qG AV.str aa M],bO ye aA taken],[]⟩) ps.length (Fg.less uR yS) ⟨0,[],zero_le _,rfl,(by rfl),rfl⟩ (by rintro m st ⟨k,_,_,_,_,rfl⟩;rfl) ?_);rintro m st ⟨k,taken,hk,rfl,hall,rfl⟩;refine zs ?_;refine ai.r0 (by rfl) zl ?_;by_cases hlt:k<ps.length;rotate_left;obtain rfl:k=ps.length:=(by omega);rw[show decide ((ps.length:Int)<(ps.length:Int))=false by simp];rotate_left;rw[show decide ((k:Int)<(ps.length:Int))=true by simp only[decide_eq_true_eq];omega];obtain⟨p,hx⟩:∃zz,ps[k]?=some zz:=⟨ps[k],List.getElem?_eq_getElem hlt⟩;rotate_left
 ·refine zN ?_;refine ai.exit ?_;refine zV ?_;refine zE ?_;exact zO [.tmp 4] (hq:=by (try simp only[aC,ab]);first | done | (rw[hv,hall,List.drop_length];rfl))
 have no:fG c ps M taken (ps.drop k)=false->Proofs.k8 c ps=false:=λh=>by rw[hv,hall,h]
 rw[eZ hx] at no hall;have hp:=hps p (List.mem_iff_getElem?.2 ⟨k,hx⟩);refine zY ?_
 (repeat refine ai.seq ?_)
 refine ai.block ?_;refine aE (n4 hlt (aH (e:=14) (enc:=ae) (λ_=>rfl) hx) @ae.eq_1 @nC) ?_;refine zC ?_;refine zK (HV c p hc.len hp) ?_;cases g1:kc c p
 ·refine zR ?_;refine cE ?_;refine zE ?_;exact zO [.tmp 4] (hq:=by (try simp only[aC,ab]);first | done | (rw[no (by simp[fG,g1])]))
 cases g2:(decide (p.bD=[])==decide (p.slot=[]))
 ·refine cS (n2 @Bo g2) ?_;refine cE ?_;refine zE ?_;exact zO [.tmp 4] (hq:=by (try simp only[aC,ab]);first | done | (rw[no (by simp only[fG,g1,g2,Bool.true_and,Bool.false_and])]))
 refine cS (n2 @Bo g2) ?_;refine gX ?_;cases g3:decide (p.bD=[]);rotate_left
 ·refine zY ?_;refine ai.exit ?_
  (try change ai _ _ _ _ _)
  refine zs ?_;refine ai.r0 (by rfl) (gY (nh (dX hlt hlen (by decide)))) ?_;refine⟨ps.length-(k+1),_,by omega,(Fg.less uR yS),k+1,taken,by omega,rfl,show fG c ps M [] ps=fG c ps M taken (ps.drop (k+1)) by rw[hall,fG,g1,g2,g3];rfl,rfl⟩
 refine zN ?_
 have hpv:∀r,fG c ps M taken (p::r)=(uY c taken p (pz ps M p.bD)&&fG c ps M (dk ⟨p.bD,p.slot⟩ true taken) r):=by intro r;rw[fG,g1,g2,g3];rfl
 rw[hpv] at no hall;refine zC ?_;have hG:=oG ps M p.bD hy
 cases hg:pz ps M p.bD with
 | none=>
  rw[hg] at hG no;refine zK hG ?_ (hfl:=.inr (bn.refl rfl));refine cS (n4 @nG.eq_1 @ae.eq_1 @aG.zero.eq_1 @nC) ?_;refine aE @nC ?_;refine wy ?_;refine zV ?_;refine zE ?_;exact zO [.tmp 4] (hq:=by (try simp only[aC,ab]);first | done | (rw[no rfl]))
 | some h=>
  rw[hg] at hG no hall;refine zK hG ?_ (hfl:=.inr (bn.refl rfl));refine cS (n3 @nG.eq_1 @ae.eq_1 @nC) ?_;refine aE @nC ?_;cases f1:p.eu;rotate_left
  ·refine wy ?_;refine zV ?_;refine zE ?_;exact zO [.tmp 4] (hq:=by (try simp only[aC,ab]);first | done | (rw[no (by simp[uY,f1])]))
  cases f2:h.eu;rotate_left
  ·refine wy ?_;refine zV ?_;refine zE ?_;exact zO [.tmp 4] (hq:=by (try simp only[aC,ab]);first | done | (rw[no (by simp[uY,f2])]))
  cases f3:getM false (⟨p.bD,p.slot⟩:gT) taken;rotate_left
  ·refine zs ?_;refine ai.r0 (by rfl) (by simp only[bx,aX,an,aw,bind_some,map_some,↓reduceIte,reduceEqDiff,reduceAdd,reduceMul,reduceLeDiff,reduceLT,ah,ao,aP,qV (l:=taken),f3];first | done | rfl) ?_;refine cE ?_;refine zE ?_;exact zO [.tmp 4] (hq:=by (try simp only[aC,ab]);first | done | (rw[no (by simp[uY,f3])]))
  refine zs ?_;refine ai.M8 (by rfl) (by simp only[bx,aX,an,aw,bind_some,map_some,↓reduceIte,reduceEqDiff,reduceAdd,reduceMul,reduceLeDiff,reduceLT,ah,ao,aP,qV (l:=taken),f3];first | done | rfl) ?_;refine zK (vB c h.kind p.slot p.kind hc.len hct) ?_;cases f4:Proofs.uK c h.kind p.slot p.kind
  ·refine zR ?_;refine cE ?_;refine zE ?_;exact zO [.tmp 4] (hq:=by (try simp only[aC,ab]);first | done | (rw[no (by simp[uY,f4])]))
  refine zR ?_;refine zN ?_;refine zs ?_;refine ai.r0 (by rfl) (by simp only[bx,aX,an,aw,bind_some,map_some,↓reduceIte,reduceEqDiff,reduceAdd,reduceMul,reduceLeDiff,reduceLT,ah,ao,aP,C2 (l:=taken)];first | done | rfl) ?_;refine zs ?_;refine ai.r0 (by rfl) (gY (nh (dX hlt hlen (by decide)))) ?_;refine⟨ps.length-(k+1),_,by omega,(Fg.less uR yS),k+1,dk ⟨p.bD,p.slot⟩ true taken,by omega,rfl,show fG c ps M [] ps=fG c ps M (dk ⟨p.bD,p.slot⟩ true taken) (ps.drop (k+1)) by rw[hall,show uY c taken p (some h)=true by simp[uY,f1,f2,f3,f4]];rfl,rfl⟩
def Gq(a b:Int):Int:=dH .i64 (a+b)
def yl(a b:Int):Int:=dH .i64 (a-b)
def Kf(a:Int):Int:=dH .i64 (0-a)
theorem wO{P:Program}{t:TypeId}(a b:Int):cM P .add t (.int .i64 a) (.int .i64 b)=some (.int .i64 (Gq a b)):=rfl
theorem o7{P:Program}{t:TypeId}(a b:Int):cM P .sub t (.int .i64 a) (.int .i64 b)=some (.int .i64 (yl a b)):=rfl
def kJ(a b:Int):SV:=.ag [aa a,aa b]
def mH(a b:Int):Bool:=decide (-1000000000000<=a)&&(decide (a<=b)&&decide (b<=1000000000000))
theorem nJ(a b:Int):PC Tryz.prog 177 [kJ a b] (·=aA (mH a b)):=by
 refine pB 18 Tryz.func177 ?_;refine aE @kJ.eq_1 ?_;cases h1:decide (-1000000000000<=a)
 ·refine aE h1 ?_;refine zE ?_;exact zO [.tmp 2] (hq:=by (try simp only[aC,ab]);first | done | (rw[mH,h1];rfl))
 cases h2:decide (a<=b)
 ·refine aE (n2 h1 h2) ?_;refine zE ?_;exact zO [.tmp 2] (hq:=by (try simp only[aC,ab]);first | done | (rw[mH,h1,h2];rfl))
 refine aE (n2 h1 h2) ?_;refine zE ?_;exact zO [.tmp 2] (hq:=by (try simp only[aC,ab]);first | done | (rw[mH,h1,h2];rfl))
def dR(a b:Int):Int:=if a<=b then a else b
def dQ(a b:Int):Int:=if b<=a then a else b
theorem gQ(a b:Int):rj false (.int .i64 a) (.int .i64 b)=some (.int .i64 (dR a b)):=Ep
theorem e8(a b:Int):rj true (.int .i64 a) (.int .i64 b)=some (.int .i64 (dQ a b)):=Eo
def Px(n:Int):Int:=dQ (-1000000000000) (dR n 1000000000000)
theorem pU(n:Int):PC Tryz.prog 179 [aa n] (·=aa (Px n)):=by
 refine pB 6 Tryz.func179 ?_;refine zV ?_;refine aE (n2 @gQ @e8) ?_;refine zE ?_;exact zO [.tmp 2]
def jB(a b:Int):Int:=Px (Gq a b)
def B8(a b:Int):Int:=Px (yl a b)
theorem KJ(a b:Int):PC Tryz.prog 134 [aa a,aa b] (·=aa (jB a b)):=by
 refine pB 9 Tryz.func134 ?_;refine zV ?_;refine gl @wO ?_;refine zK (pU _) ?_;refine zR ?_;refine zE ?_;exact zO [.tmp 4]
theorem HL(a b:Int):PC Tryz.prog 237 [aa a,aa b] (·=aa (B8 a b)):=by
 refine pB 9 Tryz.func237 ?_;refine zV ?_;refine gl @o7 ?_;refine zK (pU _) ?_;refine zR ?_;refine zE ?_;exact tH.of (rs:=[.tmp 4]) rfl rfl zl (Wk.refl rfl) zq
theorem qf{f:Int->Int->Int}{r:List Int}{j:Nat}{x y:Int}(h:r[j]?=some x):(r.take (j+1)).foldl f y=f ((r.take j).foldl f y) x:=by
 rw[List.take_add_one,h,Option.toList_some,List.foldl_append];rfl
theorem HY(a:Int)(r:List Int)(hlen:r.length<1000000):PC Tryz.prog 195 [an 1 (a::r) (az aa)] (·=aa (r.foldl dR a)):=by
 refine pB 25 Tryz.func195 ?_;refine zV ?_;refine aE (n2 @length_cons.{0} (show decide (((r.length+1:Nat):Int)<1)=false by simp only[decide_eq_false_iff_not];omega)) ?_;refine zN ?_;refine aE (n4 @length_cons.{0} @Nat.zero_lt_succ (aH (l:=a::r) (e:=1) (enc:=az aa) (λ_=>rfl) (show(a::r)[0]?=some a from rfl)) @az.eq_1) ?_;refine zV ?_
 (repeat refine ai.seq ?_)
 refine ai.block (ai.loop (λm st=>∃j:Nat,j<=r.length/\m=r.length-j/\st=⟨[(0,an 1 (a::r) (az aa)),(3,aa ((r.take j).foldl dR a)),(4,aa ((j+1:Nat):Int))],25,[],[]⟩) r.length (Fg.less (by (simp only[bx,aX,cw,↓reduceIte,reduceEqDiff,take_zero,foldl_nil])<;>(repeat' apply And.intro)<;>first | rfl | trivial) (by (simp only[bx,aX,or_true,true_or,take_zero,foldl_nil])<;>(repeat' apply And.intro)<;>first | exact .inr rfl | exact .inl rfl | trivial)) ⟨0,zero_le _,rfl,rfl⟩ (by rintro m st ⟨j,_,_,rfl⟩;rfl) ?_);rintro m st ⟨j,hj,rfl,rfl⟩;refine aE @length_cons.{0} ?_;by_cases hlt:j<r.length;rotate_left
 ·rw[show decide (((j+1:Nat):Int)<((r.length+1:Nat):Int))=false by simp only[decide_eq_false_iff_not];omega];refine zN ?_;refine ai.exit ?_;refine zV ?_
  obtain rfl:j=r.length:=by omega
  refine zE ?_;exact zO [.tmp 2] (hq:=by (try simp only[aC,ab]);first | done | (rw[List.take_length]))
 rw[show decide (((j+1:Nat):Int)<((r.length+1:Nat):Int))=true by simp only[decide_eq_true_eq];omega];obtain⟨x,hx⟩:∃x,r[j]?=some x:=⟨r[j],List.getElem?_eq_getElem hlt⟩;refine zY ?_
 (repeat refine ai.seq ?_)
 refine ai.block ?_;refine aE (n5 @length_cons.{0} (show j+1<r.length+1 by omega) (aH (l:=a::r) (i:=j+1) (e:=1) (enc:=az aa) (λ_=>rfl) (show(a::r)[j+1]?=some x from hx)) @az.eq_1 @gQ) ?_;refine zs ?_;refine ai.r0 (by rfl) (gY (bA (((j+1:Nat):Int)) 1 (by omega))) ?_;exact⟨r.length-(j+1),_,by omega,(Fg.less (by (simp only[bx,aX,cw,↓reduceIte,reduceEqDiff,qf hx])<;>(repeat' apply And.intro)<;>first | rfl | trivial) (by (simp only[bx,aX,or_true,true_or,qf hx])<;>(repeat' apply And.intro)<;>first | exact .inr rfl | exact .inl rfl | trivial)),j+1,by omega,rfl,rfl⟩
theorem HX(a:Int)(r:List Int)(hlen:r.length<1000000):PC Tryz.prog 196 [an 1 (a::r) (az aa)] (·=aa (r.foldl dQ a)):=by
 refine pB 25 Tryz.func196 ?_;refine zV ?_;refine aE (n2 @length_cons.{0} (show decide (((r.length+1:Nat):Int)<1)=false by simp only[decide_eq_false_iff_not];omega)) ?_;refine zN ?_;refine aE (n4 @length_cons.{0} @Nat.zero_lt_succ (aH (l:=a::r) (e:=1) (enc:=az aa) (λ_=>rfl) (show(a::r)[0]?=some a from rfl)) @az.eq_1) ?_;refine zV ?_
 (repeat refine ai.seq ?_)
 refine ai.block (ai.loop (λm st=>∃j:Nat,j<=r.length/\m=r.length-j/\st=⟨[(0,an 1 (a::r) (az aa)),(3,aa ((r.take j).foldl dQ a)),(4,aa ((j+1:Nat):Int))],25,[],[]⟩) r.length (Fg.less (by (simp only[bx,aX,cw,↓reduceIte,reduceEqDiff,take_zero,foldl_nil])<;>(repeat' apply And.intro)<;>first | rfl | trivial) (by (simp only[bx,aX,or_true,true_or,take_zero,foldl_nil])<;>(repeat' apply And.intro)<;>first | exact .inr rfl | exact .inl rfl | trivial)) ⟨0,zero_le _,rfl,rfl⟩ (by rintro m st ⟨j,_,_,rfl⟩;rfl) ?_);rintro m st ⟨j,hj,rfl,rfl⟩;refine aE @length_cons.{0} ?_;by_cases hlt:j<r.length;rotate_left
 ·rw[show decide (((j+1:Nat):Int)<((r.length+1:Nat):Int))=false by simp only[decide_eq_false_iff_not];omega];refine zN ?_;refine ai.exit ?_;refine zV ?_
  obtain rfl:j=r.length:=by omega
  refine zE ?_;exact zO [.tmp 2] (hq:=by (try simp only[aC,ab]);first | done | (rw[List.take_length]))
 rw[show decide (((j+1:Nat):Int)<((r.length+1:Nat):Int))=true by simp only[decide_eq_true_eq];omega];obtain⟨x,hx⟩:∃x,r[j]?=some x:=⟨r[j],List.getElem?_eq_getElem hlt⟩;refine zY ?_
 (repeat refine ai.seq ?_)
 refine ai.block ?_;refine aE (n5 @length_cons.{0} (show j+1<r.length+1 by omega) (aH (l:=a::r) (i:=j+1) (e:=1) (enc:=az aa) (λ_=>rfl) (show(a::r)[j+1]?=some x from hx)) @az.eq_1 @e8) ?_;refine zs ?_;refine ai.r0 (by rfl) (gY (bA (((j+1:Nat):Int)) 1 (by omega))) ?_;exact⟨r.length-(j+1),_,by omega,(Fg.less (by (simp only[bx,aX,cw,↓reduceIte,reduceEqDiff,qf hx])<;>(repeat' apply And.intro)<;>first | rfl | trivial) (by (simp only[bx,aX,or_true,true_or,qf hx])<;>(repeat' apply And.intro)<;>first | exact .inr rfl | exact .inl rfl | trivial)),j+1,by omega,rfl,rfl⟩
theorem vi(a:Int)(r:List Int)(hlen:r.length<1000000):PC Tryz.prog 178 [an 1 (a::r) (az aa)] (·=kJ (r.foldl dR a) (r.foldl dQ a)):=by
 refine pB 8 Tryz.func178 ?_;refine ki ?_;refine zK (HY a r hlen) ?_;refine zQ ?_;refine zK (HX a r hlen) ?_;refine zR ?_;refine zE ?_;exact zO [.cell 2 72]
def eW(f:Int->Int->Int)(a b c d:Int):Int×Int:=
 if mH a b&&mH c d then (dR (dR (dR (f a c) (f a d)) (f b c)) (f b d),dQ (dQ (dQ (f a c) (f a d)) (f b c)) (f b d)) else (0,0)
def nj(p:Int×Int):SV:=kJ p.1 p.2
theorem uM(g:FuncId)(fn:Int->Int->Int)(hg:∀x y,PC Tryz.prog g [aa x,aa y] (·=aa (fn x y)))(a b c d:Int):PC Tryz.prog 133 [kJ a b,kJ c d,.fn g [] []] (·=nj (eW fn a b c d)):=by
 refine pB 46 Tryz.func133 ?_;refine aE @kJ.eq_1 ?_;refine zC ?_;refine zK (nJ a b) ?_;cases h1:mH a b
 ·refine zR ?_;refine cE ?_;refine zE ?_;exact zO [.cell 6 72] (hq:=by (try simp only[aC,ab]);first | done | (rw[eW,h1];rfl))
 refine zQ ?_;refine zK (nJ c d) ?_;cases h2:mH c d
 ·refine zR ?_;refine cE ?_;refine zE ?_;exact zO [.cell 6 72] (hq:=by (try simp only[aC,ab]);first | done | (rw[eW,h1,h2];rfl))
 refine zR ?_;refine zN ?_;refine zs ?_;refine oW [0,1,0,4,0,16,0,64,3,271,831,2047] ?_;refine zD ?_;refine zM ?_;refine zC ?_;refine zK (hg a c) ?_;refine zQ ?_;refine zK (hg a d) ?_;refine zQ ?_;refine zK (hg b c) ?_;refine zQ ?_;refine zK (hg b d) ?_;refine zQ ?_;refine zK (vi (fn a c) [fn a d,fn b c,fn b d] (by show 3<1000000;omega)) ?_;refine zR ?_;refine zE ?_;exact zO [.cell 6 72] (hq:=by (try simp only[aC,ab]);first | done | (rw[eW,h1,h2];rfl))
theorem oH(a b c d:Int):PC Tryz.prog 94 [kJ a b,kJ c d] (·=nj (eW jB a b c d)):=by
 refine pB 8 Tryz.func94 ?_;refine aE @kJ.eq_1 ?_;refine zC ?_;refine zK (uM 134 jB KJ a b c d) ?_;refine cS (n2 @nj.eq_1 @kJ.eq_1) ?_;refine zE ?_;exact zO [.cell 4 72]
theorem HG(a b c d:Int):PC Tryz.prog 232 [kJ a b,kJ c d] (·=nj (eW B8 a b c d)):=by
 refine pB 8 Tryz.func232 ?_;refine aE @kJ.eq_1 ?_;refine zC ?_;refine zK (uM 237 B8 HL a b c d) ?_;refine cS (n2 @nj.eq_1 @kJ.eq_1) ?_;refine zE ?_;exact zO [.cell 4 72]
def lx(a b c d:Int):Int×Int:=if mH a b&&mH c d then (dR (dR (dR a b) c) d,dQ (dQ (dQ a b) c) d) else (0,0)
theorem mT(a b c d:Int):PC Tryz.prog 236 [kJ a b,kJ c d] (·=nj (lx a b c d)):=by
 refine pB 24 Tryz.func236 ?_;refine aE @kJ.eq_1 ?_;refine zC ?_;refine zK (nJ a b) ?_;cases h1:mH a b
 ·refine zR ?_;refine cE ?_;refine zE ?_;exact zO [.cell 4 72] (hq:=by (try simp only[aC,ab]);first | done | (rw[lx,h1];rfl))
 refine zQ ?_;refine zK (nJ c d) ?_;cases h2:mH c d
 ·refine zR ?_;refine cE ?_;refine zE ?_;exact zO [.cell 4 72] (hq:=by (try simp only[aC,ab]);first | done | (rw[lx,h1,h2];rfl))
 refine zR ?_;refine M9 ?_;refine zK (vi a [b,c,d] (by show 3<1000000;omega)) ?_;refine zR ?_;refine zE ?_;exact zO [.cell 4 72] (hq:=by (try simp only[aC,ab]);first | done | (rw[lx,h1,h2];rfl))
def sK(a b n:Int):Int:=if (!mH a b)||decide (b<=n) then 0 else if n<a then 2 else 1
theorem FA(a b n:Int):PC Tryz.prog 235 [kJ a b,aa n] (·=aa (sK a b n)):=by
 refine pB 20 Tryz.func235 ?_;refine aE @kJ.eq_1 ?_
 (repeat refine ai.seq ?_)
 refine ai.block ?_;refine zC ?_;refine zK (nJ a b) ?_;cases h1:mH a b
 ·refine zR ?_;refine cE ?_;refine zE ?_;exact zO [.tmp 4] (hq:=by (try simp only[aC,ab]);first | done | (rw[sK,h1];rfl))
 cases h2:decide (b<=n);rotate_left
 ·refine cS h2 ?_;refine cE ?_;refine zE ?_;exact zO [.tmp 4] (hq:=by (try simp only[aC,ab]);first | done | (rw[sK,h1,h2];rfl))
 refine cS h2 ?_;refine zN ?_;cases h3:decide (n<a)
 ·refine aE h3 ?_;refine gX ?_;refine zE ?_;exact zO [.tmp 4] (hq:=by (try simp only[aC,ab]);first | done | (rw[sK,h1,h2,if_neg (of_decide_eq_false h3)];rfl))
 ·refine aE h3 ?_;refine cE ?_;refine zE ?_;exact zO [.tmp 4] (hq:=by (try simp only[aC,ab]);first | done | (rw[sK,h1,h2,if_pos (of_decide_eq_true h3)];rfl))
open Go.Ev Go.RowKit Go.Lib Go.Shelf
set_option maxHeartbeats 1000000 in
theorem FL(x y:Nat)(hx:x<18446744073709551616)(hy:y<18446744073709551616)(w:World):
 Calls Tryz.prog 241 #[.int .u64 x,.int .u64 y] w λe w'=>e=.returned (.tuple #[.int .u64 ((x*y/18446744073709551616:Nat):Int),.int .u64 ((x*y%18446744073709551616:Nat):Int)])/\w'=w:=by
 obtain⟨bd,bt,bw,hhi⟩:=Lib.mul64_hi x y hx hy;have ba:=Lib.half_mul_le (a:=x/4294967296) (b:=y/4294967296) (by omega) (by omega);have bb:=Lib.half_mul_le (a:=x/4294967296) (b:=y%4294967296) (by omega) (by omega);have bc:=Lib.half_mul_le (a:=x%4294967296) (b:=y/4294967296) (by omega) (by omega)
 have ba':x/4294967296*(y/4294967296)<18446744073709551616:=by omega
 have bb':x/4294967296*(y%4294967296)<18446744073709551616:=by omega
 have bc':x%4294967296*(y/4294967296)<18446744073709551616:=by omega
 have bh1:x/4294967296*(y/4294967296)+(x/4294967296*(y%4294967296)+x%4294967296*(y%4294967296)/4294967296)/4294967296<18446744073709551616:=by omega
 have bh:x/4294967296*(y/4294967296)+(x/4294967296*(y%4294967296)+x%4294967296*(y%4294967296)/4294967296)/4294967296+((x/4294967296*(y%4294967296)+x%4294967296*(y%4294967296)/4294967296)%4294967296+x%4294967296*(y/4294967296))/4294967296<18446744073709551616:=by omega
 go_enter Tryz.func241,Tryz.ntmps241
 go_wp2
 simp only[Mul64.maskN x hx,Mul64.maskN y hy,Mul64.divN,Mul64.mulN,Mul64.addN,Mul64.wrapN _ bd,Mul64.wrapN _ bb',Mul64.wrapN _ bt,Mul64.maskN _ bt,Mul64.wrapN _ bc',Mul64.wrapN _ bw,Mul64.wrapN _ ba',Mul64.wrapN _ bh1,Mul64.wrapN _ bh,Mul64.wrapM (x*y)];rw[hhi]
 go_ret2
 exact⟨rfl,rfl⟩
theorem FM(x y:Nat)(hx:x<18446744073709551616)(hy:y<18446744073709551616):PC Tryz.prog 241 [.a (.int .u64 x),.a (.int .u64 y)]
 (·=.bI [.a (.int .u64 ((x*y/18446744073709551616:Nat):Int)),.a (.int .u64 ((x*y%18446744073709551616:Nat):Int))]):=by
 intro ρ h avs _ hA;rw[dZ] at hA;obtain⟨a,r,rfl,hA1,hA2⟩:=hA;rw[dZ] at hA2;obtain⟨b,r2,rfl,hB1,hB2⟩:=hA2;rw[fX] at hB2;subst hB2;rw[GS] at hA1 hB1;subst hA1;subst hB1
 have hc:dT Tryz.prog (.func 241) [.int .u64 x,.int .u64 y] h (λa h'=>a=.bI [.int .u64 ((x*y/18446744073709551616:Nat):Int),.int .u64 ((x*y%18446744073709551616:Nat):Int)]/\h'=h):=by
  intro σ w args' hv hr;obtain⟨v1,v2,rfl,k1,k2⟩:=La hv;cases k1;cases k2;refine(y5 dP Tryz.func241 (by rfl) hr (a:=.bI [.int .u64 ((x*y/18446744073709551616:Nat):Int),.int .u64 ((x*y%18446744073709551616:Nat):Int)]) (V.L7 (.cons (.int _ _) (.cons (.int _ _) .nil))) ((FL x y hx hy w).mono ?_)).mono ?_
  ·rintro e w' ⟨rfl,rfl⟩;exact⟨rfl,Below.refl _ _⟩
  ·rintro v w' ⟨a,h',hm,hg⟩;have:=List.mem_singleton.1 hm;cases this;exact⟨_,_,⟨rfl,rfl⟩,hg⟩
 refine hc.mono ?_;rintro v h' ⟨rfl,rfl⟩;refine⟨_,ρ,rfl,.refl _ _,λid ob hi=>.inl hi,?_⟩;rw[GS];exact⟨_,rfl,by rw[dZ];exact⟨_,_,rfl,by rw[GS],by rw[dZ];exact⟨_,_,rfl,by rw[GS],by rw[fX]⟩⟩⟩
def iw(a:Int):Nat:=(dH .u64 (dQ a (Kf a))).toNat
theorem C9(n:Int):dH .u64 n=((dH .u64 n).toNat:Int)/\(dH .u64 n).toNat<18446744073709551616:=by
 have h:dH .u64 n=n%18446744073709551616:=by rw[gL];simp[IntKind.wrap,IntKind.bits,IntKind.signed]
 rw[h];omega
theorem rF(a:Int):PE .neg (.int .i64 a)=some (.int .i64 (Kf a)):=rfl
def yn(a b:Int):Int:=
 cond ((decide (a<0)) != (decide (b<0)))
  (Kf (if iw a*iw b/18446744073709551616=0/\iw a*iw b%18446744073709551616<=1000000000000 then dH .i64 ((iw a*iw b%18446744073709551616:Nat):Int) else 1000000000000))
  (if iw a*iw b/18446744073709551616=0/\iw a*iw b%18446744073709551616<=1000000000000 then dH .i64 ((iw a*iw b%18446744073709551616:Nat):Int) else 1000000000000)
theorem CA(n:Int):lO Tryz.prog 231 267 (.int .i64 n)=some (.int .u64 (dH .u64 n)):=by
 unfold lO;rw[show Tryz.prog.underlying 231=some (.int .i64) by kernel_rfl,show Tryz.prog.underlying 267=some (.int .u64) by kernel_rfl]
theorem CB(n:Int):lO Tryz.prog 267 231 (.int .u64 n)=some (.int .i64 (dH .i64 n)):=by
 unfold lO;rw[show Tryz.prog.underlying 231=some (.int .i64) by kernel_rfl,show Tryz.prog.underlying 267=some (.int .u64) by kernel_rfl]
theorem QZ{P:Program}{t:TypeId}(a b:Int):cM P .eql t (.int .u64 a) (.int .u64 b)=some (.bool (decide (a=b))):=rP rfl
theorem PD{P:Program}{t:TypeId}(a b:Int):cM P .leq t (.int .u64 a) (.int .u64 b)=some (.bool (decide (a<=b))):=rQ rfl
theorem H3(a b:Int):PC Tryz.prog 238 [aa a,aa b] (·=aa (yn a b)):=by
 refine pB 38 Tryz.func238 ?_;have hm:=FM (iw a) (iw b) (C9 _).2 (C9 _).2;rw[show((iw a:Nat):Int)=dH .u64 (dQ a (Kf a)) from(C9 _).1.symm,show((iw b:Nat):Int)=dH .u64 (dQ b (Kf b)) from(C9 _).1.symm] at hm;have ht:yn a b=cond ((decide (a<0)) != (decide (b<0))) (Kf (if iw a*iw b/18446744073709551616=0/\iw a*iw b%18446744073709551616<=1000000000000 then dH .i64 ((iw a*iw b%18446744073709551616:Nat):Int) else 1000000000000)) (if iw a*iw b/18446744073709551616=0/\iw a*iw b%18446744073709551616<=1000000000000 then dH .i64 ((iw a*iw b%18446744073709551616:Nat):Int) else 1000000000000):=rfl;generalize iw a*iw b/18446744073709551616=hi at hm ht;generalize iw a*iw b%18446744073709551616=lo at hm ht;refine zV ?_;refine gl (n3 @rF @e8 @CA) ?_;refine zK hm ?_;refine zR ?_;refine zV ?_;by_cases h1:hi=0/\lo<=1000000000000
 ·rw[if_pos h1] at ht;refine aE (n4 @QZ @PD (show decide ((hi:Int)=0)=true by simp;omega) (show decide ((lo:Int)<=1000000000000)=true by simp;omega)) ?_;refine zY ?_;refine aE @CB ?_;cases g1:decide (a<0)<;>cases g2:decide (b<0)
  ·rw[g1,g2] at ht;refine aE (n2 g1 g2) ?_;refine gX ?_;refine zE ?_;exact zO [.tmp 4] (hq:=by (try simp only[aC,ab]);first | done | (rw[ht];rfl))
  ·rw[g1,g2] at ht;refine aE (n2 g1 g2) ?_;refine zY ?_;refine aE @rF ?_;refine zE ?_;exact zO [.tmp 4] (hq:=by (try simp only[aC,ab]);first | done | (rw[ht];rfl))
  ·rw[g1,g2] at ht;refine aE (n2 g1 g2) ?_;refine zY ?_;refine aE @rF ?_;refine zE ?_;exact zO [.tmp 4] (hq:=by (try simp only[aC,ab]);first | done | (rw[ht];rfl))
  ·rw[g1,g2] at ht;refine aE (n2 g1 g2) ?_;refine gX ?_;refine zE ?_;exact zO [.tmp 4] (hq:=by (try simp only[aC,ab]);first | done | (rw[ht];rfl))
 ·rw[if_neg h1] at ht;by_cases h2:hi=0
  ·refine aE (n4 @QZ @PD (show decide ((hi:Int)=0)=true by simp;omega) (show decide ((lo:Int)<=1000000000000)=false by simp;omega)) ?_;refine zN ?_;cases g1:decide (a<0)<;>cases g2:decide (b<0)
   ·rw[g1,g2] at ht;refine aE (n2 g1 g2) ?_;refine gX ?_;refine zE ?_;exact zO [.tmp 4] (hq:=by (try simp only[aC,ab]);first | done | (rw[ht];rfl))
   ·rw[g1,g2] at ht;refine aE (n2 g1 g2) ?_;refine zY ?_;refine aE @rF ?_;refine zE ?_;exact zO [.tmp 4] (hq:=by (try simp only[aC,ab]);first | done | (rw[ht];rfl))
   ·rw[g1,g2] at ht;refine aE (n2 g1 g2) ?_;refine zY ?_;refine aE @rF ?_;refine zE ?_;exact zO [.tmp 4] (hq:=by (try simp only[aC,ab]);first | done | (rw[ht];rfl))
   ·rw[g1,g2] at ht;refine aE (n2 g1 g2) ?_;refine gX ?_;refine zE ?_;exact zO [.tmp 4] (hq:=by (try simp only[aC,ab]);first | done | (rw[ht];rfl))
  ·refine aE (n3 @QZ @PD (show decide ((hi:Int)=0)=false by simp;omega)) ?_;refine zN ?_;cases g1:decide (a<0)<;>cases g2:decide (b<0)
   ·rw[g1,g2] at ht;refine aE (n2 g1 g2) ?_;refine gX ?_;refine zE ?_;exact zO [.tmp 4] (hq:=by (try simp only[aC,ab]);first | done | (rw[ht];rfl))
   ·rw[g1,g2] at ht;refine aE (n2 g1 g2) ?_;refine zY ?_;refine aE @rF ?_;refine zE ?_;exact zO [.tmp 4] (hq:=by (try simp only[aC,ab]);first | done | (rw[ht];rfl))
   ·rw[g1,g2] at ht;refine aE (n2 g1 g2) ?_;refine zY ?_;refine aE @rF ?_;refine zE ?_;exact zO [.tmp 4] (hq:=by (try simp only[aC,ab]);first | done | (rw[ht];rfl))
   ·rw[g1,g2] at ht;refine aE (n2 g1 g2) ?_;refine gX ?_;refine zE ?_;exact zO [.tmp 4] (hq:=by (try simp only[aC,ab]);first | done | (rw[ht];rfl))
theorem HF(a b c d:Int):PC Tryz.prog 233 [kJ a b,kJ c d] (·=nj (eW yn a b c d)):=by
 refine pB 8 Tryz.func233 ?_;refine aE @kJ.eq_1 ?_;refine zC ?_;refine zK (uM 238 yn H3 a b c d) ?_;refine cS (n2 @nj.eq_1 @kJ.eq_1) ?_;refine zE ?_;exact zO [.cell 4 72]
def NV(a b:Int):Int:=dH .i64 (a*b)
def EX(a b:Int):Int:=dH .i64 (a.tdiv b)
theorem o5{P:Program}{t:TypeId}(a b:Int):cM P .mul t (.int .i64 a) (.int .i64 b)=some (.int .i64 (NV a b)):=rfl
theorem Ld{P:Program}{t:TypeId}{a b:Int}(h:¬b=0):cM P .quo t (.int .i64 a) (.int .i64 b)=some (.int .i64 (EX a b)):=by
 have:LM b=false:=by
  cases b with
  | ofNat n=>
   cases n with
   | zero=>exact absurd rfl h
   | succ n=>rfl
  | negSucc n=>rfl
 unfold cM;simp only[this];rfl
def pn(a b:Int):Int:=if b=0 then 0 else if (!(decide (NV (EX a b) b=a)))&&((decide (a<0)) != (decide (b<0))) then yl (EX a b) 1 else EX a b
theorem gI(a b:Int):PC Tryz.prog 240 [aa a,aa b] (·=aa (pn a b)):=by
 refine pB 26 Tryz.func240 ?_;refine zV ?_;cases h0:decide (b=0);rotate_left
 ·refine aE h0 ?_;refine cE ?_;refine zE ?_;exact zO [.tmp 4] (hq:=by (try simp only[aC,ab]);first | done | (rw[pn,if_pos (of_decide_eq_true h0)]))
 have h0':=of_decide_eq_false h0;refine aE h0 ?_;refine zN ?_;refine zs ?_;refine ai.r0 (by rfl) (by simp only[bx,aX,an,aw,bind_some,map_some,↓reduceIte,reduceEqDiff,reduceAdd,reduceMul,reduceLeDiff,reduceLT,ah,ao,aP,Ld h0'];first | done | rfl) ?_
 have hf:pn a b=if (!(decide (NV (EX a b) b=a)))&&((decide (a<0)) != (decide (b<0))) then yl (EX a b) 1 else EX a b:=by rw[pn,if_neg h0']
 cases h1:decide (NV (EX a b) b=a);rotate_left
 ·rw[h1] at hf;refine zs ?_;refine ai.r0 (by rfl) (gY (n2 @o5 h1)) ?_;refine zs ?_;refine ai.no rfl ?_;(try (refine ai.skip ?_;try change ai _ _ _ _ _));refine zs ?_;refine ai.r0 (by rfl) zl ?_;refine zE ?_;exact tH.of (rs:=[.tmp 4]) rfl rfl zl (Wk.refl rfl) (by (try simp only[aC,ab]);first | done | (rw[hf];rfl))
 cases g1:decide (a<0)<;>cases g2:decide (b<0)<;>rw[h1,g1,g2] at hf
 ·refine zs ?_;refine ai.r0 (by rfl) (gY (n4 @o5 h1 g1 g2)) ?_;refine gX ?_;refine zE ?_;exact zO [.tmp 4] (hq:=by (try simp only[aC,ab]);first | done | (rw[hf];rfl))
 ·refine aE (n4 @o5 h1 g1 g2) ?_;refine zY ?_;refine aE @o7 ?_;refine zV ?_;refine zE ?_;exact zO [.tmp 4] (hq:=by (try simp only[aC,ab]);first | done | (rw[hf];rfl))
 ·refine aE (n4 @o5 h1 g1 g2) ?_;refine zY ?_;refine aE @o7 ?_;refine zV ?_;refine zE ?_;exact zO [.tmp 4] (hq:=by (try simp only[aC,ab]);first | done | (rw[hf];rfl))
 ·refine aE (n4 @o5 h1 g1 g2) ?_;refine gX ?_;refine zE ?_;exact zO [.tmp 4] (hq:=by (try simp only[aC,ab]);first | done | (rw[hf];rfl))
abbrev cC:SV:=.a (.slice none 0 0 (some 0))
theorem rR{n k:Nat}{c:Option Nat}{q:IntKind}(h:k<=n):cF n c none (some (.int q (k:Int))) none=some (0,k,c):=by
 unfold cF mF ny;simp only[kM,bind_some,ek h,Bool.true_or,ah]
theorem tN{n k:Nat}{c:Option Nat}{q:IntKind}(h:k<=n):cF n c (some (.int q (k:Int))) none none=some (k,n,c):=by
 unfold cF mF;simp only[kM,bind_some,ek h,ah]
theorem qA(a:Int)(h : -9223372036854775808<=a/\a<=9223372036854775807):cM Tryz.prog .sub 3 (.int .i64 a) (.int .i64 ((0:Nat):Int))=some (.int .i64 a):=by
 have:=we (P:=Tryz.prog) (t:=3) (a:=a) (b:=((0:Nat):Int)) (by simpa using h);rw[this];simp
theorem BB(n:Nat):(rep [AV.str []] n).map SV.a=(List.replicate n []).flatMap (az ak):=by
 induction n with
 | zero=>rfl
 | succ n ih=>rw[rep,List.map_append,ih];rfl
theorem xZ(l:List (List Nat)):(l.flatMap (az ak)).all dU=true:=by
 induction l with
 | nil=>rfl
 | cons a l ih=>rw[List.flatMap_cons,List.all_append,ih];rfl
theorem ly(l:List (List Nat)):(l.flatMap (az ak)).length=l.length:=by
 induction l with
 | nil=>rfl
 | cons a l ih=>rw[List.flatMap_cons,List.length_append,ih,length_cons];show 1+_=_;omega
theorem CI(n:Nat)(h0:0<n)(hb:n<=1000000):SC Tryz.prog 182 [cC,aa n] [] [] (λr S'=>r=.buf 0 0 1 none/\S'=[.cells ((List.replicate n []).flatMap (az ak))]):=by
 refine Jl 27 Tryz.func182 ?_
 have h1:decide ((n:Int)<0)=false:=by simp
 have h2:decide (0<(n:Int))=true:=by simp;omega
 have h3:¬n=0:=by omega
 refine zV ?_;refine aE h1 ?_;refine zN ?_;refine aE (n2 (qA ((0:Nat):Int) (by decide)) (qA n ⟨by omega,by omega⟩)) ?_;refine aE h2 ?_;refine zY ?_;refine zs ?_;refine ai.r0 (by rfl) (by simp only[bx,aX,an,aw,bind_some,map_some,↓reduceIte,reduceEqDiff,reduceAdd,reduceMul,reduceLeDiff,reduceLT,ah,ao,aP,rR (zero_le 0),rR (zero_le n),hb,h3,BB,xZ,Nat.sub_self,nD];first | done | rfl) ?_;refine zs ?_;refine ai.r0 (by rfl) zl ?_;refine zE ?_;exact KO.of (rs:=[.tmp 4]) rfl rfl zl (by (try simp only[aC,ab]);first | done | (first | exact⟨rfl,rfl⟩ | exact⟨trivial,trivial⟩ | trivial)) zd zg
theorem zJ:SC Tryz.prog 182 [cC,aa 0] [] [] (λr S'=>r=cC/\S'=[]):=by
 refine Jl 27 Tryz.func182 ?_;refine kQ ?_;refine zN ?_;refine aE (n2 (qA ((0:Nat):Int) (by decide)) (qA 0 (by decide))) ?_;refine Gl ?_;refine zV ?_;refine zE ?_;exact zP [.tmp 4]
end Go.Proofs
