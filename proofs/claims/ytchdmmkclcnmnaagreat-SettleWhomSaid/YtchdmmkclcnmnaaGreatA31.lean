/- Lemmas of this claim, each with its conditions. -/
import Derived.Test.YtchdmmkclcnmnaaGreatA30
import Derived.Test.YtchdmmkclcnmnaaGreatA22
import Derived.Test.YtchdmmkclcnmnaaGreatA21
import Derived.Test.YtchdmmkclcnmnaaGreatA19
import Derived.Test.YtchdmmkclcnmnaaGreatA18
set_option linter.all false
open List (length_nil all_eq_true map_nil)
open Nat renaming reduceLeDiff -> aa, reduceEqDiff -> ac, reduceAdd -> ad, reduceMul -> ap, reduceLT -> ax, reduceSub -> a9, not_lt_zero -> bc, le_refl -> be, mul_one -> bh, le_trans -> bo
open Option renaming bind_some -> aj, map_some -> al, isSome_some -> bd
open List renaming length_map -> ay, length_append -> aS, getElem?_map -> a0, getElem?_eq_getElem -> a1, length_cons -> a2, find?_eq_some_iff_getElem -> a3, ext_getElem? -> a4, take_length -> a6, mem_of_getElem? -> a7, replicate -> a8, find?_eq_none -> ba, all_append -> bi, map_append -> bk
open Int renaming tmod_eq_emod_of_nonneg -> a5
open Bool renaming and_eq_true -> bb
namespace Go.Proofs
open Go.Ev
set_option maxRecDepth 100000
def bK(w:Wy):List SV:=[ae w.kind,ae w.cH,ab w.days,ab w.km,ab w.vJ]
def cF(c:Co):List SV:=[ae c.part,ae c.owner,ab c.day,ab c.am]
def iZ(w:Wy):bK w=[ae w.kind,ae w.cH,ab w.days,ab w.km,ab w.vJ]:=rfl
def da(c:Co):cF c=[ae c.part,ae c.owner,ab c.day,ab c.am]:=rfl
def CG(n:Int):PC Tryz.prog 66 [ab n] (·=az (FV n)):=by
 refine pB 9 Tryz.func66 ?_;unfold FV;refine zV ?_;cases g:decide (0<=n)
 ·refine aC g ?_;exact zo [.tmp 2]
 ·refine aC g ?_;exact zo [.tmp 2]
def GY(n:Int):PC Tryz.prog 67 [ab n] (·=az (xp n)):=by
 refine pB 9 Tryz.func67 ?_;unfold xp;refine zV ?_;cases g:decide (0<=n)
 ·refine aC g ?_;exact zo [.tmp 2]
 ·refine aC g ?_;exact zo [.tmp 2]
set_option maxHeartbeats 4000000 in
def wZ(ws:List Wy)(c:Co)(hw:∀w∈ws,w.fits)(hc:c.fits)(hlen:ws.length<=1000):PC Tryz.prog 34 [ak 5 ws bK,.ag (cF c)] (·=az (ee ws c)):=by
 refine pB 70 Tryz.func34 ?_;rw[da];refine zV ?_;refine ar.fg (Fg.freeze (f':=[(0,ak 5 ws bK),(3,.ip [ae c.part,ae c.owner,ab c.day,ab c.am])]) 0 rfl (λh=>by cases h) (rK @ak.eq_1)) ?_;refine ar.fg (st':=⟨[(0,ak 5 ws bK),(3,.ip [ae c.part,ae c.owner,ab c.day,ab c.am])],70,[],[]⟩) zH ?_
 (try change ar _ _ _ _ _)
 refine lC ?_;refine zV ?_
 have hlen6:ws.length<=1000000:=by omega
 refine zs ?_;refine zL ws (λk=>(ws.take k).all Wy.ok=true) (λk=>[(3,.ip [ae c.part,ae c.owner,ab c.day,ab c.am]),(5,.fn 66 [] []),(6,.fn 67 [] []),(9,ak 5 ws bK),(10,ab ws.length),(11,ab k)]) (λk=>[]) zH zp ?_;intro k hk hall;refine zT ws k ?_ ?_;rintro rfl;rotate_left;intro w hx hlt;rotate_left
 ·refine dZ ?_;rw[a6] at hall
  have hN:ee ws c=c.ok:=by rw[ee,hall];rfl
  rw[hN];unfold Co.ok;refine zC ?_;refine zK (fj c.part ⟨hc.p,hc.pb⟩) ?_;cases h1:cD c.part
  ·refine zR ?_;exact zo [.tmp 4]
  refine zQ ?_;refine zK (fj c.owner ⟨hc.o,hc.ob⟩) ?_;cases h2:cD c.owner
  ·refine zR ?_;exact zo [.tmp 4]
  refine zQ ?_;refine zK (CG c.day) ?_;cases h3:FV c.day
  ·refine zR ?_;exact zo [.tmp 4]
  refine zQ ?_;refine zK (GY c.am) ?_;refine zR ?_;exact zo [.tmp 4]
 have hwm:=a7 hx;have hwf:=hw w hwm
 have hbad:w.ok=false->ee ws c=false:=λh=>by
  have:ws.all Wy.ok=false:=Bool.eq_false_iff.2 λh2=>by
   have:=all_eq_true.1 h2 w hwm;rw[h] at this;cases this
  rw[ee,this];rfl
 have hgood:w.ok=true->(ws.take (k+1)).all Wy.ok=true:=λh=>by
  rw[br hx,bi,hall];show(true&&(w.ok&&true))=true;rw[h];rfl
 refine eQ ?_;refine aC (n3 hlt (aG (e:=5) (enc:=bK) (λ_=>rfl) hx) @iZ) ?_;refine zC ?_;refine zK (fj w.kind ⟨hwf.k,hwf.kb⟩) ?_;cases h1:cD w.kind
 ·refine zR ?_;refine cL ?_;exact zo [.tmp 4] (hq:=by rw[hbad (by rw[Wy.ok,h1];rfl)])
 refine zQ ?_;refine zK (fj w.cH ⟨hwf.m,hwf.mb⟩) ?_;cases h2:cD w.cH
 ·refine zR ?_;refine cL ?_;exact zo [.tmp 4] (hq:=by rw[hbad (by rw[Wy.ok,h1,h2];rfl)])
 refine zQ ?_;refine zK (CG w.days) ?_;cases h3:FV w.days
 ·refine zR ?_;refine cL ?_;exact zo [.tmp 4] (hq:=by rw[hbad (by rw[Wy.ok,h1,h2,h3];rfl)])
 refine zQ ?_;refine zK (GY w.km) ?_;cases h4:xp w.km
 ·refine zR ?_;refine cL ?_;exact zo [.tmp 4] (hq:=by rw[hbad (by rw[Wy.ok,h1,h2,h3,h4];rfl)])
 cases h5:decide (w.vJ<0);rotate_left
 ·refine cM h5 ?_;refine cL ?_;exact zo [.tmp 4] (hq:=by rw[hbad (by rw[Wy.ok,show decide (0<=w.vJ)=false by have:=ww h5;simp;omega];simp)])
 cases h6:decide (100<w.vJ);rotate_left
 ·refine cM (n2 h5 h6) ?_;refine cL ?_;exact zo [.tmp 4] (hq:=by rw[hbad (by rw[Wy.ok,show decide (w.vJ<=100)=false by have:=ww h6;simp;omega];simp)])
 refine cM (n2 h5 h6) ?_;refine zN ?_
 have hok:w.ok=true:=by
  have:=wt h5;have:=wt h6;rw[Wy.ok,h1,h2,h3,h4,show decide (0<=w.vJ)=true by simp;omega,show decide (w.vJ<=100)=true by simp;omega];rfl
 refine aC (zi hlt hlen6) ?_;refine zX hlt zH (hgood hok)
def sa(x lo hi:Int):PC Tryz.prog 119 [ab x,ab lo,ab hi] (·=az (decide (lo<=x)&&decide (x<=hi))):=by
 refine pB 15 Tryz.func119 ?_;refine zV ?_;cases g:decide (lo<=x)
 ·refine aC g ?_;exact zo [.tmp 6]
 ·refine aC g ?_;exact zo [.tmp 6]
def Bw(a p:Int)(ha:0<=a/\a<=1000000000000)(hp:0<=p/\p<=100):PC Tryz.prog 72 [ab a,ab p] (·=.bE [ab (pZ a p),ab 0]):=by
 refine pB 40 Tryz.func72 ?_;obtain⟨m1,m2⟩:=KB ha hp;have hm:=xO (P:=Tryz.prog) (t:=3) (a:=a) (b:=p) ⟨by omega,by omega⟩
 have hpn:pZ a p=if 100<2*(a*p%100)\/(2*(a*p%100)=100/\a*p/100%2≠0) then a*p/100+1 else a*p/100:=rfl
 rw[hpn];clear hpn;generalize a*p=m at *;have t1:m.tdiv 100=m/100:=Int.tdiv_eq_ediv_of_nonneg m1;have t2:m.tmod 100=m%100:=a5 m1;have hq:=PM (P:=Tryz.prog) (t:=3) (a:=m) (b:=100) (by decide) (by rw[t1];omega);have hr:=J9 (P:=Tryz.prog) (t:=3) (a:=m) (b:=100) (by decide);rw[t1] at hq;rw[t2] at hr;have h2:=xO (P:=Tryz.prog) (t:=3) (a:=2) (b:=m%100) ⟨by omega,by omega⟩;have t3:(m/100).tmod 2=m/100%2:=a5 (by omega);have hr2:=J9 (P:=Tryz.prog) (t:=3) (a:=m/100) (b:=2) (by decide);rw[t3] at hr2;refine kD ?_;refine zK (sa a 0 1000000000000) ?_;rw[show(decide (0<=a)&&decide (a<=1000000000000))=true by simp;omega];refine zQ ?_;refine zK (sa p 0 100) ?_;rw[show(decide (0<=p)&&decide (p<=100))=true by simp;omega];refine zR ?_;refine zN ?_;refine aC (n3 hm hq hr) ?_;cases c1:decide (100<2*(m%100))
 ·have c1':=wt c1;cases c2:decide (2*(m%100)=100)
  ·have c2':=wt c2;refine aC (n3 h2 c1 c2) ?_;refine iK ?_;exact iA [.tmp 4,.tmp 5] (hq:=by rw[un (by omega)])
  ·have c2':=ww c2;cases c3:decide (m/100%2=0)
   ·have c3':=wt c3;refine aC (n5 h2 hr2 c1 c2 c3) ?_;refine zY ?_;refine zs ?_;refine ar.r0 (by rfl) (gQ (bA (m/100) 1 (by omega))) ?_;refine zV ?_;exact iA [.tmp 4,.tmp 5] (hq:=by rw[ul (by omega)])
   ·have c3':=ww c3;refine aC (n5 h2 hr2 c1 c2 c3) ?_;refine iK ?_;exact iA [.tmp 4,.tmp 5] (hq:=by rw[un (by omega)])
 ·have c1':=ww c1;refine aC (n2 h2 c1) ?_;refine zY ?_;refine zs ?_;refine ar.r0 (by rfl) (gQ (bA (m/100) 1 (by omega))) ?_;refine zV ?_;exact iA [.tmp 4,.tmp 5] (hq:=by rw[ul (by omega)])
def Hu(day fr:Int)(hd:0<=day/\day<=40000):PC Tryz.prog 173 [ab day,ab fr] (·=.ag [ab (kU day fr),ab (kU day fr)]):=by
 refine pB 19 Tryz.func173 ?_;refine zV ?_;cases g:decide (day<=fr)
 ·have hg:=wt g
  have hs:kU day fr=day-(if day-1000000000000<=fr then fr else day-1000000000000):=by rw[kU,un hg]
  have hm:dX fr (day-1000000000000)=if day-1000000000000<=fr then fr else day-1000000000000:=rfl
  rw[<-hm] at hs
  have hb:fr<=dX fr (day-1000000000000)/\day-1000000000000<=dX fr (day-1000000000000)/\dX fr (day-1000000000000)<=40000:=by unfold dX;split<;>omega
  rw[hs];have hx:=fw fr (day-1000000000000);generalize dX fr (day-1000000000000)=m at hb hx;refine aC g ?_;refine zN ?_;refine aC (n3 (Lo (P:=Tryz.prog) (t:=3) (show -9223372036854775808<=day-1000000000000/\day-1000000000000<=9223372036854775807 from⟨by omega,by omega⟩)) hx (Lo (P:=Tryz.prog) (t:=3) (show -9223372036854775808<=day-m/\day-m<=9223372036854775807 from⟨by omega,by omega⟩))) ?_;refine zV ?_;exact zo [.cell 4 54]
 ·have hs:kU day fr=0:=by rw[kU,ul (ww g)]
  rw[hs];refine aC g ?_;refine cL ?_;exact zo [.cell 4 54]
def MF(p:aH)(day:Int)(hd:0<=day/\day<=40000):PC Tryz.prog 178 [.ag (ah p),ab day,.ip [.fn 173 [] []]] (·=.ag [ab (kU day p.made),ab (kU day p.made)]):=by
 refine pB 11 Tryz.func178 ?_;refine aC @ah.eq_1 ?_;refine zC ?_;refine zK (Hu day p.made hd) ?_;refine zR ?_;exact zo [.cell 5 54]
abbrev Rn:=List (List Nat×SV)
def o4{S:List SO}{o:Nat}{l:Rn}(s:List Nat)(u:SV)(hS:S[o]?=some (bz AV.str id l)):fv Tryz.prog S 216 (.map o) (.a (.str s)) u=some (S.set o (bz AV.str id (cw s u l))):=
 GG (uv:=id) (kt:=9) (et:=214) (by simp only[aw]) fz hS rfl u
def PO:SV:=.ip [.fn 173 [] []]
def Nz:Rn:=cw [97,103,101] (.fn 178 [] [PO]) (cw [100,97,121,115] (.fn 177 [] [PO]) (cw [100,97,109,97,103,101] (.fn 176 [] []) (cw [99,121,99,108,101,115] (.fn 175 [] []) (cw [107,109] (.fn 174 [] []) []))))
def Je:PC Tryz.prog 118 [] (·=nZ AV.str id Nz):=by
 refine pB 6 Tryz.func118 ?_;refine lC ?_;refine ar.fg (Fg.freeze (f':=[(1,.ip [.fn 173 [] []])]) 0 rfl (λh=>by cases h) zG) ?_;refine ar.fg (st':=⟨[(1,.ip [.fn 173 [] []])],6,[],[]⟩) zH ?_
 (try change ar _ _ _ _ _)
 have hm0:SO.map [] [] none=bz AV.str (id:SV->SV) []:=rfl;have p1:=λu=>o4 (S:=[bz AV.str id []]) (o:=0) (l:=[]) [107,109] u rfl;have p2:=λ(l:Rn) u=>o4 (S:=[bz AV.str id l]) (o:=0) (l:=l) [99,121,99,108,101,115] u rfl;have p3:=λ(l:Rn) u=>o4 (S:=[bz AV.str id l]) (o:=0) (l:=l) [100,97,109,97,103,101] u rfl;have p4:=λ(l:Rn) u=>o4 (S:=[bz AV.str id l]) (o:=0) (l:=l) [100,97,121,115] u rfl;have p5:=λ(l:Rn) u=>o4 (S:=[bz AV.str id l]) (o:=0) (l:=l) [97,103,101] u rfl;refine aC (n7 hm0 p1 p2 p3 p4 p5 @List.set_cons_zero.{0}) ?_;refine zE ?_;exact sf.of (rs:=[.tmp 0]) (r:=nZ AV.str id Nz) rfl rfl zl (by exact .map rfl (bp.refl rfl)) zq
def JB{S:List SO}{l:Rn}(s:List Nat)(ok:Bool):dW Tryz.prog S 216 (nZ AV.str id l) (.a (.str s)) ok=some (cond ok (.bE [getM (Ap (.fp)) s l,az (dy s l)]) (getM (Ap (.fp)) s l)):=
 Ob (uv:=id) (u0:=Ap (.fp)) (k:=s) (kt:=9) (et:=214) (z:=.fp) (by simp only[aw]) fz (by kernel_rfl) rfl rfl ok
def Uw:List Nat:=[97,103,101]
def HL(p:aH)(day:Int)(hd:0<=day/\day<=40000):PC Tryz.prog 70 [.ag (ah p),ae [97,103,101],ab day] (·=.bE [.ag [ab (kU day p.made),ab (kU day p.made)],ab 0]):=by
 refine pB 32 Tryz.func70 ?_;refine aC @ah.eq_1 ?_;refine ar.fg (Fg.freeze (f':=[(1,ae [97,103,101]),(2,ab day),(3,.ip (ah p)),(6,.ptr 1 0),(7,ab 0)]) 0 rfl (λh=>by cases h) (rK @ah.eq_1)) ?_
 (try change ar _ _ _ _ _)
 have hg:getM (Ap (.fp)) [97,103,101] Nz=.fn 178 [] [PO]:=rfl;have hh:dy [97,103,101] Nz=true:=rfl;refine zC ?_;refine zK Je ?_ (hfl:=.inr (bp.refl rfl));refine aI.r0 (by rfl) (by simp only[bP,bg,ak,aw,aj,al,↓reduceIte,ac,ad,ap,aa,ax,ai,an,aU,JB (l:=Nz) [97,103,101],hg,hh];first | done | rfl) ?_;refine zB ?_;refine H2 ?_;refine aC (n2 (show decide (day<0)=false by simp only[wp];omega) (show decide (40000<day)=false by simp only[wp];omega)) ?_;refine zN ?_;refine gG (n2 @ah.eq_1 @PO.eq_1) ?_;refine zK (MF p day hd) ?_;refine zR ?_;exact iA [.cell 6 54,.tmp 7]
def mI(ps:List aH)(name:List Nat):Option aH:=ps.find? λp=>decide (p.name=name)
def NO{ps:List aH}{name:List Nat}{k:Nat}{p:aH}(hx:ps[k]?=some p)(hp:p.name=name)(hb:((ps.take k).all λp=>!(decide (p.name=name)))=true):mI ps name=some p:=by
 unfold mI;rw[a3];obtain⟨hlt,he⟩:=List.getElem?_eq_some_iff.1 hx;refine⟨by simpa using hp,k,hlt,he,λj hj=>?_⟩;have h1:=all_eq_true.1 hb (ps[j]'(by omega)) (by rw[List.mem_iff_getElem?];exact⟨j,by rw[List.getElem?_take,ul hj];exact a1 (by omega)⟩);simpa using h1
def NP{ps:List aH}{name:List Nat}(hb:(ps.all λp=>!(decide (p.name=name)))=true):mI ps name=none:=by
 unfold mI;rw[ba];intro p hp;have h1:=all_eq_true.1 hb p hp;simpa using h1
def HX:List SV:=[ae [],ae [],ae [],ae [],ab 0,ab 0,az false,cN,ab 0,ab 0,ab 0,ab 0,ab 0,ab 0]
def Eg(ps:List aH)(name:List Nat)(hlen:ps.length<=1000000):PC Tryz.prog 68 [.ag [ak 14 ps ah],ae name] (·=oS ah aH.zero (mI ps name)):=by
 refine pB 22 Tryz.func68 ?_;refine zV ?_;refine ar.fg (Fg.freeze (f':=[(1,ae name),(2,.ip [ak 14 ps ah]),(4,.ptr 1 0)]) 0 rfl (λh=>by cases h) (rK @ak.eq_1)) ?_
 (try change ar _ _ _ _ _)
 refine zV ?_;refine zs ?_;refine zL ps (λk=>((ps.take k).all λp=>!(decide (p.name=name)))=true) (λk=>[(1,ae name),(4,.ptr 1 0),(9,ak 14 ps ah),(10,ab ps.length),(11,ab k)]) (λk=>[.gone,.cells HX]) (bL @HX.eq_1) zp ?_;intro k hk hall;refine zT ps k ?_ ?_;rintro rfl;rotate_left;intro p hx hlt;rotate_left
 ·refine dZ ?_;rw[a6] at hall;rw[NP hall];refine aC @HX.eq_1 ?_;exact iA [.cell 4 73,.tmp 5] (r:=.bE [.ag (ah aH.zero),az false]) (hw:=.bE (.cons (.ag (.cons (.a _) (.cons (.a _) (.cons (.a _) (.cons (.a _) (.cons (.a _) (.cons (.a _) (.cons (.a _) (.cons (.nil 2) (bp.refl rfl)))))))))) (bp.refl rfl)))
 refine eQ ?_;refine aC (n4 hlt (aG (e:=14) (enc:=ah) (λ_=>rfl) hx) @ah.eq_1 @HX.eq_1) ?_;cases he:decide (p.name=name)
 ·refine aC he ?_;refine zN ?_;refine aC (zi hlt hlen) ?_;refine zX hlt (bL (n2 @ah.eq_1 @HX.eq_1)) (by rw[br hx,bi,hall];show(true&&(!(decide (p.name=name))&&true))=true;rw[he];rfl)
 ·rw[NO hx (ww he) hall];refine aC he ?_;refine zY ?_;refine aC @ah.eq_1 ?_;exact iA [.cell 4 73,.tmp 5]
def Ju{l:List (Wy)}(p:Wy->Bool){fid:FuncId}{first cap:List SV}(hlen:l.length<=1000000)(hp:∀x∈l,PC Tryz.prog fid ((first++[.ag (bK x)])++cap) (·=az (p x)))(hg:cr first=true/\cr cap=true):PC Tryz.prog 71 [ak 5 l bK,.fn fid first cap] (·=ab (js p l)):=by
 refine pB 19 Tryz.func71 ?_;refine aC @ak.eq_1 ?_;refine zV ?_;refine zs ?_;refine zL l (λk=>∀(i:Nat) y,i<k->l[i]?=some y->p y=false) (λk=>[(0,.sl l.length 5 (l.flatMap bK)),(1,.fn fid first cap),(7,ab l.length),(8,ab k)]) (λk=>[]) zH zp ?_;intro k hk hall;refine zT l k ?_ ?_;rintro rfl;rotate_left;intro x hx hlt;rotate_left
 ·refine dZ ?_;refine zV ?_;exact zo [.tmp 4] (hq:=by rw[iC hall])
 ·refine eQ ?_;refine zV ?_;refine gG (n3 hlt (aG (e:=5) (enc:=bK) (λ_=>rfl) hx) @iZ) ?_;refine zK (hp x (List.mem_iff_getElem?.2 ⟨k,hx⟩)) ?_ (hwk:=((bp.refl hg.1).app (bp.refl rfl)).app (bp.refl hg.2));refine aI.nil ?_;change ar _ _ _ _ _;cases hpx:p x
  ·refine zN ?_;refine aC (zi hlt hlen) ?_;refine zX hlt zH ?_;intro i y hi hy;by_cases hik:i=k
   ·subst hik;rw[hx] at hy;cases hy;exact hpx
   ·exact hall i y (by omega) hy
  ·refine cL ?_;exact zo [.tmp 4] (hq:=by rw[lY hx hpx hall])
def I8(p:aH)(x:AV):Pt:=⟨p.name,p.kind,p.bN,p.slot,p.made,p.since,p.eI,x,p.l1,p.l2,p.l3,p.l4,p.l5,p.l6⟩
abbrev J8(l:List (List Nat×Int)):SV:=nZ AV.str ab l
def lQ(ws:List Wy)(ps:List aH)(c:Co):List (List Nat×Int):=o9 ws ((mI ps c.part).map λp=>I8 p kn) c
def Ee(w:Wy)(p:aH)(c:Co)(hd:0<=c.day/\c.day<=40000):PC Tryz.prog 69 [.ag (bK w),.ip (ah p),.ip (cF c)] (·=az (lU (I8 p kn) c w)):=by
 refine pB 35 Tryz.func69 ?_;have hv:=HL p c.day hd;rw[iZ,da];refine aC @ah.eq_1 ?_;refine zC ?_;refine zK hv ?_;refine zR ?_;have hN:lU (I8 p kn) c w=(decide (w.kind=p.kind)&&(decide (kU c.day p.made<=w.days)&&decide (p.l2<=w.km))):=rfl;rw[hN];cases g1:decide (w.kind=p.kind)
 ·refine aC g1 ?_;exact zo [.tmp 4]
 cases g2:decide (kU c.day p.made<=w.days)
 ·refine aC (n2 g1 g2) ?_;exact zo [.tmp 4]
 refine aC (n2 g1 g2) ?_;refine zE ?_;exact sf.of (rs:=[.tmp 4]) rfl rfl zl (Wk.refl rfl) zq
def wU{S:List SO}{o:Nat}{l:List (List Nat×Int)}(s:List Nat)(ok:Bool)(hS:S[o]?=some (bz AV.str ab l)):dW Tryz.prog S 101 (.map o) (.a (.str s)) ok=some (cond ok (.bE [ab (getM 0 s l),az (dy s l)]) (ab (getM 0 s l))):=
 Ce (uv:=ab) (u0:=0) (k:=s) (kt:=9) (et:=3) (z:=.int .i64 0) (by simp only[aw]) fz (by simp only[aw]) rfl hS rfl ok
def sQ{S:List SO}{o:Nat}{l:List (List Nat×Int)}(s:List Nat)(u:Int)(hS:S[o]?=some (bz AV.str ab l)):fv Tryz.prog S 101 (.map o) (.a (.str s)) (ab u)=some (S.set o (bz AV.str ab (cw s u l))):=
 GG (uv:=ab) (kt:=9) (et:=3) (by simp only[aw]) fz hS rfl u
def P6{α:Type}{p:α->Bool}{l:List α}:(l.find? p=none/\js p l = -1)\/∃(k:Nat) (x:α),l.find? p=some x/\l[k]?=some x/\js p l=(k:Int):=by
 cases h:l.findIdx? p with
 | none=>
  refine .inl ⟨?_,by unfold js;rw[h]⟩;rw[ba];intro x hx;rw[List.findIdx?_eq_none_iff.1 h x hx];decide
 | some k=>
  obtain⟨hlt,h1,h2⟩:=List.findIdx?_eq_some_iff_getElem.1 h;refine .inr ⟨k,l[k],?_,a1 hlt,by unfold js;rw[h]⟩;rw[a3];exact⟨h1,k,hlt,rfl,λj hj=>by have:=h2 j hj;simpa using this⟩
set_option maxHeartbeats 4000000 in
def uw(ws:List Wy)(ps:List aH)(c:Co)(hlw:ws.length<=1000)(hlp:ps.length<=100000)(hok:ee ws c=true):PC Tryz.prog 35 [ak 5 ws bK,.ag [ak 14 ps ah],.ag (cF c)] (·=.bE [J8 (lQ ws ps c),az (mI ps c.part).isSome]):=by
 have hko:(∀w∈ws,w.ok=true)/\c.ok=true:=by
  unfold ee at hok;rw[bb,all_eq_true] at hok;exact hok
 have hday:0<=c.day/\c.day<=40000:=by
  have:=hko.2;unfold Co.ok FV at this;simp only[bb,wr] at this;omega
 have hcov:=λ(p:aH) (w:Wy)=>Ee w p c hday;refine pB 65 Tryz.func35 ?_;rw[da];refine zV ?_;refine ar.fg (Fg.freeze (f':=[(0,ak 5 ws bK),(4,.ip [ak 14 ps ah]),(5,.ptr 1 0)]) 0 rfl (λh=>by cases h) (rK @ak.eq_1)) ?_;refine ar.fg (Fg.freeze (f':=[(0,ak 5 ws bK),(4,.ip [ak 14 ps ah]),(5,.ip (cF c))]) 1 rfl (λh=>by cases h) (rK (n2 @ak.eq_1 @da))) ?_;refine ar.fg (st':=⟨[(0,ak 5 ws bK),(4,.ip [ak 14 ps ah]),(5,.ip (cF c))],65,[],[]⟩) zH ?_
 (try change ar _ _ _ _ _)
 have hfi:=Eg ps c.part (by omega);have hbm:lQ ws ps c=o9 ws ((mI ps c.part).map λp=>I8 p kn) c:=rfl;generalize mI ps c.part=fo at hfi hbm
 obtain⟨p,hp⟩:∃p,oS ah aH.zero fo=.bE [.ag (ah p),az fo.isSome]/\∀q,fo=some q->q=p:=by
  cases fo with
  | none=>exact⟨aH.zero,rfl,λq h=>by cases h⟩
  | some q=>exact⟨q,rfl,λq h=>by cases h;rfl⟩
 rw[hp.1] at hfi;refine gG @da ?_;refine zK hfi ?_ (hfl:=.inr (bp.refl rfl));refine cM @ah.eq_1 ?_;refine ar.fg (Fg.freeze (f':=[(0,ak 5 ws bK),(5,.ip (cF c)),(8,.ip (ah p)),(9,az fo.isSome)]) 0 rfl (λh=>by cases h) (rK (n2 @ak.eq_1 @ah.eq_1))) ?_;refine ar.fg (st':=⟨[(0,ak 5 ws bK),(5,.ip (cF c)),(8,.ip (ah p)),(9,az fo.isSome)],65,[],[]⟩) zH ?_
 (try change ar _ _ _ _ _)
 have hm0:SO.map [] [] none=bz AV.str ab []:=rfl;refine zs ?_;refine ar.r0 (by rfl) (by simp only[bP,bg,ak,aw,aj,al,↓reduceIte,ac,ad,ap,aa,ax,ai,an,aU,da,hm0,sQ (l:=[])];first | done | rfl) ?_;refine ar.fg (st':=⟨[(0,ak 5 ws bK),(5,.ip (cF c)),(8,.ip (ah p)),(9,az fo.isSome),(10,.map 0)],65,[bz AV.str ab [(c.owner,c.am)]],[]⟩) (bL (n4 @bz.eq_1 @List.map_cons.{0,0} @map_nil.{0,0} @List.nil_append.{0})) ?_
 (try change ar _ _ _ _ _)
 refine kD ?_;refine zK (Ju (l:=ws) (lU (I8 p kn) c) (first:=[]) (cap:=[.ip (ah p),.ip (cF c)]) (by omega) (λx _=>hcov p x) ⟨rfl,rfl⟩) ?_;refine zR ?_
 cases hfo:fo with
 | none=>
  rw[hfo] at hbm;refine zs ?_;refine ar.r0 (by rfl) (by simp only[bP,bg,ak,aw,aj,al,↓reduceIte,ac,ad,ap,aa,ax,ai,an,aU,Option.isSome_none];first | done | rfl) ?_;refine zN ?_;refine aC hm0 ?_;exact iA [.tmp 6,.tmp 7] (r:=.bE [J8 [(c.owner,c.am)],az false]) (hw:=.bE (.cons (nU (λ_=>rfl) rfl) (bp.refl rfl))) (hq:=by rw[hbm];rfl)
 | some q=>
  have hq:=hp.2 q hfo;subst hq;rw[hfo,al] at hbm
  rcases P6 (p:=lU (I8 q kn) c) (l:=ws) with⟨h1,h2⟩ | ⟨k,w,h1,hx,h2⟩
  ·rw[h2]
   have hb:lQ ws ps c=[(c.owner,c.am)]:=by rw[hbm];simp only[o9,h1]
   refine zs ?_;refine ar.r0 (by rfl) (by simp only[bP,bg,ak,aw,aj,al,↓reduceIte,ac,ad,ap,aa,ax,ai,an,aU,bd];first | done | rfl) ?_;refine zN ?_;refine aC hm0 ?_;exact iA [.tmp 6,.tmp 7] (r:=.bE [J8 [(c.owner,c.am)],az true]) (hw:=.bE (.cons (nU (λ_=>rfl) rfl) (bp.refl rfl))) (hq:=by rw[hb];rfl)
  ·rw[h2];obtain⟨_,hamr,hpr⟩:=Cu (hko.1 w (a7 hx)) hko.2;have hpb:=KQ hamr hpr;have hpc:=Bw c.am w.vJ hamr hpr
   have hb:lQ ws ps c=cw w.cH (getM 0 w.cH (cw c.owner (c.am-pZ c.am w.vJ) [(c.owner,c.am)])+pZ c.am w.vJ) (cw c.owner (c.am-pZ c.am w.vJ) [(c.owner,c.am)]):=by rw[hbm];simp only[o9,h1]
   generalize pZ c.am w.vJ=n at hpb hpc hb
   have hg1:getM (0:Int) c.owner [(c.owner,c.am)]=c.am:=by simp[getM]
   have hgb:0<=getM (0:Int) w.cH (cw c.owner (c.am-n) [(c.owner,c.am)])/\getM (0:Int) w.cH (cw c.owner (c.am-n) [(c.owner,c.am)])<=1000000000000:=by
    rw[ja];split
    ·omega
    ·rename_i hne;rw[show getM (0:Int) w.cH [(c.owner,c.am)]=0 by simp[getM,hne]];omega
   have hlt:k<ws.length:=bD hx;generalize hB:cw c.owner (c.am-n) [(c.owner,c.am)]=B at hb hgb;generalize hgg:getM (0:Int) w.cH B=g at hb hgb;refine zs ?_;refine ar.r0 (by rfl) (by simp only[bP,bg,ak,aw,aj,al,↓reduceIte,ac,ad,ap,aa,ax,ai,an,aU,bd,show decide ((0:Int)<=(k:Int))=true by simp];first | done | rfl) ?_;refine zY ?_
   (repeat refine ar.seq ?_)
   refine zs ?_;refine oz [0,1,0,0,12,28,60,127,255,511,511,1023,4095] ?_;refine ni (n4 hlt (aG (e:=5) (enc:=bK) (λ_=>rfl) hx) @iZ @da) ?_;refine SD.k (by rfl) rfl rfl (by rfl) rfl rfl zc (hpc) (zw) rfl ?_;refine zD ?_;refine zM ?_;refine zs ?_;refine ar.r0 (by rfl) (by simp only[bP,bg,ak,aw,aj,al,↓reduceIte,ac,ad,ap,aa,ax,ai,an,aU,da,hm0,wU (l:=[(c.owner,c.am)]),hg1,xP (P:=Tryz.prog) (t:=3) (show -9223372036854775808<=c.am-n/\c.am-n<=9223372036854775807 from⟨by omega,by omega⟩),sQ (l:=[(c.owner,c.am)])];first | done | rfl) ?_;refine zs ?_;refine ar.r0 (by rfl) (by simp only[bP,bg,ak,aw,aj,al,↓reduceIte,ac,ad,ap,aa,ax,ai,an,aU,hlt,aG (e:=5) (enc:=bK) (λ_=>rfl) hx,iZ,wU (l:=B),sQ (l:=B),hB,hgg,q6 (P:=Tryz.prog) (t:=3) (show -9223372036854775808<=g+n/\g+n<=9223372036854775807 from⟨by omega,by omega⟩)];first | done | rfl) ?_;refine zs ?_;refine ar.r0 (by rfl) zl ?_;refine zE ?_;exact sf.of (rs:=[.tmp 6,.tmp 7]) (r:=.bE [J8 (cw w.cH (g+n) B),az true]) rfl rfl zl (by exact .bE (.cons (nU (λ_=>rfl) rfl) (bp.refl rfl))) (by (try simp only[dh,aW]);first | done | (rw[hb];rfl))
def Jx(L:List (List Nat×Int)):PC Tryz.prog 74 [nZ AV.str ab L] (·=.fn 121 [] [.ip [nZ AV.str ab L]]):=by
 refine pB 4 Tryz.func74 ?_;refine zV ?_;refine ar.fg (Fg.freeze (f':=[(1,.ip [nZ AV.str ab L])]) 0 rfl (λh=>by cases h) (rK @ak.eq_1)) ?_
 (try change ar _ _ _ _ _)
 refine zV ?_;exact zo [.tmp 2]
def ib(lc:gr):SO:=.loop lc .ready none [(2,.ptr 1 0)]
def IC(o:Nat)(lc:gr)(h:¬1=o):bQ o (ib lc)=ib lc:=by
 simp[ib,bQ,dJ,bf,Ev.names,h]
def xJ(lc:gr):Prop:=(Tryz.prog.funcs[(179:Nat)]?.bind λfn=>fn.body.bind oG)=some (lc.a,lc.b)
set_option maxHeartbeats 4000000 in
def Jw(L:List (List Nat×Int))(lc:gr)(hcd:xJ lc)(hln:lc.n=13)(hlp:lc.ps=#[7])(hlen:L.length<=100000)(hnd:(L.map (·.1)).Nodup):
 SC Tryz.prog 121 [.a (.fn (.yield lc.id) [] []),.ip [nZ AV.str ab L]] [ib lc,.cells [cN],.gone] [2] (λr S'=>r=.bE []/\∃out:List (List Nat),out.Perm (L.map (·.1))/\S'=[ib lc,.cells [bn 2 1 out.length],e8 out]):=by
 refine S4 14 Tryz.func121 ?_;have hk3:=IC 3 lc (by decide);refine zC ?_;refine aI.TC (ks:=L.map λe=>.str e.1) (vs:=L.map λe=>ab e.2) (by rfl) rfl rfl (by rfl) rfl (by simp only[aw]) ?_;intro bs c hbs;refine aI.r0 (by rfl) (by simp only[bP,bg,ak,aw,aj,al,↓reduceIte,ac,ad,ap,aa,ax,ai,an,aU,↓hk3];first | done | rfl) ?_
 (repeat refine ar.seq ?_)
 refine ar.block (ar.loop (λm st=>∃pos:List Nat,pos.Nodup/\(∀j∈pos,j<L.length)/\L.length-pos.length=m/\st=⟨[(0,.a (.fn (.yield lc.id) [] [])),(5,.ptr 3 0),(1000000,.ptr 0 0),(1000001,.ptr 1 0)],14,[ib lc,.cells [bn 2 1 (bq L pos).length],e8 ((bq L pos).map (·.1)),.oL (L.map λe=>.str e.1) (L.map λe=>ab e.2) bs c pos],[]⟩) L.length (bL (n6 @bq.eq_1 @List.filterMap_nil.{0,0} @map_nil.{0,0} @length_nil.{0} @eH @j6)) ⟨[],List.nodup_nil,λj hj=>by simp at hj,rfl,rfl⟩ (by rintro m st ⟨pos,_,_,_,rfl⟩;rfl) ?_);rintro m st ⟨pos,hpn,hpl,rfl,rfl⟩;refine ar.post ?_;refine zC ?_;refine aI.Tx (by rfl) rfl rfl (by rfl) rfl rfl (λj hj=>by rw[ay];exact hpl j hj) ?_ ?_
 ·intro hall;refine zR ?_;refine dZ ?_;refine⟨⟨[(1000000,.ptr 0 0),(1000001,.ptr 1 0)],14,[ib lc,.cells [bn 2 1 (bq L pos).length],e8 ((bq L pos).map (·.1))],[]⟩,zH,?_⟩;simp only[fV,dS,cE,cq,if_true];exact zP [] (hq:=by (try simp only[dh,aW]);first | done | (exact⟨trivial,(bq L pos).map (·.1),(mK hpn hpl (λj hj=>hall j (by rw[ay];exact hj))).map _,by rw[ay]⟩))
 ·intro j hj hjn;rw[ay] at hj;obtain⟨e,he⟩:∃e,L[j]?=some e:=⟨L[j],a1 hj⟩;obtain⟨q1,q2,q3⟩:=oU hpn hpl hj hjn;have hsn:=lh L pos he;refine zR ?_;refine eQ ?_;refine zC ?_;refine aI.Ts (k:=.str e.1) (v:=ab e.2) (by rfl) rfl rfl (by rfl) rfl rfl (by rw[a0,he];rfl) (by rw[a0,he];rfl) ?_;refine zR ?_;refine zC ?_;refine aI.fg (st':=⟨[(10,.a (.fn (.yield lc.id) [] [])),(11,ae e.1),(0,.a (.fn (.yield lc.id) [] [])),(5,.ptr 3 0),(1000000,.ptr 0 0),(1000001,.ptr 1 0)],14,[ib lc,.cells [bn 2 1 (bq L pos).length],e8 ((bq L pos).map (·.1)),.oL (L.map λe=>.str e.1) (L.map λe=>ab e.2) bs c (pos++[j])],[]⟩) zH ?_;refine aI.y (vs:=[ae e.1]) (oo:=0) (by rfl) rfl rfl (by rfl) rfl rfl rfl (by rfl) rfl (by rw[hlp];rfl) (by rw[hln];rfl) (by rw[hln];decide) (by rw[hlp,hln];rfl) λro'=>?_;have hcd2:=hcd;unfold xJ at hcd2;rw[Tryz.func179] at hcd2;have hcd3:=Option.some.inj (hcd2.symm.trans (by rfl));obtain⟨ha,hbb⟩:=Prod.mk.inj hcd3;rw[ha,hlp,hln];have hhl:(bq L pos).length=((bq L pos).map (·.1)).length:=(ay _).symm;rw[hhl]
  have hol:((bq L pos).map (·.1)).length<=100000:=by rw[<-hhl];exact bo (List.length_filterMap_le _ _) (by omega)
  generalize hout:(bq L pos).map (·.1)=out at hol;change ar _ _ _ ⟨[(7,ae e.1),(2,.ptr 1 0),(20000010,.a (.fn (.yield lc.id) [] [])),(20000011,ae e.1),(20000000,.a (.fn (.yield lc.id) [] [])),(20000005,.ptr 3 0),(21000000,.ptr 0 0),(21000001,.ptr 1 0)],13,[ib lc,.cells [bn 2 1 out.length],e8 out,.oL (L.map λe=>.str e.1) (L.map λe=>ab e.2) bs c (pos++[j])],[]⟩ _;refine zV ?_;refine⟨rfl,0,none,[(2,.ptr 1 0)],rfl,?_⟩;rw[hbb];refine zB ?_;change ar _ _ _ ⟨_,13,[.loop lc .busy none [(2,.ptr 1 0)],.cells [bn 2 1 out.length],e8 out,.oL (L.map λe=>.str e.1) (L.map λe=>ab e.2) bs c (pos++[j])],[]⟩ _;by_cases ho:out=[]
  ·have hE1:bn 2 1 (bq L (pos++[j])).length=.buf 2 1 1 none:=by rw[hsn,aS,hhl,hout,ho];rfl
   have hE2:e8 ((bq L (pos++[j])).map (·.1))=.cells [ae e.1]:=by rw[hsn,bk,hout,ho];rfl
   rw[ho,j6,show bn 2 1 ([]:List (List Nat)).length=cN from rfl];refine zV ?_;refine⟨rfl,0,.busy,none,[(2,.ptr 1 0)],rfl,?_⟩;simp only[uM,laid,aa,a9,↓reduceIte];refine aI.fg (st':=⟨[(12,az true),(0,.a (.fn (.yield lc.id) [] [])),(5,.ptr 3 0),(1000000,.ptr 0 0),(1000001,.ptr 1 0)],14,[ib lc,.cells [.buf 2 1 1 none],.cells [ae e.1],.oL (L.map λe=>.str e.1) (L.map λe=>ab e.2) bs c (pos++[j])],[]⟩) (Fg.rn (f':=[(12,az true),(0,.a (.fn (.yield lc.id) [] [])),(5,.ptr 3 0),(1000000,.ptr 0 0),(1000001,.ptr 1 0)]) (n:=14) (S':=[ib lc,.cells [.buf 2 1 1 none],.cells [ae e.1],.oL (L.map λe=>.str e.1) (L.map λe=>ab e.2) bs c (pos++[j])]) [0,1,5,3] (by decide) rfl (HY (n5 @ib.eq_1 @vd.eq_1 @vb.eq_1 @vc.eq_1 @uM.eq_1)) (HZ (n5 @ib.eq_1 @vd.eq_1 @vb.eq_1 @vc.eq_1 @uM.eq_1))) ?_;refine zR ?_;refine zN ?_;exact⟨⟨[(0,.a (.fn (.yield lc.id) [] [])),(5,.ptr 3 0),(1000000,.ptr 0 0),(1000001,.ptr 1 0)],14,[ib lc,.cells [.buf 2 1 1 none],.cells [ae e.1],.oL (L.map λe=>.str e.1) (L.map λe=>ab e.2) bs c (pos++[j])],[]⟩,(bL @ib.eq_1),L.length-(pos++[j]).length,_,by rw[aS];simp only[a2,length_nil];omega,(bL (n3 @ib.eq_1 hE1 hE2)),pos++[j],q1,q2,rfl,rfl⟩
  ·have hk1:¬out.length=0:=λh=>ho (List.length_eq_zero_iff.1 h)
   have hE1:bn 2 1 (bq L (pos++[j])).length=.buf 2 (out.length+1) 1 none:=by rw[hsn,aS,hhl,hout];exact bV (by simp)
   have hE2:e8 ((bq L (pos++[j])).map (·.1))=.cells ((out++[e.1]).flatMap (aA ae)):=by rw[hsn,bk,hout];exact ig (by simp)
   have hcl3:=aJ (enc:=aA ae) (e:=1) (λ_=>rfl) out;have hkc3:=λo=>aZ (enc:=aA ae) (λ_=>rfl) o out;have happ:=eh (enc:=aA ae) (e:=1) (λ_=>rfl) (λ_=>rfl) 2 out e.1;rw[show aA ae e.1=[ae e.1] from rfl,bh] at happ;rw[bh] at hcl3;rw[ig ho,bV hk1];refine aC (n6 hkc3 hcl3 @bh (show out.length<=1000000 by omega) @be happ) ?_;refine⟨rfl,0,.busy,none,[(2,.ptr 1 0)],rfl,?_⟩;simp only[uM,laid,aa,a9,↓reduceIte];refine aI.fg (st':=⟨[(12,az true),(0,.a (.fn (.yield lc.id) [] [])),(5,.ptr 3 0),(1000000,.ptr 0 0),(1000001,.ptr 1 0)],14,[ib lc,.cells [.buf 2 (out.length+1) 1 none],.cells ((out++[e.1]).flatMap (aA ae)),.oL (L.map λe=>.str e.1) (L.map λe=>ab e.2) bs c (pos++[j])],[]⟩) (bL (n5 @ib.eq_1 @uM.eq_1 @vd.eq_1 @vb.eq_1 @vc.eq_1)) ?_;refine zR ?_;refine zN ?_;exact⟨⟨[(0,.a (.fn (.yield lc.id) [] [])),(5,.ptr 3 0),(1000000,.ptr 0 0),(1000001,.ptr 1 0)],14,[ib lc,.cells [.buf 2 (out.length+1) 1 none],.cells ((out++[e.1]).flatMap (aA ae)),.oL (L.map λe=>.str e.1) (L.map λe=>ab e.2) bs c (pos++[j])],[]⟩,(bL @ib.eq_1),L.length-(pos++[j]).length,_,by rw[aS];simp only[a2,length_nil];omega,(bL (n3 @ib.eq_1 hE1 hE2)),pos++[j],q1,q2,rfl,rfl⟩
set_option maxHeartbeats 4000000 in
def GZ(L:List (List Nat×Int))(hlen:L.length<=100000)(hnd:(L.map (·.1)).Nodup):SC Tryz.prog 179 [cN,.fn 121 [] [.ip [nZ AV.str ab L]]] [] [] (λr S'=>∃out:List (List Nat),out.Perm (L.map (·.1))/\r=bn 0 1 out.length/\S'=[e8 out,.gone]):=by
 refine SC.rV (n:=13) dG Tryz.func179 rfl rfl (by decide) (W:=[]) rfl (by decide) ?_;refine lC ?_;refine ar.fg (st':=⟨[(2,.ptr 0 0),(6,.fn 121 [] [.ip [nZ AV.str ab L]])],13,[.cells [cN],.gone],[]⟩) zH ?_;refine zB ?_;refine ar.tW (f1:=[(2,.ptr 0 0)]) dG (by rfl) Tryz.func121 (by rfl) Tn ?_;rintro N lc hid hn hps ha hb
 have hcd:xJ lc:=by
  unfold xJ;rw[Tryz.func179,ha,hb];rfl
 have hsc:=Jw L lc hcd hn hps hlen hnd;refine⟨[3,0,1],_,_,_,_,hsc,?_,rfl,by decide,?_,?_⟩
 ·simp only[ef,bg,bP,ak,dJ,bf,↓reduceIte,ac,ad,a9,hid,List.map,List.append,List.cons_append,List.nil_append]
  try rfl
 ·rintro(_ | _ | _ | i) so h
  ·cases h;exact⟨3,rfl,by rfl⟩
  ·cases h;exact⟨0,rfl,by rfl⟩
  ·cases h;exact⟨1,rfl,by rfl⟩
  ·cases h
 rintro r S' ⟨rfl,out,hp,rfl⟩
 have hbn:∀n:Nat,dI 3 (bn 2 1 n)=true:=λn=>by
  unfold bn;split
  ·exact fF rfl
  ·rfl
 have hrn3:∀(B n:Nat),nk (jC [3,0,1] B) (.cells [bn 2 1 n])=.cells [bn 1 1 n]:=λB n=>by
  show SO.cells [fU _ _]=_;rw[dY];rfl
 refine⟨by simp only[ib,xw,ef,bg,ak,ad,ax,decide_true,↓iY,↓hbn];first | done | rfl,3,.ready,none,[(2,.ptr 0 0)],by rfl,by decide,by rfl,?_⟩
 have hS2:(fD (gO (gO [SO.cells [cN],SO.gone] (SO.ox N)) (SO.loop lc .ready none [(2,.ptr 0 0)])) [3,0,1] [2] [ib lc,.cells [bn 2 1 out.length],e8 out]).set 3 .gone=[.cells [bn 1 1 out.length],e8 out,.ox N,.gone]:=by
  simp only[fD,gO,dB,dQ,jt,jB,a2,length_nil,List.map,ay,aS,↓hrn3,↓eM];rfl
 rw[hS2];change ar _ _ _ ⟨[(2,.ptr 0 0)],13,[.cells [bn 1 1 out.length],e8 out,.ox N,.gone],[{ fn:=none,qe:=N,args:=[],cap:=[] }]⟩ _;refine zV ?_;refine ar.fg (st':=⟨[(4,bn 0 1 out.length)],13,[e8 out,.ox N],[{ fn:=none,qe:=N,args:=[],cap:=[] }]⟩) (Fg.rn (f':=[(4,bn 0 1 out.length)]) (n:=13) (S':=[e8 out,.ox N]) [1,2] (by decide) rfl (HY (n2 @dY @eM)) (HZ (n2 @dY @eM))) ?_;refine ar.ret ?_
 (try simp only[fV,dS,cE,cq])
 exact⟨rfl,[(4,bn 0 1 out.length)],⟨rfl,trivial⟩,rfl,.inl ⟨rfl,1,rfl,⟨[bn 0 1 out.length],by rfl,out,hp,rfl,rfl⟩,Nat.zero_le _,λi hi=>t8 hi (bc _)⟩⟩
def Bl(L:List (List Nat×Int))(hlen:L.length<=100000)(hnd:(L.map (·.1)).Nodup):SC Tryz.prog 120 [.fn 121 [] [.ip [nZ AV.str ab L]]] [] [] (λr S'=>∃out:List (List Nat),out.Perm (L.map (·.1))/\r=bn 0 1 out.length/\S'=[e8 out,.gone]):=by
 refine K6 5 Tryz.func120 ?_;refine kD ?_;refine aI.sc [] (by rfl) rfl rfl (by rfl) rfl zc (GZ L hlen hnd) (by simp only[ef,bg,ak];first | done | rfl) rfl (by decide) (λi so h=>by simp at h) ?_ ?_
 ·rintro r S' ⟨out,hp,rfl,rfl⟩;exact⟨jI 1 1 _,by simp only[xw,↓iY];first | done | rfl⟩
 ·rintro r S' ⟨out,hp,rfl,rfl⟩;have e1:fU (jC [] ([]:List SO).length) (bn 0 1 out.length)=bn 0 1 out.length:=dY _ 0 1 _
  have e2:fD [] [] [] [e8 out,.gone]=[e8 out,.gone]:=by
   simp only[fD,dQ,jt,jB,a2,length_nil,List.map,↓eM];rfl
  rw[e1,e2];refine aI.fg (st':=⟨[(4,bn 0 1 out.length)],5,[e8 out,.gone],[]⟩) zH ?_;refine zR ?_;refine zE ?_;exact zP [.tmp 2] (hq:=by (try simp only[dh,aW]);first | done | (exact⟨out,hp,rfl,rfl⟩))
def EK(L:List (List Nat×Int))(hlen:L.length<=100000)(hnd:(L.map (·.1)).Nodup)(hne:L≠[]):SC Tryz.prog 73 [.fn 121 [] [.ip [nZ AV.str ab L]]] [] [] (λr S'=>r=.buf 0 L.length 1 none/\S'=[.cells ((dM (L.map (·.1))).flatMap (aA ae))]):=by
 refine K6 9 Tryz.func73 ?_;refine kD ?_;refine aI.sc [] (by rfl) rfl rfl (by rfl) rfl zc (Bl L hlen hnd) (by simp only[ef,bg,ak];first | done | rfl) rfl (by decide) (λi so h=>by simp at h) ?_ ?_
 ·rintro r S' ⟨out,hp,rfl,rfl⟩;exact⟨jI 1 1 _,by simp only[xw,↓iY];first | done | rfl⟩
 ·rintro r S' ⟨out,hp,rfl,rfl⟩;have e1:fU (jC [] ([]:List SO).length) (bn 0 1 out.length)=bn 0 1 out.length:=dY _ 0 1 _
  have e2:fD [] [] [] [e8 out,.gone]=[e8 out,.gone]:=by
   simp only[fD,dQ,jt,jB,a2,length_nil,List.map,↓eM];rfl
  rw[e1,e2]
  have hol:out.length=L.length:=by rw[hp.length_eq,ay]
  have hon:out≠[]:=λe=>hne (List.length_eq_zero_iff.1 (by rw[<-hol,e];rfl));have hso:dM out=dM (L.map (·.1)):=sN hp;have hss:=sS out (by omega) hon;rw[hso,hol] at hss;have hcs:∀(r:Nat->Nat) (q:List (List Nat)),kh r (q.flatMap (aA ae))=q.flatMap (aA ae):=λr q=>aY (aB (λ_=>rfl) q);have hcb:∀(B:Nat) (q:List (List Nat)),fq B (q.flatMap (aA ae))=true:=λB q=>bC (aB (λ_=>rfl) q);have hck:∀(o:Nat) (q:List (List Nat)),(q.flatMap (aA ae)).map (bf o)=q.flatMap (aA ae):=λo q=>aZ (enc:=aA ae) (λ_=>rfl) o q;rw[ig hon,hol,bV (λh=>hne (List.length_eq_zero_iff.1 h))];refine aI.fg (st':=⟨[(5,.buf 0 L.length 1 none)],9,[.cells (out.flatMap (aA ae))],[]⟩) zH ?_;refine zR ?_;refine zC ?_;refine zS [0] (n3 hcs hcb hck) hss ?_;refine zR ?_;refine zV ?_;refine zE ?_;exact zP [.tmp 2]
def eu(s:Sh):List SV:=[ae s.pt,ab s.am]
def u9(s:Sh):(eu s).length=2:=rfl
def u7(s:Sh):cr (eu s)=true:=rfl
def iw{S:List SO}{l:List (List Nat×Int)}(s:List Nat)(ok:Bool):dW Tryz.prog S 101 (nZ AV.str ab l) (.a (.str s)) ok=some (cond ok (.bE [ab (getM 0 s l),az (dy s l)]) (ab (getM 0 s l))):=
 Ob (uv:=ab) (u0:=0) (k:=s) (kt:=9) (et:=3) (z:=.int .i64 0) (by simp only[aw]) fz (by simp only[aw]) rfl rfl ok
def kr(L:List (List Nat×Int)):List Sh:=uO L (dM (L.map (·.1)))
set_option maxHeartbeats 2000000 in
def AM(L:List (List Nat×Int))(hlen:L.length<=100000)(hnd:(L.map (·.1)).Nodup)(hne:L≠[]):PC Tryz.prog 36 [nZ AV.str ab L] (·=ak 2 (kr L) eu):=by
 refine pB 28 Tryz.func36 ?_;refine lC ?_;refine zC ?_;refine zK (Jx L) ?_ (hfl:=.inr (bp.refl rfl));have hso:=EK L hlen hnd hne;unfold kr
 have hkl:(dM (L.map (·.1))).length=L.length:=by rw[(qP _).length_eq,ay]
 generalize dM (L.map (·.1))=ks at hso hkl ⊢;have hcs:∀(r:Nat->Nat) (q:List (List Nat)),kh r (q.flatMap (aA ae))=q.flatMap (aA ae):=λr q=>aY (aB (λ_=>rfl) q);have hcb:∀(B:Nat) (q:List (List Nat)),fq B (q.flatMap (aA ae))=true:=λB q=>bC (aB (λ_=>rfl) q);refine zS [] (n2 hcs hcb) hso ?_;refine zR ?_;refine ar.fg (Fg.freeze (f':=[(0,nZ AV.str ab L),(3,cN),(8,ak 1 ks (aA ae)),(9,ab ks.length),(10,ab 0)]) 0 rfl (λh=>by cases h) ⟨.inl rfl,.inl rfl,.inr (by rw[lM 1 ks (aA ae),hkl];exact .buf rfl (by rw[<-hkl,cV (enc:=aA ae) (e:=1) (λ_=>rfl)];exact bp.refl (aB (λ_=>rfl) _)) (by rw[aJ (enc:=aA ae) (e:=1) (λ_=>rfl),hkl];exact be _)),.inl (by rw[hkl];rfl),.inl rfl,trivial⟩) ?_
 (try change ar _ _ _ _ _)
 have hlen6:ks.length<=1000000:=by omega
 refine zs ?_;refine zL ks (λk=>True) (λk=>[(0,nZ AV.str ab L),(3,bn 1 2 (uO L (ks.take k)).length),(8,ak 1 ks (aA ae)),(9,ab ks.length),(10,ab k)]) (λk=>qF 1 (uO L (ks.take k)) eu) (bL (n7 @List.take_zero.{0} @uO.eq_1 @List.filter_nil.{0} @map_nil.{0,0} @length_nil.{0} @eH @mc)) zp ?_;intro k hk hall;refine zT ks k ?_ ?_;rintro rfl;rotate_left;intro key hx hlt;rotate_left
 ·refine dZ ?_;rw[a6];refine zV ?_;exact zo [.tmp 2] (r:=ak 2 (uO L ks) eu) (hw:=Lg u9 u7 _)
 have hfm:=Pe L (ks.take k) key;rw[<-br hx] at hfm;have hol:(uO L (ks.take k)).length<=k:=bo (D3 _ _) (by rw[List.length_take];omega);generalize hO:uO L (ks.take k)=out at hol hfm;refine eQ ?_;have hcl:=aJ u9 out;have hkc:=λo=>aZ u7 o out;by_cases hk0:out=[]
 ·rw[show qF 1 out eu=[] by rw[hk0];rfl,show bn 1 2 out.length=cN by rw[hk0];rfl];refine aC (n3 hlt (aG (e:=1) (enc:=aA ae) (λ_=>rfl) hx) @aA.eq_1) ?_;cases g:decide (0<getM 0 key L)
  ·rw[un (wt g)] at hfm
   have f1:bn 1 2 (uO L (ks.take (k+1))).length=cN:=by rw[hfm,hk0];rfl
   have f2:qF 1 (uO L (ks.take (k+1))) eu=[]:=by rw[hfm,hk0];rfl
   refine zs ?_;refine ar.r0 (by rfl) (by simp only[bP,bg,ak,aw,aj,al,↓reduceIte,ac,ad,ap,aa,ax,ai,an,aU,iw (l:=L),g];first | done | rfl) ?_;refine zs ?_;refine ar.no rfl ?_;(try (refine ar.skip ?_;try change ar _ _ _ _ _));refine zs ?_;refine ar.r0 (by rfl) (gQ (p9 (pw hlt hlen6 (by decide)))) ?_;refine⟨ks.length-(k+1),_,by omega,(Fg.less (R7 (n2 f1 f2)) (R8 (n2 f1 f2))),k+1,by omega,rfl,trivial,rfl⟩
  ·rw[ul (ww g)] at hfm
   have f1:bn 1 2 (uO L (ks.take (k+1))).length=.buf 1 1 2 none:=by rw[hfm,hk0];rfl
   have f2:qF 1 (uO L (ks.take (k+1))) eu=[.gone,.cells (eu (⟨key,getM 0 key L⟩:Sh))]:=by rw[hfm,hk0];rfl
   refine zs ?_;refine ar.r0 (by rfl) (by simp only[bP,bg,ak,aw,aj,al,↓reduceIte,ac,ad,ap,aa,ax,ai,an,aU,iw (l:=L),g];first | done | rfl) ?_;refine zs ?_;refine ar.yes rfl ?_;(try (refine ar.skip ?_;try change ar _ _ _ _ _));refine zs ?_;refine ar.r0 (by rfl) (by simp only[bP,bg,ak,aw,aj,al,↓reduceIte,ac,ad,ap,aa,ax,ai,an,aU,iw (l:=L)];first | done | rfl) ?_;refine aC (zi hlt hlen6) ?_;refine zX hlt (bL (n3 f1 f2 @eu.eq_1)) trivial
 ·have hk1:¬out.length=0:=λh=>hk0 (List.length_eq_zero_iff.1 h);rw[ji hk0,bV hk1];refine aC (n5 hlt (aG (e:=1) (enc:=aA ae) (λ_=>rfl) hx) @aA.eq_1 qK hkc) ?_;cases g:decide (0<getM 0 key L)
  ·rw[un (wt g)] at hfm
   have f1:bn 1 2 (uO L (ks.take (k+1))).length=.buf 1 out.length 2 none:=by rw[hfm,bV hk1]
   have f2:qF 1 (uO L (ks.take (k+1))) eu=[.gone,.cells (out.flatMap eu)]:=by rw[hfm,ji hk0];rfl
   refine zs ?_;refine ar.r0 (by rfl) (by simp only[bP,bg,ak,aw,aj,al,↓reduceIte,ac,ad,ap,aa,ax,ai,an,aU,iw (l:=L),g,a8,hkc];first | done | rfl) ?_;refine zs ?_;refine ar.no rfl ?_;(try (refine ar.skip ?_;try change ar _ _ _ _ _));refine zs ?_;refine ar.r0 (by rfl) (gQ (p9 (pw hlt hlen6 (by decide)))) ?_;refine⟨ks.length-(k+1),_,by omega,(Fg.less (R7 (n2 f1 f2)) (R8 (n2 f1 f2))),k+1,by omega,rfl,trivial,rfl⟩
  ·rw[ul (ww g)] at hfm
   have f1:bn 1 2 (uO L (ks.take (k+1))).length=.buf 1 (out.length+1) 2 none:=by rw[hfm,aS];rfl
   have f2:qF 1 (uO L (ks.take (k+1))) eu=[.gone,.cells ((out++[(⟨key,getM 0 key L⟩:Sh)]).flatMap eu)]:=by rw[hfm,mQ];rfl
   refine zs ?_;refine ar.r0 (by rfl) (by simp only[bP,bg,ak,aw,aj,al,↓reduceIte,ac,ad,ap,aa,ax,ai,an,aU,iw (l:=L),g,a8,hkc];first | done | rfl) ?_;refine zs ?_;refine ar.yes rfl ?_;(try (refine ar.skip ?_;try change ar _ _ _ _ _));have happ:=eh u9 u7 1 out (⟨key,getM 0 key L⟩:Sh);rw[show eu (⟨key,getM 0 key L⟩:Sh)=[ae key,ab (getM 0 key L)] from rfl] at happ;refine zs ?_;refine ar.r0 (by rfl) (by simp only[bP,bg,ak,aw,aj,al,↓reduceIte,ac,ad,ap,aa,ax,ai,an,aU,iw (l:=L),hcl,hkc,a8,show out.length<=1000000 by omega,be,happ];first | done | rfl) ?_;refine aC (zi hlt hlen6) ?_;refine zX hlt (bL (n2 f1 f2)) trivial
end Go.Proofs
namespace Go.Ev
noncomputable section
section
variable {P:Program} {ro:Option Nat} {S:List SO} {f:Fm} {n:Nat} {ds:List iV}
def aI.TU{all:List Oper}{o:Oper}{l:List Oper}{K:eB->Prop}{d t yt:Nat}{x:Operand}{y:Value}{ks:List AV}{vs:List SV}(hst:eP all n [o]=true)(hop:o.op=.binOp .eql t x (.const y) yt)(hdst:o.dst=some d)(hw:db all f o.guard=some true)
 (hx:eF f x=some (.im ks vs)) (hy:lE lH y=some (.map none)) (ht:iM P t=.map) (hg:P.eqGuardType P.depth t=false) (hk:aI P ro all l ⟨(d,.a (.bool false))::f,n,S,ds⟩ K):aI P ro all (o::l) ⟨f,n,S,ds⟩ K:=by
 rintro ρ0 h0 ⟨af,n',h,ds'⟩ ⟨rfl,rfl,θ,ρ,hR,hF⟩;obtain⟨hd,_⟩:=ez hst;rw[hdst] at hd;obtain⟨a,ha,ka⟩:=bG hF hx;have ha':ev (dj af n') x=some a:=ha;obtain⟨kt,et,hu⟩:=Du ht;have hyv:ev (dj af n') (.const y)=some (.map none):=hy;rw[VS,GS] at ka;obtain⟨id,lm,c,rfl,_⟩:=ka
 have hb:cS P .eql t (.map (some id)) (.map none)=some (.bool false):=by
  unfold cS;simp only[hg,an,lA,hu,al]
 refine .v hop hdst (cK hF (dN hst hw)) rfl hd (by rw[IT,ha',hyv,aj,aj,hb];rfl) ?_;exact hk ρ0 h0 _ ⟨rfl,rfl,θ,ρ,hR,hF.put (fW hd) (by rw[VS])⟩
def aI.ta{all:List Oper}{o:Oper}{l:List Oper}{K:eB->Prop}{d tt xt:Nat}{x:Operand}{v:SV}{kt et:TypeId}(hst:eP all n [o]=true)(hop:o.op=.typeAssert x xt tt false)(hdst:o.dst=some d)(hw:db all f o.guard=some true)
 (hx:eF f x=some (.iface tt v)) (hu:P.underlying tt=some (.map kt et)) (hk:aI P ro all l ⟨(d,v)::f,n,S,ds⟩ K):aI P ro all (o::l) ⟨f,n,S,ds⟩ K:=by
 rintro ρ0 h0 ⟨af,n',h,ds'⟩ ⟨rfl,rfl,θ,ρ,hR,hF⟩;obtain⟨hd,_⟩:=ez hst;rw[hdst] at hd;obtain⟨a,ha,ka⟩:=bG hF hx;have ha':ev (dj af n') x=some a:=ha;rw[VS] at ka;obtain⟨y,rfl,ky⟩:=ka
 have hrun:eg P (dj af n') h (.typeAssert x xt tt false)=some [(some y,h)]:=by
  simp only[eg,hu,ha',Nat.beq_refl,ai,an];rfl
 refine .v hop hdst (cK hF (dN hst hw)) rfl hd hrun ?_;exact hk ρ0 h0 _ ⟨rfl,rfl,θ,ρ,hR,hF.put (fW hd) ky⟩
end
def SC.clone{P:Program}{g:FuncId}(hx:AX P g .clone)(t:TypeId)(ks:List AV)(vs:List SV)(hg:cr vs=true):SC P g [.iface t (.im ks vs)] [] [] (λr S'=>r=.iface t (.map 0)/\S'=[.map ks vs none]):=by
 intro E θ ρ h avs hE hR hA;rw[aK] at hA;obtain⟨a,r,rfl,h1,h2⟩:=hA;rw[aQ] at h2;subst h2;rw[VS] at h1;obtain⟨y,rfl,h1⟩:=h1;rw[VS,GS] at h1;obtain⟨id,l,c,rfl,k1,k2,k3⟩:=h1
 have hm:h.mapOf id=some (l,c):=by
  have:=(hR.row id _ k1).2.1;rw[hE] at this;unfold H.mapOf;rw[show h.aR.get id=some (.map l c) from this]
 have hid:id<h.next:=by
  have:=(hR.row id _ k1).1;rw[hE] at this;exact this
 have key:h.low<=h.next->dC P (.func g) [.iface t (.map (some id))] h (λv h'=>∃r S' θ' ρ' h1,(r=SV.iface t (.map 0)/\S'=[SO.map ks vs none])/\h'={ h1 with low:=gw h.low h1.low }/\RS θ' ρ ρ' E h1 S'/\VS θ' ρ' r v/\([]:List SO).length<=S'.length/\∀i,i<([]:List SO).length->i∉([]:List Nat)->(θ' i).id=(θ i).id):=by
  intro hlow;refine(dC.SM hx (a:=.iface t (.map (some h.next))) (h':={ h.lay h.next (.map l c) with next:=h.next+1 }) (by unfold xA;simp only[hm,al])).mono ?_;rintro a' h'' ⟨rfl,rfl⟩
  have hn:=hR.Om (so:=.map ks vs none) (ob:=.map l c) ⟨l,c,cX _ _ _,k2,by
   show c7 _ _ (vs.map (bf _)) _
   rw[bI hg];exact k3.vs⟩
  have e:gO [] (SO.map ks vs none)=[SO.map ks vs none]:=by
   show[SO.map ks (vs.map (bf 0)) none]=_;rw[bI hg]
  rw[hE,e] at hn;refine⟨_,_,_,ρ,_,⟨rfl,rfl⟩,?_,hn,?_,Nat.zero_le _,λi hi=>t8 hi (bc _)⟩
  ·show _=_;simp only[H.lay];rw[ru hlow]
  ·rw[VS];exact⟨_,rfl,by rw[VS];rfl⟩
 intro σ w args' hv hr;exact key hr.y7 σ w args' hv hr
end
end Go.Ev
namespace Go.Proofs
open Go.Ev
set_option maxRecDepth 100000
def D9(L:List (List Nat×Int)):SC Tryz.prog 109 [nZ AV.str ab L] [] [] (λr S'=>r=.map 0/\S'=[bz AV.str ab L]):=by
 refine K6 9 Tryz.func109 ?_;have hcl:=SC.clone (P:=Tryz.prog) HN 101 (L.map λe=>.str e.1) (L.map λe=>ab e.2) (eK (uv:=ab) (λ_=>rfl) L);refine kD ?_;refine aI.TU (by rfl) rfl rfl (by rfl) rfl rfl (by simp only[aw]) (by kernel_rfl) ?_;refine zR ?_;refine QS ?_;refine aI.fg (st':=⟨[(6,.iface 101 (nZ AV.str ab L))],9,[],[]⟩) zH ?_;have hrg:∀r:Nat->Nat,kh r (L.map λe=>ab e.2)=L.map λe=>ab e.2:=λr=>aY (eK (uv:=ab) (λ_=>rfl) L);have hbg:∀B:Nat,fq B (L.map λe=>ab e.2)=true:=λB=>bC (eK (uv:=ab) (λ_=>rfl) L);refine zS [] (n2 hrg hbg) hcl ?_;refine aI.ta (v:=.map 0) (kt:=9) (et:=3) (by rfl) rfl rfl (by rfl) rfl (by kernel_rfl) ?_;refine zR ?_;refine zE ?_;exact zP [.tmp 2]
def Of(b:List (List Nat×Int))(e:List Nat×Int):List Nat×Int:=(e.1,eO e.2 (getM 0 e.1 b))
def oP(out b:List (List Nat×Int)):List (List Nat×Int):=out.map (Of b)
def qA:List (List (List Nat×Int))->List (List Nat×Int)
 | []=>[]
 | b::bs=>bs.foldl oP b
def pE(out b:List (List Nat×Int))(pos:List Nat):List (List Nat×Int):=out.mapIdx λj e=>if j∈pos then Of b e else e
def tM(out b:List (List Nat×Int))(pos:List Nat):(pE out b pos).length=out.length:=List.length_mapIdx
def oQ(out b:List (List Nat×Int))(pos:List Nat)(j:Nat):(pE out b pos)[j]?=(out[j]?).map λe=>if j∈pos then Of b e else e:=by
 unfold pE;rw[List.getElem?_mapIdx]
def Oh(out b:List (List Nat×Int)):pE out b []=out:=by
 apply a4;intro j;rw[oQ];cases out[j]?<;>simp
def Og{out b:List (List Nat×Int)}{pos:List Nat}(h:∀j,j<out.length->j∈pos):pE out b pos=oP out b:=by
 apply a4;intro j;rw[oQ];unfold oP;rw[a0]
 cases hj:out[j]? with
 | none=>rfl
 | some e=>simp[h j (bD hj)]
def L9{out b:List (List Nat×Int)}{pos:List Nat}{j:Nat}{e:List Nat×Int}(he:out[j]?=some e):pE out b (pos++[j])=(pE out b pos).set j (Of b e):=by
 apply a4;intro i;rw[oQ];by_cases hij:j=i
 ·subst hij;rw[List.getElem?_set_self (by rw[tM];exact bD he),he];simp
 ·rw[List.getElem?_set_ne hij,oQ]
  have hm:i∈pos++[j]↔i∈pos:=by simp[Ne.symm hij]
  simp only[hm]
def L8(out b:List (List Nat×Int))(pos:List Nat):(pE out b pos).map (·.1)=out.map (·.1):=by
 apply a4;intro j;rw[a0,oQ,a0]
 cases out[j]? with
 | none=>rfl
 | some e=>
  show some (if j∈pos then Of b e else e).1=some e.1;split<;>rfl
def L7(out b:List (List Nat×Int)):(oP out b).map (·.1)=out.map (·.1):=by
 unfold oP;rw[List.map_map];rfl
end Go.Proofs
