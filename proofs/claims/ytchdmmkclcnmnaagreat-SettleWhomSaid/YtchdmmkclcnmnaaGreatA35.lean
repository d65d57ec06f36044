/- Lemmas of this claim, each with its conditions. -/
import Derived.Test.YtchdmmkclcnmnaaGreatA34
import Derived.Test.YtchdmmkclcnmnaaGreatA19
import Derived.Test.YtchdmmkclcnmnaaGreatA15
import Derived.Test.YtchdmmkclcnmnaaGreatA8
import Derived.Test.YtchdmmkclcnmnaaGreatA7
import Derived.Ground.GgsProg
import Derived.Shelf.GgSortFunc.Tiny
import Derived.Shelf.SlSortFuncK.WholeK
import Derived.Test.YtchdmmkclcnmnaaGreatProg
import Derived.WalkKit
import Derived.WalkSpells
import Derived.WalkLawsBesides
import Derived.Deep.QuietTactic
import Derived.BigQuiet
set_option linter.all false
open List (mem_map mem_cons set_cons_zero)
open List renaming length_map -> aa, getElem?_map -> ac, getElem?_eq_getElem -> af, length_cons -> aj, mem_cons_of_mem -> ax, length_nil -> ay, mem_cons_self -> aS, getElem?_eq_none -> a6, map_cons -> a7, nodup_nil -> bc, length_append -> be, not_mem_nil -> bk, append_nil -> bN, foldl_cons -> b0, nil_append -> b3, nodup_cons -> b4, take_zero -> b5
open Array renaming getElem?_eq_getElem -> ad, getElem?_modify -> a8, getElem?_toList -> ba, length_toList -> bd
open Nat renaming le_refl -> ap, reduceEqDiff -> bh, zero_add -> bi, add_zero -> b6
open Int renaming le_refl -> bb, ofNat -> bw
open And renaming intro -> bt
open Option renaming map_some -> b7
namespace Go.Proofs
open Go.Ev
set_option maxRecDepth 100000
def om(p:Pr):Pr:=(p.2,p.1)
def rR(Se:c9)(e:Pr×Int):c9:=cw (om e.1) (getM 0 (om e.1) (cw e.1 (getM 0 e.1 Se+e.2) Se)-e.2) (cw e.1 (getM 0 e.1 Se+e.2) Se)
def pY(l:c9):c9:=l.foldl rR []
def Mf(l:c9)(e:Pr×Int):pY (l++[e])=rR (pY l) e:=by unfold pY;rw[List.foldl_append];rfl
def A2(owed paid:List Xf):List Xf×Int:=if (owed.any Ba||paid.any Ba)=true then ([],1) else dn (pY (eY (-1) (eY 1 [] owed) paid))
def yd{n:Int}{B:Int}:∀{ts:List Xf} {m:c9},(n=1\/n = -1)->fC B m->(∀t∈ts,-1000000000000<=t.am/\t.am<=1000000000000)->fC (B+ts.length*1000000000000) (eY n m ts)
 | [],m,_,h,_=>h.mono (by simp)
 | t::ts,m,hn,h,ha=>by
  have h1:=h.add hn (ha t aS);have:=yd (ts:=ts) hn h1 λx hx=>ha x (ax _ hx);refine fC.mono this ?_;rw[aj];omega
def HU{n:Int}{ts:List Xf}(hn:n=1\/n = -1)(hl:ts.length<=1000)(ha:∀t∈ts,-1000000000000<=t.am/\t.am<=1000000000000):fC 1000000000000000 (eY n [] ts):=
 (yd (B:=0) hn (λq=>⟨bb _,bb _⟩) ha).mono (by omega)
def uS{n:Int}:∀{ts:List Xf} {m:c9},(m.map (·.1)).Nodup->((eY n m ts).map (·.1)).Nodup
 | [],_,h=>h
 | t::ts,m,h=>uS (ts:=ts) (m:=kF n m t) (qJ h)
def yc(n:Int):∀(ts:List Xf) (m:c9),(eY n m ts).length<=m.length+ts.length
 | [],m=>by unfold eY;simp
 | t::ts,m=>by
  have h1:=yc n ts (kF n m t);have h2:(kF n m t).length<=m.length+1:=x5 m;have e:eY n m (t::ts)=eY n (kF n m t) ts:=rfl;rw[e,aj];omega
def zy:∀(l:c9) (m:c9),(m.map (·.1)).Nodup->((l.foldl rR m).map (·.1)).Nodup
 | [],_,h=>h
 | e::l,m,h=>zy l (rR m e) (qJ (qJ h))
def vF(l:c9):((pY l).map (·.1)).Nodup:=zy l [] bc
def Cl:∀(l:c9) (m:c9),(l.foldl rR m).length<=m.length+2*l.length
 | [],m=>by simp
 | e::l,m=>by
  have h1:=Cl l (rR m e)
  have h2:(rR m e).length<=m.length+2:=by
   unfold rR;have a:=x5 (k:=om e.1) (v:=getM 0 (om e.1) (cw e.1 (getM 0 e.1 m+e.2) m)-e.2) (cw e.1 (getM 0 e.1 m+e.2) m);have b:=x5 (k:=e.1) (v:=getM 0 e.1 m+e.2) m;omega
  rw[b0,aj];omega
def Oj(l:c9):(pY l).length<=2*l.length:=by
 have:=Cl l [];simp only[ay,bi] at this;exact this
def qt{m:c9}(hn:(m.map (·.1)).Nodup){e:Pr×Int}(he:e∈m):getM 0 e.1 m=e.2:=by
 induction m with
 | nil=>cases he
 | cons a m ih=>
  rw[a7,b4] at hn;rw[getM]
  rcases mem_cons.1 he with rfl | he'
  ·rw[ul rfl]
  ·rw[un (λh=>hn.1 (by rw[<-h];exact List.mem_map_of_mem he')),ih hn.2 he']
def fC.Se{B n:Int}{m:c9}{p:Pr}(h:fC B m)(hn : -2000000000000000<=n/\n<=2000000000000000):fC (B+4000000000000000) (rR m (p,n)):=by
 intro k;unfold rR;simp only[ja];have h1:=h k;have h2:=h p;have h3:=h (om p);split
 ·split
  ·omega
  ·omega
 ·split<;>omega
set_option maxHeartbeats 4000000 in
def MH(hsort:J6)(hcong:∀(a b:c9),(a.map (·.1)).Nodup->a.Perm b->dn (pY a)=dn (pY b))(owed paid:List Xf)(ho:∀t∈owed,t.fits)(hp:∀t∈paid,t.fits)(hlo:owed.length<=1000)(hlp:paid.length<=1000):
 PC Tryz.prog 11 [ak 3 owed bj,ak 3 paid bj] (·=Li (A2 owed paid)):=by
 refine pB 58 Tryz.func11 ?_;have c1:=Ax (l:=owed) Ba (first:=[]) (cap:=[]) (by omega) (λx hx=>CN x (ho x hx)) ⟨rfl,rfl⟩;have c2:=Ax (l:=paid) Ba (first:=[]) (cap:=[]) (by omega) (λx hx=>CN x (hp x hx)) ⟨rfl,rfl⟩;refine lC ?_;refine zC ?_;refine zK c1 ?_;cases e1:owed.any Ba;rotate_left
 ·refine zR ?_;refine cL ?_;exact iA [.tmp 4,.tmp 5] (r:=.bE [.sl 0 3 [],ab 1]) (hw:=.bE (.cons (.nil _) (.cons (.a _) .nil))) (hq:=by rw[A2,e1];rfl)
 refine zQ ?_;refine zK c2 ?_;cases e2:paid.any Ba;rotate_left
 ·refine zR ?_;refine cL ?_;exact iA [.tmp 4,.tmp 5] (r:=.bE [.sl 0 3 [],ab 1]) (hw:=.bE (.cons (.nil _) (.cons (.a _) .nil))) (hq:=by rw[A2,e1,e2];rfl)
 refine zR ?_;refine zN ?_
 have hN:A2 owed paid=dn (pY (eY (-1) (eY 1 [] owed) paid)):=by rw[A2,e1,e2];rfl
 rw[hN]
 have am:∀{l:List Xf},l.any Ba=false->∀t∈l,-1000000000000<=t.am/\t.am<=1000000000000:=by
  intro l h t ht;rw[List.any_eq_false] at h;have:=h t ht;unfold Ba at this;simp only[Bool.or_eq_true,wr,not_or] at this;omega
 have a1:=vY 1 (.inl rfl) [owed] [] (λq=>⟨by show -1000000000000000<=0;omega,by show(0:Int)<=_;omega⟩) (by show 1<=10;decide) (by
  intro ts hts;rw[List.mem_singleton.1 hts]
  exact⟨hlo,am e1⟩)
 rw[show[owed].foldl (eY 1) []=eY 1 [] owed from rfl] at a1;have w1:fC 1000000000000000 (eY 1 [] owed):=HU (.inl rfl) hlo (am e1)
 have a2:=vY (-1) (.inr rfl) [paid] (eY 1 [] owed) w1 (by show 1<=10;decide) (by
  intro ts hts;rw[List.mem_singleton.1 hts]
  exact⟨hlp,am e2⟩)
 rw[show[paid].foldl (eY (-1)) (eY 1 [] owed)=eY (-1) (eY 1 [] owed) paid from rfl] at a2;refine ar.fg (st':=⟨[(0,ak 3 owed bj),(1,ak 3 paid bj)],58,[],[]⟩) zH ?_
 (try change ar _ _ _ _ _)
 refine kD ?_;refine aI.fg (Fg.freeze (f':=[(22,ak 1 [owed] tg),(20,.map 0),(7,.map 0),(0,ak 3 owed bj),(1,ak 3 paid bj)]) 1 rfl (λh=>by cases h) ⟨.inr (.buf rfl (bp.refl rfl) (ap _)),.inl rfl,.inl rfl,.inl rfl,.inl rfl,trivial⟩) ?_;refine aI.fg (st':=⟨[(22,ak 1 [owed] tg),(20,.map 0),(7,.map 0),(0,ak 3 owed bj),(1,ak 3 paid bj)],58,[bz gz ab []],[]⟩) (bL (n2 @jV (show SO.map [] [] none=bz gz ab [] from rfl))) ?_;refine zS [0] (n3 @jV @RO @Nq) a1 ?_;refine zR ?_;refine ar.fg (st':=⟨[(7,.map 0),(1,ak 3 paid bj)],58,[bz gz ab (eY 1 [] owed)],[]⟩) (bL @jV) ?_
 (try change ar _ _ _ _ _)
 refine zC ?_;refine aI.fg (Fg.freeze (f':=[(26,ak 1 [paid] tg),(24,.map 0),(7,.map 0)]) 1 rfl (λh=>by cases h) ⟨.inr (.buf rfl (bp.refl rfl) (ap _)),.inl rfl,.inl rfl,trivial⟩) ?_;refine aI.fg (st':=⟨[(26,ak 1 [paid] tg),(24,.map 0),(7,.map 0)],58,[bz gz ab (eY 1 [] owed)],[]⟩) (bL @jV) ?_;refine zS [0] (n3 @jV @RO @Nq) a2 ?_;refine zR ?_;have hk1:((eY (-1) (eY 1 [] owed) paid).map (·.1)).Nodup:=uS (uS bc)
 have hl1:(eY (-1) (eY 1 [] owed) paid).length<=2000:=by
  have h1:=yc (-1) paid (eY 1 [] owed);have h2:=yc 1 owed [];simp only[ay] at h2;omega
 have hw1:∀e∈eY (-1) (eY 1 [] owed) paid,-2000000000000000<=e.2/\e.2<=2000000000000000:=by
  intro e he;have h:=(yd (n := -1) (.inr rfl) w1 (am e2)) e.1;rw[qt hk1 he] at h;omega
 generalize eY (-1) (eY 1 [] owed) paid=al at hk1 hl1 hw1 ⊢;refine ar.fg (Fg.freeze (f':=[(7,nZ gz ab al)]) 0 rfl (λh=>by cases h) ⟨.inr (nU (λ_=>rfl) rfl),trivial⟩) ?_;refine ar.fg (st':=⟨[(7,nZ gz ab al)],58,[],[]⟩) zH ?_
 (try change ar _ _ _ _ _)
 refine zV ?_;refine ar.fg (st':=⟨[(8,.map 0),(7,nZ gz ab al)],58,[bz gz ab []],[]⟩) (bL (show SO.map [] [] none=bz gz ab [] from rfl)) ?_
 (try change ar _ _ _ _ _)
 refine zC ?_;refine aI.TC (ks:=al.map λe=>gz e.1) (vs:=al.map λe=>ab e.2) (by rfl) rfl rfl (by rfl) rfl (by simp only[aw]) ?_;intro bs c hbs;refine cM @jV ?_
 (repeat refine ar.seq ?_)
 refine ar.block (ar.loop (λm st=>∃pos:List Nat,pos.Nodup/\(∀j∈pos,j<al.length)/\fC (pos.length*4000000000000000) (pY (bq al pos))/\al.length-pos.length=m/\st=⟨[(8,.map 0),(30,.ptr 1 0)],58,[bz gz ab (pY (bq al pos)),.oL (al.map λe=>gz e.1) (al.map λe=>ab e.2) bs c pos],[]⟩) al.length (bL @jV) ⟨[],bc,λj h=>(bk h).elim,λq=>⟨bb _,bb _⟩,by simp,rfl⟩ (by rintro m st ⟨_,_,_,_,_,rfl⟩;rfl) ?_);rintro m st ⟨pos,hpn,hpl,hwi,rfl,rfl⟩;refine zC ?_;refine aI.Tx (by rfl) rfl rfl (by rfl) rfl rfl (λj hj=>by rw[aa];exact hpl j hj) ?_ ?_;rotate_left
 ·intro j hj hjn;rw[aa] at hj;obtain⟨e,he⟩:∃e,al[j]?=some e:=⟨al[j],af hj⟩;obtain⟨q1,q2,q3⟩:=oU hpn hpl hj hjn;have hsn:=lh al pos he;refine zR ?_;refine eQ ?_;refine zC ?_;refine aI.Ts (k:=gz e.1) (v:=ab e.2) (by rfl) rfl rfl (by rfl) rfl rfl (by rw[ac,he];rfl) (by rw[ac,he];rfl) ?_;refine cM (n3 @Ph @jV @yX) ?_
  have hmeas:al.length-(pos++[j]).length<al.length-pos.length:=by rw[be];simp only[aj,ay];omega
  have hpos:pos.length<=2000:=by omega
  have hae:=hw1 e (List.mem_of_getElem? he);obtain⟨N,hNN⟩:∃N,N=pY (bq al pos):=⟨_,rfl⟩
  have hnext:pY (bq al (pos++[j]))=rR N e:=by rw[hsn,Mf,<-hNN]
  rw[<-hNN] at hwi ⊢;clear hNN;obtain⟨⟨fr,to⟩,n⟩:=e;simp only at hae
  have hbn:∀q,-8000000000000000000<=getM 0 q N/\getM 0 q N<=8000000000000000000:=λq=>by have:=hwi q;omega
  refine ar.fg (st':=⟨[(9,.ptr 2 0),(10,ab n),(8,.map 0),(30,.ptr 1 0)],58,[bz gz ab N,.oL (al.map λe=>gz e.1) (al.map λe=>ab e.2) bs c (pos++[j]),.cells [ae fr,ae to]],[]⟩) (bL (n2 @jV @yX)) ?_;obtain⟨g,hg⟩:∃g,g=getM 0 (fr,to) N:=⟨_,rfl⟩;have hgb:=hbn (fr,to);rw[<-hg] at hgb;have hadd : -9223372036854775808<=g+n/\g+n<=9223372036854775807:=⟨by omega,by omega⟩;refine ar.born 0 rfl λbs0 c0 hbl=>?_;rw[aa] at hbl;change ar _ _ _ ⟨_,_,[jf gz ab N (some (bs0,c0)),.oL (al.map λe=>gz e.1) (al.map λe=>ab e.2) bs c (pos++[j]),.cells [ae fr,ae to]],_⟩ _;obtain⟨b,hb⟩:∃b:List Nat×Nat,b=(bs0,c0):=⟨_,rfl⟩;rw[<-hb]
  have hbl:b.1.length=N.length:=by rw[hb];exact hbl
  clear hb;obtain⟨sb,hsb⟩:∃sb,sb=ot b (fr,to) N:=⟨_,rfl⟩
  (repeat refine ar.seq ?_)
  refine ar.wL 7 12 (λL=>⟨(36,vo L 0 (.map 0))::(37,vo L 1 (.ag [ae fr,ae to]))::(38,vo L 2 (ab g))::(39,vo L 3 (ab n))::(40,vo L 4 (ab (g+n)))::(41,vo L 5 (.bE [ab g,.a (.int .i64 (bw sb))]))::(42,vo L 6 (.a (.int .i64 (bw sb))))::[(9,.ptr 2 0),(10,ab n),(8,.map 0),(30,.ptr 1 0)],58,[io L 5 (jf gz ab (fQ 0 (fr,to) N) (some (iU b (fr,to) N))) (jf gz ab N (some b)),.oL (al.map λe=>gz e.1) (al.map λe=>ab e.2) bs c (pos++[j]),.cells [ae fr,ae to]],[]⟩) rfl (by kernel_rfl) (by rfl) (by decide) (by kernel_rfl) (Fg.less (by (simp only[bP,bg,dr,↓reduceIte,bh,ak,mh,fK (L:=λ_=>False) (λh=>h)])<;>(repeat' apply bt)<;>first | rfl | trivial) (by (simp only[bP,bg,or_true,true_or,ak,mh,fK (L:=λ_=>False) (λh=>h)])<;>(repeat' apply bt)<;>first | exact .inr rfl | exact .inl rfl | trivial)) (λL=>rfl) ?_ ?_
  ·rintro L i o him hC hr
   rcases i with _ | _ | _ | _ | _ | _ | _ | i
   rotate_right
   ·exact t8 him (by omega)
   ·cases hr.fE;refine zR ?_;exact(bL (n2 @aO @bR))
   ·cases hr.fE;refine zR ?_;exact(bL (n2 @aO @bR))
   ·cases hr.fE;have d0:L 0:=hr.dep ⟨0,.data⟩ (by simp) rfl;have d1:L 1:=hr.dep ⟨1,.data⟩ (by simp) rfl
    have hlk:dW Tryz.prog [io L 5 (jf gz ab (fQ 0 (fr,to) N) (some (iU b (fr,to) N))) (jf gz ab N (some b)),.oL (al.map λe=>gz e.1) (al.map λe=>ab e.2) bs c (pos++[j]),.cells [ae fr,ae to]] 82 (.map 0) (.ag [ae fr,ae to]) false=some (ab g):=by
     by_cases h:L 5
     ·rw[od h,kW _ _ rfl,sC,<-hg]
     ·rw[fK h,kW _ _ rfl,<-hg]
    refine cM (n3 (dP d0) (dP d1) hlk) ?_;exact(bL (n4 @aO @bR (dP d0) (dP d1)))
   ·cases hr.fE;refine zR ?_;exact(bL (n2 @aO @bR))
   ·cases hr.fE;have d2:L 2:=hr.dep ⟨2,.data⟩ (by simp) rfl;have d3:L 3:=hr.dep ⟨3,.data⟩ (by simp) rfl;refine cM (n3 (dP d2) (dP d3) (p9 hadd)) ?_;exact(bL (n4 @aO @bR (dP d2) (dP d3)))
   ·cases hr.fE;have d0:L 0:=hr.dep ⟨0,.data⟩ (by simp) rfl;have d1:L 1:=hr.dep ⟨1,.data⟩ (by simp) rfl;have h12:¬L 5:=hr.new;refine aI.TV (kv:=gz) (uv:=ab) (l:=N) (k:=((fr,to):Pr)) (u0:=0) (z:=.int .i64 0) (kt:=95) (et:=3) (oo:=0) (b:=b) (ky:=.ag [ae fr,ae to]) (by rfl) rfl rfl (by rfl) (gQ (dP d0)) (gQ (dP d1)) rfl (by rw[fK h12];rfl) (by simp only[aw]) uz (by simp only[aw]) rfl ?_;refine .nil ?_;rw[<-hg,<-hsb];exact(bL (n3 @aO @bR @set_cons_zero.{0}))
   ·cases hr.fE;have d5:L 5:=hr.dep ⟨5,.data⟩ (by simp) rfl;refine cM (dP d5) ?_;exact(bL (n3 @aO @bR (dP d5)))
  have vv:∀i,i<7->∀v:SV,vo (λj=>j<7) i v=v:=λi h v=>dq h;have va:=vv 0 (by decide);have vs:=vv 6 (by decide);have vy:=vv 4 (by decide);have ii:∀x y:SO,io (λj=>j<7) 5 x y=x:=λx y=>od (by decide);change aI _ _ _ _ _ _;refine aI.TO (kv:=gz) (uv:=ab) (l:=N) (k:=((fr,to):Pr)) (u0:=0) (oo:=0) (b:=iU b (fr,to) N) (sb:=sb) (u:=g+n) (by rfl) rfl rfl (by rfl) (gQ va) (gQ vs) (gQ vy) (by rw[ii];rfl) (by rw[hsb];exact vW hbl) ?_;refine .nil ?_;change ar _ _ _ _ _;refine ar.fg (st':=⟨[(9,.ptr 2 0),(10,ab n),(8,.map 0),(30,.ptr 1 0)],58,[bz gz ab (cw (fr,to) (g+n) N),.oL (al.map λe=>gz e.1) (al.map λe=>ab e.2) bs c (pos++[j]),.cells [ae fr,ae to]],[]⟩) (bL @set_cons_zero.{0}) ?_;obtain⟨N2,hN2⟩:∃N2,N2=cw (fr,to) (g+n) N:=⟨_,rfl⟩;rw[<-hN2];obtain⟨g2,hg2⟩:∃g2,g2=getM 0 (to,fr) N2:=⟨_,rfl⟩
  have hg2b : -8100000000000000000<=g2/\g2<=8100000000000000000:=by rw[hg2,hN2,ja];have:=hbn (to,fr);split<;>omega
  have hsub : -9223372036854775808<=g2-n/\g2-n<=9223372036854775807:=⟨by omega,by omega⟩
  have hnet:rR N ((fr,to),n)=cw (to,fr) (g2-n) N2:=by unfold rR om;rw[<-hg,<-hN2,<-hg2]
  refine ar.born 0 rfl λbs0 c0 hbl=>?_;rw[aa] at hbl;change ar _ _ _ ⟨_,_,[jf gz ab N2 (some (bs0,c0)),.oL (al.map λe=>gz e.1) (al.map λe=>ab e.2) bs c (pos++[j]),.cells [ae fr,ae to]],_⟩ _;obtain⟨b,hb⟩:∃b:List Nat×Nat,b=(bs0,c0):=⟨_,rfl⟩;rw[<-hb]
  have hbl:b.1.length=N2.length:=by rw[hb];exact hbl
  clear hb;obtain⟨sb,hsb⟩:∃sb,sb=ot b (to,fr) N2:=⟨_,rfl⟩
  (repeat refine ar.seq ?_)
  refine ar.wL 11 16 (λL=>⟨(43,vo L 0 (.map 0))::(44,vo L 1 (.ptr 2 1))::(45,vo L 2 (ae to))::(46,vo L 3 (.ptr 2 0))::(47,vo L 4 (ae fr))::(48,vo L 5 (.ag [ae to,ae fr]))::(49,vo L 6 (ab g2))::(50,vo L 7 (ab n))::(51,vo L 8 (ab (g2-n)))::(52,vo L 9 (.bE [ab g2,.a (.int .i64 (bw sb))]))::(53,vo L 10 (.a (.int .i64 (bw sb))))::[(9,.ptr 2 0),(10,ab n),(8,.map 0),(30,.ptr 1 0)],58,[io L 9 (jf gz ab (fQ 0 (to,fr) N2) (some (iU b (to,fr) N2))) (jf gz ab N2 (some b)),.oL (al.map λe=>gz e.1) (al.map λe=>ab e.2) bs c (pos++[j]),.cells [ae fr,ae to]],[]⟩) rfl (by kernel_rfl) (by rfl) (by decide) (by kernel_rfl) (Fg.less (by (simp only[bP,bg,dr,↓reduceIte,bh,ak,mh,fK (L:=λ_=>False) (λh=>h)])<;>(repeat' apply bt)<;>first | rfl | trivial) (by (simp only[bP,bg,or_true,true_or,ak,mh,fK (L:=λ_=>False) (λh=>h)])<;>(repeat' apply bt)<;>first | exact .inr rfl | exact .inl rfl | trivial)) (λL=>rfl) ?_ ?_
  ·rintro L i o him hC hr
   rcases i with _ | _ | _ | _ | _ | _ | _ | _ | _ | _ | _ | i
   rotate_right
   ·exact t8 him (by omega)
   ·cases hr.fE;refine zR ?_;exact(bL (n2 @aO @bR))
   ·cases hr.fE;refine zR ?_;exact(bL (n2 @aO @bR))
   ·cases hr.fE;have d1:L 1:=hr.dep ⟨1,.data⟩ (by simp) rfl;refine cM (dP d1) ?_;exact(bL (n3 @aO @bR (dP d1)))
   ·cases hr.fE;refine zR ?_;exact(bL (n2 @aO @bR))
   ·cases hr.fE;have d3:L 3:=hr.dep ⟨3,.data⟩ (by simp) rfl;refine cM (dP d3) ?_;exact(bL (n3 @aO @bR (dP d3)))
   ·cases hr.fE;have d2:L 2:=hr.dep ⟨2,.data⟩ (by simp) rfl;have d4:L 4:=hr.dep ⟨4,.data⟩ (by simp) rfl;refine cM (n2 (dP d2) (dP d4)) ?_;exact(bL (n4 @aO @bR (dP d2) (dP d4)))
   ·cases hr.fE;have d0:L 0:=hr.dep ⟨0,.data⟩ (by simp) rfl;have d5:L 5:=hr.dep ⟨5,.data⟩ (by simp) rfl
    have hlk:dW Tryz.prog [io L 9 (jf gz ab (fQ 0 (to,fr) N2) (some (iU b (to,fr) N2))) (jf gz ab N2 (some b)),.oL (al.map λe=>gz e.1) (al.map λe=>ab e.2) bs c (pos++[j]),.cells [ae fr,ae to]] 82 (.map 0) (.ag [ae to,ae fr]) false=some (ab g2):=by
     by_cases h:L 9
     ·rw[od h,kW _ _ rfl,sC,<-hg2]
     ·rw[fK h,kW _ _ rfl,<-hg2]
    refine cM (n3 (dP d0) (dP d5) hlk) ?_;exact(bL (n4 @aO @bR (dP d0) (dP d5)))
   ·cases hr.fE;refine zR ?_;exact(bL (n2 @aO @bR))
   ·cases hr.fE;have d6:L 6:=hr.dep ⟨6,.data⟩ (by simp) rfl;have d7:L 7:=hr.dep ⟨7,.data⟩ (by simp) rfl;refine cM (n3 (dP d6) (dP d7) (Lo hsub)) ?_;exact(bL (n4 @aO @bR (dP d6) (dP d7)))
   ·cases hr.fE;have d0:L 0:=hr.dep ⟨0,.data⟩ (by simp) rfl;have d5:L 5:=hr.dep ⟨5,.data⟩ (by simp) rfl;have h12:¬L 9:=hr.new;refine aI.TV (kv:=gz) (uv:=ab) (l:=N2) (k:=((to,fr):Pr)) (u0:=0) (z:=.int .i64 0) (kt:=95) (et:=3) (oo:=0) (b:=b) (ky:=.ag [ae to,ae fr]) (by rfl) rfl rfl (by rfl) (gQ (dP d0)) (gQ (dP d5)) rfl (by rw[fK h12];rfl) (by simp only[aw]) uz (by simp only[aw]) rfl ?_;refine .nil ?_;rw[<-hg2,<-hsb];exact(bL (n3 @aO @bR @set_cons_zero.{0}))
   ·cases hr.fE;have d9:L 9:=hr.dep ⟨9,.data⟩ (by simp) rfl;refine cM (dP d9) ?_;exact(bL (n3 @aO @bR (dP d9)))
  have vv:∀i,i<11->∀v:SV,vo (λj=>j<11) i v=v:=λi h v=>dq h;have va:=vv 0 (by decide);have vs:=vv 10 (by decide);have vy:=vv 8 (by decide);have ii:∀x y:SO,io (λj=>j<11) 9 x y=x:=λx y=>od (by decide);change aI _ _ _ _ _ _;refine aI.TO (kv:=gz) (uv:=ab) (l:=N2) (k:=((to,fr):Pr)) (u0:=0) (oo:=0) (b:=iU b (to,fr) N2) (sb:=sb) (u:=g2-n) (by rfl) rfl rfl (by rfl) (gQ va) (gQ vs) (gQ vy) (by rw[ii];rfl) (by rw[hsb];exact vW hbl) ?_;refine .nil ?_;show x7 _ _ _ _ _ _ _;rw[x7];exact⟨al.length-(pos++[j]).length,_,hmeas,(bL (n3 @set_cons_zero.{0} hnext hnet)),pos++[j],q1,q2,(by rw[hnext,be];simp only[aj,ay];exact(hwi.Se hae).mono (by omega)),rfl,rfl⟩
 intro hall;have hperm:(bq al pos).Perm al:=mK hpn hpl λj hj=>hall j (by rw[aa];exact hj);refine zR ?_;refine dZ ?_;simp only[fV,dS,cE,cq,if_true];rw[<-hcong (bq al pos) al ((hperm.map (·.1)).nodup_iff.2 hk1) hperm];have hkn:=vF (bq al pos)
 have hkl:(pY (bq al pos)).length<=100000:=by
  have h1:=Oj (bq al pos);have h2:=hperm.length_eq;omega
 generalize pY (bq al pos)=M at hkn hkl ⊢
 have hgm:cr [nZ gz ab M]=true:=by simp only[cr,nZ,lB,eK (uv:=ab) (λ_=>rfl) M,Bool.and_true]
 refine zC ?_;refine aI.fg (Fg.freeze (f':=[(54,nZ gz ab M)]) 0 rfl (λh=>by cases h) ⟨.inr (nU (λ_=>rfl) rfl),trivial⟩) ?_;refine zK (xc hsort M hkn hkl) ?_ (hwk:=(bp.refl hgm)) (hfl:=.inr (bp.refl hgm));refine zR ?_;exact iA [.tmp 4,.tmp 5] (r:=.bE [ak 3 (dn M).1 bj,ab (dn M).2]) (hw:=.bE (.cons (.sl _ _ _) (.cons (.a _) .nil)))
open Go.Shelf
def wc:Go.Shelf.Ren:=⟨λ| 6=>56 | 10=>110 | 11=>111 | 12=>112 | 13=>113 | 14=>114 | 24=>161 | 25=>162 | 26=>163 | 27=>164 | 28=>165 | 29=>166 | 30=>167 | 31=>168 | 32=>169 | 33=>170 | 34=>212 | 35=>213 | 36=>214 | 37=>215 | 38=>216 | 39=>238 | n=>n,λ| 20=>20 | 26=>130 | 35=>203 | 0=>0 | 37=>205 | 3=>3 | 41=>209 | 44=>212 | 49=>259 | 51=>261 | 4=>4 | 54=>264 | 53=>263 | 58=>176 | 5=>5 | 9=>9 | 60=>303 | 64=>307 | 66=>325 | 67=>326 | 17=>17 | 32=>200 | 33=>201 | 82=>349 | 12=>12 | 75=>342 | 76=>343 | 77=>344 | 78=>345 | 79=>346 | 80=>347 | n=>n,λ| n=>n⟩
def uC:Go.Proofs.LaysGg.n6 Tryz.prog wc:={
 mixed:=by kernel_rfl
 f6:=Tryz.func56.trans (congrArg some (by kernel_rfl))
 f10:=Tryz.func110.trans (congrArg some (by kernel_rfl))
 f11:=Tryz.func111.trans (congrArg some (by kernel_rfl))
 f12:=Tryz.func112.trans (congrArg some (by kernel_rfl))
 f13:=Tryz.func113.trans (congrArg some (by kernel_rfl))
 f14:=Tryz.func114.trans (congrArg some (by kernel_rfl))
 f24:=Tryz.func161.trans (congrArg some (by kernel_rfl))
 f25:=Tryz.func162.trans (congrArg some (by kernel_rfl))
 f26:=Tryz.func163.trans (congrArg some (by kernel_rfl))
 f27:=Tryz.func164.trans (congrArg some (by kernel_rfl))
 f28:=Tryz.func165.trans (congrArg some (by kernel_rfl))
 f29:=Tryz.func166.trans (congrArg some (by kernel_rfl))
 f30:=Tryz.func167.trans (congrArg some (by kernel_rfl))
 f31:=Tryz.func168.trans (congrArg some (by kernel_rfl))
 f32:=Tryz.func169.trans (congrArg some (by kernel_rfl))
 f33:=Tryz.func170.trans (congrArg some (by kernel_rfl))
 f34:=Tryz.func212.trans (congrArg some (by kernel_rfl))
 f35:=Tryz.func213.trans (congrArg some (by kernel_rfl))
 f36:=Tryz.func214.trans (congrArg some (by kernel_rfl))
 f37:=Tryz.func215.trans (congrArg some (by kernel_rfl))
 f38:=Tryz.func216.trans (congrArg some (by kernel_rfl))
 f39:=Tryz.func238.trans (congrArg some (by kernel_rfl))
 t0:=Tryz.underlying0
 a0:=Tryz.isAgg0
 z0:=Tryz.sizeOf0
 v0:=Tryz.zeroValue0
 i0:=by kernel_rfl
 t3:=Tryz.underlying3
 a3:=Tryz.isAgg3
 z3:=Tryz.sizeOf3
 v3:=Tryz.zeroValue3
 i3:=by kernel_rfl
 t4:=Tryz.underlying4
 a4:=Tryz.isAgg4
 z4:=Tryz.sizeOf4
 v4:=Tryz.zeroValue4
 i4:=by kernel_rfl
 t5:=Tryz.underlying5
 a5:=Tryz.isAgg5
 z5:=Tryz.sizeOf5
 v5:=Tryz.zeroValue5
 i5:=by kernel_rfl
 t9:=Tryz.underlying9
 a9:=Tryz.isAgg9
 z9:=Tryz.sizeOf9
 v9:=Tryz.zeroValue9
 i9:=by kernel_rfl
 t12:=Tryz.underlying12
 a12:=Tryz.isAgg12
 z12:=Tryz.sizeOf12
 v12:=Tryz.zeroValue12
 i12:=by kernel_rfl
 t17:=Tryz.underlying17
 a17:=Tryz.isAgg17
 z17:=Tryz.sizeOf17
 v17:=Tryz.zeroValue17
 i17:=by kernel_rfl
 t20:=Tryz.underlying20
 a20:=Tryz.isAgg20
 z20:=Tryz.sizeOf20
 v20:=Tryz.zeroValue20
 i20:=by kernel_rfl
 t26:=Tryz.underlying130
 a26:=Tryz.isAgg130
 z26:=Tryz.sizeOf130
 v26:=Tryz.zeroValue130
 i26:=by kernel_rfl
 t32:=Tryz.underlying200
 a32:=Tryz.isAgg200
 z32:=Tryz.sizeOf200
 v32:=Tryz.zeroValue200
 i32:=by kernel_rfl
 t33:=Tryz.underlying201
 a33:=Tryz.isAgg201
 z33:=Tryz.sizeOf201
 v33:=Tryz.zeroValue201
 i33:=by kernel_rfl
 t35:=Tryz.underlying203
 a35:=Tryz.isAgg203
 z35:=Tryz.sizeOf203
 v35:=Tryz.zeroValue203
 i35:=by kernel_rfl
 t37:=Tryz.underlying205
 a37:=Tryz.isAgg205
 z37:=Tryz.sizeOf205
 v37:=Tryz.zeroValue205
 i37:=by kernel_rfl
 t41:=Tryz.underlying209
 a41:=Tryz.isAgg209
 z41:=Tryz.sizeOf209
 v41:=Tryz.zeroValue209
 i41:=by kernel_rfl
 t44:=Tryz.underlying212
 a44:=Tryz.isAgg212
 z44:=Tryz.sizeOf212
 v44:=Tryz.zeroValue212
 i44:=by kernel_rfl
 t49:=Tryz.underlying259
 a49:=Tryz.isAgg259
 z49:=Tryz.sizeOf259
 v49:=Tryz.zeroValue259
 i49:=by kernel_rfl
 t51:=Tryz.underlying261
 a51:=Tryz.isAgg261
 z51:=Tryz.sizeOf261
 v51:=Tryz.zeroValue261
 i51:=by kernel_rfl
 t53:=Tryz.underlying263
 a53:=Tryz.isAgg263
 z53:=Tryz.sizeOf263
 v53:=Tryz.zeroValue263
 i53:=by kernel_rfl
 t54:=Tryz.underlying264
 a54:=Tryz.isAgg264
 z54:=Tryz.sizeOf264
 v54:=Tryz.zeroValue264
 i54:=by kernel_rfl
 t58:=Tryz.underlying176
 a58:=Tryz.isAgg176
 z58:=Tryz.sizeOf176
 v58:=Tryz.zeroValue176
 i58:=by kernel_rfl
 t60:=Tryz.underlying303
 a60:=Tryz.isAgg303
 z60:=Tryz.sizeOf303
 v60:=Tryz.zeroValue303
 i60:=by kernel_rfl
 t64:=Tryz.underlying307
 a64:=Tryz.isAgg307
 z64:=Tryz.sizeOf307
 v64:=Tryz.zeroValue307
 i64:=by kernel_rfl
 t66:=Tryz.underlying325
 a66:=Tryz.isAgg325
 z66:=Tryz.sizeOf325
 v66:=Tryz.zeroValue325
 i66:=by kernel_rfl
 t67:=Tryz.underlying326
 a67:=Tryz.isAgg326
 z67:=Tryz.sizeOf326
 v67:=Tryz.zeroValue326
 i67:=by kernel_rfl
 t75:=Tryz.underlying342
 a75:=Tryz.isAgg342
 z75:=Tryz.sizeOf342
 v75:=Tryz.zeroValue342
 i75:=by kernel_rfl
 t76:=Tryz.underlying343
 a76:=Tryz.isAgg343
 z76:=Tryz.sizeOf343
 v76:=Tryz.zeroValue343
 i76:=by kernel_rfl
 t77:=Tryz.underlying344
 a77:=Tryz.isAgg344
 z77:=Tryz.sizeOf344
 v77:=Tryz.zeroValue344
 i77:=by kernel_rfl
 t78:=Tryz.underlying345
 a78:=Tryz.isAgg345
 z78:=Tryz.sizeOf345
 v78:=Tryz.zeroValue345
 i78:=by kernel_rfl
 t79:=Tryz.underlying346
 a79:=Tryz.isAgg346
 z79:=Tryz.sizeOf346
 v79:=Tryz.zeroValue346
 i79:=by kernel_rfl
 t80:=Tryz.underlying347
 a80:=Tryz.isAgg347
 z80:=Tryz.sizeOf347
 v80:=Tryz.zeroValue347
 i80:=by kernel_rfl
 t82:=Tryz.underlying349
 a82:=Tryz.isAgg349
 z82:=Tryz.sizeOf349
 v82:=Tryz.zeroValue349
 i82:=by kernel_rfl }
open Go.Ev Go.RowKit
def Tv(a b c d:ByteArray):Bool:=Op.bytesLess a.toList c.toList||(a.toList==c.toList&&Op.bytesLess b.toList d.toList)
set_option maxRecDepth 100000 in
set_option maxHeartbeats 2000000 in
def Jy(qe off c Bs bo size:Nat)(W:World)(Gf Gt:Nat->ByteArray)(hs:W.cell? ⟨Bs,bo,none⟩=some (.slice (some ⟨qe,off,none⟩) size c))
 (hc1:∀t,t<size->W.cell? ⟨qe,off+t*3,none⟩=some (.string (Gf t))) (i j:Nat) (hi:i<size) (hj:j<size) (_hsz:size<4611686018427387904)
 (hl:Op.bytesLess (Gf i).toList (Gf j).toList=true):
 Calls Tryz.prog 57 #[.int .i64 i,.int .i64 j,.pointer (some ⟨Bs,bo,none⟩)] W λe w'=>e=.returned (.bool true)/\∃q,w'=W.drewN q:=by
 have ci:=hc1 i hi;have cj:=hc1 j hj;clear hc1
 go_enter Tryz.func57,Tryz.ntmps57
 go_wp2
 go_quiet (fail)
 go_wp2
 go_ret
 exact⟨rfl,nq,rfl⟩
set_option maxRecDepth 100000 in
set_option maxHeartbeats 2000000 in
def Jz(qe off c Bs bo size:Nat)(W:World)(Gf Gt:Nat->ByteArray)(hs:W.cell? ⟨Bs,bo,none⟩=some (.slice (some ⟨qe,off,none⟩) size c))
 (hc1:∀t,t<size->W.cell? ⟨qe,off+t*3,none⟩=some (.string (Gf t))) (i j:Nat) (hi:i<size) (hj:j<size) (_hsz:size<4611686018427387904)
 (hl:Op.bytesLess (Gf i).toList (Gf j).toList=false) (he:((Gf i).toList==(Gf j).toList)=false):
 Calls Tryz.prog 57 #[.int .i64 i,.int .i64 j,.pointer (some ⟨Bs,bo,none⟩)] W λe w'=>e=.returned (.bool false)/\∃q,w'=W.drewN q:=by
 have ci:=hc1 i hi;have cj:=hc1 j hj;clear hc1
 go_enter Tryz.func57,Tryz.ntmps57
 go_wp2
 go_quiet (fail)
 go_wp2
 go_ret
 exact⟨rfl,nq,rfl⟩
set_option maxRecDepth 100000 in
set_option maxHeartbeats 2000000 in
def JA(qe off c Bs bo size:Nat)(W:World)(Gf Gt:Nat->ByteArray)(hs:W.cell? ⟨Bs,bo,none⟩=some (.slice (some ⟨qe,off,none⟩) size c))
 (hc1:∀t,t<size->W.cell? ⟨qe,off+t*3,none⟩=some (.string (Gf t))) (hc2:∀t,t<size->W.cell? ⟨qe,off+t*3+1,none⟩=some (.string (Gt t))) (i j:Nat) (hi:i<size) (hj:j<size) (_hsz:size<4611686018427387904)
 (hl:Op.bytesLess (Gf i).toList (Gf j).toList=false) (he:((Gf i).toList==(Gf j).toList)=true):
 Calls Tryz.prog 57 #[.int .i64 i,.int .i64 j,.pointer (some ⟨Bs,bo,none⟩)] W λe w'=>e=.returned (.bool (Op.bytesLess (Gt i).toList (Gt j).toList))/\∃q,w'=W.drewN q:=by
 have ci:=hc1 i hi;have cj:=hc1 j hj;have ci2:=hc2 i hi;have cj2:=hc2 j hj;clear hc1 hc2
 go_enter Tryz.func57,Tryz.ntmps57
 go_wp2
 go_quiet (fail)
 go_wp2
 go_ret
 exact⟨rfl,nq,rfl⟩
def MM(qe off c Bs bo size:Nat)(W:World)(Gf Gt:Nat->ByteArray)(hs:W.cell? ⟨Bs,bo,none⟩=some (.slice (some ⟨qe,off,none⟩) size c))
 (hc1:∀t,t<size->W.cell? ⟨qe,off+t*3,none⟩=some (.string (Gf t))) (hc2:∀t,t<size->W.cell? ⟨qe,off+t*3+1,none⟩=some (.string (Gt t))) (i j:Nat) (hi:i<size) (hj:j<size) (hsz:size<4611686018427387904):
 Calls Tryz.prog 57 #[.int .i64 i,.int .i64 j,.pointer (some ⟨Bs,bo,none⟩)] W λe w'=>e=.returned (.bool (Tv (Gf i) (Gt i) (Gf j) (Gt j)))/\∃q,w'=W.drewN q:=by
 unfold Tv;cases hl:Op.bytesLess (Gf i).toList (Gf j).toList
 ·cases he:((Gf i).toList==(Gf j).toList)
  ·exact Jz qe off c Bs bo size W Gf Gt hs hc1 i j hi hj hsz hl he
  ·exact JA qe off c Bs bo size W Gf Gt hs hc1 hc2 i j hi hj hsz hl he
 ·exact Jy qe off c Bs bo size W Gf Gt hs hc1 i j hi hj hsz hl
end Go.Proofs
namespace Go.Ev
noncomputable section
def RH(a b:Nat)(h:a<=b):gw a b=a:=by rw[zh];omega
def SC.T0{P:Program}{g:FuncId}{args cs cs' bs:List SV}{r0:SV}(hlen:cs'.length=cs.length)(hone:∀(θ:Nat->Loc) (ρ:kg) (xs:List AV),c7 θ ρ cs' xs->xs.all jZ=true)
 (H:∀(θ:Nat->Loc) (ρ:kg) (h:H) (avs asx bsx:List AV),c7 θ ρ args avs->h.aR.get (θ 0).id=some (.cells asx (θ 0).cg)->c7 θ ρ cs asx->h.aR.get (θ 1).id=some (.cells bsx (θ 1).cg)->c7 θ ρ bs bsx->uP (θ 0) (θ 1)->
  dC P (.func g) avs h (λv h'=>VS θ ρ r0 v/\∃xs,c7 θ ρ cs' xs/\h.store (θ 0).id 0 xs=some h')):SC P g args [.cells cs,.cells bs] [] (λr S'=>r=r0/\S'=[.cells cs',.cells bs]):=by
 intro E θ ρ h avs hE hR hA;obtain⟨⟨k1,k2,k3,k4⟩,asx,q1,q2,q3⟩:=hR.obj 0 _ rfl (λh=>by cases h);obtain⟨_,bsx,p1,p2,_⟩:=hR.obj 1 _ rfl (λh=>by cases h);have hsep:=hR.sep 0 1 _ _ (by decide) rfl (λh=>by cases h) rfl (λh=>by cases h)
 have hidn:(θ 0).id<E.h.next:=by rcases k1 with e | e<;>rw[e];exact k2.2;exact k3.2
 have e1:E.h.aR=h.aR:=by rw[hE]
 have e2:E.h.dE=h.dE:=by rw[hE]
 have e3:E.h.next=h.next:=by rw[hE]
 rw[e1] at q1 p1;rw[e2] at q3;rw[e3] at hidn;have kx:=k2.2;have ky:=k3.2;rw[e3] at kx ky;refine(H θ ρ h avs asx bsx hA q1 q2 p1 p2 hsep).mono ?_;rintro v h' ⟨hv,xs,hxs,hst⟩;obtain⟨h1,g1,g2,g3⟩:=hR.store (o:=0) (cs:=cs) (vs:=cs') (off:=0) rfl hxs (hone θ ρ xs hxs) (by omega);rw[hE] at g1;have g4:=CE q1 q3 hidn kx ky g1;rw[hst] at g4;cases g4;refine⟨r0,[.cells cs',.cells bs],_,ρ,h1,⟨rfl,rfl⟩,rfl,?_,g3 _ _ hv,ap _,?_⟩
 ·have:(cs.take 0++(cs'++cs.drop (0+cs'.length)))=cs':=by
   rw[bi,hlen,List.drop_length,bN,b5,b3]
  rw[this] at g2;exact g2
 ·intro i hi _;by_cases h0:i=0
  ·subst h0;rw[cC]
  ·rw[bW _ _ h0]
def SC.same{P:Program}{g:FuncId}{args:List SV}{S:List SO}{r0:SV}(H:∀(θ:Nat->Loc) (ρ:kg) (h:H) (avs:List AV),c7 θ ρ args avs->dC P (.func g) avs h (λv h'=>VS θ ρ r0 v/\h'=h)):SC P g args S [] (λr S'=>r=r0/\S'=S):=by
 intro E θ ρ h avs hE hR hA σ w args' hv hr;have hl:=hr.y7;refine dC.mono (H θ ρ h avs hA) ?_ σ w args' hv hr;rintro v h' ⟨hv,rfl⟩;refine⟨r0,S,θ,ρ,E.h,⟨rfl,rfl⟩,?_,hR,hv,ap _,λi hi _=>rfl⟩;rw[hE];show h'={ h' with low:=gw h'.low h'.next };rw[RH _ _ hl]
end
end Go.Ev
namespace Go.Proofs
open Go.Ev Go.RowKit Go.Shelf Go.Lib Go.Sort
set_option maxRecDepth 100000
abbrev TX:=ByteArray×ByteArray×Int
def nX(x:TX):List Value:=[.string x.1,.string x.2.1,.int .i64 x.2.2]
def AW(x:TX):Xf:=⟨qf x.1,qf x.2.1,x.2.2⟩
def Sd(x y:TX):Bool:=xY (AW x) (AW y)
def T3:SWO Sd where
 irrefl:=λx=>Ky _
 trans:=λx y z h1 h2=>rq h1 h2
 ntrans:=λx y z h1 h2=>by
  unfold Sd at *;cases h:xY (AW x) (AW z)
  ·rfl
  ·rcases Dz (AW x) (AW y) with g | ⟨g1,g2⟩ | g
   ·rw[g] at h1;cases h1
   ·rw[(Oc ⟨g1,g2⟩ _).1,h2] at h;cases h
   ·have:=rq g h;rw[h2] at this;cases this
def SH(x y:TX):Tv x.1 x.2.1 y.1 y.2.1=Sd x y:=by
 unfold Tv Sd xY AW qf;simp only[ByteArray.toList_eq];have e1:∀a b:List UInt8,Op.bytesLess a b=gJ (a.map (·.toNat)) (b.map (·.toNat)):=λa b=>(oO a b).symm
 have e2:∀a b:List UInt8,(a==b)=decide (a.map (·.toNat)=b.map (·.toNat)):=λa b=>by
  by_cases h:a=b
  ·subst h;simp
  ·have:¬a.map (·.toNat)=b.map (·.toNat):=λhe=>h (List.map_inj_right (λx y=>UInt8.toNat_inj.1) |>.1 he);simp[h,this]
 rw[e1,e1,e2]
def wS:Tryz.prog.info? 35=some Tryz.t35:=by kernel_rfl
def AI:Tryz.prog.info? 45=some Tryz.t45:=by kernel_rfl
def T4(n:Nat)(h2:2<=n):Lib.swapperK n Tryz.t45 25=9:=by
 have a:Tryz.t45.hasPointers=true:=by kernel_rfl
 have b:Tryz.t45.bytes=40:=by kernel_rfl
 have c:(n==0)=false:=by simp;omega
 have d:(n==1)=false:=by simp;omega
 simp[Lib.swapperK,a,b,c,d]
def Up:Option Value->ByteArray
 | some (.string s)=>s
 | _=>ByteArray.empty
def UF:Option Value->Int
 | some (.int _ n)=>n
 | _=>0
def Q9(c:Array Value)(d i:Nat):TX:=(Up c[d+i*3]?,Up c[d+i*3+1]?,UF c[d+i*3+2]?)
def OO{σ:Sg}{c:Array Value}{d:Nat}{ts:List Xf}(hV:∀(i:Nat) (a:AV),(ts.map Xf.av).flatten[i]?=some a->∃v,c[d+i]?=some v/\V σ a v){i:Nat}{t:Xf}(ht:ts[i]?=some t):
 AW (Q9 c d i)=t/\∀k,k<3->c[d+i*3+k]?=some (nX (Q9 c d i))[k]!:=by
 have hw:∀r∈ts.map Xf.av,r.length=3:=by intro r hr;obtain⟨t,_,rfl⟩:=mem_map.1 hr;rfl
 have hg:=(by rw[ac,ht];rfl:(ts.map Xf.av)[i]?=some t.av);have h0:=pq hw hg (k:=0) (by omega);have h1:=pq hw hg (k:=1) (by omega);have h2:=pq hw hg (k:=2) (by omega);obtain⟨v0,g0,V0⟩:=hV _ _ (h0.trans (show t.av[0]?=some (.str t.fr) from rfl));obtain⟨v1,g1,V1⟩:=hV _ _ (h1.trans (show t.av[1]?=some (.str t.to) from rfl));obtain⟨v2,g2,V2⟩:=hV _ _ (h2.trans (show t.av[2]?=some (.int .i64 t.am) from rfl));rw[b6] at g0;rw[<-Nat.add_assoc] at g1 g2
 cases V0 with
 | @str _ s0 e0=>cases V1 with
  | @str _ s1 e1=>
   cases V2
   have hrd:Q9 c d i=(s0,s1,t.am):=by unfold Q9;rw[g0,g1,g2];rfl
   rw[hrd];refine⟨?_,λk hk=>?_⟩
   ·unfold AW qf;simp only[e0,e1]
   ·match k,hk with
    | 0,_=>rw[b6];exact g0
    | 1,_=>exact g1
    | 2,_=>exact g2
def Ou(x:TX):∀v∈nX x,v.oneCell'=true:=by
 intro v hv;simp[nX] at hv
 rcases hv with rfl | rfl | rfl<;>rfl
set_option maxHeartbeats 1000000 in
def Hx(ts:List Xf)(id cid cg cf:Nat)(h:Ev.H)(ho:h.aR.get id=some (.cells (ts.map Xf.av).flatten cg))(hcell:h.aR.get cid=some (.cells [.slice (some (id,0)) ts.length 3 none] cf))(hff:cg≠cf)(hii:id≠cid)(h1:1<ts.length)(hlen:ts.length<=1000000):
 dC Tryz.prog (.func 56) [.iface 35 (.slice (some (id,0)) ts.length 3 none),.fn (.func 57) [] [.ptr (some (cid,0))]] h (λr h'=>r=.bE []/\∃ts':List Xf,ts'.Perm ts/\(ts'.Pairwise λa b=>xY b a=false)/\h.store id 0 (ts'.map Xf.av).flatten=some h'):=by
 intro σ w args' hv hr;obtain⟨x,y,rfl,hx,hy⟩:=E5 hv;have hV:=hx
 cases hx with
 | @iface _ _ sv hsv=>
 cases hy with
 | @fn _ _ _ fs' cs' hfy k1 k2 k3 k4=>
 have hfs:fs'=#[]:=by
  have:fs'.size=0:=by rw[<-k1];rfl
  exact Array.eq_empty_of_size_eq_zero this
 subst hfs
 have hcs:∃x,cs'=#[x]/\V σ (.ptr (some (cid,0))) x:=by
  have hl:VL σ [.ptr (some (cid,0))] cs'.toList:=⟨by simpa using k3,λi a v p q=>k4 i a v p (by simpa using q)⟩;obtain⟨x,l,e,h1,h2⟩:=hl.dF;have:=h2.nD;subst this;exact⟨x,Array.ext' e,h1⟩
 obtain⟨bx,rfl,hbx⟩:=hcs
 cases hbx with
 | @ptr _ _ pc hpc=>
 have hw0:∀r∈ts.map Xf.av,r.length=3:=by intro r hr;obtain⟨t,_,rfl⟩:=mem_map.1 hr;rfl
 rw[eb dG Tryz.func56 (by rfl)]
 cases hsv with
 | @slice _ _ _ _ _ a p c hs hl hrr hcc ha=>
 have ha:a=⟨p.b,p.d+0,none⟩:=ha.resolve_right (by omega);subst ha;obtain⟨q,carr,et,hq,hb,hsz,hlen',hVc⟩:=hr.cells ho;rw[hs] at hq;cases hq
 have hfl:(ts.map Xf.av).flatten.length=ts.length*3:=by
  have:=jN (s:=3) hw0;rw[aa] at this;exact this
 have hpb:pc.b≠p.b:=by
  intro e;have hsep:=hr.sep cid id _ _ pc p (Ne.symm hii) hcell ho hpc hs e
  rcases hsep with⟨_,_,f,e1,e2⟩ | ⟨_,_,e1,_⟩
  ·cases e1;cases e2;exact hff rfl
  ·cases e1
 have hpcl:=hr.lt hcell hpc;have hpl:=hr.lt ho hs;obtain⟨q2,c2,et2,hq2,hb2,hsz2,hlen2,hVc2⟩:=hr.cells hcell;rw[hpc] at hq2;cases hq2;obtain⟨bv,hbv,hbV⟩:=hVc2 0 _ rfl
 have hbv':∃c',bv=.slice (some ⟨p.b,p.d+0,none⟩) ts.length c':=by
  cases hbV with
  | @slice _ _ _ _ _ a' p' c' hs' hl' _ _ ha'=>
   rw[hs] at hs';cases hs';exact⟨c',by rw[ha'.resolve_right (by omega)]⟩
 obtain⟨c',rfl⟩:=hbv'
 let d:Array TX:=Array.ofFn (n:=ts.length) λi=>Q9 carr p.d i.1
 have hdsz:d.size=ts.length:=by simp[d]
 have hdi:∀i,i<ts.length->d[i]! =Q9 carr p.d i:=λi hi=>by
  rw[getElem!_pos d i (by rw[hdsz];exact hi)];simp[d]
 have hspec:∀i,i<ts.length->ts[i]?=some (AW (Q9 carr p.d i))/\∀k,k<3->carr[p.d+i*3+k]?=some (nX (Q9 carr p.d i))[k]!:=λi hi=>
  have g:=OO hVc (af hi)
  ⟨by rw[af hi,g.1],g.2⟩
 have hH:HoldsK nX 3 w p.b (p.d+0) d:=by
  intro j hj;rw[size_flatK,hdsz] at hj
  have hi:j/3<ts.length:=by omega
  have hk:j%3<3:=by omega
  rw[get_flatK _ _ _ _ (by rw[hdsz];exact hj),hdi _ hi];have:=(hspec _ hi).2 _ hk;refine⟨?_,vp hb⟩;rw[cell_of hb,show p.d+0+j=p.d+j/3*3+j%3 by omega];exact this
 have hcellb:w.cell? ⟨pc.b,pc.d+0,none⟩=some (.slice (some ⟨p.b,p.d+0,none⟩) ts.length c'):=by rw[cell_of hb2];exact hbv
 have hless:LessReadsK Tryz.prog 57 #[.pointer (some ⟨pc.b,pc.d+0,none⟩)] nX 3 Sd p.b (p.d+0) d.size w:=by
  intro m os dk hdk i j hi hj
  have e:sortWorldK nX 3 w p.b (p.d+0) m dk os=putRowK nX 3 (grow (Sort.ahead w m) os) p.b (p.d+0) dk:=by
   unfold sortWorldK;rw[putRowK_grow _ _ (Sort.ahead w m) _ p.b (p.d+0) _ hpl]
  have hHg:HoldsK nX 3 (grow (Sort.ahead w m) os) p.b (p.d+0) d:=holdsK_grow _ _ _ _ p.b (p.d+0) d hpl (holdsK_ahead _ _ _ _ _ _ _ hH);have hHd:=holdsK_putRowK nX 3 _ p.b (p.d+0) d dk hHg hdk
  have hl:=MM p.b (p.d+0) c' pc.b (pc.d+0) d.size (sortWorldK nX 3 w p.b (p.d+0) m dk os) (λt=>dk[t]!.1) (λt=>dk[t]!.2.1)
   (by rw[e,cell?_putRowK_other _ _ _ p.b (p.d+0) dk _ hpb,cell?_grow _ _ _ (by exact hpcl)];exact(by rw[hdsz];exact hcellb))
   (λt ht=>by rw[e];exact(hHd.cell (i:=t) (c:=0) (by omega) (by omega)).1) (λt ht=>by rw[e];exact(hHd.cell (i:=t) (c:=1) (by omega) (by omega)).1) i j hi hj (by rw[hdsz];omega)
  rw[SH] at hl;exact hl
 have hmain:=Any.sort_Slice_cells_sorted uC 35 45 Tryz.t35 Tryz.t45 wS (by kernel_rfl) (by kernel_rfl) AI 25 (λ_=>by kernel_rfl) nX 3 (λ_=>rfl) (by kernel_rfl) (λ_=>by kernel_rfl)
  Ou Sd T3 57 #[.pointer (some ⟨pc.b,pc.d+0,none⟩)] (enters_of Tryz.func57 (by kernel_rfl) rfl) p.b (p.d+0) c d (by rw[hdsz];omega) (by rw[hdsz];omega) 160 (by rw[T4 _ (by rw[hdsz];omega)];kernel_rfl) false
  (λargs W=>run_callFunc_extern Tryz.func160 (by kernel_rfl) (by kernel_rfl) (by kernel_rfl) (e:=Extern.ReflectliteSwapper.swap false) (by kernel_rfl) args W) w hless hH hpl
 rw[hdsz] at hmain;refine Calls.mono hmain ?_;rintro e w' ⟨rfl,d',n,os,⟨hp1,_,hp3⟩,hsorted,rfl⟩;rw[hdsz] at hp1
 have hdl:d.toList.map AW=ts:=by
  apply List.ext_getElem?;intro i;by_cases hi:i<ts.length
  ·rw[ac,ba,ad (by rw[hdsz];exact hi),b7,(hspec i hi).1]
   congr 2
   have:=hdi i hi;rw[getElem!_pos d i (by rw[hdsz];exact hi)] at this;exact this
  ·rw[a6 (by simp[hdsz];omega),a6 (by omega)]
 have hex:∀a:Array TX,a.size=ts.length->(a.extract 0 ts.length).toList=a.toList:=λa ha=>by
  rw[Array.toList_extract,List.extract_eq_take_drop,List.drop_zero,Nat.sub_zero,List.take_of_length_le (by simp[ha])]
 rw[hex _ hp1,hex _ hdsz] at hp3
 have hperm:(d'.toList.map AW).Perm ts:=by rw[<-hdl];exact hp3.map _
 have hsx:(d'.toList.map AW).Pairwise λa b=>xY b a=false:=by
  rw[List.pairwise_iff_getElem];intro i j hi hj hij;rw[aa,bd] at hi hj;have:=hsorted i j (Nat.zero_le _) hij (by omega);rw[getElem!_pos d' j hj,getElem!_pos d' i hi] at this;simp only[List.getElem_map,Array.getElem_toList];exact this
 have hlen2:(d'.toList.map AW).length=ts.length:=by rw[aa,bd,hp1]
 have hw3:∀r∈(d'.toList.map AW).map Xf.av,r.length=3:=by intro r hr;obtain⟨t,_,rfl⟩:=mem_map.1 hr;rfl
 have hb1:(putRowK nX 3 (Sort.ahead w n) p.b (p.d+0) d').heap[p.b]?=some (.cells (putCells _root_.id (p.d+0) (flatK nX 3 d') carr) et (0,0)):=by
  unfold putRowK putRow mapBlock;simp only[a8,if_true];rw[show(Sort.ahead w n).heap[p.b]?=some (.cells carr et (0,0)) from hb];rfl
 have hoth:∀b,b≠p.b->(putRowK nX 3 (Sort.ahead w n) p.b (p.d+0) d').heap[b]?=w.heap[b]?:=λb hbb=>by
  unfold putRowK putRow mapBlock;simp only[a8];rw[un (λe=>hbb e.symm)];rfl
 have hVn:∀(i:Nat) (a:AV),((d'.toList.map AW).map Xf.av).flatten[i]?=some a->∃v,(putCells _root_.id (p.d+0) (flatK nX 3 d') carr)[p.d+i]?=some v/\V σ a v:=by
  intro i a hia
  have hil:i<ts.length*3:=by
   have:=Iw hia;rw[jN hw3,aa,hlen2] at this;exact this
  have hj:i/3<d'.size:=by omega
  have hrow:((d'.toList.map AW).map Xf.av)[i/3]?=some (AW d'[i/3]!).av:=by
   rw[ac,ac,ba,ad hj,getElem!_pos d' _ hj];rfl
  have hat:=pq hw3 hrow (k:=i%3) (by omega);rw[show i/3*3+i%3=i by omega,hia] at hat
  have hcl:p.d+i<carr.size:=by omega
  have hput:(putCells _root_.id (p.d+0) (flatK nX 3 d') carr)[p.d+i]?=some ((nX d'[i/3]!)[i%3]!):=by
   unfold putCells;rw[Array.getElem?_mapIdx,ad hcl,b7,ul ⟨by omega,by rw[size_flatK];omega⟩];rw[show p.d+i-(p.d+0)=i by omega,get_flatK _ _ _ _ (by omega)];rfl
  refine⟨_,hput,?_⟩;generalize d'[i/3]! =x at hat
  have h3:i%3=0\/i%3=1\/i%3=2:=by omega
  rcases h3 with e | e | e<;>rw[e] at hat ⊢
  ·cases hat;exact .str rfl
  ·cases hat;exact .str rfl
  ·cases hat;exact .int _ _
 obtain⟨r1,r2⟩:=hr.rewrite ho hs (cs':=((d'.toList.map AW).map Xf.av).flatten) (by rw[jN hw3,aa,hlen2,hfl]) hb hb1 (by unfold putCells;rw[Array.size_mapIdx]) hVn hoth (by unfold putRowK putRow mapBlock;simp[Sort.ahead]) rfl rfl rfl
 have hbel:Below (putRowK nX 3 (Sort.ahead w n) p.b (p.d+0) d').heap.size (putRowK nX 3 (Sort.ahead w n) p.b (p.d+0) d') (grow (putRowK nX 3 (Sort.ahead w n) p.b (p.d+0) d') os):=
  ⟨rfl,rfl,rfl,by rw[size_grow];omega,λk hk=>by unfold grow;simp only;rw[Array.getElem?_append_left hk]⟩
 have hkeep:=o8 r1 hbel;refine⟨_,rfl,.bE [],_,⟨rfl,d'.toList.map AW,hperm,hsx,?_⟩,σ,V.kn,hkeep.1,r2.trans hkeep.2⟩
 have hfl2:((d'.toList.map AW).map Xf.av).flatten.length=(ts.map Xf.av).flatten.length:=by rw[jN hw3,aa,hlen2,hfl]
 have hone:((d'.toList.map AW).map Xf.av).flatten.all jZ=true:=by
  rw[List.all_eq_true];intro x hx;rw[List.mem_flatten] at hx;obtain⟨r,hr1,hr2⟩:=hx;obtain⟨k,_,rfl⟩:=mem_map.1 hr1;unfold Xf.av at hr2;simp only[mem_cons,bk,or_false] at hr2
  rcases hr2 with rfl | rfl | rfl<;>rfl
 unfold H.store;rw[ho];simp only;rw[hfl2,bi,eN (ap _),hone,Bool.and_self,ai,b5,b3,List.drop_of_length_le (ap _),bN]
def w6(v:AV)(n:Nat)(cid:Nat)(h:Ev.H)(hn:n<=1)(hv0:(n=0/\v=.slice none 0 0 (some 0))\/∃id,v=.slice (some (id,0)) n 3 none):
 dC Tryz.prog (.func 56) [.iface 35 v,.fn (.func 57) [] [.ptr (some (cid,0))]] h (λr h'=>r=.bE []/\h'=h):=by
 intro σ w args' hv hr;obtain⟨x,y,rfl,hx,hy⟩:=E5 hv
 cases hx with
 | @iface _ _ sv hsv=>
 cases hy with
 | @fn _ _ _ fs' cs' hfy k1 k2 k3 k4=>
 rw[eb dG Tryz.func56 (by rfl)]
 have htiny:∃(p:Option Addr) (c:Nat),sv=.slice p n c:=by
  rcases hv0 with⟨rfl,rfl⟩ | ⟨id,rfl⟩
  ·cases hsv with
   | ik hl=>exact⟨none,0,rfl⟩
  ·cases hsv with
   | slice hs hl hrr hcc ha=>exact⟨_,_,rfl⟩
 obtain⟨p,c,rfl⟩:=htiny;have hf:=λf hf=>Any.sort_Slice_tiny uC 35 45 Tryz.t35 Tryz.t45 wS (by kernel_rfl) (by kernel_rfl) AI 25 (λ_=>by kernel_rfl) p n c hn f hf (.func 57) fs' cs' w
 have h01:n=0\/n=1:=by omega
 refine Calls.mono (hf (if n=0 then 152 else 153) (by rcases h01 with e | e<;>rw[e]<;>kernel_rfl)) ?_;rintro e w' ⟨rfl,os,rfl⟩;have hb:Below w.heap.size w (grow w os):=⟨rfl,rfl,rfl,by rw[size_grow];omega,λk hk=>by simp[grow,Array.getElem?_append,hk]⟩;have hk:=o8 hr hb;exact⟨_,rfl,.bE [],h,⟨rfl,rfl⟩,σ,V.kn,hk.1,hk.2⟩
def Is:∀l:List Xf,gY (l.flatMap bj)=some (l.map Xf.av).flatten
 | []=>rfl
 | a::l=>by
  show gY (ae a.fr::ae a.to::ab a.am::l.flatMap bj)=_;rw[gY,gY,gY,Is l];rfl
def sT:J6:=by
 constructor
 ·intro ts hne hlen hk;by_cases h1:ts.length=1
  ·obtain⟨t,rfl⟩:∃t,ts=[t]:=List.length_eq_one_iff.1 h1;refine SC.same λθ ρ h avs hA=>?_;rw[aK] at hA;obtain⟨a,r,rfl,hA1,hA⟩:=hA;rw[aK] at hA;obtain⟨b,r,rfl,hA2,hA⟩:=hA;rw[aQ] at hA;subst hA;rw[VS] at hA1;rw[VS] at hA2;obtain⟨y,rfl,hy⟩:=hA1;obtain⟨xs,ys,rfl,hxs,hys⟩:=hA2;rw[aQ] at hxs;subst hxs;rw[aK] at hys;obtain⟨b,r,rfl,hb,hys⟩:=hys;rw[aQ] at hys;subst hys;rw[VS] at hy;rw[VS] at hb;subst hy;subst hb;refine(w6 _ 1 _ h (ap _) (.inr ⟨_,rfl⟩)).mono ?_;rintro v h' ⟨rfl,rfl⟩;exact⟨by rw[VS];exact⟨[],rfl,by rw[aQ]⟩,rfl⟩
  have hl1:1<ts.length:=by have:=List.length_pos_iff.2 hne;omega
  refine SC.T0 (by rw[aJ (enc:=bj) (e:=3) (λ_=>rfl),aJ (enc:=bj) (e:=3) (λ_=>rfl),(eE ts).length_eq]) (λθ ρ xs hx=>mn hx (Ov _)) ?_;intro θ ρ h avs asx bsx hA ho hV hc hb hsep;rw[aK] at hA;obtain⟨a,r,rfl,hA1,hA⟩:=hA;rw[aK] at hA;obtain⟨b,r,rfl,hA2,hA⟩:=hA;rw[aQ] at hA;subst hA;rw[VS] at hA1;rw[VS] at hA2;obtain⟨y,rfl,hy⟩:=hA1;obtain⟨xs,ys,rfl,hxs,hys⟩:=hA2;rw[aQ] at hxs;subst hxs;rw[aK] at hys;obtain⟨b,r,rfl,hbb,hys⟩:=hys;rw[aQ] at hys;subst hys;rw[VS] at hy;rw[VS] at hbb;subst hy;subst hbb;rw[aK] at hb;obtain⟨b,r,rfl,hb1,hb⟩:=hb;rw[aQ] at hb;subst hb;rw[VS] at hb1;subst hb1;have has:=oI hV (Is ts);subst has
  have hii:(θ 0).id≠(θ 1).id:=by
   intro e;rw[e,hc] at ho
   injection ho with e1
   injection e1 with _ e2
   exact hsep.f e2.symm
  refine(Hx ts _ _ _ _ h ho hc hsep.f hii hl1 hlen).mono ?_;rintro v h' ⟨rfl,ts',hp,hs,hst⟩;have:=qQ hk hp hs;subst this;refine⟨by rw[VS];exact⟨[],rfl,by rw[aQ]⟩,_,?_,hst⟩;exact tx (Is _)
 ·refine SC.same λθ ρ h avs hA=>?_;rw[aK] at hA;obtain⟨a,r,rfl,hA1,hA⟩:=hA;rw[aK] at hA;obtain⟨b,r,rfl,hA2,hA⟩:=hA;rw[aQ] at hA;subst hA;rw[VS] at hA1;rw[VS] at hA2;obtain⟨y,rfl,hy⟩:=hA1;obtain⟨xs,ys,rfl,hxs,hys⟩:=hA2;rw[aQ] at hxs;subst hxs;rw[aK] at hys;obtain⟨b,r,rfl,hb,hys⟩:=hys;rw[aQ] at hys;subst hys;rw[VS] at hy;rw[VS] at hb;subst hy;subst hb;refine(w6 _ 0 _ h (by decide) (.inl ⟨rfl,rfl⟩)).mono ?_;rintro v h' ⟨rfl,rfl⟩;exact⟨by rw[VS];exact⟨[],rfl,by rw[aQ]⟩,rfl⟩
open Go.Ev
def B2{l q:c9}(hn:(l.map (·.1)).Nodup)(hp:l.Perm q)(k:Pr):getM 0 k l=getM 0 k q:=by
 have hq:(q.map (·.1)).Nodup:=(hp.map _).nodup_iff.1 hn;by_cases h:k∈l.map (·.1)
 ·obtain⟨e,he,rfl⟩:=mem_map.1 h;rw[qt hn he,qt hq (hp.mem_iff.1 he)]
 ·have hz:∀{m:c9},k∉m.map (·.1)->getM 0 k m=0:=by
   intro m hm
   induction m with
   | nil=>rfl
   | cons a m ih=>
    rw[a7,mem_cons] at hm;rw[getM,un (λe=>hm (.inl e)),ih (λe=>hm (.inr e))]
  rw[hz h,hz (λe=>h ((hp.map _).mem_iff.2 e))]
def DW(a b:Pr):(om a=b)=(a=om b):=by
 obtain⟨a1,a2⟩:=a;obtain⟨b1,b2⟩:=b;simp only[om,Prod.mk.injEq,eq_iff_iff];exact⟨λh=>⟨h.2,h.1⟩,λh=>⟨h.2,h.1⟩⟩
def zu:∀(l:c9) (m:c9),(l.map (·.1)).Nodup->∀k,getM 0 k (l.foldl rR m)=getM 0 k m+getM 0 k l-getM 0 (om k) l
 | [],m,_,k=>by simp[getM]
 | e::l,m,hn,k=>by
  rw[a7,b4] at hn;rw[b0,zu l (rR m e) hn.2 k]
  have hz:∀{q:Pr},q∉l.map (·.1)->getM 0 q l=0:=by
   intro q hq;generalize l=m at hq
   induction m with
   | nil=>rfl
   | cons a m ih=>
    rw[a7,mem_cons] at hq;rw[getM,un (λe=>hq (.inl e)),ih (λe=>hq (.inr e))]
  have h0:=hz hn.1;unfold rR;simp only[ja];rw[getM,getM];by_cases h1:k=e.1
  ·by_cases h2:k=om e.1
   ·have h3:om k=e.1:=by rw[DW];exact h2
    have h4:om e.1=e.1:=by rw[<-h2,h1]
    simp only[h1,h4,if_true,h0];omega
   ·have h3:¬om k=e.1:=by rw[DW];exact h2
    have h5:¬e.1=om e.1:=by rw[<-h1];rw[h1] at h2 ⊢;exact h2
    have h6:¬om e.1=e.1:=λh=>h5 h.symm;simp only[h1,h5,h6,if_true,if_false,h0];omega
  ·by_cases h2:k=om e.1
   ·have h5:¬om e.1=e.1:=by rw[<-h2];exact h1
    have h6:om (om e.1)=e.1:=rfl;simp only[h2,h5,h6,if_true,if_false,h0];omega
   ·have h3:¬om k=e.1:=by rw[DW];exact h2
    simp only[h1,h2,h3,if_false]
def Ga{m:c9}(hn:(m.map (·.1)).Nodup)(t:Xf):t∈iQ m↔0<t.am/\getM 0 (t.fr,t.to) m=t.am:=by
 unfold iQ;rw[mem_map];constructor
 ·rintro⟨e,he,rfl⟩;obtain⟨h1,h2⟩:=List.mem_filter.1 he;exact⟨ww h2,qt hn h1⟩
 ·rintro⟨h1,h2⟩
  have hm:(((t.fr,t.to):Pr),t.am)∈m:=by
   rw[<-h2]
   have h3:getM 0 (t.fr,t.to) m≠0:=by omega
   clear h2 hn
   induction m with
   | nil=>exact t8 rfl h3
   | cons a m ih=>
    rw[getM] at h3 ⊢;split
    ·rename_i h;rw[h];exact aS
    ·rename_i h;rw[un h] at h3;exact ax _ (ih h3)
  exact⟨_,List.mem_filter.2 ⟨hm,wd h1⟩,rfl⟩
def Jb{a b:c9}(ha:(a.map (·.1)).Nodup)(hb:(b.map (·.1)).Nodup)(h:∀k,getM 0 k a=getM 0 k b):dn a=dn b:=by
 have hbig:∀{a b:c9},(a.map (·.1)).Nodup->(∀k,getM 0 k a=getM 0 k b)->a.any (λe=>decide (1000000000000<e.2))=true->b.any (λe=>decide (1000000000000<e.2))=true:=by
  intro a b ha h hh;obtain⟨e,he,h1⟩:=List.any_eq_true.1 hh;have h1:=ww h1;rw[<-qt ha he,h] at h1
  have hm:(e.1,getM 0 e.1 b)∈b:=by
   have h3:getM 0 e.1 b≠0:=by omega
   clear h h1 hh
   induction b with
   | nil=>exact t8 rfl h3
   | cons x m ih=>
    rw[getM] at h3 ⊢;split
    ·rename_i h;rw[h];exact aS
    ·rename_i h;rw[un h] at h3;exact ax _ (ih h3)
  exact List.any_eq_true.2 ⟨_,hm,wd h1⟩
 have e1:a.any (λe=>decide (1000000000000<e.2))=b.any (λe=>decide (1000000000000<e.2)):=by
  rw[Bool.eq_iff_iff];exact⟨hbig ha h,hbig hb λk=>(h k).symm⟩
 have hka:=vL a ha;have hkb:=vL b hb;have hn:∀{l:List Xf},(l.map A7).Nodup->l.Nodup:=λh=>List.Pairwise.of_map A7 (λa b hab e=>hab (by rw[e])) h
 have hp:(iQ a).Perm (iQ b):=(List.perm_ext_iff_of_nodup (hn hka) (hn hkb)).2 λt=>by rw[Ga ha,Ga hb,h]
 have hs:gF (iQ a)=gF (iQ b):=qQ hkb ((eE _).trans hp) ((k7 _).imp λh=>by unfold Dw at h;simpa using h);unfold dn;rw[e1,hs]
def Me(a b:c9)(ha:(a.map (·.1)).Nodup)(hp:a.Perm b):dn (pY a)=dn (pY b):=by
 refine Jb (vF a) (vF b) λk=>?_;unfold pY;rw[zu _ _ ha,zu _ _ ((hp.map _).nodup_iff.1 ha),B2 ha hp,B2 ha hp]
end Go.Proofs
