/- A part of the texts of this claim: every theorem says what it proves, with its conditions. -/
import Derived.Test.YtnaiockballhaaaGreatA39
import Derived.Test.YtnaiockballhaaaGreatA23
import Derived.Test.YtnaiockballhaaaGreatA22
import Derived.Test.YtnaiockballhaaaGreatA21
set_option linter.unusedSimpArgs false
set_option linter.unusedVariables false
set_option linter.unusedSectionVars false
open Nat (reduceEqDiff reduceAdd reduceLeDiff reduceLT reduceMul le_refl mul_one reduceSub)
open Option (map_some bind_some isSome_some)
open List (length_nil length_map length_append map_nil getElem?_map length_cons ext_getElem? nil_append replicate)
namespace Go.Proofs
open Go.Ev
set_option maxRecDepth 100000
theorem HH{l:List (Wy)}(p:Wy->Bool){fid:FuncId}{first cap:List SV}(hlen:l.length<=1000000)(hp:∀x∈l,PC Tryz.prog fid ((first++[.ag (bN x)])++cap) (·=aA (p x)))(hg:cr first=true/\cr cap=true):PC Tryz.prog 57 [an 5 l bN,.fn fid first cap] (·=aa (jf p l)):=by
 refine pB 19 Tryz.func57 ?_;refine aE @an.eq_1 ?_;refine zV ?_;refine zs ?_;refine zL l (λk=>∀(i:Nat) y,i<k->l[i]?=some y->p y=false) (λk=>[(0,.sl l.length 5 (l.flatMap bN)),(1,.fn fid first cap),(7,aa l.length),(8,aa k)]) (λk=>[]) zH zp ?_;intro k hk hall;refine zV ?_;by_cases hlt:k<l.length;rotate_left;obtain rfl:k=l.length:=(by omega);rw[zf];rotate_left;rw[zt hlt];obtain⟨x,hx⟩:=zx hlt;rotate_left
 ·refine zN ?_;refine ai.exit ?_;refine zV ?_;refine zE ?_;exact zO [.tmp 4] (hq:=by (try simp only[aC,ab]);first | done | (rw[iW hall]))
 ·refine zY ?_
  (repeat refine ai.seq ?_)
  refine ai.block ?_;refine zV ?_;refine gl (n3 hlt (aH (e:=5) (enc:=bN) (λ_=>rfl) hx) @iA) ?_;refine zK (hp x (List.mem_iff_getElem?.2 ⟨k,hx⟩)) ?_ (hwk:=((bn.refl hg.1).app (bn.refl rfl)).app (bn.refl hg.2));refine aM.nil ?_;change ai _ _ _ _ _;cases hpx:p x
  ·refine zN ?_;refine aE (zi hlt hlen) ?_;refine zX hlt zH ?_;intro i y hi hy;by_cases hik:i=k
   ·subst hik;rw[hx] at hy;cases hy;exact hpx
   ·exact hall i y (by omega) hy
  ·refine cE ?_;refine zE ?_;exact zO [.tmp 4] (hq:=by (try simp only[aC,ab]);first | done | (rw[mG hx hpx hall]))
def Ho(p:aG)(x:AV):Pt:=⟨p.name,p.kind,p.bD,p.slot,p.made,p.since,p.eu,x,p.l1,p.l2,p.l3,p.l4,p.l5,p.l6⟩
abbrev Ij(l:List (List Nat×Int)):SV:=qG AV.str aa l
def fY(ws:List Wy)(ps:List aG)(c:Co):List (List Nat×Int):=nT ws ((k9 ps c.part).map λp=>Ho p kh) c
theorem CD(w:Wy)(p:aG)(c:Co)(hd:0<=c.day/\c.day<=40000):PC Tryz.prog 55 [.ag (bN w),.ip (ae p),.ip (gU c)] (·=aA (lh (Ho p kh) c w)):=by
 refine pB 35 Tryz.func55 ?_;have hv:=F7 p c.day hd;rw[iA,bF];refine aE @ae.eq_1 ?_;refine zC ?_;refine zK hv ?_;refine zR ?_;have hN:lh (Ho p kh) c w=(decide (w.kind=p.kind)&&(decide (ke c.day p.made<=w.days)&&decide (p.l2<=w.km))):=rfl;rw[hN];cases g1:decide (w.kind=p.kind)
 ·refine aE g1 ?_;refine zE ?_;exact zO [.tmp 4]
 cases g2:decide (ke c.day p.made<=w.days)
 ·refine aE (n2 g1 g2) ?_;refine zE ?_;exact zO [.tmp 4]
 refine aE (n2 g1 g2) ?_;refine zE ?_;exact tH.of (rs:=[.tmp 4]) rfl rfl zl (Wk.refl rfl) zq
theorem vq{S:List SO}{o:Nat}{l:List (List Nat×Int)}(s:List Nat)(ok:Bool)(hS:S[o]?=some (bO AV.str aa l)):eN Tryz.prog S 87 (.map o) (.a (.str s)) ok=some (cond ok (.bI [aa (getM 0 s l),aA (dh s l)]) (aa (getM 0 s l))):=
 AU (uv:=aa) (u0:=0) (k:=s) (kt:=9) (et:=3) (z:=.int .i64 0) (by simp only[aw]) fa (by simp only[aw]) rfl hS rfl ok
theorem rC{S:List SO}{o:Nat}{l:List (List Nat×Int)}(s:List Nat)(u:Int)(hS:S[o]?=some (bO AV.str aa l)):e7 Tryz.prog S 87 (.map o) (.a (.str s)) (aa u)=some (S.set o (bO AV.str aa (dk s u l))):=
 EW (uv:=aa) (kt:=9) (et:=3) (by simp only[aw]) fa hS rfl u
theorem NK{α:Type}{p:α->Bool}{l:List α}:(l.find? p=none/\jf p l = -1)\/∃(k:Nat) (x:α),l.find? p=some x/\l[k]?=some x/\jf p l=(k:Int):=by
 cases h:l.findIdx? p with
 | none=>
  refine .inl ⟨?_,by unfold jf;rw[h]⟩;rw[List.find?_eq_none];intro x hx;rw[List.findIdx?_eq_none_iff.1 h x hx];decide
 | some k=>
  obtain⟨hlt,h1,h2⟩:=List.findIdx?_eq_some_iff_getElem.1 h;refine .inr ⟨k,l[k],?_,List.getElem?_eq_getElem hlt,by unfold jf;rw[h]⟩;rw[List.find?_eq_some_iff_getElem];exact⟨h1,k,hlt,rfl,λj hj=>by have:=h2 j hj;simpa using this⟩
set_option maxHeartbeats 4000000 in
theorem th(ws:List Wy)(ps:List aG)(c:Co)(hlw:ws.length<=1000)(hlp:ps.length<=100000)(hok:ej ws c=true):PC Tryz.prog 25 [an 5 ws bN,.ag [an 14 ps ae],.ag (gU c)] (·=.bI [Ij (fY ws ps c),aA (k9 ps c.part).isSome]):=by
 have hko:(∀w∈ws,w.ok=true)/\c.ok=true:=by
  unfold ej at hok;rw[Bool.and_eq_true,List.all_eq_true] at hok;exact hok
 have hday:0<=c.day/\c.day<=40000:=by
  have:=hko.2;unfold Co.ok GQ at this;simp only[Bool.and_eq_true,decide_eq_true_eq] at this;omega
 have hcov:=λ(p:aG) (w:Wy)=>CD w p c hday;refine pB 65 Tryz.func25 ?_;rw[bF];refine zV ?_;refine ai.fg (Fg.freeze (f':=[(0,an 5 ws bN),(4,.ip [an 14 ps ae]),(5,.ptr 1 0)]) 0 rfl (λh=>by cases h) (p6 @an.eq_1)) ?_;refine ai.fg (Fg.freeze (f':=[(0,an 5 ws bN),(4,.ip [an 14 ps ae]),(5,.ip (gU c))]) 1 rfl (λh=>by cases h) (p6 (n2 @an.eq_1 @bF))) ?_;refine ai.fg (st':=⟨[(0,an 5 ws bN),(4,.ip [an 14 ps ae]),(5,.ip (gU c))],65,[],[]⟩) zH ?_
 (try change ai _ _ _ _ _)
 have hfi:=CF ps c.part (by omega);have hbm:fY ws ps c=nT ws ((k9 ps c.part).map λp=>Ho p kh) c:=rfl;generalize k9 ps c.part=fo at hfi hbm
 obtain⟨p,hp⟩:∃p,nG ae aG.zero fo=.bI [.ag (ae p),aA fo.isSome]/\∀q,fo=some q->q=p:=by
  cases fo with
  | none=>exact⟨aG.zero,rfl,λq h=>by cases h⟩
  | some q=>exact⟨q,rfl,λq h=>by cases h;rfl⟩
 rw[hp.1] at hfi;refine gl @bF ?_;refine zK hfi ?_ (hfl:=.inr (bn.refl rfl));refine cS @ae.eq_1 ?_;refine ai.fg (Fg.freeze (f':=[(0,an 5 ws bN),(5,.ip (gU c)),(8,.ip (ae p)),(9,aA fo.isSome)]) 0 rfl (λh=>by cases h) (p6 (n2 @an.eq_1 @ae.eq_1))) ?_;refine ai.fg (st':=⟨[(0,an 5 ws bN),(5,.ip (gU c)),(8,.ip (ae p)),(9,aA fo.isSome)],65,[],[]⟩) zH ?_
 (try change ai _ _ _ _ _)
 have hm0:SO.map [] [] none=bO AV.str aa []:=rfl;refine zs ?_;refine ai.r0 (by rfl) (by simp only[bx,aX,an,aw,bind_some,map_some,↓reduceIte,reduceEqDiff,reduceAdd,reduceMul,reduceLeDiff,reduceLT,ah,ao,aP,bF,hm0,rC (l:=[])];first | done | rfl) ?_;refine ai.fg (st':=⟨[(0,an 5 ws bN),(5,.ip (gU c)),(8,.ip (ae p)),(9,aA fo.isSome),(10,.map 0)],65,[bO AV.str aa [(c.owner,c.am)]],[]⟩) (Fg.less (nM (n4 @bO.eq_1 @List.map_cons.{0,0} @map_nil.{0,0} @nil_append.{0})) (nN (n4 @bO.eq_1 @List.map_cons.{0,0} @map_nil.{0,0} @nil_append.{0}))) ?_
 (try change ai _ _ _ _ _)
 refine ki ?_;refine zK (HH (l:=ws) (lh (Ho p kh) c) (first:=[]) (cap:=[.ip (ae p),.ip (gU c)]) (by omega) (λx _=>hcov p x) ⟨rfl,rfl⟩) ?_;refine zR ?_
 cases hfo:fo with
 | none=>
  rw[hfo] at hbm;refine zs ?_;refine ai.r0 (by rfl) (by simp only[bx,aX,an,aw,bind_some,map_some,↓reduceIte,reduceEqDiff,reduceAdd,reduceMul,reduceLeDiff,reduceLT,ah,ao,aP,Option.isSome_none];first | done | rfl) ?_;refine zN ?_;refine aE hm0 ?_;refine zE ?_;exact zO [.tmp 6,.tmp 7] (r:=.bI [Ij [(c.owner,c.am)],aA false]) (hw:=by exact .bI (.cons (tC (λ_=>rfl) rfl) (bn.refl rfl))) (hq:=by (try simp only[aC,ab]);first | done | (rw[hbm];rfl))
 | some q=>
  have hq:=hp.2 q hfo;subst hq;rw[hfo,map_some] at hbm
  rcases NK (p:=lh (Ho q kh) c) (l:=ws) with⟨h1,h2⟩ | ⟨k,w,h1,hx,h2⟩
  ·rw[h2]
   have hb:fY ws ps c=[(c.owner,c.am)]:=by rw[hbm];simp only[nT,h1]
   refine zs ?_;refine ai.r0 (by rfl) (by simp only[bx,aX,an,aw,bind_some,map_some,↓reduceIte,reduceEqDiff,reduceAdd,reduceMul,reduceLeDiff,reduceLT,ah,ao,aP,isSome_some];first | done | rfl) ?_;refine zN ?_;refine aE hm0 ?_;refine zE ?_;exact zO [.tmp 6,.tmp 7] (r:=.bI [Ij [(c.owner,c.am)],aA true]) (hw:=by exact .bI (.cons (tC (λ_=>rfl) rfl) (bn.refl rfl))) (hq:=by (try simp only[aC,ab]);first | done | (rw[hb];rfl))
  ·rw[h2];obtain⟨_,hamr,hpr⟩:=A6 (hko.1 w (List.mem_of_getElem? hx)) hko.2;have hpb:=I3 hamr hpr;have hpc:=Aa c.am w.uz hamr hpr
   have hb:fY ws ps c=dk w.cK (getM 0 w.cK (dk c.owner (c.am-oT c.am w.uz) [(c.owner,c.am)])+oT c.am w.uz) (dk c.owner (c.am-oT c.am w.uz) [(c.owner,c.am)]):=by rw[hbm];simp only[nT,h1]
   generalize oT c.am w.uz=n at hpb hpc hb
   have hg1:getM (0:Int) c.owner [(c.owner,c.am)]=c.am:=by simp[getM]
   have hgb:0<=getM (0:Int) w.cK (dk c.owner (c.am-n) [(c.owner,c.am)])/\getM (0:Int) w.cK (dk c.owner (c.am-n) [(c.owner,c.am)])<=1000000000000:=by
    rw[pw];split
    ·omega
    ·rename_i hne;rw[show getM (0:Int) w.cK [(c.owner,c.am)]=0 by simp[getM,hne]];omega
   have hlt:k<ws.length:=bl hx;generalize hB:dk c.owner (c.am-n) [(c.owner,c.am)]=B at hb hgb;generalize hgg:getM (0:Int) w.cK B=g at hb hgb;refine zs ?_;refine ai.r0 (by rfl) (by simp only[bx,aX,an,aw,bind_some,map_some,↓reduceIte,reduceEqDiff,reduceAdd,reduceMul,reduceLeDiff,reduceLT,ah,ao,aP,isSome_some,show decide ((0:Int)<=(k:Int))=true by simp];first | done | rfl) ?_;refine zY ?_
   (repeat refine ai.seq ?_)
   refine zs ?_;refine oW [0,1,0,0,12,28,60,127,255,511,511,1023,4095] ?_;refine nL (n4 hlt (aH (e:=5) (enc:=bN) (λ_=>rfl) hx) @iA @bF) ?_;refine SD.k (by rfl) rfl rfl (by rfl) rfl rfl zc (hpc) (zw) rfl ?_;refine zD ?_;refine zM ?_;refine zs ?_;refine ai.r0 (by rfl) (by simp only[bx,aX,an,aw,bind_some,map_some,↓reduceIte,reduceEqDiff,reduceAdd,reduceMul,reduceLeDiff,reduceLT,ah,ao,aP,bF,hm0,vq (l:=[(c.owner,c.am)]),hg1,we (P:=Tryz.prog) (t:=3) (show -9223372036854775808<=c.am-n/\c.am-n<=9223372036854775807 from⟨by omega,by omega⟩),rC (l:=[(c.owner,c.am)])];first | done | rfl) ?_;refine zs ?_;refine ai.r0 (by rfl) (by simp only[bx,aX,an,aw,bind_some,map_some,↓reduceIte,reduceEqDiff,reduceAdd,reduceMul,reduceLeDiff,reduceLT,ah,ao,aP,hlt,aH (e:=5) (enc:=bN) (λ_=>rfl) hx,iA,vq (l:=B),rC (l:=B),hB,hgg,iJ (P:=Tryz.prog) (t:=3) (show -9223372036854775808<=g+n/\g+n<=9223372036854775807 from⟨by omega,by omega⟩)];first | done | rfl) ?_;refine zs ?_;refine ai.r0 (by rfl) zl ?_;refine zE ?_;exact tH.of (rs:=[.tmp 6,.tmp 7]) (r:=.bI [Ij (dk w.cK (g+n) B),aA true]) rfl rfl zl (by exact .bI (.cons (tC (λ_=>rfl) rfl) (bn.refl rfl))) (by (try simp only[aC,ab]);first | done | (rw[hb];rfl))
theorem HJ(L:List (List Nat×Int)):PC Tryz.prog 61 [qG AV.str aa L] (·=.fn 107 [] [.ip [qG AV.str aa L]]):=by
 refine pB 4 Tryz.func61 ?_;refine zV ?_;refine ai.fg (Fg.freeze (f':=[(1,.ip [qG AV.str aa L])]) 0 rfl (λh=>by cases h) (p6 @an.eq_1)) ?_
 (try change ai _ _ _ _ _)
 refine zV ?_;refine zE ?_;exact zO [.tmp 2]
def gD(lc:fP):SO:=.loop lc .ready none [(2,.ptr 1 0)]
theorem GV(o:Nat)(lc:fP)(h:¬1=o):bP o (gD lc)=gD lc:=by
 simp[gD,bP,dz,bf,Ev.names,h]
def vW(lc:fP):Prop:=(Tryz.prog.funcs[(145:Nat)]?.bind λfn=>fn.body.bind nv)=some (lc.a,lc.b)
set_option maxHeartbeats 4000000 in
theorem HI(L:List (List Nat×Int))(lc:fP)(hcd:vW lc)(hln:lc.n=13)(hlp:lc.ps=#[7])(hlen:L.length<=100000)(hnd:(L.map (·.1)).Nodup):
 SC Tryz.prog 107 [.a (.fn (.yield lc.id) [] []),.ip [qG AV.str aa L]] [gD lc,.cells [cC],.gone] [2] (λr S'=>r=.bI []/\∃out:List (List Nat),out.Perm (L.map (·.1))/\S'=[gD lc,.cells [bm 2 1 out.length],eG out]):=by
 refine QE 14 Tryz.func107 ?_;have hk3:=GV 3 lc (by decide);refine zC ?_;refine aM.Rg (ks:=L.map λe=>.str e.1) (vs:=L.map λe=>aa e.2) (by rfl) rfl rfl (by rfl) rfl (by simp only[aw]) ?_;intro bs c hbs;refine aM.r0 (by rfl) (by simp only[bx,aX,an,aw,bind_some,map_some,↓reduceIte,reduceEqDiff,reduceAdd,reduceMul,reduceLeDiff,reduceLT,ah,ao,aP,↓hk3];first | done | rfl) ?_
 (repeat refine ai.seq ?_)
 refine ai.block (ai.loop (λm st=>∃pos:List Nat,pos.Nodup/\(∀j∈pos,j<L.length)/\L.length-pos.length=m/\st=⟨[(0,.a (.fn (.yield lc.id) [] [])),(5,.ptr 3 0),(1000000,.ptr 0 0),(1000001,.ptr 1 0)],14,[gD lc,.cells [bm 2 1 (bU L pos).length],eG ((bU L pos).map (·.1)),.rI (L.map λe=>.str e.1) (L.map λe=>aa e.2) bs c pos],[]⟩) L.length (Fg.less (by (simp only[bx,aX,cw,↓reduceIte,reduceEqDiff,an,bU,List.filterMap_nil,map_nil,length_nil,dy,iG])<;>(repeat' apply And.intro)<;>first | rfl | trivial) (by (simp only[bx,aX,or_true,true_or,an,bU,List.filterMap_nil,map_nil,length_nil,dy,iG])<;>(repeat' apply And.intro)<;>first | exact .inr rfl | exact .inl rfl | trivial)) ⟨[],List.nodup_nil,λj hj=>by simp at hj,rfl,rfl⟩ (by rintro m st ⟨pos,_,_,_,rfl⟩;rfl) ?_);rintro m st ⟨pos,hpn,hpl,rfl,rfl⟩;refine ai.post ?_;refine zC ?_;refine aM.Rb (by rfl) rfl rfl (by rfl) rfl rfl (λj hj=>by rw[length_map];exact hpl j hj) ?_ ?_
 ·intro hall;refine zR ?_;refine zN ?_;refine ai.exit ?_;refine⟨⟨[(1000000,.ptr 0 0),(1000001,.ptr 1 0)],14,[gD lc,.cells [bm 2 1 (bU L pos).length],eG ((bU L pos).map (·.1))],[]⟩,zH,?_⟩;simp only[iq,eB,df,cL,if_true];exact zP [] (hq:=by (try simp only[aC,ab]);first | done | (exact⟨trivial,(bU L pos).map (·.1),(ra hpn hpl (λj hj=>hall j (by rw[length_map];exact hj))).map _,by rw[length_map]⟩))
 ·intro j hj hjn;rw[length_map] at hj;obtain⟨e,he⟩:∃e,L[j]?=some e:=⟨L[j],List.getElem?_eq_getElem hj⟩;obtain⟨q1,q2,q3⟩:=sN hpn hpl hj hjn;have hsn:=pA L pos he;refine zR ?_;refine zY ?_
  (repeat refine ai.seq ?_)
  refine ai.block ?_;refine zC ?_;refine aM.Q7 (k:=.str e.1) (v:=aa e.2) (by rfl) rfl rfl (by rfl) rfl rfl (by rw[getElem?_map,he];rfl) (by rw[getElem?_map,he];rfl) ?_;refine zR ?_;refine zC ?_;refine aM.fg (st':=⟨[(10,.a (.fn (.yield lc.id) [] [])),(11,ak e.1),(0,.a (.fn (.yield lc.id) [] [])),(5,.ptr 3 0),(1000000,.ptr 0 0),(1000001,.ptr 1 0)],14,[gD lc,.cells [bm 2 1 (bU L pos).length],eG ((bU L pos).map (·.1)),.rI (L.map λe=>.str e.1) (L.map λe=>aa e.2) bs c (pos++[j])],[]⟩) zH ?_;refine aM.y (vs:=[ak e.1]) (oo:=0) (by rfl) rfl rfl (by rfl) rfl rfl rfl (by rfl) rfl (by rw[hlp];rfl) (by rw[hln];rfl) (by rw[hln];decide) (by rw[hlp,hln];rfl) λro'=>?_;have hcd2:=hcd;unfold vW at hcd2;rw[Tryz.func145] at hcd2;have hcd3:=Option.some.inj (hcd2.symm.trans (by rfl));obtain⟨ha,hbb⟩:=Prod.mk.inj hcd3;rw[ha,hlp,hln];have hhl:(bU L pos).length=((bU L pos).map (·.1)).length:=(length_map _).symm;rw[hhl]
  have hol:((bU L pos).map (·.1)).length<=100000:=by rw[<-hhl];exact Nat.le_trans (List.length_filterMap_le _ _) (by omega)
  generalize hout:(bU L pos).map (·.1)=out at hol;change ai _ _ _ ⟨[(7,ak e.1),(2,.ptr 1 0),(20000010,.a (.fn (.yield lc.id) [] [])),(20000011,ak e.1),(20000000,.a (.fn (.yield lc.id) [] [])),(20000005,.ptr 3 0),(21000000,.ptr 0 0),(21000001,.ptr 1 0)],13,[gD lc,.cells [bm 2 1 out.length],eG out,.rI (L.map λe=>.str e.1) (L.map λe=>aa e.2) bs c (pos++[j])],[]⟩ _;refine zV ?_;refine⟨rfl,0,none,[(2,.ptr 1 0)],rfl,?_⟩;rw[hbb]
  (repeat refine ai.seq ?_)
  refine ai.block ?_;change ai _ _ _ ⟨_,13,[.loop lc .busy none [(2,.ptr 1 0)],.cells [bm 2 1 out.length],eG out,.rI (L.map λe=>.str e.1) (L.map λe=>aa e.2) bs c (pos++[j])],[]⟩ _;by_cases ho:out=[]
  ·have hE1:bm 2 1 (bU L (pos++[j])).length=.buf 2 1 1 none:=by rw[hsn,length_append,hhl,hout,ho];rfl
   have hE2:eG ((bU L (pos++[j])).map (·.1))=.cells [ak e.1]:=by rw[hsn,List.map_append,hout,ho];rfl
   rw[ho,iG,show bm 2 1 ([]:List (List Nat)).length=cC from rfl];refine zV ?_;refine⟨rfl,0,.busy,none,[(2,.ptr 1 0)],rfl,?_⟩;simp only[tD,laid,reduceLeDiff,reduceSub,↓reduceIte];refine aM.fg (st':=⟨[(12,aA true),(0,.a (.fn (.yield lc.id) [] [])),(5,.ptr 3 0),(1000000,.ptr 0 0),(1000001,.ptr 1 0)],14,[gD lc,.cells [.buf 2 1 1 none],.cells [ak e.1],.rI (L.map λe=>.str e.1) (L.map λe=>aa e.2) bs c (pos++[j])],[]⟩) (Fg.rn (f':=[(12,aA true),(0,.a (.fn (.yield lc.id) [] [])),(5,.ptr 3 0),(1000000,.ptr 0 0),(1000001,.ptr 1 0)]) (n:=14) (S':=[gD lc,.cells [.buf 2 1 1 none],.cells [ak e.1],.rI (L.map λe=>.str e.1) (L.map λe=>aa e.2) bs c (pos++[j])]) [0,1,5,3] (by decide) rfl (Ic (n5 @gD.eq_1 @tU.eq_1 @tS.eq_1 @tT.eq_1 @tD.eq_1)) (Ie (n5 @gD.eq_1 @tU.eq_1 @tS.eq_1 @tT.eq_1 @tD.eq_1))) ?_;refine zR ?_;refine zN ?_;exact⟨⟨[(0,.a (.fn (.yield lc.id) [] [])),(5,.ptr 3 0),(1000000,.ptr 0 0),(1000001,.ptr 1 0)],14,[gD lc,.cells [.buf 2 1 1 none],.cells [ak e.1],.rI (L.map λe=>.str e.1) (L.map λe=>aa e.2) bs c (pos++[j])],[]⟩,(cI @gD.eq_1),L.length-(pos++[j]).length,_,by rw[length_append];simp only[length_cons,length_nil];omega,(cI (n3 @gD.eq_1 hE1 hE2)),pos++[j],q1,q2,rfl,rfl⟩
  ·have hk1:¬out.length=0:=λh=>ho (List.length_eq_zero_iff.1 h)
   have hE1:bm 2 1 (bU L (pos++[j])).length=.buf 2 (out.length+1) 1 none:=by rw[hsn,length_append,hhl,hout];exact bV (by simp)
   have hE2:eG ((bU L (pos++[j])).map (·.1))=.cells ((out++[e.1]).flatMap (az ak)):=by rw[hsn,List.map_append,hout];exact gG (by simp)
   have hcl3:=aJ (enc:=az ak) (e:=1) (λ_=>rfl) out;have hkc3:=λo=>aW (enc:=az ak) (λ_=>rfl) o out;have happ:=dO (enc:=az ak) (e:=1) (λ_=>rfl) (λ_=>rfl) 2 out e.1;rw[show az ak e.1=[ak e.1] from rfl,mul_one] at happ;rw[mul_one] at hcl3;rw[gG ho,bV hk1];refine aE (n6 hkc3 hcl3 @mul_one (show out.length<=1000000 by omega) @le_refl happ) ?_;refine⟨rfl,0,.busy,none,[(2,.ptr 1 0)],rfl,?_⟩;simp only[tD,laid,reduceLeDiff,reduceSub,↓reduceIte];refine aM.fg (st':=⟨[(12,aA true),(0,.a (.fn (.yield lc.id) [] [])),(5,.ptr 3 0),(1000000,.ptr 0 0),(1000001,.ptr 1 0)],14,[gD lc,.cells [.buf 2 (out.length+1) 1 none],.cells ((out++[e.1]).flatMap (az ak)),.rI (L.map λe=>.str e.1) (L.map λe=>aa e.2) bs c (pos++[j])],[]⟩) (cI (n5 @gD.eq_1 @tD.eq_1 @tU.eq_1 @tS.eq_1 @tT.eq_1)) ?_;refine zR ?_;refine zN ?_;exact⟨⟨[(0,.a (.fn (.yield lc.id) [] [])),(5,.ptr 3 0),(1000000,.ptr 0 0),(1000001,.ptr 1 0)],14,[gD lc,.cells [.buf 2 (out.length+1) 1 none],.cells ((out++[e.1]).flatMap (az ak)),.rI (L.map λe=>.str e.1) (L.map λe=>aa e.2) bs c (pos++[j])],[]⟩,(cI @gD.eq_1),L.length-(pos++[j]).length,_,by rw[length_append];simp only[length_cons,length_nil];omega,(cI (n3 @gD.eq_1 hE1 hE2)),pos++[j],q1,q2,rfl,rfl⟩
set_option maxHeartbeats 4000000 in
theorem Fh(L:List (List Nat×Int))(hlen:L.length<=100000)(hnd:(L.map (·.1)).Nodup):SC Tryz.prog 145 [cC,.fn 107 [] [.ip [qG AV.str aa L]]] [] [] (λr S'=>∃out:List (List Nat),out.Perm (L.map (·.1))/\r=bm 0 1 out.length/\S'=[eG out,.gone]):=by
 refine SC.qM (n:=13) dP Tryz.func145 rfl rfl (by decide) (W:=[]) rfl (by decide) ?_;refine kQ ?_;refine ai.fg (st':=⟨[(2,.ptr 0 0),(6,.fn 107 [] [.ip [qG AV.str aa L]])],13,[.cells [cC],.gone],[]⟩) zH ?_
 (repeat refine ai.seq ?_)
 refine ai.block ?_;refine ai.sO (f1:=[(2,.ptr 0 0)]) dP (by rfl) Tryz.func107 (by rfl) uR ?_;rintro N lc hid hn hps ha hb
 have hcd:vW lc:=by
  unfold vW;rw[Tryz.func145,ha,hb];rfl
 have hsc:=HI L lc hcd hn hps hlen hnd;refine⟨[3,0,1],_,_,_,_,hsc,?_,rfl,by decide,?_,?_⟩
 ·simp only[ec,aX,bx,an,dz,bf,↓reduceIte,reduceEqDiff,reduceAdd,reduceSub,hid,List.map,List.append,List.cons_append,nil_append]
  try rfl
 ·rintro(_ | _ | _ | i) so h
  ·cases h;exact⟨3,rfl,by rfl⟩
  ·cases h;exact⟨0,rfl,by rfl⟩
  ·cases h;exact⟨1,rfl,by rfl⟩
  ·cases h
 rintro r S' ⟨rfl,out,hp,rfl⟩
 have hbn:∀n:Nat,dx 3 (bm 2 1 n)=true:=λn=>by
  unfold bm;split
  ·exact fe rfl
  ·rfl
 have hrn3:∀(B n:Nat),nO (jg [3,0,1] B) (.cells [bm 2 1 n])=.cells [bm 1 1 n]:=λB n=>by
  show SO.cells [fv _ _]=_;rw[dS];rfl
 refine⟨by simp only[gD,vN,ec,aX,an,reduceAdd,reduceLT,decide_true,↓iy,↓hbn];first | done | rfl,3,.ready,none,[(2,.ptr 0 0)],by rfl,by decide,by rfl,?_⟩
 have hS2:(fb (gi (gi [SO.cells [cC],SO.gone] (SO.ni N)) (SO.loop lc .ready none [(2,.ptr 0 0)])) [3,0,1] [2] [gD lc,.cells [bm 2 1 out.length],eG out]).set 3 .gone=[.cells [bm 1 1 out.length],eG out,.ni N,.gone]:=by
  simp only[fb,gi,dq,dK,iQ,jc,length_cons,length_nil,List.map,length_map,length_append,↓hrn3,↓ez];rfl
 rw[hS2];change ai _ _ _ ⟨[(2,.ptr 0 0)],13,[.cells [bm 1 1 out.length],eG out,.ni N,.gone],[{ fn:=none,Db:=N,args:=[],cap:=[] }]⟩ _;refine zV ?_;refine ai.fg (st':=⟨[(4,bm 0 1 out.length)],13,[eG out,.ni N],[{ fn:=none,Db:=N,args:=[],cap:=[] }]⟩) (Fg.rn (f':=[(4,bm 0 1 out.length)]) (n:=13) (S':=[eG out,.ni N]) [1,2] (by decide) rfl (Ic (n2 @dS @ez)) (Ie (n2 @dS @ez))) ?_;refine ai.ret ?_
 (try simp only[iq,eB,df,cL])
 exact⟨rfl,[(4,bm 0 1 out.length)],⟨rfl,trivial⟩,rfl,.inl ⟨rfl,1,rfl,⟨[bm 0 1 out.length],by rfl,out,hp,rfl,rfl⟩,Nat.zero_le _,λi hi=>absurd hi (Nat.not_lt_zero _)⟩⟩
theorem zy(L:List (List Nat×Int))(hlen:L.length<=100000)(hnd:(L.map (·.1)).Nodup):SC Tryz.prog 106 [.fn 107 [] [.ip [qG AV.str aa L]]] [] [] (λr S'=>∃out:List (List Nat),out.Perm (L.map (·.1))/\r=bm 0 1 out.length/\S'=[eG out,.gone]):=by
 refine Jl 5 Tryz.func106 ?_;refine ki ?_;refine aM.sc [] (by rfl) rfl rfl (by rfl) rfl zc (Fh L hlen hnd) (by simp only[ec,aX,an];first | done | rfl) rfl (by decide) (λi so h=>by simp at h) ?_ ?_
 ·rintro r S' ⟨out,hp,rfl,rfl⟩;exact⟨jm 1 1 _,by simp only[vN,↓iy];first | done | rfl⟩
 ·rintro r S' ⟨out,hp,rfl,rfl⟩;have e1:fv (jg [] ([]:List SO).length) (bm 0 1 out.length)=bm 0 1 out.length:=dS _ 0 1 _
  have e2:fb [] [] [] [eG out,.gone]=[eG out,.gone]:=by
   simp only[fb,dK,iQ,jc,length_cons,length_nil,List.map,↓ez];rfl
  rw[e1,e2];refine aM.fg (st':=⟨[(4,bm 0 1 out.length)],5,[eG out,.gone],[]⟩) zH ?_;refine zR ?_;refine zE ?_;exact zP [.tmp 2] (hq:=by (try simp only[aC,ab]);first | done | (exact⟨out,hp,rfl,rfl⟩))
theorem C5(L:List (List Nat×Int))(hlen:L.length<=100000)(hnd:(L.map (·.1)).Nodup)(hne:L≠[]):SC Tryz.prog 60 [.fn 107 [] [.ip [qG AV.str aa L]]] [] [] (λr S'=>r=.buf 0 L.length 1 none/\S'=[.cells ((dG (L.map (·.1))).flatMap (az ak))]):=by
 refine Jl 9 Tryz.func60 ?_;refine ki ?_;refine aM.sc [] (by rfl) rfl rfl (by rfl) rfl zc (zy L hlen hnd) (by simp only[ec,aX,an];first | done | rfl) rfl (by decide) (λi so h=>by simp at h) ?_ ?_
 ·rintro r S' ⟨out,hp,rfl,rfl⟩;exact⟨jm 1 1 _,by simp only[vN,↓iy];first | done | rfl⟩
 ·rintro r S' ⟨out,hp,rfl,rfl⟩;have e1:fv (jg [] ([]:List SO).length) (bm 0 1 out.length)=bm 0 1 out.length:=dS _ 0 1 _
  have e2:fb [] [] [] [eG out,.gone]=[eG out,.gone]:=by
   simp only[fb,dK,iQ,jc,length_cons,length_nil,List.map,↓ez];rfl
  rw[e1,e2]
  have hol:out.length=L.length:=by rw[hp.length_eq,length_map]
  have hon:out≠[]:=λe=>hne (List.length_eq_zero_iff.1 (by rw[<-hol,e];rfl));have hso:dG out=dG (L.map (·.1)):=rz hp;have hss:=rE out (by omega) hon;rw[hso,hol] at hss;have hcs:∀(r:Nat->Nat) (q:List (List Nat)),jM r (q.flatMap (az ak))=q.flatMap (az ak):=λr q=>aZ (aB (λ_=>rfl) q);have hcb:∀(B:Nat) (q:List (List Nat)),fc B (q.flatMap (az ak))=true:=λB q=>bu (aB (λ_=>rfl) q);have hck:∀(o:Nat) (q:List (List Nat)),(q.flatMap (az ak)).map (bf o)=q.flatMap (az ak):=λo q=>aW (enc:=az ak) (λ_=>rfl) o q;rw[gG hon,hol,bV (λh=>hne (List.length_eq_zero_iff.1 h))];refine aM.fg (st':=⟨[(5,.buf 0 L.length 1 none)],9,[.cells (out.flatMap (az ak))],[]⟩) zH ?_;refine zR ?_;refine zC ?_;refine zS [0] (n3 hcs hcb hck) hss ?_;refine zR ?_;refine zV ?_;refine zE ?_;exact zP [.tmp 2]
def bC(s:Sh):List SV:=[ak s.pt,aa s.am]
theorem tR(s:Sh):(bC s).length=2:=rfl
theorem tQ(s:Sh):cr (bC s)=true:=rfl
theorem gK{S:List SO}{l:List (List Nat×Int)}(s:List Nat)(ok:Bool):eN Tryz.prog S 87 (qG AV.str aa l) (.a (.str s)) ok=some (cond ok (.bI [aa (getM 0 s l),aA (dh s l)]) (aa (getM 0 s l))):=
 LY (uv:=aa) (u0:=0) (k:=s) (kt:=9) (et:=3) (z:=.int .i64 0) (by simp only[aw]) fa (by simp only[aw]) rfl rfl ok
def eX(L:List (List Nat×Int)):List Sh:=tb L (dG (L.map (·.1)))
set_option maxHeartbeats 2000000 in
theorem yI(L:List (List Nat×Int))(hlen:L.length<=100000)(hnd:(L.map (·.1)).Nodup)(hne:L≠[]):PC Tryz.prog 27 [qG AV.str aa L] (·=an 2 (eX L) bC):=by
 refine pB 28 Tryz.func27 ?_;refine kQ ?_;refine zC ?_;refine zK (HJ L) ?_ (hfl:=.inr (bn.refl rfl));have hso:=C5 L hlen hnd hne;unfold eX
 have hkl:(dG (L.map (·.1))).length=L.length:=by rw[(pR _).length_eq,length_map]
 generalize dG (L.map (·.1))=ks at hso hkl ⊢;have hcs:∀(r:Nat->Nat) (q:List (List Nat)),jM r (q.flatMap (az ak))=q.flatMap (az ak):=λr q=>aZ (aB (λ_=>rfl) q);have hcb:∀(B:Nat) (q:List (List Nat)),fc B (q.flatMap (az ak))=true:=λB q=>bu (aB (λ_=>rfl) q);refine zS [] (n2 hcs hcb) hso ?_;refine zR ?_;refine ai.fg (Fg.freeze (f':=[(0,qG AV.str aa L),(3,cC),(8,an 1 ks (az ak)),(9,aa ks.length),(10,aa 0)]) 0 rfl (λh=>by cases h) ⟨.inl rfl,.inl rfl,.inr (by rw[mc 1 ks (az ak),hkl];exact .buf rfl (by rw[<-hkl,cu (enc:=az ak) (e:=1) (λ_=>rfl)];exact bn.refl (aB (λ_=>rfl) _)) (by rw[aJ (enc:=az ak) (e:=1) (λ_=>rfl),hkl];exact le_refl _)),.inl (by rw[hkl];rfl),.inl rfl,trivial⟩) ?_
 (try change ai _ _ _ _ _)
 have hlen6:ks.length<=1000000:=by omega
 refine zs ?_;refine zL ks (λk=>True) (λk=>[(0,qG AV.str aa L),(3,bm 1 2 (tb L (ks.take k)).length),(8,an 1 ks (az ak)),(9,aa ks.length),(10,aa k)]) (λk=>ow 1 (tb L (ks.take k)) bC) (Fg.less (by (simp only[bx,aX,cw,↓reduceIte,reduceEqDiff,an,List.take_zero,tb,List.filter_nil,map_nil,length_nil,dy,e9])<;>(repeat' apply And.intro)<;>first | rfl | trivial) (by (simp only[bx,aX,or_true,true_or,an,List.take_zero,tb,List.filter_nil,map_nil,length_nil,dy,e9])<;>(repeat' apply And.intro)<;>first | exact .inr rfl | exact .inl rfl | trivial)) zp ?_;intro k hk hall;refine zV ?_;by_cases hlt:k<ks.length;rotate_left;obtain rfl:k=ks.length:=(by omega);rw[zf];rotate_left;rw[zt hlt];obtain⟨key,hx⟩:=zx hlt;rotate_left
 ·refine zN ?_;refine ai.exit ?_;rw[List.take_length];refine zV ?_;refine zE ?_;exact zO [.tmp 2] (r:=an 2 (tb L ks) bC) (hw:=by exact Jx tR tQ _)
 have hfm:=MS L (ks.take k) key;rw[<-bo hx] at hfm;have hol:(tb L (ks.take k)).length<=k:=Nat.le_trans (Cu _ _) (by rw[List.length_take];omega);generalize hO:tb L (ks.take k)=out at hol hfm;refine zY ?_
 (repeat refine ai.seq ?_)
 refine ai.block ?_;have hcl:=aJ tR out;have hkc:=λo=>aW tQ o out;by_cases hk0:out=[]
 ·rw[show ow 1 out bC=[] by rw[hk0];rfl,show bm 1 2 out.length=cC by rw[hk0];rfl];refine aE (n3 hlt (aH (e:=1) (enc:=az ak) (λ_=>rfl) hx) @az.eq_1) ?_;cases g:decide (0<getM 0 key L)
  ·rw[if_neg (of_decide_eq_false g)] at hfm
   have f1:bm 1 2 (tb L (ks.take (k+1))).length=cC:=by rw[hfm,hk0];rfl
   have f2:ow 1 (tb L (ks.take (k+1))) bC=[]:=by rw[hfm,hk0];rfl
   refine zs ?_;refine ai.r0 (by rfl) (by simp only[bx,aX,an,aw,bind_some,map_some,↓reduceIte,reduceEqDiff,reduceAdd,reduceMul,reduceLeDiff,reduceLT,ah,ao,aP,gK (l:=L),g];first | done | rfl) ?_;refine zs ?_;refine ai.no rfl ?_;(try (refine ai.skip ?_;try change ai _ _ _ _ _));refine zs ?_;refine ai.r0 (by rfl) (by simp only[bx,aX,an,aw,bind_some,map_some,↓reduceIte,reduceEqDiff,reduceAdd,reduceMul,reduceLeDiff,reduceLT,ah,ao,aP,iJ (dX hlt hlen6 (by decide))];first | done | rfl) ?_;refine⟨ks.length-(k+1),_,by omega,(Fg.less (nM (n2 f1 f2)) (nN (n2 f1 f2))),k+1,by omega,rfl,trivial,rfl⟩
  ·rw[if_pos (of_decide_eq_true g)] at hfm
   have f1:bm 1 2 (tb L (ks.take (k+1))).length=.buf 1 1 2 none:=by rw[hfm,hk0];rfl
   have f2:ow 1 (tb L (ks.take (k+1))) bC=[.gone,.cells (bC (⟨key,getM 0 key L⟩:Sh))]:=by rw[hfm,hk0];rfl
   refine zs ?_;refine ai.r0 (by rfl) (by simp only[bx,aX,an,aw,bind_some,map_some,↓reduceIte,reduceEqDiff,reduceAdd,reduceMul,reduceLeDiff,reduceLT,ah,ao,aP,gK (l:=L),g];first | done | rfl) ?_;refine zs ?_;refine ai.yes rfl ?_;(try (refine ai.skip ?_;try change ai _ _ _ _ _));refine zs ?_;refine ai.r0 (by rfl) (by simp only[bx,aX,an,aw,bind_some,map_some,↓reduceIte,reduceEqDiff,reduceAdd,reduceMul,reduceLeDiff,reduceLT,ah,ao,aP,gK (l:=L)];first | done | rfl) ?_;refine aE (zi hlt hlen6) ?_;refine zX hlt (cI (n3 f1 f2 @bC.eq_1)) trivial
 ·have hk1:¬out.length=0:=λh=>hk0 (List.length_eq_zero_iff.1 h);rw[gF hk0,bV hk1];refine aE (n5 hlt (aH (e:=1) (enc:=az ak) (λ_=>rfl) hx) @az.eq_1 oU hkc) ?_;cases g:decide (0<getM 0 key L)
  ·rw[if_neg (of_decide_eq_false g)] at hfm
   have f1:bm 1 2 (tb L (ks.take (k+1))).length=.buf 1 out.length 2 none:=by rw[hfm,bV hk1]
   have f2:ow 1 (tb L (ks.take (k+1))) bC=[.gone,.cells (out.flatMap bC)]:=by rw[hfm,gF hk0];rfl
   refine zs ?_;refine ai.r0 (by rfl) (by simp only[bx,aX,an,aw,bind_some,map_some,↓reduceIte,reduceEqDiff,reduceAdd,reduceMul,reduceLeDiff,reduceLT,ah,ao,aP,gK (l:=L),g,replicate,hkc];first | done | rfl) ?_;refine zs ?_;refine ai.no rfl ?_;(try (refine ai.skip ?_;try change ai _ _ _ _ _));refine zs ?_;refine ai.r0 (by rfl) (gY (nh (dX hlt hlen6 (by decide)))) ?_;refine⟨ks.length-(k+1),_,by omega,(Fg.less (nM (n2 f1 f2)) (nN (n2 f1 f2))),k+1,by omega,rfl,trivial,rfl⟩
  ·rw[if_pos (of_decide_eq_true g)] at hfm
   have f1:bm 1 2 (tb L (ks.take (k+1))).length=.buf 1 (out.length+1) 2 none:=by rw[hfm,length_append];rfl
   have f2:ow 1 (tb L (ks.take (k+1))) bC=[.gone,.cells ((out++[(⟨key,getM 0 key L⟩:Sh)]).flatMap bC)]:=by rw[hfm,jz];rfl
   refine zs ?_;refine ai.r0 (by rfl) (by simp only[bx,aX,an,aw,bind_some,map_some,↓reduceIte,reduceEqDiff,reduceAdd,reduceMul,reduceLeDiff,reduceLT,ah,ao,aP,gK (l:=L),g,replicate,hkc];first | done | rfl) ?_;refine zs ?_;refine ai.yes rfl ?_;(try (refine ai.skip ?_;try change ai _ _ _ _ _));have happ:=dO tR tQ 1 out (⟨key,getM 0 key L⟩:Sh);rw[show bC (⟨key,getM 0 key L⟩:Sh)=[ak key,aa (getM 0 key L)] from rfl] at happ;refine zs ?_;refine ai.r0 (by rfl) (by simp only[bx,aX,an,aw,bind_some,map_some,↓reduceIte,reduceEqDiff,reduceAdd,reduceMul,reduceLeDiff,reduceLT,ah,ao,aP,gK (l:=L),hcl,hkc,replicate,show out.length<=1000000 by omega,le_refl,happ];first | done | rfl) ?_;refine aE (zi hlt hlen6) ?_;refine zX hlt (cI (n2 f1 f2)) trivial
end Go.Proofs
namespace Go.Ev
noncomputable section
section
variable {P:Program} {ro:Option Nat} {S:List SO} {f:Fm} {n:Nat} {ds:List jd}
theorem aM.QL{all:List Oper}{o:Oper}{l:List Oper}{K:en->Prop}{d t yt:Nat}{x:Operand}{y:Value}{ks:List AV}{vs:List SV}(hst:eH all n [o]=true)(hop:o.op=.binOp .eql t x (.const y) yt)(hdst:o.dst=some d)(hw:da all f o.guard=some true)
 (hx:eY f x=some (.im ks vs)) (hy:kT kW y=some (.map none)) (ht:gV P t=.map) (hg:P.eqGuardType P.depth t=false) (hk:aM P ro all l ⟨(d,.a (.bool false))::f,n,S,ds⟩ K):aM P ro all (o::l) ⟨f,n,S,ds⟩ K:=by
 rintro ρ0 h0 ⟨af,n',h,ds'⟩ ⟨rfl,rfl,θ,ρ,hR,hF⟩;obtain⟨hd,_⟩:=eQ hst;rw[hdst] at hd;obtain⟨a,ha,ka⟩:=bL hF hx;have ha':ev (dL af n') x=some a:=ha;obtain⟨kt,et,hu⟩:=B3 ht;have hyv:ev (dL af n') (.const y)=some (.map none):=hy;rw[VS,GS] at ka;obtain⟨id,lm,c,rfl,_⟩:=ka
 have hb:cM P .eql t (.map (some id)) (.map none)=some (.bool false):=by
  unfold cM;simp only[hg,ao,kR,hu,map_some]
 refine .v hop hdst (cX hF (ee hst hw)) rfl hd (by rw[G9,ha',hyv,bind_some,bind_some,hb];rfl) ?_;exact hk ρ0 h0 _ ⟨rfl,rfl,θ,ρ,hR,hF.put (fQ hd) (by rw[VS])⟩
theorem aM.ta{all:List Oper}{o:Oper}{l:List Oper}{K:en->Prop}{d tt xt:Nat}{x:Operand}{v:SV}{kt et:TypeId}(hst:eH all n [o]=true)(hop:o.op=.typeAssert x xt tt false)(hdst:o.dst=some d)(hw:da all f o.guard=some true)
 (hx:eY f x=some (.iface tt v)) (hu:P.underlying tt=some (.map kt et)) (hk:aM P ro all l ⟨(d,v)::f,n,S,ds⟩ K):aM P ro all (o::l) ⟨f,n,S,ds⟩ K:=by
 rintro ρ0 h0 ⟨af,n',h,ds'⟩ ⟨rfl,rfl,θ,ρ,hR,hF⟩;obtain⟨hd,_⟩:=eQ hst;rw[hdst] at hd;obtain⟨a,ha,ka⟩:=bL hF hx;have ha':ev (dL af n') x=some a:=ha;rw[VS] at ka;obtain⟨y,rfl,ky⟩:=ka
 have hrun:ef P (dL af n') h (.typeAssert x xt tt false)=some [(some y,h)]:=by
  simp only[ef,hu,ha',Nat.beq_refl,ah,ao];rfl
 refine .v hop hdst (cX hF (ee hst hw)) rfl hd hrun ?_;exact hk ρ0 h0 _ ⟨rfl,rfl,θ,ρ,hR,hF.put (fQ hd) ky⟩
end
theorem SC.clone{P:Program}{g:FuncId}(hx:yW P g .clone)(t:TypeId)(ks:List AV)(vs:List SV)(hg:cr vs=true):SC P g [.iface t (.im ks vs)] [] [] (λr S'=>r=.iface t (.map 0)/\S'=[.map ks vs none]):=by
 intro E θ ρ h avs hE hR hA;rw[aL] at hA;obtain⟨a,r,rfl,h1,h2⟩:=hA;rw[bg] at h2;subst h2;rw[VS] at h1;obtain⟨y,rfl,h1⟩:=h1;rw[VS,GS] at h1;obtain⟨id,l,c,rfl,k1,k2,k3⟩:=h1
 have hm:h.mapOf id=some (l,c):=by
  have:=(hR.row id _ k1).2.1;rw[hE] at this;unfold H.mapOf;rw[show h.aQ.get id=some (.map l c) from this]
 have hid:id<h.next:=by
  have:=(hR.row id _ k1).1;rw[hE] at this;exact this
 have key:h.low<=h.next->dT P (.func g) [.iface t (.map (some id))] h (λv h'=>∃r S' θ' ρ' h1,(r=SV.iface t (.map 0)/\S'=[SO.map ks vs none])/\h'={ h1 with low:=gh h.low h1.low }/\RS θ' ρ ρ' E h1 S'/\VS θ' ρ' r v/\([]:List SO).length<=S'.length/\∀i,i<([]:List SO).length->i∉([]:List Nat)->(θ' i).id=(θ i).id):=by
  intro hlow;refine(dT.P6 hx (a:=.iface t (.map (some h.next))) (h':={ h.lay h.next (.map l c) with next:=h.next+1 }) (by unfold xA;simp only[hm,map_some])).mono ?_;rintro a' h'' ⟨rfl,rfl⟩
  have hn:=hR.L9 (so:=.map ks vs none) (ob:=.map l c) ⟨l,c,cR _ _ _,k2,by
   show c8 _ _ (vs.map (bf _)) _
   rw[bK hg];exact k3.vs⟩
  have e:gi [] (SO.map ks vs none)=[SO.map ks vs none]:=by
   show[SO.map ks (vs.map (bf 0)) none]=_;rw[bK hg]
  rw[hE,e] at hn;refine⟨_,_,_,ρ,_,⟨rfl,rfl⟩,?_,hn,?_,Nat.zero_le _,λi hi=>absurd hi (Nat.not_lt_zero _)⟩
  ·show _=_;simp only[H.lay];rw[qo hlow]
  ·rw[VS];exact⟨_,rfl,by rw[VS];rfl⟩
 intro σ w args' hv hr;exact key hr.y8 σ w args' hv hr
end
end Go.Ev
namespace Go.Proofs
open Go.Ev
set_option maxRecDepth 100000
theorem Cy(L:List (List Nat×Int)):SC Tryz.prog 59 [qG AV.str aa L] [] [] (λr S'=>r=.map 0/\S'=[bO AV.str aa L]):=by
 refine Jl 9 Tryz.func59 ?_;have hcl:=SC.clone (P:=Tryz.prog) F9 87 (L.map λe=>.str e.1) (L.map λe=>aa e.2) (iL (uv:=aa) (λ_=>rfl) L);refine ki ?_;refine aM.QL (by rfl) rfl rfl (by rfl) rfl rfl (by simp only[aw]) (by kernel_rfl) ?_;refine zR ?_;refine M9 ?_;refine aM.fg (st':=⟨[(6,.iface 87 (qG AV.str aa L))],9,[],[]⟩) zH ?_;have hrg:∀r:Nat->Nat,jM r (L.map λe=>aa e.2)=L.map λe=>aa e.2:=λr=>aZ (iL (uv:=aa) (λ_=>rfl) L);have hbg:∀B:Nat,fc B (L.map λe=>aa e.2)=true:=λB=>bu (iL (uv:=aa) (λ_=>rfl) L);refine zS [] (n2 hrg hbg) hcl ?_;refine aM.ta (v:=.map 0) (kt:=9) (et:=3) (by rfl) rfl rfl (by rfl) rfl (by kernel_rfl) ?_;refine zR ?_;refine zE ?_;exact zP [.tmp 2]
def G0(b:List (List Nat×Int))(e:List Nat×Int):List Nat×Int:=(e.1,dR e.2 (getM 0 e.1 b))
def lz(out b:List (List Nat×Int)):List (List Nat×Int):=out.map (G0 b)
def gC:List (List (List Nat×Int))->List (List Nat×Int)
 | []=>[]
 | b::bs=>bs.foldl lz b
def ou(out b:List (List Nat×Int))(pos:List Nat):List (List Nat×Int):=out.mapIdx λj e=>if j∈pos then G0 b e else e
theorem sA(out b:List (List Nat×Int))(pos:List Nat):(ou out b pos).length=out.length:=List.length_mapIdx
theorem nE(out b:List (List Nat×Int))(pos:List Nat)(j:Nat):(ou out b pos)[j]?=(out[j]?).map λe=>if j∈pos then G0 b e else e:=by
 unfold ou;rw[List.getElem?_mapIdx]
theorem L5(out b:List (List Nat×Int)):ou out b []=out:=by
 apply ext_getElem?;intro j;rw[nE];cases out[j]?<;>simp
theorem L4{out b:List (List Nat×Int)}{pos:List Nat}(h:∀j,j<out.length->j∈pos):ou out b pos=lz out b:=by
 apply ext_getElem?;intro j;rw[nE];unfold lz;rw[getElem?_map]
 cases hj:out[j]? with
 | none=>rfl
 | some e=>simp[h j (bl hj)]
theorem Ke{out b:List (List Nat×Int)}{pos:List Nat}{j:Nat}{e:List Nat×Int}(he:out[j]?=some e):ou out b (pos++[j])=(ou out b pos).set j (G0 b e):=by
 apply ext_getElem?;intro i;rw[nE];by_cases hij:j=i
 ·subst hij;rw[List.getElem?_set_self (by rw[sA];exact bl he),he];simp
 ·rw[List.getElem?_set_ne hij,nE]
  have hm:i∈pos++[j]↔i∈pos:=by simp[Ne.symm hij]
  simp only[hm]
theorem Kc(out b:List (List Nat×Int))(pos:List Nat):(ou out b pos).map (·.1)=out.map (·.1):=by
 apply ext_getElem?;intro j;rw[getElem?_map,nE,getElem?_map]
 cases out[j]? with
 | none=>rfl
 | some e=>
  show some (if j∈pos then G0 b e else e).1=some e.1;split<;>rfl
theorem Kb(out b:List (List Nat×Int)):(lz out b).map (·.1)=out.map (·.1):=by
 unfold lz;rw[List.map_map];rfl
end Go.Proofs
