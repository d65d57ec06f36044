/- Lemmas of this claim, each with its conditions. -/
import Derived.Test.YtchdmmkclcnmnaaGreatA6
import Derived.Test.YtchdmmkclcnmnaaGreatA5
import Derived.Test.YtchdmmkclcnmnaaGreatA4
set_option linter.all false
set_option maxHeartbeats 8000000
open Go.Proofs.Tryz (prog func149 func150 func234 func235)
open List (length_nil length_eq_zero_iff nil_append flatMap_nil take_zero Perm map_nil filterMap_nil flatMap_cons mem_map foldl_nil mem_append mem_cons drop_zero mem_filter)
open Nat renaming reduceEqDiff -> ac, reduceLeDiff -> ad, reduceAdd -> af, le_refl -> al, reduceLT -> ap, reduceMul -> aS, reduceSub -> aU, mul_one -> a4, add_zero -> ba, pos_of_ne_zero -> bo, zero_le -> bt, le_trans -> bx, min_eq_left -> cb, sub_self -> ct, min_self -> em, succ_le_succ -> ex, add_assoc -> e6, succ_pos -> fb
open List renaming length_append -> aj, length_cons -> ax, mem_of_getElem? -> ay, getElem?_eq_getElem -> a1, length_map -> a2, length_take -> a7, take_of_length_le -> a8, getElem?_map -> a9, drop_of_length_le -> bb, contains_iff_mem -> bd, take_length -> be, take_append_of_le_length -> bh, length_set -> bk, filter_cons -> bv, getElem?_eq_none -> bw, replicate -> bY, append_assoc -> b0, append_nil -> b1, getElem?_zip_eq_some -> b2, mem_or_eq_of_mem_set -> b4, length_filterMap_le -> b5, any_eq_true -> b7, drop_append -> b8, length_filter_le -> b9, cons_append -> ca, filterMap_cons -> cc, flatMap_append -> cd, mem_map_of_mem -> ce, map_append -> cf, foldl_append -> ci, getElem?_cons_succ -> cj, getElem?_cons_zero -> ck, nodup_nil -> cl, getElem?_set_self -> cn, drop_length -> co, filterMap_append -> cp, getElem?_set_ne -> cR, length_zip -> c0, mem_of_mem_drop -> c4, mem_of_mem_take -> dc, takeWhile_cons -> dk, getElem?_drop -> ds, getElem?_take -> dt, set_cons_zero -> dv, any_eq_false -> d6, ext_getElem? -> d8, getElem?_inj -> d9, map_cons -> el, length_drop -> ey, all_append -> eB, countP_nil -> eC, filter_nil -> e4, nodup_cons -> e5
open And renaming intro -> a0
open Bool renaming and_eq_true -> a5, eq_iff_iff -> cv, false_eq_true -> dl, not_eq_true' -> dB
open Option renaming bind_some -> bc, map_some -> bi
namespace Go.Proofs
open Go.Ev
set_option maxRecDepth 100000
def LZ{a:List Nat}:∀{l:List (List Nat)},k8 (a::l)=true->∀x∈l,iD a x=true
 | [],_,x,h=>by simp at h
 | b::r,ho,x,h=>by
  rw[k8,a5] at ho
  rcases mem_cons.1 h with rfl | h
  ·exact ho.1
  ·exact jB ho.1 (LZ ho.2 x h)
def Nz{a:List Nat}{l:List (List Nat)}(h:k8 (a::l)=true):k8 l=true:=by
 cases l with
 | nil=>rfl
 | cons b r=>rw[k8,a5] at h;exact h.2
def rE{α:Type}(key:α->List Nat):∀{l:List α},k8 (l.map key)=true->∀k:List Nat,(l.takeWhile λx=>iD (key x) k).length<=l.length/\∀(a:Nat) (x:α),l[a]?=some x->(iD (key x) k=true↔a<(l.takeWhile λx=>iD (key x) k).length)
 | [],_,k=>⟨al _,λa x h=>by simp at h⟩
 | y::l,ho,k=>by
  have ih:=rE key (Nz ho) k;have hlt:=LZ (a:=key y) (l:=l.map key) ho
  cases h:iD (key y) k with
  | true=>
   rw[dk,t8 h,ax,ax];refine⟨ex ih.1,λa x hx=>?_⟩
   cases a with
   | zero=>simp only[ck,Option.some.injEq] at hx;subst hx;exact⟨λ_=>fb _,λ_=>h⟩
   | succ a=>simp only[cj] at hx;rw[ih.2 a x hx];exact⟨Nat.succ_lt_succ,Nat.lt_of_succ_lt_succ⟩
  | false=>
   rw[dk,ul (by rw[h];decide),length_nil];refine⟨bt _,λa x hx=>⟨λhh=>?_,λhh=>t7 hh (Nat.not_lt_zero _)⟩⟩;exfalso
   cases a with
   | zero=>simp only[ck,Option.some.injEq] at hx;subst hx;rw[h] at hh;cases hh
   | succ a=>
    simp only[cj] at hx;have:=jB (hlt _ (ce (ay hx))) hh;rw[h] at this;cases this
def r5(l:List aI)(k:List Nat):Nat:=(l.takeWhile λx=>iD (aI.name x) k).length
def dj(l:List aI)(x:aI):List aI:=if o7 l (aI.name x) (r5 l (aI.name x))=true then l.set (r5 l (aI.name x)) x else l.take (r5 l (aI.name x))++x::l.drop (r5 l (aI.name x))
def ND{l:List aI}(ho:k8 (l.map aI.name)=true)(k:List Nat):Ce l k (r5 l k):=
 ⟨(rE aI.name ho k).1,(rE aI.name ho k).2⟩
def ye(y:aI)(k:List Nat){g:FuncId}{cap:List SV}(hcap:cm cap=true)(hk:PC prog g ([.ag (ak y)]++cap) (·=ab (aI.name y))):PC prog 128 [.ag (ak y),ab k,.ip [.fn g [] cap]] (·=aa (xY (aI.name y) k)):=by
 refine pB 11 Tryz.func128 ?_;have hkc:=λo:Nat=>bL (o:=o) (dS y);have hxl:(ak y).length=14:=rfl;have hxt:(ak y).take 14=ak y:=rfl
 exact(az hkc)<|(iC (n2 hxl hxt))<|(zK hk (hwk:=bl.refl (mX (by simp only[cm,lU,dS];rfl) hcap)))<|(zQ)<|(zK (sN (aI.name y) k))<|(zR)<|zo [.tmp 5]
def S3{p:Prop} (h:p:=by
  refine pB 32 vbd ?_;have hkc:=λo:Nat=>bL (o:=o) (vbe x);have hkl:=λo:Nat=>aY (enc:=vbf) vbe o l;have hkp:=λo:Nat=>bL (o:=o) hcap;have hxl:(vbf x).length=vbg:=rfl;simp only[vbg] at hxl;have hxt:(vbf x).take vbg=vbf x:=rfl;simp only[vbg] at hxt;have hon:(vbf x).all ef=true:=rfl;have hnk:∀o:Nat,aM o (.fn g [] cap)=.fn g [] cap:=λo=>CP (by rw[lU,hcap];rfl);have hnc:∀o:Nat,gn o cap=false:=λo=>dL hcap;have hnx:∀o:Nat,gn o (vbf x)=false:=λo=>dL (vbe x)
  have hgf:cm [SV.fn g [] cap]=true:=by rw[cm,lU,hcap];rfl
  have hbl:∀B:Nat,gC B (l.flatMap vbf)=true:=λB=>bF (aA vbe l);have hrl:∀r:Nat->Nat,lr r (l.flatMap vbf)=l.flatMap vbf:=λr=>bg (aA vbe l);have hbc:∀B:Nat,gC B (vbf x)=true:=λB=>bF (vbe x);have hrc:∀r:Nat->Nat,lr r (vbf x)=vbf x:=λr=>bg (vbe x);have hbq:∀(B:Nat) (q:List vbh),gC B (q.flatMap vbf)=true:=λB q=>bF (aA vbe q);have hrq:∀(r:Nat->Nat) (q:List vbh),lr r (q.flatMap vbf)=q.flatMap vbf:=λr q=>bg (aA vbe q);have hpart:=vbi ho (vbj x);have hbs:=vbk l hlen (g:=vbl) (cap:=[.ip [.fn g [] cap]]) rfl (vbj x) _ (λy _=>vbm y (vbj x) hcap (hk y)) hpart;generalize hpos:vbn l (vbj x)=pos at hpart hbs
  have hput:vbo l x=if vbp l (vbj x) pos=true then l.set pos x else l.take pos++x::l.drop pos:=by rw[vbo,hpos]
  refine(az (n4 hkc hnk hnc hnx))<|(iC (n2 hxl hxt))<|(zK (hk x) (hwk:=bl.refl (mX (by simp only[cm,lU,vbe];rfl) hcap)))<|(zQ)<|(zK hbs (hwk:=.cons (.sl _ _ _) (.cons (.a _) (.cons (.fn .nil (.cons (.ptr rfl (bl.refl hgf) (Nat.zero_le _)) .nil)) .nil))))<|(zR)<|(zC) ?_
  by_cases hne:l=[]
  ·subst hne
   have hf0:vbp [] (vbj x) pos=false:=by unfold vbp;rw[List.getElem?_nil]
   have hp0:pos=0:=Nat.le_zero.1 hpart.le;rw[hf0] at hput ⊢;subst hp0
   refine zS [] (n4 hkc hnk hnc hnx) vbq ?_;refine(zR)<|(I4)<|(iC (n6 hxl hxt hkc hnk hnc hnx)) ?_;refine zS [2] (n4 hkc hnk hnc hnx) (vbr x) ?_;exact(zR)<|zo [.tmp 6] (r:=ah vbg [x] vbf) (hw:=zv) (hq:=by rw[hput];rfl)
  have hs:0<l.length:=Nat.pos_of_ne_zero (λe=>hne (List.length_eq_zero_iff.1 e))
  refine zS [] (n7 hkc hnk hnc hnx hkl hbl hrl) (vbs l (by ((try simp only[vbg,vbl] at *)<;>omega)) hne) ?_;refine(zR)<|(zV) ?_
  cases hfd:vbp l (vbj x) pos
  ·rw[hfd,ul (by decide)] at hput
   refine(zN)<|(iC (n7 hxl hxt hkc hnk hnc hnx hkl)) ?_;refine zS [3,4] (n2 (n9 hkc hnk hnc hnx hkl hbl hrl hrc hbc) (n2 hrq hbq)) (vbt l pos x hpart.le hs hlen) ?_;exact(zR)<|zo [.tmp 6] (r:=ah vbg (l.take pos++x::l.drop pos) vbf) (hw:=zv) (hq:=by rw[hput])
  ·rw[hfd,t8 rfl] at hput;refine(zY) ?_
   have hlt:pos<l.length:=by
    apply Decidable.byContradiction;intro hn;unfold vbp at hfd;rw[List.getElem?_eq_none (by ((try simp only[vbg,vbl] at *)<;>omega))] at hfd;cases hfd
   have hcl:(l.flatMap vbf).length=l.length*vbg:=aL (enc:=vbf) (e:=vbg) (λ_=>rfl) l;simp only[vbg] at hcl;have hst:=kS (enc:=vbf) (e:=vbg) (λ_=>rfl) x hlt
   refine(az (n7 hlt hxl hxt hcl (show pos*vbg+vbg<=l.length*vbg by ((try simp only[vbg,vbl] at *)<;>omega)) hon hst))<|(zV) ?_
   have hsl:(l.set pos x).length=l.length:=List.length_set
   exact zo [.tmp 6] (r:=.sl l.length vbg ((l.set pos x).flatMap vbf)) (hw:=.buf rfl (by rw[<-hsl,c9 (enc:=vbf) (e:=vbg) (λ_=>rfl)];exact bl.refl (aA vbe _)) (by rw[aL (enc:=vbf) (e:=vbg) (λ_=>rfl),hsl];exact Nat.le_refl _)) (hq:=by rw[hput,ah,hsl])):p:=h
open Go.Proofs.Tryz renaming func84 -> vbd in
open Go.Proofs renaming ak -> vbf,aI -> vbh,r5 -> vbn,dj -> vbo,o7 -> vbp in
open Go.Ev renaming q9 -> vbg,RU -> vbl in
open Go.Proofs.aI renaming name -> vbj in
def Fy(l:List aI)(hlen:l.length<=100000)(x:aI){g:FuncId}{cap:List SV}(hcap:cm cap=true)(hk:∀y,PC prog g ([.ag (ak y)]++cap) (·=ab (aI.name y)))(ho:k8 (l.map aI.name)=true):
 PC prog 84 [ah 14 l ak,.ag (ak x),.fn g [] cap] (·=ah 14 (Proofs.dj l x) ak):=by
 have vbe:=@dS;have vbi:=@ND;have vbk:=@HZ;have vbm:=@ye;have vbq:=@x9;have vbr:=@B4;have vbs:=@qv;have vbt:=@Fe;exact S3
def r6(l:List cA)(k:List Nat):Nat:=(l.takeWhile λx=>iD (cA.key x) k).length
def om(l:List cA)(x:cA):List cA:=if rQ l (cA.key x) (r6 l (cA.key x))=true then l.set (r6 l (cA.key x)) x else l.take (r6 l (cA.key x))++x::l.drop (r6 l (cA.key x))
def NF{l:List cA}(ho:k8 (l.map cA.key)=true)(k:List Nat):Cf l k (r6 l k):=
 ⟨(rE cA.key ho k).1,(rE cA.key ho k).2⟩
def yf(y:cA)(k:List Nat){g:FuncId}{cap:List SV}(hcap:cm cap=true)(hk:PC prog g ([.ag (aZ y)]++cap) (·=ab (cA.key y))):PC prog 136 [.ag (aZ y),ab k,.ip [.fn g [] cap]] (·=aa (xY (cA.key y) k)):=by
 refine pB 11 Tryz.func136 ?_;have hkc:=λo:Nat=>bL (o:=o) (gY y);have hxl:(aZ y).length=2:=rfl;have hxt:(aZ y).take 2=aZ y:=rfl
 exact(az hkc)<|(iC (n2 hxl hxt))<|(zK hk (hwk:=bl.refl (mX (by simp only[cm,lU,gY];rfl) hcap)))<|(zQ)<|(zK (sN (cA.key y) k))<|(zR)<|zo [.tmp 5]
open Go.Proofs.Tryz renaming func93 -> vbd in
open Go.Proofs renaming aZ -> vbf,cA -> vbh,r6 -> vbn,om -> vbo,rQ -> vbp in
open Go.Ev renaming Hj -> vbg,RV -> vbl in
open Go.Proofs.cA renaming key -> vbj in
def Fz(l:List cA)(hlen:l.length<=100000)(x:cA){g:FuncId}{cap:List SV}(hcap:cm cap=true)(hk:∀y,PC prog g ([.ag (aZ y)]++cap) (·=ab (cA.key y)))(ho:k8 (l.map cA.key)=true):
 PC prog 93 [ah 2 l aZ,.ag (aZ x),.fn g [] cap] (·=ah 2 (Proofs.om l x) aZ):=by
 have vbe:=@gY;have vbi:=@NF;have vbk:=@H0;have vbm:=@yf;have vbq:=@yb;have vbr:=@B5;have vbs:=@yc;have vbt:=@Ff;exact S3
open Go.Proofs.Tryz renaming func133 -> vaa in
open Go.Ev renaming q9 -> vab in
open Go.Proofs renaming ak -> vac in
def Fi{l:List (aI)}(p:aI->Bool){fid:FuncId}{first cap:List SV}(hlen:l.length<=1000000)(hp:∀x∈l,PC prog fid ((first++[.ag (ak x)])++cap) (·=au (p x)))(hg:cm first=true/\cm cap=true):PC prog 133 [ah 14 l ak,.fn fid first cap] (·=aa (jv p l)):=by
 have vad:=@ak.eq_1;exact zy
def E3{l:List (aI)}(p:aI->Bool){fid:FuncId}{first cap:List SV}(hlen:l.length<=1000000)(hp:∀x∈l,PC prog fid ((first++[.ag (ak x)])++cap) (·=au (p x)))(hg:cm first=true/\cm cap=true):PC prog 90 [ah 14 l ak,.fn fid first cap] (·=au (l.any p)):=by
 refine pB 9 Tryz.func90 ?_;exact(kK)<|(zK (Fi p hlen hp hg) (hwk:=.cons (Wk.sl _ _ _) (.cons (.fn (bl.refl hg.1) (bl.refl hg.2)) .nil)))<|(zR)<|zo [.tmp 4] (hq:=by rw[yw])
def kO(r:List aI×Int):SV:=.bC [.ag [ah 14 r.1 ak],aa r.2]
def dq(k:Int):PC prog 86 [aa k] (·=kO ([],k)):=by
 refine pB 6 Tryz.func86 ?_;exact(mO)<|iP [.cell 2 76,.tmp 3] (r:=.bC [.ag [.sl 0 14 []],aa k]) (hw:=zv)
def B6(p:aI):PC prog 85 [.ag (ak p)] (·=ab p.name):=by
 refine pB 5 Tryz.func85 ?_;exact(az @ak.eq_1)<|(zV)<|zo [.tmp 2]
def B7(p:cA):PC prog 94 [.ag (aZ p)] (·=ab p.key):=by
 refine pB 5 Tryz.func94 ?_;exact(az @aZ.eq_1)<|(zV)<|zo [.tmp 2]
def gg(ps:List aI)(hlen:ps.length<=100000)(ho:k8 (ps.map aI.name)=true)(p:aI):PC prog 83 [.ag (ak p),.ip [ah 14 ps ak]] (·=kO (Proofs.dj ps p,0)):=by
 refine pB 10 Tryz.func83 ?_;have hput:=Fy ps hlen p (g:=85) (cap:=[]) rfl B6 ho;rw[dZ] at hput ⊢
 exact(kK)<|(zK hput (hfl:=.inr (bl.refl rfl)))<|(zR)<|iP [.cell 3 76,.tmp 4]
def H8(e:bH)(q:aI):PC prog 92 [.ag (ak q),.ip (aF e)] (·=au (decide (q.bG=e.bG)&&decide (q.slot=e.slot))):=by
 refine pB 16 Tryz.func92 ?_;refine(az (n2 @ak.eq_1 @aF.eq_1)) ?_;cases h:decide (q.bG=e.bG)
 ·exact(az h)<|zo [.tmp 3]
 ·exact(az h)<|zo [.tmp 3]
def Ia(p q:aI):PC prog 95 [.ag (ak q),.ip (ak p)] (·=au (decide (q.bG=p.name))):=by
 refine pB 9 Tryz.func95 ?_;exact(az @ak.eq_1)<|(zV)<|zo [.tmp 3]
def uZ(ps:List aI)(hlen:ps.length<=1000000)(d:aI->Bool){g:FuncId}{cap:List SV}(hcap:cm cap=true)(hp:∀q∈ps,PC prog g ([.ag (ak q)]++cap) (·=au (d q))):PC prog 89 [.fn g [] cap,.ip [ah 14 ps ak]] (·=au (ps.any d)):=by
 refine pB 8 Tryz.func89 ?_;have h:=E3 (l:=ps) d (fid:=g) (first:=[]) (cap:=cap) hlen hp ⟨rfl,hcap⟩
 exact(kK)<|(zK h (hwk:=bl.cons (Wk.sl _ _ _) (.cons (.fn .nil (bl.refl hcap)) .nil)))<|(zR)<|zo [.tmp 3]
def rZ(e:bH):aI:=⟨e.part,e.kind,[],[],e.day,e.day,false,[],0,0,0,0,0,0⟩
def CZ(c:List aQ)(ps:List aI)(e:bH)(is:Bool):List aI×Int:=
 if is=true then ([],3) else if (e8 c e.kind).isNone=true then ([],4) else if ((ps.length:Int)=20000) then ([],7) else (dj ps (rZ e),0)
def BI(p:aI)(e:bH):aI:={ p with bG:=e.bG,slot:=e.slot }
def BP(p:aI):aI:={ p with bG:=[],slot:=[] }
def oG(p:aI)(e:bH):aI:={ p with since:=ee p.since e.day,l1:=0,l2:=0,l3:=0,l4:=0,l5:=0,l6:=0 }
def sF(p:aI)(e:bH):aI:={ p with props:=om p.props ⟨e.key,e.value⟩ }
def sC(p:aI):aI:={ p with eP:=true }
def kJ(c:List aQ)(ps:List aI)(e:bH)(p h:aI):List aI×Int:=
 let k:=(e8 c p.kind).getD aQ.zero
 if e.op=2 then (if (k.gy||!wL c h.kind e.slot p.kind)=true then ([],4) else if p.bG≠[] then ([],5) else
  if (ps.any λq=>decide (q.bG=e.bG)&&decide (q.slot=e.slot))=true then ([],6) else (dj ps (BI p e),0))
 else if e.op=3 then (if p.bG=[] then ([],5) else (dj ps (BP p),0))
 else if e.op=4 then (if k.gy=true then (dj ps p,0) else ([],4))
 else if e.op=5 then (dj ps (oG p e),0)
 else if e.op=6 then (if 60<((Proofs.om p.props ⟨e.key,e.value⟩).length:Int) then ([],7) else (dj ps (sF p e),0))
 else if e.op=7 then (if p.bG≠[] then ([],5) else if (ps.any λq=>decide (q.bG=p.name))=true then ([],5) else (dj ps (sC p),0))
 else (dj ps p,0)
def aW(c:List aQ)(ps:List aI)(e:bH):List aI×Int:=
 if lX c ps=true then (if gQ e=true then
  (if e.op=1 then CZ c ps e (qT ps (sz 0 [] ps) e.part).isSome else
   match qT ps (sz 0 [] ps) e.part,(if e.op=2 then qT ps (sz 0 [] ps) e.bG else qT ps (sz 0 [] ps) e.part) with
   | some p,some h=>if (p.eP||h.eP)=true then ([],5) else kJ c ps e p h
   | _,_=>([],2))
  else ([],1)) else ([],1)
def rb{c:List aQ}{ps:List aI}{m:List (List Nat×Int)}:∀{taken:List (iN×Bool)} {l:List aI},gp c ps m taken l=true->∀p∈l,k9 c p=true
 | _,[],_,p,hp=>by simp at hp
 | taken,q::r,h,p,hp=>by
  rw[gp,a5,a5] at h
  rcases mem_cons.1 hp with rfl | hp
  ·exact h.1
  ·cases hd:decide (q.bG=[]) with
   | true=>rw[hd,ae] at h;exact rb h.2.2 p hp
   | false=>rw[hd,ai,a5] at h;exact rb h.2.2.2 p hp
def K9{c:List aQ}{ps:List aI}(h:lX c ps=true){p:aI}(hp:p∈ps):p.props.length<=60/\k8 (p.props.map cA.key)=true:=by
 unfold lX at h;simp only[a5] at h;have:=rb h.2.2.2 p hp;unfold k9 at this;simp only[a5,dB,wd] at this;refine⟨by have:=this.2.2.2.2.2.1;omega,this.2.2.2.2.2.2.2.1⟩
def Bd(c:List aQ)(ps:List aI)(e:bH)(hc:jI c)(hlen:ps.length<=100000)(hps:∀p∈ps,gU p)(he:qC e):PC prog 43 [.ag [ah 3 c ao],.ag [ah 14 ps ak],.ag (aF e)] (·=kO (aW c ps e)):=by
 have hlen1:ps.length<=1000000:=by omega
 have hct:∀k∈c,k.bZ.length<=1000000/\∀s∈k.bZ,s.kinds.length<=1000000:=λk hk=>⟨(hc.kind k hk).2,λs hs=>(hc.slot k hk s hs).2⟩;have hy:Uh ps (sz 0 [] ps):=Jd (by omega) (Mz ps);have hvE:=rz e he;refine pB 235 Tryz.func43 ?_;rw[dW] at hvE ⊢
 refine(kK)<|(zK (IK c ps hc hlen1 hps)) ?_
 cases h1:Proofs.lX c ps
 ·exact(zR)<|(cM)<|iP [.cell 6 76,.tmp 7] (r:=.bC [.ag [.sl 0 14 []],aa 1]) (hw:=zv) (hq:=by rw[show aW c ps e=([],1) by simp[aW,h1]];rfl)
 refine(zQ)<|(zK hvE) ?_
 cases h2:gQ e
 ·exact(zR)<|(cM)<|iP [.cell 6 76,.tmp 7] (r:=.bC [.ag [.sl 0 14 []],aa 1]) (hw:=zv) (hq:=by rw[show aW c ps e=([],1) by simp[aW,h1,h2]];rfl)
 refine(zR)<|(zN) ?_
 have ho:k8 (ps.map aI.name)=true:=by
  unfold Proofs.lX at h1;simp only[a5] at h1;exact h1.2.2.1
 refine aq.fg (st':=⟨[(3,.ptr 0 0),(4,.ptr 1 0),(5,.ptr 2 0),(6,.ptr 3 0),(7,aa 0)],235,[.cells [ah 3 c ao],.cells [ah 14 ps ak],.cells [aa e.op,aa e.day,ab e.part,ab e.kind,ab e.bG,ab e.slot,ab e.key,ab e.value,aa e.u1,aa e.u2,aa e.u3,aa e.u4,aa e.u5,aa e.u6],.cells [.a (.slice none 0 0 (some 0))]],[]⟩) zH ?_;refine aq.fg (Fg.freeze (f':=[(3,.ip [ah 3 c ao]),(4,.ptr 1 0),(5,.ptr 2 0),(6,.ptr 3 0),(7,aa 0)]) 0 rfl (λh=>by cases h) (sh @ah.eq_1)) ?_;refine aq.fg (Fg.freeze (f':=[(3,.ip [ah 3 c ao]),(4,.ip [ah 14 ps ak]),(5,.ptr 2 0),(6,.ptr 3 0),(7,aa 0)]) 1 rfl (λh=>by cases h) (sh @ah.eq_1)) ?_;refine aq.fg (Fg.freeze (f':=[(3,.ip [ah 3 c ao]),(4,.ip [ah 14 ps ak]),(5,.ip [aa e.op,aa e.day,ab e.part,ab e.kind,ab e.bG,ab e.slot,ab e.key,ab e.value,aa e.u1,aa e.u2,aa e.u3,aa e.u4,aa e.u5,aa e.u6]),(6,.ptr 3 0),(7,aa 0)]) 2 rfl (λh=>by cases h) (sh @ah.eq_1)) ?_
 (try change aq _ _ _ _ _)
 refine(zC)<|(zK (wS ps hlen1) (hfl:=.inr (bl.refl rfl))) ?_
 generalize hM:sz 0 [] ps=M at hy
 refine(cK (n2 @IX.eq_1 hM))<|(mO)<|(zC) ?_
 have hG:=qk ps M e.part hy
 cases hg:qT ps M e.part with
 | none=>
  rw[hg] at hG
  refine(zK hG (hfl:=.inr (bl.refl rfl)))<|(cK (n3 @pw.eq_1 @ak.eq_1 @aI.zero.eq_1)) ?_
  by_cases ho1:e.op=1
  ·refine(az (ut ho1))<|(cM)<|(Sx) ?_
   have hF:=nE c e.kind hc.len
   cases hf:e8 c e.kind with
   | none=>
    rw[hf] at hF
    exact(zK hF (hfl:=.inr (bl.refl rfl)))<|(cK (n3 @pw.eq_1 @ao.eq_1 @aQ.zero.eq_1))<|(xS)<|(zC)<|(zK (dq _) (hfl:=.inr (bl.refl rfl)))<|(cK @ah.eq_1)<|iP [.cell 6 76,.tmp 7] (hq:=by rw[show aW c ps e=([],4) by simp[aW,CZ,h1,h2,hM,hg,ho1,hf]];rfl)
   | some k=>
    rw[hf] at hF
    refine(zK hF (hfl:=.inr (bl.refl rfl)))<|(cK (n2 @pw.eq_1 @ao.eq_1))<|(I4) ?_
    by_cases hl:(ps.length:Int)=20000
    ·exact(az (ut hl))<|(zY)<|(zC)<|(zK (dq _) (hfl:=.inr (bl.refl rfl)))<|(cK @ah.eq_1)<|iP [.cell 6 76,.tmp 7] (hq:=by rw[show aW c ps e=([],7) by simp[aW,CZ,h1,h2,hM,hg,ho1,hf,hl]];rfl)
    ·refine(az (un hl))<|(zN) ?_
     have hnext:=gg ps hlen ho (rZ e);simp only[dZ,rZ] at hnext
     exact(zC)<|(zK hnext (hfl:=.inr zw))<|(cK (n2 @kO.eq_1 @ah.eq_1))<|iP [.cell 6 76,.tmp 7] (hq:=by rw[show aW c ps e=(Proofs.dj ps (rZ e),0) by simp[aW,CZ,h1,h2,hM,hg,ho1,hf,hl]];rfl)
  by_cases ho2:e.op=2
  ·refine(az (un ho1))<|(iY)<|(az (ut ho2))<|(zY)<|(zC) ?_
   have hH:=qk ps M e.bG hy
   obtain⟨q,b,hq⟩:∃(q:aI) (b:Bool),pw ak aI.zero (qT ps M e.bG)=.bC [.ag (ak q),au b]:=by
    cases qT ps M e.bG with
    | none=>exact⟨aI.zero,false,rfl⟩
    | some q=>exact⟨q,true,rfl⟩
   rw[hq] at hH
   exact(zK hH (hfl:=.inr (bl.refl rfl)))<|(cK @ak.eq_1)<|(xS)<|(zC)<|(zK (dq _) (hfl:=.inr (bl.refl rfl)))<|(cK @ah.eq_1)<|iP [.cell 6 76,.tmp 7] (hq:=by rw[show aW c ps e=([],2) by simp[aW,h1,h2,hM,hg,ho1,ho2]];rfl)
  ·exact(az (un ho1))<|(iY)<|(az (un ho2))<|(iY)<|(zY)<|(zC)<|(zK (dq _) (hfl:=.inr (bl.refl rfl)))<|(cK @ah.eq_1)<|iP [.cell 6 76,.tmp 7] (hq:=by rw[show aW c ps e=([],2) by simp[aW,h1,h2,hM,hg,ho1,ho2]];rfl)
 | some p=>
  rw[hg] at hG
  refine(zK hG (hfl:=.inr (bl.refl rfl)))<|(cK (n2 @pw.eq_1 @ak.eq_1)) ?_
  by_cases ho1:e.op=1
  ·exact(az (ut ho1))<|(cM)<|(zY)<|(zC)<|(zK (dq _) (hfl:=.inr (bl.refl rfl)))<|(cK @ah.eq_1)<|iP [.cell 6 76,.tmp 7] (hq:=by rw[show aW c ps e=([],3) by simp[aW,CZ,h1,h2,hM,hg,ho1]];rfl)
  refine aq.fg (st':=⟨[(3,.ip [ah 3 c ao]),(4,.ip [ah 14 ps ak]),(5,.ip [aa e.op,aa e.day,ab e.part,ab e.kind,ab e.bG,ab e.slot,ab e.key,ab e.value,aa e.u1,aa e.u2,aa e.u3,aa e.u4,aa e.u5,aa e.u6]),(6,.ptr 3 0),(7,aa 0),(8,.ptr 4 0),(9,.fn 83 [] [.ip [ah 14 ps ak]]),(10,.fn 86 [] []),(11,.ptr 5 0),(12,au true)],235,[.gone,.gone,.gone,.cells [.a (.slice none 0 0 (some 0))],.cells [ah 14 ps ak,oI AV.str aa M],.cells [ab p.name,ab p.kind,ab p.bG,ab p.slot,aa p.made,aa p.since,au p.eP,ah 2 p.props aZ,aa p.l1,aa p.l2,aa p.l3,aa p.l4,aa p.l5,aa p.l6]],[]⟩) zH ?_
  (try change aq _ _ _ _ _)
  refine(az (un ho1))<|(iY) ?_
  by_cases ho2:e.op=2
  ·refine(az (ut ho2))<|(zY)<|(zC) ?_
   have hH:=qk ps M e.bG hy
   cases hh:qT ps M e.bG with
   | none=>
    rw[hh] at hH
    exact(zK hH (hfl:=.inr (bl.refl rfl)))<|(cK (n3 @pw.eq_1 @ak.eq_1 @aI.zero.eq_1))<|(xS)<|(zC)<|(zK (dq _) (hfl:=.inr (bl.refl rfl)))<|(cK @ah.eq_1)<|iP [.cell 6 76,.tmp 7] (hq:=by rw[show aW c ps e=([],2) by simp[aW,h1,h2,hM,hg,ho1,ho2,hh]];rfl)
   | some h=>
    rw[hh] at hH
    refine(zK hH (hfl:=.inr (bl.refl rfl)))<|(cK (n2 @pw.eq_1 @ak.eq_1))<|(I4) ?_
    cases f1:p.eP;rotate_left
    ·exact(az f1)<|(zY)<|(zC)<|(zK (dq _) (hfl:=.inr (bl.refl rfl)))<|(cK @ah.eq_1)<|iP [.cell 6 76,.tmp 7] (hq:=by rw[show aW c ps e=([],5) by simp[aW,h1,h2,hM,hg,ho1,ho2,hh,f1]];rfl)
    cases f2:h.eP;rotate_left
    ·exact(az (n2 f1 f2))<|(zY)<|(zC)<|(zK (dq _) (hfl:=.inr (bl.refl rfl)))<|(cK @ah.eq_1)<|iP [.cell 6 76,.tmp 7] (hq:=by rw[show aW c ps e=([],5) by simp[aW,h1,h2,hM,hg,ho1,ho2,hh,f1,f2]];rfl)
    refine(az (n2 f1 f2))<|(iY)<|(zC) ?_
    have hF:=nE c p.kind hc.len
    obtain⟨kd,b,hq,hkd⟩:∃(kd:aQ) (b:Bool),pw ao aQ.zero (e8 c p.kind)=.bC [.ag (ao kd),au b]/\(e8 c p.kind).getD aQ.zero=kd:=by
     cases e8 c p.kind with
     | none=>exact⟨aQ.zero,false,rfl,rfl⟩
     | some q=>exact⟨q,true,rfl,rfl⟩
    rw[hq] at hF
    refine(zK hF (hfl:=.inr (bl.refl rfl)))<|(cK @ao.eq_1)<|(zV) ?_;refine aq.fg (st':=⟨[(3,.ip [ah 3 c ao]),(4,.ip [ah 14 ps ak]),(5,.ip [aa e.op,aa e.day,ab e.part,ab e.kind,ab e.bG,ab e.slot,ab e.key,ab e.value,aa e.u1,aa e.u2,aa e.u3,aa e.u4,aa e.u5,aa e.u6]),(6,.ptr 3 0),(7,aa 0),(9,.fn 83 [] [.ip [ah 14 ps ak]]),(10,.fn 86 [] []),(11,.ptr 5 0),(15,.ptr 6 0),(17,.fn 89 [] [.ip [ah 14 ps ak]]),(18,.ptr 7 0),(123,aa e.op)],235,[.gone,.gone,.gone,.cells [.a (.slice none 0 0 (some 0))],.gone,.cells [ab p.name,ab p.kind,ab p.bG,ab p.slot,aa p.made,aa p.since,au false,ah 2 p.props aZ,aa p.l1,aa p.l2,aa p.l3,aa p.l4,aa p.l5,aa p.l6],.cells [ab h.name,ab h.kind,ab h.bG,ab h.slot,aa h.made,aa h.since,au false,ah 2 h.props aZ,aa h.l1,aa h.l2,aa h.l3,aa h.l4,aa h.l5,aa h.l6],.cells [ab kd.name,au kd.gy,ah 3 kd.bZ bT]],[]⟩) (bK @ak.eq_1) ?_
    (try change aq _ _ _ _ _)
    refine(zB) ?_
    refine(az (ut ho2))<|(gh) ?_
    cases g1:kd.gy;rotate_left
    ·exact(az g1)<|(zY)<|(zC)<|(zK (dq _) (hfl:=.inr (bl.refl rfl)))<|(cK @ah.eq_1)<|iP [.cell 6 76,.tmp 7] (hq:=by rw[show aW c ps e=([],4) by simp[aW,h1,h2,hM,hg,ho1,ho2,hh,f1,f2,kJ,hkd,g1]];rfl)
    refine(iC g1)<|(zK (xQ c h.kind e.slot p.kind hc.len hct)) ?_
    cases g2:Proofs.wL c h.kind e.slot p.kind
    ·exact(zR)<|(zY)<|(zC)<|(zK (dq _) (hfl:=.inr (bl.refl rfl)))<|(cK @ah.eq_1)<|iP [.cell 6 76,.tmp 7] (hq:=by rw[show aW c ps e=([],4) by simp[aW,h1,h2,hM,hg,ho1,ho2,hh,f1,f2,kJ,hkd,g1,g2]];rfl)
    refine(zR)<|(zN) ?_
    by_cases g3:p.bG=[];rotate_left
    ·exact(az (un g3))<|(zY)<|(zC)<|(zK (dq _) (hfl:=.inr (bl.refl rfl)))<|(cK @ah.eq_1)<|iP [.cell 6 76,.tmp 7] (hq:=by rw[show aW c ps e=([],5) by simp[aW,h1,h2,hM,hg,ho1,ho2,hh,f1,f2,kJ,hkd,g1,g2,g3]];rfl)
    refine(az (ut g3))<|(Sx) ?_
    have hho:=uZ ps hlen1 (λq=>decide (q.bG=e.bG)&&decide (q.slot=e.slot)) (g:=92) (cap:=[.ip [aa e.op,aa e.day,ab e.part,ab e.kind,ab e.bG,ab e.slot,ab e.key,ab e.value,aa e.u1,aa e.u2,aa e.u3,aa e.u4,aa e.u5,aa e.u6]]) rfl (λq _=>by rw[<-dW];exact H8 e q);refine(zK hho) ?_;cases g4:ps.any λq=>decide (q.bG=e.bG)&&decide (q.slot=e.slot);rotate_left
    ·exact(zR)<|(zY)<|(zC)<|(zK (dq _) (hfl:=.inr (bl.refl rfl)))<|(cK @ah.eq_1)<|iP [.cell 6 76,.tmp 7] (hq:=by rw[show aW c ps e=([],6) by simp[aW,h1,h2,hM,hg,ho1,ho2,hh,f1,f2,kJ,hkd,g1,g2,g3,g4,-b7]];rfl)
    refine(zR)<|(zN) ?_
    (try change aq _ _ _ _ _)
    refine(zs) ?_;refine nQ [0,1,0,4,3,19,63,127] ?_
    (repeat (first | refine SD.ri (by rfl) rfl (by rfl) rfl zl zl ?_ | refine SD.r (by rfl) rfl (by rfl) (by rfl) zl ?_ | refine SD.s (by rfl) rfl (by rfl) (by rfl) ?_ | fail))
    refine SD.e (by rfl) rfl (by rfl) rfl rfl (by rfl) zl ?_
    (repeat (first | refine SD.ri (by rfl) rfl (by rfl) rfl zl zl ?_ | refine SD.r (by rfl) rfl (by rfl) (by rfl) zl ?_ | refine SD.s (by rfl) rfl (by rfl) (by rfl) ?_ | fail))
    refine SD.e (by rfl) rfl (by rfl) rfl rfl (by rfl) zl ?_;refine(zM) ?_
    (try change aq _ _ _ _ _)
    obtain⟨R,hR⟩:∃R,R=Proofs.dj ps (BI p e):=⟨_,rfl⟩;have hnext:=gg ps hlen ho (BI p e);rw[<-hR] at hnext;simp only[dZ,f1,BI,BP,oG,sF,sC] at hnext
    exact(zC)<|(zK hnext (hfl:=.inr zw))<|(cK (n2 @kO.eq_1 @ah.eq_1))<|iP [.cell 6 76,.tmp 7] (hq:=by rw[show aW c ps e=(R,0) by rw[hR];simp[aW,h1,h2,hM,hg,ho1,ho2,hh,f1,f2,kJ,hkd,g1,g2,g3,g4,-b7,-d6]];rfl)
  ·refine(az (un ho2))<|(iY)<|(zN) ?_
   cases f1:p.eP;rotate_left
   ·exact(az f1)<|(zY)<|(zC)<|(zK (dq _) (hfl:=.inr (bl.refl rfl)))<|(cK @ah.eq_1)<|iP [.cell 6 76,.tmp 7] (hq:=by rw[show aW c ps e=([],5) by simp[aW,h1,h2,hM,hg,ho1,ho2,f1]];rfl)
   have f2:=f1
   refine(az (n2 f1 f2))<|(iY)<|(zC) ?_
   have hF:=nE c p.kind hc.len
   obtain⟨kd,b,hq,hkd⟩:∃(kd:aQ) (b:Bool),pw ao aQ.zero (e8 c p.kind)=.bC [.ag (ao kd),au b]/\(e8 c p.kind).getD aQ.zero=kd:=by
    cases e8 c p.kind with
    | none=>exact⟨aQ.zero,false,rfl,rfl⟩
    | some q=>exact⟨q,true,rfl,rfl⟩
   rw[hq] at hF
   refine(zK hF (hfl:=.inr (bl.refl rfl)))<|(cK @ao.eq_1)<|(zV) ?_;refine aq.fg (st':=⟨[(3,.ip [ah 3 c ao]),(4,.ip [ah 14 ps ak]),(5,.ip [aa e.op,aa e.day,ab e.part,ab e.kind,ab e.bG,ab e.slot,ab e.key,ab e.value,aa e.u1,aa e.u2,aa e.u3,aa e.u4,aa e.u5,aa e.u6]),(6,.ptr 3 0),(7,aa 0),(9,.fn 83 [] [.ip [ah 14 ps ak]]),(10,.fn 86 [] []),(11,.ptr 5 0),(15,.ptr 6 0),(17,.fn 89 [] [.ip [ah 14 ps ak]]),(18,.ptr 7 0),(123,aa e.op)],235,[.gone,.gone,.gone,.cells [.a (.slice none 0 0 (some 0))],.gone,.cells [ab p.name,ab p.kind,ab p.bG,ab p.slot,aa p.made,aa p.since,au false,ah 2 p.props aZ,aa p.l1,aa p.l2,aa p.l3,aa p.l4,aa p.l5,aa p.l6],.cells [ab p.name,ab p.kind,ab p.bG,ab p.slot,aa p.made,aa p.since,au false,ah 2 p.props aZ,aa p.l1,aa p.l2,aa p.l3,aa p.l4,aa p.l5,aa p.l6],.cells [ab kd.name,au kd.gy,ah 3 kd.bZ bT]],[]⟩) (bK @ak.eq_1) ?_
   (try change aq _ _ _ _ _)
   refine(zB) ?_
   refine(az (un ho2))<|(zN) ?_
   by_cases ho3:e.op=3
   ·refine(az (ut ho3))<|(zY) ?_
    by_cases g3:p.bG=[]
    ·exact(az (ut g3))<|(zY)<|(zC)<|(zK (dq _) (hfl:=.inr (bl.refl rfl)))<|(cK @ah.eq_1)<|iP [.cell 6 76,.tmp 7] (hq:=by rw[show aW c ps e=([],5) by simp[aW,h1,h2,hM,hg,ho1,ho2,f1,kJ,hkd,ho3,g3]];rfl)
    refine(az (un g3))<|(iY) ?_
    (try change aq _ _ _ _ _)
    obtain⟨R,hR⟩:∃R,R=Proofs.dj ps (BP p):=⟨_,rfl⟩;have hnext:=gg ps hlen ho (BP p);rw[<-hR] at hnext;simp only[dZ,f1,BI,BP,oG,sF,sC] at hnext
    exact(zC)<|(zK hnext (hfl:=.inr zw))<|(cK (n2 @kO.eq_1 @ah.eq_1))<|iP [.cell 6 76,.tmp 7] (hq:=by rw[show aW c ps e=(R,0) by rw[hR];simp[aW,h1,h2,hM,hg,ho1,ho2,f1,kJ,hkd,ho3,g3]];rfl)
   refine(az (un ho3))<|(zN) ?_
   by_cases ho4:e.op=4
   ·refine(az (ut ho4))<|(zY) ?_
    cases g1:kd.gy
    ·exact(az g1)<|(zY)<|(zC)<|(zK (dq _) (hfl:=.inr (bl.refl rfl)))<|(cK @ah.eq_1)<|iP [.cell 6 76,.tmp 7] (hq:=by rw[show aW c ps e=([],4) by simp[aW,h1,h2,hM,hg,ho1,ho2,f1,kJ,hkd,ho3,ho4,g1]];rfl)
    refine(az g1)<|(zN) ?_
    (try change aq _ _ _ _ _)
    obtain⟨R,hR⟩:∃R,R=Proofs.dj ps p:=⟨_,rfl⟩;have hnext:=gg ps hlen ho p;rw[<-hR] at hnext;simp only[dZ,f1,BI,BP,oG,sF,sC] at hnext
    exact(zC)<|(zK hnext (hfl:=.inr zw))<|(cK (n2 @kO.eq_1 @ah.eq_1))<|iP [.cell 6 76,.tmp 7] (hq:=by rw[show aW c ps e=(R,0) by rw[hR];simp[aW,h1,h2,hM,hg,ho1,ho2,f1,kJ,hkd,ho3,ho4,g1]];rfl)
   refine(az (un ho4))<|(zN) ?_
   by_cases ho5:e.op=5
   ·refine(az (ut ho5))<|(zY)<|(az @fE) ?_
    (try change aq _ _ _ _ _)
    obtain⟨R,hR⟩:∃R,R=Proofs.dj ps (oG p e):=⟨_,rfl⟩;have hnext:=gg ps hlen ho (oG p e);rw[<-hR] at hnext;simp only[dZ,f1,BI,BP,oG,sF,sC] at hnext
    exact(zC)<|(zK hnext (hfl:=.inr zw))<|(cK (n2 @kO.eq_1 @ah.eq_1))<|iP [.cell 6 76,.tmp 7] (hq:=by rw[show aW c ps e=(R,0) by rw[hR];simp[aW,h1,h2,hM,hg,ho1,ho2,f1,kJ,hkd,ho3,ho4,ho5]];rfl)
   refine(az (un ho5))<|(zN) ?_
   by_cases ho6:e.op=6
   ·refine(az (ut ho6))<|(zY) ?_
    have hpp:p∈ps:=by
     unfold qT at hg;split at hg
     ·exact ay hg
     ·cases hg
    have hpl:p.props.length<=60/\k8 (p.props.map cA.key)=true:=K9 h1 hpp;have hput:=Fz p.props (by omega) ⟨e.key,e.value⟩ (g:=94) (cap:=[]) rfl B7 hpl.2;rw[pS] at hput
    refine(zC)<|(zK hput (hfl:=.inr (bl.refl rfl)))<|(zR) ?_
    by_cases g3:60<((Proofs.om p.props ⟨e.key,e.value⟩).length:Int)
    ·exact(az (ut g3))<|(zY)<|(zC)<|(zK (dq _) (hfl:=.inr (bl.refl rfl)))<|(cK @ah.eq_1)<|iP [.cell 6 76,.tmp 7] (hq:=by rw[show aW c ps e=([],7) by simp[aW,h1,h2,hM,hg,ho1,ho2,f1,kJ,hkd,ho3,ho4,ho5,ho6,g3]];rfl)
    refine(az (un g3))<|(zN) ?_
    (try change aq _ _ _ _ _)
    obtain⟨R,hR⟩:∃R,R=Proofs.dj ps (sF p e):=⟨_,rfl⟩;have hnext:=gg ps hlen ho (sF p e);rw[<-hR] at hnext;simp only[dZ,f1,BI,BP,oG,sF,sC] at hnext
    exact(zC)<|(zK hnext (hfl:=.inr zw))<|(cK (n2 @kO.eq_1 @ah.eq_1))<|iP [.cell 6 76,.tmp 7] (hq:=by rw[show aW c ps e=(R,0) by rw[hR];simp[aW,h1,h2,hM,hg,ho1,ho2,f1,kJ,hkd,ho3,ho4,ho5,ho6,g3]];rfl)
   refine(az (un ho6))<|(zN) ?_
   by_cases ho7:e.op=7
   ·refine(az (ut ho7))<|(zY) ?_
    by_cases g3:p.bG=[];rotate_left
    ·exact(az (un g3))<|(zY)<|(zC)<|(zK (dq _) (hfl:=.inr (bl.refl rfl)))<|(cK @ah.eq_1)<|iP [.cell 6 76,.tmp 7] (hq:=by rw[show aW c ps e=([],5) by simp[aW,h1,h2,hM,hg,ho1,ho2,f1,kJ,hkd,ho3,ho4,ho5,ho6,ho7,g3]];rfl)
    refine(iC (ut g3)) ?_;have hho:=uZ ps hlen1 (λq=>decide (q.bG=p.name)) (g:=95) (cap:=[.ip (ak p)]) rfl (λq _=>Ia p q);rw[dZ,f1] at hho;refine(zK hho (hwk:=zw)) ?_;cases g4:ps.any λq=>decide (q.bG=p.name);rotate_left
    ·exact(zR)<|(zY)<|(zC)<|(zK (dq _) (hfl:=.inr (bl.refl rfl)))<|(cK @ah.eq_1)<|iP [.cell 6 76,.tmp 7] (hq:=by rw[show aW c ps e=([],5) by simp[aW,h1,h2,hM,hg,ho1,ho2,f1,kJ,hkd,ho3,ho4,ho5,ho6,ho7,g3,g4,-b7]];rfl)
    refine(zR)<|(iY) ?_
    (try change aq _ _ _ _ _)
    obtain⟨R,hR⟩:∃R,R=Proofs.dj ps (sC p):=⟨_,rfl⟩;have hnext:=gg ps hlen ho (sC p);rw[<-hR] at hnext;simp only[dZ,f1,BI,BP,oG,sF,sC] at hnext
    exact(zC)<|(zK hnext (hfl:=.inr zw))<|(cK (n2 @kO.eq_1 @ah.eq_1))<|iP [.cell 6 76,.tmp 7] (hq:=by rw[show aW c ps e=(R,0) by rw[hR];simp[aW,h1,h2,hM,hg,ho1,ho2,f1,kJ,hkd,ho3,ho4,ho5,ho6,ho7,g3,g4,-b7,-d6]];rfl)
   refine(az (un ho7))<|(zN) ?_
   (try change aq _ _ _ _ _)
   obtain⟨R,hR⟩:∃R,R=Proofs.dj ps p:=⟨_,rfl⟩;have hnext:=gg ps hlen ho p;rw[<-hR] at hnext;simp only[dZ,f1,BI,BP,oG,sF,sC] at hnext
   exact(zC)<|(zK hnext (hfl:=.inr zw))<|(cK (n2 @kO.eq_1 @ah.eq_1))<|iP [.cell 6 76,.tmp 7] (hq:=by rw[show aW c ps e=(R,0) by rw[hR];simp[aW,h1,h2,hM,hg,ho1,ho2,f1,kJ,hkd,ho3,ho4,ho5,ho6,ho7]];rfl)
def tp{a b:List (List Nat)}(h:a.Perm b):dM a=dM b:=by
 have h1:(dM a).Pairwise λa b=>Ao a b=true:=HS a;have h2:(dM b).Pairwise λa b=>Ao a b=true:=HS b;have hp:(dM a).Perm (dM b):=((rp a).trans h).trans (rp b).symm;exact Perm.eq_of_pairwise (λa b _ _ h1 h2=>G0 h1 h2) h1 h2 hp
def I6(ps:List aI)(m:List (List Nat×Int)):Prop:=(∀e∈m,∃(k:Nat) (x:aI),e.2=(k:Int)/\ps[k]?=some x/\x.name=e.1)/\(m.map (·.1)).Nodup
def ug{K U:Type}[DecidableEq K]{k:K}{l:List (K×U)}:dr k l=true↔k∈l.map (·.1):=by
 unfold dr;simp only[b7,wp,mem_map];exact⟨λ⟨e,h1,h2⟩=>⟨e,h1,h2.symm⟩,λ⟨e,h1,h2⟩=>⟨e,h1,h2.symm⟩⟩
def F4{ps:List aI}:∀{l:List aI} {i:Nat} {m:List (List Nat×Int)},ps.drop i=l->I6 ps m->I6 ps (sz i m l)
 | [],_,_,_,h=>h
 | p::r,i,m,hd,h=>by
  rw[sz]
  have hp:ps[i]?=some p:=by
   have:=congrArg (λl=>l[0]?) hd;simpa using this
  have hd2:ps.drop (i+1)=r:=by
   have:=congrArg (List.drop 1) hd;simpa using this
  refine F4 hd2 ?_
  cases hh:dr p.name m with
  | true=>exact h
  | false=>
   simp only[dl,if_false];rw[nj hh];refine⟨λe he=>?_,?_⟩
   ·rcases mem_append.1 he with he | he
    ·exact h.1 e he
    ·rw[List.mem_singleton.1 he];exact⟨i,p,rfl,hp,rfl⟩
   ·rw[cf,List.nodup_append];refine⟨h.2,by simp,λa ha b hb=>?_⟩;simp only[el,map_nil,List.mem_singleton] at hb;subst hb;intro e;subst e;rw[ug.2 ha] at hh;cases hh
def Eg(ps:List aI)(i:Int):List Nat:=match ps[i.toNat]? with
 | some p=>p.bG
 | none=>[]
abbrev jK:=List (List Nat×List Nat)
def kI(ps:List aI)(hd:List (List Nat×Int)):jK:=hd.filterMap λe=>if Eg ps e.2=[] then none else some (e.1,Eg ps e.2)
def AQ{ps:List aI}{hd:List (List Nat×Int)}{k:List Nat}(h:k∈(kI ps hd).map (·.1)):k∈hd.map (·.1):=by
 obtain⟨e,he,rfl⟩:=mem_map.1 h;obtain⟨e',he',h2⟩:=List.mem_filterMap.1 he;split at h2
 ·cases h2
 ·cases h2;exact ce he'
def jD{ps:List aI}:∀{hd:List (List Nat×Int)},(hd.map (·.1)).Nodup->((kI ps hd).map (·.1)).Nodup
 | [],_=>cl
 | e::hd,h=>by
  rw[el,e5] at h;unfold kI;rw[cc];split
  ·exact jD h.2
  ·rename_i b hb;split at hb
   ·cases hb
   ·cases hb;rw[el,e5];exact⟨λhm=>h.1 (AQ hm),jD h.2⟩
def Jw{U:Type}{l:List (List Nat×U)}{pos:List Nat}{j:Nat}{e:List Nat×U}(hn:(l.map (·.1)).Nodup)(he:l[j]?=some e)(hj:j∉pos):e.1∉(bq l pos).map (·.1):=by
 intro hm;obtain⟨e',he',h2⟩:=mem_map.1 hm;obtain⟨i,hi,h3⟩:=List.mem_filterMap.1 he'
 have h4:(l.map (·.1))[i]?=some e.1:=by rw[a9,h3];exact congrArg some h2
 have h5:(l.map (·.1))[j]?=some e.1:=by rw[a9,he];rfl
 exact hj ((d9 (bf h4) hn).1 (h4.trans h5.symm)▸hi)
def dX:Nat->jK->List (List Nat)->List (List Nat)
 | 0,_,_=>[]
 | n+1,r,ls=>if ls=[] then [] else ((r.filter λe=>ls.contains e.2).map (·.1))++dX n (r.filter λe=>!ls.contains e.2) ((r.filter λe=>ls.contains e.2).map (·.1))
def Qi(ps:List aI)(part:List Nat):jK:=mi part (kI ps (sz 0 [] ps))
def mr(ps:List aI)(part:List Nat):List (List Nat):=if dr part (sz 0 [] ps)=true then dM (dX (ps.length+2) (Qi ps part) [part]) else []
def oJ:∀(n:Nat) {r r':jK} {ls ls':List (List Nat)},r.Perm r'->(∀x,ls.contains x=ls'.contains x)->(ls=[]↔ls'=[])->(dX n r ls).Perm (dX n r' ls')
 | 0,_,_,_,_,_,_,_=>Perm.refl _
 | n+1,r,r',ls,ls',h1,h2,h3=>by
  rw[dX,dX];by_cases h:ls=[]
  ·rw[t8 h,t8 (h3.1 h)]
  ·rw[ul h,ul (λe=>h (h3.2 e))];have e1:(λe:List Nat×List Nat=>ls.contains e.2)=λe=>ls'.contains e.2:=funext λe=>h2 _
   have e2:(λe:List Nat×List Nat=>!ls.contains e.2)=λe=>!ls'.contains e.2:=funext λe=>by rw[h2]
   rw[e1,e2];have p1:=(h1.filter λe=>ls'.contains e.2).map (·.1);have p2:=h1.filter λe=>!ls'.contains e.2;refine p1.append (oJ n p2 (λx=>?_) ⟨λe=>?_,λe=>?_⟩)
   ·rw[cv,bd,bd];exact p1.mem_iff
   ·rw[e] at p1;exact p1.nil_eq.symm
   ·rw[e] at p1;exact p1.eq_nil
def ff(l:List (List Nat)):SO:=if l=[] then .gone else .cells (l.flatMap (aw ab))
def iq{l:List (List Nat)}(h:¬l=[]):ff l=.cells (l.flatMap (aw ab)):=ul h
def kg:ff []=.gone:=rfl
def fR(o:Nat)(l:List (List Nat)):bO o (ff l)=ff l:=by
 unfold ff;split
 ·rfl
 ·rw[bO];congr 1;exact bL (aA (λ_=>rfl) l)
def eW(r:Nat->Nat)(l:List (List Nat)):nM r (ff l)=ff l:=by
 unfold ff;split
 ·rfl
 ·rw[Qk];congr 1;exact bg (aA (λ_=>rfl) l)
def KT{S:List SO}{o:Nat}{l:jK}(s u:List Nat)(hS:S[o]?=some (bB AV.str ab l)):fD prog S 177 (.map o) (.a (.str s)) (.a (.str u))=some (S.set o (bB AV.str ab (cr s u l))):=
 HD (uv:=ab) (kt:=9) (et:=9) (by simp only[an]) fF hS rfl u
def Bg{S:List SO}{o:Nat}{l:jK}(s:List Nat)(hS:S[o]?=some (bB AV.str ab l)):MP prog S 177 (.map o) (.a (.str s))=some (S.set o (bB AV.str ab (mi s l))):=
 UC (uv:=ab) (k:=s) (kt:=9) (et:=9) (by simp only[an]) fF hS rfl
def j7{n:Nat}{l:jK}:bO n (bB AV.str ab l)=bB AV.str ab l:=kU λ_=>jr _
def jj(ls:List (List Nat))(hd:jK):List (List Nat):=(hd.filter λe=>ls.contains e.2).map (·.1)
def JP(ls:List (List Nat))(hd:jK)(e:List Nat×List Nat):jj ls (hd++[e])=jj ls hd++(if ls.contains e.2=true then [e.1] else []):=by
 unfold jj;rw[List.filter_append,cf];cases h:ls.contains e.2
 ·rw[bv,ul (by rw[h];decide)];rfl
 ·rw[bv,t8 h];rfl
def zm{k:List Nat}:∀{l:jK},(mi k l).length<=l.length
 | []=>al _
 | e::l=>by
  rw[mi];split
  ·exact Nat.le_succ _
  ·exact ex zm
def wW:∀(ks:List (List Nat)) {r:jK},(r.map (·.1)).Nodup->ks.foldl (λr k=>mi k r) r=r.filter λe=>!ks.contains e.1
 | [],r,_=>by
  rw[foldl_nil];symm;rw[List.filter_eq_self];intro a _;rfl
 | k::ks,r,h=>by
  rw[List.foldl_cons,lB h];have hn:((r.filter λe=>!decide (e.1=k)).map (·.1)).Nodup:=h.sublist ((List.filter_sublist).map _);rw[wW ks hn,List.filter_filter]
  congr 1
  funext e;rw[List.contains_cons];by_cases hh:e.1=k
  ·simp[hh]
  ·simp[hh]
def MQ{r:jK}{ls mo:List (List Nat)}(hn:(r.map (·.1)).Nodup)(hm:mo.Perm (jj ls r)):mo.foldl (λr k=>mi k r) r=r.filter λe=>!ls.contains e.2:=by
 rw[wW mo hn];apply List.filter_congr;intro e he
 congr 1
 rw[cv,bd,hm.mem_iff];unfold jj;constructor
 ·intro h;obtain⟨e',he',h2⟩:=mem_map.1 h;obtain⟨h3,h4⟩:=mem_filter.1 he'
  have:e'=e:=by
   obtain⟨i,hi⟩:=List.mem_iff_getElem?.1 h3;obtain⟨j,hj⟩:=List.mem_iff_getElem?.1 he
   have g1:(r.map (·.1))[i]?=some e'.1:=by rw[a9,hi];rfl
   have g2:(r.map (·.1))[j]?=some e'.1:=by rw[a9,hj,h2];rfl
   have:=(d9 (bf g1) hn).1 (g1.trans g2.symm);subst this;rw[hi] at hj;cases hj;rfl
  rw[this] at h4;exact h4
 ·intro h;exact ce (mem_filter.2 ⟨he,h⟩)
def DY:∀(l:List aI) (i:Nat) (m:List (List Nat×Int)),(sz i m l).length<=m.length+l.length
 | [],_,_=>al _
 | p::r,i,m=>by
  rw[sz];refine bx (DY r _ _) ?_
  cases h:dr p.name m with
  | true=>simp only[if_true,ax];omega
  | false=>simp only[dl,if_false,nj h,aj,ax,length_nil];omega
def AN{α:Type}(p:α->Bool):∀l:List α,(l.filter p).length+(l.filter λx=>!p x).length=l.length
 | []=>rfl
 | a::l=>by
  have:=AN p l;cases h:p a
  ·rw[bv,ul (by rw[h];decide),bv,t8 (by rw[h];rfl),ax,ax];omega
  ·rw[bv,t8 h,bv,ul (by rw[h];decide),ax,ax];omega
def JO{ls:List (List Nat)}{a b:jK}(h:a.Perm b):(jj ls a).Perm (jj ls b):=(h.filter _).map _
def cw{p o e n:Nat}(h:o≠p):names p (bp o e n)=false:=by
 unfold bp;split
 ·exact jr _
 ·rw[names];exact un h
def eg(q:Nat->Nat)(o e n:Nat):fY q (bp o e n)=bp (q o) e n:=by
 unfold bp;split
 ·rw[Qm]
 ·rw[ES]
def Au(r:jK)(bs:List Nat)(c:Nat):SO:=.map (r.map λe=>.str e.1) (r.map λe=>ab e.2) (some (bs,c))
def wc(o:Nat)(r:jK)(bs:List Nat)(c:Nat):bO o (Au r bs c)=Au r bs c:=by
 unfold Au;rw[bO]
 congr 1
 exact bL (eU (uv:=ab) (λ_=>rfl) r)
def Mh(q:Nat->Nat)(r:jK)(bs:List Nat)(c:Nat):nM q (Au r bs c)=Au r bs c:=by
 unfold Au;rw[HK]
 congr 1
 exact bg (eU (uv:=ab) (λ_=>rfl) r)
def Mg(q:Nat->Nat)(r:jK):nM q (bB AV.str ab r)=bB AV.str ab r:=by
 unfold bB;rw[HK]
 congr 1
 exact bg (eU (uv:=ab) (λ_=>rfl) r)
def Ic(ps:List aI)(part:List Nat)(hlen:ps.length<=100000):SC prog 44 [.ag [ah 14 ps ak],ab part] [] [] (λr S'=>r=bp 0 1 (mr ps part).length/\S'=[ff (mr ps part)]):=by
 refine Mk 87 Tryz.func44 ?_;refine(kK)<|(zK (wS ps (by omega)) (hfl:=.inr (bl.refl rfl))) ?_
 have hgood:I6 ps (sz 0 [] ps):=F4 (ps:=ps) rfl ⟨λe he=>by simp at he,cl⟩
 have hMl:(sz 0 [] ps).length<=ps.length:=by have:=DY ps 0 [];simpa using this
 obtain⟨M,hM⟩:∃M,M=sz 0 [] ps:=⟨_,rfl⟩
 have hN:mr ps part=if dr part M=true then dM (dX (ps.length+2) (mi part (kI ps M)) [part]) else []:=by rw[hM];rfl
 rw[<-hM] at hgood hMl
 refine(cK (n2 @IX.eq_1 (Eq.symm hM)))<|(zs) ?_;refine aq.r0 (by rfl) (by simp only[bI,bj,ah,an,bc,bi,↓reduceIte,ac,af,aS,ad,ap,ae,ai,aN,xI (l:=M)];first | done | rfl) ?_;refine(zV) ?_
 cases h1:dr part M
 ·refine(cM) ?_;rw[h1,ul (by decide)] at hN;refine aq.fg (st':=⟨[(4,cI)],87,[.gone],[]⟩) zH ?_;refine(zE) ?_;exact zP [.tmp 4] (hq:=by (try simp only[df,aX]);first | done | (rw[hN];exact⟨rfl,rfl⟩))
 rw[h1,t8 rfl] at hN
 refine(iY)<|(zC) ?_;refine aG.Vt (ks:=M.map λe=>.str e.1) (vs:=M.map λe=>aa e.2) (by rfl) rfl rfl (by rfl) rfl (by simp only[an]) ?_
 intro bs c hbs;refine(cK @j7) ?_
 (repeat refine aq.seq ?_)
 refine aq.block (aq.loop (λm st=>∃pos:List Nat,pos.Nodup/\(∀j∈pos,j<M.length)/\M.length-pos.length=m/\st=⟨[(1,ab part),(5,.ptr 1 0),(8,.map 2),(33,.ptr 3 0)],87,[.gone,.cells [ah 14 ps ak,oI AV.str aa M],bB AV.str ab (kI ps (bq M pos)),.pd (M.map λe=>.str e.1) (M.map λe=>aa e.2) bs c pos],[]⟩) M.length (bK (n5 @bB.eq_1 @bq.eq_1 @kI.eq_1 @filterMap_nil.{0,0} @map_nil.{0,0})) ⟨[],cl,λj hj=>by simp at hj,rfl,rfl⟩ (by rintro m st ⟨pos,_,_,_,rfl⟩;rfl) ?_);rintro m st ⟨pos,hpn,hpl,rfl,rfl⟩;refine(zC) ?_;refine aG.Vp (by rfl) rfl rfl (by rfl) rfl rfl (λj hj=>by rw[a2];exact hpl j hj) ?_ ?_;rotate_left
 ·intro j hj hjn;rw[a2] at hj;obtain⟨e,he⟩:∃e,M[j]?=some e:=⟨M[j],a1 hj⟩;obtain⟨q1,q2,q3⟩:=pA hpn hpl hj hjn;obtain⟨i,x,hi,hx,hxn⟩:=hgood.1 e (ay he);have hil:=bf hx;have hsn:=lE M pos he;have hfresh:=Jw hgood.2 he hjn
  refine(zR)<|(gh)<|(zC) ?_;refine aG.Vl (k:=.str e.1) (v:=aa e.2) (by rfl) rfl rfl (by rfl) rfl rfl (by rw[a9,he];rfl) (by rw[a9,he];rfl) ?_;refine(zR) ?_
  rw[hi];refine(az (n3 hil (aH (e:=14) (enc:=ak) (λ_=>rfl) hx) @ak.eq_1)) ?_
  have hin:Eg ps e.2=x.bG:=by unfold Eg;rw[hi,Int.toNat_natCast,hx]
  by_cases hx0:x.bG=[]
  ·refine(az (ut hx0))<|(zN) ?_
   have hr:kI ps (bq M (pos++[j]))=kI ps (bq M pos):=by
    rw[hsn];unfold kI;rw[cp,cc,t8 (by rw[hin,hx0]),filterMap_nil,b1]
   exact⟨M.length-(pos++[j]).length,_,by rw[aj];simp only[ax,length_nil];omega,(bK hr),pos++[j],q1,q2,rfl,rfl⟩
  ·refine(az (un hx0))<|(zY)<|(zs) ?_;refine aq.r0 (by rfl) (by simp only[bI,bj,ah,an,bc,bi,↓reduceIte,ac,af,aS,ad,ap,ae,ai,aN,KT (l:=kI ps (bq M pos))];first | done | rfl) ?_
   have hr:kI ps (bq M (pos++[j]))=cr e.1 x.bG (kI ps (bq M pos)):=by
    rw[nj (by
     cases hh:dr e.1 (kI ps (bq M pos)) with
     | false=>rfl
     | true=>exact t7 (AQ (ug.1 hh)) hfresh),hsn]
    unfold kI;rw[cp,cc,ul (by rw[hin];exact hx0),filterMap_nil,hin]
   exact⟨M.length-(pos++[j]).length,_,by rw[aj];simp only[ax,length_nil];omega,(bK hr),pos++[j],q1,q2,rfl,rfl⟩
 intro hall;have hperm:(bq M pos).Perm M:=mY hpn hpl λj hj=>hall j (by rw[a2];exact hj)
 refine(zR)<|(eN)<|(zs) ?_;refine aq.r0 (by rfl) (by simp only[bI,bj,ah,an,bc,bi,↓reduceIte,ac,af,aS,ad,ap,ae,ai,aN,Bg (l:=kI ps (bq M pos))];first | done | rfl) ?_
 obtain⟨r0,hr0⟩:∃r0,r0=mi part (kI ps (bq M pos)):=⟨_,rfl⟩;have hnk:((bq M pos).map (·.1)).Nodup:=(hperm.map (·.1)).nodup_iff.2 hgood.2
 have hrp:r0.Perm (mi part (kI ps M)):=by
  rw[hr0,lB (jD hnk),lB (jD hgood.2)];exact(hperm.filterMap _).filter _
 have hr0n:(r0.map (·.1)).Nodup:=by
  rw[hr0,lB (jD hnk)];exact(jD hnk).sublist (List.filter_sublist.map _)
 have hr0l:r0.length<=ps.length:=by
  rw[hrp.length_eq];exact bx zm (bx (b5 _ _) hMl)
 have hN2:mr ps part=dM (dX (ps.length+2) r0 [part]):=by
  rw[hN];exact tp (oJ _ hrp.symm (λ_=>rfl) Iff.rfl)
 rw[<-hr0];clear hN hperm hall
 refine(zV)<|(az @j7) ?_;refine aq.fg (Fg.freeze (f':=[(1,ab part),(8,.map 2),(12,cI),(13,ah 1 [part] (aw ab))]) 4 rfl (λh=>by cases h) (sh (n4 @ah.eq_1 @aw.eq_1 @flatMap_cons.{0,0} @flatMap_nil.{0,0}))) ?_;refine aq.fg (st':=⟨[(1,ab part),(8,.map 0),(12,cI),(13,ah 1 [part] (aw ab))],87,[bB AV.str ab r0,.gone],[]⟩) (Fg.rn [2,0] (by decide) rfl (I0 @Mg) (I1 @Mg)) ?_
 clear hr0 hrp;obtain⟨T,hT0⟩:∃T,T=dX (ps.length+2) r0 [part]:=⟨_,rfl⟩;rw[<-hT0] at hN2
 (repeat refine aq.seq ?_)
 refine aq.block (aq.loop (λm st=>∃(r:jK) (ls out:List (List Nat)) (fu:Nat),((r.map (·.1)).Nodup/\r.length+(if ls=[] then 1 else 2)<=fu)/\(out++dX fu r ls).Perm T/\(out.length+r.length<=ps.length/\ls.length<=ps.length+1)/\(r.length+if ls=[] then 0 else 1)=m/\st=⟨[(1,ab part),(8,.map 0),(12,bp 1 1 out.length),(13,ah 1 ls (aw ab))],87,[bB AV.str ab r,ff out],[]⟩) (r0.length+1) (bK (n3 @eO @kg @length_nil.{0})) ⟨r0,[part],[],ps.length+2,⟨hr0n,by rw[ul (by simp)];omega⟩,by rw[hT0];exact Perm.refl _,⟨by simpa using hr0l,by simp⟩,rfl,rfl⟩ (by rintro m st ⟨r,ls,out,fu,_,_,_,_,rfl⟩;rfl) ?_);rintro m st ⟨r,ls,out,fu,⟨hrn,hfu⟩,hT,⟨hsz,hlsl⟩,rfl,rfl⟩;clear hr0n hr0l hT0;by_cases hls:ls=[]
 ·subst hls
  refine(az (show decide (0<(([]:List (List Nat)).length:Int))=false by simp))<|(eN) ?_
  have hgo:dX fu r []=[]:=by
   cases fu with
   | zero=>rfl
   | succ k=>rw[dX,t8 rfl]
  rw[hgo,b1] at hT
  have hres:mr ps part=dM out:=by rw[hN2];exact(tp hT).symm
  by_cases ho:out=[]
  ·subst ho
   refine(iC (n2 @eO @length_nil.{0}))<|(zK vi)<|(zR)<|(zV) ?_;refine aq.fg (st':=⟨[(4,cI)],87,[.gone],[]⟩) zH ?_;refine(zE) ?_;exact zP [.tmp 4] (hq:=by (try simp only[df,aX]);first | done | (rw[hres,show dM []=[] from rfl];exact⟨rfl,rfl⟩))
  ·have hol:¬out.length=0:=λh=>ho (length_eq_zero_iff.1 h);rw[bU hol,iq ho]
   refine(zC) ?_;refine aG.sk [1] (by rfl) rfl rfl (by rfl) rfl zc (tC out (by omega) ho) (by simp only[eM,bj,ah,↓reduceIte,ac,af,aU,aS,ad,ap,j7,bg (aA (enc:=aw ab) (λ_=>rfl) _),bF (aA (enc:=aw ab) (λ_=>rfl) _)];first | done | rfl) rfl (by decide) (by simp only[vW,eM,bj,ah,j7,bg (aA (enc:=aw ab) (λ_=>rfl) _),bF (aA (enc:=aw ab) (λ_=>rfl) _)]<;>(repeat' apply a0)<;>first | trivial | rfl | (intro hh;cases hh)) (by simp only[BU,eM,bj,ah,af,ap,decide_true,j7,bg (aA (enc:=aw ab) (λ_=>rfl) _),bF (aA (enc:=aw ab) (λ_=>rfl) _)];first | done | rfl) (by simp only[BU,eM,bj,ah,af,ap,decide_true,j7,bg (aA (enc:=aw ab) (λ_=>rfl) _),bF (aA (enc:=aw ab) (λ_=>rfl) _)];first | done | rfl) (by simp only[eM,bj,ah,↓reduceIte,ac,af,aU,aS,ad,ap,j7,bg (aA (enc:=aw ab) (λ_=>rfl) _),bF (aA (enc:=aw ab) (λ_=>rfl) _)];first | done | rfl) (by simp only[eM,bj,ah,↓reduceIte,ac,af,aU,aS,ad,ap,j7,bg (aA (enc:=aw ab) (λ_=>rfl) _),bF (aA (enc:=aw ab) (λ_=>rfl) _),di,dx,bO,aM,bI];first | done | rfl) (by simp only[eM,bj,ah,↓reduceIte,ac,af,aU,aS,ad,ap,j7,bg (aA (enc:=aw ab) (λ_=>rfl) _),bF (aA (enc:=aw ab) (λ_=>rfl) _),di,dx,bO,aM,bI];first | done | rfl) ?_;refine(zR)<|(zV) ?_
   have hsl:(dM out).length=out.length:=(rp out).length_eq;have hsne:¬dM out=[]:=λe=>hol (by rw[<-hsl,e];rfl);refine aq.fg (st':=⟨[(4,.buf 0 out.length 1 none)],87,[.cells ((dM out).flatMap (aw ab))],[]⟩) (Fg.rn [1] (by decide) rfl (by (simp only[qU,eM,bj,ah,bg (aA (enc:=aw ab) (λ_=>rfl) (dM out))])<;>(repeat' apply a0)<;>first | trivial | exact .inl rfl | exact .inr rfl | exact .inr trivial | exact .inl trivial) (by (simp only[bI,eM,bj,ah,bg (aA (enc:=aw ab) (λ_=>rfl) (dM out))])<;>(repeat' apply a0)<;>first | rfl | trivial)) ?_;refine(zE) ?_;exact zP [.tmp 4] (hq:=by (try simp only[df,aX]);first | done | (rw[hres,hsl,bU hol,iq hsne];exact⟨rfl,rfl⟩))
 rw[ul hls] at hfu ⊢;have hl0:0<ls.length:=bo λh=>hls (length_eq_zero_iff.1 h)
 refine(az (show decide (0<(ls.length:Int))=true by simp only[wp];omega))<|(gh)<|(kK) ?_;refine aG.Wl (oo:=0) (ks:=r.map λe=>.str e.1) (vs:=r.map λe=>ab e.2) (b:=none) (by rfl) rfl rfl (by rfl) rfl rfl (by simp only[an]) ?_
 intro bs c hbs;rw[a2] at hbs;change aG _ _ _ _ ⟨_,_,gS [Au r bs c,ff out] _,_⟩ _;refine aG.r0 (by rfl) (by simp only[bI,bj,ah,an,bc,bi,↓reduceIte,ac,af,aS,ad,ap,ae,ai,aN,fR,wc,cw (show 1≠2 by decide)];first | done | rfl) ?_
 (repeat refine aq.seq ?_)
 refine aq.block (aq.loop (λm st=>∃pos:List Nat,pos.Nodup/\(∀j∈pos,j<r.length)/\r.length-pos.length=m/\st=⟨[(1,ab part),(8,.map 0),(12,bp 1 1 out.length),(13,ah 1 ls (aw ab)),(14,bp 3 1 (jj ls (bq r pos)).length),(58,.ptr 2 0)],87,[Au r bs c,ff out,.iter (.map 0) bs c pos,ff (jj ls (bq r pos))],[]⟩) r.length (Fg.less (by (simp only[bI,bj,dI,↓reduceIte,ac,ah,bq,jj,filterMap_nil,e4,map_nil,eO,kg,length_nil,cw (show 1≠2 by decide)])<;>(repeat' apply a0)<;>first | rfl | trivial) (by (simp only[bI,bj,or_true,true_or,ah,bq,jj,filterMap_nil,e4,map_nil,eO,kg,length_nil,cw (show 1≠2 by decide)])<;>(repeat' apply a0)<;>first | exact .inr rfl | exact .inl rfl | trivial)) ⟨[],cl,λj hj=>by simp at hj,rfl,rfl⟩ (by rintro m st ⟨pos,_,_,_,rfl⟩;rfl) ?_);rintro m st ⟨pos,hpn,hpl,rfl,rfl⟩;refine(zC) ?_;refine aG.Wh (ks:=r.map λe=>.str e.1) (vs:=r.map λe=>ab e.2) (by rfl) rfl rfl (by rfl) rfl rfl rfl (λj hj=>by rw[a2];exact hpl j hj) ?_ ?_;rotate_left
 ·intro j hj hjn;rw[a2] at hj;obtain⟨e,he⟩:∃e,r[j]?=some e:=⟨r[j],a1 hj⟩;obtain⟨q1,q2,q3⟩:=pA hpn hpl hj hjn;have hsn:=lE r pos he;have hms:=JP ls (bq r pos) e;rw[<-hsn] at hms
  have hml:(jj ls (bq r pos)).length<=100000:=by
   unfold jj;rw[a2];have h1:=b9 (λe:List Nat×List Nat=>ls.contains e.2) (bq r pos);have h2:(bq r pos).length<=pos.length:=b5 _ _;omega
  generalize jj ls (bq r pos)=mo at hms hml
  refine(zR)<|(gh)<|(zC) ?_;refine aG.We (ks:=r.map λe=>.str e.1) (vs:=r.map λe=>ab e.2) (k:=.str e.1) (v:=ab e.2) (by rfl) rfl rfl (by rfl) rfl rfl rfl (by rw[a9,he];rfl) (by rw[a9,he];rfl) ?_;refine(zR)<|(zC)<|(zK (lf ls e.2 (by omega))) ?_
  cases hc:ls.contains e.2
  ·rw[hc,ul (by decide),b1] at hms
   refine(zR)<|(zN) ?_;exact⟨r.length-(pos++[j]).length,_,by rw[aj];simp only[ax,length_nil];omega,(bK hms),pos++[j],q1,q2,rfl,rfl⟩
  ·rw[hc,t8 rfl] at hms
   refine(zR)<|(zY) ?_
   have happ:=en (enc:=aw ab) (e:=1) (λ_=>rfl) (λ_=>rfl) 3 mo e.1;have hcl:=aL (enc:=aw ab) (e:=1) (λ_=>rfl) mo;rw[show aw ab e.1=[ab e.1] from rfl,a4] at happ;by_cases hmo:mo=[]
   ·subst hmo;refine(zs) ?_;refine aq.r0 (by rfl) (by simp only[bI,bj,ah,an,bc,bi,↓reduceIte,ac,af,aS,ad,ap,ae,ai,aN,eO,length_nil,kg,fR,wc,cw (show 1≠4 by decide),cw (show 1≠5 by decide)];first | done | rfl) ?_;exact⟨r.length-(pos++[j]).length,_,by rw[aj];simp only[ax,length_nil];omega,((Fg.rn (f':=[(1,ab part),(8,.map 0),(12,bp 1 1 out.length),(13,ah 1 ls (aw ab)),(14,.buf 3 1 1 none),(58,.ptr 2 0)]) (n:=87) (S':=[Au r bs c,ff out,.iter (.map 0) bs c (pos++[j]),.cells [ab e.1]]) [0,1,2,5] (by decide) rfl (I0 (n3 @Mh @eW @eg)) (I1 (n3 @Mh @eW @eg)))).trans (bK (n7 hms @nil_append.{0} @ff.eq_1 @aw.eq_1 @flatMap_cons.{0,0} @flatMap_nil.{0,0} @bp.eq_1)),pos++[j],q1,q2,rfl,rfl⟩
   ·have hmol:¬mo.length=0:=λh=>hmo (length_eq_zero_iff.1 h);rw[bU hmol,iq hmo]
    have hq:mo++[e.1]≠[]:=by simp
    have hql:(mo++[e.1]).length=mo.length+1:=by rw[aj];rfl
    refine(zs) ?_;refine aq.r0 (by rfl) (by simp only[bI,bj,ah,an,bc,bi,↓reduceIte,ac,af,aS,ad,ap,ae,ai,aN,fR,wc,cw (show 1≠4 by decide),cw (show 1≠3 by decide),aY (enc:=aw ab) (λ_=>rfl) _ mo,hcl,a4,al,show mo.length<=1000000 by omega,happ];first | done | rfl) ?_;exact⟨r.length-(pos++[j]).length,_,by rw[aj];simp only[ax,length_nil];omega,(bK (n4 hms hql @Ey (iq hq))),pos++[j],q1,q2,rfl,rfl⟩
 intro hall;have hperm:(bq r pos).Perm r:=mY hpn hpl λj hj=>hall j (by rw[a2];exact hj);have hmp:(jj ls (bq r pos)).Perm (jj ls r):=JO hperm;obtain⟨mo,hmo⟩:∃mo,mo=jj ls (bq r pos):=⟨_,rfl⟩;rw[<-hmo] at hmp ⊢;clear hall
 refine(zR)<|(eN) ?_;refine aq.fg (st':=⟨[(1,ab part),(8,.map 0),(12,bp 1 1 out.length),(13,ah 1 ls (aw ab)),(14,ah 1 mo (aw ab))],87,[bB AV.str ab r,ff out],[]⟩) ?_ ?_
 ·refine Fg.trans (b:=⟨_,87,[Au r bs c,ff out],[]⟩) ?_ (Fg.K6 (S:=[Au r bs c,ff out]) (ks:=r.map λe=>.str e.1) (vs:=r.map λe=>ab e.2) (b:=some (bs,c)) 0 rfl);by_cases h0:mo=[]
  ·rw[h0];exact Fg.trans (Fg.wk (f':=[(1,ab part),(8,.map 0),(12,bp 1 1 out.length),(13,ah 1 ls (aw ab)),(14,ah 1 ([]:List (List Nat)) (aw ab))]) ⟨.inl rfl,.inl rfl,.inl rfl,.inl rfl,.inr (.nil _),trivial⟩) zH
  ·have hmol:¬mo.length=0:=λh=>h0 (length_eq_zero_iff.1 h);rw[bU hmol,iq h0];exact Fg.trans (Fg.freeze (f':=[(1,ab part),(8,.map 0),(12,bp 1 1 out.length),(13,ah 1 ls (aw ab)),(14,ah 1 mo (aw ab))]) 3 rfl (λh=>by cases h) ⟨.inl rfl,.inl rfl,.inl rfl,.inl rfl,.inr (.buf rfl (by rw[c9 (enc:=aw ab) (e:=1) (λ_=>rfl)];exact bl.refl (aA (λ_=>rfl) _)) (by rw[aL (enc:=aw ab) (e:=1) (λ_=>rfl)];exact al _)),trivial⟩) zH
 have hmol:mo.length<=r.length:=by
  rw[hmp.length_eq];unfold jj;rw[a2];exact b9 _ _
 have hdel:=MQ hrn hmp
 have hgo:((out++mo)++dX (fu-1) (r.filter λe=>!ls.contains e.2) mo).Perm T:=by
  refine Perm.trans ?_ hT;obtain⟨k,rfl⟩:∃k,fu=k+1:=⟨fu-1,by omega⟩;rw[dX,ul hls,b0];refine Perm.append_left out (hmp.append ?_);refine oJ k (Perm.refl _) (λx=>?_) ⟨λe=>?_,λe=>?_⟩
  ·rw[cv,bd,bd];exact hmp.mem_iff
  ·rw[e] at hmp;exact hmp.nil_eq.symm
  ·have:jj ls r=[]:=e;rw[this] at hmp;exact hmp.eq_nil
 have hpl:(jj ls r).length+(r.filter λe=>!ls.contains e.2).length=r.length:=by
  unfold jj;rw[a2];exact AN _ r
 rw[<-hmp.length_eq] at hpl;have hrn2:((r.filter λe=>!ls.contains e.2).map (·.1)).Nodup:=hrn.sublist (List.filter_sublist.map _)
 (try change aq _ _ _ _ _)
 refine(zV)<|(zs) ?_;refine zL mo (λk=>True) (λk=>[(1,ab part),(8,.map 0),(12,bp 1 1 out.length),(14,ah 1 mo (aw ab)),(71,ah 1 mo (aw ab)),(72,aa mo.length),(73,aa k)]) (λk=>[bB AV.str ab ((mo.take k).foldl (λr k=>mi k r) r),ff out]) (bK (n2 @take_zero.{0} @foldl_nil.{0,0})) zp ?_;intro k hk hall;refine zT mo k ?_ ?_;rintro rfl;rotate_left;intro x hx hlt;rotate_left
 rotate_left
 ·refine(gh)<|(az (n3 hlt (aH (e:=1) (enc:=aw ab) (λ_=>rfl) hx) @aw.eq_1))<|(zs) ?_;refine aq.r0 (by rfl) (by simp only[bI,bj,ah,an,bc,bi,↓reduceIte,ac,af,aS,ad,ap,ae,ai,aN,Bg (l:=(mo.take k).foldl (λr k=>mi k r) r)];first | done | rfl) ?_
  have hst:(mo.take (k+1)).foldl (λr k=>mi k r) r=mi x ((mo.take k).foldl (λr k=>mi k r) r):=by rw[bz hx,ci];rfl
  refine(az (zi hlt (show mo.length<=1000000 by omega))) ?_;refine zX hlt (bK hst) trivial
 refine(eN) ?_;rw[be,hdel];generalize hr':(r.filter λe=>!ls.contains e.2)=r' at hgo hpl hrn2
 have hme:r'.length+(if mo=[] then 0 else 1)<r.length+1/\r'.length+(if mo=[] then 1 else 2)<=fu-1:=by
  by_cases h0:mo=[]
  ·rw[t8 h0,t8 h0];omega
  ·have:0<mo.length:=bo λh=>h0 (length_eq_zero_iff.1 h);rw[ul h0,ul h0];omega
 have hsz2:(out++mo).length+r'.length<=ps.length/\mo.length<=ps.length+1:=by rw[aj];omega
 have hmk:=aY (enc:=aw ab) (λ_=>rfl);have hmo1:(mo.flatMap (aw ab)).all ef=true:=o6 (λ_=>rfl) mo;by_cases h0:mo=[]
 ·subst h0;rw[b1] at hgo hsz2;by_cases h1:out=[]
  ·subst h1
   refine(az (n2 @eO @length_nil.{0}))<|(zV) ?_;exact⟨_,_,hme.1,(bK (n3 @eO @kg @length_nil.{0})),r',[],[],fu-1,⟨hrn2,hme.2⟩,hgo,hsz2,rfl,rfl⟩
  ·have h1l:¬out.length=0:=λh=>h1 (length_eq_zero_iff.1 h);rw[bU h1l,iq h1]
   refine(az (n2 @length_nil.{0} (show out.length<=1000000 by omega)))<|(zV) ?_;exact⟨_,_,hme.1,(Fg.less (by (simp only[bI,bj,dI,↓reduceIte,ac,ah,bU h1l,iq h1,length_nil])<;>(repeat' apply a0)<;>first | rfl | trivial) (by (simp only[bI,bj,or_true,true_or,ah,bU h1l,iq h1,length_nil])<;>(repeat' apply a0)<;>first | exact .inr rfl | exact .inl rfl | trivial)),r',[],out,fu-1,⟨hrn2,hme.2⟩,hgo,hsz2,rfl,rfl⟩
 have hmol2:¬mo.length=0:=λh=>h0 (length_eq_zero_iff.1 h);by_cases h1:out=[]
 ·subst h1;rw[nil_append] at hgo hsz2
  refine(az (n8 @eO @kg @length_nil.{0} hmol2 (show mo.length<=1000000 by omega) hmo1 hmk @j7))<|(zV) ?_;exact⟨_,_,hme.1,((Fg.rn (f':=[(1,ab part),(8,.map 0),(12,.buf 1 mo.length 1 none),(13,ah 1 mo (aw ab))]) (n:=87) (S':=[bB AV.str ab r',.cells (mo.flatMap (aw ab))]) [0,2] (by decide) rfl (by (simp only[qU,eM,bj,ah,Mg,bg (aA (enc:=aw ab) (λ_=>rfl) mo)])<;>(repeat' apply a0)<;>first | trivial | exact .inl rfl | exact .inr rfl | exact .inr trivial | exact .inl trivial) (by (simp only[bI,eM,bj,ah,Mg,bg (aA (enc:=aw ab) (λ_=>rfl) mo)])<;>(repeat' apply a0)<;>first | rfl | trivial))).trans (Fg.less (by (simp only[bI,bj,dI,↓reduceIte,ac,ah,bU hmol2,iq h0])<;>(repeat' apply a0)<;>first | rfl | trivial) (by (simp only[bI,bj,or_true,true_or,ah,bU hmol2,iq h0])<;>(repeat' apply a0)<;>first | exact .inr rfl | exact .inl rfl | trivial)),r',mo,mo,fu-1,⟨hrn2,hme.2⟩,hgo,hsz2,rfl,rfl⟩
 ·have h1l:¬out.length=0:=λh=>h1 (length_eq_zero_iff.1 h);have hol:=aL (enc:=aw ab) (e:=1) (λ_=>rfl) out;rw[a4] at hol;have hot:(out.flatMap (aw ab)).take out.length=out.flatMap (aw ab):=a8 (by rw[hol];exact al _)
  have hq:¬(out++mo)=[]:=by simp[h1]
  have hql:(out++mo).length=out.length+mo.length:=aj;rw[bU h1l,iq h1]
  have hap:(out.flatMap (aw ab)++mo.flatMap (aw ab)).map (aM 1)=(out++mo).flatMap (aw ab):=by rw[cf,hmk,hmk,cd]
  refine(az (n2 (n9 hmol2 (show mo.length<=1000000 by omega) (show out.length<=1000000 by omega) hmo1 hol @a4 @al hot hmk) (n2 @j7 hap)))<|(zV) ?_;exact⟨_,_,hme.1,(Fg.less (by (simp only[bI,bj,dI,↓reduceIte,ac,ah,bU (show ¬(out.length+mo.length)=0 by omega),iq hq,hql])<;>(repeat' apply a0)<;>first | rfl | trivial) (by (simp only[bI,bj,or_true,true_or,ah,bU (show ¬(out.length+mo.length)=0 by omega),iq hq,hql])<;>(repeat' apply a0)<;>first | exact .inr rfl | exact .inl rfl | trivial)),r',mo,out++mo,fu-1,⟨hrn2,hme.2⟩,hgo,hsz2,rfl,rfl⟩
def CR(l1 l2 l3 l4 l5 l6:Int):List SV:=[aa l1,aa l2,aa l3,aa l4,aa l5,aa l6]
def Tz(a b x y:List SV)(off:Nat)(h:off=a.length):((a++(x++(y++b))).drop (off+x.length)).take y.length=y:=by
 subst h;rw[b8,show a.length+x.length-a.length=x.length by omega,bb (by omega),nil_append,b8,ct,bb (al _),nil_append,drop_zero,bh (al _),a8 (al _)]
def TV(a b x y z:List SV)(off:Nat)(h:off=a.length)(hz:z.length=y.length):(a++(x++(y++b))).take (off+x.length)++(z++(a++(x++(y++b))).drop (off+x.length+z.length))=a++(x++(z++b)):=by
 subst h
 rw[List.take_append,show a.length+x.length-a.length=x.length by omega,a8 (by omega),bh (al _),a8 (al _),
  b8,bb (by omega),nil_append,show a.length+x.length+z.length-a.length=x.length+z.length by omega,b8,bb (by omega),nil_append,show x.length+z.length-x.length=y.length by omega,b8,bb (al _),nil_append,ct,drop_zero]
 simp
def Py(l1 l2 l3 l4 l5 l6:Int)(u:jc)(d1 d2:Int):List SV:=CR (fv kh l1 l2 u.u1 u.u2).1 (fv kh l1 l2 u.u1 u.u2).2 (fv kh l3 l4 u.u3 u.u4).1 (fv kh l3 l4 u.u3 u.u4).2 (fv kh l5 l6 d1 d2).1 (fv kh l5 l6 d1 d2).2
def Fo(a b:List SV)(l1 l2 l3 l4 l5 l6:Int)(u:jc)(d1 d2:Int)(hg:cm (a++(CR l1 l2 l3 l4 l5 l6++b))=true):SC prog 48 [.ptr 0 a.length,.ag (ea u),lF d1 d2] [.cells (a++(CR l1 l2 l3 l4 l5 l6++b))] []
 (λr S'=>r=.bC []/\S'=[.cells (a++(Py l1 l2 l3 l4 l5 l6 u d1 d2++b))]):=by
 refine J6 35 Tryz.func48 ?_;have hp1:=ql l1 l2 u.u1 u.u2;have hp2:=ql l3 l4 u.u3 u.u4;have hp3:=ql l5 l6 d1 d2;unfold Py;generalize fv kh l1 l2 u.u1 u.u2=q1 at hp1 ⊢;generalize fv kh l3 l4 u.u3 u.u4=q2 at hp2 ⊢;generalize fv kh l5 l6 d1 d2=q3 at hp3 ⊢;obtain⟨cs,hcs⟩:∃cs,cs=a++(CR l1 l2 l3 l4 l5 l6++b):=⟨_,rfl⟩;rw[<-hcs] at hg ⊢;have hk:∀o:Nat,cs.map (aM o)=cs:=λo=>bL hg
 have hl:cs.length=a.length+(6+b.length):=by rw[hcs,aj,aj];rfl
 have g1:(cs.drop a.length).take 2=[aa l1,aa l2]:=by rw[hcs];exact Tz a (aa l3::aa l4::aa l5::aa l6::b) [] [aa l1,aa l2] a.length rfl
 have g2:(cs.drop (a.length+2)).take 2=[aa l3,aa l4]:=by rw[hcs];exact Tz a (aa l5::aa l6::b) [aa l1,aa l2] [aa l3,aa l4] a.length rfl
 have g3:(cs.drop (a.length+4)).take 2=[aa l5,aa l6]:=by rw[hcs];exact Tz a b [aa l1,aa l2,aa l3,aa l4] [aa l5,aa l6] a.length rfl
 obtain⟨c1,hc1⟩:∃c1,c1=cs.take a.length++(aa q1.1::aa q1.2::cs.drop (a.length+2)):=⟨_,rfl⟩
 have e1:c1=a++([aa q1.1,aa q1.2]++([aa l3,aa l4,aa l5,aa l6]++b)):=by rw[hc1,hcs];exact TV a (aa l3::aa l4::aa l5::aa l6::b) [] [aa l1,aa l2] [aa q1.1,aa q1.2] a.length rfl rfl
 obtain⟨c2,hc2⟩:∃c2,c2=c1.take (a.length+2)++(aa q2.1::aa q2.2::c1.drop (a.length+2+2)):=⟨_,rfl⟩
 have e2:c2=a++([aa q1.1,aa q1.2]++([aa q2.1,aa q2.2]++([aa l5,aa l6]++b))):=by rw[hc2,e1];exact TV a (aa l5::aa l6::b) [aa q1.1,aa q1.2] [aa l3,aa l4] [aa q2.1,aa q2.2] a.length rfl rfl
 obtain⟨c3,hc3⟩:∃c3,c3=c2.take (a.length+4)++(aa q3.1::aa q3.2::c2.drop (a.length+4+2)):=⟨_,rfl⟩
 have e3:c3=a++(CR q1.1 q1.2 q2.1 q2.2 q3.1 q3.2++b):=by rw[hc3,e2];exact TV a b [aa q1.1,aa q1.2,aa q2.1,aa q2.2] [aa l5,aa l6] [aa q3.1,aa q3.2] a.length rfl rfl
 have hl1:c1.length=a.length+(6+b.length):=by rw[e1];simp;omega
 have hl2:c2.length=a.length+(6+b.length):=by rw[e2];simp;omega
 rw[<-e3];refine(az (n3 @ea.eq_1 @lF.eq_1 hk)) ?_;refine aq.post ?_;refine(zs) ?_;refine nQ [0,0,0,0,8,24,56,0,128,504,0,1024,3072,7168,0,16384,65528,0,131072,393216,917504,0,4194296,8388601,16777209,33554425,67108859,134217723,268435451,536870911,1073741823,2147483647] ?_;refine(me (n4 hl (show a.length+2<=a.length+(6+b.length) by omega) g1 @ba)) ?_;refine SD.k (by rfl) rfl rfl (by rfl) rfl rfl (IY @lF.eq_1) (hp1) (zw) rfl ?_;refine(me (n5 hl @e6 (show a.length+4<=a.length+(6+b.length) by omega) g2 @ba)) ?_;refine SD.k (by rfl) rfl rfl (by rfl) rfl rfl (IY @lF.eq_1) (hp2) (zw) rfl ?_;refine(me (n5 hl @e6 (show a.length+6<=a.length+(6+b.length) by omega) g3 @ba)) ?_;refine SD.k (by rfl) rfl rfl (by rfl) rfl rfl (IY @lF.eq_1) (hp3) (zw) rfl ?_;refine(me @ba) ?_;refine SD.e (by rfl) rfl (by rfl) rfl rfl (by rfl) (iZ (n6 @oU.eq_1 @lF.eq_1 hl @ba (show a.length+2<=a.length+(6+b.length) by omega) (Eq.symm hc1))) ?_;refine(me @ba) ?_;refine SD.e (by rfl) rfl (by rfl) rfl rfl (by rfl) (iZ (n5 @oU.eq_1 @lF.eq_1 hl1 (show a.length+2+2<=a.length+(6+b.length) by omega) (Eq.symm hc2))) ?_;refine(me @ba) ?_;refine SD.e (by rfl) rfl (by rfl) rfl rfl (by rfl) (iZ (n5 @oU.eq_1 @lF.eq_1 hl2 (show a.length+4+2<=a.length+(6+b.length) by omega) (Eq.symm hc3))) ?_;refine(zM) ?_;refine⟨⟨[(1000000,.ptr 0 0)],35,[.cells c3],[]⟩,(bK @jw.eq_1),?_⟩;exact zP []
def oB(e:bH):jc:=⟨e.u1,e.u2,e.u3,e.u4,e.u5,e.u6⟩
def yj(u:jc)(d:Int×Int)(p:aI):aI:={ p with l1:=(fv kh p.l1 p.l2 u.u1 u.u2).1,l2:=(fv kh p.l1 p.l2 u.u1 u.u2).2,l3:=(fv kh p.l3 p.l4 u.u3 u.u4).1,l4:=(fv kh p.l3 p.l4 u.u3 u.u4).2,l5:=(fv kh p.l5 p.l6 d.1 d.2).1,l6:=(fv kh p.l5 p.l6 d.1 d.2).2 }
def Bv(dmg:bu)(ins:List (List Nat))(e:bH)(p:aI):aI:=if ins.contains p.name=true then yj (oB e) (rK dmg (oB e)) p else p
def K8(dmg:bu)(ps:List aI)(e:bH):List aI:=ps.map (Bv dmg (mr ps e.part++[e.part]) e)
def rm(c:List aQ)(dmg:bu):Nat->List bH->List aI->List aI×Int×Int
 | _,[],s=>(s,-1,0)
 | i,e::r,s=>if (aW c s e).2=0 then (if e.op=4 then rm c dmg (i+1) r (K8 dmg (aW c s e).1 e) else rm c dmg (i+1) r (aW c s e).1) else ([],(i:Int),(aW c s e).2)
def nd(day:Int)(e:bH):Bool:=decide (day<e.day)
def runN(c:List aQ)(dmg:bu)(l:List bH)(day:Int):List aI×Int×Int:=if (mg c&&eb dmg)=true then rm c dmg 0 (gK (fp (nd day) l)) [] else ([],-1,1)
def QA(r:List aI×Int×Int):SV:=.bC [.ag [ah 14 r.1 ak],aa r.2.1,aa r.2.2]
def gU.VG{p:aI}(h:gU p)(u:jc)(d:Int×Int):gU (yj u d p):=⟨h.name,h.kind,h.bG,h.slot,h.len,h.prop⟩
def HB{l:List aI}{x p:aI}(h:p∈dj l x):p=x\/p∈l:=by
 unfold dj at h;split at h
 ·rcases b4 h with h | h
  ·exact .inr h
  ·exact .inl h
 ·rcases mem_append.1 h with h | h
  ·exact .inr (dc h)
  ·rcases mem_cons.1 h with h | h
   ·exact .inl h
   ·exact .inr (c4 h)
def HC{l:List cA}{x p:cA}(h:p∈om l x):p=x\/p∈l:=by
 unfold om at h;split at h
 ·rcases b4 h with h | h
  ·exact .inr h
  ·exact .inl h
 ·rcases mem_append.1 h with h | h
  ·exact .inr (dc h)
  ·rcases mem_cons.1 h with h | h
   ·exact .inl h
   ·exact .inr (c4 h)
def HA(l:List aI)(x:aI):(dj l x).length<=l.length+1:=by
 unfold dj;split
 ·rw[bk];omega
 ·rw[aj,ax,a7,ey];omega
def J2{l:List aI}{x:aI}:dj l x≠[]:=by
 unfold dj;split
 ·rename_i h;intro e;have e2:=congrArg List.length e;rw[bk] at e2;have e3:l=[]:=length_eq_zero_iff.1 e2;subst e3;simp[o7] at h
 ·simp
def uf:jA []:=⟨bt _,λb hb=>by cases hb⟩
def Jv(c:List aQ)(ps:List aI)(e:bH)(hps:∀p∈ps,gU p)(he:qC e):(∃p,aW c ps e=(dj ps p,0)/\gU p)\/∃k,aW c ps e=([],k)/\k≠0:=by
 have hget:∀name p,qT ps (sz 0 [] ps) name=some p->gU p:=by
  intro name p h;unfold qT at h;split at h
  ·exact hps p (ay h)
  ·cases h
 unfold aW;split
 ·split
  ·split
   ·unfold CZ;split
    ·exact .inr ⟨3,rfl,by decide⟩
    ·split
     ·exact .inr ⟨4,rfl,by decide⟩
     ·split
      ·exact .inr ⟨7,rfl,by decide⟩
      ·exact .inl ⟨_,rfl,⟨he.part,he.kind,uf,uf,by simp[rZ],λx hx=>by simp[rZ] at hx⟩⟩
   ·split
    ·rename_i p h hp hh;have hpo:=hget _ _ hp;split
     ·exact .inr ⟨5,rfl,by decide⟩
     ·unfold kJ;simp only
      repeat' split
      all_goals first
       | exact .inr ⟨_,rfl,by decide⟩
       | exact .inl ⟨p,rfl,hpo⟩
       | exact .inl ⟨_,rfl,⟨hpo.name,hpo.kind,he.bG,he.slot,hpo.len,hpo.prop⟩⟩
       | exact .inl ⟨_,rfl,⟨hpo.name,hpo.kind,uf,uf,hpo.len,hpo.prop⟩⟩
       | exact .inl ⟨_,rfl,⟨hpo.name,hpo.kind,hpo.bG,hpo.slot,hpo.len,hpo.prop⟩⟩
       | (
        refine .inl ⟨_,rfl,⟨hpo.name,hpo.kind,hpo.bG,hpo.slot,?_,?_⟩⟩
        ·rename_i hle;show(om p.props ⟨e.key,e.value⟩).length<=_;omega
        ·intro x hx
         rcases HC hx with rfl | hx
         ·exact⟨he.key,he.value⟩
         ·exact hpo.prop x hx)
    ·exact .inr ⟨2,rfl,by decide⟩
  ·exact .inr ⟨1,rfl,by decide⟩
 ·exact .inr ⟨1,rfl,by decide⟩
def vS{c:List aQ}{ps:List aI}{e:bH}(hps:∀p∈ps,gU p)(he:qC e):(∀p∈(aW c ps e).1,gU p)/\(aW c ps e).1.length<=ps.length+1/\((aW c ps e).2=0->(aW c ps e).1≠[])/\((aW c ps e).2≠0->(aW c ps e).1=[]):=by
 rcases Jv c ps e hps he with⟨p,h,hp⟩ | ⟨k,h,hk⟩
 ·rw[h];refine⟨λq hq=>?_,HA _ _,λ_=>J2,λh=>t7 rfl h⟩
  rcases HB hq with rfl | hq
  ·exact hp
  ·exact hps q hq
 ·rw[h];exact⟨λq hq=>by simp at hq,bt _,λh=>t7 h hk,λ_=>rfl⟩
def Mu{dmg:bu}{ps:List aI}{e:bH}(hps:∀p∈ps,gU p):(∀p∈K8 dmg ps e,gU p)/\(K8 dmg ps e).length=ps.length:=by
 refine⟨λp hp=>?_,a2 _⟩;obtain⟨q,hq,rfl⟩:=mem_map.1 hp;unfold Bv;split
 ·exact(hps q hq).VG _ _
 ·exact hps q hq
def xG(e:bH)(day:Int):PC prog 41 [.ag (aF e),.ip [aa day]] (·=au (nd day e)):=by
 refine pB 8 Tryz.func41 ?_;exact(az @aF.eq_1)<|(zV)<|zo [.tmp 3]
def je(B:Nat)(l:List (List Nat)):kD B (ff l)=true:=by
 unfold ff;split
 ·rfl
 ·rw[kD];exact bF (aA (λ_=>rfl) l)
def jO(B e n:Nat):dG (B+1) (bp 0 e n)=true:=by
 unfold bp;split
 ·exact fN rfl
 ·rw[dG];exact ut (fb B)
def Pk:∀(n:Nat) (r:jK) (ls:List (List Nat)),(dX n r ls).length<=r.length
 | 0,_,_=>bt _
 | n+1,r,ls=>by
  rw[dX];split
  ·exact bt _
  ·rw[aj,a2];have h1:=Pk n (r.filter λe=>!ls.contains e.2) ((r.filter λe=>ls.contains e.2).map (·.1));have h2:=AN (λe:List Nat×List Nat=>ls.contains e.2) r;omega
def JA(ps:List aI)(part:List Nat):(mr ps part).length<=ps.length:=by
 unfold mr;split
 ·have h1:(dM (dX (ps.length+2) (Qi ps part) [part])).length=(dX (ps.length+2) (Qi ps part) [part]).length:=(rp _).length_eq;rw[h1];refine bx (Pk _ _ _) (bx zm (bx (b5 _ _) ?_));have:=DY ps 0 [];simpa using this
 ·exact bt _
def EU(l:List bH)(d:bH->Bool):(gK (fp d l)).length<=l.length:=by
 rw[gK,Af];exact b9 _ _
def Ml{l:List bH}{d:bH->Bool}{e:bH}(h:e∈gK (fp d l)):e∈l:=(mem_filter.1 ((CL _ _).mem_iff.1 h)).1
abbrev eT(e:bH):List SV:=[ab e.part,ab e.kind,ab e.bG,ab e.slot,ab e.key,ab e.value,aa e.u1,aa e.u2,aa e.u3,aa e.u4,aa e.u5,aa e.u6]
abbrev eA(e:bH):List SV:=[aa e.op,aa e.day,ab e.part,ab e.kind,ab e.bG,ab e.slot,ab e.key,ab e.value,aa e.u1,aa e.u2,aa e.u3,aa e.u4,aa e.u5,aa e.u6]
abbrev wE(c:List aQ)(dmg:bu)(e:bH)(ev:List bH)(k:Nat):Fm:=[(3,.ip (ah 3 c ao::aD dmg)),(6,.ptr 0 0),(10,.ptr 1 0),(12,.ip (eA e)),(34,ah 14 ev aF),(35,aa ev.length),(36,aa k)]
abbrev wF(c:List aQ)(dmg:bu)(e:bH)(ev:List bH)(k:Nat)(I:List (List Nat))(d:Int×Int)(n k2:Nat):Fm:=[(3,.ip (ah 3 c ao::aD dmg)),(6,.ptr 0 0),(10,.ptr 1 0),(12,.ip (eA e)),(15,ah 1 I (aw ab)),(16,.ip [aa d.1,aa d.2]),(34,ah 14 ev aF),(35,aa ev.length),(36,aa k),(77,aa n),(78,aa k2)]
def tz(c:List aQ)(dmg:bu)(l:List bH)(day:Int)(hc:jI c)(hf:gJ dmg)(hlen:l.length<20)(hl:∀e∈l,qC e):PC prog 17 [.ag (ah 3 c ao::aD dmg),ah 14 l aF,aa day] (·=QA (runN c dmg l day)):=by
 have hfl:(aD dmg).length=3:=eL dmg;have hft:(aD dmg).take 3=aD dmg:=a8 (by rw[hfl];exact al _);have hfk:=λo:Nat=>bL (o:=o) (aE dmg);have hfn:=λo:Nat=>dL (o:=o) (aE dmg);refine pB 101 Tryz.func17 ?_;refine(az (n2 hfk hfn)) ?_;refine aq.fg (Fg.freeze (f':=[(1,ah 14 l aF),(3,.ip (ah 3 c ao::aD dmg)),(5,.ptr 1 0),(6,.ptr 2 0),(7,aa 0),(8,aa 0)]) 0 rfl (λh=>by cases h) ⟨.inl rfl,.inr (.ptr rfl (bl.refl (aE dmg)) (bt _)),.inl rfl,.inl rfl,.inl rfl,.inl rfl,trivial⟩) ?_
 (try change aq _ _ _ _ _)
 refine(zC)<|(zK (oz c hc)) ?_
 cases h1:mg c
 ·refine(zR)<|(cM)<|(zE) ?_;exact zO [.cell 6 76,.tmp 7,.tmp 8] (r:=.bC [.ag [.sl 0 14 []],aa (-1),aa 1]) (hw:=zv) (hq:=by (try simp only[df,aX]);first | done | (rw[show runN c dmg l day=([],-1,1) by simp[runN,h1]];rfl))
 refine(Sy (n2 hfl hft))<|(zK (rD dmg hf) (hwk:=bl.cons (.ag (bl.refl (aE dmg))) .nil)) ?_
 cases h2:Proofs.eb dmg
 ·refine(zR)<|(cM)<|(zE) ?_;exact zO [.cell 6 76,.tmp 7,.tmp 8] (r:=.bC [.ag [.sl 0 14 []],aa (-1),aa 1]) (hw:=zv) (hq:=by (try simp only[df,aX]);first | done | (rw[show runN c dmg l day=([],-1,1) by simp[runN,h1,h2]];rfl))
 refine(zR)<|(zN) ?_
 have hN:runN c dmg l day=rm c dmg 0 (gK (fp (nd day) l)) []:=by rw[runN,h1,h2];rfl
 refine aq.fg (st':=⟨[(1,ah 14 l aF),(3,.ip (ah 3 c ao::aD dmg)),(5,.ptr 1 0),(6,.ptr 2 0)],101,[.gone,.cells [aa day],.cells [.a (.slice none 0 0 (some 0))]],[]⟩) zH ?_;clear h1 h2;obtain⟨kp,hkp⟩:∃kp,kp=fp (nd day) l:=⟨_,rfl⟩
 have hkl:kp.length<=l.length:=by rw[hkp];exact Pp _ _
 rw[<-hkp] at hN
 (repeat refine aq.seq ?_)
 refine aq.mono (Q:=λe st=>e=.normal/\Fg st ⟨[(3,.ip (ah 3 c ao::aD dmg)),(6,.ptr 0 0),(9,ah 14 kp aF)],101,[.cells [.a (.slice none 0 0 (some 0))]],[]⟩) ?_ ?_
 ·by_cases hne:l=[]
  ·subst hne;have hk0:kp=[]:=hkp;subst hk0;refine(zC) ?_;refine zS [] (n2 hfk hfn) BX ?_;refine(zQ) ?_;refine zS [1] (n2 hfk hfn) (Kl 41 [aa day] rfl (nd day) (λx=>xG x day)) ?_;refine(zR) ?_;refine⟨rfl,?_⟩;refine Fg.trans (b:=⟨[(3,.ip (ah 3 c ao::aD dmg)),(6,.ptr 2 0),(9,ah 14 [] aF)],101,[.gone,.gone,.cells [.a (.slice none 0 0 (some 0))]],[]⟩) ?_ (Fg.rn (f':=[(3,.ip (ah 3 c ao::aD dmg)),(6,.ptr 0 0),(9,ah 14 [] aF)]) (n:=101) (S':=[.cells [.a (.slice none 0 0 (some 0))]]) [2] (by decide) rfl (by (simp only[qU,eM,bj,ah,bg (aE dmg)])<;>(repeat' apply a0)<;>first | trivial | exact .inl rfl | exact .inr rfl | exact .inr trivial | exact .inl trivial) (by (simp only[bI,eM,bj,ah,bg (aE dmg)])<;>(repeat' apply a0)<;>first | rfl | trivial));exact Fg.trans (Fg.wk (f':=[(3,.ip (ah 3 c ao::aD dmg)),(6,.ptr 2 0),(9,ah 14 [] aF)]) ⟨.inl rfl,.inl rfl,.inr (.VB 14),trivial⟩) zH
  ·have hne0:¬l.length=0:=λh=>hne (length_eq_zero_iff.1 h);have hrq:∀(r:Nat->Nat) (q:List bH),lr r (q.flatMap aF)=q.flatMap aF:=λr q=>bg (aA dn q);have hbq:∀(B:Nat) (q:List bH),gC B (q.flatMap aF)=true:=λB q=>bF (aA dn q);have hkq:=aY dn;have hdel:=Km 41 [aa day] rfl (nd day) (λx=>xG x day) l (by omega);rw[<-hkp] at hdel;obtain⟨q,hq⟩:∃q,q=kp++bY (l.length-kp.length) bH.zero:=⟨_,rfl⟩
   have hqt:(q.flatMap aF).take (kp.length*14)=kp.flatMap aF:=by
    rw[ju dP,hq,bh (al _),a8 (al _)]
   have hql:(q.flatMap aF).length=l.length*14:=by rw[aL dP,hq,aj,List.length_replicate];congr 1;omega
   rw[<-hq] at hdel;refine(zC) ?_;refine zS [] (n5 hfk hfn hrq hbq hkq) (BY l (by omega) hne) ?_;refine(zQ) ?_;refine zS [4,1] (n5 hfk hfn hrq hbq hkq) hdel ?_;refine(zR) ?_;refine⟨rfl,?_⟩;refine Fg.trans (b:=⟨[(3,.ip (ah 3 c ao::aD dmg)),(6,.ptr 2 0),(9,ah 14 kp aF)],101,[.gone,.gone,.cells [.a (.slice none 0 0 (some 0))]],[]⟩) ?_ (Fg.rn (f':=[(3,.ip (ah 3 c ao::aD dmg)),(6,.ptr 0 0),(9,ah 14 kp aF)]) (n:=101) (S':=[.cells [.a (.slice none 0 0 (some 0))]]) [2] (by decide) rfl (by (simp only[qU,eM,bj,ah,bg (aE dmg)])<;>(repeat' apply a0)<;>first | trivial | exact .inl rfl | exact .inr rfl | exact .inr trivial | exact .inl trivial) (by (simp only[bI,eM,bj,ah,bg (aE dmg)])<;>(repeat' apply a0)<;>first | rfl | trivial));exact Fg.trans (Fg.freeze (f':=[(3,.ip (ah 3 c ao::aD dmg)),(6,.ptr 2 0),(9,ah 14 kp aF)]) 4 rfl (λh=>by cases h) ⟨.inl rfl,.inl rfl,.inr (.buf rfl (by rw[hqt];exact bl.refl (aA dn _)) (by rw[hql];exact Nat.mul_le_mul_right 14 hkl)),trivial⟩) zH
 rintro e st ⟨rfl,hfg⟩;refine aq.fg hfg ?_;clear hfg
 (try change aq _ _ _ _ _)
 have hkm:∀e∈gK kp,qC e:=λe he=>hl e (by rw[hkp] at he;exact Ml he)
 have hsl:(gK kp).length<20:=by have:=EU l (nd day);rw[<-hkp] at this;omega
 refine(kK)<|(zK (Iw kp (by omega)) (hfl:=.inr (bl.refl (by rw[cm,ah,lU,cm];rfl)))) ?_
 generalize gK kp=ev at hN hkm hsl;refine(zR) ?_
 have hlen1:ev.length<=1000000:=by omega
 refine aq.fg (st':=⟨[(3,.ip (ah 3 c ao::aD dmg)),(6,.ptr 0 0),(10,.ptr 1 0),(34,ah 14 ev aF),(35,aa ev.length),(36,aa 0)],101,[.cells [.a (.slice none 0 0 (some 0))],.cells [.a (.slice none 0 0 (some 0))]],[]⟩) zH ?_;refine aq.fg (Fg.Wm (S':=[.cells [.a (.slice none 0 0 (some 0))],.cells [ah 14 ([]:List aI) ak]]) ⟨.inr ⟨by decide,.inl rfl⟩,.inr ⟨by decide,.inr ⟨_,_,rfl,rfl,.cons (.nil _) .nil⟩⟩,trivial⟩) ?_
 (try change aq _ _ _ _ _)
 refine(zs) ?_;refine Oi ev (λk (ps:List aI)=>(rm c dmg 0 ev []=rm c dmg k (ev.drop k) ps/\(∀p∈ps,gU p)/\ps.length<=k)) (λk ps=>[(3,.ip (ah 3 c ao::aD dmg)),(6,.ptr 0 0),(10,.ptr 1 0),(34,ah 14 ev aF),(35,aa ev.length),(36,aa k)]) (λk ps=>[.cells [.a (.slice none 0 0 (some 0))],.cells [ah 14 ps ak]]) ([]) zH (by exact⟨rfl,(λp hp=>by cases hp),al _⟩) ?_;intro k ps hk hall;refine zT ev k ?_ ?_;rintro rfl;rotate_left;intro e hx hlt;rotate_left
 ·refine(eN) ?_;obtain⟨hr,_,_⟩:=hall;rw[co] at hr
  refine(zV)<|(zE) ?_;exact zO [.cell 6 76,.tmp 7,.tmp 8] (r:=.bC [.ag [ah 14 ps ak],aa (-1),aa 0]) (hw:=zv) (hq:=by (try simp only[df,aX]);first | done | (rw[hN,hr];rfl))
 obtain⟨hr,hps,hpl⟩:=hall;rw[fC hx] at hr;have heo:=hkm e (ay hx);have hap:=Bd c ps e hc (by omega) hps heo;obtain⟨q1,q2,q3,q4⟩:=vS (c:=c) hps heo
 have hr2:rm c dmg k (e::ev.drop (k+1)) ps=if (aW c ps e).2=0 then (if e.op=4 then rm c dmg (k+1) (ev.drop (k+1)) (K8 dmg (aW c ps e).1 e) else rm c dmg (k+1) (ev.drop (k+1)) (aW c ps e).1) else ([],(k:Int),(aW c ps e).2):=rfl
 rw[hr2] at hr;clear hr2;obtain⟨nx,er,hne⟩:∃nx er,aW c ps e=(nx,er):=⟨_,_,rfl⟩;rw[hne] at hap q1 q2 q3 q4 hr;simp only at q1 q2 q3 q4 hr;rw[dW] at hap
 refine(gh)<|(az (n3 hlt (aH (e:=14) (enc:=aF) (λ_=>rfl) hx) @dW)) ?_;refine aq.fg (Fg.freeze (f':=[(3,.ip (ah 3 c ao::aD dmg)),(6,.ptr 0 0),(10,.ptr 1 0),(11,aa k),(12,.ip (eA e)),(34,ah 14 ev aF),(35,aa ev.length),(36,aa k)]) 2 rfl (λh=>by cases h) (sh @ah.eq_1)) ?_
 (try change aq _ _ _ _ _)
 refine(zC)<|(zK hap (hfl:=.inr (bl.refl rfl)))<|(cK @kO.eq_1) ?_
 by_cases herr:er=0;rotate_left
 ·rw[ul herr] at hr;have hnil:=q4 herr
  refine(az (un herr))<|(cM)<|(zE) ?_;exact zO [.cell 6 76,.tmp 7,.tmp 8] (r:=.bC [.ag [.sl 0 14 []],aa k,aa er]) (hw:=zv) (hq:=by (try simp only[df,aX]);first | done | (rw[hN,hr];rfl))
 rw[t8 herr] at hr;subst herr
 refine(I4)<|(zV) ?_
 by_cases hop:e.op=4;rotate_left
 ·rw[ul hop] at hr
  refine(az (un hop))<|(zY) ?_;refine aq.exit ?_
  (try change aq _ _ _ _ _)
  refine(az (zi hlt hlen1)) ?_;refine I5 hlt (nx) zH (⟨hr,q1,by omega⟩)
 rw[t8 hop] at hr
 refine(az (ut hop))<|(zN) ?_;refine aq.fg (st':=⟨wE c dmg e ev k,101,[.cells [.a (.slice none 0 0 (some 0))],.cells [ah 14 nx ak]],[]⟩) zH ?_
 (try change aq _ _ _ _ _)
 obtain⟨ins,hins⟩:∃ins,ins=mr nx e.part:=⟨_,rfl⟩
 have hinl:ins.length<=100000:=by rw[hins];exact bx (JA nx e.part) (by omega)
 (repeat refine aq.seq ?_)
 refine aq.xv 7 12 (λL=>⟨(58,vo L 0 (.ag [ah 14 nx ak]))::(59,vo L 1 (.ip (eT e)))::(60,vo L 2 (ab e.part))::(61,vo L 3 (bp 2 1 ins.length))::(62,vo L 4 (.ip (eT e)))::(63,vo L 5 (ab e.part))::(64,vo L 6 (.buf 3 1 1 (some 1)))::wE c dmg e ev k,101,[.cells [.a (.slice none 0 0 (some 0))],.cells [ah 14 nx ak],wo L 3 (ff ins),wo L 6 (.cells [ab e.part])],[]⟩) rfl (by kernel_rfl) (by rfl) (by decide) (by kernel_rfl) (bK (n2 @mD @Mw)) (λL=>rfl) ?_ ?_
 ·rintro L i o him hC hr
  rcases i with _ | _ | _ | _ | _ | _ | _ | i
  rotate_right
  ·exact t7 him (by omega)
  ·cases hr.fK;refine(zR) ?_;exact(bK (n2 @aR @fj))
  ·cases hr.fK;refine(zR) ?_;exact(bK (n2 @aR @fj))
  ·cases hr.fK;have d1:L 1:=hr.dep ⟨1,.data⟩ (by simp) rfl;refine(cK (dR d1)) ?_;exact(bK (n3 @aR @fj (dR d1)))
  ·cases hr.fK;have d0:L 0:=hr.dep ⟨0,.data⟩ (by simp) rfl;have d2:L 2:=hr.dep ⟨2,.data⟩ (by simp) rfl;have hn3:¬L 3:=hr.new;have hin:=Ic nx e.part (by omega);rw[<-hins] at hin;refine aG.sk [] (by rfl) rfl rfl (by rfl) rfl (IY (n2 (dR d0) (dR d2))) (hin) (by simp only[eM,bj,ah,↓reduceIte,ac,af,aU,aS,ad,ap,dh d0,dh d2,↓j9,cq,hfk,hfn,cw (show 2≠4 by decide),fR,eg,eW,jO,je,gz hn3];first | done | rfl) rfl (by decide) (by simp only[vW,eM,bj,ah,dh d0,dh d2,↓j9,cq,hfk,hfn,cw (show 2≠4 by decide),fR,eg,eW,jO,je,gz hn3]<;>(repeat' apply a0)<;>first | trivial | rfl | (intro hh;cases hh)) (by simp only[BU,eM,bj,ah,af,ap,decide_true,dh d0,dh d2,↓j9,cq,hfk,hfn,cw (show 2≠4 by decide),fR,eg,eW,jO,je,gz hn3];first | done | rfl) (by simp only[BU,eM,bj,ah,af,ap,decide_true,dh d0,dh d2,↓j9,cq,hfk,hfn,cw (show 2≠4 by decide),fR,eg,eW,jO,je,gz hn3];first | done | rfl) (by simp only[eM,bj,ah,↓reduceIte,ac,af,aU,aS,ad,ap,dh d0,dh d2,↓j9,cq,hfk,hfn,cw (show 2≠4 by decide),fR,eg,eW,jO,je,gz hn3];first | done | rfl) (by simp only[eM,bj,ah,↓reduceIte,ac,af,aU,aS,ad,ap,dh d0,dh d2,↓j9,cq,hfk,hfn,cw (show 2≠4 by decide),fR,eg,eW,jO,je,gz hn3,di,dx,bO,aM,bI];first | done | rfl) (by simp only[eM,bj,ah,↓reduceIte,ac,af,aU,aS,ad,ap,dh d0,dh d2,↓j9,cq,hfk,hfn,cw (show 2≠4 by decide),fR,eg,eW,jO,je,gz hn3,di,dx,bO,aM,bI];first | done | rfl) ?_;refine .nil ?_;exact((Fg.rn (f':=(58,(.ag [ah 14 nx ak]))::(59,vo L 1 (.ip (eT e)))::(60,(ab e.part))::(61,(bp 2 1 ins.length))::(62,vo L 4 (.ip (eT e)))::(63,vo L 5 (ab e.part))::(64,vo L 6 (.buf 3 1 1 (some 1)))::wE c dmg e ev k) (n:=101) (S':=[.cells [.a (.slice none 0 0 (some 0))],.cells [ah 14 nx ak],ff ins,wo L 6 (.cells [ab e.part])]) [0,1,4,3] (by decide) rfl (by (simp only[qU,eM,bj,ah,sH,sI,eW,eg,bg (aE dmg),cq,cw (show 2≠4 by decide)])<;>(repeat' apply a0)<;>first | trivial | exact .inl rfl | exact .inr rfl | exact .inr trivial | exact .inl trivial) (by (simp only[bI,eM,bj,ah,sH,sI,eW,eg,bg (aE dmg),cq,cw (show 2≠4 by decide)])<;>(repeat' apply a0)<;>first | rfl | trivial))).trans (bK (n4 @aR @fj (dR d0) (dR d2)))
  ·cases hr.fK;refine(zR) ?_;exact(bK (n2 @aR @fj))
  ·cases hr.fK;have d4:L 4:=hr.dep ⟨4,.data⟩ (by simp) rfl;refine(cK (dR d4)) ?_;exact(bK (n3 @aR @fj (dR d4)))
  ·cases hr.fK;have d5:L 5:=hr.dep ⟨5,.data⟩ (by simp) rfl;have hn6:¬L 6:=hr.new;refine aG.r0 (by rfl) (by simp only[bI,bj,ah,an,bc,bi,↓reduceIte,ac,af,aS,ad,ap,ae,ai,aN,dh d5,↓j9,cq,hfk,hfn,cw (show 2≠4 by decide),fR,gz hn6];first | done | rfl) ?_;exact((Fg.rn (f':=(58,vo L 0 (.ag [ah 14 nx ak]))::(59,vo L 1 (.ip (eT e)))::(60,vo L 2 (ab e.part))::(61,vo L 3 (bp 2 1 ins.length))::(62,vo L 4 (.ip (eT e)))::(63,(ab e.part))::(64,(.buf 3 1 1 (some 1)))::wE c dmg e ev k) (n:=101) (S':=[.cells [.a (.slice none 0 0 (some 0))],.cells [ah 14 nx ak],wo L 3 (ff ins),.cells [ab e.part]]) [0,1,2,4] (by decide) rfl (by (simp only[qU,eM,bj,ah,sH,sI,eW,eg,bg (aE dmg),cq,cw (show 2≠4 by decide)])<;>(repeat' apply a0)<;>first | trivial | exact .inl rfl | exact .inr rfl | exact .inr trivial | exact .inl trivial) (by (simp only[bI,eM,bj,ah,sH,sI,eW,eg,bg (aE dmg),cq,cw (show 2≠4 by decide)])<;>(repeat' apply a0)<;>first | rfl | trivial))).trans (bK (n3 @aR @fj (dR d5)))
 change aG _ _ _ _ _ _;refine aG.mono (K:=λx=>Fg x ⟨(65,.buf 2 (ins.length+1) 1 none)::wE c dmg e ev k,101,[.cells [.a (.slice none 0 0 (some 0))],.cells [ah 14 nx ak],.cells ((ins++[e.part]).flatMap (aw ab))],[]⟩) ?_ λx hx=>?_
 ·have v7:∀i,i<7->∀v:SV,vo (λj=>j<7) i v=v:=λi h v=>dh h;have w7:∀i,i<7->∀v:SO,wo (λj=>j<7) i v=v:=λi h v=>lZ h;have a3:=v7 3 (by decide);have a6:=v7 6 (by decide);have b3:=w7 3 (by decide);have b6:=w7 6 (by decide);have happ:=en (enc:=aw ab) (e:=1) (λ_=>rfl) (λ_=>rfl) 2 ins e.part;rw[show aw ab e.part=[ab e.part] from rfl,a4] at happ;have hcl:=aL (enc:=aw ab) (e:=1) (λ_=>rfl) ins;by_cases hi0:ins=[]
  ·subst hi0;refine(cK (n10 a3 a6 b3 b6 @eO @length_nil.{0} @kg hfk hfn @cq)) ?_;exact((Fg.rn (f':=(65,.buf 2 1 1 none)::wE c dmg e ev k) (n:=101) (S':=[.cells [.a (.slice none 0 0 (some 0))],.cells [ah 14 nx ak],.cells [ab e.part]]) [0,1,4] (by decide) rfl (by (simp only[qU,eM,bj,ah,bg (aE dmg)])<;>(repeat' apply a0)<;>first | trivial | exact .inl rfl | exact .inr rfl | exact .inr trivial | exact .inl trivial) (by (simp only[bI,eM,bj,ah,bg (aE dmg)])<;>(repeat' apply a0)<;>first | rfl | trivial))).trans (bK (n5 @aw.eq_1 @nil_append.{0} @flatMap_cons.{0,0} @flatMap_nil.{0,0} @length_nil.{0}))
  ·have hil:¬ins.length=0:=λh=>hi0 (length_eq_zero_iff.1 h);refine(cK (n2 (n9 a3 a6 b3 b6 (bU (o:=2) (e:=1) hil) (iq hi0) hfk hfn @cq) (n6 (λo:Nat=>aY (enc:=aw ab) (λ_=>rfl) o ins) hcl @a4 @al (show ins.length<=1000000 by omega) happ))) ?_;exact zH
 change aG _ _ _ _ _ _;refine aG.fg hx ?_;refine(zR) ?_;change aq _ _ _ _ _;refine aq.fg (st':=⟨(15,.buf 2 (ins.length+1) 1 none)::wE c dmg e ev k,101,[.cells [.a (.slice none 0 0 (some 0))],.cells [ah 14 nx ak],.cells ((ins++[e.part]).flatMap (aw ab))],[]⟩) zH ?_;obtain⟨I,hI⟩:∃I,I=ins++[e.part]:=⟨_,rfl⟩
 have hIl:I.length=ins.length+1:=by rw[hI,aj];rfl
 rw[<-hI];refine aq.fg (Fg.freeze (f':=[(3,.ip (ah 3 c ao::aD dmg)),(6,.ptr 0 0),(10,.ptr 1 0),(12,.ip (eA e)),(15,ah 1 I (aw ab)),(34,ah 14 ev aF),(35,aa ev.length),(36,aa k)]) 2 rfl (λh=>by cases h) ⟨.inl rfl,.inl rfl,.inl rfl,.inl rfl,.inr (by rw[ny 1 I (aw ab),hIl];exact .buf rfl (by rw[<-hIl,c9 (enc:=aw ab) (e:=1) (λ_=>rfl)];exact bl.refl (aA (λ_=>rfl) _)) (by rw[aL (enc:=aw ab) (e:=1) (λ_=>rfl),hIl];exact al _)),.inl rfl,.inl rfl,.inl rfl,trivial⟩) ?_
 (try change aq _ _ _ _ _)
 have hd:=H4 dmg (oB e) hf;simp only[ea,oB] at hd;obtain⟨d,hdd⟩:∃d,d=rK dmg (oB e):=⟨_,rfl⟩;have hdd2:rK dmg ⟨e.u1,e.u2,e.u3,e.u4,e.u5,e.u6⟩=d:=hdd.symm;rw[hdd2] at hd
 refine(iC (n2 hfl hft))<|(zK hd (hwk:=bl.cons (.ag (bl.refl (aE dmg))) (.cons (.ag (bl.refl rfl)) .nil)))<|(cK (n4 @oU.eq_1 @lF.eq_1 hfk hfn)) ?_
 have hnn:=q3 rfl;have hn0:0<nx.length:=bo λh=>hnn (length_eq_zero_iff.1 h);have hrq:∀(r:Nat->Nat) (q:List aI),lr r (q.flatMap ak)=q.flatMap ak:=λr q=>bg (aA dS q);have hbq:∀(B:Nat) (q:List aI),gC B (q.flatMap ak)=true:=λB q=>bF (aA dS q);have hkq:=aY (enc:=ak) dS
 refine(zC) ?_;refine zS [] (n5 hfk hfn hrq hbq hkq) (qv nx (by omega) hnn) ?_;refine(zR)<|(zV) ?_;refine aq.fg (st':=⟨[(3,.ip (ah 3 c ao::aD dmg)),(6,.ptr 0 0),(10,.ptr 1 0),(12,.ip (eA e)),(15,ah 1 I (aw ab)),(16,.ptr 3 0),(34,ah 14 ev aF),(35,aa ev.length),(36,aa k),(76,.buf 5 nx.length 14 none),(77,aa nx.length),(78,aa 0)],101,[.cells [.a (.slice none 0 0 (some 0))],.cells [.buf 5 nx.length 14 none],.gone,.cells [aa d.1,aa d.2],.gone,.cells (nx.flatMap ak)],[]⟩) zH ?_;refine aq.fg (Fg.freeze (f':=(wF c dmg e ev k I d nx.length 0)) 3 rfl (λh=>by cases h) (sh @ah.eq_1)) ?_;refine aq.fg (st':=⟨(wF c dmg e ev k I d nx.length 0),101,[.cells [.a (.slice none 0 0 (some 0))],.cells [.buf 2 nx.length 14 none],.cells (nx.flatMap ak)],[]⟩) (Fg.rn [0,1,5] (by decide) rfl (by (simp only[qU,eM,bj,ah,hrq,bg (aE dmg)])<;>(repeat' apply a0)<;>first | trivial | exact .inl rfl | exact .inr rfl | exact .inr trivial | exact .inl trivial) (by (simp only[bI,eM,bj,ah,hrq,bg (aE dmg)])<;>(repeat' apply a0)<;>first | rfl | trivial)) ?_
 have hIu:K8 dmg nx e=nx.map (Bv dmg I e):=by unfold K8;rw[hI,hins]
 have hnl:nx.length<=1000000:=by omega
 refine(zs) ?_;refine zL nx (λk2=>True) (λk2=>(wF c dmg e ev k I d nx.length k2)) (λk2=>[.cells [.a (.slice none 0 0 (some 0))],.cells [.buf 2 nx.length 14 none],.cells ((((nx.take k2).map (Bv dmg I e))++nx.drop k2).flatMap ak)]) (bK (n4 @take_zero.{0} @map_nil.{0,0} @drop_zero.{0} @nil_append.{0})) zp ?_;intro k2 hk2 hall2;refine zT nx k2 ?_ ?_;rintro rfl;rotate_left;intro p hx2 hlt2;rotate_left
 ·refine(eN) ?_;rw[be,co,b1,<-hIu];obtain⟨r1,r2⟩:=Mu (dmg:=dmg) (e:=e) q1;generalize K8 dmg nx e=ux at hr r1 r2;refine aq.fg (Fg.yv (f':=[(3,.ip (ah 3 c ao::aD dmg)),(6,.ptr 0 0),(10,.ptr 1 0),(12,.ip (eA e)),(15,ah 1 I (aw ab)),(34,ah 14 ev aF),(35,aa ev.length),(36,aa k)]) (S':=[.cells [.a (.slice none 0 0 (some 0))],.cells [ah 14 ux ak]]) 2 rfl (λh=>by cases h) (sh @ah.eq_1) ⟨.inr ⟨by decide,.inl rfl⟩,.inr ⟨by decide,.inr ⟨_,_,rfl,rfl,.cons (by rw[ny 14 ux ak,r2];exact .buf rfl (by rw[<-r2,c9 (enc:=ak) (e:=14) (λ_=>rfl)];exact bl.refl (aA dS _)) (by rw[aL (enc:=ak) (e:=14) (λ_=>rfl),r2];exact al _)) .nil⟩⟩,trivial⟩) ?_
  (try change aq _ _ _ _ _)
  refine(az (zi hlt hlen1)) ?_;refine I5 hlt (ux) zH (⟨hr,r1,by omega⟩)
 have hdrop:=fC hx2;obtain⟨q,hq⟩:∃q,q=(nx.take k2).map (Bv dmg I e)++nx.drop k2:=⟨_,rfl⟩
 have hqx:q[k2]?=some p:=by
  rw[hq,List.getElem?_append_right (by rw[a2,a7];omega),a2,a7,cb (by omega),ct,hdrop];rfl
 have hql:q.length=nx.length:=by rw[hq,aj,a2,a7,ey];omega
 have hqc:(q.flatMap ak).length=nx.length*14:=by rw[aL (enc:=ak) (e:=14) (λ_=>rfl),hql]
 have hnext:((nx.take (k2+1)).map (Bv dmg I e)++nx.drop (k2+1))=q.set k2 (Bv dmg I e p):=by
  rw[hq,bz hx2,cf,hdrop,List.set_append_right _ _ (by rw[a2,a7];omega),a2,a7,cb (by omega),ct,dv,b0];rfl
 have hcell:(q.flatMap ak)[k2*14]?=some (ab p.name):=by
  have h1:((q.flatMap ak).drop (k2*14)).take 14=ak p:=aH (e:=14) (enc:=ak) (λ_=>rfl) hqx;have h2:=congrArg (λl=>l[0]?) h1;simp only[dt,ds,ba] at h2;exact h2
 rw[<-hq]
 refine(gh)<|(zV)<|(iC (n3 hlt2 @ba hcell))<|(zK (lf I p.name (by omega)) (hwk:=bl.cons (.sl _ _ _) (.cons (.a _) .nil))) ?_
 cases hcn:I.contains p.name
 ·have hup:Bv dmg I e p=p:=by unfold Bv;rw[hcn];rfl
  rw[hup] at hnext
  have hset:q.set k2 p=q:=by
   apply d8;intro j;by_cases hj:k2=j
   ·subst hj;rw[cn (bf hqx),hqx]
   ·rw[cR hj]
  rw[hset] at hnext
  refine(zR)<|(zN)<|(az (zi hlt2 hnl)) ?_;refine zX hlt2 (bK hnext) trivial
 refine(zR)<|(zY) ?_
 have hup:Bv dmg I e p=yj (oB e) d p:=by unfold Bv;rw[hcn,<-hdd];rfl
 obtain⟨A,hA⟩:∃A,A=(q.take k2).flatMap ak++[ab p.name,ab p.kind,ab p.bG,ab p.slot,aa p.made,aa p.since,au p.eP,ah 2 p.props aZ]:=⟨_,rfl⟩;obtain⟨B,hB⟩:∃B,B=(q.drop (k2+1)).flatMap ak:=⟨_,rfl⟩
 have hkl:k2<q.length:=by omega
 have hAl:A.length=k2*14+8:=by rw[hA,aj,aL (enc:=ak) (e:=14) (λ_=>rfl),a7,cb (by omega)];rfl
 have hqs:q.take k2++(p::q.drop (k2+1))=q:=by rw[<-fC hqx,List.take_append_drop]
 have hsplit:q.flatMap ak=A++(CR p.l1 p.l2 p.l3 p.l4 p.l5 p.l6++B):=by
  rw[hA,hB,b0]
  conv=>lhs;rw[<-hqs,cd,flatMap_cons]
  rfl
 have hset:(q.set k2 (yj (oB e) d p)).flatMap ak=A++(Py p.l1 p.l2 p.l3 p.l4 p.l5 p.l6 (oB e) d.1 d.2++B):=by
  rw[hA,hB,b0,List.set_eq_take_append_cons_drop,t8 hkl,cd,flatMap_cons];rfl
 rw[hup] at hnext;have hla:=Fo A B p.l1 p.l2 p.l3 p.l4 p.l5 p.l6 (oB e) d.1 d.2 (by rw[<-hsplit];exact aA dS q);rw[<-hsplit,<-hset,hAl] at hla;simp only[ea,oB,lF] at hla;refine aq.xv 8 9 (λL=>⟨(89,vo L 0 (.ptr 1 0))::(90,vo L 1 (.buf 2 nx.length 14 none))::(91,vo L 2 (aa k2))::(92,vo L 3 (.ptr 2 (k2*14)))::(93,vo L 4 (.ptr 2 (k2*14+8)))::(94,vo L 5 (.ip [aa e.u1,aa e.u2,aa e.u3,aa e.u4,aa e.u5,aa e.u6]))::(95,vo L 6 (.ag [aa e.u1,aa e.u2,aa e.u3,aa e.u4,aa e.u5,aa e.u6]))::(96,vo L 7 (.ag [aa d.1,aa d.2]))::(17,aa k2)::wF c dmg e ev k I d nx.length k2,101,[.cells [.a (.slice none 0 0 (some 0))],.cells [.buf 2 nx.length 14 none],.cells (q.flatMap ak)],[]⟩) rfl (by kernel_rfl) (by rfl) (by decide) (by kernel_rfl) (bK @mD) (λL=>rfl) ?_ ?_
 ·rintro L i o him hC hr
  rcases i with _ | _ | _ | _ | _ | _ | _ | _ | i
  rotate_right
  ·exact t7 him (by omega)
  ·cases hr.fK;refine(zR) ?_;exact(bK @aR)
  ·cases hr.fK;have d0:L 0:=hr.dep ⟨0,.data⟩ (by simp) rfl;refine(cK (dR d0)) ?_;exact(bK (n2 @aR (dR d0)))
  ·cases hr.fK;refine(zR) ?_;exact(bK @aR)
  ·cases hr.fK;have d1:L 1:=hr.dep ⟨1,.data⟩ (by simp) rfl;have d2:L 2:=hr.dep ⟨2,.data⟩ (by simp) rfl;refine(cK (n3 (dR d1) (dR d2) hlt2)) ?_;exact(bK (n3 @aR (dR d1) (dR d2)))
  ·cases hr.fK;have d3:L 3:=hr.dep ⟨3,.data⟩ (by simp) rfl;refine(cK (n2 (dR d3) hqc)) ?_;exact(bK (n2 @aR (dR d3)))
  ·cases hr.fK;refine(zR) ?_;exact(bK @aR)
  ·cases hr.fK;have d5:L 5:=hr.dep ⟨5,.data⟩ (by simp) rfl;refine(cK (dR d5)) ?_;exact(bK (n2 @aR (dR d5)))
  ·cases hr.fK;refine(zR) ?_;exact(bK @aR)
 have v8:∀i,i<8->∀v:SV,vo (λj=>j<8) i v=v:=λi h v=>dh h;have v84:=v8 4 (by decide);have v86:=v8 6 (by decide);have v87:=v8 7 (by decide);change aG _ _ _ _ _ _;refine aG.fg (st':=⟨(93,.ptr 2 (k2*14+8))::(95,.ag [aa e.u1,aa e.u2,aa e.u3,aa e.u4,aa e.u5,aa e.u6])::(96,.ag [aa d.1,aa d.2])::wF c dmg e ev k I d nx.length k2,101,[.cells [.a (.slice none 0 0 (some 0))],.cells [.buf 2 nx.length 14 none],.cells (q.flatMap ak)],[]⟩) (bK (n3 v84 v86 v87)) ?_;refine zS [2] (n5 hfk hfn hrq hbq hkq) hla ?_;refine(zR) ?_;simp only[oB] at hnext;refine(az (zi hlt2 hnl)) ?_;refine zX hlt2 (bK hnext) trivial
def QZ(least:Int)(p:br×Int):Bool:=!(decide (bD p.1=0))&&(!(decide (p.2<least))&&!(decide (bD p.1<=p.2)))
def lT(c:List aQ)(l:List br)(ch:List Int)(least:Int):Bool:=mg c&&(decide (l.length=ch.length)&&(l.zip ch).all (QZ least))
def Bk(c:List aQ)(l:List br)(ch:List Int)(least:Int)(hc:jI c)(hl:∀r∈l,eh r)(hlen:l.length<=1000000)(hlc:ch.length<=1000000):PC prog 208 [.ag [ah 3 c ao],ah 2 l aB,ah 1 ch (aw aa),aa least] (·=au (lT c l ch least)):=by
 refine pB 50 Tryz.func208 ?_;refine(kK)<|(zK (oz c hc)) ?_
 cases h1:mg c
 ·exact(cK h1)<|(cM)<|zo [.tmp 8] (hq:=by rw[lT,h1];rfl)
 by_cases heq:l.length=ch.length;rotate_left
 ·exact(cK (n2 h1 (show(!decide ((ch.length:Int)=(l.length:Int)))=true by simp;omega)))<|(cM)<|zo [.tmp 8] (hq:=by rw[lT,h1,un heq];rfl)
 refine(cK (n2 h1 (show(!decide ((ch.length:Int)=(l.length:Int)))=false by simp;omega)))<|(iY) ?_
 have hz:∀{k:Nat} {r:br} {n:Int},l[k]?=some r->ch[k]?=some n->(l.zip ch)[k]?=some (r,n):=λh1 h2=>by
  rw[b2];exact⟨h1,h2⟩
 refine(zs) ?_;refine zL l (λk=>((l.zip ch).take k).all (QZ least)=true) (λk=>[(2,ah 1 ch (aw aa)),(3,aa least),(22,ah 2 l aB),(23,aa l.length),(24,aa k)]) (λk=>[]) zH zp ?_;intro k hk hall;refine zT l k ?_ ?_;rintro rfl;rotate_left;intro r hx hlt;rotate_left
 ·refine(eN) ?_
  have hzl:(l.zip ch).length=l.length:=by rw[c0,<-heq,em]
  rw[<-hzl,be] at hall
  exact(zV)<|zo [.tmp 8] (hq:=by rw[lT,h1,ut heq,hall];rfl)
 have hrk:eh r:=hl r (ay hx);have hr1:=hrk.len;obtain⟨n,hn⟩:∃n,ch[k]?=some n:=⟨ch[k],a1 (by omega)⟩;have hzk:=hz hx hn;have ht:=bz hzk
 have hlc2:k<ch.length:=by omega
 have hall2:QZ least (r,n)=true->((l.zip ch).take (k+1)).all (QZ least)=true:=λh=>by
  rw[ht,eB,hall];show(true&&(QZ least (r,n)&&true))=true;rw[h];rfl
 have hbad:QZ least (r,n)=false->lT c l ch least=false:=λh=>by
  rw[lT,h1,ut heq];refine Bool.eq_false_iff.2 λh2=>?_;have:=List.all_eq_true.1 h2 _ (ay hzk);rw[h] at this;cases this
 refine(gh)<|(az (n3 hlt (aH (e:=2) (enc:=aB) (λ_=>rfl) hx) @aB.eq_1))<|(zC)<|(zK (iM r hrk))<|(zR) ?_
 cases g0:decide (bD r=0);rotate_left
 ·exact(az g0)<|(cM)<|zo [.tmp 8] (hq:=by rw[hbad (by rw[QZ,g0];rfl)])
 cases g1:decide (n<least);rotate_left
 ·exact(az (n5 g0 g1 hlc2 (aH (e:=1) (enc:=aw aa) (λ_=>rfl) hn) @aw.eq_1))<|(cM)<|zo [.tmp 8] (hq:=by rw[hbad (by rw[QZ,g0,g1];rfl)])
 cases g2:decide (bD r<=n);rotate_left
 ·exact(az (n6 g0 g1 g2 hlc2 (aH (e:=1) (enc:=aw aa) (λ_=>rfl) hn) @aw.eq_1))<|(cM)<|zo [.tmp 8] (hq:=by rw[hbad (by rw[QZ,g0,g1,g2];rfl)])
 refine(az (n6 g0 g1 g2 hlc2 (aH (e:=1) (enc:=aw aa) (λ_=>rfl) hn) @aw.eq_1))<|(zN)<|(az (zi hlt hlen)) ?_;refine zX hlt zH (hall2 (by rw[QZ,g0,g1,g2];rfl))
def T4(a b:Int):Int:=dO .i64 (a-b)
def c8(p:bH×Int):List SV:=[aa p.1.op,aa p.1.day,ab p.1.part,ab p.1.kind,ab p.1.bG,ab p.1.slot,ab p.1.key,ab p.1.value,aa p.1.u1,aa p.1.u2,aa p.1.u3,aa p.1.u4,aa p.1.u5,aa p.1.u6,aa p.2]
def oW(e:bH×Int):(c8 e).length=15:=rfl
def zn(p:bH×Int):c8 p=[aa p.1.op,aa p.1.day,ab p.1.part,ab p.1.kind,ab p.1.bG,ab p.1.slot,ab p.1.key,ab p.1.value,aa p.1.u1,aa p.1.u2,aa p.1.u3,aa p.1.u4,aa p.1.u5,aa p.1.u6,aa p.2]:=rfl
def gH(e:bH×Int):cm (c8 e)=true:=rfl
def Ls(a b:bH×Int):Int:=T4 a.1.day b.1.day
def OK{P:Program}{t:TypeId}{a b:Int}:cS P .sub t (.int .i64 a) (.int .i64 b)=some (.int .i64 (T4 a b)):=by
 simp only[cS,Aj,ae,T4]
def Fa(a b:bH×Int):PC prog 236 [.ag (c8 a),.ag (c8 b)] (·=aa (Ls a b)):=by
 refine pB 12 Tryz.func236 ?_;exact(az @c8.eq_1)<|(az @OK)<|zo [.tmp 4]
def JH(cmp:(bH×Int)->(bH×Int)->Int)(x y:(bH×Int)):Bool:=decide (cmp x y<0)
open Go.Proofs.Tryz renaming func246 -> var in
open Go.Proofs renaming Wb -> vas,JH -> vat,c8 -> vav in
open Go.Ev renaming PQ -> vau in
def Kz(g:FuncId)(cmp:(bH×Int)->(bH×Int)->Int)(hg:∀x y,PC prog g [.ag (c8 x),.ag (c8 y)] (·=aa (cmp x y)))(c:Option Nat)(l:List (bH×Int))(hlen:l.length<=100000):
 SC prog 246 [.buf 0 l.length 15 c,aa 0,aa l.length,.fn g [] []] [.cells (l.flatMap c8)] [] (λr S'=>r=.bC []/\S'=[.cells ((tb (JH cmp) l).flatMap c8)]):=by
 have vaw:=@oW;have vax:=@zn;exact SX
open Go.Proofs renaming Wb -> vaz,c8 -> va0,JH -> va4 in
open Go.Proofs.Tryz renaming func244 -> va2 in
open Go.Ev renaming PQ -> va3 in
def Iz(g:FuncId)(cmp:(bH×Int)->(bH×Int)->Int)(hg:∀x y,PC prog g [.ag (c8 x),.ag (c8 y)] (·=aa (cmp x y)))(c:Option Nat)(l:List (bH×Int))(hlen:l.length<20):
 SC prog 244 [.buf 0 l.length 15 c,aa l.length,.fn g [] []] [.cells (l.flatMap c8)] [] (λr S'=>r=.bC []/\S'=[.cells ((tb (JH cmp) l).flatMap c8)]):=by
 have vay:=@Kz;have va1:=@gH;exact SY
def Cd(g:FuncId)(cmp:(bH×Int)->(bH×Int)->Int)(hg:∀x y,PC prog g [.ag (c8 x),.ag (c8 y)] (·=aa (cmp x y)))(c:Option Nat)(l:List (bH×Int))(hlen:l.length<20):
 SC prog 235 [.buf 0 l.length 15 c,.fn g [] []] [.cells (l.flatMap c8)] [] (λr S'=>r=.bC []/\S'=[.cells ((tb (JH cmp) l).flatMap c8)]):=by
 have hins:=Iz g cmp hg c l hlen;have hrc:∀(g:Nat->Nat) (l:List (bH×Int)),lr g (l.flatMap c8)=l.flatMap c8:=λg l=>bg (aA gH l);have hbc:∀(B:Nat) (l:List (bH×Int)),gC B (l.flatMap c8)=true:=λB l=>bF (aA gH l);have hkc:∀(o:Nat) (l:List (bH×Int)),(l.flatMap c8).map (aM o)=l.flatMap c8:=λo l=>aY gH o l;refine J6 9 func235 ?_;refine(zC) ?_;refine zS [0] (n3 hrc hbc hkc) hins ?_;refine(zR) ?_;exact zP []
def Ib(g:FuncId):PC prog 246 [.sl 0 15 [],aa 0,aa 0,.fn g [] []] (·=.bC []):=by
 refine pB 53 Tryz.func246 ?_;refine(zV) ?_
 (repeat refine aq.seq ?_)
 refine aq.block (aq.loop (λm st=>m=0/\st=⟨[(2,aa 0),(3,.fn g [] []),(8,aa 1)],53,[],[]⟩) 0 zH ⟨rfl,rfl⟩ (by rintro m st ⟨_,rfl⟩;rfl) ?_);rintro m st ⟨rfl,rfl⟩
 refine(az (show decide ((1:Int)<0)=false from rfl))<|(eN) ?_
 simp only[fG,dH,cB,bX,if_true];exact zO []
def FF(g:FuncId):PC prog 244 [.sl 0 15 [],aa 0,.fn g [] []] (·=.bC []):=by
 refine pB 63 Tryz.func244 ?_;refine(mO) ?_
 (repeat refine aq.seq ?_)
 refine aq.block (aq.loop (λm st=>m=0/\st=⟨[(0,.sl 0 15 []),(1,aa 0),(2,.fn g [] []),(6,aa 20),(7,aa 0),(8,aa 20)],63,[],[]⟩) 0 zH ⟨rfl,rfl⟩ (by rintro m st ⟨_,rfl⟩;rfl) ?_);rintro m st ⟨rfl,rfl⟩
 refine(az (show decide ((20:Int)<=0)=false from rfl))<|(eN) ?_
 (try change aq _ _ _ _ _)
 refine(zC)<|(zK (Ib g))<|(zR) ?_
 (repeat refine aq.seq ?_)
 refine aq.block (aq.loop (λm st=>m=0/\st=⟨[(1,aa 0),(6,aa 20)],63,[],[]⟩) 0 zH ⟨rfl,rfl⟩ (by rintro m st ⟨_,rfl⟩;rfl) ?_);rintro m st ⟨rfl,rfl⟩
 refine(az (show decide ((20:Int)<0)=false from rfl))<|(eN) ?_
 simp only[fG,dH,cB,bX,if_true];exact zO []
def Bu(g:FuncId):PC prog 235 [.sl 0 15 [],.fn g [] []] (·=.bC []):=by
 refine pB 9 func235 ?_;refine(zC)<|(zK (FF g))<|(zR) ?_;exact zO []
def Fb(c:List aQ)(s:List aI)(e:bH)(hc:jI c)(hlen:s.length<=100000)(hs:∀p∈s,gU p)(he:qC e):SC prog 237 [.ag (aF e),.ip [ah 3 c ao],.ptr 0 0] [.cells [ah 14 s ak]] []
 (λr S'=>r=aa (aW c s e).2/\S'=[.cells [ah 14 (aW c s e).1 ak]]):=by
 refine J6 13 Tryz.func237 ?_;have hap:=Bd c s e hc hlen hs he;unfold kO at hap;generalize aW c s e=q at hap ⊢;rw[dW] at hap ⊢
 refine(kK)<|(zK hap (hfl:=.inr (bl.refl rfl)))<|(zR)<|(zV) ?_;refine aq.fg (st':=⟨[(4,aa q.2),(1000000,.ptr 0 0)],13,[.cells [ah 14 q.1 ak]],[]⟩) zH ?_;refine(zE) ?_;exact zP [.tmp 4]
def lK(day:Int)(i:Nat)(p:br×Int):List (bH×Int):=if p.2<0 then [] else match p.1.opts[p.2.toNat]? with
 | some e=>if e.day<day then [(e,(i:Int))] else []
 | none=>[]
def cy(day:Int):Nat->List (br×Int)->List (bH×Int)
 | _,[]=>[]
 | i,p::l=>lK day i p++cy day (i+1) l
def xm(day:Int):∀(l:List (br×Int)) (i:Nat) (p:br×Int),cy day i (l++[p])=cy day i l++lK day (i+l.length) p
 | [],i,p=>by simp[cy]
 | a::l,i,p=>by
  rw[ca,cy,cy,xm day l (i+1) p,b0,ax]
  congr 3;omega
def P8(day:Int)(i:Nat)(p:br×Int):(lK day i p).length<=1:=by
 unfold lK;split
 ·simp
 ·split
  ·split<;>simp
  ·simp
def th(day:Int):∀(l:List (br×Int)) (i:Nat),(cy day i l).length<=l.length
 | [],i=>by simp[cy]
 | p::l,i=>by
  have h1:=P8 day i p;have h2:=th day l (i+1);rw[cy,aj,ax];omega
def NG{day:Int}{i:Nat}{p:br×Int}{x:bH×Int}(h:x∈lK day i p):x.1∈p.1.opts:=by
 unfold lK at h;split at h
 ·cases h
 ·split at h
  ·rename_i e he;split at h
   ·rw[List.mem_singleton.1 h];exact ay he
   ·cases h
  ·cases h
def xn{day:Int}:∀{l:List (br×Int)} {i:Nat} {x:bH×Int},x∈cy day i l->∃p∈l,x.1∈p.1.opts
 | [],i,x,h=>by simp[cy] at h
 | p::l,i,x,h=>by
  rw[cy] at h
  rcases mem_append.1 h with h | h
  ·exact⟨p,List.mem_cons_self,NG h⟩
  ·obtain⟨q,h1,h2⟩:=xn h;exact⟨q,List.mem_cons_of_mem _ h1,h2⟩
def qi(l:List (bH×Int)):List (bH×Int):=tb (JH Ls) l
def wH(c:List aQ):List aI->List (bH×Int)->Int×Int
 | _,[]=>(-1,0)
 | s,p::r=>if (aW c s p.1).2=0 then wH c (aW c s p.1).1 r else (p.2,(aW c s p.1).2)
def mq(c:List aQ)(l:List br)(ch:List Int)(day:Int):Int×Int:=wH c [] (qi (cy day 0 (l.zip ch)))
def xE(c:List aQ)(l:List br)(ch:List Int)(day:Int)(hc:jI c)(hl:∀r∈l,eh r)(hlen:l.length<20)(heq:l.length=ch.length):PC prog 210 [.ag [ah 3 c ao],ah 2 l aB,ah 1 ch (aw aa),aa day] (·=.bC [aa (mq c l ch day).1,aa (mq c l ch day).2]):=by
 refine pB 79 Tryz.func210 ?_;refine(zV) ?_;refine aq.fg (Fg.freeze (f':=[(1,ah 2 l aB),(2,ah 1 ch (aw aa)),(3,aa day),(4,.ip [ah 3 c ao])]) 0 rfl (λh=>by cases h) (sh @ah.eq_1)) ?_
 (try change aq _ _ _ _ _)
 refine(mO) ?_
 have hz:∀{k:Nat} {r:br} {n:Int},l[k]?=some r->ch[k]?=some n->(l.zip ch)[k]?=some (r,n):=λh1 h2=>by
  rw[b2];exact⟨h1,h2⟩
 have hzl:(l.zip ch).length=l.length:=by rw[c0,<-heq,em]
 (repeat refine aq.seq ?_)
 refine aq.mono (Q:=λe st=>e=.normal/\Fg st ⟨[(4,.ip [ah 3 c ao]),(10,bp 2 15 (cy day 0 (l.zip ch)).length)],79,q8 2 (cy day 0 (l.zip ch)) c8,[]⟩) ?_ ?_
 ·refine(zs) ?_;refine zL l (λk=>True) (λk=>[(2,ah 1 ch (aw aa)),(3,aa day),(4,.ip [ah 3 c ao]),(10,bp 2 15 (cy day 0 ((l.zip ch).take k)).length),(19,ah 2 l aB),(20,aa l.length),(21,aa k)]) (λk=>q8 2 (cy day 0 ((l.zip ch).take k)) c8) (bK (n5 @take_zero.{0} @cy.eq_1 @length_nil.{0} @eO @mA)) zp ?_;intro k hk hall;refine zT l k ?_ ?_;rintro rfl;rotate_left;intro r hx hlt;rotate_left
  ·refine(eN) ?_;rw[<-hzl,be];by_cases h0:cy day 0 (l.zip ch)=[]
   ·rw[h0];exact⟨rfl,(bK (n3 @mA @eO @length_nil.{0}))⟩
   ·rw[jk h0];exact⟨rfl,(bK rh)⟩
  have hrk:eh r:=hl r (ay hx);have hr1:=hrk.len;obtain⟨n,hn⟩:∃n,ch[k]?=some n:=⟨ch[k],a1 (by omega)⟩;have hzk:=hz hx hn;have ht:=bz hzk
  have hlc2:k<ch.length:=by omega
  have hol:(cy day 0 ((l.zip ch).take k)).length<=k:=by
   have:=th day ((l.zip ch).take k) 0;rw[a7] at this;omega
  have hfm:cy day 0 ((l.zip ch).take (k+1))=cy day 0 ((l.zip ch).take k)++lK day k (r,n):=by
   rw[ht,xm,a7,hzl,cb (by omega),Nat.zero_add]
  generalize hO:cy day 0 ((l.zip ch).take k)=out at hol hfm;refine(gh) ?_;have hcl:=aL oW out;have hkc:=λo=>aY gH o out
  have hlen6:l.length<=1000000:=by omega
  have hg1:∀i:Nat,decide (0<=(i:Int))=true:=λi=>by simp
  by_cases hk0:out=[]
  ·rw[show q8 2 out c8=[] by rw[hk0];rfl,show bp 2 15 out.length=cI by rw[hk0];rfl]
   refine(az (n3 hlt (aH (e:=2) (enc:=aB) (λ_=>rfl) hx) @aB.eq_1))<|(az (n3 hlc2 (aH (e:=1) (enc:=aw aa) (λ_=>rfl) hn) @aw.eq_1)) ?_
   have fin:lK day k (r,n)=[]->bp 2 15 (cy day 0 ((l.zip ch).take (k+1))).length=cI/\q8 2 (cy day 0 ((l.zip ch).take (k+1))) c8=[]:=λh=>by rw[hfm,h,hk0];exact⟨rfl,rfl⟩
   cases g1:decide (0<=n)
   ·have g1':=wt g1;obtain⟨f1,f2⟩:=fin (by unfold lK;rw[t8 (by show n<0;omega)])
    refine(az g1)<|(zN)<|(az (zi hlt hlen6)) ?_;refine zX hlt (bK (n2 f1 f2)) trivial
   obtain⟨i,rfl⟩:∃i:Nat,n=(i:Int):=⟨n.toNat,by have:=ww g1;omega⟩;by_cases g2:i<r.opts.length;rotate_left
   ·obtain⟨f1,f2⟩:=fin (by unfold lK;rw[ul (by show ¬(i:Int)<0;omega)];show(match r.opts[i]? with | some e=>_ | none=>_)=_;rw[bw (by omega)])
    refine(az (n2 g1 (show decide ((i:Int)<(r.opts.length:Int))=false by simp only[wd];omega)))<|(zN)<|(az (zi hlt hlen6)) ?_;refine zX hlt (bK (n2 f1 f2)) trivial
   obtain⟨e,hei⟩:∃e,r.opts[i]?=some e:=⟨r.opts[i],a1 g2⟩
   have hpk:lK day k (r,(i:Int))=if e.day<day then [(e,(k:Int))] else []:=by
    unfold lK;rw[ul (by show ¬(i:Int)<0;omega)];show(match r.opts[i]? with | some e=>_ | none=>_)=_;rw[hei]
   cases g3:decide (e.day<day)
   ·rw[ul (wt g3)] at hpk;obtain⟨f1,f2⟩:=fin hpk
    refine(az (n6 g1 g2 (show decide ((i:Int)<(r.opts.length:Int))=true by simp only[wp];omega) (aH (e:=14) (enc:=aF) (λ_=>rfl) hei) @aF.eq_1 g3))<|(zN)<|(az (zi hlt hlen6)) ?_;refine zX hlt (bK (n2 f1 f2)) trivial
   ·rw[t8 (ww g3)] at hpk;rw[hpk,hk0,nil_append] at hfm
    have hE3:bp 2 15 (cy day 0 ((l.zip ch).take (k+1))).length=.buf 2 1 15 none:=by rw[hfm];rfl
    have hE4:q8 2 (cy day 0 ((l.zip ch).take (k+1))) c8=[.gone,.gone,.cells (c8 (e,(k:Int)))]:=by rw[hfm];rfl
    refine(az (n6 g1 g2 (show decide ((i:Int)<(r.opts.length:Int))=true by simp only[wp];omega) (aH (e:=14) (enc:=aF) (λ_=>rfl) hei) @aF.eq_1 g3))<|(zY)<|(az (n3 g2 (aH (e:=14) (enc:=aF) (λ_=>rfl) hei) @aF.eq_1))<|(az (zi hlt hlen6)) ?_;refine zX hlt (bK (n3 hE3 hE4 @c8.eq_1)) trivial
  ·have hk1:¬out.length=0:=λh=>hk0 (length_eq_zero_iff.1 h);rw[jk hk0,bU hk1]
   refine(az (n5 hlt (aH (e:=2) (enc:=aB) (λ_=>rfl) hx) @aB.eq_1 rh hkc))<|(az (n4 hkc hlc2 (aH (e:=1) (enc:=aw aa) (λ_=>rfl) hn) @aw.eq_1)) ?_
   have fin:lK day k (r,n)=[]->bp 2 15 (cy day 0 ((l.zip ch).take (k+1))).length=bp 2 15 out.length/\q8 2 (cy day 0 ((l.zip ch).take (k+1))) c8=q8 2 out c8:=λh=>by rw[hfm,h,b1];exact⟨rfl,rfl⟩
   cases g1:decide (0<=n)
   ·have g1':=wt g1;obtain⟨f1,f2⟩:=fin (by unfold lK;rw[t8 (by show n<0;omega)])
    refine(az (n2 hkc g1))<|(zN)<|(zs) ?_;refine aq.r0 (by rfl) (iZ (qA (oH hlt hlen6 (by decide)))) ?_;refine⟨l.length-(k+1),_,by omega,(Fg.less (by (simp only[bI,bj,dI,↓reduceIte,ac,ah,f1,f2,bU hk1,jk hk0,bY])<;>(repeat' apply a0)<;>first | rfl | trivial) (by (simp only[bI,bj,or_true,true_or,ah,f1,f2,bU hk1,jk hk0,bY])<;>(repeat' apply a0)<;>first | exact .inr rfl | exact .inl rfl | trivial)),k+1,by omega,rfl,trivial,rfl⟩
   obtain⟨i,rfl⟩:∃i:Nat,n=(i:Int):=⟨n.toNat,by have:=ww g1;omega⟩;by_cases g2:i<r.opts.length;rotate_left
   ·obtain⟨f1,f2⟩:=fin (by unfold lK;rw[ul (by show ¬(i:Int)<0;omega)];show(match r.opts[i]? with | some e=>_ | none=>_)=_;rw[bw (by omega)])
    refine(az (n3 hkc g1 (show decide ((i:Int)<(r.opts.length:Int))=false by simp only[wd];omega)))<|(zN)<|(zs) ?_;refine aq.r0 (by rfl) (iZ (qA (oH hlt hlen6 (by decide)))) ?_;refine⟨l.length-(k+1),_,by omega,(Fg.less (by (simp only[bI,bj,dI,↓reduceIte,ac,ah,f1,f2,bU hk1,jk hk0,bY])<;>(repeat' apply a0)<;>first | rfl | trivial) (by (simp only[bI,bj,or_true,true_or,ah,f1,f2,bU hk1,jk hk0,bY])<;>(repeat' apply a0)<;>first | exact .inr rfl | exact .inl rfl | trivial)),k+1,by omega,rfl,trivial,rfl⟩
   obtain⟨e,hei⟩:∃e,r.opts[i]?=some e:=⟨r.opts[i],a1 g2⟩
   have hpk:lK day k (r,(i:Int))=if e.day<day then [(e,(k:Int))] else []:=by
    unfold lK;rw[ul (by show ¬(i:Int)<0;omega)];show(match r.opts[i]? with | some e=>_ | none=>_)=_;rw[hei]
   cases g3:decide (e.day<day)
   ·rw[ul (wt g3)] at hpk;obtain⟨f1,f2⟩:=fin hpk
    refine(az (n7 hkc g1 g2 (show decide ((i:Int)<(r.opts.length:Int))=true by simp only[wp];omega) (aH (e:=14) (enc:=aF) (λ_=>rfl) hei) @aF.eq_1 g3))<|(zN)<|(zs) ?_;refine aq.r0 (by rfl) (iZ (qA (oH hlt hlen6 (by decide)))) ?_;refine⟨l.length-(k+1),_,by omega,(Fg.less (by (simp only[bI,bj,dI,↓reduceIte,ac,ah,f1,f2,bU hk1,jk hk0,bY])<;>(repeat' apply a0)<;>first | rfl | trivial) (by (simp only[bI,bj,or_true,true_or,ah,f1,f2,bU hk1,jk hk0,bY])<;>(repeat' apply a0)<;>first | exact .inr rfl | exact .inl rfl | trivial)),k+1,by omega,rfl,trivial,rfl⟩
   ·rw[t8 (ww g3)] at hpk;rw[hpk] at hfm;have happ:=en oW gH 2 out (e,(k:Int));rw[zn] at happ
    have hE3:bp 2 15 (cy day 0 ((l.zip ch).take (k+1))).length=.buf 2 (out.length+1) 15 none:=by rw[hfm,aj];rfl
    have hE4:q8 2 (cy day 0 ((l.zip ch).take (k+1))) c8=[.gone,.gone,.cells ((out++[(e,(k:Int))]).flatMap c8)]:=by rw[hfm,ng];rfl
    refine(az (n7 hkc g1 g2 (show decide ((i:Int)<(r.opts.length:Int))=true by simp only[wp];omega) (aH (e:=14) (enc:=aF) (λ_=>rfl) hei) @aF.eq_1 g3))<|(zY)<|(az (n8 g2 (aH (e:=14) (enc:=aF) (λ_=>rfl) hei) @aF.eq_1 hcl hkc (show out.length<=1000000 by omega) @al happ))<|(az (zi hlt hlen6)) ?_;refine zX hlt (bK (n2 hE3 hE4)) trivial
 rintro e st ⟨rfl,hfg⟩;refine aq.fg hfg ?_;clear hfg
 (try change aq _ _ _ _ _)
 have hal:(cy day 0 (l.zip ch)).length<20:=Nat.lt_of_le_of_lt (th day _ 0) (by omega)
 have hmem:∀x∈cy day 0 (l.zip ch),qC x.1:=by
  intro x hx;obtain⟨p,h1,h2⟩:=xn hx;exact(hl p.1 (List.of_mem_zip h1).1).ev _ h2
 unfold mq;generalize cy day 0 (l.zip ch)=all at hal hmem ⊢;have hmem2:∀x∈qi all,qC x.1:=λx hx=>hmem x ((CL _ _).mem_iff.1 hx);have hsl:(qi all).length=all.length:=Af _ _
 (repeat refine aq.seq ?_)
 refine aq.mono (Q:=λe st=>e=.normal/\Fg st ⟨[(4,.ip [ah 3 c ao]),(10,ah 15 (qi all) c8)],79,[],[]⟩) ?_ ?_
 ·by_cases h0:all=[]
  ·subst h0;rw[mA,show bp 2 15 ([]:List (bH×Int)).length=cI from rfl]
   refine(zC)<|(zK (Bu 236) (hwk:=bl.cons (.nil _) (.cons (.fn .nil .nil) .nil)))<|(zR) ?_;exact⟨rfl,Fg.trans (Fg.wk (f':=[(4,.ip [ah 3 c ao]),(10,ah 15 (qi []) c8)]) ⟨.inl rfl,.inr (.nil _),trivial⟩) zH⟩
  ·have hk1:¬all.length=0:=λh=>h0 (length_eq_zero_iff.1 h);rw[jk h0,bU hk1];have hrc:∀(g:Nat->Nat) (l:List (bH×Int)),lr g (l.flatMap c8)=l.flatMap c8:=λg l=>bg (aA gH l);have hbc:∀(B:Nat) (l:List (bH×Int)),gC B (l.flatMap c8)=true:=λB l=>bF (aA gH l);have hkc:∀(o:Nat) (l:List (bH×Int)),(l.flatMap c8).map (aM o)=l.flatMap c8:=λo l=>aY gH o l;have hst:=Cd 236 Ls Fa none all hal;rw[show tb (JH Ls) all=qi all from rfl] at hst;refine(zC) ?_;refine zS [2] (n4 hrc hbc hkc rh) hst ?_ (hc:=IY rh);refine(zR) ?_;exact⟨rfl,Fg.trans (Fg.freeze (f':=[(4,.ip [ah 3 c ao]),(10,ah 15 (qi all) c8)]) 2 rfl (λh=>by cases h) ⟨.inl rfl,.inr (by rw[ny 15 (qi all) c8,hsl];exact .buf rfl (by rw[<-hsl,c9 oW];exact bl.refl (aA gH _)) (by rw[aL oW,hsl];exact al _)),trivial⟩) zH⟩
 rintro e st ⟨rfl,hfg⟩;refine aq.fg hfg ?_;clear hfg
 (try change aq _ _ _ _ _)
 rw[<-hsl] at hal;generalize qi all=ev at hal hmem2 ⊢
 have hlen1:ev.length<=1000000:=by omega
 refine(zV) ?_;refine aq.fg (Fg.Wm (S':=[.cells [ah 14 ([]:List aI) ak]]) ⟨.inr ⟨by decide,.inr ⟨_,_,rfl,rfl,.cons (.nil _) .nil⟩⟩,trivial⟩) ?_
 (try change aq _ _ _ _ _)
 refine(mO)<|(zs) ?_;refine Oi ev (λk (s:List aI)=>wH c [] ev=wH c s (ev.drop k)/\(∀p∈s,gU p)/\s.length<=k) (λk s=>[(15,.fn 237 [] [.ip [ah 3 c ao],.ptr 0 0]),(63,ah 15 ev c8),(64,aa ev.length),(65,aa k)]) (λk s=>[.cells [ah 14 s ak]]) ([]) zH (by first | exact⟨rfl,by simp,bt _⟩ | trivial | rfl) ?_;intro k s hk hall;refine zT ev k ?_ ?_;rintro rfl;rotate_left;intro p hx hlt;rotate_left
 ·refine(eN) ?_;obtain⟨hr,-,-⟩:=hall;rw[co] at hr
  exact(zV)<|iP [.tmp 8,.tmp 9] (hq:=by rw[hr];rfl)
 obtain⟨hr,hps,hsk⟩:=hall;rw[fC hx] at hr;have hpo:=hmem2 p (ay hx);have hfo:=Fb c s p.1 hc (by omega) hps hpo;obtain⟨q1,q2,q3,q4⟩:=vS (c:=c) hps hpo
 have hr2:wH c s (p::ev.drop (k+1))=if (aW c s p.1).2=0 then wH c (aW c s p.1).1 (ev.drop (k+1)) else (p.2,(aW c s p.1).2):=rfl
 rw[hr2] at hr;clear hr2;generalize aW c s p.1=q at hfo q1 q2 q3 q4 hr;rw[dW] at hfo
 refine(gh)<|(az (n3 hlt (aH (e:=15) (enc:=c8) (λ_=>rfl) hx) @zn))<|(zC) ?_;refine zS [0] trivial hfo ?_;refine(zR) ?_
 by_cases he:q.2=0
 ·rw[t8 he] at hr
  refine(az (show decide (q.2=0)=true from ut he))<|(zN)<|(az (zi hlt hlen1)) ?_;refine I5 hlt (q.1) zH (⟨hr,q1,by omega⟩)
 ·rw[ul he] at hr
  exact(az (show decide (q.2=0)=false from un he))<|(cM)<|iP [.tmp 8,.tmp 9] (hq:=by rw[hr])
def pW(c:List aQ)(l:List br)(ch:List Int):Int×Int:=if lT c l ch 0=true then mq c l ch 40001 else (-1,1)
def QY(c:List aQ)(l:List br)(ch:List Int):Bool:=decide ((pW c l ch).2=0)
def vV{c:List aQ}{l:List br}{ch:List Int}{least:Int}(h:lT c l ch least=true):l.length=ch.length:=by
 unfold lT at h;rw[a5,a5] at h;exact ww h.2.1
def Kn(c:List aQ)(l:List br)(ch:List Int)(hc:jI c)(hl:∀r∈l,eh r)(hlen:l.length<20)(hlc:ch.length<=1000000):PC prog 211 [.ag [ah 3 c ao],ah 2 l aB,ah 1 ch (aw aa)] (·=.bC [aa (pW c l ch).1,aa (pW c l ch).2]):=by
 refine pB 19 Tryz.func211 ?_;refine(kK)<|(zK (Bk c l ch 0 hc hl (by omega) hlc)) ?_
 cases hg:lT c l ch 0
 ·exact(zR)<|(cM)<|iP [.tmp 6,.tmp 7] (hq:=by rw[show pW c l ch=(-1,1) by rw[pW,hg];rfl])
 refine(zR)<|(zN) ?_
 rw[show pW c l ch=mq c l ch 40001 by rw[pW,hg];rfl];have hfo:=xE c l ch 40001 hc hl hlen (vV hg);generalize mq c l ch 40001=q at hfo ⊢
 exact(zC)<|(zK hfo)<|(zR)<|iP [.tmp 6,.tmp 7]
def Dz(c:List aQ)(l:List br)(ch:List Int)(hc:jI c)(hl:∀r∈l,eh r)(hlen:l.length<20)(hlc:ch.length<=1000000):PC prog 148 [.ag [ah 3 c ao],ah 2 l aB,ah 1 ch (aw aa)] (·=au (QY c l ch)):=by
 refine pB 18 Tryz.func148 ?_;have hfa:=Kn c l ch hc hl hlen hlc;unfold QY;generalize pW c l ch=q at hfa ⊢
 exact(kK)<|(zK hfa)<|(zR)<|(zV)<|zo [.tmp 6]
def NY(l:List br)(ch:List Int):PC prog 209 [ah 2 l aB,ah 1 ch (aw aa)] (·=.fn 234 [] [.ip [ah 2 l aB],.ip [ah 1 ch (aw aa)]]):=by
 refine pB 6 Tryz.func209 ?_;refine(zV) ?_;refine aq.fg (Fg.freeze (f':=[(2,.ip [ah 2 l aB]),(3,.ptr 1 0)]) 0 rfl (λh=>by cases h) (sh @ah.eq_1)) ?_;refine aq.fg (Fg.freeze (f':=[(2,.ip [ah 2 l aB]),(3,.ip [ah 1 ch (aw aa)])]) 1 rfl (λh=>by cases h) (sh @ah.eq_1)) ?_
 (try change aq _ _ _ _ _)
 exact(zV)<|zo [.tmp 4]
def jP(n:Int)(m:Int)(e:bH):Int:=if n<0 then eX m e.day else m
def sE(m:Int)(l:List (br×Int)):Int:=l.foldl (λm p=>p.1.opts.foldl (jP p.2) m) m
def Oj(c:gB)(f1:Fm):Prop:=∀(ro:Option Nat) (f0:Fm) (day m:Int) (X:List SO) (K:Ex->List SO->Fm->Prop),K .normal (.loop c .ready none f1::.cells [aa (eX m day)]::X) f0->Wc prog ro c 0 [aa day] (.loop c .ready none f1::.cells [aa m]::X) f0 K
def Kk(c:gB)(f1:Fm)(hb:Oj c f1)(hps:c.ps.toList.length=1)(hlow:x6 c.n f1=true)(hn1:c.n<=1000000)(hpar:c.ps.toList.all (λk=>Nat.blt k c.n)=true)(hkf:∀o,2<=o->di o f1=f1)(l:List br)(ch:List Int)(m0:Int)(hl:∀r∈l,eh r)(hlen:l.length<=1000000)(heq:l.length=ch.length):
 SC prog 234 [.a (.fn (.yield c.id) [] []),.ip [ah 2 l aB],.ip [ah 1 ch (aw aa)]] [.loop c .ready none f1,.cells [aa m0]] [] (λr S'=>r=.bC []/\S'=[.loop c .ready none f1,.cells [aa (sE m0 (l.zip ch))]]):=by
 refine UZ 36 func234 ?_;have hkA:f1.map (λp=>(p.1,bif Ev.names 2 p.2 then SV.any else p.2))=f1:=hkf 2 (al _);have hkB:f1.map (λp=>(p.1,bif Ev.names 3 p.2 then SV.any else p.2))=f1:=hkf 3 (by decide);refine(zV) ?_
 have hz:∀{k:Nat} {r:br} {n:Int},l[k]?=some r->ch[k]?=some n->(l.zip ch)[k]?=some (r,n):=λh1 h2=>by
  rw[b2];exact⟨h1,h2⟩
 have hzl:(l.zip ch).length=l.length:=by rw[c0,<-heq,em]
 refine(zs) ?_;refine zL l (λk=>True) (λk=>[(0,.a (.fn (.yield c.id) [] [])),(2,.ip [ah 1 ch (aw aa)]),(8,ah 2 l aB),(9,aa l.length),(10,aa k),(1000000,.ptr 0 0),(1000001,.ptr 1 0)]) (λk=>[.loop c .ready none f1,.cells [aa (sE m0 ((l.zip ch).take k))]]) (bK (n3 @take_zero.{0} @sE.eq_1 @foldl_nil.{0,0})) zp ?_;intro k hk hall;refine zT l k ?_ ?_;rintro rfl;rotate_left;intro r hx hlt;rotate_left
 ·refine(eN) ?_;rw[<-hzl,be];simp only[fG,dH,cB,bX,if_true];exact zP []
 have hrk:eh r:=hl r (ay hx);have hr1:=hrk.len;obtain⟨n,hn⟩:∃n,ch[k]?=some n:=⟨ch[k],a1 (by omega)⟩;have ht:=bz (hz hx hn)
 have hlc2:k<ch.length:=by omega
 have hst:sE m0 ((l.zip ch).take (k+1))=r.opts.foldl (jP n) (sE m0 ((l.zip ch).take k)):=by
  unfold sE;rw[ht,ci];rfl
 generalize sE m0 ((l.zip ch).take k)=m1 at hst
 refine(gh)<|(az (n5 hlt (aH (e:=2) (enc:=aB) (λ_=>rfl) hx) @aB.eq_1 hkA hkB))<|(zV)<|(zs) ?_;refine zL r.opts (λk2=>True) (λk2=>[(0,.a (.fn (.yield c.id) [] [])),(2,.ip [ah 1 ch (aw aa)]),(4,aa k),(8,ah 2 l aB),(9,aa l.length),(10,aa k),(16,ah 14 r.opts aF),(17,aa r.opts.length),(18,aa k2),(1000000,.ptr 0 0),(1000001,.ptr 1 0)]) (λk2=>[.loop c .ready none f1,.cells [aa ((r.opts.take k2).foldl (jP n) m1)]]) (bK (n2 @take_zero.{0} @foldl_nil.{0,0})) zp ?_;intro k2 hk2 hall2;refine zT r.opts k2 ?_ ?_;rintro rfl;rotate_left;intro e hx2 hlt2;rotate_left
 ·refine(eN) ?_;rw[be];refine(az (zi hlt hlen)) ?_;refine zX hlt (bK hst) trivial
 have ht2:=bz hx2
 have hst2:(r.opts.take (k2+1)).foldl (jP n) m1=jP n ((r.opts.take k2).foldl (jP n) m1) e:=by rw[ht2,ci];rfl
 generalize (r.opts.take k2).foldl (jP n) m1=m2 at hst2
 refine(gh)<|(az (n5 hlt2 (aH (e:=14) (enc:=aF) (λ_=>rfl) hx2) @aF.eq_1 hkA hkB)) ?_
 cases g1:decide (n<0)
 ·rw[show jP n m2 e=m2 by unfold jP;rw[ul (wt g1)]] at hst2
  refine(az (n4 hlc2 (aH (e:=1) (enc:=aw aa) (λ_=>rfl) hn) @aw.eq_1 g1))<|(zN)<|(az (zi hlt2 hr1)) ?_;refine zX hlt2 (bK hst2) trivial
 ·rw[show jP n m2 e=eX m2 e.day by unfold jP;rw[t8 (ww g1)]] at hst2
  refine(iC (n4 hlc2 (aH (e:=1) (enc:=aw aa) (λ_=>rfl) hn) @aw.eq_1 g1)) ?_;refine aG.yR (vs:=[aa e.day]) 0 (by rfl) rfl rfl (by rfl) rfl rfl rfl (by rfl) rfl hps hlow hn1 hpar λro'=>hb _ _ _ _ _ _ ?_;refine(zR)<|(zN)<|(az (zi hlt2 hr1)) ?_;refine zX hlt2 (bK hst2) trivial
def vM(c:List aQ)(l:List br)(ch:List Int):Bool:=lT c l ch (-1)&&!(decide ((mq c l ch (sE 40001 (l.zip ch))).2=0))
def E8(c:List aQ)(l:List br)(ch:List Int)(hc:jI c)(hl:∀r∈l,eh r)(hlen:l.length<20)(hlc:ch.length<=1000000):PC prog 147 [.ag [ah 3 c ao],ah 2 l aB,ah 1 ch (aw aa)] (·=au (vM c l ch)):=by
 refine PC.sA (n:=33) dE Tryz.func147 rfl rfl (by decide) ?_;refine(kK)<|(zK (Bk c l ch (-1) hc hl (by omega) hlc)) ?_
 cases hg:lT c l ch (-1)
 ·refine(zR)<|(cM) ?_;refine aq.ret ?_
  (try simp only[fG,dH,cB,bX])
  exact⟨rfl,[au false],au false,by rfl,Wk.refl rfl,by rw[vM,hg];rfl⟩
 have heq:=vV hg
 refine(zR)<|(iY) ?_;refine aq.fg (Fg.freeze (f':=[(1,ah 2 l aB),(2,ah 1 ch (aw aa)),(3,.ip [ah 3 c ao]),(7,.ptr 1 0)]) 0 rfl (λh=>by cases h) (sh @ah.eq_1)) ?_
 (try change aq _ _ _ _ _)
 refine(zC)<|(zK (NY l ch) (hfl:=.inr (bl.refl rfl)))<|(zR)<|(zB) ?_;refine aq.uF (f1:=[(1,ah 2 l aB),(2,ah 1 ch (aw aa)),(3,.ip [ah 3 c ao]),(7,.ptr 1 0)]) dE (by rfl) func234 (by rfl) Ut ?_
 rintro N lc hid hn hps ha hb
 have hrd:Oj lc [(1,ah 2 l aB),(2,ah 1 ch (aw aa)),(3,.ip [ah 3 c ao]),(7,.ptr 1 0)]:=by
  intro ro f0 day m X K hK pend f1 hS;cases hS;rw[ha,hps,hn];change aq _ _ _ ⟨(19,aa day)::(1,ah 2 l aB)::(2,ah 1 ch (aw aa))::(3,.ip [ah 3 c ao])::(7,.ptr 1 0)::Ms laid f0,33,_,[]⟩ _;refine(zV) ?_;refine⟨rfl,none,[(1,ah 2 l aB),(2,ah 1 ch (aw aa)),(3,.ip [ah 3 c ao]),(7,.ptr 1 0)],rfl,?_⟩;rw[hb]
  refine(zB)<|(az @iJ) ?_;refine⟨rfl,.busy,none,[(1,ah 2 l aB),(2,ah 1 ch (aw aa)),(3,.ip [ah 3 c ao]),(7,.ptr 1 0)],rfl,?_⟩
  simp only[vp,Lx,laid,ad,↓reduceIte,vK,vI,dv];exact hK
 have hsc:=Kk lc [(1,ah 2 l aB),(2,ah 1 ch (aw aa)),(3,.ip [ah 3 c ao]),(7,.ptr 1 0)] hrd (by rw[hps];rfl) (by rw[hn];rfl) (by rw[hn];decide) (by rw[hps,hn];rfl) (λo ho=>by
  have h1:¬1=o:=by omega
  simp[di,aM,h1,Ev.names,ah,gn]) l ch 40001 hl (by omega) heq
 refine⟨[3,1],_,_,_,_,hsc,?_,rfl,by decide,?_,?_⟩
 ·simp only[eM,bj,bI,ah,di,aM,↓reduceIte,ac,af,aU,hid,List.map,List.append,ca,nil_append]
 ·rintro(_ | _ | i) so h
  ·cases h;exact⟨3,rfl,by rfl⟩
  ·cases h;exact⟨1,rfl,by rfl⟩
  ·cases h
 rintro r S' ⟨rfl,rfl⟩;refine⟨by simp only[BU,eM,bj,ah,af,ap,decide_true];first | done | rfl,3,.ready,none,[(1,ah 2 l aB),(2,ah 1 ch (aw aa)),(3,.ip [ah 3 c ao]),(7,.ptr 1 0)],by rfl,by decide,by rfl,?_⟩;change aq _ _ _ ⟨[(1,ah 2 l aB),(2,ah 1 ch (aw aa)),(3,.ip [ah 3 c ao]),(7,.ptr 1 0)],33,[.gone,.cells [aa (sE 40001 (l.zip ch))],.oT N,.gone],[{ fn:=none,qG:=N,args:=[],cap:=[] }]⟩ _;obtain⟨day,hday⟩:∃day,day=sE 40001 (l.zip ch):=⟨_,rfl⟩
 have hF:vM c l ch=!(decide ((mq c l ch day).2=0)):=by rw[vM,hg,hday];rfl
 rw[hF,<-hday];have hfo:=xE c l ch day hc hl hlen heq;generalize mq c l ch day=q at hfo
 refine(zC)<|(zK hfo)<|(zR)<|(zV) ?_;refine aq.ret ?_
 (try simp only[fG,dH,cB,bX])
 exact⟨rfl,[(6,au (!decide (q.2=0)))],⟨rfl,trivial⟩,rfl,.inl ⟨rfl,2,rfl,[au (!decide (q.2=0))],au (!decide (q.2=0)),by rfl,Wk.refl rfl,rfl⟩⟩
def jR(l:List br):Nat:=l.countP λr=>decide (1<bD r)
def fO(c:List aQ)(l:List br):Int:=if mg c=true then (if (l.all λr=>!(decide (bD r=0)))=true then (if (30:Int)<(jR l:Int) then 7 else 0) else 1) else 1
def BV(c:List aQ)(l:List br)(hc:jI c)(hl:∀r∈l,eh r)(hlen:l.length<=1000000):PC prog 106 [.ag [ah 3 c ao],ah 2 l aB] (·=aa (fO c l)):=by
 refine pB 31 Tryz.func106 ?_;refine(kK)<|(zK (oz c hc)) ?_
 cases h1:mg c
 ·exact(cK h1)<|(cM)<|zo [.tmp 4] (hq:=by rw[show fO c l=1 by simp[fO,h1]])
 refine(cK h1)<|(iY)<|(zV)<|(zs) ?_;refine zL l (λk=>((l.take k).all λr=>!(decide (bD r=0)))=true) (λk=>[(5,aa (jR (l.take k))),(12,ah 2 l aB),(13,aa l.length),(14,aa k)]) (λk=>[]) (Fg.less (by (simp only[bI,bj,dI,↓reduceIte,ac,ah,take_zero,jR,eC])<;>(repeat' apply a0)<;>first | rfl | trivial) (by (simp only[bI,bj,or_true,true_or,ah,take_zero,jR,eC])<;>(repeat' apply a0)<;>first | exact .inr rfl | exact .inl rfl | trivial)) zp ?_;intro k hk hall;refine zT l k ?_ ?_;rintro rfl;rotate_left;intro r hx hlt;rotate_left
 ·refine(eN) ?_;rw[be] at hall ⊢
  have hN:fO c l=if (30:Int)<(jR l:Int) then 7 else 0:=by rw[fO,h1,t8 rfl,t8 hall]
  cases h2:decide ((30:Int)<(jR l:Int))
  ·exact(az h2)<|(iY)<|zo [.tmp 4] (hq:=by rw[hN,ul (wt h2)])
  ·exact(az h2)<|(cM)<|zo [.tmp 4] (hq:=by rw[hN,t8 (ww h2)])
 have hrk:eh r:=hl r (ay hx);have hr1:=hrk.len;have ht:=bz hx;have hdl:jR (l.take k)<=k:=bx List.countP_le_length (by rw[a7];omega)
 have hd1:jR (l.take (k+1))=jR (l.take k)+if 1<bD r then 1 else 0:=by
  unfold jR;rw[ht,List.countP_append];by_cases h:1<bD r<;>simp[h]
 generalize jR (l.take k)=dd at hd1 hdl ⊢
 refine(gh)<|(az (n3 hlt (aH (e:=2) (enc:=aB) (λ_=>rfl) hx) @aB.eq_1))<|(zC)<|(zK (iM r hrk))<|(zR)<|(zB) ?_
 cases g0:decide (bD r=0);rotate_left
 ·exact(az g0)<|(cM)<|zo [.tmp 4] (hq:=by rw[show fO c l=1 by rw[fO,h1,t8 rfl,ul (λh=>by have:=List.all_eq_true.1 h r (ay hx);rw[g0] at this;cases this)]])
 refine(az g0)<|(zN) ?_
 have hall2:((l.take (k+1)).all λr=>!(decide (bD r=0)))=true:=by
  rw[ht,eB,hall];show(true&&(!(decide (bD r=0))&&true))=true;rw[g0];rfl
 cases g1:decide (1<bD r)
 ·rw[ul (wt g1),ba] at hd1
  refine(az g1)<|(zN)<|(az (zi hlt hlen)) ?_;refine zX hlt (bK hd1) hall2
 ·rw[t8 (ww g1)] at hd1
  refine(az g1)<|(zY)<|(zs) ?_;refine aq.r0 (by rfl) (iZ (bA (dd:Int) 1 (by omega))) ?_;refine(az (zi hlt hlen)) ?_;refine zX hlt (bK (n2 hd1 @dI)) hall2
def Pn(l:List Int):(l.flatMap (aw aa)).all ef=true:=o6 (λ_=>rfl) l
def Ss(o:Option Nat):SC prog 149 [.buf 0 0 1 o] [.cells []] [] (λr S'=>r=.buf 1 0 1 (some 0)/\S'=[.cells [],.cells []]):=by
 refine J6 6 func149 ?_;refine(zV)<|(az (n2 @length_nil.{0} @map_nil.{0,0}))<|(zE) ?_;exact zP [.tmp 2]
def E6(ch:List Int)(h0:ch≠[])(hlen:ch.length<=1000000)(o:Option Nat):SC prog 149 [.buf 0 ch.length 1 o] [.cells (ch.flatMap (aw aa))] [] (λr S'=>r=.buf 1 ch.length 1 none/\S'=[.cells (ch.flatMap (aw aa)),.cells (ch.flatMap (aw aa))]):=by
 refine J6 6 func149 ?_;have hcl:=aL (enc:=aw aa) (e:=1) (λ_=>rfl) ch;have hal:=c9 (enc:=aw aa) (e:=1) (λ_=>rfl) ch;have hon:=Pn ch;have hkc:=λo=>aY (enc:=aw aa) (λ_=>rfl) o ch;rw[a4] at hal hcl;have h1:¬ch.length=0:=λe=>h0 (length_eq_zero_iff.1 e);have hp0:0<ch.length:=bo h1;have hrc:∀r:Nat->Nat,lr r (ch.flatMap (aw aa))=ch.flatMap (aw aa):=λr=>bg (aA (λ_=>rfl) _)
 refine(zV)<|(az (n9 h1 hp0 hlen hon hkc hal hcl @a4 @al)) ?_;refine aq.fg (st':=⟨[(2,.buf 1 ch.length 1 none),(1000000,.ptr 0 0)],6,[.cells (ch.flatMap (aw aa)),.cells (ch.flatMap (aw aa))],[]⟩) (Fg.rn [0,2] (by decide) rfl (I0 hrc) (I1 hrc)) ?_;refine(zE) ?_;exact zP [.tmp 2]
def Us(at1 n:Nat)(ch:List Int)(k:Nat)(hk:k<ch.length)(hn:n=ch.length)(o:Option Nat):SC prog 150 [.ptr 0 0,.ptr 2 0] [.cells [.buf 1 n 1 o],.cells (ch.flatMap (aw aa)),.cells [aa k]] [] (λr S'=>r=.bC []/\S'=[.cells [.buf 1 n 1 o],.cells ((ch.set k (-1)).flatMap (aw aa)),.cells [aa k]]):=by
 refine U0 5 func150 ?_;have hcl:=aL (enc:=aw aa) (e:=1) (λ_=>rfl) ch;have hs:=kS (enc:=aw aa) (e:=1) (λ_=>rfl) (-1:Int) hk;rw[show aw aa (-1)=[aa (-1)] from rfl,ca,nil_append,a4] at hs;subst hn;refine(az (n5 hk hcl @a4 (show k+1<=ch.length by omega) hs)) ?_;exact zP []
def HQ(ch:List Int):Nat->Nat->Nat
 | 0,k=>k
 | f+1,k=>match ch[k]? with
  | some n=>if 0<=n then HQ ch f (k+1) else k
  | none=>k
def ov(ch:List Int)(k:Nat):Nat:=HQ ch (ch.length-k) k
def NQ{ch:List Int}{k:Nat}{n:Int}(h:ch[k]?=some n)(hn:0<=n):ov ch k=ov ch (k+1):=by
 have:=bf h;unfold ov;rw[show ch.length-k=ch.length-(k+1)+1 by omega,HQ,h];simp only[t8 hn]
def NP{ch:List Int}{k:Nat}{n:Int}(h:ch[k]?=some n)(hn:¬0<=n):ov ch k=k:=by
 have:=bf h;unfold ov;rw[show ch.length-k=ch.length-(k+1)+1 by omega,HQ,h];simp only[ul hn]
def NO{ch:List Int}{k:Nat}(h:ch.length<=k):ov ch k=k:=by
 unfold ov;rw[show ch.length-k=0 by omega,HQ]
def tv(g:Nat->List (List Int)->Bool×List (List Int)):Nat->Nat->List (List Int)->Bool×List (List Int)
 | 0,_,out=>(true,out)
 | m+1,n,out=>if (g n out).1=true then tv g m (n+1) (g n out).2 else (false,(g n out).2)
def fP(c:List aQ)(l:List br)(most:Int):Nat->Nat->List Int->List (List Int)->Bool×List (List Int)
 | 0,_,_,out=>(true,out)
 | F+1,i,ch,out=>if vM c l ch=true then (true,out) else match l[ov ch i]? with
  | none=>if QY c l ch=true then (!(decide ((out.length:Int)+1=most)),out++[ch]) else (true,out)
  | some r=>tv (λn out=>fP c l most F (ov ch i+1) (ch.set (ov ch i) n) out) (bD r).toNat 0 out
def Mr{g:Nat->List (List Int)->Bool×List (List Int)}{most:Int}(hg:∀n out,(out.length:Int)<most->(g n out).1=true->((g n out).2.length:Int)<most):∀(m n:Nat) (out:List (List Int)),(out.length:Int)<most->(tv g m n out).1=true->((tv g m n out).2.length:Int)<most
 | 0,n,out,h,_=>by rw[tv];exact h
 | m+1,n,out,h,ht=>by
  rw[tv] at ht ⊢;split at ht
  ·rename_i h1;rw[t8 h1];exact Mr hg m (n+1) _ (hg n out h h1) ht
  ·cases ht
def z7{c:List aQ}{l:List br}{most:Int}:∀(F i:Nat) (ch:List Int) (out:List (List Int)),(out.length:Int)<most->(fP c l most F i ch out).1=true->((fP c l most F i ch out).2.length:Int)<most
 | 0,i,ch,out,h,_=>by rw[fP];exact h
 | F+1,i,ch,out,h,ht=>by
  rw[fP] at ht ⊢;split
  ·exact h
  ·rename_i h1;rw[ul h1] at ht;split
   ·rename_i h2;rw[h2] at ht;simp only at ht;split
    ·rename_i h3;rw[t8 h3] at ht;simp only[dB,wd] at ht;rw[aj];show((out.length+1:Nat):Int)<most;omega
    ·exact h
   ·rename_i r h2;rw[h2] at ht;exact Mr (λn out h h2=>z7 F _ _ _ h h2) _ _ _ h ht
def fZ(ch:List Int):List SV:=[ah 1 ch (aw aa)]
def rN(ch:List Int):(fZ ch).length=1:=rfl
def mH(ch:List Int):cm (fZ ch)=true:=rfl
def sw(out:List (List Int)):SO:=if out=[] then .gone else .cells (out.flatMap fZ)
def PO{l:List (List Int)}(h:¬l=[]):sw l=.cells (l.flatMap fZ):=ul h
def EA:sw []=.gone:=rfl
def lG(o:Nat)(l:List (List Int)):bO o (sw l)=sw l:=by
 unfold sw;split
 ·rfl
 ·rw[bO,aY mH]
def jz(r:Nat->Nat)(l:List (List Int)):nM r (sw l)=sw l:=by
 unfold sw;split
 ·rfl
 ·show SO.cells (lr r _)=_;rw[bg (aA mH l)]
def gi(B:Nat)(l:List (List Int)):kD B (sw l)=true:=by
 unfold sw;split
 ·rfl
 ·exact bF (aA mH l)
def cN(lc:gB)(most:Int)(ok:Bool):SO:=.loop lc (cond ok .ready .done) (cond ok none (some (.exit 0))) [(5,.ip [aa most]),(9,.ptr 1 0)]
def na(o:Nat)(lc:gB)(most:Int)(ok:Bool)(h:¬1=o):bO o (cN lc most ok)=cN lc most ok:=by
 simp[cN,bO,di,aM,Ev.names,gn,h]
def AS(r:Nat->Nat)(lc:gB)(most:Int)(ok:Bool)(h:r 1=1):nM r (cN lc most ok)=cN lc most ok:=by
 show SO.loop lc _ _ [(5,SV.ip [aa most]),(9,SV.ptr (r 1) 0)]=_;rw[h];rfl
def vC(B:Nat)(lc:gB)(most:Int)(ok:Bool)(h:1<B):kD B (cN lc most ok)=true:=by
 simp[cN,kD,D0,dG,gC,h]
def bm(c:List aQ)(l:List br)(lc:gB):SV:=.fn 146 [] [.ip [ah 3 c ao],.ip [ah 2 l aB],.ptr 3 0,.ip [.a (.fn (.yield lc.id) [] [])],.ptr 5 0]
def TD(c:List aQ)(l:List br)(lc:gB)(most:Int)(ok:Bool)(out:List (List Int))(ch:List Int):List SO:=
 [cN lc most ok,.cells [bp 2 1 out.length],sw out,.cells [.buf 4 ch.length 1 (some ch.length)],.cells (ch.flatMap (aw aa)),.cells [bm c l lc]]
def oZ:Code->Option (Code×Code)
 | .seq a b=>match oZ a with
  | some x=>some x
  | none=>oZ b
 | .block _ c=>oZ c
 | .rangeFunc _ _ a b=>some (a,b)
 | _=>none
def tG(lc:gB):Prop:=(prog.funcs[(53:Nat)]?.bind λfn=>fn.body.bind oZ)=some (lc.a,lc.b)
abbrev v6:Fm:=[(1000000,.ptr 0 0),(1000001,.ptr 1 0),(1000002,.ptr 2 0),(1000003,.ptr 3 0),(1000004,.ptr 4 0),(1000005,.ptr 5 0)]
abbrev v5:Fm:=[(1000000,.ptr 0 0),(1000001,.ptr 1 0),(1000003,.ptr 3 0),(1000004,.ptr 4 0),(1000005,.ptr 5 0)]
abbrev c6(c:List aQ)(l:List br)(lc:gB):Fm:=(1,.ip [ah 3 c ao])::(2,.ip [ah 2 l aB])::(3,.ptr 3 0)::(4,.ip [.a (.fn (.yield lc.id) [] [])])::(5,.ptr 5 0)::(6,.ptr 6 0)::v6
abbrev c5(c:List aQ)(l:List br)(lc:gB):Fm:=(1,.ip [ah 3 c ao])::(2,.ip [ah 2 l aB])::(3,.ptr 3 0)::(4,.ip [.a (.fn (.yield lc.id) [] [])])::(5,.ptr 5 0)::(6,.ptr 6 0)::v5
def On(ch:List Int):Prop:=∀n∈ch,n<0->n = -1
def Bj(c:List aQ)(l:List br)(lc:gB)(most:Int)(hcd:tG lc)(hln:lc.n=39)(hlp:lc.ps=#[26])(hc:jI c)(hl:∀r∈l,eh r)(hlen:l.length<20)(hl0:l≠[])(hm:most<=4096):∀(F i:Nat) (ch:List Int) (out:List (List Int)),i<=l.length->l.length<F+i->ch.length=l.length->On ch->(out.length:Int)<most->
 SC Tryz.prog 146 [aa i,.ip [ah 3 c ao],.ip [ah 2 l aB],.ptr 3 0,.ip [.a (.fn (.yield lc.id) [] [])],.ptr 5 0] (TD c l lc most true out ch) [2] (λr S'=>r=au (fP c l most F i ch out).1/\S'=TD c l lc most (fP c l most F i ch out).1 (fP c l most F i ch out).2 ch)
 | 0,i,ch,out,h1,h2,_,_,_=>by omega
 | F+1,i,ch,out,hi,hF,hch,hop,hout=>by
  have ih:=Bj c l lc most hcd hln hlp hc hl hlen hl0 hm F;have h0:ch≠[]:=λe=>hl0 (List.length_eq_zero_iff.1 (by rw[<-hch,e];rfl));have hcl:=aL (enc:=aw aa) (e:=1) (λ_=>rfl) ch;have hal:=c9 (enc:=aw aa) (e:=1) (λ_=>rfl) ch;have hkc:=λo=>aY (enc:=aw aa) (λ_=>rfl) o ch;have hk6:=λok=>na 6 lc most ok (by decide);have hn6:∀n,Ev.names 6 (bp 2 1 n)=false:=λn=>cw (by decide);refine SC.sA (n:=60) dE Tryz.func146 rfl rfl (by decide) (W:=v6) rfl (Nat.le_of_ble_eq_true rfl) ?_;unfold TD
  refine(zs) ?_;refine aq.r0 (by rfl) (by simp only[bI,bj,ah,an,Option.bind_some,Option.map_some,↓reduceIte,Nat.reduceEqDiff,Nat.reduceAdd,Nat.reduceMul,Nat.reduceLeDiff,Nat.reduceLT,ae,ai,aN,↓lG,↓hk6,hn6,hkc,bm];first | done | rfl) ?_;refine(zC)<|(zK (E8 c l ch hc hl hlen (by omega)) (hwk:=bl.cons (.ag (bl.refl rfl)) (.cons (.sl _ _ _) (.cons (.buf rfl (by rw[hal];exact bl.refl (aA (λ_=>rfl) ch)) (by rw[hcl];exact Nat.le_refl _)) .nil)))) ?_
  cases hfa:vM c l ch;rotate_left
  ·have hN:fP c l most (F+1) i ch out=(true,out):=by rw[fP,hfa];rfl
   refine(zR)<|(cM) ?_
   rw[hN];refine aq.fg (st':=⟨(7,au true)::v6,60,TD c l lc most true out ch,[]⟩) (bK (n2 @TD.eq_1 @bm.eq_1)) ?_;refine aq.ret ?_
   (try simp only[fG,dH,cB,bX])
   exact⟨rfl,⟨[au true],by rfl,rfl,rfl⟩,Nat.le_refl _,(by rintro(_ | _ | _ | _ | _ | _ | i) hi2 hm2<;>first | rfl | (exfalso;omega) | (exfalso;simp only[List.length_cons,List.length_nil] at hi2;omega) | exact t7 (by simp) hm2)⟩
  refine(zR)<|(zN) ?_
  (repeat refine aq.seq ?_)
  refine aq.block (aq.loop (λm st=>∃k:Nat,(i<=k/\k<=l.length)/\ov ch k=ov ch i/\l.length-k=m/\st=⟨(c6 c l lc),60,[cN lc most true,.cells [bp 2 1 out.length],sw out,.cells [.buf 4 ch.length 1 (some ch.length)],.cells (ch.flatMap (aw aa)),.cells [bm c l lc],.cells [aa k]],[]⟩) (l.length-i) (bK @bm.eq_1) ⟨i,⟨Nat.le_refl _,hi⟩,rfl,rfl,rfl⟩ (by rintro m st ⟨k,_,_,_,rfl⟩;rfl) ?_);rintro m st ⟨k,⟨hik,hk⟩,hsk,rfl,rfl⟩;by_cases hlt:k<l.length
  ·have hkl:k<ch.length:=by omega
   obtain⟨n,hn⟩:∃n,ch[k]?=some n:=⟨ch[k],List.getElem?_eq_getElem hkl⟩
   have hcell:(ch.flatMap (aw aa))[k]?=some (aa n):=by
    have h1:((ch.flatMap (aw aa)).drop (k*1)).take 1=[aa n]:=aH (e:=1) (enc:=aw aa) (λ_=>rfl) hn;have h2:=congrArg (λl=>l[0]?) h1;simp only[List.getElem?_take,List.getElem?_drop,Nat.add_zero,Nat.mul_one] at h2;exact h2
   cases g:decide (0<=n);rotate_left
   ·refine(az (n5 (show decide ((k:Int)<(l.length:Int))=true by simp only[wp];omega) hkl hcell @Nat.mul_one g))<|(gh)<|(az (qA (show -9223372036854775808<=(k:Int)+1/\(k:Int)+1<=9223372036854775807 from⟨by omega,by omega⟩))) ?_;exact⟨l.length-(k+1),_,by omega,(bK @bm.eq_1),k+1,⟨by omega,by omega⟩,by rw[<-hsk,NQ hn (ww g)],rfl,rfl⟩
   have hk2:ov ch i=k:=by rw[<-hsk,NP hn (wt g)]
   obtain⟨r,hr⟩:∃r,l[k]?=some r:=⟨l[k],List.getElem?_eq_getElem hlt⟩
   have hN:fP c l most (F+1) i ch out=tv (λn out=>fP c l most F (k+1) (ch.set k n) out) (bD r).toNat 0 out:=by rw[fP,hfa,ul (by decide),hk2,hr]
   refine(az (n5 (show decide ((k:Int)<(l.length:Int))=true by simp only[wp];omega) hkl hcell @Nat.mul_one g))<|(eN) ?_
   (try change aq _ _ _ _ _)
   refine(az (show decide ((k:Int)=(l.length:Int))=false by simp only[wd];omega))<|(zN) ?_
   have hn1:n = -1:=hop n (List.mem_of_getElem? hn) (by have:=wt g;omega)
   have hch0:ch.set k (-1)=ch:=by
    apply List.ext_getElem?;intro j;by_cases hj:k=j
    ·subst hj;rw[List.getElem?_set_self hkl,hn,hn1]
    ·rw[List.getElem?_set_ne hj]
   have hset:∀x y:Int,((ch.set k x).flatMap (aw aa)).take k++(aa y::((ch.set k x).flatMap (aw aa)).drop (k+1))=(ch.set k y).flatMap (aw aa):=by
    intro x y;have hs:=kS (enc:=aw aa) (e:=1) (λ_=>rfl) (l:=ch.set k x) (i:=k) y (by rw[List.length_set];exact hkl);rw[show aw aa y=[aa y] from rfl,List.cons_append,List.nil_append,Nat.mul_one,List.set_set] at hs;exact hs
   have hcl2:∀x:Int,((ch.set k x).flatMap (aw aa)).length=ch.length:=λx=>by rw[aL (enc:=aw aa) (e:=1) (λ_=>rfl),List.length_set,Nat.mul_one]
   have hkc2:=λ(x:Int) (o:Nat)=>aY (enc:=aw aa) (λ_=>rfl) o (ch.set k x);have hrk:eh r:=hl r (List.mem_of_getElem? hr);have hr1:=hrk.len;have hcr:=sU r;rw[hN];generalize hG:(λ(n:Nat) out=>fP c l most F (k+1) (ch.set k (n:Int)) out)=G;generalize hFin:tv G (bD r).toNat 0 out=fin;refine(zC) ?_;refine aG.defer (by rfl) rfl rfl (by rfl) (by decide) rfl rfl rfl (by rfl) λa ha=>?_;change aG _ _ _ _ ⟨(7000000,_)::_,_,_,_⟩ _;refine(zR) ?_
   have hret:∀x:Int,UA Tryz.prog Tryz.f146 6 [2] (λr S'=>r=au fin.1/\S'=[cN lc most fin.1,.cells [bp 2 1 fin.2.length],sw fin.2,.cells [.buf 4 ch.length 1 (some ch.length)],.cells (ch.flatMap (aw aa)),.cells [bm c l lc]]) .ret ⟨[(7,au fin.1),(1000000,.ptr 0 0),(1000001,.ptr 1 0),(1000003,.ptr 3 0),(1000004,.ptr 4 0),(1000005,.ptr 5 0),(7000000,.fn 150 [] [.ptr 3 0,.ptr 6 0])],60,[cN lc most fin.1,.cells [bp 2 1 fin.2.length],sw fin.2,.cells [.buf 4 ch.length 1 (some ch.length)],.cells ((ch.set k x).flatMap (aw aa)),.cells [bm c l lc],.cells [aa k]],[a]⟩:=by
    intro x;refine⟨rfl,((7,au fin.1)::v5),by simp only[si,aO,Nat.reduceEqDiff,↓reduceIte,and_self],rfl,.inr ⟨150,[],[.ptr 3 0,.ptr 6 0],_,_,5,ha,rfl,Tryz.func150,rfl,rfl,by decide,?_⟩⟩;refine aq.post ?_;change aq _ _ _ ⟨[(0,.ptr 3 0),(1,.ptr 6 0),(20000007,au fin.1),(21000000,.ptr 0 0),(21000001,.ptr 1 0),(21000003,.ptr 3 0),(21000004,.ptr 4 0),(21000005,.ptr 5 0)],5,_,[]⟩ _;refine(az (n5 hkl hcl2 @Nat.mul_one (show k+1<=ch.length by omega) hset)) ?_;refine⟨⟨[(20000007,au fin.1),(21000000,.ptr 0 0),(21000001,.ptr 1 0),(21000003,.ptr 3 0),(21000004,.ptr 4 0),(21000005,.ptr 5 0)],5,[cN lc most fin.1,.cells [bp 2 1 fin.2.length],sw fin.2,.cells [.buf 4 ch.length 1 (some ch.length)],.cells (ch.flatMap (aw aa)),.cells [bm c l lc]],[]⟩,(bK (n2 @bm.eq_1 hch0)),rfl,rfl,⟨[],rfl⟩,⟨[au fin.1],by rfl,rfl,rfl⟩,Nat.le_refl _,(by rintro(_ | _ | _ | _ | _ | _ | i) hi2 hm2<;>first | rfl | (exfalso;omega) | (exfalso;simp only[List.length_cons,List.length_nil] at hi2;omega) | exact t7 (by simp) hm2)⟩
   refine(iC (n3 hlt (aH (e:=2) (enc:=aB) (λ_=>rfl) hr) @aB.eq_1))<|(zK (iM r hrk))<|(zR) ?_
   rw[show(ch.flatMap (aw aa))=((ch.set k (-1)).flatMap (aw aa)) by rw[hch0]]
   (repeat refine aq.seq ?_)
   refine aq.block (aq.loop (λm st=>∃(nn:Nat) (x:Int) (o:List (List Int)),(nn<=(bD r).toNat/\tv G ((bD r).toNat-nn) nn o=fin/\(o.length:Int)<most)/\(bD r).toNat-nn=m/\st=⟨[(46,aa (bD r)),(47,aa nn),(1,.ip [ah 3 c ao]),(2,.ip [ah 2 l aB]),(3,.ptr 3 0),(4,.ip [.a (.fn (.yield lc.id) [] [])]),(5,.ptr 5 0),(6,.ptr 6 0),(1000000,.ptr 0 0),(1000001,.ptr 1 0),(1000003,.ptr 3 0),(1000004,.ptr 4 0),(1000005,.ptr 5 0),(7000000,.fn 150 [] [.ptr 3 0,.ptr 6 0])],60,[cN lc most true,.cells [bp 2 1 o.length],sw o,.cells [.buf 4 ch.length 1 (some ch.length)],.cells ((ch.set k x).flatMap (aw aa)),.cells [bm c l lc],.cells [aa k]],[a]⟩) ((bD r).toNat) (bK @bm.eq_1) ⟨0,-1,out,⟨Nat.zero_le _,hFin,hout⟩,rfl,rfl⟩ (by rintro m st ⟨_,_,_,_,_,rfl⟩;rfl) ?_);rintro m st ⟨nn,x,o,⟨hnn,htr,ho⟩,rfl,rfl⟩;by_cases hC:(nn:Int)<bD r
   ·obtain⟨s,hs⟩:∃s,(bD r).toNat-nn=s+1:=⟨(bD r).toNat-nn-1,by omega⟩;rw[hs,tv] at htr
    refine(az (show decide ((nn:Int)<bD r)=true from ut hC))<|(gh)<|(zV)<|(az (n5 hkl hcl2 @Nat.mul_one (show k+1<=ch.length by omega) hset)) ?_
    have hi:=ih (k+1) (ch.set k (nn:Int)) o (by omega) (by omega) (by rw[List.length_set];exact hch) (λy hy hy0=>(List.mem_or_eq_of_mem_set hy).elim (λh=>hop y h hy0) (λh=>by omega)) ho;unfold TD at hi
    have hGn:fP c l most F (k+1) (ch.set k (nn:Int)) o=G nn o:=by rw[<-hG]
    rw[List.length_set,hGn] at hi
    have hqlt:(G nn o).1=true->((G nn o).2.length:Int)<most:=by rw[<-hGn];exact z7 F _ _ _ ho
    generalize G nn o=q at hi htr hqlt;have hrc:∀(r:Nat->Nat) (x:Int),lr r ((ch.set k x).flatMap (aw aa))=(ch.set k x).flatMap (aw aa):=λr x=>bg (aA (λ_=>rfl) _);have hbc:∀(B:Nat) (x:Int),gC B ((ch.set k x).flatMap (aw aa))=true:=λB x=>bF (aA (λ_=>rfl) _);refine(iC (n2 @bm.eq_1 (qA (show -9223372036854775808<=(k:Int)+1/\(k:Int)+1<=9223372036854775807 from⟨by omega,by omega⟩)))) ?_;rw[show((k+1:Nat):Int)=(k:Int)+1 by omega] at hi;have hrl:∀(B:Nat) (ok:Bool),nM (jH [0,1,2,3,4,5] B) (cN lc most ok)=cN lc most ok:=λB ok=>AS _ lc most ok rfl;have hbl:∀ok:Bool,kD 6 (cN lc most ok)=true:=λok=>vC 6 lc most ok (by decide);have hrn:∀(B n:Nat),fY (jH [0,1,2,3,4,5] B) (bp 2 1 n)=bp 2 1 n:=λB n=>eg _ 2 1 n
    have hbn:∀n:Nat,dG 6 (bp 2 1 n)=true:=λn=>by
     unfold bp;split
     ·exact fN rfl
     ·rfl
    refine aG.sk [0,1,2,3,4,5] (by rfl) rfl rfl (by rfl) rfl (IY @bm.eq_1) (hi) (by simp only[eM,bj,ah,↓reduceIte,Nat.reduceEqDiff,Nat.reduceAdd,Nat.reduceSub,Nat.reduceMul,Nat.reduceLeDiff,Nat.reduceLT,hrc,hbc,↓jz,↓gi,bm,↓hrl,↓hbl,↓hrn,↓hbn];first | done | rfl) rfl (by decide) (by simp only[vW,eM,bj,ah,hrc,hbc,↓jz,↓gi,bm,↓hrl,↓hbl,↓hrn,↓hbn]<;>(repeat' apply And.intro)<;>first | trivial | rfl | (intro hh;cases hh)) (by simp only[BU,eM,bj,ah,Nat.reduceAdd,Nat.reduceLT,decide_true,hrc,hbc,↓jz,↓gi,bm,↓hrl,↓hbl,↓hrn,↓hbn];first | done | rfl) (by simp only[BU,eM,bj,ah,Nat.reduceAdd,Nat.reduceLT,decide_true,hrc,hbc,↓jz,↓gi,bm,↓hrl,↓hbl,↓hrn,↓hbn];first | done | rfl) (by simp only[eM,bj,ah,↓reduceIte,Nat.reduceEqDiff,Nat.reduceAdd,Nat.reduceSub,Nat.reduceMul,Nat.reduceLeDiff,Nat.reduceLT,hrc,hbc,↓jz,↓gi,bm,↓hrl,↓hbl,↓hrn,↓hbn];first | done | rfl) (by simp only[eM,bj,ah,↓reduceIte,Nat.reduceEqDiff,Nat.reduceAdd,Nat.reduceSub,Nat.reduceMul,Nat.reduceLeDiff,Nat.reduceLT,hrc,hbc,↓jz,↓gi,bm,↓hrl,↓hbl,↓hrn,↓hbn,di,dx,bO,aM,bI];first | done | rfl) (by simp only[eM,bj,ah,↓reduceIte,Nat.reduceEqDiff,Nat.reduceAdd,Nat.reduceSub,Nat.reduceMul,Nat.reduceLeDiff,Nat.reduceLT,hrc,hbc,↓jz,↓gi,bm,↓hrl,↓hbl,↓hrn,↓hbn,di,dx,bO,aM,bI];first | done | rfl) ?_;refine(zR) ?_;cases hq1:q.1;rotate_left
    ·rw[hq1,t8 rfl] at htr
     refine(zN)<|(az (qA (show -9223372036854775808<=(nn:Int)+1/\(nn:Int)+1<=9223372036854775807 from⟨by omega,by omega⟩))) ?_;exact⟨(bD r).toNat-(nn+1),_,by omega,(bK @bm.eq_1),nn+1,(nn:Int),q.2,⟨by omega,by rw[show(bD r).toNat-(nn+1)=s by omega];exact htr,hqlt hq1⟩,rfl,rfl⟩
    ·rw[hq1,ul (by decide)] at htr;subst htr;refine(cM) ?_;refine aq.fg (st':=⟨[(7,au false),(1000000,.ptr 0 0),(1000001,.ptr 1 0),(1000003,.ptr 3 0),(1000004,.ptr 4 0),(1000005,.ptr 5 0),(7000000,.fn 150 [] [.ptr 3 0,.ptr 6 0])],60,[cN lc most false,.cells [bp 2 1 q.2.length],sw q.2,.cells [.buf 4 ch.length 1 (some ch.length)],.cells ((ch.set k (nn:Int)).flatMap (aw aa)),.cells [bm c l lc],.cells [aa k]],[a]⟩) (bK @bm.eq_1) ?_;refine aq.ret ?_
     (try simp only[fG,dH,cB,bX])
     rw[hch0];exact hret nn
   ·refine(az (show decide ((nn:Int)<bD r)=false from un hC))<|(eN) ?_
    (try change aq _ _ _ _ _)
    rw[show(bD r).toNat-nn=0 by omega,tv] at htr;refine(zV) ?_;subst htr;refine aq.fg (st':=⟨[(7,au true),(1000000,.ptr 0 0),(1000001,.ptr 1 0),(1000003,.ptr 3 0),(1000004,.ptr 4 0),(1000005,.ptr 5 0),(7000000,.fn 150 [] [.ptr 3 0,.ptr 6 0])],60,[cN lc most true,.cells [bp 2 1 o.length],sw o,.cells [.buf 4 ch.length 1 (some ch.length)],.cells ((ch.set k x).flatMap (aw aa)),.cells [bm c l lc],.cells [aa k]],[a]⟩) (bK @bm.eq_1) ?_;refine aq.ret ?_
    (try simp only[fG,dH,cB,bX])
    rw[hch0];exact hret x
  obtain rfl:k=l.length:=by omega
  have hk2:ov ch i=l.length:=by rw[<-hsk,NO (by omega)]
  have hN:fP c l most (F+1) i ch out=if QY c l ch=true then (!(decide ((out.length:Int)+1=most)),out++[ch]) else (true,out):=by rw[fP,hfa,ul (by decide),hk2,List.getElem?_eq_none (Nat.le_refl _)]
  refine(az (show decide ((l.length:Int)<(l.length:Int))=false by simp))<|(eN) ?_
  (try change aq _ _ _ _ _)
  refine(az (show decide ((l.length:Int)=(l.length:Int))=true by simp))<|(zY) ?_
  (repeat refine aq.seq ?_)
  have hv0:∀(i:Nat) (v:SV),vo (λ_=>False) i v=.any:=λi v=>rF λh=>h;have hv9:∀(i:Nat),i<9->∀v:SV,vo (λj=>j<9) i v=v:=λi h v=>dh h;cases hb:QY c l ch
  ·rw[hb,ul (by decide)] at hN;refine aq.xv 9 12 (λL=>⟨(30,vo L 0 (.ag [ah 3 c ao]))::(31,vo L 1 (ah 2 l aB))::(32,vo L 2 (.buf 4 ch.length 1 (some ch.length)))::(33,vo L 3 (au false))::(34,vo L 4 (au (!false)))::(35,vo L 5 (au (!false)))::(36,vo L 6 (.a jG))::(37,vo L 7 (.a jG))::(38,vo L 8 (.a jG))::c6 c l lc,60,[cN lc most true,.cells [bp 2 1 out.length],sw out,.cells [.buf 4 ch.length 1 (some ch.length)],.cells (ch.flatMap (aw aa)),.cells [bm c l lc],.cells [aa l.length]],[]⟩) rfl (by kernel_rfl) (by rfl) (by decide) (by kernel_rfl) (bK (n2 @bm.eq_1 hv0)) (λL=>rfl) ?_ ?_
   ·rintro L i o him hC hr
    rcases i with _ | _ | _ | _ | _ | _ | _ | _ | _ | i
    rotate_right
    ·exact t7 him (by omega)
    ·cases hr.fK;refine(zR) ?_;exact(bK (n2 @bm.eq_1 @aR))
    ·cases hr.fK;refine(zR) ?_;exact(bK (n2 @bm.eq_1 @aR))
    ·cases hr.fK;refine(zR) ?_;exact(bK (n2 @bm.eq_1 @aR))
    ·cases hr.fK;have d0:L 0:=hr.dep ⟨0,.data⟩ (by simp) rfl;have d1:L 1:=hr.dep ⟨1,.data⟩ (by simp) rfl;have d2:L 2:=hr.dep ⟨2,.data⟩ (by simp) rfl;have his:=Dz c l ch hc hl hlen (by omega);rw[hb] at his;refine(zK his (hc:=IY (n3 (dR d0) (dR d1) (dR d2))) (hwk:=bl.cons (.ag (bl.refl rfl)) (.cons (.sl _ _ _) (.cons (.buf rfl (by rw[hal];exact bl.refl (aA (λ_=>rfl) ch)) (by rw[hcl];exact Nat.le_refl _)) .nil)))) ?_;refine .nil ?_;exact(bK (n5 @bm.eq_1 @aR (dR d0) (dR d1) (dR d2)))
    ·cases hr.fK;have d3:L 3:=hr.dep ⟨3,.data⟩ (by simp) rfl;refine(cK (dR d3)) ?_;exact(bK (n3 @bm.eq_1 @aR (dR d3)))
    ·cases hr.fK;have d4:L 4:=hr.dep ⟨4,.data⟩ (by simp) rfl;refine(cK (dR d4)) ?_;exact(bK (n3 @bm.eq_1 @aR (dR d4)))
    ·cases hr.fK;have d5:L 5:=hr.dep ⟨5,.guard⟩ (by simp) rfl;refine(cK (dR d5)) ?_;exact(bK (n3 @bm.eq_1 @aR (dR d5)))
    ·cases hr.fK;have d5:L 5:=hr.dep ⟨5,.guard⟩ (by simp) rfl;refine(cK (dR d5)) ?_;exact(bK (n3 @bm.eq_1 @aR (dR d5)))
    ·cases hr.fK;have d5:L 5:=hr.dep ⟨5,.guard⟩ (by simp) rfl;have d7:L 7:=hr.dep ⟨7,.data⟩ (by simp) rfl;refine(cK (n2 (dR d5) (dR d7))) ?_;exact(bK (n4 @bm.eq_1 @aR (dR d5) (dR d7)))
   ·change aG _ _ _ _ _ _;refine aG.fg (st':=⟨(35,au true)::v6,60,[cN lc most true,.cells [bp 2 1 out.length],sw out,.cells [.buf 4 ch.length 1 (some ch.length)],.cells (ch.flatMap (aw aa)),.cells [bm c l lc],.cells [aa l.length]],[]⟩) (bK (n2 @bm.eq_1 (hv9 5 (by decide)))) ?_;refine(zR) ?_;change aG _ _ _ _ _ _;refine(zR) ?_;change aG _ _ _ _ _ _;refine(zR) ?_;rw[hN];refine aq.fg (st':=⟨(7,au true)::v6,60,[cN lc most true,.cells [bp 2 1 out.length],sw out,.cells [.buf 4 ch.length 1 (some ch.length)],.cells (ch.flatMap (aw aa)),.cells [bm c l lc]],[]⟩) (bK @bm.eq_1) ?_;refine aq.ret ?_
    (try simp only[fG,dH,cB,bX])
    exact⟨rfl,⟨[au true],by rfl,rfl,rfl⟩,Nat.le_refl _,(by rintro(_ | _ | _ | _ | _ | _ | i) hi2 hm2<;>first | rfl | (exfalso;omega) | (exfalso;simp only[List.length_cons,List.length_nil] at hi2;omega) | exact t7 (by simp) hm2)⟩
  ·rw[hb,t8 rfl] at hN;refine aq.xv 9 12 (λL=>⟨(30,vo L 0 (.ag [ah 3 c ao]))::(31,vo L 1 (ah 2 l aB))::(32,vo L 2 (.buf 4 ch.length 1 (some ch.length)))::(33,vo L 3 (au true))::(34,vo L 4 (au (!true)))::(35,vo L 5 (au (!true)))::(36,vo L 6 (.a (.fn (.yield lc.id) [] [])))::(37,vo L 7 (.buf 4 ch.length 1 (some ch.length)))::(38,vo L 8 (ah 1 ch (aw aa)))::c6 c l lc,60,[cN lc most true,.cells [bp 2 1 out.length],sw out,.cells [.buf 4 ch.length 1 (some ch.length)],.cells (ch.flatMap (aw aa)),.cells [bm c l lc],.cells [aa l.length]],[]⟩) rfl (by kernel_rfl) (by rfl) (by decide) (by kernel_rfl) (bK (n2 @bm.eq_1 hv0)) (λL=>rfl) ?_ ?_
   ·rintro L i o him hC hr
    rcases i with _ | _ | _ | _ | _ | _ | _ | _ | _ | i
    rotate_right
    ·exact t7 him (by omega)
    ·cases hr.fK;refine(zR) ?_;exact(bK (n2 @bm.eq_1 @aR))
    ·cases hr.fK;refine(zR) ?_;exact(bK (n2 @bm.eq_1 @aR))
    ·cases hr.fK;refine(zR) ?_;exact(bK (n2 @bm.eq_1 @aR))
    ·cases hr.fK;have d0:L 0:=hr.dep ⟨0,.data⟩ (by simp) rfl;have d1:L 1:=hr.dep ⟨1,.data⟩ (by simp) rfl;have d2:L 2:=hr.dep ⟨2,.data⟩ (by simp) rfl;have his:=Dz c l ch hc hl hlen (by omega);rw[hb] at his;refine(zK his (hc:=IY (n3 (dR d0) (dR d1) (dR d2))) (hwk:=bl.cons (.ag (bl.refl rfl)) (.cons (.sl _ _ _) (.cons (.buf rfl (by rw[hal];exact bl.refl (aA (λ_=>rfl) ch)) (by rw[hcl];exact Nat.le_refl _)) .nil)))) ?_;refine .nil ?_;exact(bK (n5 @bm.eq_1 @aR (dR d0) (dR d1) (dR d2)))
    ·cases hr.fK;have d3:L 3:=hr.dep ⟨3,.data⟩ (by simp) rfl;refine(cK (dR d3)) ?_;exact(bK (n3 @bm.eq_1 @aR (dR d3)))
    ·cases hr.fK;have d4:L 4:=hr.dep ⟨4,.data⟩ (by simp) rfl;refine(cK (dR d4)) ?_;exact(bK (n3 @bm.eq_1 @aR (dR d4)))
    ·cases hr.fK;have d5:L 5:=hr.dep ⟨5,.guard⟩ (by simp) rfl;refine(cK (dR d5)) ?_;exact(bK (n3 @bm.eq_1 @aR (dR d5)))
    ·cases hr.fK;have d5:L 5:=hr.dep ⟨5,.guard⟩ (by simp) rfl;refine(cK (dR d5)) ?_;exact(bK (n3 @bm.eq_1 @aR (dR d5)))
    ·cases hr.fK;have d5:L 5:=hr.dep ⟨5,.guard⟩ (by simp) rfl;have d7:L 7:=hr.dep ⟨7,.data⟩ (by simp) rfl;have hn8:¬L 8:=hr.new;have hrc0:∀r:Nat->Nat,lr r (ch.flatMap (aw aa))=ch.flatMap (aw aa):=λr=>bg (aA (λ_=>rfl) _);have hbc0:∀B:Nat,gC B (ch.flatMap (aw aa))=true:=λB=>bF (aA (λ_=>rfl) _);have hkl7:=λok=>na 7 lc most ok (by decide);have hn7:∀n,Ev.names 7 (bp 2 1 n)=false:=λn=>cw (by decide);have hcp:=E6 ch h0 (by omega) (some ch.length);refine aG.fg (st':=⟨(30,vo L 0 (.ag [ah 3 c ao]))::(31,vo L 1 (ah 2 l aB))::(32,vo L 2 (.buf 4 ch.length 1 (some ch.length)))::(33,vo L 3 (au true))::(34,vo L 4 (au (!true)))::(35,au false)::(36,vo L 6 (.a (.fn (.yield lc.id) [] [])))::(37,(.buf 4 ch.length 1 (some ch.length)))::c6 c l lc,60,[cN lc most true,.cells [bp 2 1 out.length],sw out,.cells [.buf 4 ch.length 1 (some ch.length)],.cells (ch.flatMap (aw aa)),.cells [bm c l lc],.cells [aa l.length]],[]⟩) (bK (n3 @bm.eq_1 (dR d5) (dR d7))) ?_;refine aG.sk [4] (by rfl) rfl rfl (by rfl) rfl (IY @ah.eq_1) (hcp) (by simp only[eM,bj,ah,↓reduceIte,Nat.reduceEqDiff,Nat.reduceAdd,Nat.reduceSub,Nat.reduceMul,Nat.reduceLeDiff,Nat.reduceLT,hrc0,hbc0,cq,↓lG,↓hkl7,hn7,bm,hkc,List.length_nil,List.flatMap_nil];first | done | rfl) rfl (by decide) (by simp only[vW,eM,bj,ah,hrc0,hbc0,cq,↓lG,↓hkl7,hn7,bm,hkc,List.length_nil,List.flatMap_nil]<;>(repeat' apply And.intro)<;>first | trivial | rfl | (intro hh;cases hh)) (by simp only[BU,eM,bj,ah,Nat.reduceAdd,Nat.reduceLT,decide_true,hrc0,hbc0,cq,↓lG,↓hkl7,hn7,bm,hkc,List.length_nil,List.flatMap_nil];first | done | rfl) (by simp only[BU,eM,bj,ah,Nat.reduceAdd,Nat.reduceLT,decide_true,hrc0,hbc0,cq,↓lG,↓hkl7,hn7,bm,hkc,List.length_nil,List.flatMap_nil];first | done | rfl) (by simp only[eM,bj,ah,↓reduceIte,Nat.reduceEqDiff,Nat.reduceAdd,Nat.reduceSub,Nat.reduceMul,Nat.reduceLeDiff,Nat.reduceLT,hrc0,hbc0,cq,↓lG,↓hkl7,hn7,bm,hkc,List.length_nil,List.flatMap_nil];first | done | rfl) (by simp only[eM,bj,ah,↓reduceIte,Nat.reduceEqDiff,Nat.reduceAdd,Nat.reduceSub,Nat.reduceMul,Nat.reduceLeDiff,Nat.reduceLT,hrc0,hbc0,cq,↓lG,↓hkl7,hn7,bm,hkc,List.length_nil,List.flatMap_nil,di,dx,bO,aM,bI];first | done | rfl) (by simp only[eM,bj,ah,↓reduceIte,Nat.reduceEqDiff,Nat.reduceAdd,Nat.reduceSub,Nat.reduceMul,Nat.reduceLeDiff,Nat.reduceLT,hrc0,hbc0,cq,↓lG,↓hkl7,hn7,bm,hkc,List.length_nil,List.flatMap_nil,di,dx,bO,aM,bI];first | done | rfl) ?_;refine .nil ?_;refine Fg.trans (Fg.freeze (f':=(38,ah 1 ch (aw aa))::(30,vo L 0 (.ag [ah 3 c ao]))::(31,vo L 1 (ah 2 l aB))::(32,vo L 2 (.buf 4 ch.length 1 (some ch.length)))::(33,vo L 3 (au true))::(34,vo L 4 (au (!true)))::(35,au false)::(36,vo L 6 (.a (.fn (.yield lc.id) [] [])))::(37,(.buf 4 ch.length 1 (some ch.length)))::c6 c l lc) 7 rfl (λh=>by cases h) ⟨.inr (by rw[ny 1 ch (aw aa)];exact .buf rfl (by rw[hal];exact bl.refl (aA (λ_=>rfl) ch)) (by rw[hcl];exact Nat.le_refl _)),.inl rfl,.inl rfl,.inl rfl,.inl rfl,.inl rfl,.inl rfl,.inl rfl,.inl rfl,.inl rfl,.inl rfl,.inl rfl,.inl rfl,.inl rfl,.inl rfl,.inl rfl,.inl rfl,.inl rfl,.inl rfl,.inl rfl,.inl rfl,trivial⟩) (bK (n4 @bm.eq_1 @aR (dR d5) (dR d7)))
   ·change aG _ _ _ _ _ _;refine aG.fg (st':=⟨(35,au false)::(36,.a (.fn (.yield lc.id) [] []))::(38,ah 1 ch (aw aa))::v6,60,[cN lc most true,.cells [bp 2 1 out.length],sw out,.cells [.buf 4 ch.length 1 (some ch.length)],.cells (ch.flatMap (aw aa)),.cells [bm c l lc],.cells [aa l.length]],[]⟩) (bK (n4 @bm.eq_1 (hv9 5 (by decide)) (hv9 6 (by decide)) (hv9 8 (by decide)))) ?_;refine aG.y (vs:=[ah 1 ch (aw aa)]) (oo:=0) (by rfl) rfl rfl (by rfl) rfl rfl rfl (by rfl) rfl (by rw[hlp];rfl) (by rw[hln];rfl) (by rw[hln];decide) (by rw[hlp,hln];rfl) λro'=>?_;have hcd2:=hcd;unfold tG at hcd2;rw[Tryz.func53] at hcd2;have hcd3:=Option.some.inj (hcd2.symm.trans (by rfl));obtain⟨ha,hbb⟩:=Prod.mk.inj hcd3;rw[ha,hlp,hln];change aq _ _ _ ⟨[(26,ah 1 ch (aw aa)),(5,.ip [aa most]),(9,.ptr 1 0),(20000035,au false),(20000036,.a (.fn (.yield lc.id) [] [])),(20000038,ah 1 ch (aw aa)),(21000000,.ptr 0 0),(21000001,.ptr 1 0),(21000002,.ptr 2 0),(21000003,.ptr 3 0),(21000004,.ptr 4 0),(21000005,.ptr 5 0)],39,[cN lc most true,.cells [bp 2 1 out.length],sw out,.cells [.buf 4 ch.length 1 (some ch.length)],.cells (ch.flatMap (aw aa)),.cells [bm c l lc],.cells [aa l.length]],[]⟩ _;refine(zV) ?_;refine⟨rfl,0,none,[(5,.ip [aa most]),(9,.ptr 1 0)],rfl,?_⟩;rw[hbb];refine(zB) ?_;change aq _ _ _ ⟨_,39,[.loop lc .busy none [(5,.ip [aa most]),(9,.ptr 1 0)],.cells [bp 2 1 out.length],sw out,.cells [.buf 4 ch.length 1 (some ch.length)],.cells (ch.flatMap (aw aa)),.cells [bm c l lc],.cells [aa l.length]],[]⟩ _;have hrc0:∀r:Nat->Nat,lr r (ch.flatMap (aw aa))=ch.flatMap (aw aa):=λr=>bg (aA (λ_=>rfl) _);by_cases ho:out=[]
    ·subst ho;have e1:bp 2 1 [ch].length=.buf 2 1 1 none:=rfl;have e2:sw [ch]=.cells (fZ ch):=rfl;rw[EA,show bp 2 1 ([]:List (List Int)).length=cI from rfl];refine(az (n2 hkc @bm.eq_1)) ?_;cases hmo:decide ((1:Int)=most)
     ·have hN:fP c l most (F+1) i ch []=(true,[]++[ch]):=by rw[hN];show(!(decide ((0:Int)+1=most)),_)=_;rw[show((0:Int)+1)=1 from rfl,hmo];rfl
      refine(az (show decide (((1:Nat):Int)=most)=false from hmo))<|(zN) ?_;refine⟨rfl,0,.busy,none,[(5,.ip [aa most]),(9,.ptr 1 0)],rfl,?_⟩
      simp only[vp,laid,Nat.reduceLeDiff,Nat.reduceSub,↓reduceIte];refine aG.fg (st':=⟨(39,au true)::(35,au false)::v5,60,[cN lc most true,.cells [.buf 2 1 1 none],.cells (fZ ch),.cells [.buf 4 ch.length 1 (some ch.length)],.cells (ch.flatMap (aw aa)),.cells [bm c l lc],.cells [aa l.length]],[]⟩) (Fg.rn (f':=(39,au true)::(35,au false)::v5) (n:=60) (S':=[cN lc most true,.cells [.buf 2 1 1 none],.cells (fZ ch),.cells [.buf 4 ch.length 1 (some ch.length)],.cells (ch.flatMap (aw aa)),.cells [bm c l lc],.cells [aa l.length]]) [0,1,8,3,4,5,6] (by decide) rfl (I0 (n8 @cN.eq_1 @bm.eq_1 hrc0 @fZ.eq_1 @vK.eq_1 @vI.eq_1 @vJ.eq_1 @vp.eq_1)) (I1 (n8 @cN.eq_1 @bm.eq_1 hrc0 @fZ.eq_1 @vK.eq_1 @vI.eq_1 @vJ.eq_1 @vp.eq_1))) ?_;refine .nil ?_;change aG _ _ _ _ _ _;refine(zR) ?_;change aG _ _ _ _ _ _;refine(zR) ?_;rw[hN];simp only[List.nil_append,e1,e2];refine aq.fg (st':=⟨(7,au true)::v5,60,[cN lc most true,.cells [.buf 2 1 1 none],.cells (fZ ch),.cells [.buf 4 ch.length 1 (some ch.length)],.cells (ch.flatMap (aw aa)),.cells [bm c l lc]],[]⟩) (bK @bm.eq_1) ?_;refine aq.ret ?_
      (try simp only[fG,dH,cB,bX])
      exact⟨rfl,⟨[au true],by rfl,rfl,rfl⟩,Nat.le_refl _,(by rintro(_ | _ | _ | _ | _ | _ | i) hi2 hm2<;>first | rfl | (exfalso;omega) | (exfalso;simp only[List.length_cons,List.length_nil] at hi2;omega) | exact t7 (by simp) hm2)⟩
     ·have hN:fP c l most (F+1) i ch []=(false,[]++[ch]):=by rw[hN];show(!(decide ((0:Int)+1=most)),_)=_;rw[show((0:Int)+1)=1 from rfl,hmo];rfl
      refine(az (show decide (((1:Nat):Int)=most)=true from hmo)) ?_
      (repeat refine aq.seq ?_)
      refine aq.yes rfl ?_;refine aq.exit ?_;refine⟨rfl,0,.busy,none,[(5,.ip [aa most]),(9,.ptr 1 0)],rfl,?_⟩;simp only[vp,laid,Nat.reduceLeDiff,Nat.reduceSub,↓reduceIte];refine aG.fg (st':=⟨(39,au false)::(35,au false)::v5,60,[cN lc most false,.cells [.buf 2 1 1 none],.cells (fZ ch),.cells [.buf 4 ch.length 1 (some ch.length)],.cells (ch.flatMap (aw aa)),.cells [bm c l lc],.cells [aa l.length]],[]⟩) (Fg.rn (f':=(39,au false)::(35,au false)::v5) (n:=60) (S':=[cN lc most false,.cells [.buf 2 1 1 none],.cells (fZ ch),.cells [.buf 4 ch.length 1 (some ch.length)],.cells (ch.flatMap (aw aa)),.cells [bm c l lc],.cells [aa l.length]]) [0,1,8,3,4,5,6] (by decide) rfl (I0 (n8 @cN.eq_1 @bm.eq_1 hrc0 @fZ.eq_1 @vK.eq_1 @vI.eq_1 @vJ.eq_1 @vp.eq_1)) (I1 (n8 @cN.eq_1 @bm.eq_1 hrc0 @fZ.eq_1 @vK.eq_1 @vI.eq_1 @vJ.eq_1 @vp.eq_1))) ?_;refine .nil ?_;change aG _ _ _ _ _ _;refine(zR) ?_;change aG _ _ _ _ _ _;refine(zR) ?_;rw[hN];simp only[List.nil_append,e1,e2];refine aq.fg (st':=⟨(7,au false)::v5,60,[cN lc most false,.cells [.buf 2 1 1 none],.cells (fZ ch),.cells [.buf 4 ch.length 1 (some ch.length)],.cells (ch.flatMap (aw aa)),.cells [bm c l lc]],[]⟩) (bK @bm.eq_1) ?_;refine aq.ret ?_
      (try simp only[fG,dH,cB,bX])
      exact⟨rfl,⟨[au false],by rfl,rfl,rfl⟩,Nat.le_refl _,(by rintro(_ | _ | _ | _ | _ | _ | i) hi2 hm2<;>first | rfl | (exfalso;omega) | (exfalso;simp only[List.length_cons,List.length_nil] at hi2;omega) | exact t7 (by simp) hm2)⟩
    ·have hk1:¬out.length=0:=λh=>ho (List.length_eq_zero_iff.1 h)
     have e1:bp 2 1 (out++[ch]).length=.buf 2 (out.length+1) 1 none:=by rw[List.length_append];exact bU (by simp)
     have e2:sw (out++[ch])=.cells ((out++[ch]).flatMap fZ):=PO (by simp);have hcl3:=aL rN out;have hkc3:=λo=>aY mH o out;have happ:=en rN mH 2 out ch;rw[show fZ ch=[ah 1 ch (aw aa)] from rfl,Nat.mul_one] at happ;simp only[ah] at happ;rw[PO ho,bU hk1];rw[Nat.mul_one] at hcl3;refine(az (n8 hkc hkc3 @bm.eq_1 hcl3 @Nat.mul_one (show out.length<=1000000 by omega) @Nat.le_refl happ)) ?_;cases hmo:decide ((out.length:Int)+1=most)
     ·have hN:fP c l most (F+1) i ch out=(true,out++[ch]):=by rw[hN,hmo];rfl
      refine(az (n2 hmo @dI))<|(zN) ?_;refine⟨rfl,0,.busy,none,[(5,.ip [aa most]),(9,.ptr 1 0)],rfl,?_⟩
      simp only[vp,laid,Nat.reduceLeDiff,Nat.reduceSub,↓reduceIte];refine aG.fg (st':=⟨(39,au true)::(35,au false)::v5,60,[cN lc most true,.cells [.buf 2 (out.length+1) 1 none],.cells ((out++[ch]).flatMap fZ),.cells [.buf 4 ch.length 1 (some ch.length)],.cells (ch.flatMap (aw aa)),.cells [bm c l lc],.cells [aa l.length]],[]⟩) (bK (n6 @bm.eq_1 @cN.eq_1 @vp.eq_1 @vK.eq_1 @vI.eq_1 @vJ.eq_1)) ?_;refine .nil ?_;change aG _ _ _ _ _ _;refine(zR) ?_;change aG _ _ _ _ _ _;refine(zR) ?_;rw[hN];simp only[e1,e2];refine aq.fg (st':=⟨(7,au true)::v5,60,[cN lc most true,.cells [.buf 2 (out.length+1) 1 none],.cells ((out++[ch]).flatMap fZ),.cells [.buf 4 ch.length 1 (some ch.length)],.cells (ch.flatMap (aw aa)),.cells [bm c l lc]],[]⟩) (bK @bm.eq_1) ?_;refine aq.ret ?_
      (try simp only[fG,dH,cB,bX])
      exact⟨rfl,⟨[au true],by rfl,rfl,rfl⟩,Nat.le_refl _,(by rintro(_ | _ | _ | _ | _ | _ | i) hi2 hm2<;>first | rfl | (exfalso;omega) | (exfalso;simp only[List.length_cons,List.length_nil] at hi2;omega) | exact t7 (by simp) hm2)⟩
     ·have hN:fP c l most (F+1) i ch out=(false,out++[ch]):=by rw[hN,hmo];rfl
      refine(az (n2 hmo @dI)) ?_
      (repeat refine aq.seq ?_)
      refine aq.yes rfl ?_;refine aq.exit ?_;refine⟨rfl,0,.busy,none,[(5,.ip [aa most]),(9,.ptr 1 0)],rfl,?_⟩;simp only[vp,laid,Nat.reduceLeDiff,Nat.reduceSub,↓reduceIte];refine aG.fg (st':=⟨(39,au false)::(35,au false)::v5,60,[cN lc most false,.cells [.buf 2 (out.length+1) 1 none],.cells ((out++[ch]).flatMap fZ),.cells [.buf 4 ch.length 1 (some ch.length)],.cells (ch.flatMap (aw aa)),.cells [bm c l lc],.cells [aa l.length]],[]⟩) (bK (n6 @bm.eq_1 @cN.eq_1 @vp.eq_1 @vK.eq_1 @vI.eq_1 @vJ.eq_1)) ?_;refine .nil ?_;change aG _ _ _ _ _ _;refine(zR) ?_;change aG _ _ _ _ _ _;refine(zR) ?_;rw[hN];simp only[e1,e2];refine aq.fg (st':=⟨(7,au false)::v5,60,[cN lc most false,.cells [.buf 2 (out.length+1) 1 none],.cells ((out++[ch]).flatMap fZ),.cells [.buf 4 ch.length 1 (some ch.length)],.cells (ch.flatMap (aw aa)),.cells [bm c l lc]],[]⟩) (bK @bm.eq_1) ?_;refine aq.ret ?_
      (try simp only[fG,dH,cB,bX])
      exact⟨rfl,⟨[au false],by rfl,rfl,rfl⟩,Nat.le_refl _,(by rintro(_ | _ | _ | _ | _ | _ | i) hi2 hm2<;>first | rfl | (exfalso;omega) | (exfalso;simp only[List.length_cons,List.length_nil] at hi2;omega) | exact t7 (by simp) hm2)⟩
end Go.Proofs
