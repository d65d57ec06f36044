/- Lemmas of this claim, each with its conditions. -/
import Derived.Test.YtiihffmamighhaaGreatA4
import Derived.Test.YtiihffmamighhaaGreatA3
import Derived.Test.YtiihffmamighhaaGreatA2
import Derived.Shelf.Bits.Mul64
import Derived.Shelf.SlGeneric
import Derived.Shelf.SortM.Plain
import Derived.Shelf.SortM.SortNone
import Derived.Ground.SlgmProg
import Derived.Test.YtiihffmamighhaaGreatProg
set_option linter.all false
set_option maxHeartbeats 8000000
open Go.Proofs.Tryz (prog func135 func182 func232 func240 func274 func36 func37 func43 func91 isAgg9 sizeOf9)
open List (flatMap_cons append_nil take_zero flatMap_nil Perm nil_append all_eq_true foldl_nil cons_append mem_map range)
open Nat (ble)
open Nat renaming reduceEqDiff -> ac, le_refl -> ad, reduceLeDiff -> ap, min_eq_left -> aS, reduceAdd -> a6, reduceLT -> bs, reduceMul -> bv, reduceSub -> b8, mul_one -> b9, zero_le -> cc, zero_mul -> cn, sub_zero -> ct, pos_of_ne_zero -> c4, lt_succ_self -> dv, not_lt_zero -> d4, sub_self -> d8, succ_mul -> d9, add_comm -> er, add_zero -> ey, min_def -> e5, min_eq_right -> ga, min_self -> gb, succ_pos -> gd, lt_irrefl -> hC, zero_add -> hJ
open List renaming take_of_length_le -> af, length_take -> aj, length_map -> al, replicate -> aV, length_set -> a7, mem_of_getElem? -> a8, take_append_of_le_length -> be, take_length -> bk, flatMap_append -> bo, length_drop -> bx, drop_of_length_le -> b5, set_eq_take_append_cons_drop -> b7, append_assoc -> cd, getElem?_eq_none -> cf, getElem?_drop -> ci, getElem?_cons_succ -> cj, getD_eq_getElem?_getD -> ck, getElem?_map -> cl, all_append -> co, length_replicate -> cp, map_append -> c0, getElem?_cons_zero -> dc, drop_append_of_le_length -> dd, foldl_append -> dk, sizeOf_lt_of_mem -> dl, take_add_one -> dt, drop_zero -> dN, take_take -> d0, drop_length -> d2, flatten_nil -> d3, replicate_zero -> d6, map_cons -> d7, drop_drop -> ei, getElem?_set_self -> ej, take_append -> el, length_filter_le -> em, take_append_drop -> en, drop_succ_cons -> eF, takeWhile_cons -> e3, take_succ_cons -> e4, filter_append -> fb, getElem?_take -> fd, all_cons -> fm, ext_getElem? -> fo, flatten_cons -> fu, getElem?_set -> f0, length -> g8, drop_set -> hI
open Bool renaming and_eq_true -> bi, not_eq_true' -> cv, and_true -> hF
open And renaming intro -> b6
open Int renaming le_refl -> d5
open Array renaming getElem?_modify -> eB
open Go.Proofs.Tryz renaming func272 -> e6, underlying113 -> fl, zeroValue113 -> go, underlying9 -> gY, zeroValue9 -> g7, sizeOf113 -> hE, isAgg113 -> hK
open Option renaming toList_some -> gv
namespace Go.Proofs
open Go.Ev
set_option maxRecDepth 100000
structure fP where
 aO:List Nat
 slot:List Nat
 deriving DecidableEq
def fP.av(s:fP):List AV:=[.str s.aO,.str s.slot]
def Cr(s:fP):AV:=.agg s.av
def fP.eq(a b:fP):iM gN a.av b.av=decide (a=b):=by
 obtain⟨a1,a2⟩:=a;obtain⟨b1,b2⟩:=b;simp only[fP.av,iM,gN,nT,hF,fP.mk.injEq,Bool.decide_and]
def CX:Keys prog 225 Cr:=
 xW (ks:=[.s,.s]) zW (by simp only[az,m6]) (λ_=>rfl) fP.eq λ_=>rfl
variable{o:Nat}
def ud{S:List SO}{l:List (fP×Bool)}(a b:List Nat)(ok:Bool)(hS:S[o]?=some (bu Cr au l)):eJ prog S 222 (.map o) (.ag [ab a,ab b]) ok=some (cond ok (.bB [au (getM false (⟨a,b⟩:fP) l),au (cz (⟨a,b⟩:fP) l)]) (au (getM false (⟨a,b⟩:fP) l))):=
 Eu (uv:=au) (u0:=false) (k:=(⟨a,b⟩:fP)) (kt:=225) (et:=4) (z:=.bool false) (by simp only[az]) CX (by simp only[az]) rfl hS rfl ok
def Hy{S:List SO}{l:List (fP×Bool)}(a b:List Nat)(u:Bool)(hS:S[o]?=some (bu Cr au l)):gn prog S 222 (.map o) (.ag [ab a,ab b]) (.a (.bool u))=some (S.set o (bu Cr au (bU (⟨a,b⟩:fP) u l))):=
 Jw (uv:=au) (k:=(⟨a,b⟩:fP)) (kt:=225) (et:=4) (by simp only[az]) CX hS rfl u
def ql{n:Nat}{l:List (fP×Bool)}:cx n (bu Cr au l)=bu Cr au l:=lU λ_=>lk _
def Fo(a b:Bool):cW prog .neq 4 (.bool a) (.bool b)=some (.bool (!(a==b))):=by
 have h1:prog.eqGuardType prog.depth 4=false:=by kernel_rfl
 have h2:prog.underlying 4=some .bool:=by kernel_rfl
 have h3:mL prog 8 4 (.bool a) (.bool b)=some (a==b):=by unfold mL;rw[h2]
 show cond (prog.eqGuardType prog.depth 4) none ((mL prog 8 4 (.bool a) (.bool b)).map λb=>AV.bool (!b))=_;rw[h1,ar,h3];rfl
def mB(c:List aF)(taken:List (fP×Bool))(p:ai):Option ai->Bool
 | some h=>!(p.bI||(h.bI||(getM false ⟨p.aO,p.slot⟩ taken||!mW c h.kind p.slot p.kind)))
 | none=>false
def du(c:List aF)(ps:List ai)(m:List (List Nat×Int)):List (fP×Bool)->List ai->Bool
 | _,[]=>true
 | taken,p::r=>dm c p&&((decide (p.aO=[])==decide (p.slot=[]))&&cond (decide (p.aO=[])) (du c ps m taken r) (mB c taken p (re ps m p.aO)&&du c ps m (bU ⟨p.aO,p.slot⟩ true taken) r))
def cM(c:List aF)(ps:List ai):Bool:=j9 c&&(!(decide (20000<(ps.length:Int)))&&(ec (ps.map ai.name)&&du c ps (oH 0 [] ps) [] ps))
def OE(ps:List ai):Xe ps []:=λname h=>by cases h
def Kx(c:List aF)(ps:List ai)(hc:kq c)(hlen:ps.length<=1000000)(hps:∀p∈ps,iJ p):PC prog 76 [.ag [an 3 c ao],.ag [an 14 ps ak]] (·=au (Proofs.cM c ps)):=by
 have hct:∀k∈c,k.bZ.length<=1000000/\∀s∈k.bZ,s.kinds.length<=1000000:=λk hk=>⟨(hc.kind k hk).2,λs hs=>(hc.slot k hk s hs).2⟩;have hy:Xe ps (oH 0 [] ps):=KZ gt (OE ps)
 refine pB 94 Tryz.func76 ?_;refine(lJ)<|(zK (ph c hc)) ?_
 cases h1:j9 c
 ·exact(zR)<|(cN)<|zo [.tmp 4] (hq:=by rw[Proofs.cM,h1];rfl)
 cases h2:decide (20000<(ps.length:Int));rotate_left
 ·exact(cO h2)<|(cN)<|zo [.tmp 4] (hq:=by rw[Proofs.cM,h1,h2];rfl)
 refine(Wh h2)<|(zK (Hs ps hlen)) ?_
 cases h3:ec (ps.map ai.name)
 ·exact(zR)<|(cN)<|zo [.tmp 4] (hq:=by rw[Proofs.cM,h1,h2,h3];rfl)
 refine(zR)<|(zN) ?_
 have hv:Proofs.cM c ps=du c ps (oH 0 [] ps) [] ps:=by rw[Proofs.cM,h1,h2,h3];rfl
 clear h1 h2 h3
 refine(zC)<|(zK (yv ps hlen) (hfl:=.inr zr)) ?_
 generalize hM:oH 0 [] ps=M at hv hy
 refine(cO (br @KK.eq_1 hM))<|(nP)<|(zs) ?_;refine QB ps (λk (taken:List (fP×Bool))=>du c ps M [] ps=du c ps M taken (ps.drop k)) (λk taken=>[(2,.ptr 0 0),(5,.ptr 2 0),(6,.map 3),(31,an 14 ps ak),(32,aa ps.length),(33,aa k)]) (λk taken=>[.cells [an 3 c ao],.gone,.cells [an 14 ps ak,pD AV.str aa M],bu Cr au taken]) ([]) zH ge ?_;intro k taken hk hall;refine zT ps k ?_ ?_;rintro rfl;rotate_left;intro p hx hlt;rotate_left
 ·exact(fC)<|(zV)<|zo [.tmp 4] (hq:=by rw[hv,hall,d2];rfl)
 have no:du c ps M taken (ps.drop k)=false->Proofs.cM c ps=false:=λh=>by rw[hv,hall,h]
 rw[gm hx] at no hall;have hp:=hps p (List.mem_iff_getElem?.2 ⟨k,hx⟩)
 refine(gJ)<|(aA (jB hlt (aH (e:=14) (enc:=ak) ce hx) @ak.eq_1 @ql))<|(zC)<|(zK (MQ c p hc.len hp)) ?_
 cases g1:dm c p
 ·exact(zR)<|(cN)<|zo [.tmp 4] (hq:=by rw[no (by simp[du,g1])])
 cases g2:(decide (p.aO=[])==decide (p.slot=[]))
 ·exact(cO (br @Fo g2))<|(cN)<|zo [.tmp 4] (hq:=by rw[no (by simp only[du,g1,g2,Bool.true_and,Bool.false_and])])
 refine(cO (br @Fo g2))<|(jG) ?_
 cases g3:decide (p.aO=[]);rotate_left
 ·refine(zY) ?_;refine aD.exit ?_
  (try change aD _ _ _ _ _)
  refine(aA (zi hlt hlen)) ?_;refine Fv hlt (taken) zH (show du c ps M [] ps=du c ps M taken (ps.drop (k+1)) by rw[hall,du,g1,g2,g3];rfl)
 refine(zN) ?_
 have hpv:∀r,du c ps M taken (p::r)=(mB c taken p (re ps M p.aO)&&du c ps M (bU ⟨p.aO,p.slot⟩ true taken) r):=by intro r;rw[du,g1,g2,g3];rfl
 rw[hpv] at no hall;refine(zC) ?_;have hG:=rL ps M p.aO hy
 cases hg:re ps M p.aO with
 | none=>
  rw[hg] at hG no
  exact(zK hG (hfl:=.inr zr))<|(cO (jB @qy.eq_1 @ak.eq_1 @ai.zero.eq_1 @ql))<|(aA @ql)<|(Ab)<|(zV)<|zo [.tmp 4] (hq:=by rw[no rfl])
 | some h=>
  rw[hg] at hG no hall
  refine(zK hG (hfl:=.inr zr))<|(cO (cA @qy.eq_1 @ak.eq_1 @ql))<|(aA @ql) ?_
  cases f1:p.bI;rotate_left
  ·exact(Ab)<|(zV)<|zo [.tmp 4] (hq:=by rw[no (by simp[mB,f1])])
  cases f2:h.bI;rotate_left
  ·exact(Ab)<|(zV)<|zo [.tmp 4] (hq:=by rw[no (by simp[mB,f2])])
  cases f3:getM false (⟨p.aO,p.slot⟩:fP) taken;rotate_left
  ·refine(zs) ?_;refine aD.r0 ge (by simp only[cG,bG,an,az,m7,m6,↓reduceIte,ac,a6,bv,ap,bs,ah,ar,bD,ud (l:=taken),f3];first | done | rfl) ?_;exact(cN)<|zo [.tmp 4] (hq:=by rw[no (by simp[mB,f3])])
  refine(zs) ?_;refine aD.Vc ge (by simp only[cG,bG,an,az,m7,m6,↓reduceIte,ac,a6,bv,ap,bs,ah,ar,bD,ud (l:=taken),f3];first | done | rfl) ?_;refine(zK (z8 c h.kind p.slot p.kind hc.len hct)) ?_;cases f4:Proofs.mW c h.kind p.slot p.kind
  ·exact(zR)<|(cN)<|zo [.tmp 4] (hq:=by rw[no (by simp[mB,f4])])
  refine(zR)<|(zN)<|(zs) ?_;refine aD.r0 ge (by simp only[cG,bG,an,az,m7,m6,↓reduceIte,ac,a6,bv,ap,bs,ah,ar,bD,Hy (l:=taken)];first | done | rfl) ?_;refine(aA (zi hlt hlen)) ?_;refine Fv hlt (bU ⟨p.aO,p.slot⟩ true taken) zH (show du c ps M [] ps=du c ps M (bU ⟨p.aO,p.slot⟩ true taken) (ps.drop (k+1)) by rw[hall,show mB c taken p (some h)=true by simp[mB,f1,f2,f3,f4]];rfl)
def FC(a b:Int):Int:=dJ .i64 (a+b)
def CB(a b:Int):Int:=dJ .i64 (a-b)
def PO(a:Int):Int:=dJ .i64 (0-a)
def Bf{P:Program}{t:TypeId}(a b:Int):cW P .add t (.int .i64 a) (.int .i64 b)=some (.int .i64 (FC a b)):=rfl
def r6{P:Program}{t:TypeId}(a b:Int):cW P .sub t (.int .i64 a) (.int .i64 b)=some (.int .i64 (CB a b)):=rfl
def mD(a b:Int):SV:=.ag [aa a,aa b]
def nY(a b:Int):Bool:=decide (-1000000000000<=a)&&(decide (a<=b)&&decide (b<=1000000000000))
def qI(a b:Int):PC prog 200 [mD a b] (·=au (nY a b)):=by
 refine pB 18 Tryz.func200 ?_;refine(aA @mD.eq_1) ?_;cases h1:decide (-1000000000000<=a)
 ·exact(aA h1)<|zo [.tmp 2] (hq:=by rw[nY,h1];rfl)
 cases h2:decide (a<=b)
 ·exact(aA (br h1 h2))<|zo [.tmp 2] (hq:=by rw[nY,h1,h2];rfl)
 exact(aA (br h1 h2))<|zo [.tmp 2] (hq:=by rw[nY,h1,h2];rfl)
def dI(a b:Int):Int:=if a<=b then a else b
def dM(a b:Int):Int:=if b<=a then a else b
def js(a b:Int):uE false (.int .i64 a) (.int .i64 b)=some (.int .i64 (dI a b)):=I2
def gp(a b:Int):uE true (.int .i64 a) (.int .i64 b)=some (.int .i64 (dM a b)):=I1
def Vh(n:Int):Int:=dM (-1000000000000) (dI n 1000000000000)
def sP(n:Int):PC prog 202 [aa n] (·=aa (Vh n)):=by
 refine pB 6 Tryz.func202 ?_;exact(zV)<|(aA (br @js @gp))<|zo [.tmp 2]
def iE(a b:Int):Int:=Vh (FC a b)
def Gj(a b:Int):Int:=Vh (CB a b)
def Qv(a b:Int):PC prog 139 [aa a,aa b] (·=aa (iE a b)):=by
 refine pB 9 Tryz.func139 ?_;exact(zV)<|(jH @Bf)<|(zK (sP _))<|(zR)<|zo [.tmp 4]
def MH(a b:Int):PC prog 270 [aa a,aa b] (·=aa (Gj a b)):=by
 refine pB 9 Tryz.func270 ?_;refine(zV)<|(jH @r6)<|(zK (sP _))<|(zR)<|(zE) ?_;exact ue.of (rs:=[.tmp 4]) rfl rfl zl (Wk.refl rfl) zq
def D6{f:Int->Int->Int}{r:List Int}{j:Nat}{x y:Int}(h:r[j]?=some x):(r.take (j+1)).foldl f y=f ((r.take j).foldl f y) x:=by
 rw[dt,h,gv,dk];rfl
variable{p:Prop}
def VK (h:p:=by
  refine pB 25 vae ?_;refine(zV)<|(aA (br @i7.{0} (show decide (((r.length+1:Nat):Int)<1)=false by simp only[wd];omega)))<|(zN)<|(aA (jB @i7.{0} @Nat.zero_lt_succ (aH (l:=a::r) (e:=1) (enc:=aw aa) ce (show(a::r)[0]?=some a from rfl)) @aw.eq_1))<|(zV) ?_
  (repeat refine aD.seq ?_)
  refine aD.block (aD.loop (λm st=>∃j:Nat,j<=r.length/\m=r.length-j/\st=⟨[(0,an 1 (a::r) (aw aa)),(3,aa ((r.take j).foldl vaf a)),(4,aa ((j+1:Nat):Int))],25,[],[]⟩) r.length (bK (br @List.take_zero.{0} @List.foldl_nil.{0,0})) ⟨0,Nat.zero_le _,rfl,rfl⟩ (by rintro m st ⟨j,_,_,rfl⟩;rfl) ?_);rintro m st ⟨j,hj,rfl,rfl⟩;refine(aA @i7.{0}) ?_;by_cases hlt:j<r.length;rotate_left
  ·rw[show decide (((j+1:Nat):Int)<((r.length+1:Nat):Int))=false by simp only[wd];omega]
   refine(fC)<|(zV) ?_
   obtain rfl:j=r.length:=by omega
   exact zo [.tmp 2] (hq:=by rw[List.take_length])
  rw[show decide (((j+1:Nat):Int)<((r.length+1:Nat):Int))=true by simp only[wp];omega];obtain⟨x,hx⟩:∃x,r[j]?=some x:=⟨r[j],jp hlt⟩
  refine(gJ)<|(aA (ik @i7.{0} (show j+1<r.length+1 by omega) (aH (l:=a::r) (i:=j+1) (e:=1) (enc:=aw aa) ce (show(a::r)[j+1]?=some x from hx)) @aw.eq_1 @vag))<|(zs) ?_;refine aD.r0 ge (fF (bA (((j+1:Nat):Int)) 1 gt)) ?_;exact⟨r.length-(j+1),_,by omega,(Fg.less (by (simp only[cG,bG,dU,↓reduceIte,Nat.reduceEqDiff,D6 hx])<;>(repeat' apply And.intro)<;>first | rfl | trivial) (by (simp only[cG,bG,or_true,true_or,D6 hx])<;>(repeat' apply And.intro)<;>first | exact .inr rfl | exact .inl rfl | trivial)),j+1,by omega,rfl,rfl⟩):p:=h
open Go.Proofs.Tryz renaming func229 -> vae in
open Go.Proofs renaming dI -> vaf in
def MT(a:Int)(r:List Int)(hlen:r.length<1000000):PC prog 229 [an 1 (a::r) (aw aa)] (·=aa (r.foldl dI a)):=by
 have vag:=@js;exact VK
open Go.Proofs.Tryz renaming func230 -> vae in
open Go.Proofs renaming dM -> vaf in
def MS(a:Int)(r:List Int)(hlen:r.length<1000000):PC prog 230 [an 1 (a::r) (aw aa)] (·=aa (r.foldl dM a)):=by
 have vag:=@gp;exact VK
def ze(a:Int)(r:List Int)(hlen:r.length<1000000):PC prog 201 [an 1 (a::r) (aw aa)] (·=mD (r.foldl dI a) (r.foldl dM a)):=by
 refine pB 8 Tryz.func201 ?_;exact(lJ)<|(zK (MT a r hlen))<|(zQ)<|(zK (MS a r hlen))<|(zR)<|zo [.cell 2 54]
def fq(f:Int->Int->Int)(a b c d:Int):Int×Int:=
 if nY a b&&nY c d then (dI (dI (dI (f a c) (f a d)) (f b c)) (f b d),dM (dM (dM (f a c) (f a d)) (f b c)) (f b d)) else (0,0)
def pU(p:Int×Int):SV:=mD p.1 p.2
def yq(g:FuncId)(fn:Int->Int->Int)(hg:∀x y,PC prog g [aa x,aa y] (·=aa (fn x y)))(a b c d:Int):PC prog 138 [mD a b,mD c d,.fn g [] []] (·=pU (fq fn a b c d)):=by
 refine pB 46 Tryz.func138 ?_;refine(aA @mD.eq_1)<|(zC)<|(zK (qI a b)) ?_
 cases h1:nY a b
 ·exact(zR)<|(cN)<|zo [.cell 6 54] (hq:=by rw[fq,h1];rfl)
 refine(zQ)<|(zK (qI c d)) ?_
 cases h2:nY c d
 ·exact(zR)<|(cN)<|zo [.cell 6 54] (hq:=by rw[fq,h1,h2];rfl)
 refine(zR)<|(zN)<|(zs) ?_;refine uW [0,1,0,4,0,16,0,64,3,271,831,2047] ?_;exact(zD)<|(zM)<|(zC)<|(zK (hg a c))<|(zQ)<|(zK (hg a d))<|(zQ)<|(zK (hg b c))<|(zQ)<|(zK (hg b d))<|(zQ)<|(zK (ze (fn a c) [fn a d,fn b c,fn b d] (by show 3<1000000;omega)))<|(zR)<|zo [.cell 6 54] (hq:=by rw[fq,h1,h2];rfl)
def rM(a b c d:Int):PC prog 94 [mD a b,mD c d] (·=pU (fq iE a b c d)):=by
 refine pB 8 Tryz.func94 ?_;exact(aA @mD.eq_1)<|(zC)<|(zK (yq 139 iE Qv a b c d))<|(cO (br @pU.eq_1 @mD.eq_1))<|zo [.cell 4 54]
def My(a b c d:Int):PC prog 265 [mD a b,mD c d] (·=pU (fq Gj a b c d)):=by
 refine pB 8 Tryz.func265 ?_;exact(aA @mD.eq_1)<|(zC)<|(zK (yq 270 Gj MH a b c d))<|(cO (br @pU.eq_1 @mD.eq_1))<|zo [.cell 4 54]
def np(a b c d:Int):Int×Int:=if nY a b&&nY c d then (dI (dI (dI a b) c) d,dM (dM (dM a b) c) d) else (0,0)
def pg(a b c d:Int):PC prog 269 [mD a b,mD c d] (·=pU (np a b c d)):=by
 refine pB 24 Tryz.func269 ?_;refine(aA @mD.eq_1)<|(zC)<|(zK (qI a b)) ?_
 cases h1:nY a b
 ·exact(zR)<|(cN)<|zo [.cell 4 54] (hq:=by rw[np,h1];rfl)
 refine(zQ)<|(zK (qI c d)) ?_
 cases h2:nY c d
 ·exact(zR)<|(cN)<|zo [.cell 4 54] (hq:=by rw[np,h1,h2];rfl)
 exact(zR)<|(Vy)<|(zK (ze a [b,c,d] (by show 3<1000000;omega)))<|(zR)<|zo [.cell 4 54] (hq:=by rw[np,h1,h2];rfl)
def vX(a b n:Int):Int:=if (!nY a b)||decide (b<=n) then 0 else if n<a then 2 else 1
def Kc(a b n:Int):PC prog 268 [mD a b,aa n] (·=aa (vX a b n)):=by
 refine pB 20 Tryz.func268 ?_;refine(aA @mD.eq_1)<|(zB)<|(zC)<|(zK (qI a b)) ?_
 cases h1:nY a b
 ·exact(zR)<|(cN)<|zo [.tmp 4] (hq:=by rw[vX,h1];rfl)
 cases h2:decide (b<=n);rotate_left
 ·exact(cO h2)<|(cN)<|zo [.tmp 4] (hq:=by rw[vX,h1,h2];rfl)
 refine(cO h2)<|(zN) ?_
 cases h3:decide (n<a)
 ·exact(aA h3)<|(jG)<|zo [.tmp 4] (hq:=by rw[vX,h1,h2,ul (wt h3)];rfl)
 ·exact(aA h3)<|(cN)<|zo [.tmp 4] (hq:=by rw[vX,h1,h2,t8 (ww h3)];rfl)
open Go.Ev Go.RowKit Go.Lib Go.Shelf
def Kn(x y:Nat)(hx:x<18446744073709551616)(hy:y<18446744073709551616)(w:World):
 Calls prog 274 #[.int .u64 x,.int .u64 y] w λe w'=>e=.returned (.tuple #[.int .u64 ((x*y/18446744073709551616:Nat):Int),.int .u64 ((x*y%18446744073709551616:Nat):Int)])/\w'=w:=by
 obtain⟨bd,bt,bw,hhi⟩:=Lib.mul64_hi x y hx hy;have ba:=Lib.half_mul_le (a:=x/4294967296) (b:=y/4294967296) gt gt;have bb:=Lib.half_mul_le (a:=x/4294967296) (b:=y%4294967296) gt gt;have bc:=Lib.half_mul_le (a:=x%4294967296) (b:=y/4294967296) gt gt
 have ba':x/4294967296*(y/4294967296)<18446744073709551616:=by omega
 have bb':x/4294967296*(y%4294967296)<18446744073709551616:=by omega
 have bc':x%4294967296*(y/4294967296)<18446744073709551616:=by omega
 have bh1:x/4294967296*(y/4294967296)+(x/4294967296*(y%4294967296)+x%4294967296*(y%4294967296)/4294967296)/4294967296<18446744073709551616:=by omega
 have bh:x/4294967296*(y/4294967296)+(x/4294967296*(y%4294967296)+x%4294967296*(y%4294967296)/4294967296)/4294967296+((x/4294967296*(y%4294967296)+x%4294967296*(y%4294967296)/4294967296)%4294967296+x%4294967296*(y/4294967296))/4294967296<18446744073709551616:=by omega
 go_enter func274,Tryz.ntmps274
 go_wp2
 simp only[Mul64.maskN x hx,Mul64.maskN y hy,Mul64.divN,Mul64.mulN,Mul64.addN,Mul64.wrapN _ bd,Mul64.wrapN _ bb',Mul64.wrapN _ bt,Mul64.maskN _ bt,Mul64.wrapN _ bc',Mul64.wrapN _ bw,Mul64.wrapN _ ba',Mul64.wrapN _ bh1,Mul64.wrapN _ bh,Mul64.wrapM (x*y)];rw[hhi]
 go_ret2
 exact⟨rfl,rfl⟩
def Ko(x y:Nat)(hx:x<18446744073709551616)(hy:y<18446744073709551616):PC prog 274 [.a (.int .u64 x),.a (.int .u64 y)]
 (·=.bB [.a (.int .u64 ((x*y/18446744073709551616:Nat):Int)),.a (.int .u64 ((x*y%18446744073709551616:Nat):Int))]):=by
 intro ρ h avs _ hA;rw[e7] at hA;obtain⟨a,r,rfl,hA1,hA2⟩:=hA;rw[e7] at hA2;obtain⟨b,r2,rfl,hB1,hB2⟩:=hA2;rw[iB] at hB2;subst hB2;rw[GS] at hA1 hB1;subst hA1;subst hB1
 have hc:dK prog (.func 274) [.int .u64 x,.int .u64 y] h (λa h'=>a=.bB [.int .u64 ((x*y/18446744073709551616:Nat):Int),.int .u64 ((x*y%18446744073709551616:Nat):Int)]/\h'=h):=by
  intro σ w args' hv hr;obtain⟨v1,v2,rfl,k1,k2⟩:=HW hv;cases k1;cases k2;refine(De dQ func274 ge hr (a:=.bB [.int .u64 ((x*y/18446744073709551616:Nat):Int),.int .u64 ((x*y%18446744073709551616:Nat):Int)]) (V.Sf (.cons (.int _ _) (.cons (.int _ _) .nil))) ((Kn x y hx hy w).mono ?_)).mono ?_
  ·rintro e w' ⟨rfl,rfl⟩;exact⟨rfl,Below.refl _ _⟩
  ·rintro v w' ⟨a,h',hm,hg⟩;have:=rc hm;cases this;exact⟨_,_,⟨rfl,rfl⟩,hg⟩
 refine hc.mono ?_;rintro v h' ⟨rfl,rfl⟩;refine⟨_,ρ,rfl,.refl _ _,λid ob hi=>.inl hi,?_⟩;rw[GS];exact⟨_,rfl,by rw[e7];exact⟨_,_,rfl,by rw[GS],by rw[e7];exact⟨_,_,rfl,by rw[GS],by rw[iB]⟩⟩⟩
def jI(a:Int):Nat:=(dJ .u64 (dM a (PO a))).toNat
def HG(n:Int):dJ .u64 n=((dJ .u64 n).toNat:Int)/\(dJ .u64 n).toNat<18446744073709551616:=by
 have h:dJ .u64 n=n%18446744073709551616:=by rw[jh];simp[IntKind.wrap,IntKind.bits,IntKind.signed]
 rw[h];omega
def uS(a:Int):W5 .neg (.int .i64 a)=some (.int .i64 (PO a)):=rfl
def CF(a b:Int):Int:=
 cond ((decide (a<0)) != (decide (b<0)))
  (PO (if jI a*jI b/18446744073709551616=0/\jI a*jI b%18446744073709551616<=1000000000000 then dJ .i64 ((jI a*jI b%18446744073709551616:Nat):Int) else 1000000000000))
  (if jI a*jI b/18446744073709551616=0/\jI a*jI b%18446744073709551616<=1000000000000 then dJ .i64 ((jI a*jI b%18446744073709551616:Nat):Int) else 1000000000000)
def G5(n:Int):mu prog 248 259 (.int .i64 n)=some (.int .u64 (dJ .u64 n)):=by
 unfold mu;rw[show prog.underlying 248=some (.int .i64) by kernel_rfl,show prog.underlying 259=some (.int .u64) by kernel_rfl]
def G6(n:Int):mu prog 259 248 (.int .u64 n)=some (.int .i64 (dJ .i64 n)):=by
 unfold mu;rw[show prog.underlying 248=some (.int .i64) by kernel_rfl,show prog.underlying 259=some (.int .u64) by kernel_rfl]
def YY{P:Program}{t:TypeId}(a b:Int):cW P .eql t (.int .u64 a) (.int .u64 b)=some (.bool (decide (a=b))):=FG rfl
def W4{P:Program}{t:TypeId}(a b:Int):cW P .leq t (.int .u64 a) (.int .u64 b)=some (.bool (decide (a<=b))):=FH rfl
def MY(a b:Int):PC prog 271 [aa a,aa b] (·=aa (CF a b)):=by
 refine pB 38 Tryz.func271 ?_;have hm:=Ko (jI a) (jI b) (HG _).2 (HG _).2;rw[show((jI a:Nat):Int)=dJ .u64 (dM a (PO a)) from(HG _).1.symm,show((jI b:Nat):Int)=dJ .u64 (dM b (PO b)) from(HG _).1.symm] at hm;have ht:CF a b=cond ((decide (a<0)) != (decide (b<0))) (PO (if jI a*jI b/18446744073709551616=0/\jI a*jI b%18446744073709551616<=1000000000000 then dJ .i64 ((jI a*jI b%18446744073709551616:Nat):Int) else 1000000000000)) (if jI a*jI b/18446744073709551616=0/\jI a*jI b%18446744073709551616<=1000000000000 then dJ .i64 ((jI a*jI b%18446744073709551616:Nat):Int) else 1000000000000):=rfl;generalize jI a*jI b/18446744073709551616=hi at hm ht;generalize jI a*jI b%18446744073709551616=lo at hm ht
 refine(zV)<|(jH (cA @uS @gp @G5))<|(zK hm)<|(zR)<|(zV) ?_
 by_cases h1:hi=0/\lo<=1000000000000
 ·rw[t8 h1] at ht
  refine(aA (jB @YY @W4 (show decide ((hi:Int)=0)=true by simp;omega) (show decide ((lo:Int)<=1000000000000)=true by simp;omega)))<|(zY)<|(aA @G6) ?_
  cases g1:decide (a<0)<;>cases g2:decide (b<0)
  ·rw[g1,g2] at ht
   exact(aA (br g1 g2))<|(jG)<|zo [.tmp 4] (hq:=by rw[ht];rfl)
  ·rw[g1,g2] at ht
   exact(aA (br g1 g2))<|(zY)<|(aA @uS)<|zo [.tmp 4] (hq:=by rw[ht];rfl)
  ·rw[g1,g2] at ht
   exact(aA (br g1 g2))<|(zY)<|(aA @uS)<|zo [.tmp 4] (hq:=by rw[ht];rfl)
  ·rw[g1,g2] at ht
   exact(aA (br g1 g2))<|(jG)<|zo [.tmp 4] (hq:=by rw[ht];rfl)
 ·rw[ul h1] at ht;by_cases h2:hi=0
  ·refine(aA (jB @YY @W4 (show decide ((hi:Int)=0)=true by simp;omega) (show decide ((lo:Int)<=1000000000000)=false by simp;omega)))<|(zN) ?_
   cases g1:decide (a<0)<;>cases g2:decide (b<0)
   ·rw[g1,g2] at ht
    exact(aA (br g1 g2))<|(jG)<|zo [.tmp 4] (hq:=by rw[ht];rfl)
   ·rw[g1,g2] at ht
    exact(aA (br g1 g2))<|(zY)<|(aA @uS)<|zo [.tmp 4] (hq:=by rw[ht];rfl)
   ·rw[g1,g2] at ht
    exact(aA (br g1 g2))<|(zY)<|(aA @uS)<|zo [.tmp 4] (hq:=by rw[ht];rfl)
   ·rw[g1,g2] at ht
    exact(aA (br g1 g2))<|(jG)<|zo [.tmp 4] (hq:=by rw[ht];rfl)
  ·refine(aA (cA @YY @W4 (show decide ((hi:Int)=0)=false by simp;omega)))<|(zN) ?_
   cases g1:decide (a<0)<;>cases g2:decide (b<0)
   ·rw[g1,g2] at ht
    exact(aA (br g1 g2))<|(jG)<|zo [.tmp 4] (hq:=by rw[ht];rfl)
   ·rw[g1,g2] at ht
    exact(aA (br g1 g2))<|(zY)<|(aA @uS)<|zo [.tmp 4] (hq:=by rw[ht];rfl)
   ·rw[g1,g2] at ht
    exact(aA (br g1 g2))<|(zY)<|(aA @uS)<|zo [.tmp 4] (hq:=by rw[ht];rfl)
   ·rw[g1,g2] at ht
    exact(aA (br g1 g2))<|(jG)<|zo [.tmp 4] (hq:=by rw[ht];rfl)
def Mx(a b c d:Int):PC prog 266 [mD a b,mD c d] (·=pU (fq CF a b c d)):=by
 refine pB 8 Tryz.func266 ?_;exact(aA @mD.eq_1)<|(zC)<|(zK (yq 271 CF MY a b c d))<|(cO (br @pU.eq_1 @mD.eq_1))<|zo [.cell 4 54]
def UL(a b:Int):Int:=dJ .i64 (a*b)
def Jx(a b:Int):Int:=dJ .i64 (a.tdiv b)
def r5{P:Program}{t:TypeId}(a b:Int):cW P .mul t (.int .i64 a) (.int .i64 b)=some (.int .i64 (UL a b)):=rfl
variable{P:Program}{a:Int}{b:Int}
def Q3{t:TypeId}(h:¬b=0):cW P .quo t (.int .i64 a) (.int .i64 b)=some (.int .i64 (Jx a b)):=by
 have:RV b=false:=by
  cases b with
  | ofNat n=>
   cases n with
   | zero=>exact t7 rfl h
   | succ n=>rfl
  | negSucc n=>rfl
 unfold cW;simp only[this];rfl
def sm(a b:Int):Int:=if b=0 then 0 else if (!(decide (UL (Jx a b) b=a)))&&((decide (a<0)) != (decide (b<0))) then CB (Jx a b) 1 else Jx a b
def je(a b:Int):PC prog 273 [aa a,aa b] (·=aa (sm a b)):=by
 refine pB 26 Tryz.func273 ?_;refine(zV) ?_;cases h0:decide (b=0);rotate_left
 ·exact(aA h0)<|(cN)<|zo [.tmp 4] (hq:=by rw[sm,t8 (ww h0)])
 have h0':=wt h0
 refine(aA h0)<|(zN)<|(zs) ?_;refine aD.r0 ge (by simp only[cG,bG,an,az,m7,m6,↓reduceIte,ac,a6,bv,ap,bs,ah,ar,bD,Q3 h0'];first | done | rfl) ?_
 have hf:sm a b=if (!(decide (UL (Jx a b) b=a)))&&((decide (a<0)) != (decide (b<0))) then CB (Jx a b) 1 else Jx a b:=by rw[sm,ul h0']
 cases h1:decide (UL (Jx a b) b=a);rotate_left
 ·rw[h1] at hf;refine(zs) ?_;refine aD.r0 ge (fF (br @r5 h1)) ?_;refine(zs) ?_;refine aD.no rfl ?_;(try (refine aD.skip ?_;try change aD _ _ _ _ _));refine(zs) ?_;refine aD.r0 ge zl ?_;refine(zE) ?_;exact ue.of (rs:=[.tmp 4]) rfl rfl zl (Wk.refl rfl) (by (try simp only[dA,aY]);first | done | (rw[hf];rfl))
 cases g1:decide (a<0)<;>cases g2:decide (b<0)<;>rw[h1,g1,g2] at hf
 ·refine(zs) ?_;refine aD.r0 ge (fF (jB @r5 h1 g1 g2)) ?_;exact(jG)<|zo [.tmp 4] (hq:=by rw[hf];rfl)
 ·exact(aA (jB @r5 h1 g1 g2))<|(zY)<|(aA @r6)<|(zV)<|zo [.tmp 4] (hq:=by rw[hf];rfl)
 ·exact(aA (jB @r5 h1 g1 g2))<|(zY)<|(aA @r6)<|(zV)<|zo [.tmp 4] (hq:=by rw[hf];rfl)
 ·exact(aA (jB @r5 h1 g1 g2))<|(jG)<|zo [.tmp 4] (hq:=by rw[hf];rfl)
abbrev cY:SV:=.a (.slice none 0 0 (some 0))
def Yj{n k:Nat}{c:Option Nat}{q:IntKind}(h:k<=n):c7 n c none (some (.int q (k:Int))) none=some (0,k,c):=by
 unfold c7 qi rQ;simp only[od,m7,fH h,Bool.true_or,ah]
def xu{n k:Nat}{c:Option Nat}{q:IntKind}(h:k<=n):c7 n c (some (.int q (k:Int))) none none=some (k,n,c):=by
 unfold c7 qi;simp only[od,m7,fH h,ah]
def tH(a:Int)(h : -9223372036854775808<=a/\a<=9223372036854775807):cW prog .sub 3 (.int .i64 a) (.int .i64 ((0:Nat):Int))=some (.int .i64 a):=by
 have:=AF (P:=prog) (t:=3) (a:=a) (b:=((0:Nat):Int)) (by simpa using h);rw[this];simp
def Fw(n:Nat):(rep [AV.str []] n).map SV.a=(aV n []).flatMap (aw ab):=by
 induction n with
 | zero=>rfl
 | succ n ih=>rw[rep,c0,ih];rfl
def Cc(l:List (List Nat)):(l.flatMap (aw ab)).all fw=true:=by
 induction l with
 | nil=>rfl
 | cons a l ih=>rw[flatMap_cons,co,ih];rfl
def nr(l:List (List Nat)):(l.flatMap (aw ab)).length=l.length:=by
 induction l with
 | nil=>rfl
 | cons a l ih=>rw[flatMap_cons,li,ih,i7];show 1+_=_;omega
def He(n:Nat)(h0:0<n)(hb:n<=1000000):SC prog 240 [cY,aa n] [] [] (λr S'=>r=.buf 0 0 1 none/\S'=[.cells ((aV n []).flatMap (aw ab))]):=by
 refine On 27 func240 ?_
 have h1:decide ((n:Int)<0)=false:=by simp
 have h2:decide (0<(n:Int))=true:=by simp;omega
 have h3:¬n=0:=by omega
 refine(zV)<|(aA h1)<|(zN)<|(aA (br (tH ((0:Nat):Int) gc) (tH n ⟨by omega,by omega⟩)))<|(aA h2)<|(zY)<|(zs) ?_;refine aD.r0 ge (fF (KO (VI (cc 0)) (VI (cc n)) hb h3 @Fw @Cc @d8 @qm)) ?_;refine(zs) ?_;refine aD.r0 ge zl ?_;refine(zE) ?_;exact QC.of (rs:=[.tmp 4]) rfl rfl zl (by (try simp only[dA,aY]);first | done | (first | exact⟨rfl,rfl⟩ | exact⟨trivial,trivial⟩ | trivial)) zd zg
def DB:SC prog 240 [cY,aa 0] [] [] (λr S'=>r=cY/\S'=[]):=by
 refine On 27 func240 ?_;refine(nP)<|(zN)<|(aA (br (tH ((0:Nat):Int) gc) (tH 0 gc)))<|(KS)<|(zV)<|(zE) ?_;exact zP [.tmp 4]
def jU(l:List (List Nat)):List SV:=[an 1 l (aw ab)]
def rE(o:Nat)(l:List (List Nat)):SV:=if l=[] then cY else .buf o l.length 1 none
def Tj(l:List (List Nat)):List SO:=if l=[] then [] else [.cells (l.flatMap (aw ab))]
variable{α:Type}
def D3(ls:List (List α)){k:Nat}{x:List α}(h:ls[k]?=some x):(ls.take (k+1)).flatten=(ls.take k).flatten++x:=by
 rw[dt,h];simp
def yH(ls:List (List α))(k:Nat):(ls.take k).flatten.length<=ls.flatten.length:=by
 conv=>rhs;rw[<-en k ls]
 rw[List.flatten_append,li];omega
def J2(ls:List (List (List Nat)))(hl:ls.length<=1000000)(hb:ls.flatten.length<=1000000):
 SC prog 231 [an 1 ls jU] [] [] (λr S'=>r=rE 0 ls.flatten/\S'=Tj ls.flatten):=by
 refine On 36 Tryz.func231 ?_;have hlen:=hl
 refine(nP)<|(zV)<|(zs) ?_;refine zL ls (λk=>True) (λk=>[(0,an 1 ls jU),(3,aa ((ls.take k).flatten.length:Nat)),(9,an 1 ls jU),(10,aa ls.length),(11,aa k)]) (λk=>[]) (Fg.less (by (simp only[cG,bG,dU,↓reduceIte,ac,an,take_zero,d3,g9])<;>(repeat' apply b6)<;>first | rfl | trivial) (by (simp only[cG,bG,or_true,true_or,an,take_zero,d3,g9])<;>(repeat' apply b6)<;>first | exact .inr rfl | exact .inl rfl | trivial)) zp ?_;intro k hk hall;refine zT ls k ?_ ?_;rintro rfl;rotate_left;intro x hx hlt;rotate_left
 rotate_left
 ·refine(zY) ?_;have h1:=D3 ls hx;have h2:=yH ls (k+1)
  have h3:(((ls.take k).flatten.length:Nat):Int)+((x.length:Nat):Int)=(((ls.take (k+1)).flatten.length:Nat):Int):=by rw[h1,li];omega
  have h4:decide ((((ls.take (k+1)).flatten.length:Nat):Int)<0)=false:=by simp
  refine(zB)<|(aA (cA hlt (aH (e:=1) (enc:=jU) ce hx) @jU.eq_1))<|(aA (br (xn (show -9223372036854775808<=(((ls.take k).flatten.length:Nat):Int)+((x.length:Nat):Int)/\(((ls.take k).flatten.length:Nat):Int)+((x.length:Nat):Int)<=9223372036854775807 from⟨by omega,by omega⟩)) h3))<|(aA h4)<|(zN)<|(aA (zi hlt hlen)) ?_;refine zX hlt zH trivial
 refine(fC) ?_;have htk:ls.take ls.length=ls:=bk;by_cases h0:ls.flatten=[]
 ·have h0':((ls.flatten.length:Nat):Int)=0:=by rw[h0];rfl
  refine(zC) ?_;rw[htk]
  refine zS [] trivial DB ?_ (hc:=Nb h0');refine(zR)<|(zV)<|(zs) ?_;refine zL ls (λk2=>True) (λk2=>[(6,cY),(25,an 1 ls jU),(26,aa ls.length),(27,aa k2)]) (λk2=>[]) zH zp ?_;intro k2 hk2 hall2;refine zT ls k2 ?_ ?_;rintro rfl;rotate_left;intro x2 hx2 hlt2;rotate_left
  ·refine(fC)<|(zV)<|(zE) ?_;exact zP [.tmp 2] (hq:=by (try simp only[dA,aY]);first | done | (rw[rE,Tj,t8 h0,t8 h0];exact⟨rfl,rfl⟩))
  refine(zY) ?_
  have hx0:x2=[]:=by
   have:=List.mem_iff_getElem?.2 ⟨k2,hx2⟩;exact List.flatten_eq_nil_iff.1 h0 x2 this
  subst hx0
  refine(zB)<|(aA (cA hlt2 (aH (e:=1) (enc:=jU) ce hx2) @jU.eq_1))<|(aA @g9.{0})<|(aA (zi hlt2 hlen)) ?_;refine zX hlt2 zH trivial
 have hpos:0<ls.flatten.length:=by
  cases h:ls.flatten with
  | nil=>exact t7 h h0
  | cons a l=>rw[i7];omega
 refine(zC) ?_;rw[htk]
 refine aJ.sk [] ge rfl rfl ge rfl zc (He ls.flatten.length hpos hb) (by simp only[gh,bG,an,↓reduceIte,ac,a6,b8,bv,ap,bs,b8];first | done | rfl) rfl gc (by simp only[BK,gh,bG,an,b8]<;>(repeat' apply b6)<;>first | trivial | rfl | (intro hh;cases hh)) (by simp only[GZ,gh,bG,an,a6,bs,decide_true,b8];first | done | rfl) (by simp only[GZ,gh,bG,an,a6,bs,decide_true,b8];first | done | rfl) (by simp only[gh,bG,an,↓reduceIte,ac,a6,b8,bv,ap,bs,b8];first | done | rfl) (by simp only[gh,bG,an,↓reduceIte,ac,a6,b8,bv,ap,bs,b8,eg,eC,cx,aW,cG];first | done | rfl) (by simp only[gh,bG,an,↓reduceIte,ac,a6,b8,bv,ap,bs,b8,eg,eC,cx,aW,cG];first | done | rfl) ?_;refine(zR)<|(zV)<|(zs) ?_;refine QB ls (λk2 (cs:List SV)=>((ls.take k2).flatten.length<=cs.length/\cs.take (ls.take k2).flatten.length=(ls.take k2).flatten.flatMap (aw ab))/\(cs.map (aW 0)=cs/\((ls.take k2).flatten≠[]->cs.length=(ls.take k2).flatten.length))) (λk2 cs=>[(6,.buf 0 (ls.take k2).flatten.length 1 none),(25,an 1 ls jU),(26,aa ls.length),(27,aa k2)]) (λk2 cs=>[.cells cs]) (((aV ls.flatten.length []).flatMap (aw ab))) (Fg.less (by (simp only[cG,bG,dU,↓reduceIte,ac,an,take_zero,d3,g9])<;>(repeat' apply b6)<;>first | rfl | trivial) (by (simp only[cG,bG,or_true,true_or,an,take_zero,d3,g9])<;>(repeat' apply b6)<;>first | exact .inr rfl | exact .inl rfl | trivial)) (by exact⟨⟨cc _,rfl⟩,qm _ _,λh=>t7 rfl h⟩) ?_;intro k2 cs hk2 hall2;refine zT ls k2 ?_ ?_;rintro rfl;rotate_left;intro x2 hx2 hlt2;rotate_left
 ·rw[htk] at hall2 ⊢;obtain⟨⟨g1,g2⟩,g3,g4⟩:=hall2
  have g5:cs=ls.flatten.flatMap (aw ab):=by
   rw[<-g2,<-g4 h0,bk]
  refine(fC)<|(zV)<|(zE) ?_;exact zP [.tmp 2] (hq:=by (try simp only[dA,aY]);first | done | (rw[rE,Tj,ul h0,ul h0,g5];exact⟨rfl,rfl⟩))
 refine(zY) ?_;obtain⟨⟨g1,g2⟩,g3,g4⟩:=hall2;have h1:=D3 ls hx2;have h2:=yH ls (k2+1);have h2':=h2;rw[h1,li] at h2
 refine(zB)<|(aA (cA hlt2 (aH (e:=1) (enc:=jU) ce hx2) @jU.eq_1)) ?_
 by_cases hx0:x2=[]
 ·subst hx0;rw[append_nil] at h1
  refine(aA (br @g9.{0} (show(ls.take k2).flatten.length<=1000000 by omega)))<|(aA (zi hlt2 hlen)) ?_;refine Fv hlt2 (cs) (bK h1) (by rw[h1];exact⟨⟨g1,g2⟩,g3,g4⟩)
 have hx0':¬x2.length=0:=λe=>hx0 (rx e)
 have g6:(cs.take ((ls.take k2).flatten.length*1)++x2.flatMap (aw ab)).map (aW 0)=(ls.take (k2+1)).flatten.flatMap (aw ab):=by
  rw[b9,g2,h1,<-bo,qm]
 refine(aA (sa hx0' (show x2.length<=1000000 by omega) @Cc (show(ls.take k2).flatten.length<=1000000 by omega) (show(ls.take k2).flatten.length*1<=cs.length by omega) g6))<|(aA (zi hlt2 hlen)) ?_;refine Fv hlt2 (((ls.take (k2+1)).flatten.flatMap (aw ab))) (bK (br h1 @li.{0})) (by refine⟨⟨?_,?_⟩,qm _ _,λ_=>nr _⟩;(rw[nr];exact ad _);(rw[af (by rw[nr];exact ad _)]))
open Go.Ev Go.RowKit
structure Wy where
 kind:List Nat
 cX:List Nat
 days:Int
 km:Int
 yc:Int
structure Pt where
 name:List Nat
 kind:List Nat
 aO:List Nat
 slot:List Nat
 made:Int
 since:Int
 ZZ:Bool
 props:AV
 ZX:Int
 ZG:Int
 ZU:Int
 ZT:Int
 ZW:Int
 ZV:Int
structure Co where
 part:List Nat
 owner:List Nat
 day:Int
 am:Int
def Lt(n:Int):Bool:=decide (0<=n)&&decide (n<=40000)
def T9{t:TypeId}(hb:b≠0)(h : -9223372036854775808<=a.tdiv b/\a.tdiv b<=9223372036854775807):cW P .quo t (.int .i64 a) (.int .i64 b)=some (.int .i64 (a.tdiv b)):=by
 have h1:(qK (-9223372036854775808) (a.tdiv b)&&qK (a.tdiv b) 9223372036854775807)=true:=by
  rw[ff,ff];simp[h.1,h.2]
 have hz:RV b=false:=by
  unfold RV
  cases b with
  | ofNat n=>
   cases n with
   | zero=>exact t7 rfl hb
   | succ n=>rfl
  | negSucc n=>rfl
 simp only[cW,BQ,ah,hz,ar,dJ,KR,KP,h1]
def FI{t:TypeId}(hb:b≠0):cW P .rem t (.int .i64 a) (.int .i64 b)=some (.int .i64 (a.tmod b)):=by
 have hz:RV b=false:=by
  unfold RV
  cases b with
  | ofNat n=>
   cases n with
   | zero=>exact t7 rfl hb
   | succ n=>rfl
  | negSucc n=>rfl
 simp only[cW,BQ,ah,hz,ar]
def rW(a p:Int):Int:=if 100<2*(a*p%100)\/(2*(a*p%100)=100/\a*p/100%2≠0) then a*p/100+1 else a*p/100
def VZ(a p:Int):Bool:=Dg a&&(decide (0<=p)&&decide (p<=100))
def NU{p:Int}(ha:0<=a/\a<=1000000000000)(hp:0<=p/\p<=100):0<=a*p/\a*p<=100000000000000:=by
 refine⟨Int.mul_nonneg ha.1 hp.1,?_⟩;have h1:a*p<=1000000000000*p:=Int.mul_le_mul_of_nonneg_right ha.2 hp.1;omega
def NZ{p:Int}(ha:0<=a/\a<=1000000000000)(hp:0<=p/\p<=100):0<=rW a p/\rW a p<=a:=by
 obtain⟨h1,h2⟩:=NU ha hp;have h3:a*p<=a*100:=Int.mul_le_mul_of_nonneg_left hp.2 ha.1;unfold rW;generalize a*p=m at *;split<;>omega
def rX(k:List Nat):List AV:=[.str k]
def Cp(ks:List (List Nat)):∀r∈ks.map rX,r.length=1:=by intro r hr;obtain⟨t,_,rfl⟩:=List.mem_map.1 hr;rfl
def Wy.ok(w:Wy):Bool:=cB w.kind&&(cB w.cX&&(Lt w.days&&(Dg w.km&&(decide (0<=w.yc)&&decide (w.yc<=100)))))
def Co.ok(c:Co):Bool:=cB c.part&&(cB c.owner&&(Lt c.day&&Dg c.am))
structure Wy.fits (w:Wy):Prop where
 k:w.kind.length<=1000000
 kb:∀b∈w.kind,b<256
 m:w.cX.length<=1000000
 mb:∀b∈w.cX,b<256
structure Co.fits (c:Co):Prop where
 p:c.part.length<=1000000
 pb:∀b∈c.part,b<256
 o:c.owner.length<=1000000
 ob:∀b∈c.owner,b<256
def eH(ws:List Wy)(c:Co):Bool:=ws.all Wy.ok&&c.ok
def lZ(day fr:Int):Int:=if day<=fr then 0 else day-(if day-1000000000000<=fr then fr else day-1000000000000)
def nf(p:Pt)(c:Co)(w:Wy):Bool:=decide (w.kind=p.kind)&&(decide (lZ c.day p.made<=w.days)&&decide (p.ZG<=w.km))
def qS(ws:List Wy)(po:Option Pt)(c:Co):List (List Nat×Int):=match po with
 | none=>[(c.owner,c.am)]
 | some p=>match ws.find? (nf p c) with
  | none=>[(c.owner,c.am)]
  | some w=>bU w.cX (getM 0 w.cX (bU c.owner (c.am-rW c.am w.yc) [(c.owner,c.am)])+rW c.am w.yc) (bU c.owner (c.am-rW c.am w.yc) [(c.owner,c.am)])
def ES{w:Wy}{c:Co}(hw:w.ok=true)(hc:c.ok=true):VZ c.am w.yc=true/\(0<=c.am/\c.am<=1000000000000)/\(0<=w.yc/\w.yc<=100):=by
 unfold Wy.ok at hw;unfold Co.ok at hc;simp only[bi,Dg,wp] at hw hc;unfold VZ Dg;simp only[bi,wp];omega
def xd(ml:List (List Nat×Int))(ks:List (List Nat)):List Sh:=(ks.filter λk=>decide (0<getM 0 k ml)).map λk=>⟨k,getM 0 k ml⟩
def sY(ks:List (List Nat)):Prop:=ks.Pairwise λa b=>fZ b a=false
structure lK (ml:List (List Nat×Int)) (ss:List Sh):Prop where
 ex:∃ks:List (List Nat),ks.Perm (ml.map (·.1))/\sY ks/\ss=xd ml ks
def Tv(ml:List (List Nat×Int))(ks:List (List Nat))(k:List Nat):xd ml (ks++[k])=if 0<getM 0 k ml then xd ml ks++[⟨k,getM 0 k ml⟩] else xd ml ks:=by
 unfold xd;rw[fb];by_cases h:0<getM 0 k ml<;>simp[h]
def GQ(ml:List (List Nat×Int))(ks:List (List Nat)):(xd ml ks).length<=ks.length:=by
 unfold xd;rw[al];exact em _ _
open Go.Shelf
def Ay:Go.Shelf.Ren:=⟨λ| 6=>91 | 8=>106 | 9=>137 | 19=>153 | 20=>154 | 21=>191 | 22=>192 | 23=>193 | 24=>194 | 25=>195 | 26=>196 | 27=>197 | 28=>198 | 29=>199 | 36=>224 | 31=>225 | 32=>226 | 37=>227 | 38=>228 | 39=>182 | 41=>239 | n=>n,λ| 27=>113 | 29=>9 | 3=>3 | 32=>207 | 26=>113 | 0=>0 | 44=>257 | 46=>259 | 4=>4 | 36=>290 | 35=>289 | 41=>178 | 5=>5 | 9=>9 | 53=>318 | 57=>305 | 63=>330 | 64=>325 | n=>n,λ| n=>n⟩
def z6:Go.Proofs.SlLaysM.n6 prog Ay:={
 mixed:=by kernel_rfl
 f6:=⟨Tryz.f91.name,by decide,func91.trans (n9 some zW)⟩
 f8:=Tryz.func106.trans (n9 some zW)
 f9:=⟨Tryz.f137.name,by decide,Tryz.func137.trans (n9 some zW)⟩
 f19:=Tryz.func153.trans (n9 some zW)
 f20:=Tryz.func154.trans (n9 some zW)
 f21:=⟨Tryz.f191.name,by decide,Tryz.func191.trans (n9 some zW)⟩
 f22:=⟨Tryz.f192.name,by decide,Tryz.func192.trans (n9 some zW)⟩
 f23:=⟨Tryz.f193.name,by decide,Tryz.func193.trans (n9 some zW)⟩
 f24:=⟨Tryz.f194.name,by decide,Tryz.func194.trans (n9 some zW)⟩
 f25:=⟨Tryz.f195.name,by decide,Tryz.func195.trans (n9 some zW)⟩
 f26:=⟨Tryz.f196.name,by decide,Tryz.func196.trans (n9 some zW)⟩
 f27:=⟨Tryz.f197.name,by decide,Tryz.func197.trans (n9 some zW)⟩
 f28:=⟨Tryz.f198.name,by decide,Tryz.func198.trans (n9 some zW)⟩
 f29:=⟨Tryz.f199.name,by decide,Tryz.func199.trans (n9 some zW)⟩
 f31:=Tryz.func225.trans (n9 some zW)
 f32:=Tryz.func226.trans (n9 some zW)
 f36:=⟨Tryz.f224.name,by decide,Tryz.func224.trans (n9 some zW)⟩
 f37:=⟨Tryz.f227.name,by decide,Tryz.func227.trans (n9 some zW)⟩
 f38:=⟨Tryz.f228.name,by decide,Tryz.func228.trans (n9 some zW)⟩
 f39:=⟨Tryz.f182.name,by decide,func182.trans (n9 some zW)⟩
 f41:=⟨Tryz.f239.name,by decide,Tryz.func239.trans (n9 some zW)⟩
 t0:=Tryz.underlying0
 a0:=Tryz.isAgg0
 z0:=Tryz.sizeOf0
 v0:=Tryz.zeroValue0
 t3:=Tryz.underlying3
 a3:=Tryz.isAgg3
 z3:=Tryz.sizeOf3
 v3:=Tryz.zeroValue3
 t4:=Tryz.underlying4
 a4:=Tryz.isAgg4
 z4:=Tryz.sizeOf4
 v4:=Tryz.zeroValue4
 t5:=Tryz.underlying5
 a5:=Tryz.isAgg5
 z5:=Tryz.sizeOf5
 v5:=Tryz.zeroValue5
 t9:=gY
 a9:=isAgg9
 z9:=sizeOf9
 v9:=g7
 t26:=fl
 a26:=hK
 z26:=hE
 v26:=go
 t27:=fl
 a27:=hK
 z27:=hE
 v27:=go
 t29:=gY
 a29:=isAgg9
 z29:=sizeOf9
 v29:=g7
 t32:=Tryz.underlying207
 a32:=Tryz.isAgg207
 z32:=Tryz.sizeOf207
 v32:=Tryz.zeroValue207
 t35:=Tryz.underlying289
 a35:=Tryz.isAgg289
 z35:=Tryz.sizeOf289
 v35:=Tryz.zeroValue289
 t36:=Tryz.underlying290
 a36:=Tryz.isAgg290
 z36:=Tryz.sizeOf290
 v36:=Tryz.zeroValue290
 t41:=Tryz.underlying178
 a41:=Tryz.isAgg178
 z41:=Tryz.sizeOf178
 v41:=Tryz.zeroValue178
 t44:=Tryz.underlying257
 a44:=Tryz.isAgg257
 z44:=Tryz.sizeOf257
 v44:=Tryz.zeroValue257
 t46:=Tryz.underlying259
 a46:=Tryz.isAgg259
 z46:=Tryz.sizeOf259
 v46:=Tryz.zeroValue259
 t53:=Tryz.underlying318
 a53:=Tryz.isAgg318
 z53:=Tryz.sizeOf318
 v53:=Tryz.zeroValue318
 t57:=Tryz.underlying305
 a57:=Tryz.isAgg305
 z57:=Tryz.sizeOf305
 v57:=Tryz.zeroValue305
 t63:=Tryz.underlying330
 a63:=Tryz.isAgg330
 z63:=Tryz.sizeOf330
 v63:=Tryz.zeroValue330
 t64:=Tryz.underlying325
 a64:=Tryz.isAgg325
 z64:=Tryz.sizeOf325
 v64:=Tryz.zeroValue325 }
open Go.Ev Go.RowKit Go.Shelf Go.Lib Go.Sort
def Ga(x y:List UInt8):decide (x<=y)=!fZ (y.map (·.toNat)) (x.map (·.toNat)):=by
 rw[qo,bytesLess_eq];by_cases h:y<x
 ·have:¬x<=y:=λh2=>h2 h;simp[h,this]
 ·have:x<=y:=h;simp[h,this]
def ZM:Option Value->ByteArray
 | some (.string s)=>s
 | _=>ByteArray.empty
def KQ(ss:List (List UInt8)):List (List Nat):=ss.map λs=>s.map (·.toNat)
def zU(ks:List (List Nat))(v:AV)(Z:Nat)(h:Ev.H)(hout:QK Z h v 1 (ks.map rX))(hlen:ks.length<=1000000):
 dK prog (.func 91) [v] h (λr h'=>r=.bB []/\∃ks':List (List Nat),ks'.Perm ks/\sY ks'/\QK Z h' v 1 (ks'.map rX)/\Over Z h h'/\∀id n e c,v=.slice (some (id,0)) n e c->h.store id 0 (ks'.map rX).flatten=some h'):=by
 intro σ w args' hv hr;obtain⟨x,rfl,hx⟩:=VG hv;rw[eM dQ func91 ge]
 rcases hout.2 with⟨e,e2⟩ | ⟨id,bX,fx,fy,hne,e2,ho,hfx,hxy,z1,z2,z3,z4,l1,l2,l3,l4⟩
 ·subst e2
  have hts:ks=[]:=by simpa using e
  subst hts
  cases hx with
  | jd hl=>
   refine Calls.mono (AnyM.slices_Sort_string_none z6 none 0 w) λe w' ⟨he,hw⟩=>?_;subst hw;exact⟨_,he,.bB [],h,⟨rfl,[],.refl _,List.Pairwise.nil,hout,Over.refl _ _,λ_ _ _ _ he=>by cases he⟩,σ,V.kJ,hr,.refl _ _ _⟩
 ·subst e2
  have hpos:0<ks.length:=by
   cases ks with
   | nil=>exact t7 rfl hne
   | cons=>exact gd _
  rw[al] at hx
  cases hx with
  | @slice _ _ _ _ _ a p c hs hl hrr hcc ha=>
  have ha:a=⟨p.b,p.d+0,none⟩:=ha.resolve_right gt;subst ha;obtain⟨q,carr,et,hq,hb,hsz,hlen',hVc⟩:=hr.cells ho;rw[hs] at hq;cases hq
  have hfl:(ks.map rX).flatten.length=ks.length*1:=by
   have:=kU (s:=1) hout.1;rw[al] at this;exact this
  have hpl:=hr.lt ho hs
  let d:List (List UInt8):=(range ks.length).map λi=>(ZM carr[p.d+i]?).data.toList
  have hdl0:d.length=ks.length:=by simp[d]
  have hspec:∀i,i<ks.length->∃s:ByteArray,carr[p.d+i]?=some (.string s)/\ks[i]?=some (s.data.toList.map (·.toNat))/\d[i]?=some s.data.toList:=λi hi=>by
   have hki:ks[i]?=some ks[i]:=jp hi
   have hg:(ks.map rX)[i]?=some (rX ks[i]):=by rw[cl,hki];rfl
   have h0:=q9 hout.1 hg (k:=0) gt;obtain⟨v0,g0,V0⟩:=hVc _ _ (h0.trans (show(rX ks[i])[0]?=some (.str ks[i]) from rfl));rw[b9,ey] at g0;generalize hkk:ks[i]=kk at V0
   cases V0 with
   | @str _ s0 e0=>
    refine⟨s0,g0,by rw[hki,hkk,e0],?_⟩;show((range ks.length).map _)[i]?=_;rw[cl,List.getElem?_range hi,m6,g0];rfl
  have hH:Holds encStr w p.b (p.d+0) d.toArray:=by
   intro j hj
   have hj':j<ks.length:=by simpa [hdl0] using hj
   obtain⟨s,g1,g2,g3⟩:=hspec j hj';refine⟨?_,xP hb⟩;rw[cell_of hb,ey,g1];rw[getElem!_pos d.toArray j hj]
   have:d.toArray[j]=s.data.toList:=by
    have h1:=jp (l:=d) (i:=j) gt;rw[g3] at h1;simpa using(Option.some.inj h1).symm
   rw[this]
  have hmain:=AnyM.slices_Sort_string z6 p.b (p.d+0) c d w hH hpl (by rw[hdl0];omega);rw[hdl0] at hmain;change Calls prog 91 _ _ _ at hmain;refine Calls.mono hmain ?_;rintro e w' ⟨rfl,n,os,rfl⟩;obtain⟨d',hd'⟩:∃d',d'=d.mergeSort λx y=>decide (x<=y):=⟨_,rfl⟩;rw[<-hd']
  have hp3:d'.Perm d:=by rw[hd'];exact List.mergeSort_perm _ _
  have hp1:d'.length=ks.length:=by rw[hp3.length_eq,hdl0]
  have hsorted:d'.Pairwise λx y=>decide (x<=y)=true:=by
   rw[hd'];refine List.pairwise_mergeSort ?_ ?_ d
   ·intro a b c h1 h2;rw[Ga] at *;simp only[cv] at *;cases h:fZ (c.map (·.toNat)) (a.map (·.toNat))
    ·rfl
    ·rcases j6 (a.map (·.toNat)) (b.map (·.toNat)) with g | g | g
     ·have:=fO h g;rw[h2] at this;cases this
     ·rw[g,h2] at h;cases h
     ·rw[h1] at g;cases g
   ·intro a b;rw[Ga,Ga]
    rcases j6 (a.map (·.toNat)) (b.map (·.toNat)) with g | g | g
    ·rw[tp g];rfl
    ·rw[g,dz];rfl
    ·rw[tp g];simp
  have hdl:KQ d=ks:=by
   apply fo;intro i;unfold KQ;by_cases hi:i<ks.length
   ·obtain⟨s,g1,g2,g3⟩:=hspec i hi;rw[cl,g3,g2];rfl
   ·rw[cf (by simp[hdl0];omega),cf gt]
  have hperm:(KQ d').Perm ks:=by rw[<-hdl];exact hp3.map _
  have hsx:sY (KQ d'):=by
   unfold sY KQ;rw[List.pairwise_map];refine hsorted.imp ?_;intro a b h1;rw[Ga] at h1;simpa using h1
  have hlen2:(KQ d').length=ks.length:=by unfold KQ;rw[al,hp1]
  have hw3:=Cp (KQ d')
  have hb1:(putRow encStr (Sort.ahead w n) p.b (p.d+0) d'.toArray).heap[p.b]?=some (.cells (putCells encStr (p.d+0) d'.toArray carr) et (0,0)):=by
   unfold putRow mapBlock;simp only[eB,if_true];rw[show(Sort.ahead w n).heap[p.b]?=some (.cells carr et (0,0)) from hb];rfl
  have hoth:∀b,b≠p.b->(putRow encStr (Sort.ahead w n) p.b (p.d+0) d'.toArray).heap[b]?=w.heap[b]?:=λb hbb=>by
   unfold putRow mapBlock;simp only[eB];rw[ul (λe=>hbb e.symm)];rfl
  have hVn:∀(i:Nat) (a:AV),((KQ d').map rX).flatten[i]?=some a->∃v,(putCells encStr (p.d+0) d'.toArray carr)[p.d+i]?=some v/\V σ a v:=by
   intro i a hia
   have hil:i<ks.length:=by
    have:=Lp hia;rw[kU hw3,al,hlen2] at this;omega
   have hj:i<d'.length:=by omega
   have hrow:((KQ d').map rX)[i]?=some (rX (d'[i].map (·.toNat))):=by
    unfold KQ;rw[cl,cl,jp hj];rfl
   have hat:=q9 hw3 hrow (k:=0) gt;rw[b9,ey,hia] at hat
   have hcl:p.d+i<carr.size:=by omega
   have hput:(putCells encStr (p.d+0) d'.toArray carr)[p.d+i]?=some (encStr d'[i]):=by
    unfold putCells;rw[Array.getElem?_mapIdx,Array.getElem?_eq_getElem hcl,m6,t8 ⟨by omega,by simp;omega⟩];rw[show p.d+i-(p.d+0)=i by omega,getElem!_pos d'.toArray i (by simpa using hj)];simp
   refine⟨_,hput,?_⟩;cases hat;exact .str rfl
  obtain⟨r1,r2⟩:=hr.rewrite ho hs (cs':=((KQ d').map rX).flatten) (by rw[kU hw3,al,hlen2,hfl]) hb hb1 (by unfold putCells;rw[Array.size_mapIdx]) hVn hoth (by unfold putRow mapBlock;simp[Sort.ahead]) rfl rfl rfl
  have hbel:Below (putRow encStr (Sort.ahead w n) p.b (p.d+0) d'.toArray).heap.size (putRow encStr (Sort.ahead w n) p.b (p.d+0) d'.toArray) (grow (putRow encStr (Sort.ahead w n) p.b (p.d+0) d'.toArray) os):=
   ⟨rfl,rfl,rfl,by rw[size_grow];omega,λk hk=>by unfold grow;simp only;rw[Array.getElem?_append_left hk]⟩
  have hkeep:=qR r1 hbel;obtain⟨ao1,ao2⟩:=ug (id:=id) hfx z2 z3 z4
  have hne':(KQ d').map rX≠[]:=by
   intro e;have:=n9 g8 e;rw[al,hlen2] at this;simp at this;rw[this] at hpos;simp at hpos
  refine⟨_,rfl,.bB [],_,⟨rfl,KQ d',hperm,hsx,⟨hw3,.inr ⟨id,bX,id,id,hne',?_,?_,?_,.inl rfl,z1,z1,z1,z4,?_,?_,?_,?_⟩⟩,?_,?_⟩,σ,V.kJ,hkeep.1,r2.trans hkeep.2⟩
  ·rw[al,al,hlen2]
  ·exact da _ _ _
  ·exact DQ hfx
  ·show id<(h.alone id bX).next;rw[ao2];exact l1
  ·show id<(h.alone id bX).next;rw[ao2];exact l1
  ·show id<(h.alone id bX).next;rw[ao2];exact l1
  ·show bX<(h.alone id bX).next;rw[ao2];exact l4
  ·refine ao1.trans ⟨ad _,λj hj=>bm _ _ gt,λ_ _=>rfl,λhl=>tu gt⟩
  ·intro id2 n2 e2 c2 he;cases he
   have hfl2:((KQ d').map rX).flatten.length=(ks.map rX).flatten.length:=by rw[kU hw3,al,hlen2,hfl]
   have hone:((KQ d').map rX).flatten.all lu=true:=by
    rw[all_eq_true];intro x hx;rw[List.mem_flatten] at hx;obtain⟨r,hr1,hr2⟩:=hx;obtain⟨k,_,rfl⟩:=mem_map.1 hr1;rw[rc hr2];rfl
   unfold H.store;rw[ho];simp only;rw[hfl2,hJ,fH (ad _),hone,Bool.and_self,ah,take_zero,nil_append,b5 (ad _),append_nil]
def BV(a b:List Nat):Bool:=!fZ b a
def Pw(a b c:List Nat)(h1:BV a b=true)(h2:BV b c=true):BV a c=true:=by
 unfold BV at *;simp only[cv] at *;cases h:fZ c a
 ·rfl
 ·rcases j6 a b with g | g | g
  ·have:=fO h g;rw[h2] at this;cases this
  ·rw[g,h2] at h;cases h
  ·rw[h1] at g;cases g
def Pv(a b:List Nat):(BV a b||BV b a)=true:=by
 unfold BV
 rcases j6 a b with g | g | g
 ·rw[tp g];rfl
 ·rw[g,dz];rfl
 ·rw[tp g];simp
def IJ{a b:List Nat}(h1:BV a b=true)(h2:BV b a=true):a=b:=by
 unfold BV at h1 h2;simp only[cv] at h1 h2
 rcases j6 a b with g | g | g
 ·rw[h2] at g;cases g
 ·exact g
 ·rw[h1] at g;cases g
def Po(x:List Nat):List (List Nat)->List (List Nat)
 | []=>[x]
 | y::l=>cond (BV x y) (x::y::l) (y::Po x l)
def dZ:List (List Nat)->List (List Nat)
 | []=>[]
 | x::l=>Po x (dZ l)
def WB(x:List Nat):∀l,(Po x l).Perm (x::l)
 | []=>.refl _
 | y::l=>by
  rw[Po];cases BV x y
  ·exact((WB x l).cons y).trans (.swap x y l)
  ·exact .refl _
def qG:∀l,(dZ l).Perm l
 | []=>.refl _
 | x::l=>(WB x _).trans ((qG l).cons x)
def XE(x:List Nat):∀l,l.Pairwise (λa b=>BV a b=true)->(Po x l).Pairwise λa b=>BV a b=true
 | [],_=>List.pairwise_singleton ..
 | y::l,h=>by
  obtain⟨h1,h2⟩:=List.pairwise_cons.1 h;rw[Po];cases g:BV x y
  ·refine List.pairwise_cons.2 ⟨λz hz=>?_,XE x l h2⟩
   rcases rt ((WB x l).mem_iff.1 hz) with rfl | hz
   ·have:=Pv z y;rw[g] at this;simpa using this
   ·exact h1 z hz
  ·refine List.pairwise_cons.2 ⟨λz hz=>?_,h⟩
   rcases rt hz with rfl | hz
   ·exact g
   ·exact Pw _ _ _ g (h1 z hz)
def JO:∀l,(dZ l).Pairwise λa b=>BV a b=true
 | []=>.nil
 | x::l=>XE x _ (JO l)
def L9{l ks:List (List Nat)}(hp:ks.Perm l)(hs:sY ks):ks=dZ l:=by
 have h2:(dZ l).Pairwise λa b=>BV a b=true:=JO l
 have h1:ks.Pairwise λa b=>BV a b=true:=by
  unfold sY at hs;refine hs.imp ?_;intro a b h;unfold BV;rw[h];rfl
 have hq:ks.Perm (dZ l):=hp.trans (qG l).symm;exact Perm.eq_of_pairwise (λa b _ _ h1 h2=>IJ h1 h2) h1 h2 hq
def Ol(l:List (List Nat)):(l.map rX).flatten=l.map AV.str:=by
 induction l with
 | nil=>rfl
 | cons a l ih=>rw[d7,fu,ih];rfl
def BA:∀l:List (List Nat),jM (l.flatMap (aw ab))=some (l.map AV.str)
 | []=>rfl
 | a::l=>by
  show jM (ab a::l.flatMap (aw ab))=_;rw[jM,cU,m7,BA l];rfl
def uR(l:List (List Nat))(hlen:l.length<=1000000)(hne:l≠[]):SC prog 91 [.buf 0 l.length 1 none] [.cells (l.flatMap (aw ab))] [] (λr S'=>r=.bB []/\S'=[.cells ((dZ l).flatMap (aw ab))]):=by
 have hl2:(dZ l).length=l.length:=(qG l).length_eq;refine SC.row (by rw[nr,nr,hl2]) (λθ ρ xs hx=>nE hx (Cc _)) ?_;intro E θ ρ h avs asx bX hl hR hA ho hV ⟨⟨x,y⟩,hf,hxy,b1,b2,b3,b4⟩;have has:=p9 hV (BA l);subst has;rw[aG] at hA;obtain⟨a,r,rfl,hA1,hA2⟩:=hA;rw[aU] at hA2;subst hA2;rw[VS] at hA1;subst hA1
 have hout:QK 0 h (.slice (some ((θ 0).id,0)) l.length 1 none) 1 (l.map rX):=by
  refine⟨Cp l,.inr ⟨(θ 0).id,bX,x,y,by simpa using hne,by rw[al],by rw[Ol];exact ho,hf,hxy,cc _,cc _,cc _,cc _,b4,b1,b2,b3⟩⟩
 refine(zU l _ 0 h hout hlen).mono ?_;rintro v h' ⟨rfl,ks',hp,hs,_,_,hst⟩;have:=L9 hp hs;subst this;refine⟨by rw[VS];exact⟨[],rfl,by rw[aU]⟩,_,?_,hst _ _ _ _ rfl⟩;rw[Ol];exact vx (BA _)
def fG(l:List (List Nat)):List (List Nat):=l.foldl (λacc x=>if acc.getLast?=some x then acc else acc++[x]) []
def um(l:List (List Nat))(x:List Nat):fG (l++[x])=if (fG l).getLast?=some x then fG l else fG l++[x]:=by
 unfold fG;rw[dk];rfl
def K9(l:List (List Nat))(x:List Nat):(fG (l++[x])).getLast?=some x:=by
 rw[um];by_cases h:(fG l).getLast?=some x
 ·rw[t8 h];exact h
 ·rw[ul h,List.getLast?_append];rfl
variable{l:List α}{i:Nat}
def bz{x:α}(h:l[i]?=some x):l.take (i+1)=l.take i++[x]:=by
 rw[dt,h];rfl
def Bl{l:List (List Nat)}{z y:List Nat}(hz:l[i]?=some z)(hy:l[i+1]?=some y):fG (l.take (i+1+1))=if z=y then fG (l.take (i+1)) else fG (l.take (i+1))++[y]:=by
 have h1:=K9 (l.take i) z;rw[bz hy,um,bz hz,h1];by_cases h:z=y
 ·rw[t8 h,t8 (by rw[h])]
 ·rw[ul h,ul (λe=>h (Option.some.inj e))]
def yk:∀{c:List (List Nat)} {i:Nat} {x:List Nat},c[i]?=some x->(c.flatMap (aw ab))[i]?=some (ab x)
 | [],i,x,h=>by simp at h
 | a::c,0,x,h=>by
  simp only[dc,n8] at h;subst h;rfl
 | a::c,i+1,x,h=>by
  simp only[cj] at h;exact yk (c:=c) h
def wI:∀(c:List (List Nat)) (i:Nat),(c.flatMap (aw ab)).take i=(c.take i).flatMap (aw ab)
 | [],i=>by simp
 | a::c,0=>rfl
 | a::c,i+1=>by
  show(ab a::c.flatMap (aw ab)).take (i+1)=_;rw[e4,wI c i];rfl
def CA:∀(c:List (List Nat)) (i:Nat),(c.flatMap (aw ab)).drop i=(c.drop i).flatMap (aw ab)
 | [],i=>by simp
 | a::c,0=>rfl
 | a::c,i+1=>by
  show(ab a::c.flatMap (aw ab)).drop (i+1)=_;rw[eF,CA c i];rfl
def Tt{c:List α}(y:α)(h:i<c.length):c.set i y=c.take i++(y::c.drop (i+1)):=by
 rw[b7,t8 h]
def Vn{c:List (List Nat)}(y:List Nat)(h:i<c.length):(c.flatMap (aw ab)).take i++(ab y::(c.flatMap (aw ab)).drop (i+1))=(c.set i y).flatMap (aw ab):=by
 rw[Tt y h,bo,wI,CA];rfl
def Sx(n:Nat):(rep [AV.str []] n).all lu=true:=by
 induction n with
 | zero=>rfl
 | succ n ih=>rw[rep,co,ih];rfl
def Dz(l:List (List Nat))(hlen:l.length<=1000000)(hne:l≠[]):SC prog 232 [.buf 0 l.length 1 none] [.cells (l.flatMap (aw ab))] [] (λr S'=>r=.buf 0 (fG l).length 1 none/\S'=[.cells ((fG l++aV (l.length-(fG l).length) []).flatMap (aw ab))]):=by
 have h0:0<l.length:=by
  cases l with
  | nil=>exact t7 rfl hne
  | cons a l=>exact gd _
 refine Oo 61 func232 ?_
 have fin:fG l=l->fG l++aV (l.length-(fG l).length) []=l:=λh=>by rw[h,d8,d6,append_nil]
 obtain⟨x0,hx0⟩:∃x,l[0]?=some x:=⟨l[0],jp h0⟩
 have ht1:fG (l.take 1)=l.take 1:=by
  rw[bz hx0,take_zero];rfl
 by_cases h2:l.length<2
 ·have hc:fG l=l:=by
   have:=ht1;rw[af gt] at this;exact this
  refine(zV)<|(aA (show decide ((l.length:Int)<2)=true by simp only[wp];omega))<|(cN)<|(zE) ?_;exact zP [.tmp 2] (hq:=by (try simp only[dA,aY]);first | done | (rw[fin hc,hc];exact⟨rfl,rfl⟩))
 refine(zV)<|(aA (show decide ((l.length:Int)<2)=false by simp only[wd];omega))<|(jG) ?_
 (repeat refine aD.seq ?_)
 refine aD.block (aD.loop (λm st=>∃k:Nat,1<=k/\k<=l.length/\m=l.length-k/\fG (l.take k)=l.take k/\st=⟨[(0,.buf 0 l.length 1 none),(3,aa k),(1000000,.ptr 0 0)],61,[.cells (l.flatMap (aw ab))],[]⟩) (l.length-1) zH ⟨1,by omega,by omega,rfl,ht1,rfl⟩ (by rintro m st ⟨k,_,_,_,_,rfl⟩;rfl) ?_);rintro m st ⟨k,hk1,hk,rfl,hall,rfl⟩;refine(zV) ?_;by_cases hlt:k<l.length;rotate_left
 ·rw[show decide ((k:Int)<(l.length:Int))=false by simp only[wd];omega]
  refine(fC)<|(zV) ?_
  have hc:fG l=l:=by
   rw[af gt] at hall;exact hall
  refine(zE) ?_;exact zP [.tmp 2] (hq:=by (try simp only[dA,aY]);first | done | (rw[fin hc,hc];exact⟨rfl,rfl⟩))
 rw[show decide ((k:Int)<(l.length:Int))=true by simp only[wp];omega];obtain⟨j,rfl⟩:∃j,k=j+1:=⟨k-1,by omega⟩;obtain⟨x,hx⟩:∃x,l[j]?=some x:=⟨l[j],jp gt⟩;obtain⟨y,hy⟩:∃y,l[j+1]?=some y:=⟨l[j+1],jp hlt⟩
 have hj:j<l.length:=by omega
 refine(gJ)<|(zs) ?_;refine uW [0,0,3,7,0,0,32,112,240,511] ?_;refine(tT (Af hlt @b9 (yk hy) (TT (show -9223372036854775808<=((j+1:Nat):Int)-1/\((j+1:Nat):Int)-1<=9223372036854775807 from⟨by omega,by omega⟩)) (show((j+1:Nat):Int)-1=(j:Int) from by omega) hj (yk hx)))<|(zM) ?_
 have hst:=Bl hx hy;cases g:decide (y=x)
 ·have g':¬x=y:=λe=>by rw[e] at g;simp at g
  refine(zN)<|(aA (xn (show -9223372036854775808<=((j+1:Nat):Int)+1/\((j+1:Nat):Int)+1<=9223372036854775807 from⟨by omega,by omega⟩))) ?_;refine⟨l.length-(j+1+1),_,by omega,zH,j+1+1,by omega,by omega,rfl,?_,rfl⟩
  rw[hst,ul g',hall,<-bz hy]
 have g':x=y:=by simpa using(ww g).symm
 refine(zY) ?_
 have hc0:fG (l.take (j+1+1))=l.take (j+1):=by rw[hst,t8 g',hall]
 refine(aA (br (ON hk) @b9))<|(zV) ?_
 (repeat refine aD.seq ?_)
 refine aD.block (aD.loop (λm st=>∃(k2 k:Nat) (c:List (List Nat)),(1<=k2/\k2<=l.length-(j+1))/\(j+1<=k/\k<=j+k2)/\m=l.length-k2/\(c.length=l.length/\c.take k=fG (l.take (j+1+k2))/\c.drop k=l.drop k)/\st=⟨[(0,.buf 0 l.length 1 none),(3,aa k),(4,.sub 0 (j+1) (l.length-(j+1)) 1 none),(5,aa k2),(1000000,.ptr 0 0)],61,[.cells (c.flatMap (aw ab))],[]⟩) (l.length-1) zH ⟨1,j+1,l,⟨by omega,by omega⟩,⟨by omega,by omega⟩,rfl,⟨rfl,hc0.symm,rfl⟩,rfl⟩ (by rintro m st ⟨k2,k,c,_,_,_,_,rfl⟩;rfl) ?_);rintro m st ⟨k2,k,c,⟨hk21,hk22⟩,⟨hkl,hku⟩,rfl,⟨hcl,hct,hcd⟩,rfl⟩;refine(zV) ?_;by_cases hlt2:k2<l.length-(j+1);rotate_left
 ·rw[show decide ((k2:Int)<((l.length-(j+1):Nat):Int))=false by simp only[wd];omega];refine(fC) ?_
  have hkn:k<=l.length:=by omega
  have hcN:fG l=c.take k:=by
   rw[hct,af gt]
  have hlN:(fG l).length=k:=by rw[hcN,aj];omega
  have hrest:(c.flatMap (aw ab)).take k++((rep [AV.str []] (l.length-k)).map SV.a++(c.flatMap (aw ab)).drop (k+(l.length-k)))=(fG l++aV (l.length-(fG l).length) []).flatMap (aw ab):=by
   rw[hlN,Fw,wI,CA,b5 gt,bo,<-hcN];simp
  by_cases hz:l.length-k=0
  ·have hk3:k=l.length:=by omega
   refine(zs) ?_;refine aD.r0 ge (by simp only[cG,bG,an,az,m7,m6,↓reduceIte,ac,a6,bv,ap,bs,ah,ar,bD,xu hkn,b9,hz];first | done | rfl) ?_;refine(aA (br (VI hkn) @ct))<|(zE) ?_;exact zP [.tmp 2] (hq:=by (try simp only[dA,aY]);first | done | (rw[hlN];refine⟨rfl,?_⟩;rw[hz,d6,append_nil,hcN,hk3,af gt]))
  ·refine(zs) ?_;refine aD.r0 ge (by simp only[cG,bG,an,az,m7,m6,↓reduceIte,ac,a6,bv,ap,bs,ah,ar,bD,xu hkn,b9,hz,Sx,nr,hcl,show k+(l.length-k)<=l.length by omega,hrest];first | done | rfl) ?_;refine(aA (br (VI hkn) @ct))<|(zE) ?_;exact zP [.tmp 2] (hq:=by (try simp only[dA,aY]);first | done | (rw[hlN];first | exact⟨rfl,rfl⟩ | exact⟨rfl,trivial⟩ | exact⟨trivial,trivial⟩))
 rw[show decide ((k2:Int)<((l.length-(j+1):Nat):Int))=true by simp only[wp];omega];obtain⟨i,rfl⟩:∃i,k2=i+1:=⟨k2-1,by omega⟩;obtain⟨u,hu⟩:∃u,l[j+1+i]?=some u:=⟨l[j+1+i],jp gt⟩;obtain⟨v,hv⟩:∃v,l[j+1+i+1]?=some v:=⟨l[j+1+i+1],jp gt⟩
 have hcu:c[j+1+i]?=some u:=by
  have:(c.drop k)[j+1+i-k]?=(l.drop k)[j+1+i-k]?:=by rw[hcd]
  rw[ci,ci,show k+(j+1+i-k)=j+1+i by omega] at this;rw[this,hu]
 have hcv:c[j+1+(i+1)]?=some v:=by
  have:(c.drop k)[j+1+i+1-k]?=(l.drop k)[j+1+i+1-k]?:=by rw[hcd]
  rw[ci,ci,show k+(j+1+i+1-k)=j+1+i+1 by omega] at this;rw[<-Nat.add_assoc,this,hv]
 have hi:i<l.length-(j+1):=by omega
 have hs2:=Bl hu hv
 refine(gJ)<|(zs) ?_;refine uW [0,0,3,7,0,0,32,112,240,511] ?_;refine(tT (Af hlt2 @b9 (yk hcv) (TT (show -9223372036854775808<=((i+1:Nat):Int)-1/\((i+1:Nat):Int)-1<=9223372036854775807 from⟨by omega,by omega⟩)) (show((i+1:Nat):Int)-1=(i:Int) from by omega) hi (yk hcu)))<|(zM) ?_
 cases g2:decide (v=u);rotate_left
 ·have g3:u=v:=(ww g2).symm
  refine(zN)<|(aA (xn (show -9223372036854775808<=((i+1:Nat):Int)+1/\((i+1:Nat):Int)+1<=9223372036854775807 from⟨by omega,by omega⟩))) ?_;refine⟨l.length-(i+1+1),_,by omega,zH,i+1+1,k,c,⟨by omega,by omega⟩,⟨by omega,by omega⟩,rfl,⟨hcl,?_,hcd⟩,rfl⟩
  rw[t8 g3] at hs2;rw[show j+1+(i+1+1)=j+1+i+1+1 by omega,hs2,hct];rfl
 have g3:¬u=v:=λe=>by rw[e] at g2;simp at g2
 have hkn:k<l.length:=by omega
 have hkc:k<c.length:=by omega
 refine(zY)<|(aA (KO hlt2 @b9 (yk hcv) hkn @nr hcl (show k+1<=l.length by omega) (Vn v hkc)))<|(aA (xn (show -9223372036854775808<=(k:Int)+1/\(k:Int)+1<=9223372036854775807 from⟨by omega,by omega⟩)))<|(aA (xn (show -9223372036854775808<=((i+1:Nat):Int)+1/\((i+1:Nat):Int)+1<=9223372036854775807 from⟨by omega,by omega⟩))) ?_;refine⟨l.length-(i+1+1),_,by omega,zH,i+1+1,k+1,c.set k v,⟨by omega,by omega⟩,⟨by omega,by omega⟩,rfl,⟨by rw[a7,hcl],?_,?_⟩,rfl⟩
 ·rw[ul g3] at hs2;rw[show j+1+(i+1+1)=j+1+i+1+1 by omega,hs2,Tt v hkc,el,aj,aS gt,show k+1-k=1 by omega,d0,ga gt,hct];rfl
 ·rw[hI,t8 gt];have:=n9 (List.drop 1) hcd;rw[ei,ei] at this;exact this
def bn(o e n:Nat):SV:=if n=0 then cY else .buf o n e none
def sD(o:Nat)(l:List α)(enc:α->List SV):List SO:=if l=[] then [] else aV o .gone++[.cells (l.flatMap enc)]
def fv(o e:Nat):bn o e 0=cY:=rfl
def Gl(o e n:Nat):bn o e (n+1)=.buf o (n+1) e none:=rfl
def bR{e n:Nat}(h:¬n=0):bn o e n=.buf o n e none:=ul h
def ny{α:Type}(o:Nat)(enc:α->List SV):sD o [] enc=[]:=rfl
variable{enc:α->List SV}
def jS(h:¬l=[]):sD o l enc=aV o .gone++[.cells (l.flatMap enc)]:=ul h
def og{α:Type}(o:Nat)(l:List α)(x:α)(enc:α->List SV):sD o (l++[x]) enc=aV o .gone++[.cells ((l++[x]).flatMap enc)]:=ul f5
def aM{α:Type}{enc:α->List SV}{e:Nat}(he:∀x,(enc x).length=e):∀l:List α,(l.flatMap enc).length=l.length*e
 | []=>by simp
 | a::l=>by rw[flatMap_cons,li,he,aM he l,i7,d9,er]
def dw{e:Nat}(he:∀x,(enc x).length=e)(l:List α):(l.flatMap enc).take (l.length*e)=l.flatMap enc:=
 af (by rw[aM he];exact ad _)
def eV{e:Nat}(he:∀x,(enc x).length=e)(hg:∀x,cg (enc x)=true)(o:Nat)(l:List α)(x:α):((l.flatMap enc).take (l.length*e)++enc x).map (aW o)=(l++[x]).flatMap enc:=by
 rw[dw he,c0,bL (hg x),bL (aB hg l),bo];simp
def bf(hg:∀x,cg (enc x)=true)(o:Nat)(l:List α):(l.flatMap enc).map (aW o)=l.flatMap enc:=bL (aB hg l)
def OA{e:Nat}(he:∀x,(enc x).length=e)(hg:∀x,cg (enc x)=true)(l:List α):Wk (sD o l enc) (bn o e l.length) (an e l enc):=by
 by_cases h:l=[]
 ·subst h;exact Wk.nil _
 ·have h0:¬l.length=0:=λe=>h (rx e);rw[bR h0,jS h];refine Wk.buf (cs:=l.flatMap enc) ?_ ?_ ?_
  ·rw[List.getElem?_append_right (by rw[cp];exact ad _),cp,d8];rfl
  ·rw[dw he];exact cS.refl (aB hg l)
  ·rw[aM he];exact ad _
def wU:PC prog 91 [cY] (·=.a (.bB [])):=by
 intro ρ h avs _ hA;rw[e7] at hA;obtain⟨a,r,rfl,hA1,hA2⟩:=hA;rw[iB] at hA2;subst hA2;rw[GS] at hA1;subst hA1;refine(zU [] _ h.next h ⟨by simp,.inl ⟨rfl,rfl⟩⟩ f5).mono ?_;rintro v h' ⟨rfl,_,_,_,_,ho,_⟩;exact⟨_,ρ,rfl,ho,λid ob hi=>.inl hi,by rw[GS]⟩
def Au:PC prog 232 [cY] (·=cY):=by
 refine pB 61 func232 ?_;exact(nP)<|(cN)<|zo [.tmp 2]
def JM(l:List (List Nat)):List (List Nat):=fG (dZ l)
def Ts:JM []=[]:=rfl
def Kg(ls:List (List (List Nat)))(hl:ls.length<=1000000)(hb:ls.flatten.length<=1000000):PC prog 204 [an 1 ls jU] (·=an 1 (JM ls.flatten) (aw ab)):=by
 refine pB 10 Tryz.func204 ?_;have hc:=J2 ls hl hb;refine(lJ) ?_;by_cases h0:ls.flatten=[]
 ·rw[rE,Tj,t8 h0,t8 h0] at hc
  refine zS [] trivial hc ?_;exact(zR)<|(zC)<|(zK wU)<|(zR)<|(zC)<|(zK Au)<|(zR)<|zo [.tmp 2] (r:=.sl 0 1 []) (hw:=Wk.nil _) (hq:=by rw[h0,Ts];rfl)
 ·rw[rE,Tj,ul h0,ul h0] at hc;have hl2:(dZ ls.flatten).length=ls.flatten.length:=(qG ls.flatten).length_eq;have h1:dZ ls.flatten≠[]:=λe=>h0 (rx (by rw[<-hl2,e];rfl));have hcc:=Dz (dZ ls.flatten) (by rw[hl2];exact hb) h1;rw[hl2] at hcc
  refine zS [] trivial hc ?_;refine(zR)<|(zC) ?_;refine zS [0] trivial (uR _ hb h0) ?_;refine(zR)<|(zC) ?_;refine zS [0] trivial hcc ?_;exact(zR)<|zo [.tmp 2] (r:=an 1 (JM ls.flatten) (aw ab)) (hw:=by exact .buf rfl (by rw[b9,wI,List.take_left'];(exact cS.refl (NF _));rfl) (by rw[nr,li];omega))
def gS(r:aN):List (List Nat):=if Proofs.cT r=false then [] else JM (r.opts.map cu).flatten
def I5(e:bj):(cu e).length<=2:=by
 unfold cu;split
 ·simp
 ·split<;>simp
def FX(k:Nat):∀ls:List bj,(ls.map cu).flatten.length<=2*ls.length
 | []=>by simp
 | a::l=>by
  have:=FX k l;have:=I5 a;rw[d7,fu,li,i7];omega
def tE(l:List (List Nat)):(jU l).length=1:=rfl
def yl(l:List (List Nat)):cg (jU l)=true:=rfl
def MJ(r:aN)(hr:eu r)(hlen:r.opts.length<=400000):PC prog 141 [.ag (ae r)] (·=an 1 (gS r) (aw ab)):=by
 refine pB 24 Tryz.func141 ?_;refine(aA @ae.eq_1)<|(zC)<|(zK (pj r hr)) ?_
 cases h1:Proofs.cT r
 ·exact(zR)<|(cN)<|zo [.tmp 2] (r:=.sl 0 1 []) (hw:=Wk.nil _) (hq:=by rw[gS,t8 h1];rfl)
 refine(zR)<|(jG)<|(aA @an.eq_1)<|(zs) ?_;refine zL r.opts (λk=>True) (λk=>[(3,bn 2 1 k),(10,an 14 r.opts aE),(11,aa r.opts.length),(12,aa k)]) (λk=>sD 2 ((r.opts.take k).map Proofs.cu) jU) (bK (jB @take_zero.{0} @List.map_nil.{0,0} @fv @ny)) zp ?_;intro k hk hall;refine zT r.opts k ?_ ?_;rintro rfl;rotate_left;intro e hx hlt;rotate_left
 ·refine(fC) ?_
  have hpos:¬r.opts.length=0:=by
   intro h;unfold Proofs.cT at h1;rw[h] at h1;simp at h1
  have hne:¬r.opts.map Proofs.cu=[]:=λh=>hpos (by have:=n9 g8 h;rwa [al] at this);rw[bk,bR hpos,jS hne];refine zZ [(3,an 1 (r.opts.map Proofs.cu) jU)] 2 rfl ⟨.inr ?_,trivial⟩ ?_
  ·have:=Wk.buf (S:=mK 2 (.cells ((r.opts.map Proofs.cu).flatMap jU))) (o:=2) (n:=r.opts.length) (e:=1) (c:=none) (cs:=(r.opts.map Proofs.cu).flatMap jU) (ds:=(r.opts.map Proofs.cu).flatMap jU) rfl ?_ ?_
   ·rw[an,al];exact this
   ·have h2:=dw tE (r.opts.map Proofs.cu);rw[al] at h2;rw[h2];exact cS.refl (aB yl _)
   ·rw[aM tE,al];exact ad _
  exact(zC)<|(zK (Kg (r.opts.map Proofs.cu) (by rw[al];omega) (by have:=FX 0 r.opts;omega)) (hfl:=.inr zr))<|(zR)<|zo [.tmp 2] (r:=an 1 (JM (r.opts.map Proofs.cu).flatten) (aw ab)) (hw:=Wk.refl rfl) (hq:=by rw[gS,ul (by rw[h1];decide)])
 have he:rY e:=hr.ev e (a8 hx);refine(gJ) ?_;have ht:=bz hx;by_cases hk0:k=0
 ·rw[show(r.opts.take k).map Proofs.cu=[] by rw[hk0];rfl,ny,show bn 2 1 k=cY by rw[hk0];rfl]
  have ht1:(r.opts.take (k+1)).map Proofs.cu=[]++[Proofs.cu e]:=by rw[ht,hk0];rfl
  have hn1:bn 2 1 (k+1)=.buf 2 1 1 none:=by rw[hk0];rfl
  refine(aA (cA hlt (aH (e:=14) (enc:=aE) ce hx) @aE.eq_1))<|(jH @aE.eq_1)<|(zK (wS e he) (hfl:=.inr zr))<|(zR)<|(aA (zi hlt hr.len)) ?_;refine zX hlt (bK (KO ht1 hn1 @og @flatMap_cons.{0,0} @flatMap_nil.{0,0} @jU.eq_1 @nil_append.{0} sH)) trivial
 have hne:¬(r.opts.take k).map Proofs.cu=[]:=λh=>hk0 (by have:=n9 g8 h;rw[al,aj,aS gt] at this;exact this);rw[jS hne,bR hk0]
 have hlk:((r.opts.take k).map Proofs.cu).length=k:=by rw[al,aj,aS gt]
 have ht1:(r.opts.take (k+1)).map Proofs.cu=(r.opts.take k).map Proofs.cu++[Proofs.cu e]:=by rw[ht,c0];rfl
 have hcl:=aM tE ((r.opts.take k).map Proofs.cu);rw[hlk] at hcl;have happ:=eV tE yl 2 ((r.opts.take k).map Proofs.cu) (Proofs.cu e);rw[hlk,jU,an] at happ;have hkc:=λo=>bf yl o ((r.opts.take k).map Proofs.cu)
 refine(aA (ik hlt (aH (e:=14) (enc:=aE) ce hx) @aE.eq_1 sH hkc))<|(jH @aE.eq_1)<|(zK (wS e he) (hfl:=.inr zr))<|(cO (ik hcl happ hkc (show k<=1000000 by omega) @ad))<|(aA (zi hlt hr.len)) ?_;refine zX hlt (bK (jB ht1 @Gl @og sH)) trivial
def LO(p:aN×Int):Bool:=!(decide (p.2<0))&&!(decide (bp p.1<=p.2))
def gH(p:aN×Int):List bj:=(p.1.opts[p.2.toNat]?).toList
def mc(l:List aN)(ch:List Int):Option (List bj):=if l.length=ch.length then (if (l.zip ch).all LO then some ((l.zip ch).flatMap gH) else none) else none
def N1:Option (List bj)->SV
 | some es=>.bB [an 14 es aE,aa 0]
 | none=>.bB [.sl 0 14 [],aa 1]
def ea(e:bj):(aE e).length=14:=rfl
def ew(e:bj):aE e=[aa e.op,aa e.day,ab e.part,ab e.kind,ab e.aO,ab e.slot,ab e.key,ab e.value,aa e.u1,aa e.u2,aa e.u3,aa e.u4,aa e.u5,aa e.u6]:=rfl
def dF(e:bj):cg (aE e)=true:=rfl
def SM(p:aN×Int):(gH p).length<=1:=by
 unfold gH;cases p.1.opts[p.2.toNat]?<;>simp
def uu:∀l:List (aN×Int),(l.flatMap gH).length<=l.length
 | []=>by simp
 | a::l=>by
  have:=SM a;have:=uu l;rw[flatMap_cons,li,i7];omega
def uk(r:aN):bp r<=(r.opts.length:Int)+1:=by
 unfold bp;split
 ·omega
 ·split<;>omega
def Kq(l:List aN)(ch:List Int)(hl:∀r∈l,eu r)(hlen:l.length<=1000000)(hlc:ch.length<=1000000):PC prog 50 [an 2 l ae,an 1 ch (aw aa)] (·=N1 (mc l ch)):=by
 refine pB 49 Tryz.func50 ?_;refine(zV) ?_
 (repeat refine aD.seq ?_)
 refine aD.scope ?_;refine(zV) ?_;by_cases heq:l.length=ch.length;rotate_left
 ·rw[show(!decide ((l.length:Int)=(ch.length:Int)))=true by simp;omega]
  exact(cN)<|ji [.tmp 4,.tmp 5] (r:=.bB [.sl 0 14 [],aa 1]) (hw:=.bB (.cons (.nil _) (.cons (.a _) .nil))) (hq:=by rw[mc,ul heq];rfl)
 rw[show(!decide ((l.length:Int)=(ch.length:Int)))=false by simp;omega];refine(jG) ?_
 (repeat refine aD.seq ?_)
 refine aD.label ?_
 (try change aD _ _ _ _ _)
 refine(zV) ?_
 have hz:∀{k:Nat} {r:aN} {n:Int},l[k]?=some r->ch[k]?=some n->(l.zip ch)[k]?=some (r,n):=λh1 h2=>by
  rw[List.getElem?_zip_eq_some];exact⟨h1,h2⟩
 refine(zs) ?_;refine zL l (λk=>((l.zip ch).take k).all LO=true) (λk=>[(1,an 1 ch (aw aa)),(6,bn 2 14 (((l.zip ch).take k).flatMap gH).length),(15,an 2 l ae),(16,aa l.length),(17,aa k)]) (λk=>sD 2 (((l.zip ch).take k).flatMap gH) aE) (bK (ik @take_zero.{0} @flatMap_nil.{0,0} @g9.{0} @fv @ny)) zp ?_;intro k hk hall;refine zT l k ?_ ?_;rintro rfl;rotate_left;intro r hx hlt;rotate_left
 ·refine(fC) ?_
  have hzl:(l.zip ch).length=l.length:=by rw[List.length_zip,<-heq,gb]
  rw[<-hzl,bk] at hall ⊢
  exact(zV)<|ji [.tmp 4,.tmp 5] (r:=.bB [an 14 ((l.zip ch).flatMap gH) aE,aa 0]) (hw:=.bB (.cons (OA ea dF _) (.cons (.a _) .nil))) (hq:=by rw[mc,t8 heq,t8 hall];rfl)
 have hrk:eu r:=hl r (a8 hx);have hr1:=hrk.len;obtain⟨n,hn⟩:∃n,ch[k]?=some n:=⟨ch[k],jp gt⟩;have hzk:=hz hx hn;have ht:=bz hzk
 have hlc2:k<ch.length:=by omega
 have hall2:LO (r,n)=true->((l.zip ch).take (k+1)).all LO=true:=λh=>by
  rw[ht,co,hall];show(true&&(LO (r,n)&&true))=true;rw[h];rfl
 have hbad:LO (r,n)=false->mc l ch=none:=λh=>by
  rw[mc,t8 heq,ul];intro h2;have:=all_eq_true.1 h2 _ (a8 hzk);rw[h] at this;cases this
 have hol:(((l.zip ch).take k).flatMap gH).length<=k:=by
  have:=uu ((l.zip ch).take k);rw[aj] at this;omega
 have hfm:((l.zip ch).take (k+1)).flatMap gH=((l.zip ch).take k).flatMap gH++gH (r,n):=by rw[ht,bo];simp
 generalize hO:((l.zip ch).take k).flatMap gH=out at hol hfm;refine(gJ) ?_;have hcl:=aM ea out;have hkc:=λo=>bf dF o out
 have fin:gH (r,n)=[]->bn 2 14 (((l.zip ch).take (k+1)).flatMap gH).length=bn 2 14 out.length/\sD 2 (((l.zip ch).take (k+1)).flatMap gH) aE=sD 2 out aE:=λh=>by rw[hfm,h,append_nil];exact⟨rfl,rfl⟩
 by_cases hk0:out=[]
 ·rw[show sD 2 out aE=[] by rw[hk0];rfl,show bn 2 14 out.length=cY by rw[hk0];rfl]
  refine(aA (cA hlt (aH (e:=2) (enc:=ae) ce hx) @ae.eq_1))<|(aA (cA hlc2 (aH (e:=1) (enc:=aw aa) ce hn) @aw.eq_1)) ?_
  cases g1:decide (n<0);rotate_left
  ·exact(aA g1)<|(cN)<|ji [.tmp 4,.tmp 5] (r:=.bB [.sl 0 14 [],aa 1]) (hw:=.bB (.cons (.nil _) (.cons (.a _) .nil))) (hq:=by rw[hbad (by rw[LO,g1];rfl)];rfl)
  have hn0:=wt g1;obtain⟨i,rfl⟩:∃i:Nat,n=(i:Int):=⟨n.toNat,by omega⟩
  refine(jH g1)<|(zK (jv r hrk)) ?_
  cases g2:decide (bp r<=(i:Int));rotate_left
  ·exact(cO g2)<|(cN)<|ji [.tmp 4,.tmp 5] (r:=.bB [.sl 0 14 [],aa 1]) (hw:=.bB (.cons (.nil _) (.cons (.a _) .nil))) (hq:=by rw[hbad (by rw[LO,g1,g2];rfl)];rfl)
  refine(cO g2)<|(zN) ?_
  have hok:LO (r,(i:Int))=true:=by rw[LO,g1,g2];rfl
  have hcl2:=uk r;have hi1:=wt g2;by_cases g3:i=r.opts.length
  ·have hp:gH (r,(i:Int))=[]:=by
    show(r.opts[i]?).toList=[];rw[cf gt];rfl
   obtain⟨f1,f2⟩:=fin hp;have hE1:bn 2 14 out.length=cY:=(by rw[hk0];rfl);have hE2:sD 2 out aE=[]:=(by rw[hk0];rfl)
   refine(aA (show decide ((i:Int)=(r.opts.length:Int))=true by simp only[wp];omega))<|(zY) ?_;refine aD.exit ?_;refine(aA (zi hlt hlen)) ?_;refine zX hlt (bK (jB f1 f2 hE1 hE2)) (hall2 hok)
  ·have hi2:i<r.opts.length:=by omega
   obtain⟨e,hei⟩:∃e,r.opts[i]?=some e:=⟨r.opts[i],jp hi2⟩
   have hp:gH (r,(i:Int))=[e]:=by
    show(r.opts[i]?).toList=[e];rw[hei];rfl
   refine(aA (show decide ((i:Int)=(r.opts.length:Int))=false by simp only[wd];omega))<|(zN) ?_
   rw[hp] at hfm
   have hE3:bn 2 14 (((l.zip ch).take (k+1)).flatMap gH).length=.buf 2 1 14 none:=by rw[hfm,hk0];rfl
   have hE4:sD 2 (((l.zip ch).take (k+1)).flatMap gH) aE=[.gone,.gone,.cells (aE e)]:=by rw[hfm,hk0];rfl
   refine(aA (cA hi2 (aH (e:=14) (enc:=aE) ce hei) @aE.eq_1))<|(aA (zi hlt hlen)) ?_;refine zX hlt (bK (cA hE3 hE4 @aE.eq_1)) (hall2 hok)
 ·have hk1:¬out.length=0:=λh=>hk0 (rx h);rw[jS hk0,bR hk1]
  refine(aA (ik hlt (aH (e:=2) (enc:=ae) ce hx) @ae.eq_1 sH hkc))<|(aA (cA hlc2 (aH (e:=1) (enc:=aw aa) ce hn) @aw.eq_1)) ?_
  cases g1:decide (n<0);rotate_left
  ·exact(aA g1)<|(cN)<|ji [.tmp 4,.tmp 5] (r:=.bB [.sl 0 14 [],aa 1]) (hw:=.bB (.cons (.nil _) (.cons (.a _) .nil))) (hq:=by rw[hbad (by rw[LO,g1];rfl)];rfl)
  have hn0:=wt g1;obtain⟨i,rfl⟩:∃i:Nat,n=(i:Int):=⟨n.toNat,by omega⟩
  refine(jH g1)<|(zK (jv r hrk)) ?_
  cases g2:decide (bp r<=(i:Int));rotate_left
  ·exact(cO g2)<|(cN)<|ji [.tmp 4,.tmp 5] (r:=.bB [.sl 0 14 [],aa 1]) (hw:=.bB (.cons (.nil _) (.cons (.a _) .nil))) (hq:=by rw[hbad (by rw[LO,g1,g2];rfl)];rfl)
  refine(cO g2)<|(zN) ?_
  have hok:LO (r,(i:Int))=true:=by rw[LO,g1,g2];rfl
  have hcl2:=uk r;have hi1:=wt g2;by_cases g3:i=r.opts.length
  ·have hp:gH (r,(i:Int))=[]:=by
    show(r.opts[i]?).toList=[];rw[cf gt];rfl
   obtain⟨f1,f2⟩:=fin hp
   skip
   refine(aA (br hkc (show decide ((i:Int)=(r.opts.length:Int))=true by simp only[wp];omega)))<|(zY) ?_;refine aD.exit ?_;refine(zs) ?_;refine aD.r0 ge (fF (xn (rf hlt hlen gc))) ?_;refine⟨l.length-(k+1),_,by omega,(Fg.less (by (simp only[cG,bG,dU,↓reduceIte,ac,an,f1,f2,bR hk1,jS hk0,aV])<;>(repeat' apply b6)<;>first | rfl | trivial) (by (simp only[cG,bG,or_true,true_or,an,f1,f2,bR hk1,jS hk0,aV])<;>(repeat' apply b6)<;>first | exact .inr rfl | exact .inl rfl | trivial)),k+1,by omega,rfl,(hall2 hok),rfl⟩
  ·have hi2:i<r.opts.length:=by omega
   obtain⟨e,hei⟩:∃e,r.opts[i]?=some e:=⟨r.opts[i],jp hi2⟩
   have hp:gH (r,(i:Int))=[e]:=by
    show(r.opts[i]?).toList=[e];rw[hei];rfl
   refine(aA (br hkc (show decide ((i:Int)=(r.opts.length:Int))=false by simp only[wd];omega)))<|(zN) ?_
   rw[hp] at hfm;have happ:=eV ea dF 2 out e;rw[ew] at happ
   have hE3:bn 2 14 (((l.zip ch).take (k+1)).flatMap gH).length=.buf 2 (out.length+1) 14 none:=by rw[hfm,li];rfl
   have hE4:sD 2 (((l.zip ch).take (k+1)).flatMap gH) aE=[.gone,.gone,.cells ((out++[e]).flatMap aE)]:=by rw[hfm,og];rfl
   refine(aA (KO hi2 (aH (e:=14) (enc:=aE) ce hei) @aE.eq_1 hcl hkc (show out.length<=1000000 by omega) @ad happ))<|(aA (zi hlt hlen)) ?_;refine zX hlt (bK (br hE3 hE4)) (hall2 hok)
section
variable {α:Type} {c:α->SV}
def A0(l:List α):l.flatMap (aw c)=l.map c:=by
 induction l with
 | nil=>rfl
 | cons a l ih=>rw[flatMap_cons,ih];rfl
def Gv{l:List α}{x:α}(h:l[i]?=some x):(l.flatMap (aw c))[i]?=some (c x):=by
 rw[A0,cl,h];rfl
def vV(l:List α):(l.flatMap (aw c)).length=l.length:=by rw[A0,List.length_map]
def Ji{l:List α}(y:α)(h:i<l.length):(l.flatMap (aw c)).take i++(c y::(l.flatMap (aw c)).drop (i+1))=(l.set i y).flatMap (aw c):=by
 rw[A0,A0,List.map_set,b7,t8 (by rw[al];exact h)]
end
abbrev cI(n:Nat):SV:=aa (n:Int)
def eh(f:List Nat):Prop:=∀(j:Nat) x,f[j]?=some x->x<=j
def rT:Nat->List Nat->Nat->Nat×List Nat
 | 0,f,i=>(i,f)
 | s+1,f,i=>if f.getD i 0=i then (i,f) else rT s (f.set i (f.getD (f.getD i 0) 0)) (f.getD (f.getD i 0) 0)
def eP(f:List Nat)(i:Nat):Nat×List Nat:=rT i f i
def eh.set{f:List Nat}(h:eh f){i y:Nat}(hy:y<=i):eh (f.set i y):=by
 intro j x hx;by_cases e:i=j
 ·subst e
  have hl:i<f.length:=by
   have:=aR hx;rwa [a7] at this
  rw[ej hl] at hx;cases hx;exact hy
 ·rw[List.getElem?_set_ne e] at hx;exact h j x hx
def JG:∀(s:Nat) (f:List Nat) (i:Nat),eh f->i<f.length->eh (rT s f i).2/\(rT s f i).2.length=f.length/\(rT s f i).1<=i
 | 0,f,i,h,hi=>⟨h,rfl,Nat.le_refl _⟩
 | s+1,f,i,h,hi=>by
  unfold rT;split
  ·exact⟨h,rfl,Nat.le_refl _⟩
  ·obtain⟨p,hp⟩:∃p,f[i]?=some p:=⟨f[i],jp hi⟩;have hpi:=h i p hp;obtain⟨q,hq⟩:∃q,f[p]?=some q:=⟨f[p],jp gt⟩;have hqp:=h p q hq
   have e1:f.getD i 0=p:=by rw[List.getD_eq_getElem?_getD,hp];rfl
   have e2:f.getD p 0=q:=by rw[List.getD_eq_getElem?_getD,hq];rfl
   rw[e1,e2];obtain⟨g1,g2,g3⟩:=JG s (f.set i q) q (h.set gt) (by rw[List.length_set];omega);exact⟨g1,by rw[g2,List.length_set],by omega⟩
def mf{f:List Nat}(h:eh f)(hi:i<f.length):eh (eP f i).2/\(eP f i).2.length=f.length/\(eP f i).1<=i:=JG i f i h hi
def tG(f:List Nat)(i:Nat)(hf:eh f)(hi:i<f.length)(hlen:f.length<=1000000):SC prog 100 [.buf 0 f.length 1 none,cI i] [.cells (f.flatMap (aw cI))] [] (λr S'=>r=cI (eP f i).1/\S'=[.cells ((eP f i).2.flatMap (aw cI))]):=by
 refine Oo 26 Tryz.func100 ?_;refine(zV) ?_
 (repeat refine aD.seq ?_)
 refine aD.block (aD.loop (λm st=>∃(g:List Nat) (j s:Nat),(eh g/\g.length=f.length/\j<f.length)/\(j<=s/\rT s g j=eP f i)/\j=m/\st=⟨[(0,.buf 0 f.length 1 none),(1,cI j),(1000000,.ptr 0 0)],26,[.cells (g.flatMap (aw cI))],[]⟩) i zH ⟨f,i,i,⟨hf,rfl,hi⟩,⟨ad _,rfl⟩,rfl,rfl⟩ (by rintro m st ⟨g,j,s,_,_,_,rfl⟩;rfl) ?_);rintro m st ⟨g,j,s,⟨hg,hgl,hj⟩,⟨hs,hr⟩,rfl,rfl⟩;obtain⟨p,hp⟩:∃p,g[j]?=some p:=⟨g[j],jp gt⟩;have hpj:=hg j p hp;obtain⟨q,hq⟩:∃q,g[p]?=some q:=⟨g[p],jp gt⟩;have hqp:=hg p q hq
 have e1:g.getD j 0=p:=by rw[ck,hp];rfl
 have e2:g.getD p 0=q:=by rw[ck,hq];rfl
 refine(zs) ?_;refine aD.r0 ge (by simp only[cG,bG,an,az,m7,m6,↓reduceIte,ac,a6,bv,ap,bs,ah,ar,bD,hj,b9,Gv hp];first | done | rfl) ?_;by_cases hpe:p=j
 ·rw[show(!decide ((p:Int)=(j:Int)))=false by simp;omega]
  refine(fC)<|(zV) ?_
  have hr2:eP f i=(j,g):=by
   rw[<-hr]
   cases s with
   | zero=>rfl
   | succ s=>rw[rT,e1,t8 hpe]
  refine(zE) ?_;exact zP [.tmp 4] (hq:=by (try simp only[dA,aY]);first | done | (rw[hr2];exact⟨rfl,rfl⟩))
 rw[show(!decide ((p:Int)=(j:Int)))=true by simp;omega];refine(gJ) ?_
 have hpl:p<f.length:=by omega
 have hjg:j<g.length:=by omega
 refine(zs) ?_;refine aD.r0 ge (by simp only[cG,bG,an,az,m7,m6,↓reduceIte,ac,a6,bv,ap,bs,ah,ar,bD,hj,hpl,b9,Gv hp,Gv hq,vV,hgl,show j+1<=f.length by omega,Ji q hjg];first | done | rfl) ?_;have hsq:(g.set j q)[j]?=some q:=ej hjg;refine(zs) ?_;refine aD.r0 ge (by simp only[cG,bG,an,az,m7,m6,↓reduceIte,ac,a6,bv,ap,bs,ah,ar,bD,hj,b9,Gv hsq];first | done | rfl) ?_;obtain⟨s',rfl⟩:∃s',s=s'+1:=⟨s-1,by omega⟩;refine⟨q,_,by omega,zH,g.set j q,q,s',⟨hg.set gt,by rw[a7,hgl],by omega⟩,⟨by omega,?_⟩,rfl,rfl⟩;rw[<-hr,rT,e1,ul hpe,e2]
def vH(f:List Nat)(i k:Nat):List Nat:=(eP (eP f i).2 k).2.set (max (eP f i).1 (eP (eP f i).2 k).1) (min (eP f i).1 (eP (eP f i).2 k).1)
def UA{f:List Nat}{k:Nat}(h:eh f)(hi:i<f.length)(hk:k<f.length):eh (vH f i k)/\(vH f i k).length=f.length:=by
 obtain⟨a1,a2,a3⟩:=mf h hi;obtain⟨b1,b2,b3⟩:=mf (i:=k) a1 (by rw[a2];exact hk);exact⟨b1.set gt,by rw[vH,a7,b2,a2]⟩
def UF(a b:Nat):uE true (.int .i64 (a:Int)) (.int .i64 (b:Int))=some (.int .i64 ((max a b:Nat):Int)):=by
 rw[I1];congr 2;omega
def UJ(a b:Nat):uE false (.int .i64 (a:Int)) (.int .i64 (b:Int))=some (.int .i64 ((min a b:Nat):Int)):=by
 rw[I2];congr 2;omega
def sK(r:Nat->Nat)(l:List Nat):me r (l.flatMap (aw cI))=l.flatMap (aw cI):=bg (aB (λ_=>rfl) l)
def iT(o:Nat)(l:List Nat):(l.flatMap (aw cI)).map (aW o)=l.flatMap (aw cI):=bL (aB (λ_=>rfl) l)
def oM(B:Nat)(l:List Nat):ia B (l.flatMap (aw cI))=true:=bH (aB (λ_=>rfl) l)
def Qo(f:List Nat)(i k:Nat)(hf:eh f)(hi:i<f.length)(hk:k<f.length)(hlen:f.length<=1000000):SC prog 142 [.buf 0 f.length 1 none,cI i,cI k] [.cells (f.flatMap (aw cI))] [] (λr S'=>r=.bB []/\S'=[.cells ((vH f i k).flatMap (aw cI))]):=by
 refine Oo 22 Tryz.func142 ?_;have h1:=tG f i hf hi hlen;have k1:=mf hf hi;obtain⟨a,f1,hA⟩:∃a f1,eP f i=(a,f1):=⟨_,_,rfl⟩;rw[hA] at h1 k1;simp only at h1 k1;obtain⟨q1,q2,q3⟩:=k1;have h2:=tG f1 k q1 (by rw[q2];exact hk) (by rw[q2];exact hlen);have k2:=mf (i:=k) q1 (by rw[q2];exact hk);obtain⟨b,f2,hB⟩:∃b f2,eP f1 k=(b,f2):=⟨_,_,rfl⟩;rw[hB] at h2 k2;rw[q2] at h2;simp only at h2 k2;obtain⟨p1,p2,p3⟩:=k2
 have hj:vH f i k=f2.set (max a b) (min a b):=by rw[vH,hA];simp only;rw[hB]
 refine(zC) ?_;refine zS [0] (cA @sK @oM @iT) h1 ?_;refine(zQ) ?_;refine zS [0] (cA @sK @oM @iT) h2 ?_;refine(zR) ?_
 have hm:max a b<f.length:=by omega
 have hm2:max a b<f2.length:=by omega
 refine(zs) ?_;refine aD.r0 ge (by simp only[cG,bG,an,az,m7,m6,↓reduceIte,ac,a6,bv,ap,bs,ah,ar,bD,UF,UJ,hm,b9,vV,p2,q2,show max a b+1<=f.length by omega,Ji (min a b) hm2];first | done | rfl) ?_;exact zP [] (hq:=by (try simp only[dA,aY]);first | done | (rw[hj];first | exact⟨rfl,rfl⟩ | exact⟨trivial,trivial⟩ | exact⟨trivial,rfl⟩ | exact⟨rfl,trivial⟩))
def td(a0 a1 d:Int):Int:=dI (sm a0 d) (sm a1 d)
def tc(a0 a1 d:Int):Int:=dM (sm a0 d) (sm a1 d)
def zk(a0 a1 lo hi:Int)(h:lo<=hi):SC prog 272 [aa lo,aa hi,.ptr 0 0,.ptr 1 0] [.cells [aa a0,aa a1],.cells [cY]] []
 (λr S'=>r=.bB []/\S'=[.cells [aa a0,aa a1],.cells [.buf 4 2 2 none],.gone,.gone,.cells [aa (td a0 a1 lo),aa (tc a0 a1 lo),aa (td a0 a1 hi),aa (tc a0 a1 hi)]]):=by
 refine XX 40 e6 ?_;refine(aA (show decide (lo<=hi)=true by simpa using h)) ?_
 (repeat refine aD.seq ?_)
 refine aD.yes rfl ?_;refine(zV) ?_
 (repeat refine aD.seq ?_)
 refine aD.block (aD.loop (λm st=>
  (m=2/\st=⟨[(2,.ptr 0 0),(3,.ptr 1 0),(15,.buf 2 2 1 (some 2)),(16,aa 2),(17,aa 0),(1000000,.ptr 0 0),(1000001,.ptr 1 0)],40,[.cells [aa a0,aa a1],.cells [cY],.cells [aa lo,aa hi]],[]⟩)\/
  (m=1/\st=⟨[(2,.ptr 0 0),(3,.ptr 1 0),(15,.buf 2 2 1 (some 2)),(16,aa 2),(17,aa 1),(1000000,.ptr 0 0),(1000001,.ptr 1 0)],40,[.cells [aa a0,aa a1],.cells [.buf 4 1 2 none],.cells [aa lo,aa hi],.gone,.cells [aa (td a0 a1 lo),aa (tc a0 a1 lo)]],[]⟩)\/
  (m=0/\st=⟨[(2,.ptr 0 0),(3,.ptr 1 0),(15,.buf 2 2 1 (some 2)),(16,aa 2),(17,aa 2),(1000000,.ptr 0 0),(1000001,.ptr 1 0)],40,[.cells [aa a0,aa a1],.cells [.buf 4 2 2 none],.cells [aa lo,aa hi],.gone,.cells [aa (td a0 a1 lo),aa (tc a0 a1 lo),aa (td a0 a1 hi),aa (tc a0 a1 hi)]],[]⟩)) 2 zH (.inl ⟨rfl,rfl⟩) (by rintro m st (⟨_,rfl⟩ | ⟨_,rfl⟩ | ⟨_,rfl⟩)<;>rfl) ?_)
 rintro m st (⟨rfl,rfl⟩ | ⟨rfl,rfl⟩ | ⟨rfl,rfl⟩)
 ·refine(Ab)<|(zB)<|(zV)<|(zs) ?_;refine uW [0,1,0,7,0,16,0,127,255,511] ?_;refine(zD)<|(Nc (je a0 lo))<|(zD)<|(Nc (je a1 lo))<|(zD)<|(zM)<|(aA (br @js @gp))<|(zV) ?_;exact⟨1,_,by omega,(bK (br @td.eq_1 @tc.eq_1)),.inr (.inl ⟨rfl,rfl⟩)⟩
 ·refine(Ab)<|(zB)<|(zV)<|(zs) ?_;refine uW [0,1,0,7,0,16,0,127,255,511] ?_;refine(zD)<|(Nc (je a0 hi))<|(zD)<|(Nc (je a1 hi))<|(zD)<|(zM)<|(aA (br @js @gp))<|(zV) ?_;exact⟨0,_,by omega,(bK (br @td.eq_1 @tc.eq_1)),.inr (.inr ⟨rfl,rfl⟩)⟩
 ·refine(KS)<|zA [(1000000,.ptr 0 0),(1000001,.ptr 1 0)] [.cells [aa a0,aa a1],.cells [.buf 4 2 2 none],.gone,.gone,.cells [aa (td a0 a1 lo),aa (tc a0 a1 lo),aa (td a0 a1 hi),aa (tc a0 a1 hi)]] zH ?_;refine aD.exit ?_
  simp only[gK,eI,cQ,cr,if_true];exact zP []
def J5(a0 a1 lo hi:Int)(h:¬lo<=hi):SC prog 272 [aa lo,aa hi,.ptr 0 0,.ptr 1 0] [.cells [aa a0,aa a1],.cells [cY]] []
 (λr S'=>r=.bB []/\S'=[.cells [aa a0,aa a1],.cells [cY]]):=by
 refine XX 40 e6 ?_;refine(aA (show decide (lo<=hi)=false by simpa using h)) ?_
 (repeat refine aD.seq ?_)
 refine aD.no rfl ?_;refine aD.skip ?_
 (try simp only[gK,eI,cQ,cr])
 exact zP []
def sN(a0 a1 lo hi:Int)(n:Nat)(cs:List SV)(h:¬lo<=hi):SC prog 272 [aa lo,aa hi,.ptr 0 0,.ptr 1 0] [.cells [aa a0,aa a1],.cells [.buf 2 n 2 none],.cells cs] []
 (λr S'=>r=.bB []/\S'=[.cells [aa a0,aa a1],.cells [.buf 2 n 2 none],.cells cs]):=by
 refine Ys 40 e6 ?_;refine(aA (show decide (lo<=hi)=false by simpa using h)) ?_
 (repeat refine aD.seq ?_)
 refine aD.no rfl ?_;refine aD.skip ?_
 (try simp only[gK,eI,cQ,cr])
 exact zP []
def de(p:Int×Int):List SV:=[aa p.1,aa p.2]
def tg(p:Int×Int):(de p).length=2:=rfl
def nJ(p:Int×Int):cg (de p)=true:=rfl
def zh(a0 a1 lo hi:Int)(rows:List (Int×Int))(hlen:rows.length<=1000)(h:lo<=hi):SC prog 272 [aa lo,aa hi,.ptr 0 0,.ptr 1 0] [.cells [aa a0,aa a1],.cells [.buf 2 rows.length 2 none],.cells (rows.flatMap de)] [2]
 (λr S'=>r=.bB []/\S'=[.cells [aa a0,aa a1],.cells [.buf 2 (rows.length+1+1) 2 none],.cells ((rows++[(td a0 a1 lo,tc a0 a1 lo)]++[(td a0 a1 hi,tc a0 a1 hi)]).flatMap de)]):=by
 refine Ys 40 e6 ?_;have step:∀(l:List (Int×Int)) (x y:Int),((l.flatMap de).take (l.length*2)++[aa x,aa y]).map (aW 2)=(l++[(x,y)]).flatMap de:=λl x y=>eV tg nJ 2 l (x,y);have hcl:∀l:List (Int×Int),(l.flatMap de).length=l.length*2:=aM tg;have hkc:∀(o:Nat) (l:List (Int×Int)),(l.flatMap de).map (aW o)=l.flatMap de:=λo l=>bf nJ o l;refine(aA (show decide (lo<=hi)=true by simpa using h)) ?_
 (repeat refine aD.seq ?_)
 refine aD.yes rfl ?_;refine(aA hkc) ?_
 (repeat refine aD.seq ?_)
 refine aD.block (aD.loop (λm st=>∃q:List (Int×Int),
  (m=2/\q=rows/\st=⟨[(2,.ptr 0 0),(3,.ptr 1 0),(15,.buf 3 2 1 (some 2)),(16,aa 2),(17,aa 0),(1000000,.ptr 0 0),(1000001,.ptr 1 0)],40,[.cells [aa a0,aa a1],.cells [.buf 2 q.length 2 none],.cells (q.flatMap de),.cells [aa lo,aa hi]],[]⟩)\/
  (m=1/\q=rows++[(td a0 a1 lo,tc a0 a1 lo)]/\st=⟨[(2,.ptr 0 0),(3,.ptr 1 0),(15,.buf 3 2 1 (some 2)),(16,aa 2),(17,aa 1),(1000000,.ptr 0 0),(1000001,.ptr 1 0)],40,[.cells [aa a0,aa a1],.cells [.buf 2 q.length 2 none],.cells (q.flatMap de),.cells [aa lo,aa hi]],[]⟩)\/
  (m=0/\q=rows++[(td a0 a1 lo,tc a0 a1 lo)]++[(td a0 a1 hi,tc a0 a1 hi)]/\st=⟨[(2,.ptr 0 0),(3,.ptr 1 0),(15,.buf 3 2 1 (some 2)),(16,aa 2),(17,aa 2),(1000000,.ptr 0 0),(1000001,.ptr 1 0)],40,[.cells [aa a0,aa a1],.cells [.buf 2 q.length 2 none],.cells (q.flatMap de),.cells [aa lo,aa hi]],[]⟩)) 2 zH ⟨rows,.inl ⟨rfl,rfl,rfl⟩⟩ (by rintro m st ⟨q,⟨_,_,rfl⟩ | ⟨_,_,rfl⟩ | ⟨_,_,rfl⟩⟩<;>rfl) ?_)
 rintro m st ⟨q,⟨rfl,hq,rfl⟩ | ⟨rfl,hq,rfl⟩ | ⟨rfl,hq,rfl⟩⟩
 ·have hql:q.length<=1000000:=by rw[hq];omega
  refine(Ab)<|(zB)<|(zV)<|(zs) ?_;refine uW [0,1,0,7,0,16,0,127,255,511] ?_;refine(zD)<|(Nc (je a0 lo))<|(zD)<|(Nc (je a1 lo))<|(zD)<|(zM)<|(aA (Af @js @gp hkc hcl step hql @ad))<|(zV) ?_;refine⟨1,_,by omega,(bK (sa @td.eq_1 @tc.eq_1 hq @li.{0} @i7.{0} @g9.{0})),q++[(td a0 a1 lo,tc a0 a1 lo)],.inr (.inl ⟨rfl,by rw[hq],rfl⟩)⟩
 ·have hql:q.length<=1000000:=by rw[hq,li];simp only[i7,g9];omega
  refine(Ab)<|(zB)<|(zV)<|(zs) ?_;refine uW [0,1,0,7,0,16,0,127,255,511] ?_;refine(zD)<|(Nc (je a0 hi))<|(zD)<|(Nc (je a1 hi))<|(zD)<|(zM)<|(aA (Af @js @gp hkc hcl step hql @ad))<|(zV) ?_;refine⟨0,_,by omega,(bK (sa @td.eq_1 @tc.eq_1 hq @li.{0} @i7.{0} @g9.{0})),q++[(td a0 a1 hi,tc a0 a1 hi)],.inr (.inr ⟨rfl,by rw[hq],rfl⟩)⟩
 ·refine(KS) ?_;rw[show q.length=rows.length+1+1 by rw[hq];simp];refine zA [(1000000,.ptr 0 0),(1000001,.ptr 1 0)] [.cells [aa a0,aa a1],.cells [.buf 2 (rows.length+1+1) 2 none],.cells (q.flatMap de)] zH ?_;refine aD.exit ?_;simp only[gK,eI,cQ,cr,if_true];exact zP [] (hq:=by (try simp only[dA,aY]);first | done | (rw[hq];first | exact⟨rfl,rfl⟩ | exact⟨trivial,rfl⟩ | exact⟨rfl,trivial⟩ | exact⟨trivial,trivial⟩))
def dg(a0 a1 lo hi:Int):List (Int×Int):=if lo<=hi then [(td a0 a1 lo,tc a0 a1 lo)]++[(td a0 a1 hi,tc a0 a1 hi)] else []
def nh(a0 a1 b0 b1:Int):List (Int×Int):=(if b0<=0/\0<=b1 then [(0,0)] else [])++dg a0 a1 (dM b0 1) b1++dg a0 a1 b0 (dI b1 (-1))
def jN(x y:Int×Int):Int×Int:=np x.1 x.2 y.1 y.2
def kS(a0 a1 b0 b1:Int):Int×Int:=(nh a0 a1 b0 b1).foldl jN ((nh a0 a1 b0 b1).headD (0,0))
def xN{f:α->α->α}{x a:α}(h:l[i]?=some x):(l.take (i+1)).foldl f a=f ((l.take i).foldl f a) x:=by
 rw[dt,h,gv,dk];rfl
def J6(a0 a1 b0 b1:Int)(hb:b0<=b1):PC prog 267 [mD a0 a1,mD b0 b1] (·=pU (kS a0 a1 b0 b1)):=by
 refine pB 51 Tryz.func267 ?_;have hkc:∀(o:Nat) (l:List (Int×Int)),(l.flatMap de).map (aW o)=l.flatMap de:=λo l=>bf nJ o l;have hrc:∀(g:Nat->Nat) (l:List (Int×Int)),me g (l.flatMap de)=l.flatMap de:=λg l=>bg (aB nJ l);have hbc:∀(B:Nat) (l:List (Int×Int)),ia B (l.flatMap de)=true:=λB l=>bH (aB nJ l);have hcl:∀l:List (Int×Int),(l.flatMap de).length=l.length*2:=aM tg
 refine(aA @mD.eq_1)<|(zV) ?_
 by_cases hz:b0<=0/\0<=b1
 ·refine(aA (br (show decide (b0<=0)=true by simpa using hz.1) (show decide (0<=b1)=true by simpa using hz.2)))<|(cN)<|(zV) ?_
  have hm1:dM b0 1=1:=by unfold dM;split<;>omega
  have d1:nh a0 a1 b0 b1=([(0,0)]++dg a0 a1 1 b1)++dg a0 a1 b0 (dI b1 (-1)):=by rw[nh,t8 hz,hm1]
  (repeat refine aD.seq ?_)
  refine aD.mono (Q:=λe st=>e=.normal/\Fg st ⟨[(3,.ptr 1 0),(4,.ptr 2 0),(5,.ptr 3 0),(6,.fn 272 [] [.ptr 0 0,.ptr 3 0])],51,[.cells [aa a0,aa a1],.cells [aa b0,aa b1],.cells [aa 0,aa 0],.cells [.buf 5 ([(0,0)]++dg a0 a1 1 b1).length 2 none],.gone,.cells (([(0,0)]++dg a0 a1 1 b1).flatMap de)],[]⟩) ?_ ?_
  ·by_cases h1:(1:Int)<=b1
   ·refine(jH (br @gp hm1)) ?_;have hd:=zh a0 a1 1 b1 [(0,0)] gc h1;rw[show[((0:Int),(0:Int))].flatMap de=[aa 0,aa 0] from rfl,show[((0:Int),(0:Int))].length=1 from rfl] at hd;refine zS [0,3,5] (cA hrc hbc hkc) hd ?_;refine(zR) ?_;refine⟨rfl,(Fg.less (by (simp only[cG,bG,dU,↓reduceIte,ac,dg,t8 h1,li,i7,g9,cd])<;>(repeat' apply b6)<;>first | rfl | trivial) (by (simp only[cG,bG,or_true,true_or,dg,t8 h1,li,i7,g9,cd])<;>(repeat' apply b6)<;>first | exact .inr rfl | exact .inl rfl | trivial))⟩
   ·refine(jH (br @gp hm1)) ?_;have hd:=sN a0 a1 1 b1 1 [aa 0,aa 0] h1;refine zS [0,3,5] (cA hrc hbc hkc) hd ?_;refine(zR) ?_;refine⟨rfl,(Fg.less (by (simp only[cG,bG,dU,↓reduceIte,ac,dg,ul h1,append_nil,i7,g9,flatMap_cons,flatMap_nil,de])<;>(repeat' apply b6)<;>first | rfl | trivial) (by (simp only[cG,bG,or_true,true_or,dg,ul h1,append_nil,i7,g9,flatMap_cons,flatMap_nil,de])<;>(repeat' apply b6)<;>first | exact .inr rfl | exact .inl rfl | trivial))⟩
  rintro e st ⟨rfl,hfg⟩;refine aD.fg hfg ?_;clear hfg
  (try change aD _ _ _ _ _)
  have hq1:([(0,0)]++dg a0 a1 1 b1).length<=1000:=by
   unfold dg;split<;>simp
  (repeat refine aD.seq ?_)
  refine aD.mono (Q:=λe st=>e=.normal/\Fg st ⟨[(3,.ptr 1 0),(4,.ptr 2 0),(5,.ptr 3 0),(6,.fn 272 [] [.ptr 0 0,.ptr 3 0])],51,[.cells [aa a0,aa a1],.cells [aa b0,aa b1],.cells [aa 0,aa 0],.cells [.buf 5 (([(0,0)]++dg a0 a1 1 b1)++dg a0 a1 b0 (dI b1 (-1))).length 2 none],.gone,.cells ((([(0,0)]++dg a0 a1 1 b1)++dg a0 a1 b0 (dI b1 (-1))).flatMap de)],[]⟩) ?_ ?_
  ·generalize ([(0,0)]++dg a0 a1 1 b1)=q1 at hq1;by_cases h2:b0<=dI b1 (-1)
   ·refine(jH @js) ?_;have hd:=zh a0 a1 b0 (dI b1 (-1)) q1 hq1 h2;refine zS [0,3,5] (cA hrc hbc hkc) hd ?_;refine(zR) ?_;refine⟨rfl,(Fg.less (by (simp only[cG,bG,dU,↓reduceIte,ac,dg,t8 h2,li,i7,g9,cd])<;>(repeat' apply b6)<;>first | rfl | trivial) (by (simp only[cG,bG,or_true,true_or,dg,t8 h2,li,i7,g9,cd])<;>(repeat' apply b6)<;>first | exact .inr rfl | exact .inl rfl | trivial))⟩
   ·refine(jH @js) ?_;have hd:=sN a0 a1 b0 (dI b1 (-1)) q1.length (q1.flatMap de) h2;refine zS [0,3,5] (cA hrc hbc hkc) hd ?_;refine(zR) ?_;refine⟨rfl,(Fg.less (by (simp only[cG,bG,dU,↓reduceIte,ac,dg,ul h2,append_nil])<;>(repeat' apply b6)<;>first | rfl | trivial) (by (simp only[cG,bG,or_true,true_or,dg,ul h2,append_nil])<;>(repeat' apply b6)<;>first | exact .inr rfl | exact .inl rfl | trivial))⟩
  rintro e st ⟨rfl,hfg⟩;refine aD.fg hfg ?_;clear hfg
  (try change aD _ _ _ _ _)
  obtain⟨rows,hrows⟩:∃rows,rows=(([(0,0)]++dg a0 a1 1 b1)++dg a0 a1 b0 (dI b1 (-1))):=⟨_,rfl⟩
  have hne:rows≠[]:=by rw[hrows];simp
  obtain⟨x0,hr0⟩:∃x0,rows[0]?=some x0:=by
   cases h:rows with
   | nil=>exact t7 h hne
   | cons x r=>exact⟨x,rfl⟩
  have h0r:0<rows.length:=aR hr0
  have hlen:rows.length<=1000000:=by rw[hrows];(unfold dg;split<;>split<;>simp)
  have hD:kS a0 a1 b0 b1=rows.foldl jN x0:=by rw[kS,d1,<-hrows,show rows.headD (0,0)=x0 by cases rows with | nil=>exact t7 rfl hne | cons x r=>simpa using hr0]
  have ht2:(rows.flatMap de).take 2=[aa x0.1,aa x0.2]:=by
   have:=aH (e:=2) (enc:=de) ce hr0
   rwa [cn,dN] at this
  rw[<-hrows];clear hrows
  refine(aA (Af (show dx (.int .i64 0)=some 0 from rfl) @cn h0r hkc hcl ht2 (show 2<=rows.length*2 by omega)))<|(zV)<|(zs) ?_;refine zL rows (λk=>True) (λk=>[(4,.ptr 2 0),(7,.ptr 6 0),(40,.buf 5 rows.length 2 none),(41,aa rows.length),(42,aa k)]) (λk=>[.gone,.gone,.cells [aa 0,aa 0],.gone,.gone,.cells (rows.flatMap de),.cells [aa ((rows.take k).foldl jN x0).1,aa ((rows.take k).foldl jN x0).2]]) (bK (cA @take_zero.{0} @foldl_nil.{0,0} hkc)) zp ?_;intro k hk hall;refine zT rows k ?_ ?_;rintro rfl;rotate_left;intro x hx hlt;rotate_left
  ·refine(fC) ?_;rw[bk]
   exact(zV)<|zo [.cell 4 54] (hq:=by rw[hD,pU,mD])
  have hst:=xN (f:=jN) (a:=x0) hx;obtain⟨p,q,hpq⟩:∃p q,(rows.take k).foldl jN x0=(p,q):=⟨_,_,rfl⟩;rw[hpq] at hst ⊢
  refine(gJ)<|(aA (sa hlt (aH (e:=2) (enc:=de) ce hx) @de.eq_1 hcl (show k*2+2<=rows.length*2 by omega) hkc))<|(zC)<|(zK (pg p q x.1 x.2))<|(cO (br @pU.eq_1 @mD.eq_1))<|(aA (zi hlt hlen)) ?_;refine zX hlt (bK (cA hst @jN.eq_1 hkc)) trivial
 by_cases hp:1<=b0
 ·refine(aA (show decide (b0<=0)=false by simp;omega))<|(jG) ?_
  have hm1:dM b0 1=b0:=by unfold dM;split<;>omega
  have hm2:dI b1 (-1) = -1:=by unfold dI;split<;>omega
  have d1:nh a0 a1 b0 b1=[(td a0 a1 b0,tc a0 a1 b0),(td a0 a1 b1,tc a0 a1 b1)]:=by rw[nh,ul hz,hm1,hm2,dg,t8 hb,dg,ul gt];rfl
  refine(jH (br @gp hm1)) ?_;have hd:=zk a0 a1 b0 b1 hb
  refine zS [0,3] (cA hrc hbc hkc) hd ?_;refine(zR)<|(jH (br @js hm2)) ?_
  have hd2:=sN a0 a1 b0 (-1) 2 [aa (td a0 a1 b0),aa (tc a0 a1 b0),aa (td a0 a1 b1),aa (tc a0 a1 b1)] gt;refine zS [0,3,6] (cA hrc hbc hkc) hd2 ?_;refine(zR) ?_;obtain⟨rows,hrows⟩:∃rows,rows=[(td a0 a1 b0,tc a0 a1 b0),(td a0 a1 b1,tc a0 a1 b1)]:=⟨_,rfl⟩
  have hne:rows≠[]:=by rw[hrows];simp
  obtain⟨x0,hr0⟩:∃x0,rows[0]?=some x0:=by
   cases h:rows with
   | nil=>exact t7 h hne
   | cons x r=>exact⟨x,rfl⟩
  have h0r:0<rows.length:=aR hr0
  have hlen:rows.length<=1000000:=by rw[hrows];simp
  have hD:kS a0 a1 b0 b1=rows.foldl jN x0:=by rw[kS,d1,<-hrows,show rows.headD (0,0)=x0 by cases rows with | nil=>exact t7 rfl hne | cons x r=>simpa using hr0]
  have ht2:(rows.flatMap de).take 2=[aa x0.1,aa x0.2]:=by
   have:=aH (e:=2) (enc:=de) ce hr0
   rwa [cn,dN] at this
  rw[show([aa (td a0 a1 b0),aa (tc a0 a1 b0),aa (td a0 a1 b1),aa (tc a0 a1 b1)]:List SV)=rows.flatMap de by rw[hrows];rfl,show(SV.buf 6 2 2 none)=.buf 6 rows.length 2 none by rw[hrows];rfl];clear hrows
  refine(aA (Af (show dx (.int .i64 0)=some 0 from rfl) @cn h0r hkc hcl ht2 (show 2<=rows.length*2 by omega)))<|(zV)<|(zs) ?_;refine zL rows (λk=>True) (λk=>[(4,.ptr 2 0),(7,.ptr 7 0),(40,.buf 6 rows.length 2 none),(41,aa rows.length),(42,aa k)]) (λk=>[.gone,.gone,.cells [aa 0,aa 0],.gone,.gone,.gone,.cells (rows.flatMap de),.cells [aa ((rows.take k).foldl jN x0).1,aa ((rows.take k).foldl jN x0).2]]) (bK (cA @take_zero.{0} @foldl_nil.{0,0} hkc)) zp ?_;intro k hk hall;refine zT rows k ?_ ?_;rintro rfl;rotate_left;intro x hx hlt;rotate_left
  ·refine(fC) ?_;rw[bk]
   exact(zV)<|zo [.cell 4 54] (hq:=by rw[hD,pU,mD])
  have hst:=xN (f:=jN) (a:=x0) hx;obtain⟨p,q,hpq⟩:∃p q,(rows.take k).foldl jN x0=(p,q):=⟨_,_,rfl⟩;rw[hpq] at hst ⊢
  refine(gJ)<|(aA (sa hlt (aH (e:=2) (enc:=de) ce hx) @de.eq_1 hcl (show k*2+2<=rows.length*2 by omega) hkc))<|(zC)<|(zK (pg p q x.1 x.2))<|(cO (br @pU.eq_1 @mD.eq_1))<|(aA (zi hlt hlen)) ?_;refine zX hlt (bK (cA hst @jN.eq_1 hkc)) trivial
 ·have hn:b1 <= -1:=by omega
  by_cases hq0:b0<=0;rotate_left
  ·omega
  refine(aA (br (show decide (b0<=0)=true by simpa using hq0) (show decide (0<=b1)=false by simp;omega)))<|(jG) ?_
  have hm1:dM b0 1=1:=by unfold dM;split<;>omega
  have hm2:dI b1 (-1)=b1:=by unfold dI;split<;>omega
  have d1:nh a0 a1 b0 b1=[(td a0 a1 b0,tc a0 a1 b0),(td a0 a1 b1,tc a0 a1 b1)]:=by rw[nh,ul hz,hm1,hm2,dg,ul gt,dg,t8 hb];rfl
  refine(jH (br @gp hm1)) ?_;have hd:=J5 a0 a1 1 b1 gt
  refine zS [0,3] (cA hrc hbc hkc) hd ?_;refine(zR)<|(jH (br @js hm2)) ?_
  have hd2:=zk a0 a1 b0 b1 hb;refine zS [0,3] (cA hrc hbc hkc) hd2 ?_;refine(zR) ?_;obtain⟨rows,hrows⟩:∃rows,rows=[(td a0 a1 b0,tc a0 a1 b0),(td a0 a1 b1,tc a0 a1 b1)]:=⟨_,rfl⟩
  have hne:rows≠[]:=by rw[hrows];simp
  obtain⟨x0,hr0⟩:∃x0,rows[0]?=some x0:=by
   cases h:rows with
   | nil=>exact t7 h hne
   | cons x r=>exact⟨x,rfl⟩
  have h0r:0<rows.length:=aR hr0
  have hlen:rows.length<=1000000:=by rw[hrows];simp
  have hD:kS a0 a1 b0 b1=rows.foldl jN x0:=by rw[kS,d1,<-hrows,show rows.headD (0,0)=x0 by cases rows with | nil=>exact t7 rfl hne | cons x r=>simpa using hr0]
  have ht2:(rows.flatMap de).take 2=[aa x0.1,aa x0.2]:=by
   have:=aH (e:=2) (enc:=de) ce hr0
   rwa [cn,dN] at this
  rw[show([aa (td a0 a1 b0),aa (tc a0 a1 b0),aa (td a0 a1 b1),aa (tc a0 a1 b1)]:List SV)=rows.flatMap de by rw[hrows];rfl,show(SV.buf 6 2 2 none)=.buf 6 rows.length 2 none by rw[hrows];rfl];clear hrows
  refine(aA (Af (show dx (.int .i64 0)=some 0 from rfl) @cn h0r hkc hcl ht2 (show 2<=rows.length*2 by omega)))<|(zV)<|(zs) ?_;refine zL rows (λk=>True) (λk=>[(4,.ptr 2 0),(7,.ptr 7 0),(40,.buf 6 rows.length 2 none),(41,aa rows.length),(42,aa k)]) (λk=>[.gone,.gone,.cells [aa 0,aa 0],.gone,.gone,.gone,.cells (rows.flatMap de),.cells [aa ((rows.take k).foldl jN x0).1,aa ((rows.take k).foldl jN x0).2]]) (bK (cA @take_zero.{0} @foldl_nil.{0,0} hkc)) zp ?_;intro k hk hall;refine zT rows k ?_ ?_;rintro rfl;rotate_left;intro x hx hlt;rotate_left
  ·refine(fC) ?_;rw[bk]
   exact(zV)<|zo [.cell 4 54] (hq:=by rw[hD,pU,mD])
  have hst:=xN (f:=jN) (a:=x0) hx;obtain⟨p,q,hpq⟩:∃p q,(rows.take k).foldl jN x0=(p,q):=⟨_,_,rfl⟩;rw[hpq] at hst ⊢
  refine(gJ)<|(aA (sa hlt (aH (e:=2) (enc:=de) ce hx) @de.eq_1 hcl (show k*2+2<=rows.length*2 by omega) hkc))<|(zC)<|(zK (pg p q x.1 x.2))<|(cO (br @pU.eq_1 @mD.eq_1))<|(aA (zi hlt hlen)) ?_;refine zX hlt (bK (cA hst @jN.eq_1 hkc)) trivial
structure jj where
 u1:Int
 u2:Int
 u3:Int
 u4:Int
 u5:Int
 u6:Int
def eG(u:jj):List SV:=[aa u.u1,aa u.u2,aa u.u3,aa u.u4,aa u.u5,aa u.u6]
def oV(u:jj)(op:Int):Int×Int:=if op=2 then (u.u1,u.u2) else if op=3 then (u.u3,u.u4) else (u.u5,u.u6)
def applyN(op:Int)(a b:Int×Int):Int×Int:=
 if op=5 then fq iE a.1 a.2 b.1 b.2 else if op=6 then fq Gj a.1 a.2 b.1 b.2 else if op=7 then fq CF a.1 a.2 b.1 b.2
 else if op=9 then (dI a.1 b.1,dI a.2 b.2) else if op=10 then (dM a.1 b.1,dM a.2 b.2) else kS a.1 a.2 b.1 b.2
def oO(a b c:Int×Int):Int×Int:=if vX a.1 a.2 0=2 then b else if vX a.1 a.2 0=0 then c else np b.1 b.2 c.1 c.2
def Hr(u:jj)(n:Int):PC prog 264 [.ag (eG u),aa n] (·=pU (n,n)):=by
 refine pB 8 Tryz.func264 ?_;exact(aA @eG.eq_1)<|(zV)<|zo [.cell 4 54]
def Hm(u:jj)(op:Int):PC prog 263 [.ag (eG u),aa op] (·=pU (oV u op)):=by
 refine pB 19 Tryz.func263 ?_;refine(aA @eG.eq_1)<|(zV)<|(zB) ?_
 cases h1:decide (op=2);rotate_left
 ·exact(aA h1)<|(cN)<|zo [.cell 4 54] (hq:=by rw[oV,t8 (ww h1)];rfl)
 refine(aA h1)<|(zN) ?_
 cases h2:decide (op=3);rotate_left
 ·exact(aA h2)<|(cN)<|zo [.cell 4 54] (hq:=by rw[oV,ul (wt h1),t8 (ww h2)];rfl)
 exact(aA h2)<|(jG)<|zo [.cell 4 54] (hq:=by rw[oV,ul (wt h1),ul (wt h2)];rfl)
def G1(u:jj)(a b c:Int×Int):PC prog 262 [.ag (eG u),pU a,pU b,pU c] (·=pU (oO a b c)):=by
 refine pB 20 Tryz.func262 ?_;refine(aA (cA @eG.eq_1 @pU.eq_1 @mD.eq_1))<|(zC)<|(zK (Kc a.1 a.2 0))<|(zR)<|(zB) ?_
 cases h1:decide (vX a.1 a.2 0=2);rotate_left
 ·exact(aA h1)<|(cN)<|zo [.cell 8 54] (hq:=by rw[oO,t8 (ww h1)];rfl)
 refine(aA h1)<|(zN) ?_
 cases h2:decide (vX a.1 a.2 0=0);rotate_left
 ·exact(aA h2)<|(cN)<|zo [.cell 8 54] (hq:=by rw[oO,ul (wt h1),t8 (ww h2)];rfl)
 exact(aA h2)<|(Vy)<|(zK (pg b.1 b.2 c.1 c.2))<|(cO (br @pU.eq_1 @mD.eq_1))<|zo [.cell 8 54] (hq:=by rw[oO,ul (wt h1),ul (wt h2)];rfl)
def JY(u:jj)(op:Int)(a b:Int×Int)(hb:b.1<=b.2):PC prog 261 [.ag (eG u),aa op,pU a,pU b] (·=pU (applyN op a b)):=by
 refine pB 54 Tryz.func261 ?_;refine(aA (cA @eG.eq_1 @pU.eq_1 @mD.eq_1))<|(zV)<|(zB) ?_
 cases h1:decide (op=5);rotate_left
 ·exact(aA h1)<|(zY)<|(zC)<|(zK (rM a.1 a.2 b.1 b.2))<|(cO (br @pU.eq_1 @mD.eq_1))<|zo [.cell 8 54] (hq:=by rw[applyN,t8 (ww h1)];rfl)
 have g1:=wt h1
 refine(aA h1)<|(zN) ?_
 cases h2:decide (op=6);rotate_left
 ·exact(aA h2)<|(zY)<|(zC)<|(zK (My a.1 a.2 b.1 b.2))<|(cO (br @pU.eq_1 @mD.eq_1))<|zo [.cell 8 54] (hq:=by rw[applyN,ul g1,t8 (ww h2)];rfl)
 have g2:=wt h2
 refine(aA h2)<|(zN) ?_
 cases h3:decide (op=7);rotate_left
 ·exact(aA h3)<|(zY)<|(zC)<|(zK (Mx a.1 a.2 b.1 b.2))<|(cO (br @pU.eq_1 @mD.eq_1))<|zo [.cell 8 54] (hq:=by rw[applyN,ul g1,ul g2,t8 (ww h3)];rfl)
 have g3:=wt h3
 refine(aA h3)<|(zN) ?_
 cases h4:decide (op=9);rotate_left
 ·exact(aA h4)<|(zY)<|(aA @js)<|zo [.cell 8 54] (hq:=by rw[applyN,ul g1,ul g2,ul g3,t8 (ww h4)];rfl)
 have g4:=wt h4
 refine(aA h4)<|(zN) ?_
 cases h5:decide (op=10);rotate_left
 ·exact(aA h5)<|(zY)<|(aA @gp)<|zo [.cell 8 54] (hq:=by rw[applyN,ul g1,ul g2,ul g3,ul g4,t8 (ww h5)];rfl)
 have g5:=wt h5
 exact(aA h5)<|(Vy)<|(zK (J6 a.1 a.2 b.1 b.2 hb))<|(cO (br @pU.eq_1 @mD.eq_1))<|zo [.cell 8 54] (hq:=by rw[applyN,ul g1,ul g2,ul g3,ul g4,ul g5];rfl)
inductive aX where
 | mk (op n:Int) (kids:List aX)
def aX.op:aX->Int
 | .mk op _ _=>op
mutual
def aC:aX->List SV
 | .mk op n kids=>[aa op,aa n,.sl kids.length 3 (sf kids)]
def sf:List aX->List SV
 | []=>[]
 | f::fs=>aC f++sf fs
end
def yD:∀l:List aX,sf l=l.flatMap aC
 | []=>by rw[sf];rfl
 | f::l=>by rw[sf,yD l,flatMap_cons]
def dL(op n:Int)(kids:List aX):aC (.mk op n kids)=[aa op,aa n,.sl kids.length 3 (kids.flatMap aC)]:=by rw[aC,yD]
def fi(f:aX):(aC f).length=3:=by
 obtain⟨op,n,kids⟩:=f;rw[dL];rfl
def aL(f:aX):cg (aC f)=true:=by
 obtain⟨op,n,kids⟩:=f;rw[dL];rfl
inductive iy:aX->Prop
 | mk {op n:Int} {kids:List aX}:kids.length<=1000000->(∀k∈kids,iy k)->iy (.mk op n kids)
mutual
def gB:aX->Int->Int
 | .mk _ _ kids,most=>iY kids most 1
def iY:List aX->Int->Int->Int
 | [],_,n=>n
 | k::ks,most,n=>if most<n then n else iY ks most (FC n (gB k (CB most n)))
end
def zF:∀(d:Nat) (f:aX),SizeOf.sizeOf f<d->iy f->∀most:Int,PC Tryz.prog 70 [.ag (aC f),aa most] (·=aa (gB f most))
 | 0,f,hd,_,_=>t7 hd (Nat.not_lt_zero _)
 | d+1,.mk op n kids,hd,hf,most=>by
  cases hf with
  | mk hlen hks=>
  have hkd:∀k∈kids,SizeOf.sizeOf k<d:=λk hk=>by
   have h1:=List.sizeOf_lt_of_mem hk
   have h2:SizeOf.sizeOf (aX.mk op n kids)=1+SizeOf.sizeOf op+SizeOf.sizeOf n+SizeOf.sizeOf kids:=by simp
   omega
  rw[dL,gB]
  refine pB 27 Tryz.func70 ?_;refine(nP)<|(zV)<|(zs) ?_;refine QB kids (λk (acc:Int)=>iY kids most 1=iY (kids.drop k) most acc) (λk acc=>[(1,aa most),(5,aa acc),(9,an 3 kids aC),(10,aa kids.length),(11,aa k)]) (λk acc=>[]) (1) zH ge ?_;intro k acc hk hall;refine zT kids k ?_ ?_;rintro rfl;rotate_left;intro x hx hlt;rotate_left
  ·exact(fC)<|(zV)<|zo [.tmp 4] (hq:=by rw[hall,List.drop_length,iY])
  rw[gm hx,iY] at hall;have hxm:=List.mem_of_getElem? hx;have ih:=zF d x (hkd x hxm) (hks x hxm);have hxl:((kids.flatMap aC).drop (k*3)).take 3=aC x:=aH (e:=3) (enc:=aC) fi hx;obtain⟨op',n',kids'⟩:=x;simp only[dL] at hxl ih
  refine(gJ)<|(aA (br hlt hxl)) ?_
  cases h1:decide (most<acc);rotate_left
  ·refine(aA h1)<|(zY) ?_;refine aD.exit ?_;exact(zV)<|zo [.tmp 4] (hq:=by rw[hall,t8 (ww h1)])
  refine(aA h1)<|(zN) ?_
  rw[ul (wt h1)] at hall
  refine(jH @r6)<|(zK (ih (CB most acc)))<|(cO @Bf)<|(aA (zi hlt hlen)) ?_;refine Fv hlt (FC acc (gB (.mk op' n' kids') (CB most acc))) zH hall
def MK(f:aX)(hf:iy f)(most:Int):PC prog 70 [.ag (aC f),aa most] (·=aa (gB f most)):=zF _ f (dv _) hf most
def sW(op:Int):Nat:=if op=11 then 3 else if 5<=op then 2 else 0
mutual
def gU:aX->Bool
 | .mk op n kids=>(decide (1<=op)&&decide (op<=11))&&(decide (kids.length=sW op)&&(!(decide (n<0))&&(!(decide (9999999<n))&&!(decide (0<n)&&!(decide (op=1))))))&&wm kids
def wm:List aX->Bool
 | []=>true
 | k::ks=>gU k&&wm ks
end
def uH:∀l:List aX,wm l=l.all gU
 | []=>by rw[wm];rfl
 | a::l=>by rw[wm,uH l,fm]
def zI:∀(d:Nat) (f:aX),SizeOf.sizeOf f<d->iy f->PC Tryz.prog 71 [.ag (aC f)] (·=au (gU f))
 | 0,f,hd,_=>t7 hd (Nat.not_lt_zero _)
 | d+1,.mk op n kids,hd,hf=>by
  cases hf with
  | mk hlen hks=>
  have hkd:∀k∈kids,SizeOf.sizeOf k<d:=λk hk=>by
   have h1:=List.sizeOf_lt_of_mem hk
   have h2:SizeOf.sizeOf (aX.mk op n kids)=1+SizeOf.sizeOf op+SizeOf.sizeOf n+SizeOf.sizeOf kids:=by simp
   omega
  rw[dL,gU,uH];refine pB 59 Tryz.func71 ?_;refine(nP) ?_
  (repeat refine aD.seq ?_)
  cases h1:decide (op<1);rotate_left
  ·refine aD.block ?_;exact(aA h1)<|(cN)<|zo [.tmp 2] (hq:=by rw[show decide (1<=op)=false by have:=ww h1;simp;omega];rfl)
  cases h2:decide (11<op);rotate_left
  ·refine aD.block ?_;exact(aA (br h1 h2))<|(cN)<|zo [.tmp 2] (hq:=by rw[show decide (op<=11)=false by have:=ww h2;simp;omega,Bool.and_false];rfl)
  have g1:=wt h1;have g2:=wt h2;rw[show decide (1<=op)=true by simp;omega,show decide (op<=11)=true by simp;omega];refine aD.mono (Q:=λe st=>e=.normal/\Fg st ⟨[(1,.ptr 0 0),(3,cI (sW op))],59,[.cells [aa op,aa n,.sl kids.length 3 (kids.flatMap aC)]],[]⟩) ?_ ?_
  ·refine aD.block ?_;refine(aA (br h1 h2))<|(zN) ?_
   cases h3:decide (op=11);rotate_left
   ·refine(aA h3)<|(cN) ?_;exact⟨rfl,(Fg.less (by (simp only[cG,bG,dU,↓reduceIte,Nat.reduceEqDiff,sW,t8 (ww h3)])<;>(repeat' apply And.intro)<;>first | rfl | trivial) (by (simp only[cG,bG,or_true,true_or,sW,t8 (ww h3)])<;>(repeat' apply And.intro)<;>first | exact .inr rfl | exact .inl rfl | trivial))⟩
   refine(aA h3)<|(zN) ?_
   cases h4:decide (5<=op);rotate_left
   ·refine(aA h4)<|(cN) ?_;exact⟨rfl,(Fg.less (by (simp only[cG,bG,dU,↓reduceIte,Nat.reduceEqDiff,sW,ul (wt h3),t8 (ww h4)])<;>(repeat' apply And.intro)<;>first | rfl | trivial) (by (simp only[cG,bG,or_true,true_or,sW,ul (wt h3),t8 (ww h4)])<;>(repeat' apply And.intro)<;>first | exact .inr rfl | exact .inl rfl | trivial))⟩
   ·refine(aA h4)<|(zN) ?_;exact⟨rfl,(Fg.less (by (simp only[cG,bG,dU,↓reduceIte,Nat.reduceEqDiff,sW,ul (wt h3),ul (wt h4)])<;>(repeat' apply And.intro)<;>first | rfl | trivial) (by (simp only[cG,bG,or_true,true_or,sW,ul (wt h3),ul (wt h4)])<;>(repeat' apply And.intro)<;>first | exact .inr rfl | exact .inl rfl | trivial))⟩
  rintro e st ⟨rfl,hfg⟩;refine aD.fg hfg ?_;clear hfg
  (try change aD _ _ _ _ _)
  generalize sW op=w;by_cases h3:kids.length=w;rotate_left
  ·rw[show decide (kids.length=w)=false by simpa using h3]
   exact(aA (show decide ((kids.length:Int)=(w:Int))=false by simp;omega))<|(cN)<|zo [.tmp 2]
  rw[show decide (kids.length=w)=true by simpa using h3]
  have h3':decide ((kids.length:Int)=(w:Int))=true:=by simp;omega
  cases h4:decide (n<0);rotate_left
  ·exact(aA (br h3' h4))<|(cN)<|zo [.tmp 2]
  cases h5:decide (9999999<n);rotate_left
  ·exact(aA (cA h3' h4 h5))<|(cN)<|zo [.tmp 2]
  by_cases h7:(decide (0<n)&&!(decide (op=1)))=true
  ·rw[Bool.and_eq_true,Bool.not_eq_true'] at h7
   exact(aA (ik h3' h4 h5 @h7.1 @h7.2))<|(cN)<|zo [.tmp 2] (hq:=by rw[h7.1,h7.2];rfl)
  have h8:(decide (0<n)&&!(decide (op=1)))=false:=by simpa using h7
  rw[h8]
  (repeat refine aD.seq ?_)
  refine aD.mono (Q:=λe st=>e=.normal/\Fg st ⟨[(1,.ptr 0 0),(47,au false)],59,[.cells [aa op,aa n,.sl kids.length 3 (kids.flatMap aC)]],[]⟩) ?_ ?_
  ·cases h6:decide (0<n)
   ·refine(aA (jB h3' h4 h5 h6)) ?_;exact⟨rfl,zH⟩
   ·rw[h6] at h8
    have h9:decide (op=1)=true:=by
     cases h:decide (op=1) with
     | true=>rfl
     | false=>rw[h] at h8;cases h8
    refine(aA (ik h3' h4 h5 h6 h9)) ?_;exact⟨rfl,zH⟩
  rintro e st ⟨rfl,hfg⟩;refine aD.fg hfg ?_;clear hfg
  (try change aD _ _ _ _ _)
  refine(jG)<|(zs) ?_;refine zL kids (λk=>(kids.take k).all gU=true) (λk=>[(49,an 3 kids aC),(50,aa kids.length),(51,aa k)]) (λk=>[]) zH zp ?_;intro k hk hall;refine zT kids k ?_ ?_;rintro rfl;rotate_left;intro x hx hlt;rotate_left
  ·refine(fC)<|(zV) ?_
   rw[List.take_length] at hall;exact zo [.tmp 2] (hq:=by rw[hall];rfl)
  have hxm:=List.mem_of_getElem? hx;have ih:=zI d x (hkd x hxm) (hks x hxm);have hxl:((kids.flatMap aC).drop (k*3)).take 3=aC x:=aH (e:=3) (enc:=aC) fi hx
  have hnext:gU x=true->(kids.take (k+1)).all gU=true:=λh=>by rw[bz hx,List.all_append,hall];simp[h]
  have hbad:gU x=false->kids.all gU=false:=λh=>by rw[List.all_eq_false];exact⟨x,hxm,by rw[h];decide⟩
  obtain⟨op',n',kids'⟩:=x;simp only[dL] at hxl ih
  refine(gJ)<|(aA (br hlt hxl))<|(zC)<|(zK ih) ?_
  cases h10:gU (.mk op' n' kids')
  ·exact(zR)<|(cN)<|zo [.tmp 2] (hq:=by rw[hbad h10];rfl)
  refine(zR)<|(zN)<|(aA (zi hlt hlen)) ?_;refine zX hlt zH (hnext h10)
def C0(f:aX)(hf:iy f):PC prog 71 [.ag (aC f)] (·=au (gU f)):=zI _ f (dv _) hf
def eb(f:aX):Bool:=decide (gB f 60<=60)&&gU f
def sR(f:aX)(hf:iy f):PC prog 35 [.ag (aC f)] (·=au (Proofs.eb f)):=by
 have hn:=MK f hf 60;have hr:=C0 f hf;refine pB 10 Tryz.func35 ?_;have hv:Proofs.eb f=(decide (gB f 60<=60)&&gU f):=rfl;generalize gB f 60=N at hn hv;generalize gU f=R at hr hv;obtain⟨op,n,kids⟩:=f;rw[dL] at hn hr ⊢
 refine(lJ)<|(zK hn) ?_
 cases h1:decide (N<=60)
 ·exact(cO h1)<|zo [.tmp 2] (hq:=by rw[hv,h1];rfl)
 exact(Wh h1)<|(zK hr)<|(zR)<|zo [.tmp 2] (hq:=by rw[hv,h1];rfl)
mutual
def oq(u:jj):aX->Int×Int
 | .mk op n kids=>
  if op=1 then (n,n) else if op<=4 then oV u op
  else match pe u kids with
   | a::b::l=>if op=11 then (match l with
    | c::_=>oO a b c
    | []=>(0,0)) else applyN op a b
   | _=>(0,0)
def pe(u:jj):List aX->List (Int×Int)
 | []=>[]
 | k::ks=>oq u k::pe u ks
end
def NS(p q r s:Int):dI (dI (dI p q) r) s<=dM (dM (dM p q) r) s:=by
 have h1:∀a b:Int,dI a b<=a:=λa b=>by unfold dI;split<;>omega
 have h2:∀a b:Int,a<=dM a b:=λa b=>by unfold dM;split<;>omega
 have:=h1 p q;have:=h1 (dI p q) r;have:=h1 (dI (dI p q) r) s;have:=h2 p q;have:=h2 (dM p q) r;have:=h2 (dM (dM p q) r) s;omega
def FK(f:Int->Int->Int)(a b c d:Int):(fq f a b c d).1<=(fq f a b c d).2:=by
 unfold fq;split
 ·exact NS _ _ _ _
 ·exact d5 _
def join_le(a b c d:Int):(np a b c d).1<=(np a b c d).2:=by
 unfold np;split
 ·exact NS _ _ _ _
 ·exact d5 _
def Uu(l:List (Int×Int))(x:Int×Int)(h:l≠[]):(l.foldl jN x).1<=(l.foldl jN x).2:=by
 rcases List.eq_nil_or_concat l with rfl | ⟨a,y,rfl⟩
 ·exact t7 rfl h
 ·rw[List.concat_eq_append,dk];exact join_le _ _ _ _
def Pa(a0 a1 b0 b1:Int):(kS a0 a1 b0 b1).1<=(kS a0 a1 b0 b1).2:=by
 unfold kS;by_cases h:nh a0 a1 b0 b1=[]
 ·rw[h];exact d5 _
 ·exact Uu _ _ h
def EA{c d:Int}(h1:a<=b)(h2:c<=d):dI a c<=dI b d/\dM a c<=dM b d:=by
 unfold dI dM;constructor<;>split<;>split<;>omega
def QY(op:Int){a b:Int×Int}(ha:a.1<=a.2)(hb:b.1<=b.2):(applyN op a b).1<=(applyN op a b).2:=by
 unfold applyN;split
 ·exact FK _ _ _ _ _
 split
 ·exact FK _ _ _ _ _
 split
 ·exact FK _ _ _ _ _
 split
 ·exact(EA ha hb).1
 split
 ·exact(EA ha hb).2
 ·exact Pa _ _ _ _
def OZ{a b c:Int×Int}(hb:b.1<=b.2)(hc:c.1<=c.2):(oO a b c).1<=(oO a b c).2:=by
 unfold oO;split
 ·exact hb
 split
 ·exact hc
 ·exact join_le _ _ _ _
structure jj.ok (u:jj):Prop where
 a:u.u1<=u.u2
 b:u.u3<=u.u4
 c:u.u5<=u.u6
def PA{u:jj}(h:u.ok)(op:Int):(oV u op).1<=(oV u op).2:=by
 unfold oV;split
 ·exact h.a
 split
 ·exact h.b
 ·exact h.c
mutual
def Om{u:jj}(h:u.ok):∀f:aX,(oq u f).1<=(oq u f).2
 | .mk op n kids=>by
  have ih:=JK h kids;rw[oq];split
  ·exact d5 _
  split
  ·exact PA h op
  ·split
   ·rename_i a b l hl;rw[hl] at ih;split
    ·split
     ·exact OZ (ih _ f5) (ih _ f5)
     ·exact d5 _
    ·exact QY op (ih _ f5) (ih _ f5)
   ·exact d5 _
def JK{u:jj}(h:u.ok):∀l:List aX,∀p∈pe u l,p.1<=p.2
 | [],p,hp=>by rw[pe] at hp;cases hp
 | k::ks,p,hp=>by
  rw[pe] at hp
  rcases rt hp with rfl | hp
  ·exact Om h k
  ·exact JK h ks p hp
end
def EH(P:Program)(nm:String)(t:TypeId)(v:AV)(ys:List AV):Ev.cY P (.a (.fn (.method nm) [.iface t v] ys))=(j7 P t nm).map λ_=>.a (.fn (.method nm) [.iface t v] ys):=rfl
def rC(u:jj):SV:=.iface 184 (.ag (eG u))
def Hp:j7 prog 184 "bogie/formula.number"=some 264:=by kernel_rfl
def Ho:j7 prog 184 "bogie/formula.letter"=some 263:=by kernel_rfl
def zz:j7 prog 184 "bogie/formula.apply"=some 261:=by kernel_rfl
def wR:j7 prog 184 "bogie/formula.choose"=some 262:=by kernel_rfl
def Fq(u:jj)(hu:u.ok):∀(d:Nat) (f:aX),SizeOf.sizeOf f<d->iy f->gU f=true->PC Tryz.prog 92 [rC u,.ag (aC f)] (·=pU (oq u f))
 | 0,f,hd,_,_=>t7 hd (Nat.not_lt_zero _)
 | d+1,.mk op n kids,hd,hf,hr=>by
  cases hf with
  | mk hlen hks=>
  have hkd:∀k∈kids,SizeOf.sizeOf k<d:=λk hk=>by
   have h1:=List.sizeOf_lt_of_mem hk
   have h2:SizeOf.sizeOf (aX.mk op n kids)=1+SizeOf.sizeOf op+SizeOf.sizeOf n+SizeOf.sizeOf kids:=by simp
   omega
  rw[dL,oq]
  refine pB 67 Tryz.func92 ?_;refine(aA (br @rC.eq_1 @eG.eq_1))<|(zB) ?_
  cases h1:decide (op=1);rotate_left
  ·refine(aA h1)<|(zY) ?_
   rw[t8 (ww h1)]
   exact(zC)<|(zK (Hr u n) (hc:=Nb @Hp))<|(cO (br @pU.eq_1 @mD.eq_1))<|zo [.cell 4 54]
  rw[ul (wt h1)]
  refine(aA h1)<|(zN) ?_
  cases h2:decide (op<=4);rotate_left
  ·refine(aA h2)<|(zY) ?_
   rw[t8 (ww h2)]
   exact(zC)<|(zK (Hm u op) (hc:=Nb @Ho))<|(cO (br @pU.eq_1 @mD.eq_1))<|zo [.cell 4 54]
  rw[ul (wt h2)]
  refine(aA h2)<|(zN) ?_
  rw[gU,Bool.and_eq_true,Bool.and_eq_true,Bool.and_eq_true,Bool.and_eq_true] at hr;obtain⟨⟨hr1,hr2,_⟩,hr3⟩:=hr;have hop1:=ww hr1.1;have hop2:=ww hr1.2;have hkl:=ww hr2;have h1':=wt h1;have h2':=wt h2;rw[uH] at hr3;have n0:dx (.int .i64 0)=some 0:=rfl;have n1:dx (.int .i64 1)=some 1:=rfl;have n2:dx (.int .i64 2)=some 2:=rfl
  have hkid:∀{j:Nat} {x:aX},kids[j]?=some x->PC Tryz.prog 92 [rC u,.ag (aC x)] (·=pU (oq u x)):=λ{j x} hx=>by
   have hxm:=List.mem_of_getElem? hx;exact Fq u hu d x (hkd x hxm) (hks x hxm) (List.all_eq_true.1 hr3 x hxm)
  have hat:∀{j:Nat} {x:aX},kids[j]?=some x->((kids.flatMap aC).drop (j*3)).take 3=aC x:=λhx=>aH (e:=3) (enc:=aC) fi hx;cases h3:decide (op=11)
  ·have h3':=wt h3
   have hw:kids.length=2:=by rw[hkl,sW,ul h3',t8 gt]
   obtain⟨x0,x1,hk2⟩:∃x0 x1,kids=[x0,x1]:=by
    match kids,hw with
    | [a,b],_=>exact⟨a,b,rfl⟩
   have e0:kids[0]?=some x0:=by rw[hk2];rfl
   have e1:kids[1]?=some x1:=by rw[hk2];rfl
   have hrun:pe u kids=[oq u x0,oq u x1]:=by rw[hk2,pe,pe,pe]
   rw[hrun];simp only[ul h3'];have hb:=Om hu x1;have a0:=hat e0;have a1:=hat e1;have k0:=hkid e0;have k1:=hkid e1
   have t0:(kids.flatMap aC).take 3=aC x0:=by rwa [Nat.zero_mul,List.drop_zero] at a0
   rw[rC,eG] at k0 k1;generalize oq u x0=r0 at k0 ⊢;generalize oq u x1=r1 at k1 hb ⊢;obtain⟨o0,m0,s0⟩:=x0;obtain⟨o1,m1,s1⟩:=x1;rw[dL] at t0 a1 k0 k1
   have l0:0<kids.length:=by omega
   have l1:1<kids.length:=by omega
   refine(aA h3)<|(zN)<|(zs) ?_;refine uW [0,0,2,0,0,16,48,112,248,0,0,1024,3072,7168,16376,1,32769,98305,262143,524287] ?_;refine(tT (cA n0 l0 t0))<|(Nc (k0))<|(tT (cA n1 l1 a1))<|(Nc (k1))<|(tT (cA @dY.eq_28 @EH @zz)) ?_;refine SD.k ge rfl rfl ge rfl rfl (Nb @zz) (JY u op r0 r1 hb) (zw) rfl ?_;refine SD.e ge rfl ge rfl rfl ge zl ?_;exact(zM)<|zo [.cell 4 54]
  ·have h3':=ww h3
   have hw:kids.length=3:=by rw[hkl,sW,t8 h3']
   obtain⟨x0,x1,x2,hk2⟩:∃x0 x1 x2,kids=[x0,x1,x2]:=by
    match kids,hw with
    | [a,b,c],_=>exact⟨a,b,c,rfl⟩
   have e0:kids[0]?=some x0:=by rw[hk2];rfl
   have e1:kids[1]?=some x1:=by rw[hk2];rfl
   have e2:kids[2]?=some x2:=by rw[hk2];rfl
   have hrun:pe u kids=[oq u x0,oq u x1,oq u x2]:=by rw[hk2,pe,pe,pe,pe]
   rw[hrun];simp only[t8 h3'];have a0:=hat e0;have a1:=hat e1;have a2:=hat e2;have k0:=hkid e0;have k1:=hkid e1;have k2:=hkid e2
   have t0:(kids.flatMap aC).take 3=aC x0:=by rwa [Nat.zero_mul,List.drop_zero] at a0
   rw[rC,eG] at k0 k1 k2;generalize oq u x0=r0 at k0 ⊢;generalize oq u x1=r1 at k1 ⊢;generalize oq u x2=r2 at k2 ⊢;obtain⟨o0,m0,s0⟩:=x0;obtain⟨o1,m1,s1⟩:=x1;obtain⟨o2,m2,s2⟩:=x2;rw[dL] at t0 a1 a2 k0 k1 k2
   have l0:0<kids.length:=by omega
   have l1:1<kids.length:=by omega
   have l2:2<kids.length:=by omega
   refine(aA h3)<|(zY)<|(zs) ?_;refine uW [0,0,0,4,12,28,62,0,0,256,768,1792,4094,0,0,16384,49152,114688,262142,1,524289,1572865,4194303,8388607] ?_;refine(tT (cA n0 l0 t0))<|(Nc (k0))<|(tT (cA n1 l1 a1))<|(Nc (k1))<|(tT (cA n2 l2 a2))<|(Nc (k2))<|(tT (cA @dY.eq_28 @EH @wR)) ?_;refine SD.k ge rfl rfl ge rfl rfl (Nb @wR) (G1 u r0 r1 r2) (zw) rfl ?_;refine SD.e ge rfl ge rfl rfl ge zl ?_;exact(zM)<|zo [.cell 4 54]
def TD(u:jj)(hu:u.ok)(f:aX)(hf:iy f)(hr:gU f=true):PC prog 92 [rC u,.ag (aC f)] (·=pU (oq u f)):=Fq u hu _ f (dv _) hf hr
def jj.Pk(u:jj):Bool:=kL u.u1 u.u2&&(kL u.u3 u.u4&&kL u.u5 u.u6)
def ng(f:aX)(u:jj):Int×Int:=if u.Pk=true/\eb f=true then (dM 0 (oq u f).1,dM 0 (oq u f).2) else (0,0)
def Ls(h:kL a b=true):a<=b:=by
 unfold kL at h;simp only[bi,cv,wd] at h;omega
def jj.Uv{u:jj}(h:u.Pk=true):u.ok:=by
 unfold jj.Pk at h;simp only[bi] at h;exact⟨Ls h.1,Ls h.2.1,Ls h.2.2⟩
def J3(f:aX)(u:jj)(hf:iy f):PC prog 42 [.ag (aC f),.ag (eG u)] (·=pU (ng f u)):=by
 have hv:=sR f hf;have hr:=λh1 h2=>TD u h1 f hf h2
 have hd:ng f u=if u.Pk=true/\Proofs.eb f=true then (dM 0 (oq u f).1,dM 0 (oq u f).2) else (0,0):=rfl
 have hvr:Proofs.eb f=true->gU f=true:=λh=>by unfold Proofs.eb at h;simp only[bi] at h;exact h.2
 generalize Proofs.eb f=V at hv hd hvr;generalize gU f=R at hr hvr;generalize oq u f=r at hr hd;obtain⟨op,n,kids⟩:=f;rw[dL] at hv hr ⊢;obtain⟨ivs,hivs⟩:∃l:List (Int×Int),l=[(u.u1,u.u2),(u.u3,u.u4),(u.u5,u.u6)]:=⟨_,rfl⟩
 have hgood:u.Pk=ivs.all λp=>kL p.1 p.2:=by rw[hivs];simp[jj.Pk]
 have hkc:∀(o:Nat) (l:List (Int×Int)),(l.flatMap de).map (aW o)=l.flatMap de:=λo l=>bf nJ o l;have hcl:=aM tg ivs
 have hlen:ivs.length<=1000:=by rw[hivs];simp
 refine pB 53 Tryz.func42 ?_;refine(aA @eG.eq_1)<|(zV)<|(zs) ?_;refine zL ivs (λk=>(ivs.take k).all (λp=>kL p.1 p.2)=true) (λk=>[(2,.ptr 0 0),(3,.ptr 1 0),(4,.ptr 2 0),(14,.buf 3 ivs.length 2 (some 3)),(15,aa ivs.length),(16,aa k)]) (λk=>[.cells [aa op,aa n,.sl kids.length 3 (kids.flatMap aC)],.cells (eG u),.cells [aa 0,aa 0],.cells (ivs.flatMap de)]) (bK (DX @eG.eq_1 hivs @i7.{0} @g9.{0} @flatMap_cons.{0,0} @flatMap_nil.{0,0} @de.eq_1 @cons_append.{0} @nil_append.{0})) zp ?_;intro k hk hall;refine zT ivs k ?_ ?_;rintro rfl;rotate_left;intro x hx hlt;rotate_left
 ·refine(fC) ?_;rw[bk] at hall;rw[<-hgood] at hall
  refine(jH @eG.eq_1)<|(zK hv) ?_
  cases hV:V
  ·exact(zR)<|(cN)<|zo [.cell 4 54] (hq:=by rw[hd,ul (by rw[hV];simp)];rfl)
  refine(zR)<|(zN) ?_
  have hrr:=hr (jj.Uv hall) (hvr hV);rw[rC,eG] at hrr
  exact(jH @eG.eq_1)<|(zK hrr)<|(cO (br @pU.eq_1 @mD.eq_1))<|(aA @gp)<|zo [.cell 4 54] (hq:=by rw[hd,t8 ⟨hall,hV⟩];rfl)
 have hnext:kL x.1 x.2=true->(ivs.take (k+1)).all (λp=>kL p.1 p.2)=true:=λh=>by rw[bz hx,co,hall];simp[h]
 have hbad:kL x.1 x.2=false->ng (.mk op n kids) u=(0,0):=λh=>by
  rw[hd,ul];rintro⟨h2,_⟩;rw[hgood] at h2;have:=all_eq_true.1 h2 x (a8 hx);rw[h] at this;cases this
 refine(gJ)<|(aA (Af hlt (aH (e:=2) (enc:=de) ce hx) @de.eq_1 @eG.eq_1 hcl hkc (show k*2+2<=ivs.length*2 by omega))) ?_
 cases g1:decide (x.1<0);rotate_left
 ·exact(aA g1)<|(cN)<|zo [.cell 4 54] (hq:=by rw[hbad (by rw[kL,g1];rfl)];rfl)
 cases g2:decide (x.2<x.1);rotate_left
 ·exact(aA (br g1 g2))<|(cN)<|zo [.cell 4 54] (hq:=by rw[hbad (by rw[kL,g1,g2];rfl)];rfl)
 cases g3:decide (1000000<x.2);rotate_left
 ·exact(aA (cA g1 g2 g3))<|(cN)<|zo [.cell 4 54] (hq:=by rw[hbad (by rw[kL,g1,g2,g3];rfl)];rfl)
 refine(aA (cA g1 g2 g3))<|(zN)<|(aA (zi hlt (show ivs.length<=1000000 by omega))) ?_;refine zX hlt (bK (br hkc @eG.eq_1)) (hnext (by rw[kL,g1,g2,g3];rfl))
def qa(h:∀x,(enc x).all fw=true)(l:List α):(l.flatMap enc).all fw=true:=by
 rw[List.all_flatMap,all_eq_true];exact λx _=>h x
def ef(p:ai):cg (ak p)=true:=rfl
def iP(p:bN):cg (aZ p)=true:=rfl
def NC(l:List bj):(l.flatMap aE).all fw=true:=qa (λ_=>rfl) l
def EO(l:List ai):(l.flatMap ak).all fw=true:=qa (λ_=>rfl) l
def EU(l:List bN):(l.flatMap aZ).all fw=true:=qa (λ_=>rfl) l
def Aq:SC prog 43 [an 14 ([]:List ai) ak] [] [] (λr S'=>r=.e0 14/\S'=[]):=by
 refine On 8 func43 ?_;refine(lJ) ?_;refine aJ.PU ge rfl rfl ge rfl rfl (by simp only[az]) zW ?_;intro b _;refine(zR) ?_;cases b
 ·refine(jG) ?_;refine aD.fg (Fg.e0 2 14 (.inr ⟨0,rfl⟩)) ?_;refine zA [(2,.e0 14)] [] zH<|(zE) ?_;exact zP [.tmp 2]
 ·refine(cN) ?_;refine aD.fg (Fg.e0 2 14 (.inl rfl)) ?_;refine(zE) ?_;exact zP [.tmp 2]
def rU(l:List ai)(hlen:l.length<=1000000)(hne:l≠[]):SC prog 43 [an 14 l ak] [] [] (λr S'=>r=.buf 1 l.length 14 none/\S'=[.gone,.cells (l.flatMap ak)]):=by
 have h0:¬l.length=0:=λe=>hne (rx e);refine On 8 func43 ?_;have hkc:=λo=>bf (enc:=ak) ef o l;have hon:(l.flatMap ak).all fw=true:=EO l;refine(lJ) ?_;refine aJ.PU ge rfl rfl ge rfl rfl (by simp only[az]) zW ?_;intro b hb;cases b;rotate_left
 ·exact t7 (hb rfl) h0
 refine(zR)<|(zN) ?_
 have hp0:0<l.length:=c4 h0
 refine(aA (sa h0 hp0 hlen hon hkc @ad))<|zA [(2,.buf 1 l.length 14 none)] [.gone,.cells (l.flatMap ak)] zH<|(zE) ?_;exact zP [.tmp 2]
def Ar:SC prog 135 [an 2 ([]:List bN) aZ] [] [] (λr S'=>r=.e0 2/\S'=[]):=by
 refine On 8 func135 ?_;refine(lJ) ?_;refine aJ.PU ge rfl rfl ge rfl rfl (by simp only[az]) zW ?_;intro b _;refine(zR) ?_;cases b
 ·refine(jG) ?_;refine aD.fg (Fg.e0 2 2 (.inr ⟨0,rfl⟩)) ?_;refine zA [(2,.e0 2)] [] zH<|(zE) ?_;exact zP [.tmp 2]
 ·refine(cN) ?_;refine aD.fg (Fg.e0 2 2 (.inl rfl)) ?_;refine(zE) ?_;exact zP [.tmp 2]
def As(l:List bN)(hlen:l.length<=1000000)(hne:l≠[]):SC prog 135 [an 2 l aZ] [] [] (λr S'=>r=.buf 1 l.length 2 none/\S'=[.gone,.cells (l.flatMap aZ)]):=by
 have h0:¬l.length=0:=λe=>hne (rx e);refine On 8 func135 ?_;have hkc:=λo=>bf (enc:=aZ) iP o l;have hon:(l.flatMap aZ).all fw=true:=EU l;refine(lJ) ?_;refine aJ.PU ge rfl rfl ge rfl rfl (by simp only[az]) zW ?_;intro b hb;cases b;rotate_left
 ·exact t7 (hb rfl) h0
 refine(zR)<|(zN) ?_
 have hp0:0<l.length:=c4 h0
 refine(aA (sa h0 hp0 hlen hon hkc @ad))<|zA [(2,.buf 1 l.length 2 none)] [.gone,.cells (l.flatMap aZ)] zH<|(zE) ?_;exact zP [.tmp 2]
def Dw:SC prog 37 [an 14 ([]:List bj) aE] [] [] (λr S'=>r=.e0 14/\S'=[]):=by
 refine On 8 func37 ?_;refine(lJ) ?_;refine aJ.PU ge rfl rfl ge rfl rfl (by simp only[az]) zW ?_;intro b _;refine(zR) ?_;cases b
 ·refine(jG) ?_;refine aD.fg (Fg.e0 2 14 (.inr ⟨0,rfl⟩)) ?_;refine zA [(2,.e0 14)] [] zH<|(zE) ?_;exact zP [.tmp 2]
 ·refine(cN) ?_;refine aD.fg (Fg.e0 2 14 (.inl rfl)) ?_;refine(zE) ?_;exact zP [.tmp 2]
def Dx(l:List bj)(hlen:l.length<=1000000)(hne:l≠[]):SC prog 37 [an 14 l aE] [] [] (λr S'=>r=.buf 1 l.length 14 none/\S'=[.gone,.cells (l.flatMap aE)]):=by
 have h0:¬l.length=0:=λe=>hne (rx e);refine On 8 func37 ?_;have hkc:=λo=>bf (enc:=aE) dF o l;have hon:(l.flatMap aE).all fw=true:=NC l;refine(lJ) ?_;refine aJ.PU ge rfl rfl ge rfl rfl (by simp only[az]) zW ?_;intro b hb;cases b;rotate_left
 ·exact t7 (hb rfl) h0
 refine(zR)<|(zN) ?_
 have hp0:0<l.length:=c4 h0
 refine(aA (sa h0 hp0 hlen hon hkc @ad))<|zA [(2,.buf 1 l.length 14 none)] [.gone,.cells (l.flatMap aE)] zH<|(zE) ?_;exact zP [.tmp 2]
section
variable {α:Type} {enc:α->List SV} {e:Nat}
def ke(he:∀x,(enc x).length=e):∀(l:List α) (i:Nat),(l.flatMap enc).take (i*e)=(l.take i).flatMap enc
 | [],i=>by simp
 | a::l,0=>by simp
 | a::l,i+1=>by
  rw[flatMap_cons,d9,er,e4,flatMap_cons,<-ke he l i];rw[el,he,show e+i*e-e=i*e by omega,af (by rw[he];omega)]
def nV(he:∀x,(enc x).length=e):∀(l:List α) (i:Nat),(l.flatMap enc).drop (i*e)=(l.drop i).flatMap enc
 | [],i=>by simp
 | a::l,0=>by simp
 | a::l,i+1=>by
  rw[flatMap_cons,d9,er,eF,<-nV he l i];rw[List.drop_append,he,show e+i*e-e=i*e by omega,b5 (by rw[he];omega),nil_append]
def nL(he:∀x,(enc x).length=e){l:List α}(y:α)(h:i<l.length):(l.flatMap enc).take (i*e)++(enc y++(l.flatMap enc).drop (i*e+e))=(l.set i y).flatMap enc:=by
 rw[ke he,show i*e+e=(i+1)*e by rw[d9],nV he,b7,t8 h,bo,flatMap_cons]
end
def uj{α:Type}(lt:α->α->Bool):Nat->List α->List α
 | 0,l=>l
 | j+1,l=>match l[j+1]?,l[j]? with
  | some x,some y=>if lt x y=true then uj lt j ((l.set (j+1) y).set j x) else l
  | _,_=>l
def BM{α:Type}(lt:α->α->Bool):Nat->Nat->List α->List α
 | 0,_,l=>l
 | n+1,i,l=>BM lt n (i+1) (uj lt i l)
def tO(lt:α->α->Bool)(l:List α):List α:=BM lt (l.length-1) 1 l
def H3{α:Type}{lt:α->α->Bool}:∀(j:Nat) (l:List α),(uj lt j l).length=l.length
 | 0,l=>rfl
 | j+1,l=>by
  unfold uj;split
  ·split
   ·rw[H3 j,a7,a7]
   ·rfl
  ·rfl
def IB{α:Type}{lt:α->α->Bool}:∀(n i:Nat) (l:List α),(BM lt n i l).length=l.length
 | 0,_,_=>rfl
 | n+1,i,l=>by rw[BM,IB n,H3]
def vF(lt:α->α->Bool)(l:List α):(tO lt l).length=l.length:=IB _ _ _
def swap_perm{j:Nat}{x y:α}(hx:l[j+1]?=some x)(hy:l[j]?=some y):((l.set (j+1) y).set j x).Perm l:=by
 have h1:j+1<l.length:=aR hx
 have h0:j<l.length:=by omega
 have e:l=l.take j++(y::x::l.drop (j+2)):=by
  have a1:l.drop j=y::l.drop (j+1):=gm hy;have a2:l.drop (j+1)=x::l.drop (j+2):=gm hx;rw[<-a2,<-a1,en]
 have hlt:(l.take j).length=j:=by rw[aj];omega
 have e2:(l.set (j+1) y).set j x=l.take j++(x::y::l.drop (j+2)):=by
  apply fo;intro i;rw[f0,List.getElem?_append,hlt];by_cases c1:j=i
  ·subst c1;rw[t8 rfl,a7,t8 h0,ul (hC _),d8];rfl
  ·rw[ul c1,f0];by_cases c2:j+1=i
   ·subst c2;rw[t8 rfl,t8 h1,ul gt,show j+1-j=1 by omega];rfl
   ·rw[ul c2];by_cases c3:i<j
    ·rw[t8 c3,fd,t8 c3]
    ·rw[ul c3,show i-j=(i-(j+2))+2 by omega,cj,cj,ci,show j+2+(i-(j+2))=i by omega]
 rw[e2]
 conv=>rhs;rw[e]
 exact Perm.append_left _ (Perm.swap _ _ _)
def DU{α:Type}{lt:α->α->Bool}:∀(j:Nat) (l:List α),(uj lt j l).Perm l
 | 0,l=>Perm.refl _
 | j+1,l=>by
  unfold uj;split
  ·rename_i x y hx hy;split
   ·exact(DU j _).trans (swap_perm hx hy)
   ·exact Perm.refl _
  ·exact Perm.refl _
def Eg{α:Type}{lt:α->α->Bool}:∀(n i:Nat) (l:List α),(BM lt n i l).Perm l
 | 0,_,_=>Perm.refl _
 | n+1,i,l=>by rw[BM];exact(Eg n (i+1) _).trans (DU i l)
def xT(lt:α->α->Bool)(l:List α):(tO lt l).Perm l:=Eg _ _ _
def Am(cmp:bj->bj->Int)(x y:bj):Bool:=decide (cmp x y<0)
abbrev Y1:=bj×Int
def VP (h:p:=by
  refine Oo 53 var ?_;refine(zV) ?_
  (repeat refine aD.seq ?_)
  refine aD.block (aD.loop (λm st=>∃(i:Nat) (q:List vas),(q.length=l.length/\(i+1<=l.length\/i=0))/\tO (vat cmp) l=BM (vat cmp) (l.length-(i+1)) (i+1) q/\l.length-i=m/\st=⟨[(0,.buf 0 l.length vau c),(1,aa 0),(2,aa l.length),(3,.fn g [] []),(8,cI (i+1)),(1000000,.ptr 0 0)],53,[.cells (q.flatMap vav)],[]⟩) l.length zH ⟨0,l,⟨rfl,.inr rfl⟩,rfl,Nat.sub_zero _,rfl⟩ (by rintro m st ⟨i,q,_,_,_,rfl⟩;rfl) ?_);rintro m st ⟨i,q,⟨hql,hi⟩,hres,rfl,rfl⟩;refine(zV) ?_;by_cases hlt:i+1<l.length;rotate_left
  ·rw[show decide (((i+1:Nat):Int)<(l.length:Int))=false by simp only[wd];((try simp only[vau] at *)<;>omega)]
   refine(zN)<|zA [(1000000,.ptr 0 0)] [.cells (q.flatMap vav)] zH ?_;refine aD.exit ?_
   simp only[gK,eI,cQ,cr,if_true];rw[show l.length-(i+1)=0 by ((try simp only[vau] at *)<;>omega),BM] at hres;exact zP [] (hq:=by (try simp only[dA,aY]);first | done | (rw[hres];first | exact⟨rfl,rfl⟩ | exact⟨trivial,rfl⟩ | exact⟨rfl,trivial⟩ | exact⟨trivial,trivial⟩))
  rw[show decide (((i+1:Nat):Int)<(l.length:Int))=true by simp only[wp];((try simp only[vau] at *)<;>omega)]
  refine(gJ)<|(zV) ?_
  obtain⟨s,hs⟩:∃s,l.length-(i+1)=s+1:=⟨l.length-(i+1)-1,by ((try simp only[vau] at *)<;>omega)⟩;rw[hs,BM] at hres
  (repeat refine aD.seq ?_)
  refine aD.block (aD.loop (λm st=>∃(j:Nat) (p:List vas),(p.length=l.length/\j<=i+1)/\uj (vat cmp) (i+1) q=uj (vat cmp) j p/\j=m/\st=⟨[(0,.buf 0 l.length vau c),(1,aa 0),(2,aa l.length),(3,.fn g [] []),(8,cI (i+1)),(9,cI j),(1000000,.ptr 0 0)],53,[.cells (p.flatMap vav)],[]⟩) (i+1) zH ⟨i+1,q,⟨hql,Nat.le_refl _⟩,rfl,rfl,rfl⟩ (by rintro m st ⟨j,p,_,_,_,rfl⟩;rfl) ?_);rintro m st ⟨j,p,⟨hpl,hj⟩,hb,rfl,rfl⟩;have hil:i+1<l.length:=hlt
  have hcl:(p.flatMap vav).length=l.length*vau:=by rw[aM vaw,hpl]
  simp only[vau] at hcl
  cases j with
  | zero=>
   refine(zs) ?_;refine uW [0,0,3,7,15,15,15,111,239,15,15,1039,3599,7695,16383,32767,65535] ?_;refine(tT (show decide ((0:Int)<((0:Nat):Int))=false from rfl))<|(zM)<|(fC)<|(aA (xn (show -9223372036854775808<=((i+1:Nat):Int)+1/\((i+1:Nat):Int)+1<=9223372036854775807 from⟨by ((try simp only[vau] at *)<;>omega),by ((try simp only[vau] at *)<;>omega)⟩))) ?_;exact⟨l.length-(i+1),_,by ((try simp only[vau] at *)<;>omega),zH,i+1,p,⟨hpl,.inl (by ((try simp only[vau] at *)<;>omega))⟩,by rw[hres,hb,uj,show l.length-(i+1+1)=s by ((try simp only[vau] at *)<;>omega)],rfl,rfl⟩
  | succ j=>
   have hj1:j+1<l.length:=by ((try simp only[vau] at *)<;>omega)
   have hj0:j<l.length:=by ((try simp only[vau] at *)<;>omega)
   obtain⟨x,hx⟩:∃x,p[j+1]?=some x:=⟨p[j+1],jp (by ((try simp only[vau] at *)<;>omega))⟩;obtain⟨y,hy⟩:∃y,p[j]?=some y:=⟨p[j],jp (by ((try simp only[vau] at *)<;>omega))⟩;have ax:((p.flatMap vav).drop ((j+1)*vau)).take vau=vav x:=aH (e:=vau) (enc:=vav) vaw hx;simp only[vau] at ax;have ay:((p.flatMap vav).drop (j*vau)).take vau=vav y:=aH (e:=vau) (enc:=vav) vaw hy;simp only[vau] at ay
   have hbs:uj (vat cmp) (j+1) p=if vat cmp x y=true then uj (vat cmp) j ((p.set (j+1) y).set j x) else p:=by rw[uj,hx,hy]
   have s1:=nL (enc:=vav) vaw (l:=p) (i:=j+1) y (by ((try simp only[vau] at *)<;>omega));have s2:=nL (enc:=vav) vaw (l:=p.set (j+1) y) (i:=j) x (by rw[List.length_set];((try simp only[vau] at *)<;>omega))
   have hcl2:((p.set (j+1) y).flatMap vav).length=l.length*vau:=by rw[aM vaw,List.length_set,hpl]
   simp only[vau] at hcl2;rw[vax y] at s1 ay;rw[vax x] at s2 ax;simp only[List.cons_append,List.nil_append] at s1 s2;have hgx:=hg x y;rw[vax y,vax x] at hgx
   refine(zs) ?_;refine uW [0,0,3,7,15,15,15,111,239,15,15,1039,3599,7695,16383,32767,65535] ?_;refine(tT (O0 (show decide ((0:Int)<((j+1:Nat):Int))=true from by simp only[wp];((try simp only[vau] at *)<;>omega)) hj1 hj0 (TT (show -9223372036854775808<=((j+1:Nat):Int)-1/\((j+1:Nat):Int)-1<=9223372036854775807 from⟨by ((try simp only[vau] at *)<;>omega),by ((try simp only[vau] at *)<;>omega)⟩)) (show((j+1:Nat):Int)-1=(j:Int) from by ((try simp only[vau] at *)<;>omega)) hcl (show(j+1)*vau+vau<=l.length*vau by ((try simp only[vau] at *)<;>omega)) (show j*vau+vau<=l.length*vau by ((try simp only[vau] at *)<;>omega)) ax ay))<|(Nc (hgx)) ?_
   cases hc:decide (cmp x y<0)
   ·rw[vat,hc,ul gc] at hbs
    refine(tT hc)<|(zM)<|(fC)<|(aA (xn (show -9223372036854775808<=((i+1:Nat):Int)+1/\((i+1:Nat):Int)+1<=9223372036854775807 from⟨by ((try simp only[vau] at *)<;>omega),by ((try simp only[vau] at *)<;>omega)⟩))) ?_;exact⟨l.length-(i+1),_,by ((try simp only[vau] at *)<;>omega),zH,i+1,p,⟨hpl,.inl (by ((try simp only[vau] at *)<;>omega))⟩,by rw[hres,hb,hbs,show l.length-(i+1+1)=s by ((try simp only[vau] at *)<;>omega)],rfl,rfl⟩
   ·rw[vat,hc,t8 rfl] at hbs
    refine(tT hc)<|(zM)<|(gJ)<|(zs) ?_;refine uW [0,0,0,0,8,0,0,64,224,480,0,0,3072,7168,16355,32739,65535,131071] ?_;refine(tT (DX hj1 hj0 (TT (show -9223372036854775808<=((j+1:Nat):Int)-1/\((j+1:Nat):Int)-1<=9223372036854775807 from⟨by ((try simp only[vau] at *)<;>omega),by ((try simp only[vau] at *)<;>omega)⟩)) (show((j+1:Nat):Int)-1=(j:Int) from by ((try simp only[vau] at *)<;>omega)) hcl (show(j+1)*vau+vau<=l.length*vau by ((try simp only[vau] at *)<;>omega)) (show j*vau+vau<=l.length*vau by ((try simp only[vau] at *)<;>omega)) ax ay)) ?_;refine SD.e ge rfl ge rfl rfl ge (fF (cA hcl (show(j+1)*vau+vau<=l.length*vau by ((try simp only[vau] at *)<;>omega)) s1)) ?_;refine(tT (jB hj1 hj0 (TT (show -9223372036854775808<=((j+1:Nat):Int)-1/\((j+1:Nat):Int)-1<=9223372036854775807 from⟨by ((try simp only[vau] at *)<;>omega),by ((try simp only[vau] at *)<;>omega)⟩)) (show((j+1:Nat):Int)-1=(j:Int) from by ((try simp only[vau] at *)<;>omega)))) ?_;refine SD.e ge rfl ge rfl rfl ge (fF (cA hcl2 (show j*vau+vau<=l.length*vau by ((try simp only[vau] at *)<;>omega)) s2)) ?_;refine(zM)<|(aA (br (TT (show -9223372036854775808<=((j+1:Nat):Int)-1/\((j+1:Nat):Int)-1<=9223372036854775807 from⟨by ((try simp only[vau] at *)<;>omega),by ((try simp only[vau] at *)<;>omega)⟩)) (show((j+1:Nat):Int)-1=(j:Int) from by ((try simp only[vau] at *)<;>omega)))) ?_;exact⟨j,_,by ((try simp only[vau] at *)<;>omega),zH,j,(p.set (j+1) y).set j x,⟨by rw[List.length_set,List.length_set,hpl],by ((try simp only[vau] at *)<;>omega)⟩,by rw[hb,hbs],rfl,rfl⟩):p:=h
open Go.Proofs.Tryz renaming func218 -> var in
open Go.Proofs renaming bj -> vas,Am -> vat,aE -> vav in
open Go.Ev renaming sE -> vau in
def Mv(g:FuncId)(cmp:bj->bj->Int)(hg:∀x y,PC prog g [.ag (aE x),.ag (aE y)] (·=aa (cmp x y)))(c:Option Nat)(l:List bj)(hlen:l.length<=100000):
 SC prog 218 [.buf 0 l.length 14 c,aa 0,aa l.length,.fn g [] []] [.cells (l.flatMap aE)] [] (λr S'=>r=.bB []/\S'=[.cells ((tO (Am cmp) l).flatMap aE)]):=by
 have vaw:=@ea;have vax:=@ew;exact VP
def VQ (h:p:=by
  have hins:=vay g cmp hg c l (by ((try simp only[va3] at *)<;>omega));have hrc:∀(g:Nat->Nat) (l:List vaz),me g (l.flatMap va0)=l.flatMap va0:=λg l=>bg (aB va1 l);have hbc:∀(B:Nat) (l:List vaz),ia B (l.flatMap va0)=true:=λB l=>bH (aB va1 l);have hkc:∀(o:Nat) (l:List vaz),(l.flatMap va0).map (aW o)=l.flatMap va0:=λo l=>bf va1 o l
  have h1:decide ((20:Int)<=(l.length:Int))=false:=by simp only[wd];((try simp only[va3] at *)<;>omega)
  have h2:decide ((20:Int)<(l.length:Int))=false:=by simp only[wd];((try simp only[va3] at *)<;>omega)
  refine Oo 63 va2 ?_;refine(nP) ?_
  (repeat refine aD.seq ?_)
  refine aD.block (aD.loop (λm st=>m=0/\st=⟨[(0,.buf 0 l.length va3 c),(1,aa l.length),(2,.fn g [] []),(6,aa 20),(7,aa 0),(8,aa 20),(1000000,.ptr 0 0)],63,[.cells (l.flatMap va0)],[]⟩) 0 zH ⟨rfl,rfl⟩ (by rintro m st ⟨_,rfl⟩;rfl) ?_);rintro m st ⟨rfl,rfl⟩
  refine(aA h1)<|(fC) ?_
  (try change aD _ _ _ _ _)
  refine(zC) ?_;refine zS [0] (cA hrc hbc hkc) hins ?_;refine(zR) ?_
  (repeat refine aD.seq ?_)
  refine aD.block (aD.loop (λm st=>m=0/\st=⟨[(1,aa l.length),(6,aa 20),(1000000,.ptr 0 0)],63,[.cells ((tO (va4 cmp) l).flatMap va0)],[]⟩) 0 zH ⟨rfl,rfl⟩ (by rintro m st ⟨_,rfl⟩;rfl) ?_);rintro m st ⟨rfl,rfl⟩
  refine(aA h2)<|(fC) ?_
  simp only[gK,eI,cQ,cr,if_true]
  exact zP []):p:=h
open Go.Proofs renaming bj -> vaz,aE -> va0,Am -> va4 in
open Go.Proofs.Tryz renaming func177 -> va2 in
open Go.Ev renaming sE -> va3 in
def Kv(g:FuncId)(cmp:bj->bj->Int)(hg:∀x y,PC prog g [.ag (aE x),.ag (aE y)] (·=aa (cmp x y)))(c:Option Nat)(l:List bj)(hlen:l.length<20):
 SC prog 177 [.buf 0 l.length 14 c,aa l.length,.fn g [] []] [.cells (l.flatMap aE)] [] (λr S'=>r=.bB []/\S'=[.cells ((tO (Am cmp) l).flatMap aE)]):=by
 have vay:=@Mv;have va1:=@dF;exact VQ
def DL(g:FuncId)(cmp:bj->bj->Int)(hg:∀x y,PC prog g [.ag (aE x),.ag (aE y)] (·=aa (cmp x y)))(c:Option Nat)(l:List bj)(hlen:l.length<20):
 SC prog 120 [.buf 0 l.length 14 c,.fn g [] []] [.cells (l.flatMap aE)] [] (λr S'=>r=.bB []/\S'=[.cells ((tO (Am cmp) l).flatMap aE)]):=by
 have hins:=Kv g cmp hg c l hlen;have hrc:∀(g:Nat->Nat) (l:List bj),me g (l.flatMap aE)=l.flatMap aE:=λg l=>bg (aB dF l);have hbc:∀(B:Nat) (l:List bj),ia B (l.flatMap aE)=true:=λB l=>bH (aB dF l);have hkc:∀(o:Nat) (l:List bj),(l.flatMap aE).map (aW o)=l.flatMap aE:=λo l=>bf dF o l;refine Oo 9 Tryz.func120 ?_;refine(zC) ?_;refine zS [0] (cA hrc hbc hkc) hins ?_;refine(zR) ?_;exact zP []
def Fk(a:Int):PC prog 121 [aa a] (·=au false):=by
 refine pB 6 Tryz.func121 ?_;exact(zV)<|(aA (show decide (a=a)=true from ut rfl))<|zo [.tmp 2]
def Fl(a:List Nat):PC prog 182 [ab a] (·=au false):=by
 refine pB 6 func182 ?_;exact(zV)<|(aA (show decide (a=a)=true from ut rfl))<|zo [.tmp 2]
def O2(a b:Int):Int:=if a<b then -1 else if b<a then 1 else 0
def DA(a b:Int):PC prog 75 [aa a,aa b] (·=aa (O2 a b)):=by
 refine pB 20 Tryz.func75 ?_;refine(lJ)<|(zK (Fk a))<|(zR)<|(zC)<|(zK (Fk b))<|(zR)<|(KS)<|(KS) ?_
 cases h1:decide (a<b);rotate_left
 ·exact(aA h1)<|(cN)<|zo [.tmp 4] (hq:=by rw[O2,t8 (ww h1)])
 refine(aA h1)<|(zN) ?_
 cases h2:decide (b<a);rotate_left
 ·exact(aA h2)<|(cN)<|zo [.tmp 4] (hq:=by rw[O2,ul (wt h1),t8 (ww h2)])
 exact(aA h2)<|(jG)<|zo [.tmp 4] (hq:=by rw[O2,ul (wt h1),ul (wt h2)])
def Ag(a b:List Nat):Int:=if fZ a b=true then -1 else if a=b then 0 else 1
def uc(a b:List Nat):PC prog 127 [ab a,ab b] (·=aa (Ag a b)):=by
 refine pB 20 Tryz.func127 ?_;refine(lJ)<|(zK (Fl a))<|(zR)<|(zC)<|(zK (Fl b))<|(zR)<|(KS)<|(KS) ?_
 cases h1:fZ a b;rotate_left
 ·exact(aA h1)<|(cN)<|zo [.tmp 4] (hq:=by rw[Ag,t8 h1])
 refine(aA h1)<|(zN) ?_
 by_cases h2:a=b
 ·exact(aA (br h1 (show xc a b=true by rw[nT];exact ut h2)))<|(jG)<|zo [.tmp 4] (hq:=by rw[Ag,ul (by rw[h1];decide),t8 h2])
 ·exact(aA (br h1 (show xc a b=false by rw[nT];exact un h2)))<|(cN)<|zo [.tmp 4] (hq:=by rw[Ag,ul (by rw[h1];decide),ul h2])
def qY(a b:bj):Int:=O2 a.day b.day
def MV(a b:bj):PC prog 74 [.ag (aE a),.ag (aE b)] (·=aa (qY a b)):=by
 refine pB 10 Tryz.func74 ?_;exact(aA @aE.eq_1)<|(zC)<|(zK (DA a.day b.day))<|(zR)<|zo [.tmp 4]
def bj.yz:List AV:=[.int .i64 0,.int .i64 0,.str [],.str [],.str [],.str [],.str [],.str [],.int .i64 0,.int .i64 0,.int .i64 0,.int .i64 0,.int .i64 0,.int .i64 0]
def Qq(n:Nat)(h:n<=1000000):iV prog 35 (.int .i64 (n:Int)) (.int .i64 (n:Int))=some (n,14,n,rep bj.yz n):=by
 have q1:(prog.info? 58).map (λi=>(i.size,ble i.bytes 10000))=some (14,true):=by kernel_rfl
 obtain⟨i,hi,e⟩:=Option.map_eq_some_iff.1 q1;have e1:i.size=14:=n9 Prod.fst e;have e2:ble i.bytes 10000=true:=n9 Prod.snd e;unfold iV;rw[show prog.underlying 35=some (.slice 58) by kernel_rfl];simp only;rw[show dx (.int .i64 (n:Int))=some n from rfl,m7,m7,hi,m7,show dE prog 58=some (.agg bj.yz) by simp only[az];rfl,m7,e1,e2,fH (ad n),fH h];rfl
def uG:∀n,(rep bj.yz n).map SV.a=(aV n bj.zero).flatMap aE
 | 0=>rfl
 | n+1=>by rw[rep,c0,uG n,List.replicate_succ,flatMap_cons];rfl
def cL(l:List bj):List bj:=tO (Am qY) l
def DK(l:List bj)(hlen:l.length<20):PC prog 73 [an 14 l aE,.fn 74 [] []] (·=an 14 (cL l) aE):=by
 have hst:=DL 74 qY MV (some l.length) l hlen;have hrc:∀(g:Nat->Nat) (l:List bj),me g (l.flatMap aE)=l.flatMap aE:=λg l=>bg (aB dF l);have hbc:∀(B:Nat) (l:List bj),ia B (l.flatMap aE)=true:=λB l=>bH (aB dF l);have hkc:∀(o:Nat) (l:List bj),(l.flatMap aE).map (aW o)=l.flatMap aE:=λo l=>bf dF o l;refine pB 16 Tryz.func73 ?_;have hcl:=aM ea l
 have hzl:((aV l.length bj.zero).flatMap aE).length=l.length*14:=by rw[aM ea,cp]
 refine(zV)<|(aA (cA (Qq l.length gt) @uG hkc)) ?_
 (repeat refine aD.seq ?_)
 refine aD.mono (Q:=λe st=>e=.normal/\Fg st ⟨[(1,.fn 74 [] []),(5,.buf 0 l.length 14 (some l.length))],16,[.cells (l.flatMap aE)],[]⟩) ?_ ?_
 ·by_cases h0:l.length=0
  ·have hl:l=[]:=rx h0;subst hl;refine(zV) ?_;exact⟨rfl,zH⟩
  ·have htk:(l.flatMap aE).take (l.length*14)=l.flatMap aE:=dw ea l;have hmin:Nat.min l.length l.length=l.length:=gb _;have hdr:((aV l.length bj.zero).flatMap aE).drop (l.length*14)=[]:=b5 (by rw[hzl];exact ad _);refine(aA (O0 h0 hmin htk hzl hcl @ad @NC hdr @hJ @append_nil.{0})) ?_;exact⟨rfl,zH⟩
 rintro e st ⟨rfl,hfg⟩;refine aD.fg hfg ?_;clear hfg
 (try change aD _ _ _ _ _)
 have hsl:(cL l).length=l.length:=by unfold cL;exact vF _ _
 refine(zC) ?_;refine zS [0] (cA hrc hbc hkc) hst ?_;exact(zR)<|(zV)<|zo [.tmp 4] (r:=.sl l.length 14 ((cL l).flatMap aE)) (hw:=.buf rfl (by rw[<-hsl];rw[show tO (Am qY) l=cL l from rfl,dw ea];exact cS.refl (aB dF _)) (by rw[show tO (Am qY) l=cL l from rfl,aM ea,hsl];exact ad _)) (hq:=by rw[an,hsl])
def Kt(l:List bj)(hlen:l.length<20):PC prog 39 [an 14 l aE] (·=an 14 (cL l) aE):=by
 refine pB 5 Tryz.func39 ?_;exact(lJ)<|(zK (DK l hlen) (hfl:=.inr zr))<|(zR)<|zo [.tmp 2] (r:=an 14 (cL l) aE) (hw:=Wk.refl rfl)
variable{cap:List SV}
open Go.Proofs.Tryz renaming func72 -> vaa in
open Go.Ev renaming sE -> vab in
open Go.Proofs renaming aE -> vac in
def CW{l:List (bj)}(p:bj->Bool){fid:FuncId}{first:List SV}(hlen:l.length<=1000000)(hp:∀x∈l,PC prog fid ((first++[.ag (aE x)])++cap) (·=au (p x)))(hg:cg first=true/\cg cap=true):PC prog 72 [an 14 l aE,.fn fid first cap] (·=aa (kg p l)):=by
 have vad:=@aE.eq_1;exact Br
def Ac:∀n,(rep bj.yz n).all lu=true
 | 0=>rfl
 | n+1=>by rw[rep,co,Ac n];rfl
def Pl{p:α->Bool}(h:kg p l ≠ -1):∃(k:Nat) (x:α),kg p l=(k:Int)/\l[k]?=some x/\p x=true/\∀(i:Nat) y,i<k->l[i]?=some y->p y=false:=by
 unfold kg at h ⊢
 cases hf:l.findIdx? p with
 | none=>rw[hf] at h;exact t7 rfl h
 | some k=>
  rw[List.findIdx?_eq_some_iff_getElem] at hf;obtain⟨hlt,h1,h2⟩:=hf;refine⟨k,l[k],rfl,jp hlt,h1,λi y hi hy=>?_⟩;have:=h2 i hi;rw[jp gt] at hy;cases hy;simpa using this
def Pm{p:α->Bool}(h:kg p l = -1):∀x∈l,p x=false:=by
 unfold kg at h
 cases hf:l.findIdx? p with
 | none=>
  rw[List.findIdx?_eq_none_iff] at hf;exact hf
 | some k=>rw[hf] at h;simp only at h;omega
def fK(d:bj->Bool)(l:List bj):List bj:=l.filter λx=>!d x
def RX(d:bj->Bool)(l:List bj):(fK d l).length<=l.length:=em _ _
def ID{d:bj->Bool}{l:List bj}(h:∀x∈l,d x=false):fK d l=l:=by
 unfold fK;rw[List.filter_eq_self];intro x hx;rw[h x hx];rfl
def Ej{d:bj->Bool}{l:List bj}{j:Nat}{x:bj}(h:l[j]?=some x):fK d (l.take (j+1))=fK d (l.take j)++(if d x=true then [] else [x]):=by
 unfold fK;rw[bz h,fb];cases hd:d x<;>simp[hd]
def Mi(g:FuncId)(c2:List SV)(hg:cg c2=true)(d:bj->Bool)(hp:∀x,PC prog g [.ag (aE x),.ip c2] (·=au (d x))):
 SC prog 36 [.e0 14,.fn g [] [.ptr 0 0]] [.cells c2] [] (λr S'=>r=.e0 14/\S'=[.cells c2]):=by
 have hidx:=CW (l:=[]) d (fid:=g) (first:=[]) (cap:=[.ip c2]) f5 (λx hx=>hp x) ⟨rfl,rfl⟩;rw[show kg d [] = -1 from rfl] at hidx
 refine Oo 42 func36 ?_;refine(lJ)<|(zK hidx (hwk:=.cons (.YB 14) (.cons (.fn .nil (.cons (.ptr rfl (cS.refl hg) (cc _)) .nil)) .nil)))<|(zR)<|(Ab)<|(zV)<|(zE) ?_;exact QC.of (rs:=[.tmp 4]) rfl rfl zl ZQ zd zg
def Mj(g:FuncId)(c2:List SV)(hg:cg c2=true)(d:bj->Bool)(hp:∀x,PC prog g [.ag (aE x),.ip c2] (·=au (d x)))(l:List bj)(hlen:l.length<=100000):
 SC prog 36 [.buf 0 l.length 14 none,.fn g [] [.ptr 1 0]] [.cells (l.flatMap aE),.cells c2] [] (λr S'=>r=.buf 0 (fK d l).length 14 none/\S'=[.cells ((fK d l++aV (l.length-(fK d l).length) bj.zero).flatMap aE),.cells c2]):=by
 have hidx:=CW (l:=l) d (fid:=g) (first:=[]) (cap:=[.ip c2]) gt (λx hx=>hp x) ⟨rfl,rfl⟩;have hkc:∀(o:Nat) (l:List bj),(l.flatMap aE).map (aW o)=l.flatMap aE:=λo l=>bf dF o l;have hk2:∀o:Nat,c2.map (aW o)=c2:=λo=>bL hg
 refine XX 42 func36 ?_;refine(lJ)<|(zK hidx (hwk:=.cons (.buf rfl (by rw[dw ea];exact cS.refl (aB dF l)) (by rw[aM ea];exact ad _)) (.cons (.fn .nil (.cons (.ptr rfl (cS.refl hg) (cc _)) .nil)) .nil)))<|(zR) ?_
 by_cases hno:kg d l = -1
 ·have hall:=Pm hno;rw[hno]
  refine(Ab)<|(zV)<|(zE) ?_;exact zP [.tmp 4] (hq:=by (try simp only[dA,aY]);first | done | (rw[ID hall,d8,d6,append_nil];first | exact⟨rfl,rfl⟩ | exact⟨trivial,rfl⟩ | exact⟨rfl,trivial⟩ | exact⟨trivial,trivial⟩))
 obtain⟨k,x0,hk,hx0,hd0,hbef⟩:=Pl hno;rw[hk];have hkl:k<l.length:=aR hx0
 refine(aA (show decide ((k:Int) = -1)=false by simp only[wd];omega))<|(zN)<|(zs) ?_;refine aD.r0 ge (fF (bA (k:Int) 1 gt)) ?_
 have hst:fK d (l.take (k+1))=l.take k:=by
  rw[Ej hx0,t8 hd0,append_nil];refine ID λx hx=>?_;obtain⟨i,hi⟩:=List.mem_iff_getElem?.1 hx
  have hik:i<k:=by
   have:=aR hi;rw[aj] at this;omega
  rw[fd,t8 hik] at hi;exact hbef i x hik hi
 (repeat refine aD.seq ?_)
 refine aD.block (aD.loop (λm st=>∃(j i:Nat) (q:List bj),(i<j/\j<=l.length/\q.length=l.length)/\(q.take i=fK d (l.take j)/\q.drop j=l.drop j)/\l.length-j=m/\st=⟨[(0,.buf 0 l.length 14 none),(1,.fn g [] [.ptr 1 0]),(5,cI i),(6,cI j),(1000000,.ptr 0 0),(1000001,.ptr 1 0)],42,[.cells (q.flatMap aE),.cells c2],[]⟩) (l.length-(k+1)) (bK @dU) ⟨k+1,k,l,⟨dv _,hkl,rfl⟩,⟨hst.symm,rfl⟩,rfl,rfl⟩ (by rintro m st ⟨j,i,q,_,_,_,rfl⟩;rfl) ?_);rintro m st ⟨j,i,q,⟨hij,hjl,hql⟩,⟨htk,hdr⟩,rfl,rfl⟩
 have hcl:(q.flatMap aE).length=l.length*14:=by rw[aM ea,hql]
 refine(zV) ?_;by_cases hlt:j<l.length;rotate_left
 ·rw[show decide ((j:Int)<(l.length:Int))=false by simp only[wd];omega]
  obtain rfl:j=l.length:=by omega
  rw[bk] at htk;refine(fC) ?_
  have hkl2:(fK d l).length=i:=by rw[<-htk,aj];omega
  have hrest:(q.flatMap aE).take (i*14)++((rep bj.yz (l.length-i)).map SV.a++(q.flatMap aE).drop (i*14+(l.length-i)*14))=(fK d l++aV (l.length-(fK d l).length) bj.zero).flatMap aE:=by
   rw[hkl2,uG,ke ea,htk,b5 (by rw[hcl];omega),append_nil,bo]
  refine(zs) ?_;refine aD.r0 ge (by simp only[cG,bG,an,az,m7,m6,↓reduceIte,ac,a6,bv,ap,bs,ah,ar,bD,xu (show i<=l.length by omega),show ¬(l.length-i=0) by omega,show i*14+(l.length-i)*14<=l.length*14 by omega,hcl,show(rep [AV.int IntKind.i64 0,.int .i64 0,.str [],.str [],.str [],.str [],.str [],.str [],.int .i64 0,.int .i64 0,.int .i64 0,.int .i64 0,.int .i64 0,.int .i64 0] (l.length-i))=rep bj.yz (l.length-i) from rfl,Ac,hrest];first | done | rfl) ?_;refine(zs) ?_;refine aD.r0 ge (fF (br (VI (show i<=l.length by omega)) @ct)) ?_;refine(zE) ?_;exact QC.of (rs:=[.tmp 4]) rfl rfl zl (by (try simp only[dA,aY]);first | done | (rw[hkl2];first | exact⟨rfl,rfl⟩ | exact⟨trivial,rfl⟩ | exact⟨rfl,trivial⟩ | exact⟨trivial,trivial⟩)) zd zg
 rw[show decide ((j:Int)<(l.length:Int))=true by simp only[wp];omega];obtain⟨x,hx⟩:∃x,l[j]?=some x:=⟨l[j],jp hlt⟩
 have hqx:q[j]?=some x:=by
  have:(q.drop j)[0]?=(l.drop j)[0]?:=by rw[hdr]
  rw[ci,ci,ey] at this;rw[this,hx]
 have hdr2:q.drop (j+1)=l.drop (j+1):=by
  have:=n9 (List.drop 1) hdr;rw[ei,ei] at this;exact this
 have hsn:=Ej (d:=d) hx;have ax:((q.flatMap aE).drop (j*14)).take 14=aE x:=aH (e:=14) (enc:=aE) ce hqx;rw[ew] at ax;have hpx:=hp x;rw[ew] at hpx
 refine(gJ)<|(aA (sa hlt hcl (show j*14+14<=l.length*14 by omega) ax hkc hk2))<|(zC)<|(zK hpx (hwk:=.cons (.ag zr) (.cons (.ptr rfl (cS.refl hg) (cc _)) .nil))) ?_
 cases hd:d x
 ·have hil:i<q.length:=by omega
  have s1:=nL (enc:=aE) ea (l:=q) (i:=i) x hil;rw[ew] at s1;simp only[cons_append,nil_append] at s1;rw[hd,ul gc] at hsn
  refine(zR)<|(zY)<|(aA (jB (show i<l.length by omega) hcl (show i*14+14<=l.length*14 by omega) s1))<|(zs) ?_;refine aD.r0 ge (fF (bA (i:Int) 1 gt)) ?_;refine(zs) ?_;refine aD.r0 ge (fF (bA (j:Int) 1 gt)) ?_;refine⟨l.length-(j+1),_,by omega,(bK @dU),j+1,i+1,q.set i x,⟨by omega,by omega,by rw[a7,hql]⟩,⟨?_,?_⟩,rfl,rfl⟩
  ·rw[hsn,<-htk,b7,t8 hil,el,aj,aS gt,d0,ga gt,show i+1-i=1 by omega];rfl
  ·rw[hI,t8 gt];exact hdr2
 ·rw[hd,t8 rfl,append_nil] at hsn
  refine(zR)<|(zN)<|(zs) ?_;refine aD.r0 ge (fF (bA (j:Int) 1 gt)) ?_;exact⟨l.length-(j+1),_,by omega,(bK @dU),j+1,i,q,⟨by omega,by omega,hql⟩,⟨by rw[hsn,htk],hdr2⟩,rfl,rfl⟩
def Mr{j:Nat}(h:i+j<=1000000):mu prog 3 207 (.int .i64 ((i:Int)+(j:Int)))=some (.int .u64 ((i+j:Nat):Int)):=by
 unfold mu;rw[show prog.underlying 3=some (.int .i64) by kernel_rfl,show prog.underlying 207=some (.int .u64) by kernel_rfl]
 have:dJ .u64 ((i:Int)+(j:Int))=((i+j:Nat):Int):=by rw[jh];simp[IntKind.wrap,IntKind.bits,IntKind.signed];omega
 simp only[this]
def Ms{s:Nat}:cW prog .shr 207 (.int .u64 (s:Int)) (.int .u64 1)=some (.int .u64 ((s/2:Nat):Int)):=by
 have:((s:Int)).fdiv 2=((s/2:Nat):Int):=by
  rw[Int.fdiv_eq_ediv_of_nonneg _ gc];omega
 show some (AV.int .u64 (((s:Int)).fdiv 2))=_;rw[this]
def Mt{s:Nat}(h:s<=1000000):mu prog 207 3 (.int .u64 (s:Int))=some (.int .i64 (s:Int)):=by
 unfold mu;rw[show prog.underlying 3=some (.int .i64) by kernel_rfl,show prog.underlying 207=some (.int .u64) by kernel_rfl]
 have:dJ .i64 (s:Int)=(s:Int):=by rw[jh];simp[IntKind.wrap,IntKind.bits,IntKind.signed];omega
 simp only[this]
def eE(p:ai):ak p=[ab p.name,ab p.kind,ab p.aO,ab p.slot,aa p.made,aa p.since,au p.bI,an 2 p.props aZ,aa p.l1,aa p.l2,aa p.l3,aa p.l4,aa p.l5,aa p.l6]:=rfl
def qZ(p:bN):aZ p=[ab p.key,ab p.value]:=rfl
def iu(l:List ai)(k:List Nat)(pos:Nat):Bool:=match l[pos]? with
 | some x=>decide (ai.name x=k)
 | none=>false
structure DN (l:List ai) (k:List Nat) (pos:Nat):Prop where
 le:pos<=l.length
 gw:∀(a:Nat) (x:ai),l[a]?=some x->(fZ (ai.name x) k=true↔a<pos)
def VM (h:p:=by
  obtain⟨hpos,hpt⟩:=hpart
  refine pB 49 vah ?_;refine(nP)<|(zV) ?_
  (repeat refine aD.seq ?_)
  refine aD.block (aD.loop (λm st=>∃i j:Nat,(i<=pos/\pos<=j/\j<=l.length)/\j-i=m/\st=⟨[(0,an vai l vaj),(1,ab k),(2,.fn g [] cap),(8,cI l.length),(9,cI i),(10,cI j)],49,[],[]⟩) l.length zH ⟨0,l.length,⟨Nat.zero_le _,hpos,Nat.le_refl _⟩,Nat.sub_zero _,rfl⟩ (by rintro m st ⟨i,j,_,_,rfl⟩;rfl) ?_);rintro m st ⟨i,j,⟨hip,hpj,hjl⟩,rfl,rfl⟩;refine(zV) ?_;by_cases hij:i<j;rotate_left
  ·rw[show decide ((i:Int)<(j:Int))=false by simp only[wd];((try simp only[vai] at *)<;>omega)];refine(fC) ?_
   obtain rfl:i=pos:=by ((try simp only[vai] at *)<;>omega)
   by_cases hil:i<l.length
   ·obtain⟨x,hx⟩:∃x,l[i]?=some x:=⟨l[i],jp hil⟩
    have hl:fZ (vak x) k=false:=by
     cases h:fZ (vak x) k with
     | false=>rfl
     | true=>exact t7 ((hpt i x hx).1 h) (Nat.lt_irrefl _)
    have ax:((l.flatMap vaj).drop (i*vai)).take vai=vaj x:=aH (e:=vai) (enc:=vaj) ce hx;simp only[vai] at ax;have hpx:=hp x (List.mem_of_getElem? hx)
    have hfd:vam l k i=decide (vak x=k):=by unfold vam;rw[hx]
    have hc0:decide (Ag (vak x) k=0)=decide (vak x=k):=by
     unfold Ag;rw[hl,ul gc];by_cases e:vak x=k
     ·rw[t8 e,ut e];rfl
     ·rw[ul e,un e];rfl
    rw[van] at ax hpx
    exact(jH (cA (show decide ((i:Int)<(l.length:Int))=true by simp only[wp];((try simp only[vai] at *)<;>omega)) hil ax))<|(zK hpx (hwk:=cS.refl (nW rfl hcap)))<|(cO hc0)<|ji [.tmp 6,.tmp 7] (hq:=by rw[hfd])
   ·have hfd:vam l k i=false:=by unfold vam;rw[List.getElem?_eq_none (by ((try simp only[vai] at *)<;>omega))]
    exact(aA (show decide ((i:Int)<(l.length:Int))=false by simp only[wd];((try simp only[vai] at *)<;>omega)))<|ji [.tmp 6,.tmp 7] (hq:=by rw[hfd])
  rw[show decide ((i:Int)<(j:Int))=true by simp only[wp];((try simp only[vai] at *)<;>omega)];obtain⟨h,hh⟩:∃h,h=(i+j)/2:=⟨_,rfl⟩
  have hl2:h<l.length:=by ((try simp only[vai] at *)<;>omega)
  obtain⟨x,hx⟩:∃x,l[h]?=some x:=⟨l[h],jp hl2⟩;have ax:((l.flatMap vaj).drop (h*vai)).take vai=vaj x:=aH (e:=vai) (enc:=vaj) ce hx;simp only[vai] at ax;have hpx:=hp x (List.mem_of_getElem? hx);have hpth:=hpt h x hx;rw[van] at ax hpx
  refine(gJ)<|(zs) ?_;refine aD.r0 ge (fF (jB (bA (i:Int) (j:Int) (by ((try simp only[vai] at *)<;>omega))) (Mr (show i+j<=1000000 by ((try simp only[vai] at *)<;>omega))) @Ms (Mt (show(i+j)/2<=1000000 by ((try simp only[vai] at *)<;>omega))))) ?_
  rw[<-hh]
  refine(jH (br hl2 ax))<|(zK hpx (hwk:=cS.refl (nW rfl hcap))) ?_
  have hc:decide (Ag (vak x) k<0)=fZ (vak x) k:=by
   unfold Ag;cases h:fZ (vak x) k
   ·rw[ul gc];split<;>rfl
   ·rw[t8 rfl];rfl
  cases hlt:fZ (vak x) k
  ·have hge:pos<=h:=by
    rcases Nat.lt_or_ge h pos with hq | hq
    ·have:=hpth.2 hq;rw[hlt] at this;cases this
    ·exact hq
   refine(cO (br hc hlt))<|(jG) ?_;exact⟨h-i,_,by ((try simp only[vai] at *)<;>omega),zH,i,h,⟨hip,hge,by ((try simp only[vai] at *)<;>omega)⟩,rfl,rfl⟩
  ·have hgt:h<pos:=hpth.1 hlt
   refine(cO (br hc hlt))<|(zY)<|(zs) ?_;refine aD.r0 ge (fF (bA (h:Int) 1 (by ((try simp only[vai] at *)<;>omega)))) ?_;exact⟨j-(h+1),_,by ((try simp only[vai] at *)<;>omega),(Fg.less (Xb @dU) (Xc @dU)),h+1,j,⟨by ((try simp only[vai] at *)<;>omega),hpj,hjl⟩,rfl,rfl⟩):p:=h
open Go.Proofs.Tryz renaming func125 -> vah in
open Go.Ev renaming sE -> vai in
open Go.Proofs renaming ak -> vaj,iu -> vam in
open Go.Proofs.ai renaming name -> vak in
def JZ(l:List ai)(hlen:l.length<=100000){g:FuncId}{cap:List SV}(hcap:cg cap=true)(k:List Nat)(pos:Nat)(hp:∀x∈l,PC prog g ([.ag (ak x),ab k]++cap) (·=aa (Ag (ai.name x) k)))(hpart:DN l k pos):
 PC prog 125 [an 14 l ak,ab k,.fn g [] cap] (·=.bB [cI pos,au (iu l k pos)]):=by
 have van:=@eE;exact VM
def jo(l:List bN)(k:List Nat)(pos:Nat):Bool:=match l[pos]? with
 | some x=>decide (bN.key x=k)
 | none=>false
structure DO (l:List bN) (k:List Nat) (pos:Nat):Prop where
 le:pos<=l.length
 gw:∀(a:Nat) (x:bN),l[a]?=some x->(fZ (bN.key x) k=true↔a<pos)
open Go.Proofs.Tryz renaming func133 -> vah in
open Go.Ev renaming Jd -> vai in
open Go.Proofs renaming aZ -> vaj,jo -> vam in
open Go.Proofs.bN renaming key -> vak in
def J0(l:List bN)(hlen:l.length<=100000){g:FuncId}{cap:List SV}(hcap:cg cap=true)(k:List Nat)(pos:Nat)(hp:∀x∈l,PC prog g ([.ag (aZ x),ab k]++cap) (·=aa (Ag (bN.key x) k)))(hpart:DO l k pos):
 PC prog 133 [an 2 l aZ,ab k,.fn g [] cap] (·=.bB [cI pos,au (jo l k pos)]):=by
 have van:=@qZ;exact VM
open Go.Ev Go.Lib
def N7(Z:List AV):∀m,(rep Z m).length=m*Z.length
 | 0=>by rw[rep,g9,cn]
 | m+1=>by rw[rep,li,N7 Z m,d9,er]
def Jy{Z:List AV}(hZ:Z.all lu=true):∀m,(rep Z m).all lu=true
 | 0=>rfl
 | m+1=>by rw[rep,co,hZ,Jy hZ m];rfl
def IV:∀{l:List AV},l.all lu=true->(l.map SV.a).all fw=true
 | [],_=>rfl
 | a::l,h=>by
  rw[fm,bi] at h;rw[d7,fm,IV h.2,hF];exact h.1
def IU(o:Nat):∀l:List AV,(l.map SV.a).map (aW o)=l.map SV.a
 | []=>rfl
 | a::l=>by rw[d7,d7,IU o l];rfl
def Hu:FA prog 183:=by
 intro w a b la ca lb cb tA tB kA kB h1 h2 h3 h4 h5 h6
 rw[run_callFunc_extern Tryz.func183 zW zW zW (e:=Extern.SlicesOverlaps.overlaps #[76,76] #[4]) zW,
  Lib.run_overlaps_apart w 76 4 75 zW 14 (λw=>bV zW) a b la ca lb cb h1 tA tB kA kB h2 h3 h4 h5 h6]
 rfl
def DD(x:ai):SC prog 128 [.e0 14,cI 0,.buf 0 1 14 (some 1)] [.cells (ak x)] [0] (λr S'=>r=an 14 [x] ak/\S'=[.gone]):=by
 refine Oo 95 Tryz.func128 ?_;have hkc:=λo:Nat=>bL (o:=o) (ef x);have hon:(ak x).all fw=true:=rfl;rw[eE] at hkc hon ⊢
 refine(nP)<|(nP)<|(jG)<|(Ab)<|(aA (br hkc hon))<|zA [(6,.buf 1 1 14 none)] [.gone,.cells (ak x)] (bK @eE) ?_;refine zZ [(6,an 14 [x] ak)] 1 rfl ⟨.inr (.buf rfl (by rw[flatMap_cons,flatMap_nil,append_nil];exact cS.refl (ef x)) (by show 1*14<=14;decide)),trivial⟩<|zA [(6,an 14 [x] ak)] [.gone] zH<|(zE) ?_;exact zP [.tmp 6]
def VN (h:p:=by
  have hf:∀l:List vao,(l.flatMap vap).length=l.length*vaq:=aM (enc:=vap) (e:=vaq) ce;simp only[vaq] at hf
  have h1:((l.flatMap vap++A).take ((i+1)*vaq)).length=(i+1)*vaq:=by
   rw[List.length_take,li,hf];((try simp only[vaq] at *)<;>omega)
  simp only[vaq] at h1
  have h2:((l.flatMap vap++A).take ((i+1)*vaq)).take (i*vaq)=(l.take i).flatMap vap:=by
   rw[List.take_take,Nat.min_eq_left (by ((try simp only[vaq] at *)<;>omega)),List.take_append_of_le_length (by rw[hf];((try simp only[vaq] at *)<;>omega)),ke (enc:=vap) (e:=vaq) ce]
  simp only[vaq] at h2;generalize hB:(l.flatMap vap++A).take ((i+1)*vaq)=B at h1 h2 ⊢;generalize (l.flatMap vap++A).drop ((i+1)*vaq+(l.length-i)*vaq)=R
  have e1:(B++((l.drop i).flatMap vap++R)).take (i*vaq)=(l.take i).flatMap vap:=by rw[List.take_append_of_le_length (by rw[h1];((try simp only[vaq] at *)<;>omega)),h2]
  simp only[vaq] at e1
  have e2:(B++((l.drop i).flatMap vap++R)).drop (i*vaq+vaq)=(l.drop i).flatMap vap++R:=by rw[List.drop_append_of_le_length (by rw[h1];((try simp only[vaq] at *)<;>omega)),List.drop_of_length_le (by rw[h1];((try simp only[vaq] at *)<;>omega)),List.nil_append]
  simp only[vaq] at e2;rw[e1,e2]
  have h3:((l.take i).flatMap vap++(vap x++(l.drop i).flatMap vap)).length=(l.length+1)*vaq:=by
   rw[li,li,hf,hf,show(vap x).length=vaq from rfl,List.length_take,List.length_drop,Nat.min_eq_left (by ((try simp only[vaq] at *)<;>omega))];((try simp only[vaq] at *)<;>omega)
  simp only[vaq] at h3
  rw[<-List.append_assoc (vap x),<-List.append_assoc,List.take_append_of_le_length (by rw[h3];exact Nat.le_refl _),List.take_of_length_le (by rw[h3];exact Nat.le_refl _),List.flatMap_append,List.flatMap_cons]):p:=h
open Go.Proofs renaming ai -> vao,ak -> vap in
open Go.Ev renaming sE -> vaq in
def Ul(l:List ai)(i:Nat)(x:ai)(hi:i<l.length)(A:List SV):
 (((l.flatMap ak++A).take ((i+1)*14)++((l.drop i).flatMap ak++(l.flatMap ak++A).drop ((i+1)*14+(l.length-i)*14))).take (i*14)++(ak x++((l.flatMap ak++A).take ((i+1)*14)++((l.drop i).flatMap ak++(l.flatMap ak++A).drop ((i+1)*14+(l.length-i)*14))).drop (i*14+14))).take ((l.length+1)*14)=(l.take i++x::l.drop i).flatMap ak:=by
 exact VN
abbrev ZA:List AV:=[.str [],.str [],.str [],.str [],.int .i64 0,.int .i64 0,.bool false,.slice none 0 0 (some 0),.int .i64 0,.int .i64 0,.int .i64 0,.int .i64 0,.int .i64 0,.int .i64 0]
abbrev ZB:List AV:=[.str [],.str []]
def VR (h:p:=by
  refine XX 95 va5 ?_;have hkl:=λo:Nat=>bf (enc:=va6) va7 o l;have hkc:=λo:Nat=>bL (o:=o) (va7 x);have hon:(va6 x).all fw=true:=rfl;have hxl:(va6 x).length=va8:=rfl;simp only[va8] at hxl;have hxt:(va6 x).take va8=va6 x:=rfl;simp only[va8] at hxt;have hcl:(l.flatMap va6).length=l.length*va8:=aM (enc:=va6) (e:=va8) ce l;simp only[va8] at hcl;have htl:(l.flatMap va6).take (l.length*va8)=l.flatMap va6:=List.take_of_length_le (by rw[hcl];exact Nat.le_refl _);simp only[va8] at htl;have hc1:((1:Nat):Int)=1:=rfl
  refine(zV)<|(aA (ON hi))<|(aA hc1)<|(aA hc1)<|(jG) ?_
  by_cases hin:i=l.length
  ·subst hin
   refine(aA (show decide ((l.length:Int)=(l.length:Int))=true by simp))<|(zY) ?_
   have hka:∀o:Nat,(l.flatMap va6++va6 x).map (aW o)=l.flatMap va6++va6 x:=λo=>by rw[List.map_append,hkl,hkc]
   refine(aA (DX hkc hon hxl hxt hcl htl hka @Nat.le_refl (show l.length<=1000000 by ((try simp only[va8] at *)<;>omega))))<|zA [(6,.buf 0 (l.length+1) va8 none)] [.cells (l.flatMap va6++va6 x),.gone] zH ?_
   have hq:l.flatMap va6++va6 x=(l.take l.length++x::l.drop l.length).flatMap va6:=by rw[List.take_length,List.drop_length,List.flatMap_append,List.flatMap_cons,List.flatMap_nil,List.append_nil]
   have hqn:(l.take l.length++x::l.drop l.length).length=l.length+1:=by rw[List.take_length,List.drop_length,li,i7,g9]
   rw[hq]
   refine zZ [(6,an va8 (l.take l.length++x::l.drop l.length) va6)] 0 rfl ⟨.inr (by rw[pN,hqn];exact .buf rfl (by rw[<-hqn,dw (enc:=va6) (e:=va8) ce];exact cS.refl (aB va7 _)) (by rw[aM (enc:=va6) (e:=va8) ce,hqn];exact Nat.le_refl _)),trivial⟩<|(zE) ?_;exact zP [.tmp 6]
  have hlt:i<l.length:=by ((try simp only[va8] at *)<;>omega)
  refine(aA (show decide ((i:Int)=(l.length:Int))=false by simp only[wd];((try simp only[va8] at *)<;>omega)))<|(zN) ?_;refine aD.LZ 0 gc rfl rfl ?_
  intro cap hcap;obtain⟨A,hA⟩:∃A,A=List.replicate (cap*va8-(l.flatMap va6).length) SV.any:=⟨_,rfl⟩;rw[<-hA]
  have hAl:A.length=cap*va8-l.length*va8:=by rw[hA,List.length_replicate,hcl]
  simp only[va8] at hAl;by_cases hroom:cap<l.length+1
  ·obtain rfl:cap=l.length:=by ((try simp only[va8] at *)<;>omega)
   obtain rfl:A=[]:=rx (by rw[hAl];((try simp only[va8] at *)<;>omega));rw[List.append_nil];clear hA hAl
   refine(aA (cA hc1 (xn (show -9223372036854775808<=(l.length:Int)+1/\(l.length:Int)+1<=9223372036854775807 from⟨by ((try simp only[va8] at *)<;>omega),by ((try simp only[va8] at *)<;>omega)⟩)) (show decide ((l.length:Int)<(l.length:Int)+1)=true by simp only[wp];((try simp only[va8] at *)<;>omega))))<|(zY) ?_
   obtain⟨m,hm⟩:∃m,m=l.length+1-i:=⟨_,rfl⟩;obtain⟨R,hR⟩:∃R,R=(rep va9 m).map SV.a:=⟨_,rfl⟩
   have hRl:R.length=m*va8:=by rw[hR,List.length_map,N7];rfl
   simp only[va8] at hRl
   have hRo:R.all fw=true:=by rw[hR];exact IV (Jy rfl m)
   have hRk:∀o:Nat,R.map (aW o)=R:=λo=>by rw[hR];exact IU o _
   obtain⟨c1,hc1e⟩:∃c1,c1=(l.flatMap va6).take (i*va8)++R:=⟨_,rfl⟩
   have hc1l:c1.length=(l.length+1)*va8:=by rw[hc1e,li,List.length_take,hcl,hRl,Nat.min_eq_left (by ((try simp only[va8] at *)<;>omega)),hm];((try simp only[va8] at *)<;>omega)
   simp only[va8] at hc1l
   have hc1k:∀o:Nat,c1.map (aW o)=c1:=λo=>by rw[hc1e,List.map_append,hRk,List.map_take,hkl]
   refine(aA (br (DX hc1 (VI hi) (xn (show -9223372036854775808<=(l.length:Int)+1/\(l.length:Int)+1<=9223372036854775807 from⟨by ((try simp only[va8] at *)<;>omega),by ((try simp only[va8] at *)<;>omega)⟩)) (TT (show -9223372036854775808<=(l.length:Int)+1-(i:Int)/\(l.length:Int)+1-(i:Int)<=9223372036854775807 from⟨by ((try simp only[va8] at *)<;>omega),by ((try simp only[va8] at *)<;>omega)⟩)) (show((l.length:Int)+1-(i:Int))=(m:Int) by ((try simp only[va8] at *)<;>omega)) (Eq.symm hR) hRo @Nat.sub_zero (show m<=1000000 by ((try simp only[va8] at *)<;>omega))) (O0 (show ¬m=0 by ((try simp only[va8] at *)<;>omega)) (show i<=1000000 by ((try simp only[va8] at *)<;>omega)) hcl (show i*va8<=l.length*va8 by ((try simp only[va8] at *)<;>omega)) (show l.length<l.length+1 by ((try simp only[va8] at *)<;>omega)) (show i+m=l.length+1 by ((try simp only[va8] at *)<;>omega)) (Eq.symm hc1e) hc1k hkl hkc))) ?_;obtain⟨c2,hc2e⟩:∃c2,c2=c1.take (i*va8)++(va6 x++c1.drop (i*va8+va8)):=⟨_,rfl⟩
   have hc2l:c2.length=(l.length+1)*va8:=by rw[hc2e,li,li,List.length_take,List.length_drop,hc1l,hxl];((try simp only[va8] at *)<;>omega)
   simp only[va8] at hc2l;refine(aA (KO (ON (show i<=l.length+1 by ((try simp only[va8] at *)<;>omega))) hxl hxt (show Nat.min 1 (l.length+1-i)=1 by simp only[Nat.min_def];rw[t8 (by ((try simp only[va8] at *)<;>omega))]) hc1l (show i*va8+va8<=(l.length+1)*va8 by ((try simp only[va8] at *)<;>omega)) hon (Eq.symm hc2e))) ?_
   have hdr:((l.flatMap va6).drop (i*va8)).take ((l.length-i)*va8)=(l.drop i).flatMap va6:=by
    rw[nV (enc:=va6) (e:=va8) ce,List.take_of_length_le];rw[aM (enc:=va6) (e:=va8) ce,List.length_drop];exact Nat.le_refl _
   simp only[va8] at hdr
   have hdl:((l.drop i).flatMap va6).length=(l.length-i)*va8:=by rw[aM (enc:=va6) (e:=va8) ce,List.length_drop]
   simp only[va8] at hdl;have hdt:((l.drop i).flatMap va6).take ((l.length-i)*va8)=(l.drop i).flatMap va6:=List.take_of_length_le (by rw[hdl];exact Nat.le_refl _);simp only[va8] at hdt;have hdo:((l.drop i).flatMap va6).all fw=true:=vba (l.drop i);obtain⟨c3,hc3e⟩:∃c3,c3=c2.take ((i+1)*va8)++((l.drop i).flatMap va6++c2.drop ((i+1)*va8+(l.length-i)*va8)):=⟨_,rfl⟩
   have hfin:c3=(l.take i++x::l.drop i).flatMap va6:=by
    have e0:c1.take (i*va8)=(l.take i).flatMap va6:=by
     rw[hc1e,List.take_append_of_le_length (by rw[List.length_take,hcl];((try simp only[va8] at *)<;>omega)),List.take_take,Nat.min_self,ke (enc:=va6) (e:=va8) ce]
    simp only[va8] at e0
    have e1:((l.take i).flatMap va6++va6 x).length=(i+1)*va8:=by
     rw[li,aM (enc:=va6) (e:=va8) ce,hxl,List.length_take,Nat.min_eq_left hi];((try simp only[va8] at *)<;>omega)
    simp only[va8] at e1;rw[hc3e,show c2.drop ((i+1)*va8+(l.length-i)*va8)=[] from List.drop_of_length_le (by rw[hc2l];((try simp only[va8] at *)<;>omega)),List.append_nil,hc2e,e0,<-List.append_assoc,List.take_append_of_le_length (by rw[e1];exact Nat.le_refl _),List.take_of_length_le (by rw[e1];exact Nat.le_refl _),List.flatMap_append,List.flatMap_cons,List.append_assoc]
   refine(zs) ?_;refine uW [0,0,0,6,15,0,0,96,255] ?_
   (repeat (first | refine SD.r ge rfl ge ge (fF (jB (bA (i:Int) 1 (by ((try simp only[va8] at *)<;>omega))) (sC) (ON (show i+1<=l.length+1 by ((try simp only[va8] at *)<;>omega))) (ON hi))) ?_ | refine SD.s ge rfl ge ge ?_ | fail))
   refine SD.ed ge rfl ge rfl rfl ge (fF (br (DX hcl hc2l (show i*va8+(l.length-i)*va8<=l.length*va8 by ((try simp only[va8] at *)<;>omega)) (show Nat.min (l.length-i) (l.length+1-(i+1))=l.length-i by simp only[Nat.min_def];split<;>((try simp only[va8] at *)<;>omega)) (show ¬(l.length-i=0) by ((try simp only[va8] at *)<;>omega)) (show(i+1)*va8+(l.length-i)*va8<=(l.length+1)*va8 by ((try simp only[va8] at *)<;>omega)) hdr hdl hdt) (cA hdo @Nat.le_refl (Eq.symm hc3e)))) ?_;refine(zM)<|(zV) ?_
   have hqn:(l.take i++x::l.drop i).length=l.length+1:=by rw[li,i7,List.length_take,List.length_drop,Nat.min_eq_left hi];((try simp only[va8] at *)<;>omega)
   rw[hfin]
   refine zA [(6,.buf 2 (l.length+1) va8 none)] [.gone,.gone,.cells ((l.take i++x::l.drop i).flatMap va6)] zH<|zZ [(6,an va8 (l.take i++x::l.drop i) va6)] 2 rfl ⟨.inr (by rw[pN,hqn];exact .buf rfl (by rw[<-hqn,dw (enc:=va6) (e:=va8) ce];exact cS.refl (aB va7 _)) (by rw[aM (enc:=va6) (e:=va8) ce,hqn];exact Nat.le_refl _)),trivial⟩<|zA [(6,an va8 (l.take i++x::l.drop i) va6)] [.gone,.gone] zH<|(zE) ?_;exact zP [.tmp 6]
  have hcap2:l.length+1<=cap:=by ((try simp only[va8] at *)<;>omega)
  have hXl:(l.flatMap va6++A).length=cap*va8:=by rw[li,hcl,hAl];((try simp only[va8] at *)<;>omega)
  simp only[va8] at hXl;have hnn:(-9223372036854775808:Int)<=(l.length:Int)+1/\(l.length:Int)+1<=9223372036854775807:=⟨by ((try simp only[va8] at *)<;>omega),by ((try simp only[va8] at *)<;>omega)⟩
  refine(aA (cA hc1 (xn hnn) (show decide ((cap:Int)<(l.length:Int)+1)=false by simp only[wd];((try simp only[va8] at *)<;>omega))))<|(zN) ?_
  have hbt:c7 l.length (some cap) none (some (.int .i64 ((l.length+1:Nat):Int))) none=some (0,l.length+1,some cap):=by
   unfold c7 qi rQ;simp only[od,m7,fH hcap2,Bool.or_true,ah]
  refine(zs) ?_;refine aD.r0 ge (fF (jB hc1 (xn hnn) (sC) hbt)) ?_;have hii:(-9223372036854775808:Int)<=(i:Int)+1/\(i:Int)+1<=9223372036854775807:=⟨by ((try simp only[va8] at *)<;>omega),by ((try simp only[va8] at *)<;>omega)⟩
  refine(zs) ?_;refine aD.Vc ge (fF (ik hc1 (xn hii) (sC) (ON (show i+1<=l.length+1 by ((try simp only[va8] at *)<;>omega))) @Nat.sub_zero)) ?_;refine aJ.ZL vbb ge rfl rfl ge rfl zc rfl rfl rfl rfl gc gc (by ((try simp only[va8] at *)<;>omega)) (by rw[hXl];((try simp only[va8] at *)<;>omega)) ?_;refine(zR)<|(zY) ?_
  have hdr:(((l.flatMap va6++A).drop (i*va8)).take ((l.length+1-i)*va8)).take ((l.length-i)*va8)=(l.drop i).flatMap va6:=by
   rw[List.take_take,Nat.min_eq_left (by ((try simp only[va8] at *)<;>omega)),List.drop_append_of_le_length (by rw[hcl];((try simp only[va8] at *)<;>omega)),nV (enc:=va6) (e:=va8) ce,List.take_append_of_le_length (by rw[aM (enc:=va6) (e:=va8) ce,List.length_drop];exact Nat.le_refl _),List.take_of_length_le];rw[aM (enc:=va6) (e:=va8) ce,List.length_drop];exact Nat.le_refl _
  simp only[va8] at hdr
  have hdl:(((l.flatMap va6++A).drop (i*va8)).take ((l.length+1-i)*va8)).length=(l.length+1-i)*va8:=by
   rw[List.length_take,List.length_drop,hXl,Nat.min_eq_left (by ((try simp only[va8] at *)<;>omega))]
  simp only[va8] at hdl;have hdo:((l.drop i).flatMap va6).all fw=true:=vba (l.drop i);obtain⟨w1,hw1⟩:∃w1,w1=(l.flatMap va6++A).take ((i+1)*va8)++((l.drop i).flatMap va6++(l.flatMap va6++A).drop ((i+1)*va8+(l.length-i)*va8)):=⟨_,rfl⟩
  have hw1l:w1.length=cap*va8:=by rw[hw1,li,li,List.length_take,List.length_drop,hXl,aM (enc:=va6) (e:=va8) ce,List.length_drop,Nat.min_eq_left (by ((try simp only[va8] at *)<;>omega))];((try simp only[va8] at *)<;>omega)
  simp only[va8] at hw1l;obtain⟨w2,hw2⟩:∃w2,w2=w1.take (i*va8)++(va6 x++w1.drop (i*va8+va8)):=⟨_,rfl⟩
  have hw2l:w2.length=cap*va8:=by rw[hw2,li,li,List.length_take,List.length_drop,hw1l,hxl,Nat.min_eq_left (by ((try simp only[va8] at *)<;>omega))];((try simp only[va8] at *)<;>omega)
  simp only[va8] at hw2l
  have hfin:w2.take ((l.length+1)*va8)=(l.take i++x::l.drop i).flatMap va6:=by rw[hw2,hw1];exact vbc l i x hlt A
  simp only[va8] at hfin;refine(zs) ?_;refine uW [0,0,0,6,15,0,0,96,255] ?_
  (repeat (first | refine SD.r ge rfl ge ge (fF (ik (xn hii) (sC) (ON (show i+1<=l.length+1 by ((try simp only[va8] at *)<;>omega))) (ON (show i<=l.length+1 by ((try simp only[va8] at *)<;>omega))) @Nat.sub_zero)) ?_ | refine SD.s ge rfl ge ge ?_ | fail))
  refine SD.ed ge rfl ge rfl rfl ge (fF (br (DX hXl hcl (show i*va8+(l.length+1-i)*va8<=cap*va8 by ((try simp only[va8] at *)<;>omega)) (show Nat.min (l.length+1-i) (l.length+1-(i+1))=l.length-i by simp only[Nat.min_def];split<;>((try simp only[va8] at *)<;>omega)) (show ¬(l.length-i=0) by ((try simp only[va8] at *)<;>omega)) (show(i+1)*va8+(l.length-i)*va8<=cap*va8 by ((try simp only[va8] at *)<;>omega)) hdr hdl (show(l.length-i)*va8<=(l.length+1-i)*va8 by ((try simp only[va8] at *)<;>omega))) (cA hdo @Nat.le_refl (Eq.symm hw1)))) ?_;refine(zM)<|(aA (KO (ON (show i<=l.length+1 by ((try simp only[va8] at *)<;>omega))) hxl hxt (show Nat.min 1 (l.length+1-i)=1 by simp only[Nat.min_def];rw[t8 (by ((try simp only[va8] at *)<;>omega))]) hw1l (show i*va8+va8<=cap*va8 by ((try simp only[va8] at *)<;>omega)) hon (Eq.symm hw2)))<|(zV) ?_
  have hqn:(l.take i++x::l.drop i).length=l.length+1:=by rw[li,i7,List.length_take,List.length_drop,Nat.min_eq_left hi];((try simp only[va8] at *)<;>omega)
  refine zA [(6,.buf 0 (l.length+1) va8 (some cap))] [.cells w2,.gone] zH<|zZ [(6,an va8 (l.take i++x::l.drop i) va6)] 0 rfl ⟨.inr (by rw[pN,hqn];exact .buf rfl (by rw[hfin];exact cS.refl (aB va7 _)) (by rw[hw2l];((try simp only[va8] at *)<;>omega))),trivial⟩<|(zE) ?_;exact zP [.tmp 6]):p:=h
open Go.Proofs.Tryz renaming func128 -> va5 in
open Go.Proofs renaming ak -> va6,ZA -> va9 in
open Go.Ev renaming sE -> va8 in
def Hf(l:List ai)(i:Nat)(x:ai)(hi:i<=l.length)(hne:0<l.length)(hlen:l.length<=100000):SC prog 128 [.buf 0 l.length 14 none,cI i,.buf 1 1 14 (some 1)] [.cells (l.flatMap ak),.cells (ak x)] [0,1] (λr S'=>r=an 14 (l.take i++x::l.drop i) ak/\S'=[.gone,.gone]):=by
 have va7:=@ef;have vba:=@EO;have vbb:=@Hu;have vbc:=@Ul;exact VR
def Hv:FA prog 189:=by
 intro w a b la ca lb cb tA tB kA kB h1 h2 h3 h4 h5 h6
 rw[run_callFunc_extern Tryz.func189 zW zW zW (e:=Extern.SlicesOverlaps.overlaps #[71,71] #[4]) zW,
  Lib.run_overlaps_apart w 71 4 176 zW 2 (λw=>bV zW) a b la ca lb cb h1 tA tB kA kB h2 h3 h4 h5 h6]
 rfl
def DE(x:bN):SC prog 136 [.e0 2,cI 0,.buf 0 1 2 (some 1)] [.cells (aZ x)] [0] (λr S'=>r=an 2 [x] aZ/\S'=[.gone]):=by
 refine Oo 95 Tryz.func136 ?_;have hkc:=λo:Nat=>bL (o:=o) (iP x);have hon:(aZ x).all fw=true:=rfl;rw[qZ] at hkc hon ⊢
 refine(nP)<|(nP)<|(jG)<|(Ab)<|(aA (br hkc hon))<|zA [(6,.buf 1 1 2 none)] [.gone,.cells (aZ x)] (bK @qZ) ?_;refine zZ [(6,an 2 [x] aZ)] 1 rfl ⟨.inr (.buf rfl (by rw[flatMap_cons,flatMap_nil,append_nil];exact cS.refl (iP x)) (by show 1*2<=2;decide)),trivial⟩<|zA [(6,an 2 [x] aZ)] [.gone] zH<|(zE) ?_;exact zP [.tmp 6]
open Go.Proofs renaming bN -> vao,aZ -> vap in
open Go.Ev renaming Jd -> vaq in
def Um(l:List bN)(i:Nat)(x:bN)(hi:i<l.length)(A:List SV):
 (((l.flatMap aZ++A).take ((i+1)*2)++((l.drop i).flatMap aZ++(l.flatMap aZ++A).drop ((i+1)*2+(l.length-i)*2))).take (i*2)++(aZ x++((l.flatMap aZ++A).take ((i+1)*2)++((l.drop i).flatMap aZ++(l.flatMap aZ++A).drop ((i+1)*2+(l.length-i)*2))).drop (i*2+2))).take ((l.length+1)*2)=(l.take i++x::l.drop i).flatMap aZ:=by
 exact VN
open Go.Proofs.Tryz renaming func136 -> va5 in
open Go.Proofs renaming aZ -> va6,ZB -> va9 in
open Go.Ev renaming Jd -> va8 in
def Hg(l:List bN)(i:Nat)(x:bN)(hi:i<=l.length)(hne:0<l.length)(hlen:l.length<=100000):SC prog 136 [.buf 0 l.length 2 none,cI i,.buf 1 1 2 (some 1)] [.cells (l.flatMap aZ),.cells (aZ x)] [0,1] (λr S'=>r=an 2 (l.take i++x::l.drop i) aZ/\S'=[.gone,.gone]):=by
 have va7:=@iP;have vba:=@EU;have vbb:=@Hv;have vbc:=@Um;exact VR
def ma{a:List Nat}:∀{l:List (List Nat)},ec (a::l)=true->∀x∈l,fZ a x=true
 | [],_,x,h=>by simp at h
 | b::r,ho,x,h=>by
  rw[ec,bi] at ho
  rcases rt h with rfl | h
  ·exact ho.1
  ·exact fO ho.1 (ma ho.2 x h)
def gC{a:List Nat}{l:List (List Nat)}(h:ec (a::l)=true):ec l=true:=by
 cases l with
 | nil=>rfl
 | cons b r=>rw[ec,bi] at h;exact h.2
def sS{α:Type}(key:α->List Nat):∀{l:List α},ec (l.map key)=true->∀k:List Nat,(l.takeWhile λx=>fZ (key x) k).length<=l.length/\∀(a:Nat) (x:α),l[a]?=some x->(fZ (key x) k=true↔a<(l.takeWhile λx=>fZ (key x) k).length)
 | [],_,k=>⟨ad _,λa x h=>by simp at h⟩
 | y::l,ho,k=>by
  have ih:=sS key (gC ho) k;have hlt:=ma (a:=key y) (l:=l.map key) ho
  cases h:fZ (key y) k with
  | true=>
   rw[e3,t8 h,i7,i7];refine⟨Nat.succ_le_succ ih.1,λa x hx=>?_⟩
   cases a with
   | zero=>simp only[dc,n8] at hx;subst hx;exact⟨λ_=>gd _,λ_=>h⟩
   | succ a=>simp only[cj] at hx;rw[ih.2 a x hx];exact⟨Nat.succ_lt_succ,Nat.lt_of_succ_lt_succ⟩
  | false=>
   rw[e3,ul (by rw[h];decide),g9];refine⟨cc _,λa x hx=>⟨λhh=>?_,λhh=>t7 hh (d4 _)⟩⟩;exfalso
   cases a with
   | zero=>simp only[dc,n8] at hx;subst hx;rw[h] at hh;cases hh
   | succ a=>
    simp only[cj] at hx;have:=fO (hlt _ (List.mem_map_of_mem (a8 hx))) hh;rw[h] at this;cases this
def o7(l:List ai)(k:List Nat):Nat:=(l.takeWhile λx=>fZ (ai.name x) k).length
def bY(l:List ai)(x:ai):List ai:=if iu l (ai.name x) (o7 l (ai.name x))=true then l.set (o7 l (ai.name x)) x else l.take (o7 l (ai.name x))++x::l.drop (o7 l (ai.name x))
def P2{l:List ai}(ho:ec (l.map ai.name)=true)(k:List Nat):DN l k (o7 l k):=
 ⟨(sS ai.name ho k).1,(sS ai.name ho k).2⟩
def Av(y:ai)(k:List Nat){g:FuncId}{cap:List SV}(hcap:cg cap=true)(hk:PC prog g ([.ag (ak y)]++cap) (·=ab (ai.name y))):PC prog 126 [.ag (ak y),ab k,.ip [.fn g [] cap]] (·=aa (Ag (ai.name y) k)):=by
 refine pB 11 Tryz.func126 ?_;have hkc:=λo:Nat=>bL (o:=o) (ef y);have hxl:(ak y).length=14:=rfl;have hxt:(ak y).take 14=ak y:=rfl
 exact(aA hkc)<|(jH (br hxl hxt))<|(zK hk (hwk:=cS.refl (nW (by simp only[cg,ni,ef];rfl) hcap)))<|(zQ)<|(zK (uc (ai.name y) k))<|(zR)<|zo [.tmp 5]
def VT (h:p:=by
  refine pB 32 vbd ?_;have hkc:=λo:Nat=>bL (o:=o) (vbe x);have hkl:=λo:Nat=>bf (enc:=vbf) vbe o l;have hkp:=λo:Nat=>bL (o:=o) hcap;have hxl:(vbf x).length=vbg:=rfl;simp only[vbg] at hxl;have hxt:(vbf x).take vbg=vbf x:=rfl;simp only[vbg] at hxt;have hon:(vbf x).all fw=true:=rfl;have hnk:∀o:Nat,aW o (.fn g [] cap)=.fn g [] cap:=λo=>El (by rw[ni,hcap];rfl);have hnc:∀o:Nat,iW o cap=false:=λo=>dX hcap;have hnx:∀o:Nat,iW o (vbf x)=false:=λo=>dX (vbe x)
  have hgf:cg [SV.fn g [] cap]=true:=by rw[cg,ni,hcap];rfl
  have hbl:∀B:Nat,ia B (l.flatMap vbf)=true:=λB=>bH (aB vbe l);have hrl:∀r:Nat->Nat,me r (l.flatMap vbf)=l.flatMap vbf:=λr=>bg (aB vbe l);have hbc:∀B:Nat,ia B (vbf x)=true:=λB=>bH (vbe x);have hrc:∀r:Nat->Nat,me r (vbf x)=vbf x:=λr=>bg (vbe x);have hbq:∀(B:Nat) (q:List vbh),ia B (q.flatMap vbf)=true:=λB q=>bH (aB vbe q);have hrq:∀(r:Nat->Nat) (q:List vbh),me r (q.flatMap vbf)=q.flatMap vbf:=λr q=>bg (aB vbe q);have hpart:=vbi ho (vbj x);have hbs:=vbk l hlen (g:=vbl) (cap:=[.ip [.fn g [] cap]]) rfl (vbj x) _ (λy _=>vbm y (vbj x) hcap (hk y)) hpart;generalize hpos:vbn l (vbj x)=pos at hpart hbs
  have hput:vbo l x=if vbp l (vbj x) pos=true then l.set pos x else l.take pos++x::l.drop pos:=by rw[vbo,hpos]
  refine(aA (jB hkc hnk hnc hnx))<|(jH (br hxl hxt))<|(zK (hk x) (hwk:=cS.refl (nW (by simp only[cg,ni,vbe];rfl) hcap)))<|(zQ)<|(zK hbs (hwk:=.cons (.sl _ _ _) (.cons (.a _) (.cons (.fn .nil (.cons (.ptr rfl (cS.refl hgf) (Nat.zero_le _)) .nil)) .nil))))<|(zR)<|(zC) ?_
  by_cases hne:l=[]
  ·subst hne
   have hf0:vbp [] (vbj x) pos=false:=by unfold vbp;rw[List.getElem?_nil]
   have hp0:pos=0:=Nat.le_zero.1 hpart.le;rw[hf0] at hput ⊢;subst hp0
   refine zS [] (jB hkc hnk hnc hnx) vbq ?_;refine(zR)<|(KS)<|(jH (sa hxl hxt hkc hnk hnc hnx)) ?_;refine zS [2] (jB hkc hnk hnc hnx) (vbr x) ?_;exact(zR)<|zo [.tmp 6] (r:=an vbg [x] vbf) (hw:=zv) (hq:=by rw[hput];rfl)
  have hs:0<l.length:=Nat.pos_of_ne_zero (λe=>hne (rx e))
  refine zS [] (Af hkc hnk hnc hnx hkl hbl hrl) (vbs l (by ((try simp only[vbg,vbl] at *)<;>omega)) hne) ?_;refine(zR)<|(zV) ?_
  cases hfd:vbp l (vbj x) pos
  ·rw[hfd,ul gc] at hput
   refine(zN)<|(jH (Af hxl hxt hkc hnk hnc hnx hkl)) ?_;refine zS [3,4] (br (DX hkc hnk hnc hnx hkl hbl hrl hrc hbc) (br hrq hbq)) (vbt l pos x hpart.le hs hlen) ?_;exact(zR)<|zo [.tmp 6] (r:=an vbg (l.take pos++x::l.drop pos) vbf) (hw:=zv) (hq:=by rw[hput])
  ·rw[hfd,t8 rfl] at hput;refine(zY) ?_
   have hlt:pos<l.length:=by
    apply Decidable.byContradiction;intro hn;unfold vbp at hfd;rw[List.getElem?_eq_none (by ((try simp only[vbg,vbl] at *)<;>omega))] at hfd;cases hfd
   have hcl:(l.flatMap vbf).length=l.length*vbg:=aM (enc:=vbf) (e:=vbg) ce l;simp only[vbg] at hcl;have hst:=nL (enc:=vbf) (e:=vbg) ce x hlt
   refine(aA (Af hlt hxl hxt hcl (show pos*vbg+vbg<=l.length*vbg by ((try simp only[vbg,vbl] at *)<;>omega)) hon hst))<|(zV) ?_
   have hsl:(l.set pos x).length=l.length:=List.length_set
   exact zo [.tmp 6] (r:=.sl l.length vbg ((l.set pos x).flatMap vbf)) (hw:=.buf rfl (by rw[<-hsl,dw (enc:=vbf) (e:=vbg) ce];exact cS.refl (aB vbe _)) (by rw[aM (enc:=vbf) (e:=vbg) ce,hsl];exact Nat.le_refl _)) (hq:=by rw[hput,an,hsl])):p:=h
open Go.Proofs.Tryz renaming func79 -> vbd in
open Go.Proofs renaming ak -> vbf,ai -> vbh,o7 -> vbn,bY -> vbo,iu -> vbp in
open Go.Ev renaming sE -> vbg,UQ -> vbl in
open Go.Proofs.ai renaming name -> vbj in
def Hw(l:List ai)(hlen:l.length<=100000)(x:ai){g:FuncId}(hcap:cg cap=true)(hk:∀y,PC prog g ([.ag (ak y)]++cap) (·=ab (ai.name y)))(ho:ec (l.map ai.name)=true):
 PC prog 79 [an 14 l ak,.ag (ak x),.fn g [] cap] (·=an 14 (Proofs.bY l x) ak):=by
 have vbe:=@ef;have vbi:=@P2;have vbk:=@JZ;have vbm:=@Av;have vbq:=@Aq;have vbr:=@DD;have vbs:=@rU;have vbt:=@Hf;exact VT
def o8(l:List bN)(k:List Nat):Nat:=(l.takeWhile λx=>fZ (bN.key x) k).length
def iF(l:List bN)(x:bN):List bN:=if jo l (bN.key x) (o8 l (bN.key x))=true then l.set (o8 l (bN.key x)) x else l.take (o8 l (bN.key x))++x::l.drop (o8 l (bN.key x))
def P3{l:List bN}(ho:ec (l.map bN.key)=true)(k:List Nat):DO l k (o8 l k):=
 ⟨(sS bN.key ho k).1,(sS bN.key ho k).2⟩
def Aw(y:bN)(k:List Nat){g:FuncId}{cap:List SV}(hcap:cg cap=true)(hk:PC prog g ([.ag (aZ y)]++cap) (·=ab (bN.key y))):PC prog 134 [.ag (aZ y),ab k,.ip [.fn g [] cap]] (·=aa (Ag (bN.key y) k)):=by
 refine pB 11 Tryz.func134 ?_;have hkc:=λo:Nat=>bL (o:=o) (iP y);have hxl:(aZ y).length=2:=rfl;have hxt:(aZ y).take 2=aZ y:=rfl
 exact(aA hkc)<|(jH (br hxl hxt))<|(zK hk (hwk:=cS.refl (nW (by simp only[cg,ni,iP];rfl) hcap)))<|(zQ)<|(zK (uc (bN.key y) k))<|(zR)<|zo [.tmp 5]
open Go.Proofs.Tryz renaming func88 -> vbd in
open Go.Proofs renaming aZ -> vbf,bN -> vbh,o8 -> vbn,iF -> vbo,jo -> vbp in
open Go.Ev renaming Jd -> vbg,UR -> vbl in
open Go.Proofs.bN renaming key -> vbj in
def Hx(l:List bN)(hlen:l.length<=100000)(x:bN){g:FuncId}(hcap:cg cap=true)(hk:∀y,PC prog g ([.ag (aZ y)]++cap) (·=ab (bN.key y)))(ho:ec (l.map bN.key)=true):
 PC prog 88 [an 2 l aZ,.ag (aZ x),.fn g [] cap] (·=an 2 (Proofs.iF l x) aZ):=by
 have vbe:=@iP;have vbi:=@P3;have vbk:=@J0;have vbm:=@Aw;have vbq:=@Ar;have vbr:=@DE;have vbs:=@As;have vbt:=@Hg;exact VT
end Go.Proofs
