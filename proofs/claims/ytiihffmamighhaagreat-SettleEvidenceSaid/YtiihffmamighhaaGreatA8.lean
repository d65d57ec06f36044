/- Lemmas of this claim, each with its conditions. -/
import Derived.Test.YtiihffmamighhaaGreatA7
import Derived.Test.YtiihffmamighhaaGreatA6
import Derived.Test.YtiihffmamighhaaGreatA5
import Derived.Test.YtiihffmamighhaaGreatA4
import Derived.Test.YtiihffmamighhaaGreatA3
import Derived.Test.YtiihffmamighhaaGreatA2
import Derived.Ground.GgsProg
import Derived.Shelf.GgSortFunc.Tiny
import Derived.Shelf.SlSortFuncK.WholeK
import Derived.Test.YtiihffmamighhaaGreatProg
import Derived.WalkKit
import Derived.WalkSpells
import Derived.WalkLawsBesides
import Derived.Deep.QuietTactic
import Derived.BigQuiet
import Derived.ProofKit
import Derived.SizedLaws
import Derived.Carry
import Derived.Test.YtiihffmamighhaaGreatRows
set_option linter.all false
set_option maxHeartbeats 8000000
open Go.Proofs.Tryz (prog t47 func3 func52 t39)
open List (all_eq_true take_zero any_eq_true mem_map map_nil set_cons_zero mem_filter nil_append)
open Int (ofNat)
open Bool (eq_false_iff)
open Nat (ble)
open List renaming mem_of_getElem? -> ac, length_map -> ap, take_length -> ax, take_of_length_le -> ay, mem_cons_of_mem -> bc, mem_cons_self -> bd, getElem?_map -> bh, drop_of_length_le -> bk, not_mem_nil -> bI, map_cons -> b7, nodup_nil -> b8, foldl_append -> ca, length_take -> ct, getElem?_take -> cv, length_filter_le -> dc, mem_cons -> dd, append_nil -> dt, map_append -> dv, length_filterMap_le -> ei, flatMap_cons -> el, cons_append -> em, getElem?_eq_none -> e5, mem_iff_getElem? -> e6, sizeOf_lt_of_mem -> fd, all_append -> fx, foldl_cons -> fy, nodup_cons -> f4, mem_map_of_mem -> f8, length_drop -> hD, sum_nil -> hI, range -> hQ, sum_cons -> hU, length -> h7
open Nat renaming le_refl -> ad, reduceEqDiff -> aj, zero_le -> be, reduceLeDiff -> bt, reduceAdd -> bw, reduceMul -> b9, reduceLT -> ck, zero_add -> cp, not_lt_zero -> dl, le_trans -> gd, lt_succ_self -> go, sub_zero -> gv, zero_mul -> g7, add_zero -> hX, beq_refl -> hZ
open Bool renaming and_eq_true -> ba, true_and -> c4, not_eq_true' -> ej, and_true -> ey, decide_and -> hP
open And renaming intro -> bi
open Array renaming getElem?_eq_getElem -> cc, getElem?_modify -> fm, getElem?_toList -> fu, length_toList -> f9
open Int renaming le_refl -> cd, sub_zero -> hT
open Go.Proofs.Tryz renaming func53 -> g8, underlying4 -> hG, checked -> hJ, ntmps53 -> hK
namespace Go.Proofs
open Go.Ev
set_option maxRecDepth 100000
def XR(a b:Pr):iM gN [AV.str a.1,.str a.2] [.str b.1,.str b.2]=decide (a=b):=by
 obtain⟨a1,a2⟩:=a;obtain⟨b1,b2⟩:=b;simp only[iM,gN,nT,ey,m8,hP]
def wM:Keys prog 98 ij:=
 xW (cells:=λp:Pr=>[AV.str p.1,.str p.2]) (ks:=[.s,.s]) zW (by simp only[az,m6]) (λ_=>rfl) XR λ_=>rfl
variable{m:cV}
def l8{S:List SO}{o:Nat}{b:Option (List Nat×Nat)}(p q:List Nat)(hS:S[o]?=some (jP ij aa m b)):eJ prog S 84 (.map o) (.ag [ab p,ab q]) false=some (aa (getM 0 (p,q) m)):=
 vL (uv:=aa) (u0:=0) (k:=((p,q):Pr)) (kt:=98) (et:=3) (z:=.int .i64 0) (by simp only[az]) wM (by simp only[az]) rfl (by simp only[Ah,hS,jP]) rfl false
def lh{n:Nat}{l:cV}:cx n (bu ij aa l)=bu ij aa l:=lU λ_=>lk _
def ve(ts:List Xf):List SV:=[an 3 ts bC]
def fQ(n:Int)(m:cV)(ts:List Xf):cV:=ts.foldl (kK n) m
def OG(n:Int)(m:cV)(ts:List Xf)(t:Xf):fQ n m (ts++[t])=kK n (fQ n m ts) t:=by unfold fQ;rw[List.foldl_append];rfl
def gr(B:Int)(m:cV):Prop:=∀k,-B<=getM 0 k m/\getM 0 k m<=B
def gr.add{B n:Int}{t:Xf}(h:gr B m)(hn:n=1\/n = -1)(ht : -1000000000000<=t.am/\t.am<=1000000000000):gr (B+1000000000000) (kK n m t):=by
 intro k;unfold kK;rw[di];have h1:=h k;have h2:=h (t.fr,t.to);split
 ·rcases hn with rfl | rfl<;>omega
 ·omega
def CE{α:Type}{l:List α}{k:Nat}{x:α}(h:l[k]?=some x):l.take (k+1)=l.take k++[x]:=by
 rw[List.take_add_one,h];rfl
def yp(n:Int)(hn:n=1\/n = -1)(ll:List (List Xf))(mp:cV)(hm:gr 1000000000000000 mp)(hll:ll.length<=10)(hL:∀ts∈ll,ts.length<=1000/\∀t∈ts,-1000000000000<=t.am/\t.am<=1000000000000):
 SC prog 21 [.map 0,aa n,an 1 ll ve] [bu ij aa mp] [] (λr S'=>r=.bB []/\S'=[bu ij aa (ll.foldl (fQ n) mp)]):=by
 refine Oo 38 Tryz.func21 ?_
 have hlen:ll.length<=1000000:=by omega
 refine(zV)<|(zs) ?_;refine zL ll (λk=>gr (1000000000000000+k*1000000000000000) ((ll.take k).foldl (fQ n) mp)) (λk=>[(0,.map 0),(1,aa n),(10,an 1 ll ve),(11,aa ll.length),(12,aa k),(1000000,.ptr 0 0)]) (λk=>[bu ij aa ((ll.take k).foldl (fQ n) mp)]) zH (by intro q;have:=hm q;simp only[take_zero,List.foldl_nil];omega) ?_;intro k hk hall;refine zT ll k ?_ ?_;rintro rfl;rotate_left;intro ts hx hlt;rotate_left
 ·refine(fC) ?_;simp only[gK,eI,cQ,cr,if_true];rw[ax];exact zP []
 refine(gJ) ?_;obtain⟨hL1,hL2⟩:=hL ts (ac hx)
 have hlen2:ts.length<=1000000:=by omega
 refine(aA (cA hlt (aH (e:=1) (enc:=ve) ce hx) @ve.eq_1))<|(zV) ?_
 obtain⟨M0,hM0⟩:∃M0,M0=(ll.take k).foldl (fQ n) mp:=⟨_,rfl⟩
 have hnext:(ll.take (k+1)).foldl (fQ n) mp=fQ n M0 ts:=by rw[CE hx,ca,<-hM0];rfl
 rw[<-hM0] at hall ⊢
 have hk10:k<10:=by omega
 clear hM0;refine(zs) ?_;refine zL ts (λk2=>gr (1000000000000000+k*1000000000000000+k2*1000000000000) (fQ n M0 (ts.take k2))) (λk2=>[(0,.map 0),(1,aa n),(10,an 1 ll ve),(11,aa ll.length),(12,aa k),(16,an 3 ts bC),(17,aa ts.length),(18,aa k2),(1000000,.ptr 0 0)]) (λk2=>[bu ij aa (fQ n M0 (ts.take k2))]) zH (by intro q;have:=hall q;show _<=getM 0 q M0/\getM 0 q M0<=_;omega) ?_;intro k2 hk2 hall2;refine zT ts k2 ?_ ?_;rintro rfl;rotate_left;intro t hx2 hlt2;rotate_left
 ·refine(fC) ?_;rw[ax];refine(aA (zi hlt hlen)) ?_;refine zX hlt (bK hnext) (by rw[hnext];intro q;have h1:=hall2 q;rw[ax] at h1;omega)
 refine(gJ)<|(aA (cA hlt2 (aH (e:=3) (enc:=bC) ce hx2) @bC.eq_1)) ?_
 obtain⟨M,hM⟩:∃M,M=fQ n M0 (ts.take k2):=⟨_,rfl⟩
 have hnx:fQ n M0 (ts.take (k2+1))=kK n M t:=by rw[CE hx2,OG,<-hM]
 rw[<-hM] at hall2 ⊢;clear hM;obtain⟨fr,to,am⟩:=t;have hta:=hL2 _ (ac hx2);simp only at hta;obtain⟨g,hg⟩:∃g,g=getM 0 (fr,to) M:=⟨_,rfl⟩;have hgb:=hall2 (fr,to);rw[<-hg] at hgb
 have hmul : -9223372036854775808<=n*am/\n*am<=9223372036854775807:=by rcases hn with rfl | rfl<;>omega
 have hadd : -9223372036854775808<=g+n*am/\g+n*am<=9223372036854775807:=by rcases hn with rfl | rfl<;>omega
 have hput:kK n M ⟨fr,to,am⟩=bU (fr,to) (g+n*am) M:=by unfold kK;rw[hg]
 refine zA [(9,.ptr 1 0),(0,.map 0),(1,aa n),(10,an 1 ll ve),(11,aa ll.length),(12,aa k),(16,an 3 ts bC),(17,aa ts.length),(18,aa k2),(1000000,.ptr 0 0)] [bu ij aa M,.cells [ab fr,ab to,aa am]] (bK @lh) ?_;refine aD.born 0 rfl λbs c hbl=>?_;rw[ap] at hbl;change aD _ _ _ ⟨_,_,[jP ij aa M (some (bs,c)),.cells [ab fr,ab to,aa am]],_⟩ _;obtain⟨b,hb⟩:∃b:List Nat×Nat,b=(bs,c):=⟨_,rfl⟩;rw[<-hb]
 have hbl:b.1.length=M.length:=by rw[hb];exact hbl
 clear hb;obtain⟨sb,hsb⟩:∃sb,sb=pQ b (fr,to) M:=⟨_,rfl⟩
 (repeat refine aD.seq ?_)
 refine aD.y9 14 20 (λL=>⟨(22,vo L 0 (.map 0))::(23,vo L 1 (.ptr 1 0))::(24,vo L 2 (ab fr))::(25,vo L 3 (.ptr 1 1))::(26,vo L 4 (ab to))::(27,vo L 5 (.ag [ab fr,ab to]))::(28,vo L 6 (aa g))::(29,vo L 7 (aa n))::(30,vo L 8 (.ptr 1 2))::(31,vo L 9 (aa am))::(32,vo L 10 (aa (n*am)))::(33,vo L 11 (aa (g+n*am)))::(34,vo L 12 (.bB [aa g,.a (.int .i64 (ofNat sb))]))::(35,vo L 13 (.a (.int .i64 (ofNat sb))))::[(9,.ptr 1 0),(0,.map 0),(1,aa n),(10,an 1 ll ve),(11,aa ll.length),(12,aa k),(16,an 3 ts bC),(17,aa ts.length),(18,aa k2),(1000000,.ptr 0 0)],38,[io L 12 (jP ij aa (gE 0 (fr,to) M) (some (jF b (fr,to) M))) (jP ij aa M (some b)),.cells [ab fr,ab to,aa am]],[]⟩) rfl zW ge gc zW (Fg.less (by (simp only[cG,bG,dU,↓reduceIte,aj,an,nC,gy (L:=λ_=>False) (λh=>h)])<;>(repeat' apply bi)<;>first | rfl | trivial) (by (simp only[cG,bG,or_true,true_or,an,nC,gy (L:=λ_=>False) (λh=>h)])<;>(repeat' apply bi)<;>first | exact .inr rfl | exact .inl rfl | trivial)) (λL=>rfl) ?_ ?_
 ·rintro L i o him hC hr
  rcases i with _ | _ | _ | _ | _ | _ | _ | _ | _ | _ | _ | _ | _ | _ | i
  rotate_right
  ·exact t7 him gt
  ·cases hr.gw;refine(zR) ?_;exact(bK (br @aT @bO))
  ·cases hr.gw;refine(zR) ?_;exact(bK (br @aT @bO))
  ·cases hr.gw;have d1:L 1:=hr.dep ⟨1,.data⟩ f5 rfl;refine(cO (ee d1)) ?_;exact(bK (cA @aT @bO (ee d1)))
  ·cases hr.gw;refine(zR) ?_;exact(bK (br @aT @bO))
  ·cases hr.gw;have d3:L 3:=hr.dep ⟨3,.data⟩ f5 rfl;refine(cO (ee d3)) ?_;exact(bK (cA @aT @bO (ee d3)))
  ·cases hr.gw;have d2:L 2:=hr.dep ⟨2,.data⟩ f5 rfl;have d4:L 4:=hr.dep ⟨4,.data⟩ f5 rfl;refine(cO (br (ee d2) (ee d4))) ?_;exact(bK (jB @aT @bO (ee d2) (ee d4)))
  ·cases hr.gw;have d0:L 0:=hr.dep ⟨0,.data⟩ f5 rfl;have d5:L 5:=hr.dep ⟨5,.data⟩ f5 rfl
   have hlk:eJ prog [io L 12 (jP ij aa (gE 0 (fr,to) M) (some (jF b (fr,to) M))) (jP ij aa M (some b)),.cells [ab fr,ab to,aa am]] 84 (.map 0) (.ag [ab fr,ab to]) false=some (aa g):=by
    by_cases h:L 12
    ·rw[pF h,l8 fr to rfl,uA,<-hg]
    ·rw[gy h,l8 fr to rfl,<-hg]
   refine(cO (cA (ee d0) (ee d5) hlk)) ?_;exact(bK (jB @aT @bO (ee d0) (ee d5)))
  ·cases hr.gw;refine(zR) ?_;exact(bK (br @aT @bO))
  ·cases hr.gw;refine(zR) ?_;exact(bK (br @aT @bO))
  ·cases hr.gw;have d8:L 8:=hr.dep ⟨8,.data⟩ f5 rfl;refine(cO (ee d8)) ?_;exact(bK (cA @aT @bO (ee d8)))
  ·cases hr.gw;have d7:L 7:=hr.dep ⟨7,.data⟩ f5 rfl;have d9:L 9:=hr.dep ⟨9,.data⟩ f5 rfl;refine(cO (cA (ee d7) (ee d9) (ZD hmul))) ?_;exact(bK (jB @aT @bO (ee d7) (ee d9)))
  ·cases hr.gw;have d6:L 6:=hr.dep ⟨6,.data⟩ f5 rfl;have d10:L 10:=hr.dep ⟨10,.data⟩ f5 rfl;refine(cO (cA (ee d6) (ee d10) (xn hadd))) ?_;exact(bK (jB @aT @bO (ee d6) (ee d10)))
  ·cases hr.gw;have d0:L 0:=hr.dep ⟨0,.data⟩ f5 rfl;have d5:L 5:=hr.dep ⟨5,.data⟩ f5 rfl;have h12:¬L 12:=hr.new;refine aJ.YH (kv:=ij) (uv:=aa) (l:=M) (k:=((fr,to):Pr)) (u0:=0) (z:=.int .i64 0) (kt:=98) (et:=3) (oo:=0) (b:=b) (ky:=.ag [ab fr,ab to]) ge rfl rfl ge (fF (ee d0)) (fF (ee d5)) rfl (by rw[gy h12];rfl) (by simp only[az]) wM (by simp only[az]) rfl ?_;refine .nil ?_;rw[<-hg,<-hsb];exact(bK (cA @aT @bO @set_cons_zero.{0}))
  ·cases hr.gw;have d12:L 12:=hr.dep ⟨12,.data⟩ f5 rfl;refine(cO (ee d12)) ?_;exact(bK (cA @aT @bO (ee d12)))
 have v14:∀i,i<14->∀v:SV,vo (λj=>j<14) i v=v:=λi h v=>dC h;have v0:=v14 0 gc;have v13:=v14 13 gc;have v11:=v14 11 gc;have i12:∀x y:SO,io (λj=>j<14) 12 x y=x:=λx y=>pF gc;change aJ _ _ _ _ _ _;refine aJ.YD (kv:=ij) (uv:=aa) (l:=M) (k:=((fr,to):Pr)) (u0:=0) (oo:=0) (b:=jF b (fr,to) M) (sb:=sb) (u:=g+n*am) ge rfl rfl ge (fF v0) (fF v13) (fF v11) (by rw[i12];rfl) (by rw[hsb];exact ym hbl) ?_;refine .nil ?_;rw[<-hput];change aD _ _ _ _ _
 refine zA [(0,.map 0),(1,aa n),(10,an 1 ll ve),(11,aa ll.length),(12,aa k),(16,an 3 ts bC),(17,aa ts.length),(18,aa k2),(1000000,.ptr 0 0)] [bu ij aa (kK n M ⟨fr,to,am⟩)] (bK @set_cons_zero.{0})<|(aA (zi hlt2 hlen2)) ?_;refine zX hlt2 (bK hnx) (by rw[hnx];have:=hall2.add (t:=⟨fr,to,am⟩) hn hta;intro q;have:=this q;omega)
def lO(t:Xf):cg (bC t)=true:=rfl
def Sw:∀l:List Xf,(l.flatMap bC).all fw=true
 | []=>rfl
 | a::l=>by rw[el,fx,Sw l];rfl
def TA(p:Pr):C5 (ij p)=.ag [ab p.1,ab p.2]:=rfl
def Ng:Prop:=(∀(ts:List Xf),ts≠[]->ts.length<=1000000->(ts.map Dh).Nodup->SC prog 52 [.iface 39 (.buf 0 ts.length 3 none),.fn 53 [] [.ptr 1 0]] [.cells (ts.flatMap bC),.cells [.buf 0 ts.length 3 none]] []
 (λr S'=>r=.bB []/\S'=[.cells ((gX ts).flatMap bC),.cells [.buf 0 ts.length 3 none]]))/\
 SC prog 52 [.iface 39 cY,.fn 53 [] [.ptr 0 0]] [.cells [cY]] [] (λr S'=>r=.bB []/\S'=[.cells [cY]])
def Gn(q:List Xf):SO:=if q=[] then .gone else .cells (q.flatMap bC)
def Ca:Gn []=.gone:=rfl
def LM{q:List Xf}(h:q≠[]):Gn q=.cells (q.flatMap bC):=ul h
def Pu(o:Nat)(q:List Xf):cx o (Gn q)=Gn q:=by
 unfold Gn;split
 ·rfl
 ·show SO.cells _=_;rw[bf (enc:=bC) lO]
def PK{p o e n:Nat}(h:o≠p):names p (bn o e n)=false:=by
 unfold bn;split
 ·exact lk _
 ·rw[names];exact un h
def BS(o:Nat)(l:cV):(l.map λe=>aa e.2).map (aW o)=l.map λe=>aa e.2:=bL (fD (λ_=>rfl) l)
def Md(h:m.any (λe=>decide (1000000000000<e.2))=true):dB m=([],13):=by unfold dB;rw[t8 h]
def Qi(h:∀e∈m,e.2<=1000000000000):dB m=(gX (ja m),0):=by
 unfold dB;rw[ul];rw[any_eq_true];rintro⟨e,he,h1⟩;have:=h e he;have:=ww h1;omega
def P6(l:cV)(e:Pr×Int):ja (l++[e])=if 0<e.2 then ja l++[W2 e] else ja l:=by
 unfold ja;rw[List.filter_append];by_cases h:0<e.2<;>simp[h]
def Aa(hsort:Ng)(mp:cV)(hn:(mp.map (·.1)).Nodup)(hlen:mp.length<=100000):PC prog 22 [pD ij aa mp] (·=.bB [an 3 (dB mp).1 bC,aa (dB mp).2]):=by
 refine pB 32 Tryz.func22 ?_;refine(nP)<|(zC) ?_;refine aJ.Yr (ks:=mp.map λe=>ij e.1) (vs:=mp.map λe=>aa e.2) ge rfl rfl ge rfl (by simp only[az]) ?_
 intro bs c hbs;refine(zR) ?_
 (repeat refine aD.seq ?_)
 refine aD.block (aD.loop (λm st=>∃pos:List Nat,pos.Nodup/\(∀j∈pos,j<mp.length)/\(∀e∈bq mp pos,e.2<=1000000000000)/\mp.length-pos.length=m/\st=⟨[(4,.ptr 0 0),(8,.ptr 1 0)],32,[.cells [bn 2 3 (ja (bq mp pos)).length],.qj (mp.map λe=>ij e.1) (mp.map λe=>aa e.2) bs c pos,Gn (ja (bq mp pos))],[]⟩) mp.length zH ⟨[],b8,λj h=>(bI h).elim,λe h=>(bI h).elim,by simp,rfl⟩ (by rintro m st ⟨_,_,_,_,_,rfl⟩;rfl) ?_);rintro m st ⟨pos,hpn,hpl,hle,rfl,rfl⟩;obtain⟨q,hq⟩:∃q,q=ja (bq mp pos):=⟨_,rfl⟩;rw[<-hq];refine(zC) ?_;refine aJ.Yn ge rfl rfl ge rfl rfl (λj hj=>by rw[ap];exact hpl j hj) ?_ ?_;rotate_left
 ·intro j hj hjn;rw[ap] at hj;obtain⟨e,he⟩:∃e,mp[j]?=some e:=⟨mp[j],jp hj⟩;obtain⟨q1,q2,q3⟩:=qA hpn hpl hj hjn;have hsn:=mA mp pos he;have hps:=P6 (bq mp pos) e;rw[<-hsn,<-hq] at hps
  refine(zR)<|(gJ)<|(zC) ?_;refine aJ.Yk (k:=ij e.1) (v:=aa e.2) ge rfl rfl ge rfl rfl (by rw[bh,he];rfl) (by rw[bh,he];rfl) ?_;refine aJ.r0 ge (by simp only[cG,bG,an,az,m7,m6,↓reduceIte,aj,bw,b9,bt,ck,ah,ar,bD,TA,PK (show 2≠3 by decide),Pu,BS];first | done | rfl) ?_
  have hmem:e∈mp:=ac he;by_cases hb:1000000000000<e.2
  ·refine(aA (ut hb))<|(cN) ?_
   have hbig:dB mp=([],13):=Md (any_eq_true.2 ⟨e,hmem,ut hb⟩);exact ji [.tmp 2,.tmp 3] (r:=.bB [.sl 0 3 [],aa 13]) (hw:=zv) (hq:=by rw[hbig];rfl)
  refine(aA (un hb))<|(zN) ?_
  have hle2:∀x∈bq mp (pos++[j]),x.2<=1000000000000:=by
   intro x hx;rw[hsn] at hx
   rcases List.mem_append.1 hx with hx | hx
   ·exact hle x hx
   ·rw[rc hx];omega
  have hmeas:mp.length-(pos++[j]).length<mp.length-pos.length:=by rw[li];simp only[i7,g9];omega
  by_cases hp:0<e.2
  ·refine(aA (ut hp))<|(zY) ?_
   rw[t8 hp] at hps;have happ:=eV (enc:=bC) (e:=3) ce lO 2 q (W2 e);have hcl:=aM (enc:=bC) (e:=3) ce q
   have hql:q.length<=1000000:=by
    have h1:q.length<=(bq mp pos).length:=by rw[hq];unfold ja;rw[ap];exact dc _ _
    have h2:(bq mp pos).length<=pos.length:=ei _ _;omega
   have hte:bC (W2 e)=[ab e.1.1,ab e.1.2,aa e.2]:=rfl;by_cases hq0:q=[]
   ·subst hq0;refine(aA (cA @fv @g9.{0} @Ca)) ?_
    have hS1:bn 2 3 (ja (bq mp (pos++[j]))).length=.buf 2 1 3 none:=by rw[hps];rfl
    have hS2:Gn (ja (bq mp (pos++[j])))=.cells [ab e.1.1,ab e.1.2,aa e.2]:=by rw[hps];rfl
    have hrn:∀r:Nat->Nat,me r (mp.map λe=>aa e.2)=mp.map λe=>aa e.2:=λr=>bg (fD (λ_=>rfl) mp);exact⟨mp.length-(pos++[j]).length,_,hmeas,((Fg.rn (f':=[(4,.ptr 0 0),(8,.ptr 1 0)]) (n:=32) (S':=[.cells [.buf 2 1 3 none],.qj (mp.map λe=>ij e.1) (mp.map λe=>aa e.2) bs c (pos++[j]),.cells [ab e.1.1,ab e.1.2,aa e.2]]) [0,1,5] gc rfl (KM hrn) (KN hrn))).trans (bK (br hS1 hS2)),pos++[j],q1,q2,hle2,rfl,rfl⟩
   ·have hil:¬q.length=0:=λh=>hq0 (rx h);rw[hte] at happ;refine(zs) ?_;refine aD.r0 ge (by simp only[cG,bG,an,az,m7,m6,↓reduceIte,aj,bw,b9,bt,ck,ah,ar,bD,bR hil,LM hq0,bf (enc:=bC) lO _ q,hcl,ad,hql,happ];first | done | rfl) ?_
    have hS1:bn 2 3 (ja (bq mp (pos++[j]))).length=.buf 2 (q.length+1) 3 none:=by rw[hps,li];exact bR (Nat.succ_ne_zero _)
    have hS2:Gn (ja (bq mp (pos++[j])))=.cells ((q++[W2 e]).flatMap bC):=by rw[hps];exact LM f5
    exact⟨mp.length-(pos++[j]).length,_,hmeas,(bK (br hS1 hS2)),pos++[j],q1,q2,hle2,rfl,rfl⟩
  ·refine(aA (un hp))<|(zN) ?_
   rw[ul hp] at hps;exact⟨mp.length-(pos++[j]).length,_,hmeas,(bK hps),pos++[j],q1,q2,hle2,rfl,rfl⟩
 intro hall;have hperm:(bq mp pos).Perm mp:=nX hpn hpl λj hj=>hall j (by rw[ap];exact hj)
 refine(zR)<|(fC) ?_
 have hpq:q.Perm (ja mp):=by rw[hq];unfold ja;exact(hperm.filter _).map _
 have hkn:=ye mp hn;have hsq:gX q=gX (ja mp):=sL hkn ((eQ q).trans hpq) ((mh q).imp λh=>by unfold F9 at h;simpa using h)
 have htr:dB mp=(gX q,0):=by rw[hsq];exact Qi λe he=>hle e (hperm.mem_iff.2 he)
 have hql:q.length<=1000000:=by
  rw[hpq.length_eq];unfold ja;rw[ap];exact gd (dc _ _) gt
 refine zA [(4,.ptr 0 0)] [.cells [bn 2 3 q.length],.gone,Gn q] zH ?_;by_cases hq0:q=[]
 ·rw[hq0] at htr ⊢;rw[htr]
  (try change aD _ _ _ _ _)
  refine(jH (cA @fv @g9.{0} @Ca)) ?_;refine zS [0] @Ca hsort.2 ?_;exact(zR)<|(zV)<|ji [.tmp 2,.tmp 3] (r:=.bB [.sl 0 3 [],aa 0]) (hw:=zv)
 have hil:¬q.length=0:=λh=>hq0 (rx h);have hs:=hsort.1 q hq0 hql ((hpq.map Dh).nodup_iff.2 hkn);have hrq:∀(r:Nat->Nat) (l:List Xf),me r (l.flatMap bC)=l.flatMap bC:=λr l=>bg (aB lO l);have hbq:∀(B:Nat) (l:List Xf),ia B (l.flatMap bC)=true:=λB l=>bH (aB lO l);have hkq:∀(o:Nat) (l:List Xf),(l.flatMap bC).map (aW o)=l.flatMap bC:=λo l=>bL (aB lO l);rw[bR hil,LM hq0]
 (try change aD _ _ _ _ _)
 refine(zC) ?_;refine zS [2,0] (cA hrq hbq hkq) hs ?_;refine(zR)<|(zV) ?_
 have hsl:(gX q).length=q.length:=(eQ q).length_eq;refine zA [(2,.buf 2 q.length 3 none),(3,aa 0)] [.gone,.gone,.cells ((gX q).flatMap bC)] zH ?_;have htk:((gX q).flatMap bC).take (q.length*3)=(gX q).flatMap bC:=ay (by rw[aM (enc:=bC) (e:=3) ce,hsl];exact ad _);refine zZ [(2,an 3 (gX q) bC),(3,aa 0)] 2 rfl ⟨.inr (by rw[pN,hsl];exact .buf rfl (by rw[htk];exact cS.refl (aB lO _)) (by rw[aM (enc:=bC) (e:=3) ce,hsl];exact ad _)),.inl rfl,trivial⟩ ?_;rw[htr];exact ji [.tmp 2,.tmp 3] (r:=.bB [an 3 (gX q) bC,aa 0]) (hw:=.bB (.cons (.sl _ _ _) (.cons (.a _) .nil)))
def GN{c:List aF}{dmg:aX}:∀(l:List bj) (i:Nat) (s:List ai),(∀p∈s,iJ p)->(∀e∈l,rY e)->(qD c dmg i l s).1.length<=s.length+l.length
 | [],i,s,_,_=>ad _
 | e::l,i,s,hs,hl=>by
  have he:=hl e bd;have hr:=λx hx=>hl x (bc _ hx);obtain⟨h1,h2,_,_⟩:=xM (c:=c) (ps:=s) (e:=e) hs he;rw[qD];split
  ·split
   ·obtain⟨k1,k2⟩:=Oz (dmg:=dmg) (e:=e) h1;have:=GN (c:=c) (dmg:=dmg) l (i+1) _ k1 hr;rw[k2] at this;rw[i7];omega
   ·have:=GN (c:=c) (dmg:=dmg) l (i+1) _ h1 hr;rw[i7];omega
  ·exact be _
def Tn{c:List aF}{dmg:aX}{l:List bj}{day:Int}(hl:∀e∈l,rY e):(runN c dmg l day).1.length<=l.length:=by
 unfold runN;split
 ·have h1:=GN (c:=c) (dmg:=dmg) (cL (fK (gA day) l)) 0 [] (λp hp=>by cases hp) (λe he=>hl e (Oq he));have h2:=GO l (gA day);simp only[g9] at h1;omega
 ·exact be _
def JL(c:List aF)(dmg:aX)(day:Int):runN c dmg [] day=([],-1,if (j9 c&&Proofs.eb dmg)=true then 0 else 1):=by
 unfold runN;split
 ·have:cL (fK (gA day) [])=[]:=rx (Nat.le_zero.1 (GO [] (gA day)));rw[this];rfl
 ·rfl
def P5(o:Option (List bj)):∃e,N1 o=.bB [an 14 (o.getD []) aE,aa e]:=by
 cases o with
 | none=>exact⟨1,rfl⟩
 | some es=>exact⟨0,rfl⟩
def Pe{own:List aN}{ch:List Int}(h:∀r∈own,eu r):(∀e∈jZ own ch,rY e)/\(jZ own ch).length<=own.length:=by
 unfold jZ mc;split
 ·split
  ·refine⟨λe he=>?_,?_⟩
   ·obtain⟨p,hp,he⟩:=List.mem_flatMap.1 he;unfold gH at he;have hr:=(List.of_mem_zip hp).1;rw[Option.mem_toList] at he;exact(h _ hr).ev e (ac he)
   ·refine gd (uu _) ?_;rw[List.length_zip];exact Nat.min_le_left _ _
  ·exact⟨λe he=>(by cases he),be _⟩
 ·exact⟨λe he=>(by cases he),be _⟩
def QU:∀(l:List Sh),(∀s∈l,0<s.am/\s.am<=1000000000000)->0<=(l.map Sh.am).sum/\(l.map Sh.am).sum<=l.length*1000000000000
 | [],_=>by simp
 | s::l,h=>by
  have h1:=QU l λx hx=>h x (bc _ hx);have h2:=h s bd;rw[b7,hU,i7];omega
def Wc(r:List Sh×Int×Int):SV:=.bB [an 2 r.1 e8,aa r.2.1,aa r.2.2]
def q0(r:aN):(ae r).length=2:=rfl
def uq(r:aN):cg (ae r)=true:=rfl
def oP(b:kN):(dH b).length=1:=rfl
def se(b:kN):cg (dH b)=true:=rfl
def MX(c:List aF)(dmg:aX)(ws:List Wy)(l:List aN)(co:Co)(hc:kq c)(hf:iy dmg)(hw:∀w∈ws,w.fits)(hco:co.fits)(hlw:ws.length<=1000)(hl:∀r∈l,eu r)(hl2:∀r∈l,r.opts.length<=400000)(hlen:l.length<20):
 PC prog 20 [.ag (an 3 c ao::aC dmg),an 5 ws bJ,an 2 l ae,.ag (c8 co)] (·=Wc (cP c dmg ws l co)):=by
 have hfl:(aC dmg).length=3:=fi dmg;have hft:(aC dmg).take 3=aC dmg:=ay (by rw[hfl];exact ad _);have hfk:=λo:Nat=>bL (o:=o) (aL dmg);have hfn:=λo:Nat=>dX (o:=o) (aL dmg)
 have hlen6:l.length<=1000000:=by omega
 refine pB 138 Tryz.func20 ?_;rw[eN]
 refine(aA (br hfk hfn)) ?_;refine zZ [(1,an 5 ws bJ),(2,an 2 l ae),(4,.ip (an 3 c ao::aC dmg)),(7,.ptr 1 0)] 0 rfl ⟨.inl rfl,.inl rfl,.inr (.ptr rfl (cS.refl (aL dmg)) (be _)),.inl rfl,trivial⟩<|zZ [(1,an 5 ws bJ),(2,an 2 l ae),(4,.ip (an 3 c ao::aC dmg)),(7,.ip [ab co.part,ab co.owner,aa co.day,aa co.am])] 1 rfl (tK @an.eq_1)<|zA [(1,an 5 ws bJ),(2,an 2 l ae),(4,.ip (an 3 c ao::aC dmg)),(7,.ip [ab co.part,ab co.owner,aa co.day,aa co.am])] [] zH ?_
 have hrun0:=uQ c dmg [] 0 hc hf gc (λe h=>by cases h);rw[JL] at hrun0
 have hN:cP c dmg ws l co=if gL c dmg ws l co=true then ([],0,1) else cP c dmg ws l co:=by
  split
  ·rename_i h;rw[cP,t8 h]
  ·rfl
 refine(jH (br hfl hft))<|(zK hrun0 (hwk:=(.cons (.ag (cS.refl (aL dmg))) (.cons (.nil 14) (.cons (.a _) .nil)))) (hfl:=.inr (.cons (.ag (cS.refl (aL dmg))) (.cons (.nil 14) (.cons (.a _) .nil))))) ?_
 unfold To;cases hv:j9 c&&Proofs.eb dmg
 ·have hb:gL c dmg ws l co=true:=by rw[gL,hv];rfl
  refine(zR)<|(Ab)<|(zV)<|(zE) ?_;exact zO [.tmp 8,.tmp 9,.tmp 10] (r:=.bB [.sl 0 2 [],aa 0,aa 1]) (hw:=by exact .bB (.cons (.nil _) (.cons (.a _) (.cons (.a _) .nil)))) (hq:=by (try simp only[dA,aY]);first | done | (rw[cP,t8 hb];rfl))
 refine(zR)<|(zC)<|(zK (zJ ws co hw hco hlw)) ?_
 cases hr:eH ws co
 ·have hb:gL c dmg ws l co=true:=by rw[gL,hv,hr];rfl
  refine(zR)<|(cN)<|(zE) ?_;exact zO [.tmp 8,.tmp 9,.tmp 10] (r:=.bB [.sl 0 2 [],aa 0,aa 1]) (hw:=by exact .bB (.cons (.nil _) (.cons (.a _) (.cons (.a _) .nil)))) (hq:=by (try simp only[dA,aY]);first | done | (rw[cP,t8 hb];rfl))
 refine(zQ)<|(zK (zf (l:=l) (λr=>!(Proofs.cT r)) (first:=[]) (cap:=[]) hlen6 (λx hx=>MW x (hl x hx)) ⟨rfl,rfl⟩)) ?_
 cases hva:l.any λr=>!(Proofs.cT r);rotate_left
 ·have hb:gL c dmg ws l co=true:=by rw[gL,hv,hr,hva];rfl
  refine(zR)<|(cN)<|(zE) ?_;exact zO [.tmp 8,.tmp 9,.tmp 10] (r:=.bB [.sl 0 2 [],aa 0,aa 1]) (hw:=by exact .bB (.cons (.nil _) (.cons (.a _) (.cons (.a _) .nil)))) (hq:=by (try simp only[dA,aY]);first | done | (rw[cP,t8 hb];rfl))
 have hb:gL c dmg ws l co=false:=by rw[gL,hv,hr,hva];rfl
 clear hN
 refine(zR)<|(jG)<|(zC)<|(zK (Qu l co.part hl hl2 hlen6) (hfl:=.inr zr)) ?_
 have hlo:=qn l co.part;have hown:gg l co.part=(eo l co.part).filterMap (l[·]?):=rfl;generalize eo l co.part=is at hlo hown;refine(zR) ?_
 have hlen7:is.length<=1000000:=by omega
 refine(zs) ?_;refine zL is (λk=>True) (λk=>[(1,an 5 ws bJ),(2,an 2 l ae),(4,.ip (an 3 c ao::aC dmg)),(7,.ip [ab co.part,ab co.owner,aa co.day,aa co.am]),(14,bn 1 2 ((is.take k).filterMap (l[·]?)).length),(53,an 1 is (aw cI)),(54,aa is.length),(55,aa k)]) (λk=>sD 1 ((is.take k).filterMap (l[·]?)) ae) (bK (ik @take_zero.{0} @List.filterMap_nil.{0,0} @g9.{0} @fv @ny)) zp ?_;intro k hk hall;refine zT is k ?_ ?_;rintro rfl;rotate_left;intro i hx hlt;rotate_left;rotate_left
 ·have hil:i<l.length:=hlo.2 i (ac hx);obtain⟨r,hri⟩:∃r,l[i]?=some r:=⟨l[i],jp hil⟩;have hfm:=SK hx hri;have hol:((is.take k).filterMap (l[·]?)).length<=k:=gd (ei _ _) (by rw[ct];omega);generalize hO:(is.take k).filterMap (l[·]?)=out at hol hfm;have hcl:=aM q0 out;have hkc:=λo=>bf uq o out
  refine(gJ)<|(aA (cA hlt (aH (e:=1) (enc:=aw cI) ce hx) @aw.eq_1)) ?_
  by_cases hk0:out=[]
  ·rw[show sD 1 out ae=[] by rw[hk0];rfl,show bn 1 2 out.length=cY by rw[hk0];rfl]
   have f1:bn 1 2 ((is.take (k+1)).filterMap (l[·]?)).length=.buf 1 1 2 none:=by rw[hfm,hk0];rfl
   have f2:sD 1 ((is.take (k+1)).filterMap (l[·]?)) ae=[.gone,.cells (ae r)]:=by rw[hfm,hk0];rfl
   refine(aA (cA hil (aH (e:=2) (enc:=ae) ce hri) @ae.eq_1))<|(aA (zi hlt hlen7)) ?_;refine zX hlt (bK (cA f1 f2 @ae.eq_1)) trivial
  ·have hk1:¬out.length=0:=λh=>hk0 (rx h)
   have f1:bn 1 2 ((is.take (k+1)).filterMap (l[·]?)).length=.buf 1 (out.length+1) 2 none:=by rw[hfm,li];rfl
   have f2:sD 1 ((is.take (k+1)).filterMap (l[·]?)) ae=[.gone,.cells ((out++[r]).flatMap ae)]:=by rw[hfm,og];rfl
   have happ:=eV q0 uq 1 out r;rw[show ae r=[.sl r.opts.length 14 (r.opts.flatMap aE),au r.sd] from rfl] at happ;rw[jS hk0,bR hk1]
   refine(aA (DX hil (aH (e:=2) (enc:=ae) ce hri) @ae.eq_1 hcl hkc sH (show out.length<=1000000 by omega) @ad happ))<|(aA (zi hlt hlen7)) ?_;refine zX hlt (bK (br f1 f2)) trivial
 refine(fC) ?_;rw[ax,<-hown];have hoo:=λr (hr:r∈gg l co.part)=>hl r (rz hr);have hol:=Nat.lt_of_le_of_lt (GA l co.part) hlen
 have hS:cP c dmg ws l co=za c dmg ws (gg l co.part) co:=by rw[cP,ul (by rw[hb];decide)]
 generalize gg l co.part=own at hoo hol hS ⊢;clear hall hown hlo hlen7;unfold za at hS;by_cases hk0:own=[]
 ·rw[t8 hk0] at hS;rw[show sD 1 own ae=[] by rw[hk0];rfl,show bn 1 2 own.length=cY by rw[hk0];rfl]
  refine(Ab)<|(zV)<|(zE) ?_;exact zO [.tmp 8,.tmp 9,.tmp 10] (r:=.bB [.sl 0 2 [],aa 0,aa 2]) (hw:=by exact .bB (.cons (.nil _) (.cons (.a _) (.cons (.a _) .nil)))) (hq:=by (try simp only[dA,aY]);first | done | (rw[hS];rfl))
 have hk1:¬own.length=0:=λh=>hk0 (rx h);rw[ul hk0] at hS;rw[jS hk0,bR hk1]
 refine(aA (show decide ((own.length:Int)=0)=false by simp only[wd];omega))<|(zN) ?_;refine zZ [(1,an 5 ws bJ),(4,.ip (an 3 c ao::aC dmg)),(7,.ip [ab co.part,ab co.owner,aa co.day,aa co.am]),(14,an 2 own ae)] 1 rfl ⟨.inl rfl,.inl rfl,.inl rfl,.inr (.buf rfl (by rw[dw q0];exact cS.refl (aB uq _)) (by rw[aM q0];exact ad _)),trivial⟩<|zA [(1,an 5 ws bJ),(4,.ip (an 3 c ao::aC dmg)),(7,.ip [ab co.part,ab co.owner,aa co.day,aa co.am]),(14,an 2 own ae)] [] zH ?_
 have hal:=CH c own 4096 hc hoo hol hk0;have hai:=λch (h:ch∈(fk c own 4096).1)=>RW (A9 h);have ham:=HQ (c:=c) (l:=own) (most:=4096) gc;have hak:=rZ (c:=c) (l:=own) (most:=4096);generalize fk c own 4096=q at hal hai ham hak hS
 refine(zC)<|(zK hal (hfl:=.inr zr))<|(zR) ?_
 cases h0:decide (q.2=0)
 ·rw[ul (wt h0)] at hS
  refine(aA h0)<|(zN)<|(aA h0)<|(cN)<|(zE) ?_;exact zO [.tmp 8,.tmp 9,.tmp 10] (r:=.bB [.sl 0 2 [],aa 0,aa q.2]) (hw:=by exact .bB (.cons (.nil _) (.cons (.a _) (.cons (.a _) .nil)))) (hq:=by (try simp only[dA,aY]);first | done | (rw[hS];rfl))
 rw[t8 (ww h0)] at hS;have hne:=hak (ww h0);have hq2:=ww h0;by_cases h1:q.1.length=4096
 ·rw[t8 h1] at hS
  refine(aA (br h0 (show decide ((q.1.length:Int)=4096)=true by simp only[wp];omega)))<|(cN)<|(Ab)<|(zV)<|(zE) ?_;exact zO [.tmp 8,.tmp 9,.tmp 10] (r:=.bB [.sl 0 2 [],aa 0,aa 7]) (hw:=by exact .bB (.cons (.nil _) (.cons (.a _) (.cons (.a _) .nil)))) (hq:=by (try simp only[dA,aY]);first | done | (rw[hS];rfl))
 rw[ul h1] at hS
 refine(aA (br h0 (show decide ((q.1.length:Int)=4096)=false by simp only[wd];omega)))<|(zN)<|(aA h0)<|(jG)<|(zV) ?_
 have hlen8:q.1.length<=1000000:=by omega
 have hbk:=λall=>r4 (c:=c) (dmg:=dmg) (own:=own) (all:=all) hr;have hbl:∀all:List (List Int),(eY c dmg ws own co all).length=all.length:=λall=>ap _;refine(zs) ?_;refine zL q.1 (λk=>True) (λk=>[(1,an 5 ws bJ),(4,.ip (an 3 c ao::aC dmg)),(7,.ip [ab co.part,ab co.owner,aa co.day,aa co.am]),(14,an 2 own ae),(18,bn 2 1 (eY c dmg ws own co (q.1.take k)).length),(87,an 1 q.1 gj),(88,aa q.1.length),(89,aa k)]) (λk=>sD 2 (eY c dmg ws own co (q.1.take k)) dH) (bK (sa @take_zero.{0} @eY.eq_1 @map_nil.{0,0} @g9.{0} @fv @ny)) zp ?_;intro k hk hall;refine zT q.1 k ?_ ?_;rintro rfl;rotate_left;intro ch hx hlt;rotate_left;rotate_left
 ·have hch:=hai ch (ac hx);have hev:=Pe (ch:=ch) hoo
  have hbs:eY c dmg ws own co (q.1.take (k+1))=eY c dmg ws own co (q.1.take k)++[jJ ws (runN c dmg (jZ own ch) co.day).1 co]:=by
   unfold eY;rw[bz hx,dv];rfl
  have hol2:(eY c dmg ws own co (q.1.take k)).length<=100000:=by rw[hbl,ct];omega
  obtain⟨e1,he1⟩:=P5 (mc own ch);have hpk:=Kq own ch hoo gt gt;rw[he1] at hpk;rw[show(mc own ch).getD []=jZ own ch from rfl] at hpk;generalize jZ own ch=Aj at hpk hev hbs;have hru:=uQ c dmg Aj co.day hc hf gt hev.1;have hpl:=Tn (c:=c) (dmg:=dmg) (day:=co.day) hev.1;unfold To at hru;generalize runN c dmg Aj co.day=rr at hru hpl hbs;have hdv:=wK ws rr.1 co hlw gt hr;generalize jJ ws rr.1 co=bb at hdv hbs;generalize (bF rr.1 co.part).isSome=fo at hdv;generalize eY c dmg ws own co (q.1.take k)=out at hbs hol2 ⊢;have hcl:=aM oP out;have hkc:=λo=>bf se o out
  refine(gJ)<|(aA (cA hlt (aH (e:=1) (enc:=gj) ce hx) @gj.eq_1)) ?_
  by_cases hk0:out=[]
  ·rw[show sD 2 out dH=[] by rw[hk0];rfl,show bn 2 1 out.length=cY by rw[hk0];rfl]
   have f1:bn 2 1 (eY c dmg ws own co (q.1.take (k+1))).length=.buf 2 1 1 none:=by rw[hbs,hk0];rfl
   have f2:sD 2 (eY c dmg ws own co (q.1.take (k+1))) dH=[.gone,.gone,.cells (dH bb)]:=by rw[hbs,hk0];rfl
   refine(zC)<|(zK hpk (hfl:=.inr zr))<|(zR)<|(jH (br hfl hft))<|(zK hru (hwk:=(.cons (.ag (cS.refl (aL dmg))) zr)) (hfl:=.inr (.cons (.ag (cS.refl (aL dmg))) zr)))<|(zR)<|(zC)<|(zK hdv (hfl:=.inr zr))<|(zR)<|(zV)<|(aA (zi hlt hlen8)) ?_;refine zX hlt (bK (cA f1 f2 @dH.eq_1)) trivial
  ·have hk1:¬out.length=0:=λh=>hk0 (rx h)
   have f1:bn 2 1 (eY c dmg ws own co (q.1.take (k+1))).length=.buf 2 (out.length+1) 1 none:=by rw[hbs,li];rfl
   have f2:sD 2 (eY c dmg ws own co (q.1.take (k+1))) dH=[.gone,.gone,.cells ((out++[bb]).flatMap dH)]:=by rw[hbs,og];rfl
   have happ:=eV oP se 2 out bb;rw[show dH bb=[pD AV.str aa bb] from rfl,Nat.mul_one] at happ;rw[jS hk0,bR hk1]
   refine(zC)<|(zK hpk (hfl:=.inr zr))<|(cO (br hkc sH))<|(jH (cA hfl hft hkc))<|(zK hru (hwk:=(.cons (.ag (cS.refl (aL dmg))) zr)) (hfl:=.inr (.cons (.ag (cS.refl (aL dmg))) zr)))<|(cO (br hkc sH))<|(jH hkc)<|(zK hdv (hfl:=.inr zr))<|(cO hkc)<|(aA (sa hkc hcl @Nat.mul_one (show out.length<=1000000 by omega) @ad happ))<|(aA (zi hlt hlen8)) ?_;refine zX hlt (bK (br f1 f2)) trivial
 refine(fC) ?_;rw[ax];have hbn:eY c dmg ws own co q.1≠[]:=λe=>hne (by unfold eY at e;exact List.map_eq_nil_iff.1 e);have hbk:=hbk q.1;have hbl:=hbl q.1;generalize eY c dmg ws own co q.1=bills at hbn hbk hbl hS ⊢;rw[jS hbn,bR (λh=>hbn (rx h))]
 refine zZ [(7,.ip [ab co.part,ab co.owner,aa co.day,aa co.am]),(18,an 1 bills dH)] 2 rfl ⟨.inl rfl,.inr (.buf rfl (by rw[dw oP];exact cS.refl (aB se _)) (by rw[aM oP];exact ad _)),trivial⟩<|zA [(7,.ip [ab co.part,ab co.owner,aa co.day,aa co.am]),(18,an 1 bills dH)] [] zH ?_
 obtain⟨b0,bs,rfl⟩:∃b0 bs,bills=b0::bs:=by
  cases bills with
  | nil=>exact t7 rfl hbn
  | cons b0 bs=>exact⟨b0,bs,rfl⟩
 have hlk:=xZ hbn hbk;have hls:=CY (mT (b0::bs)) (by have:=hlk.len;omega) hlk.nodup hlk.ne;have hle:=Kj b0 bs (by rw[i7] at hbl;omega) (hbk b0 bd).nodup;have ha1:=VD (sJ hr).2
 have hoa:∀s∈jx (mT (b0::bs)),0<s.am/\s.am<=1000000000000:=λs hs=>by have:=hlk.am hs;omega
 have ho2:=hlk.sum.2;generalize mT (b0::bs)=lb at hls hle hoa ho2 hS;generalize jx lb=out at hls hoa ho2 hS
 refine(zC)<|(zK hle (hfl:=.inr zr))<|(zQ)<|(zK hls (hfl:=.inr zr))<|(zR)<|(nP) ?_
 have hlen9:out.length<=1000000:=by omega
 refine(zs) ?_;refine zL out (λk=>True) (λk=>[(28,an 2 out e8),(29,aa (oY co.am (out.take k))),(125,an 2 out e8),(126,aa out.length),(127,aa k)]) (λk=>[]) (Fg.less (by (simp only[cG,bG,dU,↓reduceIte,aj,an,oY,take_zero,map_nil,hI,hT])<;>(repeat' apply bi)<;>first | rfl | trivial) (by (simp only[cG,bG,or_true,true_or,an,oY,take_zero,map_nil,hI,hT])<;>(repeat' apply bi)<;>first | exact .inr rfl | exact .inl rfl | trivial)) zp ?_;intro k hk hall;refine zT out k ?_ ?_;rintro rfl;rotate_left;intro s hx hlt;rotate_left
 ·refine(fC) ?_;rw[ax]
  refine(zV)<|(zE) ?_;exact ue.of (rs:=[.tmp 8,.tmp 9,.tmp 10]) (r:=.bB [an 2 out e8,aa (oY co.am out),aa 0]) rfl rfl zl zv (by (try simp only[dA,aY]);first | done | (rw[hS];rfl))
 have hos:oY co.am (out.take (k+1))=oY co.am (out.take k)-s.am:=by
  unfold oY;rw[bz hx,dv,List.sum_append,b7,map_nil,hU,hI];omega
 have hsb:=hoa s (ac hx)
 have hob:oY co.am (out.take k)<=1000000000000 /\ -2000000000000<=oY co.am (out.take k):=by
  have h1:=QU (out.take k) (λs hs=>hoa s (List.mem_of_mem_take hs))
  have h2:(out.take k).length<=2:=by rw[ct];omega
  unfold oY;omega
 generalize oY co.am (out.take k)=op at hos hob
 refine(gJ)<|(aA (cA hlt (aH (e:=2) (enc:=e8) ce hx) @e8.eq_1))<|(zs) ?_;refine aD.r0 ge (fF (bS op s.am gt)) ?_;refine(aA (zi hlt hlen9)) ?_;refine zX hlt (bK hos) trivial
def tz(ws:List Wy)(ps:List ai)(co:Co):List Sh×Int:=if eH ws co=true then (if (bF ps co.part).isSome=true then (jx (jJ ws ps co),0) else ([],2)) else ([],1)
def GR(r:List Sh×Int):SV:=.bB [an 2 r.1 e8,aa r.2]
def Hz(ws:List Wy)(ps:List ai)(co:Co)(hw:∀w∈ws,w.fits)(hco:co.fits)(hlw:ws.length<=1000)(hlp:ps.length<=100000):
 PC prog 15 [an 5 ws bJ,.ag [an 14 ps ak],.ag (c8 co)] (·=GR (tz ws ps co)):=by
 refine pB 25 Tryz.func15 ?_;rw[eN]
 refine(zV) ?_;refine zZ [(0,an 5 ws bJ),(4,.ip [an 14 ps ak]),(5,.ptr 1 0)] 0 rfl (tK @an.eq_1)<|zZ [(0,an 5 ws bJ),(4,.ip [an 14 ps ak]),(5,.ip [ab co.part,ab co.owner,aa co.day,aa co.am])] 1 rfl (tK @an.eq_1)<|zA [(0,an 5 ws bJ),(4,.ip [an 14 ps ak]),(5,.ip [ab co.part,ab co.owner,aa co.day,aa co.am])] [] zH<|(zC)<|(zK (zJ ws co hw hco hlw)) ?_
 cases hr:eH ws co
 ·exact(zR)<|(cN)<|ji [.tmp 6,.tmp 7] (r:=.bB [.sl 0 2 [],aa 1]) (hw:=.bB (.cons (.nil _) (.cons (.a _) .nil))) (hq:=by rw[tz,hr];rfl)
 have hb:=HY (ps:=ps) hr;have hdv:=wK ws ps co hlw hlp hr;have hls:=CY (jJ ws ps co) (by have:=hb.len;omega) hb.nodup hb.ne
 have hN:tz ws ps co=if (bF ps co.part).isSome=true then (jx (jJ ws ps co),0) else ([],2):=by rw[tz,t8 hr]
 generalize jJ ws ps co=b at hdv hls hN;generalize (bF ps co.part).isSome=fo at hdv hN
 refine(zR)<|(Vy)<|(zK hdv (hfl:=.inr zr))<|(zR) ?_
 cases fo
 ·exact(Ab)<|(zV)<|ji [.tmp 6,.tmp 7] (r:=.bB [.sl 0 2 [],aa 2]) (hw:=.bB (.cons (.nil _) (.cons (.a _) .nil))) (hq:=by rw[hN];rfl)
 exact(KS)<|(zC)<|(zK hls (hfl:=.inr zr))<|(zR)<|ji [.tmp 6,.tmp 7] (r:=.bB [an 2 (jx b) e8,aa 0]) (hw:=zv) (hq:=by rw[hN];rfl)
def TU:Co:=⟨[97],[98],0,0⟩
def EN:ai:={ ai.zero with name:=[97] }
def FF(c:List aF)(dmg:aX)(ws:List Wy)(l:List aN):Bool:=!(eH ws TU)||(!(j9 c&&Proofs.eb dmg)||l.any λr=>!(Proofs.cT r))
def kC(c:List aF)(dmg:aX)(ws:List Wy)(l:List aN)(costs:List Co):List Xf×Int:=if FF c dmg ws l=true then ([],1) else dB (gk c dmg ws l costs [])
def Vj(ws:List Wy):tz ws [EN] TU=if eH ws TU=true then (jx (jJ ws [EN] TU),0) else ([],1):=by
 unfold tz;rw[t8 (show(bF [EN] TU.part).isSome=true from by kernel_rfl)]
def OD(r:List Xf×Int):SV:=.bB [an 3 r.1 bC,aa r.2]
def ML(x:aN)(hx:eu x):PC prog 18 ([]++[.ag (ae x)]++[]) (·=au (!(Proofs.cT x))):=by
 refine pB 6 Tryz.func18 ?_;exact(aA @ae.eq_1)<|(zC)<|(zK (pj x hx))<|(zR)<|zo [.tmp 2]
def LW(c:List aF)(dmg:aX)(ws:List Wy)(l:List aN)(costs:List Co)(co:Co)(m:cV):gk c dmg ws l (costs++[co]) m=if (cP c dmg ws l co).2.2=0 then fj (cP c dmg ws l co).1 co.owner (gk c dmg ws l costs m) else gk c dmg ws l costs m:=by unfold gk;rw[List.foldl_append];rfl
def LV(ss:List Sh)(y:Sh)(own:List Nat)(m:cV):fj (ss++[y]) own m=if y.pt=own then fj ss own m else kK 1 (fj ss own m) ⟨y.pt,own,y.am⟩:=by unfold fj;rw[List.foldl_append];rfl
def WT(r:Nat->Nat)(m:cV):oI r (bu ij aa m)=bu ij aa m:=by
 unfold bu;rw[oI,bg (fD (uv:=aa) (λ_=>rfl) m)]
def Ra(B:Nat)(m:cV):lG B (bu ij aa m)=true:=by
 unfold bu;rw[lG,bH (fD (uv:=aa) (λ_=>rfl) m)]
def A1{k:Pr}{v:Int}(m:cV):(bU k v m).length<=m.length+1:=by
 induction m with
 | nil=>unfold bU;simp
 | cons a m ih=>unfold bU;split<;>simp only[i7]<;>omega
def EM(own:List Nat):∀(ss:List Sh) (m:cV),(fj ss own m).length<=m.length+ss.length
 | [],m=>by unfold fj;simp
 | y::ss,m=>by
  unfold fj;rw[fy,i7];have ih:=EM own ss (if y.pt=own then m else kK 1 m ⟨y.pt,own,y.am⟩);unfold fj at ih
  have:(if y.pt=own then m else kK 1 m ⟨y.pt,own,y.am⟩).length<=m.length+1:=by
   split
   ·omega
   ·exact A1 m
  omega
def x9(c:List aF)(dmg:aX)(ws:List Wy)(l:List aN):∀(costs:List Co) (m:cV),(gk c dmg ws l costs m).length<=m.length+2*costs.length
 | [],m=>by unfold gk;simp
 | co::costs,m=>by
  have e:gk c dmg ws l (co::costs) m=gk c dmg ws l costs (if (cP c dmg ws l co).2.2=0 then fj (cP c dmg ws l co).1 co.owner m else m):=rfl;rw[e,i7];have ih:=x9 c dmg ws l costs (if (cP c dmg ws l co).2.2=0 then fj (cP c dmg ws l co).1 co.owner m else m);have h2:=(rK c dmg ws l co).len;have h3:=EM co.owner (cP c dmg ws l co).1 m
  have:(if (cP c dmg ws l co).2.2=0 then fj (cP c dmg ws l co).1 co.owner m else m).length<=m.length+2:=by
   split<;>omega
  omega
def gr.mono{B C:Int}(h:gr B m)(hb:B<=C):gr C m:=λk=>⟨by have:=(h k).1;omega,by have:=(h k).2;omega⟩
def uO(hsort:Ng)(c:List aF)(dmg:aX)(ws:List Wy)(l:List aN)(costs:List Co)(hc:kq c)(hf:iy dmg)(hw:∀w∈ws,w.fits)(hcs:∀co∈costs,co.fits)(hlw:ws.length<=1000)(hl:∀r∈l,eu r)(hl2:∀r∈l,r.opts.length<=400000)(hlen:l.length<20)(hlc:costs.length<=10):
 PC prog 7 [.ag (an 3 c ao::aC dmg),an 5 ws bJ,an 2 l ae,an 4 costs c8] (·=OD (kC c dmg ws l costs)):=by
 have hfl:(aC dmg).length=3:=fi dmg;have hft:(aC dmg).take 3=aC dmg:=ay (by rw[hfl];exact ad _);have hfk:=λo:Nat=>bL (o:=o) (aL dmg);have hfn:=λo:Nat=>dX (o:=o) (aL dmg)
 have hlen6:l.length<=1000000:=by omega
 have hlc6:costs.length<=1000000:=by omega
 refine pB 94 Tryz.func7 ?_;have hrun0:=uQ c dmg [] 0 hc hf gc (λe h=>by cases h);rw[JL] at hrun0;have hsh:=Hz ws [EN] TU hw (by constructor<;>decide) hlw gc;rw[Vj] at hsh
 refine(aA (br hfk hfn)) ?_;refine zZ [(1,an 5 ws bJ),(2,an 2 l ae),(3,an 4 costs c8),(4,.ip (an 3 c ao::aC dmg))] 0 rfl ⟨.inl rfl,.inl rfl,.inl rfl,.inr (.ptr rfl (cS.refl (aL dmg)) (be _)),trivial⟩<|zA [(1,an 5 ws bJ),(2,an 2 l ae),(3,an 4 costs c8),(4,.ip (an 3 c ao::aC dmg))] [] zH<|(jH (br hfk hfn)) ?_;refine oZ [(24,an 5 ws bJ),(27,.ag [an 14 [EN] ak]),(28,.ag (c8 TU)),(1,an 5 ws bJ),(2,an 2 l ae),(3,an 4 costs c8),(4,.ip (an 3 c ao::aC dmg))] 0 rfl ⟨.inl rfl,.inr (.ag (.cons (.buf rfl (.cons (.a _) (.cons (.a _) (.cons (.a _) (.cons (.a _) (.cons (.a _) (.cons (.a _) (.cons (.a _) (.cons (.nil _) (.cons (.a _) (.cons (.a _) (.cons (.a _) (.cons (.a _) (.cons (.a _) (.cons (.a _) (.nil))))))))))))))) (ad _)) .nil)),zj⟩<|oA [(24,an 5 ws bJ),(27,.ag [an 14 [EN] ak]),(28,.ag (c8 TU)),(1,an 5 ws bJ),(2,an 2 l ae),(3,an 4 costs c8),(4,.ip (an 3 c ao::aC dmg))] [] zH<|(zK hsh (hfl:=.inr zr)) ?_
 have hbd:FF c dmg ws l=(!(eH ws TU)||(!(j9 c&&Proofs.eb dmg)||l.any λr=>!(Proofs.cT r))):=rfl
 have hN1:FF c dmg ws l=true->kC c dmg ws l costs=([],1):=λh=>by unfold kC;rw[t8 h]
 have hcof:=zf (l:=l) (λr=>!(Proofs.cT r)) (first:=[]) (cap:=[]) hlen6 (λx hx=>ML x (hl x hx)) ⟨rfl,rfl⟩;cases hr:eH ws TU
 ·rw[ul gc];rw[hr] at hbd
  refine(cO @GR.eq_1)<|(jH (br hfl hft))<|(zK hrun0 (hwk:=(.cons (.ag (cS.refl (aL dmg))) (.cons (.nil 14) (.cons (.a _) .nil)))) (hfl:=.inr (.cons (.ag (cS.refl (aL dmg))) (.cons (.nil 14) (.cons (.a _) .nil))))) ?_
  unfold To
  exact(zR)<|(Ab)<|(zV)<|ji [.tmp 8,.tmp 9] (r:=.bB [.sl 0 3 [],aa 1]) (hw:=.bB (.cons (.nil _) (.cons (.a _) .nil))) (hq:=by rw[hN1 hbd];rfl)
 rw[t8 rfl]
 refine(cO @GR.eq_1)<|(jH (br hfl hft))<|(zK hrun0 (hwk:=(.cons (.ag (cS.refl (aL dmg))) (.cons (.nil 14) (.cons (.a _) .nil)))) (hfl:=.inr (.cons (.ag (cS.refl (aL dmg))) (.cons (.nil 14) (.cons (.a _) .nil))))) ?_
 unfold To;cases hv:j9 c&&Proofs.eb dmg
 ·rw[hr,hv] at hbd
  exact(zR)<|(Ab)<|(zV)<|ji [.tmp 8,.tmp 9] (r:=.bB [.sl 0 3 [],aa 1]) (hw:=.bB (.cons (.nil _) (.cons (.a _) .nil))) (hq:=by rw[hN1 hbd];rfl)
 refine(zR)<|(zC)<|(zK hcof) ?_
 cases hva:l.any λr=>!(Proofs.cT r);rotate_left
 ·rw[hr,hv,hva] at hbd
  exact(zR)<|(cN)<|ji [.tmp 8,.tmp 9] (r:=.bB [.sl 0 3 [],aa 1]) (hw:=.bB (.cons (.nil _) (.cons (.a _) .nil))) (hq:=by rw[hN1 hbd];rfl)
 rw[hr,hv,hva] at hbd
 have hN:kC c dmg ws l costs=dB (gk c dmg ws l costs []):=by unfold kC;rw[ul (by rw[hbd];decide)]
 rw[hN];clear hN hN1 hbd hcof hsh hrun0
 refine(zR)<|(zN)<|zA [(1,an 5 ws bJ),(2,an 2 l ae),(3,an 4 costs c8),(4,.ip (an 3 c ao::aC dmg))] [] zH<|(zV)<|zA [(15,.map 0),(1,an 5 ws bJ),(2,an 2 l ae),(3,an 4 costs c8),(4,.ip (an 3 c ao::aC dmg))] [bu ij aa []] (bK (show SO.map [] [] none=bu ij aa [] from rfl))<|(zV)<|(zs) ?_;refine zL costs (λk=>gr (k*2000000000000) (gk c dmg ws l (costs.take k) [])) (λk=>[(15,.map 0),(1,an 5 ws bJ),(2,an 2 l ae),(4,.ip (an 3 c ao::aC dmg)),(49,an 4 costs c8),(50,aa costs.length),(51,aa k)]) (λk=>[bu ij aa (gk c dmg ws l (costs.take k) [])]) zH (by intro q;exact⟨cd _,cd _⟩) ?_;intro k hk hall;refine zT costs k ?_ ?_;rintro rfl;rotate_left;intro co hx hlt;rotate_left
 ·refine(fC) ?_;simp only[gK,eI,cQ,cr,if_true];rw[ax];have hkeys:=ry (c:=c) (dmg:=dmg) (ws:=ws) (l:=l) (costs:=costs) (m:=[]) b8;have hml:=x9 c dmg ws l costs [];generalize gk c dmg ws l costs []=M at hkeys hml ⊢
  have hgm:cg [pD ij aa M]=true:=by simp only[cg,pD,ni,fD (uv:=aa) (λ_=>rfl) M,ey]
  refine(zC) ?_;exact oZ [(90,pD ij aa M)] 0 rfl ⟨.inr (pn (λ_=>rfl) rfl),trivial⟩<|(zK (Aa hsort M hkeys (by simp only[g9] at hml;omega)) (hwk:=(cS.refl hgm)) (hfl:=.inr (cS.refl hgm)))<|(zR)<|ji [.tmp 8,.tmp 9] (r:=.bB [an 3 (dB M).1 bC,aa (dB M).2]) (hw:=.bB (.cons (.sl _ _ _) (.cons (.a _) .nil)))
 refine(gJ) ?_;have hco:co.fits:=hcs co (ac hx);have hsure:=MX c dmg ws l co hc hf hw hco hlw hl hl2 hlen;have hsok:=rK c dmg ws l co;obtain⟨M,hM⟩:∃M,M=gk c dmg ws l (costs.take k) []:=⟨_,rfl⟩
 have hnext:gk c dmg ws l (costs.take (k+1)) []=if (cP c dmg ws l co).2.2=0 then fj (cP c dmg ws l co).1 co.owner M else M:=by rw[Fa hx,LW,<-hM]
 rw[<-hM] at hall ⊢;clear hM;generalize cP c dmg ws l co=r at hsure hsok hnext;obtain⟨ss,op,er⟩:=r;simp only at hnext
 refine(aA (cA hlt (aH (e:=4) (enc:=c8) ce hx) @eN)) ?_;refine zZ [(17,.ip [ab co.part,ab co.owner,aa co.day,aa co.am]),(15,.map 0),(1,an 5 ws bJ),(2,an 2 l ae),(4,.ip (an 3 c ao::aC dmg)),(49,an 4 costs c8),(50,aa costs.length),(51,aa k)] 1 rfl (tK (br @an.eq_1 @eN))<|zA [(17,.ip [ab co.part,ab co.owner,aa co.day,aa co.am]),(15,.map 0),(1,an 5 ws bJ),(2,an 2 l ae),(4,.ip (an 3 c ao::aC dmg)),(49,an 4 costs c8),(50,aa costs.length),(51,aa k)] [bu ij aa M] (bK @lh)<|(jH (br hfl hft)) ?_
 rw[eN] at hsure
 refine(zK hsure (hwk:=(.cons (.ag (cS.refl (aL dmg))) zr)) (hfl:=.inr (.cons (.ag (cS.refl (aL dmg))) zr)))<|(cO @Wc.eq_1)<|zA [(18,an 2 ss e8),(20,aa er),(17,.ip [ab co.part,ab co.owner,aa co.day,aa co.am]),(15,.map 0),(1,an 5 ws bJ),(2,an 2 l ae),(4,.ip (an 3 c ao::aC dmg)),(49,an 4 costs c8),(50,aa costs.length),(51,aa k)] [bu ij aa M] zH ?_
 by_cases h0:er=0;rotate_left
 ·rw[ul h0] at hnext
  refine(aA (un h0))<|(zY) ?_;refine aD.exit ?_
  simp only[gK,eI,cQ,cr,if_true];refine(aA (zi hlt hlc6)) ?_;refine zX hlt (bK hnext) (by rw[hnext];exact hall.mono gt)
 rw[t8 h0] at hnext
 have hlen2:ss.length<=1000000:=by have:=hsok.len;simp only at this;omega
 have hco1:co.ok=true:=by
  have:=hsok.right h0;unfold eH at this;rw[ba] at this;exact this.2
 have hca:=VX hco1
 refine(aA (ut h0))<|(jG)<|(zs) ?_;refine zL ss (λk2=>gr (k*2000000000000+k2*1000000000000) (fj (ss.take k2) co.owner M)) (λk2=>[(66,an 2 ss e8),(67,aa ss.length),(68,aa k2),(17,.ip [ab co.part,ab co.owner,aa co.day,aa co.am]),(15,.map 0),(1,an 5 ws bJ),(2,an 2 l ae),(4,.ip (an 3 c ao::aC dmg)),(49,an 4 costs c8),(50,aa costs.length),(51,aa k)]) (λk2=>[bu ij aa (fj (ss.take k2) co.owner M)]) zH (by intro q;have:=hall q;show _<=getM 0 q M/\getM 0 q M<=_;omega) ?_;intro k2 hk2 hall2;refine zT ss k2 ?_ ?_;rintro rfl;rotate_left;intro y hx2 hlt2;rotate_left
 ·refine(fC) ?_;simp only[gK,eI,cQ,cr,if_true];rw[ax] at hall2 ⊢;have hsl:=hsok.len;simp only at hsl;refine(aA (zi hlt hlc6)) ?_;refine zX hlt (bK hnext) (by rw[hnext];exact hall2.mono gt)
 refine(gJ) ?_;obtain⟨m2,hm2⟩:∃m2,m2=fj (ss.take k2) co.owner M:=⟨_,rfl⟩
 have hnext2:fj (ss.take (k2+1)) co.owner M=if y.pt=co.owner then m2 else kK 1 m2 ⟨y.pt,co.owner,y.am⟩:=by rw[Fa hx2,LV,<-hm2]
 rw[<-hm2] at hall2 ⊢;clear hm2;have hya:=hsok.am y (ac hx2);obtain⟨pt,am⟩:=y;simp only at hya hnext2
 refine(aA (cA hlt2 (aH (e:=2) (enc:=e8) ce hx2) @e8.eq_1)) ?_;refine zZ [(22,.ip [ab pt,aa am]),(66,an 2 ss e8),(67,aa ss.length),(68,aa k2),(17,.ip [ab co.part,ab co.owner,aa co.day,aa co.am]),(15,.map 0),(1,an 5 ws bJ),(2,an 2 l ae),(4,.ip (an 3 c ao::aC dmg)),(49,an 4 costs c8),(50,aa costs.length),(51,aa k)] 1 rfl (tK @an.eq_1)<|zA [(22,.ip [ab pt,aa am]),(66,an 2 ss e8),(67,aa ss.length),(68,aa k2),(17,.ip [ab co.part,ab co.owner,aa co.day,aa co.am]),(15,.map 0),(1,an 5 ws bJ),(2,an 2 l ae),(4,.ip (an 3 c ao::aC dmg)),(49,an 4 costs c8),(50,aa costs.length),(51,aa k)] [bu ij aa m2] (bK @lh) ?_
 by_cases hy:pt=co.owner
 ·rw[t8 hy] at hnext2
  refine(aA (ut hy))<|(zN)<|(aA (zi hlt2 hlen2)) ?_;refine zX hlt2 (bK hnext2) (by rw[hnext2];exact hall2.mono gt)
 rw[ul hy] at hnext2
 refine(aA (un hy))<|(zY)<|(zC) ?_
 have hadd:=yp 1 (.inl rfl) [[⟨pt,co.owner,am⟩]] m2 (hall2.mono (by have:=hsok.len;simp only at this;omega)) (by show 1<=10;decide) (by
  intro ts hts;rw[rc hts];refine⟨by show 1<=1000;decide,λt ht=>?_⟩;rw[rc ht];show -1000000000000<=am/\am<=1000000000000
  omega)
 rw[show[[(⟨pt,co.owner,am⟩:Xf)]].foldl (fQ 1) m2=kK 1 m2 ⟨pt,co.owner,am⟩ from rfl] at hadd
 refine oA [(86,.buf 2 1 1 (some 1)),(77,.map 0),(66,an 2 ss e8),(67,aa ss.length),(68,aa k2),(17,.ip [ab co.part,ab co.owner,aa co.day,aa co.am]),(15,.map 0),(1,an 5 ws bJ),(2,an 2 l ae),(4,.ip (an 3 c ao::aC dmg)),(49,an 4 costs c8),(50,aa costs.length),(51,aa k)] [bu ij aa m2,.cells [ab pt,ab co.owner,aa am],.cells [.buf 1 1 3 (some 1)]] (bK @lh) ?_;refine aJ.fg (Fg.AL (f':=[(86,.buf 2 1 1 (some 1)),(77,.map 0),(66,an 2 ss e8),(67,aa ss.length),(68,aa k2),(17,.ip [ab co.part,ab co.owner,aa co.day,aa co.am]),(15,.map 0),(1,an 5 ws bJ),(2,an 2 l ae),(4,.ip (an 3 c ao::aC dmg)),(49,an 4 costs c8),(50,aa costs.length),(51,aa k)]) (S':=[bu ij aa m2,.gone,.cells [an 3 [(⟨pt,co.owner,am⟩:Xf)] bC]]) 1 rfl f7 ⟨.inl rfl,zj⟩ ⟨.inr ⟨by decide,.inl rfl⟩,.inl rfl,.inr ⟨by decide,.inr ⟨_,_,rfl,rfl,.cons (.buf rfl zr (ad _)) .nil⟩⟩,trivial⟩) ?_;refine oZ [(86,an 1 [[(⟨pt,co.owner,am⟩:Xf)]] ve),(77,.map 0),(66,an 2 ss e8),(67,aa ss.length),(68,aa k2),(17,.ip [ab co.part,ab co.owner,aa co.day,aa co.am]),(15,.map 0),(1,an 5 ws bJ),(2,an 2 l ae),(4,.ip (an 3 c ao::aC dmg)),(49,an 4 costs c8),(50,aa costs.length),(51,aa k)] 2 rfl ⟨.inr (.buf rfl zr (ad _)),zj⟩<|oA [(86,an 1 [[(⟨pt,co.owner,am⟩:Xf)]] ve),(77,.map 0),(66,an 2 ss e8),(67,aa ss.length),(68,aa k2),(17,.ip [ab co.part,ab co.owner,aa co.day,aa co.am]),(15,.map 0),(1,an 5 ws bJ),(2,an 2 l ae),(4,.ip (an 3 c ao::aC dmg)),(49,an 4 costs c8),(50,aa costs.length),(51,aa k)] [bu ij aa m2] zH ?_;refine zS [0] (cA @lh @WT @Ra) hadd ?_;refine(zR)<|(aA (zi hlt2 hlen2)) ?_;refine zX hlt2 (bK hnext2) (by rw[hnext2];exact(hall2.add (t:=⟨pt,co.owner,am⟩) (.inl rfl) (by show -1000000000000<=am/\am<=1000000000000;omega)).mono gt)
def get_of_mem:∀{m:cV} {e:Pr×Int},(m.map (·.1)).Nodup->e∈m->getM 0 e.1 m=e.2
 | [],_,_,h=>by cases h
 | a::m,e,hn,h=>by
  rw[b7,f4] at hn;rw[getM]
  rcases rt h with rfl | h
  ·rw[t8 rfl]
  ·rw[ul λk=>hn.1 (by rw[<-k];exact f8 h)];exact get_of_mem hn.2 h
def B4{k:Pr}:∀{m:cV},getM 0 k m≠0->(k,getM 0 k m)∈m
 | [],h=>t7 rfl h
 | a::m,h=>by
  rw[getM] at h ⊢;split at h
  ·rename_i e;rw[t8 e,e];exact bd
  ·rename_i e;rw[ul e];exact bc _ (B4 h)
def add_get{own:List Nat}{k:Pr}{y:Sh}:getM 0 k (kK 1 m ⟨y.pt,own,y.am⟩)=getM 0 k m+if y.pt=k.1/\own=k.2 then y.am else 0:=by
 unfold kK;rw[di];split
 ·rename_i e;subst e;rw[t8 ⟨rfl,rfl⟩];show _+1*y.am=_;omega
 ·rename_i e;rw[ul λh=>e (by cases k;rw[h.1,h.2])];omega
def EK{own:List Nat}{k:Pr}:∀{ss:List Sh} {m:cV},ss.Pairwise (λa b=>fZ a.pt b.pt=true)->getM 0 k (fj ss own m)=getM 0 k m+if own=k.2/\k.1≠own then kn ss k.1 else 0
 | [],m,_=>by
  show getM 0 k m=_;have:kn [] k.1=0:=rfl;rw[this];split<;>omega
 | y::ss,m,h=>by
  rw[List.pairwise_cons] at h;have ih:=λm=>EK (own:=own) (k:=k) (ss:=ss) (m:=m) h.2
  have hno:y.pt=k.1->kn ss k.1=0:=λe=>by
   have:∀ss:List Sh,(∀s∈ss,fZ y.pt s.pt=true)->kn ss k.1=0:=λss=>by
    induction ss with
    | nil=>intro _;rfl
    | cons s ss ih=>
     intro h;have:=h s bd;rw[qx,ul λe2=>by rw[e2,e,dz] at this;cases this];exact ih λx hx=>h x (bc _ hx)
   exact this ss h.1
  show getM 0 k (fj ss own (if y.pt=own then m else kK 1 m ⟨y.pt,own,y.am⟩))=_;rw[ih,qx];by_cases e1:y.pt=own
  ·rw[t8 e1];by_cases e2:own=k.2/\k.1≠own
   ·rw[t8 e2,t8 e2,ul λe=>e2.2 (by rw[<-e,e1])]
   ·rw[ul e2,ul e2]
  ·rw[ul e1,add_get];by_cases e2:own=k.2/\k.1≠own
   ·rw[t8 e2,t8 e2];by_cases e3:y.pt=k.1
    ·rw[t8 ⟨e3,e2.1⟩,t8 e3,hno e3];omega
    ·rw[ul λe=>e3 e.1,ul e3];omega
   ·rw[ul e2,ul e2];by_cases e3:y.pt=k.1/\own=k.2
    ·exact t7 ⟨e3.2,by rw[<-e3.1];exact e1⟩ e2
    ·rw[ul e3];omega
def Jm{c:List aF}{dmg:aX}{ws:List Wy}{l less:List aN}{k n:Nat}{p:Pr}(L:xe l less k n)(hlen:l.length<20)(hf:(pC c less).2=0):∀{costs:List Co} {m m2:cV},getM 0 p m<=getM 0 p m2->getM 0 p (gk c dmg ws l costs m)<=getM 0 p (gk c dmg ws less costs m2)
 | [],_,_,h=>h
 | co::costs,m,m2,h=>by
  have one:∀(l:List aN) (m:cV),getM 0 p (if (cP c dmg ws l co).2.2=0 then fj (cP c dmg ws l co).1 co.owner m else m)=getM 0 p m+if co.owner=p.2/\p.1≠co.owner then tV c dmg ws l co p.1 else 0:=λl m=>by
   unfold tV;split
   ·rw[EK (rK c dmg ws l co).WG]
   ·split<;>omega
  refine Jm L hlen hf (costs:=costs) ?_;rw[one,one];split
  ·rename_i e;have:=Rb (c:=c) (dmg:=dmg) (ws:=ws) (co:=co) L hlen hf e.2;omega
  ·omega
def Fb(hn:(m.map (·.1)).Nodup)(h0:(dB m).2=0){t:Xf}:t∈(dB m).1↔0<t.am/\t.am=getM 0 (t.fr,t.to) m:=by
 unfold dB at h0 ⊢;split at h0
 ·cases h0
 rename_i hb;rw[ul hb];show t∈gX (ja m)↔_;rw[(eQ _).mem_iff];unfold ja;rw[mem_map];constructor
 ·rintro⟨e,he,rfl⟩;obtain⟨h1,h2⟩:=mem_filter.1 he;exact⟨ww h2,(get_of_mem hn h1).symm⟩
 ·rintro⟨h1,h2⟩;exact⟨((t.fr,t.to),t.am),mem_filter.2 ⟨by rw[h2];exact B4 gt,ut h1⟩,rfl⟩
def SJ{c:List aF}{dmg:aX}{ws:List Wy}{l less:List aN}{k n:Nat}{costs:List Co}(L:xe l less k n)(hlen:l.length<20)(hf:(pC c less).2=0)(h1:(kC c dmg ws l costs).2=0)(h2:(kC c dmg ws less costs).2=0):
 ∀t∈(kC c dmg ws l costs).1,∃u∈(kC c dmg ws less costs).1,u.fr=t.fr/\u.to=t.to/\t.am<=u.am:=by
 unfold kC at h1 h2 ⊢;split at h1
 ·cases h1
 rename_i b1;rw[ul b1];split at h2
 ·cases h2
 rename_i b2;rw[ul b2];intro t ht;obtain⟨t1,t2⟩:=(Fb (ry (m:=[]) b8) h1).1 ht;have hle:=Jm (dmg:=dmg) (ws:=ws) (p:=(t.fr,t.to)) L hlen hf (costs:=costs) (m:=[]) (m2:=[]) (cd _);refine⟨⟨t.fr,t.to,getM 0 (t.fr,t.to) (gk c dmg ws less costs [])⟩,(Fb (ry (m:=[]) b8) h2).2 ⟨?_,rfl⟩,rfl,rfl,?_⟩
 ·show 0<getM 0 _ _;omega
 ·show t.am<=getM 0 _ _;omega
end Go.Proofs
namespace Go.Ev
def T8{P:Program}{t:TypeId}{xs ys:List AV}{b:Bool}(h:cW P .eql t (.agg xs) (.agg ys)=some (.bool b)):cW P .neq t (.agg xs) (.agg ys)=some (.bool (!b)):=by
 change cond (P.eqGuardType P.depth t) none ((mL P 8 t (.agg xs) (.agg ys)).map AV.bool)=_ at h;show cond (P.eqGuardType P.depth t) none ((mL P 8 t (.agg xs) (.agg ys)).map λb=>AV.bool (!b))=_
 revert h
 cases P.eqGuardType P.depth t
 ·cases mL P 8 t (.agg xs) (.agg ys)
  ·intro h;cases h
  ·intro h;injection h with h;injection h with h;subst h;rfl
 ·intro h;cases h
end Go.Ev
namespace Go.Proofs
open Go.Ev
set_option maxRecDepth 100000
def Xf.av(t:Xf):List AV:=[.str t.fr,.str t.to,.int .i64 t.am]
def Xf.eq(a b:Xf):iM gN a.av b.av=decide (a=b):=by
 obtain⟨a1,a2,a3⟩:=a;obtain⟨b1,b2,b3⟩:=b;simp only[Xf.av,iM,gN,BQ,Bp,nT,c4,ey,Xf.mk.injEq,hP]
def Qt(a b:Xf):cW prog .neq 47 (.agg [.str a.fr,.str a.to,.int .i64 a.am]) (.agg [.str b.fr,.str b.to,.int .i64 b.am])=some (.bool (!(decide (a=b)))):=
 T8 (HZ (ks:=[.s,.s,.i .i64]) zW zW (by simp only[az,m6]) rfl rfl (Xf.eq a b))
def MR(a b:List Xf)(ha:a.length<=1000000):PC prog 10 [an 3 a bC,an 3 b bC] (·=au (decide (a=b))):=by
 refine pB 26 Tryz.func10 ?_;refine(zV) ?_;cases g:decide ((a.length:Int)=b.length)
 ·exact(aA g)<|(cN)<|zo [.tmp 4] (hq:=by rw[un (λh=>wt g (by rw[h]))])
 refine(aA g)<|(jG) ?_
 have hl:a.length=b.length:=ofNat.inj (ww g);refine(zs) ?_;refine zL a (λk=>a.take k=b.take k) (λk=>[(0,an 3 a bC),(1,an 3 b bC),(5,aa k)]) (λk=>[]) zH zp ?_;intro k hk hall;by_cases hlt:k<a.length;rotate_left
 ·obtain rfl:k=a.length:=by omega
  rw[ax,hl,ax] at hall
  exact(aA (show decide ((a.length:Int)<(a.length:Int))=false by simp))<|(fC)<|(zV)<|zo [.tmp 4] (hq:=by rw[ut hall])
 have hd:=show decide ((k:Int)<(a.length:Int))=true by simp only[wp];omega
 obtain⟨x,hx⟩:∃x,a[k]?=some x:=⟨a[k],jp hlt⟩
 have hlt2:k<b.length:=by omega
 obtain⟨y,hy⟩:∃y,b[k]?=some y:=⟨b[k],jp hlt2⟩
 refine(aA hd)<|(gJ) ?_
 have hn:=Qt x y;refine(zs) ?_;refine uW [0,0,3,7,0,0,48,112,255] ?_;cases he:decide (x=y)
 ·rw[he] at hn
  exact(tT (sa hlt hlt2 (aH (e:=3) (enc:=bC) ce hx) (aH (e:=3) (enc:=bC) ce hy) @bC.eq_1 hn))<|(zM)<|(cN)<|zo [.tmp 4] (hq:=by rw[un (λh=>by subst h;rw[hx] at hy;exact wt he (Option.some.inj hy))])
 ·rw[he] at hn
  refine(tT (sa hlt hlt2 (aH (e:=3) (enc:=bC) ce hx) (aH (e:=3) (enc:=bC) ce hy) @bC.eq_1 hn))<|(zM)<|(zN)<|(aA (zi hlt ha)) ?_;refine zX hlt zH (by rw[bz hx,bz hy,hall,ww he])
def Dl(t:Xf):Bool:=!(cB t.fr)||(!(cB t.to)||(decide (t.fr=t.to)||(decide (t.am<0)||decide (1000000000000<t.am))))
structure Xf.fits (t:Xf):Prop where
 f:t.fr.length<=1000000
 fb:∀b∈t.fr,b<256
 g:t.to.length<=1000000
 gb:∀b∈t.to,b<256
def Fp(t:Xf)(ht:t.fits):PC prog 24 ([]++[.ag (bC t)]++[]) (·=au (Dl t)):=by
 refine pB 30 Tryz.func24 ?_;have h1:=pR t.fr ht.f ht.fb;have h2:=pR t.to ht.g ht.gb;unfold Dl;obtain⟨fr,to,am⟩:=t;simp only at h1 h2 ⊢
 refine(aA @bC.eq_1)<|(zC)<|(zK h1) ?_
 cases e1:cB fr
 ·exact(zR)<|zo [.tmp 2]
 refine(zQ)<|(zK h2) ?_
 cases e2:cB to
 ·exact(zR)<|zo [.tmp 2]
 cases e3:decide (fr=to)
 ·cases e4:decide (am<0)
  ·exact(cO (br e3 e4))<|zo [.tmp 2]
  ·exact(cO (br e3 e4))<|zo [.tmp 2]
 ·exact(cO e3)<|zo [.tmp 2]
open Go.Proofs.Tryz renaming func57 -> vaa in
open Go.Ev renaming Sn -> vab in
open Go.Proofs renaming bC -> vac in
def MA{l:List (Xf)}(p:Xf->Bool){fid:FuncId}{first cap:List SV}(hlen:l.length<=1000000)(hp:∀x∈l,PC prog fid ((first++[.ag (bC x)])++cap) (·=au (p x)))(hg:cg first=true/\cg cap=true):PC prog 57 [an 3 l bC,.fn fid first cap] (·=aa (kg p l)):=by
 have vad:=@bC.eq_1;exact Br
def CL{l:List (Xf)}(p:Xf->Bool){fid:FuncId}{first cap:List SV}(hlen:l.length<=1000000)(hp:∀x∈l,PC prog fid ((first++[.ag (bC x)])++cap) (·=au (p x)))(hg:cg first=true/\cg cap=true):PC prog 26 [an 3 l bC,.fn fid first cap] (·=au (l.any p)):=by
 refine pB 9 Tryz.func26 ?_;exact(lJ)<|(zK (MA p hlen hp hg) (hwk:=.cons (Wk.sl _ _ _) (.cons (.fn (cS.refl hg.1) (cS.refl hg.2)) .nil)))<|(zR)<|zo [.tmp 4] (hq:=by rw[AM])
def pK(p:Pr):Pr:=(p.2,p.1)
def tQ(Xk:cV)(e:Pr×Int):cV:=bU (pK e.1) (getM 0 (pK e.1) (bU e.1 (getM 0 e.1 Xk+e.2) Xk)-e.2) (bU e.1 (getM 0 e.1 Xk+e.2) Xk)
def rV(l:cV):cV:=l.foldl tQ []
def PS(l:cV)(e:Pr×Int):rV (l++[e])=tQ (rV l) e:=by unfold rV;rw[List.foldl_append];rfl
def Dc(owed paid:List Xf):List Xf×Int:=if (owed.any Dl||paid.any Dl)=true then ([],1) else dB (rV (fQ (-1) (fQ 1 [] owed) paid))
def A7{n:Int}{B:Int}:∀{ts:List Xf} {m:cV},(n=1\/n = -1)->gr B m->(∀t∈ts,-1000000000000<=t.am/\t.am<=1000000000000)->gr (B+ts.length*1000000000000) (fQ n m ts)
 | [],m,_,h,_=>h.mono f5
 | t::ts,m,hn,h,ha=>by
  have h1:=h.add hn (ha t bd);have:=A7 (ts:=ts) hn h1 λx hx=>ha x (bc _ hx);refine gr.mono this ?_;rw[i7];omega
def KI{n:Int}{ts:List Xf}(hn:n=1\/n = -1)(hl:ts.length<=1000)(ha:∀t∈ts,-1000000000000<=t.am/\t.am<=1000000000000):gr 1000000000000000 (fQ n [] ts):=
 (A7 (B:=0) hn (λq=>⟨cd _,cd _⟩) ha).mono gt
def xl{n:Int}:∀{ts:List Xf} {m:cV},(m.map (·.1)).Nodup->((fQ n m ts).map (·.1)).Nodup
 | [],_,h=>h
 | t::ts,m,h=>xl (ts:=ts) (m:=kK n m t) (sG h)
def A6(n:Int):∀(ts:List Xf) (m:cV),(fQ n m ts).length<=m.length+ts.length
 | [],m=>by unfold fQ;simp
 | t::ts,m=>by
  have h1:=A6 n ts (kK n m t);have h2:(kK n m t).length<=m.length+1:=A1 m;have e:fQ n m (t::ts)=fQ n (kK n m t) ts:=rfl;rw[e,i7];omega
def B8:∀(l:cV) (m:cV),(m.map (·.1)).Nodup->((l.foldl tQ m).map (·.1)).Nodup
 | [],_,h=>h
 | e::l,m,h=>B8 l (tQ m e) (sG (sG h))
def x8(l:cV):((rV l).map (·.1)).Nodup:=B8 l [] b8
def EE:∀(l:cV) (m:cV),(l.foldl tQ m).length<=m.length+2*l.length
 | [],m=>by simp
 | e::l,m=>by
  have h1:=EE l (tQ m e)
  have h2:(tQ m e).length<=m.length+2:=by
   unfold tQ;have a:=A1 (k:=pK e.1) (v:=getM 0 (pK e.1) (bU e.1 (getM 0 e.1 m+e.2) m)-e.2) (bU e.1 (getM 0 e.1 m+e.2) m);have b:=A1 (k:=e.1) (v:=getM 0 e.1 m+e.2) m;omega
  rw[fy,i7];omega
def Si(l:cV):(rV l).length<=2*l.length:=by
 have:=EE l [];simp only[g9,cp] at this;exact this
def sq{m:cV}(hn:(m.map (·.1)).Nodup){e:Pr×Int}(he:e∈m):getM 0 e.1 m=e.2:=by
 induction m with
 | nil=>cases he
 | cons a m ih=>
  rw[b7,f4] at hn;rw[getM]
  rcases rt he with rfl | he'
  ·rw[t8 rfl]
  ·rw[ul (λh=>hn.1 (by rw[<-h];exact f8 he')),ih hn.2 he']
def gr.Xk{B n:Int}{m:cV}{p:Pr}(h:gr B m)(hn : -2000000000000000<=n/\n<=2000000000000000):gr (B+4000000000000000) (tQ m (p,n)):=by
 intro k;unfold tQ;simp only[di];have h1:=h k;have h2:=h p;have h3:=h (pK p);split
 ·split
  ·omega
  ·omega
 ·split<;>omega
def Ql(hsort:Ng)(hcong:∀(a b:cV),(a.map (·.1)).Nodup->a.Perm b->dB (rV a)=dB (rV b))(owed paid:List Xf)(ho:∀t∈owed,t.fits)(hp:∀t∈paid,t.fits)(hlo:owed.length<=1000)(hlp:paid.length<=1000):
 PC prog 9 [an 3 owed bC,an 3 paid bC] (·=OD (Dc owed paid)):=by
 refine pB 58 Tryz.func9 ?_;have c1:=CL (l:=owed) Dl (first:=[]) (cap:=[]) gt (λx hx=>Fp x (ho x hx)) ⟨rfl,rfl⟩;have c2:=CL (l:=paid) Dl (first:=[]) (cap:=[]) gt (λx hx=>Fp x (hp x hx)) ⟨rfl,rfl⟩
 refine(nP)<|(zC)<|(zK c1) ?_
 cases e1:owed.any Dl;rotate_left
 ·exact(zR)<|(cN)<|ji [.tmp 4,.tmp 5] (r:=.bB [.sl 0 3 [],aa 1]) (hw:=.bB (.cons (.nil _) (.cons (.a _) .nil))) (hq:=by rw[Dc,e1];rfl)
 refine(zQ)<|(zK c2) ?_
 cases e2:paid.any Dl;rotate_left
 ·exact(zR)<|(cN)<|ji [.tmp 4,.tmp 5] (r:=.bB [.sl 0 3 [],aa 1]) (hw:=.bB (.cons (.nil _) (.cons (.a _) .nil))) (hq:=by rw[Dc,e1,e2];rfl)
 refine(zR)<|(zN) ?_
 have hN:Dc owed paid=dB (rV (fQ (-1) (fQ 1 [] owed) paid)):=by rw[Dc,e1,e2];rfl
 rw[hN]
 have am:∀{l:List Xf},l.any Dl=false->∀t∈l,-1000000000000<=t.am/\t.am<=1000000000000:=by
  intro l h t ht;rw[List.any_eq_false] at h;have:=h t ht;unfold Dl at this;simp only[Bool.or_eq_true,wp,not_or] at this;omega
 have a1:=yp 1 (.inl rfl) [owed] [] (λq=>⟨by show -1000000000000000<=0;omega,by show(0:Int)<=_;omega⟩) (by show 1<=10;decide) (by
  intro ts hts;rw[rc hts]
  exact⟨hlo,am e1⟩)
 rw[show[owed].foldl (fQ 1) []=fQ 1 [] owed from rfl] at a1;have w1:gr 1000000000000000 (fQ 1 [] owed):=KI (.inl rfl) hlo (am e1)
 have a2:=yp (-1) (.inr rfl) [paid] (fQ 1 [] owed) w1 (by show 1<=10;decide) (by
  intro ts hts;rw[rc hts]
  exact⟨hlp,am e2⟩)
 rw[show[paid].foldl (fQ (-1)) (fQ 1 [] owed)=fQ (-1) (fQ 1 [] owed) paid from rfl] at a2
 refine zA [(0,an 3 owed bC),(1,an 3 paid bC)] [] zH<|(lJ) ?_;refine oZ [(22,an 1 [owed] ve),(20,.map 0),(7,.map 0),(0,an 3 owed bC),(1,an 3 paid bC)] 1 rfl ⟨.inr (.buf rfl zr (ad _)),zj⟩<|oA [(22,an 1 [owed] ve),(20,.map 0),(7,.map 0),(0,an 3 owed bC),(1,an 3 paid bC)] [bu ij aa []] (bK (br @lh (show SO.map [] [] none=bu ij aa [] from rfl))) ?_;refine zS [0] (cA @lh @WT @Ra) a1 ?_;refine(zR)<|zA [(7,.map 0),(1,an 3 paid bC)] [bu ij aa (fQ 1 [] owed)] (bK @lh)<|(zC) ?_;refine oZ [(26,an 1 [paid] ve),(24,.map 0),(7,.map 0)] 1 rfl ⟨.inr (.buf rfl zr (ad _)),zj⟩<|oA [(26,an 1 [paid] ve),(24,.map 0),(7,.map 0)] [bu ij aa (fQ 1 [] owed)] (bK @lh) ?_;refine zS [0] (cA @lh @WT @Ra) a2 ?_;refine(zR) ?_
 have hk1:((fQ (-1) (fQ 1 [] owed) paid).map (·.1)).Nodup:=xl (xl b8)
 have hl1:(fQ (-1) (fQ 1 [] owed) paid).length<=2000:=by
  have h1:=A6 (-1) paid (fQ 1 [] owed);have h2:=A6 1 owed [];simp only[g9] at h2;omega
 have hw1:∀e∈fQ (-1) (fQ 1 [] owed) paid,-2000000000000000<=e.2/\e.2<=2000000000000000:=by
  intro e he;have h:=(A7 (n := -1) (.inr rfl) w1 (am e2)) e.1;rw[sq hk1 he] at h;omega
 generalize fQ (-1) (fQ 1 [] owed) paid=al at hk1 hl1 hw1 ⊢
 refine zZ [(7,pD ij aa al)] 0 rfl ⟨.inr (pn (λ_=>rfl) rfl),trivial⟩<|zA [(7,pD ij aa al)] [] zH<|(zV)<|zA [(8,.map 0),(7,pD ij aa al)] [bu ij aa []] (bK (show SO.map [] [] none=bu ij aa [] from rfl))<|(zC) ?_;refine aJ.Yr (ks:=al.map λe=>ij e.1) (vs:=al.map λe=>aa e.2) ge rfl rfl ge rfl (by simp only[az]) ?_
 intro bs c hbs;refine(cO @lh) ?_
 (repeat refine aD.seq ?_)
 refine aD.block (aD.loop (λm st=>∃pos:List Nat,pos.Nodup/\(∀j∈pos,j<al.length)/\gr (pos.length*4000000000000000) (rV (bq al pos))/\al.length-pos.length=m/\st=⟨[(8,.map 0),(30,.ptr 1 0)],58,[bu ij aa (rV (bq al pos)),.qj (al.map λe=>ij e.1) (al.map λe=>aa e.2) bs c pos],[]⟩) al.length (bK @lh) ⟨[],b8,λj h=>(bI h).elim,λq=>⟨cd _,cd _⟩,by simp,rfl⟩ (by rintro m st ⟨_,_,_,_,_,rfl⟩;rfl) ?_);rintro m st ⟨pos,hpn,hpl,hwi,rfl,rfl⟩;refine(zC) ?_;refine aJ.Yn ge rfl rfl ge rfl rfl (λj hj=>by rw[ap];exact hpl j hj) ?_ ?_;rotate_left
 ·intro j hj hjn;rw[ap] at hj;obtain⟨e,he⟩:∃e,al[j]?=some e:=⟨al[j],jp hj⟩;obtain⟨q1,q2,q3⟩:=qA hpn hpl hj hjn;have hsn:=mA al pos he
  refine(zR)<|(gJ)<|(zC) ?_;refine aJ.Yk (k:=ij e.1) (v:=aa e.2) ge rfl rfl ge rfl rfl (by rw[bh,he];rfl) (by rw[bh,he];rfl) ?_;refine(cO (cA @TA @lh @BS)) ?_
  have hmeas:al.length-(pos++[j]).length<al.length-pos.length:=by rw[li];simp only[i7,g9];omega
  have hpos:pos.length<=2000:=by omega
  have hae:=hw1 e (ac he);obtain⟨N,hNN⟩:∃N,N=rV (bq al pos):=⟨_,rfl⟩
  have hnext:rV (bq al (pos++[j]))=tQ N e:=by rw[hsn,PS,<-hNN]
  rw[<-hNN] at hwi ⊢;clear hNN;obtain⟨⟨fr,to⟩,n⟩:=e;simp only at hae
  have hbn:∀q,-8000000000000000000<=getM 0 q N/\getM 0 q N<=8000000000000000000:=λq=>by have:=hwi q;omega
  refine zA [(9,.ptr 2 0),(10,aa n),(8,.map 0),(30,.ptr 1 0)] [bu ij aa N,.qj (al.map λe=>ij e.1) (al.map λe=>aa e.2) bs c (pos++[j]),.cells [ab fr,ab to]] (bK (br @lh @BS)) ?_;obtain⟨g,hg⟩:∃g,g=getM 0 (fr,to) N:=⟨_,rfl⟩;have hgb:=hbn (fr,to);rw[<-hg] at hgb;have hadd : -9223372036854775808<=g+n/\g+n<=9223372036854775807:=⟨by omega,by omega⟩;refine aD.born 0 rfl λbs0 c0 hbl=>?_;rw[ap] at hbl;change aD _ _ _ ⟨_,_,[jP ij aa N (some (bs0,c0)),.qj (al.map λe=>ij e.1) (al.map λe=>aa e.2) bs c (pos++[j]),.cells [ab fr,ab to]],_⟩ _;obtain⟨b,hb⟩:∃b:List Nat×Nat,b=(bs0,c0):=⟨_,rfl⟩;rw[<-hb]
  have hbl:b.1.length=N.length:=by rw[hb];exact hbl
  clear hb;obtain⟨sb,hsb⟩:∃sb,sb=pQ b (fr,to) N:=⟨_,rfl⟩
  (repeat refine aD.seq ?_)
  refine aD.y9 7 12 (λL=>⟨(36,vo L 0 (.map 0))::(37,vo L 1 (.ag [ab fr,ab to]))::(38,vo L 2 (aa g))::(39,vo L 3 (aa n))::(40,vo L 4 (aa (g+n)))::(41,vo L 5 (.bB [aa g,.a (.int .i64 (ofNat sb))]))::(42,vo L 6 (.a (.int .i64 (ofNat sb))))::[(9,.ptr 2 0),(10,aa n),(8,.map 0),(30,.ptr 1 0)],58,[io L 5 (jP ij aa (gE 0 (fr,to) N) (some (jF b (fr,to) N))) (jP ij aa N (some b)),.qj (al.map λe=>ij e.1) (al.map λe=>aa e.2) bs c (pos++[j]),.cells [ab fr,ab to]],[]⟩) rfl zW ge gc zW (Fg.less (by (simp only[cG,bG,dU,↓reduceIte,aj,an,nC,gy (L:=λ_=>False) (λh=>h)])<;>(repeat' apply bi)<;>first | rfl | trivial) (by (simp only[cG,bG,or_true,true_or,an,nC,gy (L:=λ_=>False) (λh=>h)])<;>(repeat' apply bi)<;>first | exact .inr rfl | exact .inl rfl | trivial)) (λL=>rfl) ?_ ?_
  ·rintro L i o him hC hr
   rcases i with _ | _ | _ | _ | _ | _ | _ | i
   rotate_right
   ·exact t7 him gt
   ·cases hr.gw;refine(zR) ?_;exact(bK (br @aT @bO))
   ·cases hr.gw;refine(zR) ?_;exact(bK (br @aT @bO))
   ·cases hr.gw;have d0:L 0:=hr.dep ⟨0,.data⟩ f5 rfl;have d1:L 1:=hr.dep ⟨1,.data⟩ f5 rfl
    have hlk:eJ prog [io L 5 (jP ij aa (gE 0 (fr,to) N) (some (jF b (fr,to) N))) (jP ij aa N (some b)),.qj (al.map λe=>ij e.1) (al.map λe=>aa e.2) bs c (pos++[j]),.cells [ab fr,ab to]] 84 (.map 0) (.ag [ab fr,ab to]) false=some (aa g):=by
     by_cases h:L 5
     ·rw[pF h,l8 _ _ rfl,uA,<-hg]
     ·rw[gy h,l8 _ _ rfl,<-hg]
    refine(cO (cA (ee d0) (ee d1) hlk)) ?_;exact(bK (jB @aT @bO (ee d0) (ee d1)))
   ·cases hr.gw;refine(zR) ?_;exact(bK (br @aT @bO))
   ·cases hr.gw;have d2:L 2:=hr.dep ⟨2,.data⟩ f5 rfl;have d3:L 3:=hr.dep ⟨3,.data⟩ f5 rfl;refine(cO (cA (ee d2) (ee d3) (xn hadd))) ?_;exact(bK (jB @aT @bO (ee d2) (ee d3)))
   ·cases hr.gw;have d0:L 0:=hr.dep ⟨0,.data⟩ f5 rfl;have d1:L 1:=hr.dep ⟨1,.data⟩ f5 rfl;have h12:¬L 5:=hr.new;refine aJ.YH (kv:=ij) (uv:=aa) (l:=N) (k:=((fr,to):Pr)) (u0:=0) (z:=.int .i64 0) (kt:=98) (et:=3) (oo:=0) (b:=b) (ky:=.ag [ab fr,ab to]) ge rfl rfl ge (fF (ee d0)) (fF (ee d1)) rfl (by rw[gy h12];rfl) (by simp only[az]) wM (by simp only[az]) rfl ?_;refine .nil ?_;rw[<-hg,<-hsb];exact(bK (cA @aT @bO @set_cons_zero.{0}))
   ·cases hr.gw;have d5:L 5:=hr.dep ⟨5,.data⟩ f5 rfl;refine(cO (ee d5)) ?_;exact(bK (cA @aT @bO (ee d5)))
  have vv:∀i,i<7->∀v:SV,vo (λj=>j<7) i v=v:=λi h v=>dC h;have va:=vv 0 gc;have vs:=vv 6 gc;have vy:=vv 4 gc;have ii:∀x y:SO,io (λj=>j<7) 5 x y=x:=λx y=>pF gc;change aJ _ _ _ _ _ _;refine aJ.YD (kv:=ij) (uv:=aa) (l:=N) (k:=((fr,to):Pr)) (u0:=0) (oo:=0) (b:=jF b (fr,to) N) (sb:=sb) (u:=g+n) ge rfl rfl ge (fF va) (fF vs) (fF vy) (by rw[ii];rfl) (by rw[hsb];exact ym hbl) ?_;refine .nil ?_;change aD _ _ _ _ _;refine zA [(9,.ptr 2 0),(10,aa n),(8,.map 0),(30,.ptr 1 0)] [bu ij aa (bU (fr,to) (g+n) N),.qj (al.map λe=>ij e.1) (al.map λe=>aa e.2) bs c (pos++[j]),.cells [ab fr,ab to]] (bK @set_cons_zero.{0}) ?_;obtain⟨N2,hN2⟩:∃N2,N2=bU (fr,to) (g+n) N:=⟨_,rfl⟩;rw[<-hN2];obtain⟨g2,hg2⟩:∃g2,g2=getM 0 (to,fr) N2:=⟨_,rfl⟩
  have hg2b : -8100000000000000000<=g2/\g2<=8100000000000000000:=by rw[hg2,hN2,di];have:=hbn (to,fr);split<;>omega
  have hsub : -9223372036854775808<=g2-n/\g2-n<=9223372036854775807:=⟨by omega,by omega⟩
  have hnet:tQ N ((fr,to),n)=bU (to,fr) (g2-n) N2:=by unfold tQ pK;rw[<-hg,<-hN2,<-hg2]
  refine aD.born 0 rfl λbs0 c0 hbl=>?_;rw[ap] at hbl;change aD _ _ _ ⟨_,_,[jP ij aa N2 (some (bs0,c0)),.qj (al.map λe=>ij e.1) (al.map λe=>aa e.2) bs c (pos++[j]),.cells [ab fr,ab to]],_⟩ _;obtain⟨b,hb⟩:∃b:List Nat×Nat,b=(bs0,c0):=⟨_,rfl⟩;rw[<-hb]
  have hbl:b.1.length=N2.length:=by rw[hb];exact hbl
  clear hb;obtain⟨sb,hsb⟩:∃sb,sb=pQ b (to,fr) N2:=⟨_,rfl⟩
  (repeat refine aD.seq ?_)
  refine aD.y9 11 16 (λL=>⟨(43,vo L 0 (.map 0))::(44,vo L 1 (.ptr 2 1))::(45,vo L 2 (ab to))::(46,vo L 3 (.ptr 2 0))::(47,vo L 4 (ab fr))::(48,vo L 5 (.ag [ab to,ab fr]))::(49,vo L 6 (aa g2))::(50,vo L 7 (aa n))::(51,vo L 8 (aa (g2-n)))::(52,vo L 9 (.bB [aa g2,.a (.int .i64 (ofNat sb))]))::(53,vo L 10 (.a (.int .i64 (ofNat sb))))::[(9,.ptr 2 0),(10,aa n),(8,.map 0),(30,.ptr 1 0)],58,[io L 9 (jP ij aa (gE 0 (to,fr) N2) (some (jF b (to,fr) N2))) (jP ij aa N2 (some b)),.qj (al.map λe=>ij e.1) (al.map λe=>aa e.2) bs c (pos++[j]),.cells [ab fr,ab to]],[]⟩) rfl zW ge gc zW (Fg.less (by (simp only[cG,bG,dU,↓reduceIte,aj,an,nC,gy (L:=λ_=>False) (λh=>h)])<;>(repeat' apply bi)<;>first | rfl | trivial) (by (simp only[cG,bG,or_true,true_or,an,nC,gy (L:=λ_=>False) (λh=>h)])<;>(repeat' apply bi)<;>first | exact .inr rfl | exact .inl rfl | trivial)) (λL=>rfl) ?_ ?_
  ·rintro L i o him hC hr
   rcases i with _ | _ | _ | _ | _ | _ | _ | _ | _ | _ | _ | i
   rotate_right
   ·exact t7 him gt
   ·cases hr.gw;refine(zR) ?_;exact(bK (br @aT @bO))
   ·cases hr.gw;refine(zR) ?_;exact(bK (br @aT @bO))
   ·cases hr.gw;have d1:L 1:=hr.dep ⟨1,.data⟩ f5 rfl;refine(cO (ee d1)) ?_;exact(bK (cA @aT @bO (ee d1)))
   ·cases hr.gw;refine(zR) ?_;exact(bK (br @aT @bO))
   ·cases hr.gw;have d3:L 3:=hr.dep ⟨3,.data⟩ f5 rfl;refine(cO (ee d3)) ?_;exact(bK (cA @aT @bO (ee d3)))
   ·cases hr.gw;have d2:L 2:=hr.dep ⟨2,.data⟩ f5 rfl;have d4:L 4:=hr.dep ⟨4,.data⟩ f5 rfl;refine(cO (br (ee d2) (ee d4))) ?_;exact(bK (jB @aT @bO (ee d2) (ee d4)))
   ·cases hr.gw;have d0:L 0:=hr.dep ⟨0,.data⟩ f5 rfl;have d5:L 5:=hr.dep ⟨5,.data⟩ f5 rfl
    have hlk:eJ prog [io L 9 (jP ij aa (gE 0 (to,fr) N2) (some (jF b (to,fr) N2))) (jP ij aa N2 (some b)),.qj (al.map λe=>ij e.1) (al.map λe=>aa e.2) bs c (pos++[j]),.cells [ab fr,ab to]] 84 (.map 0) (.ag [ab to,ab fr]) false=some (aa g2):=by
     by_cases h:L 9
     ·rw[pF h,l8 _ _ rfl,uA,<-hg2]
     ·rw[gy h,l8 _ _ rfl,<-hg2]
    refine(cO (cA (ee d0) (ee d5) hlk)) ?_;exact(bK (jB @aT @bO (ee d0) (ee d5)))
   ·cases hr.gw;refine(zR) ?_;exact(bK (br @aT @bO))
   ·cases hr.gw;have d6:L 6:=hr.dep ⟨6,.data⟩ f5 rfl;have d7:L 7:=hr.dep ⟨7,.data⟩ f5 rfl;refine(cO (cA (ee d6) (ee d7) (TT hsub))) ?_;exact(bK (jB @aT @bO (ee d6) (ee d7)))
   ·cases hr.gw;have d0:L 0:=hr.dep ⟨0,.data⟩ f5 rfl;have d5:L 5:=hr.dep ⟨5,.data⟩ f5 rfl;have h12:¬L 9:=hr.new;refine aJ.YH (kv:=ij) (uv:=aa) (l:=N2) (k:=((to,fr):Pr)) (u0:=0) (z:=.int .i64 0) (kt:=98) (et:=3) (oo:=0) (b:=b) (ky:=.ag [ab to,ab fr]) ge rfl rfl ge (fF (ee d0)) (fF (ee d5)) rfl (by rw[gy h12];rfl) (by simp only[az]) wM (by simp only[az]) rfl ?_;refine .nil ?_;rw[<-hg2,<-hsb];exact(bK (cA @aT @bO @set_cons_zero.{0}))
   ·cases hr.gw;have d9:L 9:=hr.dep ⟨9,.data⟩ f5 rfl;refine(cO (ee d9)) ?_;exact(bK (cA @aT @bO (ee d9)))
  have vv:∀i,i<11->∀v:SV,vo (λj=>j<11) i v=v:=λi h v=>dC h;have va:=vv 0 gc;have vs:=vv 10 gc;have vy:=vv 8 gc;have ii:∀x y:SO,io (λj=>j<11) 9 x y=x:=λx y=>pF gc;change aJ _ _ _ _ _ _;refine aJ.YD (kv:=ij) (uv:=aa) (l:=N2) (k:=((to,fr):Pr)) (u0:=0) (oo:=0) (b:=jF b (to,fr) N2) (sb:=sb) (u:=g2-n) ge rfl rfl ge (fF va) (fF vs) (fF vy) (by rw[ii];rfl) (by rw[hsb];exact ym hbl) ?_;refine .nil ?_;show A3 _ _ _ _ _ _ _;rw[A3];exact⟨al.length-(pos++[j]).length,_,hmeas,(bK (cA @set_cons_zero.{0} hnext hnet)),pos++[j],q1,q2,(by rw[hnext,li];simp only[i7,g9];exact(hwi.Xk hae).mono gt),rfl,rfl⟩
 intro hall;have hperm:(bq al pos).Perm al:=nX hpn hpl λj hj=>hall j (by rw[ap];exact hj)
 refine(zR)<|(fC) ?_
 simp only[gK,eI,cQ,cr,if_true];rw[<-hcong (bq al pos) al ((hperm.map (·.1)).nodup_iff.2 hk1) hperm];have hkn:=x8 (bq al pos)
 have hkl:(rV (bq al pos)).length<=100000:=by
  have h1:=Si (bq al pos);have h2:=hperm.length_eq;omega
 generalize rV (bq al pos)=M at hkn hkl ⊢
 have hgm:cg [pD ij aa M]=true:=by simp only[cg,pD,ni,fD (uv:=aa) (λ_=>rfl) M,ey]
 refine(zC) ?_;exact oZ [(54,pD ij aa M)] 0 rfl ⟨.inr (pn (λ_=>rfl) rfl),trivial⟩<|(zK (Aa hsort M hkn hkl) (hwk:=(cS.refl hgm)) (hfl:=.inr (cS.refl hgm)))<|(zR)<|ji [.tmp 4,.tmp 5] (r:=.bB [an 3 (dB M).1 bC,aa (dB M).2]) (hw:=.bB (.cons (.sl _ _ _) (.cons (.a _) .nil)))
open Go.Shelf
def yu:Go.Shelf.Ren:=⟨λ| 6=>52 | 10=>103 | 11=>104 | 12=>105 | 13=>106 | 14=>107 | 24=>153 | 25=>154 | 26=>155 | 27=>156 | 28=>157 | 29=>158 | 30=>159 | 31=>160 | 32=>161 | 33=>162 | 34=>205 | 35=>206 | 36=>207 | 37=>208 | 38=>209 | 39=>233 | n=>n,λ| 20=>20 | 26=>129 | 35=>201 | 0=>0 | 37=>203 | 3=>3 | 41=>207 | 44=>210 | 49=>257 | 51=>259 | 4=>4 | 54=>262 | 53=>261 | 58=>178 | 5=>5 | 9=>9 | 60=>301 | 64=>305 | 66=>324 | 67=>325 | 17=>17 | 32=>198 | 33=>199 | 82=>348 | 12=>12 | 75=>341 | 76=>342 | 77=>343 | 78=>344 | 79=>345 | 80=>346 | n=>n,λ| n=>n⟩
def wP:Go.Proofs.LaysGg.n6 prog yu:={
 mixed:=by kernel_rfl
 f6:=func52.trans (n9 some zW)
 f10:=Tryz.func103.trans (n9 some zW)
 f11:=Tryz.func104.trans (n9 some zW)
 f12:=Tryz.func105.trans (n9 some zW)
 f13:=Tryz.func106.trans (n9 some zW)
 f14:=Tryz.func107.trans (n9 some zW)
 f24:=Tryz.func153.trans (n9 some zW)
 f25:=Tryz.func154.trans (n9 some zW)
 f26:=Tryz.func155.trans (n9 some zW)
 f27:=Tryz.func156.trans (n9 some zW)
 f28:=Tryz.func157.trans (n9 some zW)
 f29:=Tryz.func158.trans (n9 some zW)
 f30:=Tryz.func159.trans (n9 some zW)
 f31:=Tryz.func160.trans (n9 some zW)
 f32:=Tryz.func161.trans (n9 some zW)
 f33:=Tryz.func162.trans (n9 some zW)
 f34:=Tryz.func205.trans (n9 some zW)
 f35:=Tryz.func206.trans (n9 some zW)
 f36:=Tryz.func207.trans (n9 some zW)
 f37:=Tryz.func208.trans (n9 some zW)
 f38:=Tryz.func209.trans (n9 some zW)
 f39:=Tryz.func233.trans (n9 some zW)
 t0:=Tryz.underlying0
 a0:=Tryz.isAgg0
 z0:=Tryz.sizeOf0
 v0:=Tryz.zeroValue0
 i0:=by kernel_rfl
 t3:=Tryz.underlying3
 a3:=Tryz.isAgg3
 z3:=Tryz.sizeOf3
 v3:=Tryz.zeroValue3
 i3:=by kernel_rfl
 t4:=hG
 a4:=Tryz.isAgg4
 z4:=Tryz.sizeOf4
 v4:=Tryz.zeroValue4
 i4:=by kernel_rfl
 t5:=Tryz.underlying5
 a5:=Tryz.isAgg5
 z5:=Tryz.sizeOf5
 v5:=Tryz.zeroValue5
 i5:=by kernel_rfl
 t9:=Tryz.underlying9
 a9:=Tryz.isAgg9
 z9:=Tryz.sizeOf9
 v9:=Tryz.zeroValue9
 i9:=by kernel_rfl
 t12:=Tryz.underlying12
 a12:=Tryz.isAgg12
 z12:=Tryz.sizeOf12
 v12:=Tryz.zeroValue12
 i12:=by kernel_rfl
 t17:=Tryz.underlying17
 a17:=Tryz.isAgg17
 z17:=Tryz.sizeOf17
 v17:=Tryz.zeroValue17
 i17:=by kernel_rfl
 t20:=Tryz.underlying20
 a20:=Tryz.isAgg20
 z20:=Tryz.sizeOf20
 v20:=Tryz.zeroValue20
 i20:=by kernel_rfl
 t26:=Tryz.underlying129
 a26:=Tryz.isAgg129
 z26:=Tryz.sizeOf129
 v26:=Tryz.zeroValue129
 i26:=by kernel_rfl
 t32:=Tryz.underlying198
 a32:=Tryz.isAgg198
 z32:=Tryz.sizeOf198
 v32:=Tryz.zeroValue198
 i32:=by kernel_rfl
 t33:=Tryz.underlying199
 a33:=Tryz.isAgg199
 z33:=Tryz.sizeOf199
 v33:=Tryz.zeroValue199
 i33:=by kernel_rfl
 t35:=Tryz.underlying201
 a35:=Tryz.isAgg201
 z35:=Tryz.sizeOf201
 v35:=Tryz.zeroValue201
 i35:=by kernel_rfl
 t37:=Tryz.underlying203
 a37:=Tryz.isAgg203
 z37:=Tryz.sizeOf203
 v37:=Tryz.zeroValue203
 i37:=by kernel_rfl
 t41:=Tryz.underlying207
 a41:=Tryz.isAgg207
 z41:=Tryz.sizeOf207
 v41:=Tryz.zeroValue207
 i41:=by kernel_rfl
 t44:=Tryz.underlying210
 a44:=Tryz.isAgg210
 z44:=Tryz.sizeOf210
 v44:=Tryz.zeroValue210
 i44:=by kernel_rfl
 t49:=Tryz.underlying257
 a49:=Tryz.isAgg257
 z49:=Tryz.sizeOf257
 v49:=Tryz.zeroValue257
 i49:=by kernel_rfl
 t51:=Tryz.underlying259
 a51:=Tryz.isAgg259
 z51:=Tryz.sizeOf259
 v51:=Tryz.zeroValue259
 i51:=by kernel_rfl
 t53:=Tryz.underlying261
 a53:=Tryz.isAgg261
 z53:=Tryz.sizeOf261
 v53:=Tryz.zeroValue261
 i53:=by kernel_rfl
 t54:=Tryz.underlying262
 a54:=Tryz.isAgg262
 z54:=Tryz.sizeOf262
 v54:=Tryz.zeroValue262
 i54:=by kernel_rfl
 t58:=Tryz.underlying178
 a58:=Tryz.isAgg178
 z58:=Tryz.sizeOf178
 v58:=Tryz.zeroValue178
 i58:=by kernel_rfl
 t60:=Tryz.underlying301
 a60:=Tryz.isAgg301
 z60:=Tryz.sizeOf301
 v60:=Tryz.zeroValue301
 i60:=by kernel_rfl
 t64:=Tryz.underlying305
 a64:=Tryz.isAgg305
 z64:=Tryz.sizeOf305
 v64:=Tryz.zeroValue305
 i64:=by kernel_rfl
 t66:=Tryz.underlying324
 a66:=Tryz.isAgg324
 z66:=Tryz.sizeOf324
 v66:=Tryz.zeroValue324
 i66:=by kernel_rfl
 t67:=Tryz.underlying325
 a67:=Tryz.isAgg325
 z67:=Tryz.sizeOf325
 v67:=Tryz.zeroValue325
 i67:=by kernel_rfl
 t75:=Tryz.underlying341
 a75:=Tryz.isAgg341
 z75:=Tryz.sizeOf341
 v75:=Tryz.zeroValue341
 i75:=by kernel_rfl
 t76:=Tryz.underlying342
 a76:=Tryz.isAgg342
 z76:=Tryz.sizeOf342
 v76:=Tryz.zeroValue342
 i76:=by kernel_rfl
 t77:=Tryz.underlying343
 a77:=Tryz.isAgg343
 z77:=Tryz.sizeOf343
 v77:=Tryz.zeroValue343
 i77:=by kernel_rfl
 t78:=Tryz.underlying344
 a78:=Tryz.isAgg344
 z78:=Tryz.sizeOf344
 v78:=Tryz.zeroValue344
 i78:=by kernel_rfl
 t79:=Tryz.underlying345
 a79:=Tryz.isAgg345
 z79:=Tryz.sizeOf345
 v79:=Tryz.zeroValue345
 i79:=by kernel_rfl
 t80:=Tryz.underlying346
 a80:=Tryz.isAgg346
 z80:=Tryz.sizeOf346
 v80:=Tryz.zeroValue346
 i80:=by kernel_rfl
 t82:=Tryz.underlying348
 a82:=Tryz.isAgg348
 z82:=Tryz.sizeOf348
 v82:=Tryz.zeroValue348
 i82:=by kernel_rfl }
open Go.Ev Go.RowKit
def Ym(a b c d:ByteArray):Bool:=Op.bytesLess a.toList c.toList||(a.toList==c.toList&&Op.bytesLess b.toList d.toList)
set_option maxRecDepth 100000 in
def MD(sZ off c Bs bo size:Nat)(W:World)(Gf Gt:Nat->ByteArray)(hs:W.cell? ⟨Bs,bo,none⟩=some (.slice (some ⟨sZ,off,none⟩) size c))
 (hc1:∀t,t<size->W.cell? ⟨sZ,off+t*3,none⟩=some (.string (Gf t))) (i j:Nat) (hi:i<size) (hj:j<size) (_hsz:size<4611686018427387904)
 (hl:Op.bytesLess (Gf i).toList (Gf j).toList=true):
 Calls prog 53 #[.int .i64 i,.int .i64 j,.pointer (some ⟨Bs,bo,none⟩)] W λe w'=>e=.returned (.bool true)/\∃q,w'=W.drewN q:=by
 have ci:=hc1 i hi;have cj:=hc1 j hj;clear hc1
 go_enter g8,hK
 go_wp2
 go_quiet (fail)
 go_wp2
 go_ret
 exact⟨rfl,nq,rfl⟩
set_option maxRecDepth 100000 in
def ME(sZ off c Bs bo size:Nat)(W:World)(Gf Gt:Nat->ByteArray)(hs:W.cell? ⟨Bs,bo,none⟩=some (.slice (some ⟨sZ,off,none⟩) size c))
 (hc1:∀t,t<size->W.cell? ⟨sZ,off+t*3,none⟩=some (.string (Gf t))) (i j:Nat) (hi:i<size) (hj:j<size) (_hsz:size<4611686018427387904)
 (hl:Op.bytesLess (Gf i).toList (Gf j).toList=false) (he:((Gf i).toList==(Gf j).toList)=false):
 Calls prog 53 #[.int .i64 i,.int .i64 j,.pointer (some ⟨Bs,bo,none⟩)] W λe w'=>e=.returned (.bool false)/\∃q,w'=W.drewN q:=by
 have ci:=hc1 i hi;have cj:=hc1 j hj;clear hc1
 go_enter g8,hK
 go_wp2
 go_quiet (fail)
 go_wp2
 go_ret
 exact⟨rfl,nq,rfl⟩
set_option maxRecDepth 100000 in
def MF(sZ off c Bs bo size:Nat)(W:World)(Gf Gt:Nat->ByteArray)(hs:W.cell? ⟨Bs,bo,none⟩=some (.slice (some ⟨sZ,off,none⟩) size c))
 (hc1:∀t,t<size->W.cell? ⟨sZ,off+t*3,none⟩=some (.string (Gf t))) (hc2:∀t,t<size->W.cell? ⟨sZ,off+t*3+1,none⟩=some (.string (Gt t))) (i j:Nat) (hi:i<size) (hj:j<size) (_hsz:size<4611686018427387904)
 (hl:Op.bytesLess (Gf i).toList (Gf j).toList=false) (he:((Gf i).toList==(Gf j).toList)=true):
 Calls prog 53 #[.int .i64 i,.int .i64 j,.pointer (some ⟨Bs,bo,none⟩)] W λe w'=>e=.returned (.bool (Op.bytesLess (Gt i).toList (Gt j).toList))/\∃q,w'=W.drewN q:=by
 have ci:=hc1 i hi;have cj:=hc1 j hj;have ci2:=hc2 i hi;have br:=hc2 j hj;clear hc1 hc2
 go_enter g8,hK
 go_wp2
 go_quiet (fail)
 go_wp2
 go_ret
 exact⟨rfl,nq,rfl⟩
def Qp(sZ off c Bs bo size:Nat)(W:World)(Gf Gt:Nat->ByteArray)(hs:W.cell? ⟨Bs,bo,none⟩=some (.slice (some ⟨sZ,off,none⟩) size c))
 (hc1:∀t,t<size->W.cell? ⟨sZ,off+t*3,none⟩=some (.string (Gf t))) (hc2:∀t,t<size->W.cell? ⟨sZ,off+t*3+1,none⟩=some (.string (Gt t))) (i j:Nat) (hi:i<size) (hj:j<size) (hsz:size<4611686018427387904):
 Calls prog 53 #[.int .i64 i,.int .i64 j,.pointer (some ⟨Bs,bo,none⟩)] W λe w'=>e=.returned (.bool (Ym (Gf i) (Gt i) (Gf j) (Gt j)))/\∃q,w'=W.drewN q:=by
 unfold Ym;cases hl:Op.bytesLess (Gf i).toList (Gf j).toList
 ·cases he:((Gf i).toList==(Gf j).toList)
  ·exact ME sZ off c Bs bo size W Gf Gt hs hc1 i j hi hj hsz hl he
  ·exact MF sZ off c Bs bo size W Gf Gt hs hc1 hc2 i j hi hj hsz hl he
 ·exact MD sZ off c Bs bo size W Gf Gt hs hc1 i j hi hj hsz hl
end Go.Proofs
namespace Go.Ev
noncomputable section
def WI(a b:Nat)(h:a<=b):ic a b=a:=by rw[B5];omega
def SC.YN{P:Program}{g:FuncId}{args cs cs' bs:List SV}{r0:SV}(hlen:cs'.length=cs.length)(hone:∀(θ:Nat->Loc) (ρ:lD) (xs:List AV),df θ ρ cs' xs->xs.all lu=true)
 (H:∀(θ:Nat->Loc) (ρ:lD) (h:H) (avs asx bsx:List AV),df θ ρ args avs->h.aV.get (θ 0).id=some (.cells asx (θ 0).bX)->df θ ρ cs asx->h.aV.get (θ 1).id=some (.cells bsx (θ 1).bX)->df θ ρ bs bsx->xg (θ 0) (θ 1)->
  dK P (.func g) avs h (λv h'=>VS θ ρ r0 v/\∃xs,df θ ρ cs' xs/\h.store (θ 0).id 0 xs=some h')):SC P g args [.cells cs,.cells bs] [] (λr S'=>r=r0/\S'=[.cells cs',.cells bs]):=by
 intro E θ ρ h avs hE hR hA;obtain⟨⟨k1,k2,k3,k4⟩,asx,q1,q2,q3⟩:=hR.obj 0 _ rfl f7;obtain⟨_,bsx,p1,p2,_⟩:=hR.obj 1 _ rfl f7;have hsep:=hR.sep 0 1 _ _ gc rfl f7 rfl f7
 have hidn:(θ 0).id<E.h.next:=by rcases k1 with e | e<;>rw[e];exact k2.2;exact k3.2
 have e1:E.h.aV=h.aV:=by rw[hE]
 have e2:E.h.dN=h.dN:=by rw[hE]
 have e3:E.h.next=h.next:=by rw[hE]
 rw[e1] at q1 p1;rw[e2] at q3;rw[e3] at hidn;have kx:=k2.2;have ky:=k3.2;rw[e3] at kx ky;refine(H θ ρ h avs asx bsx hA q1 q2 p1 p2 hsep).mono ?_;rintro v h' ⟨hv,xs,hxs,hst⟩;obtain⟨h1,g1,g2,g3⟩:=hR.store (o:=0) (cs:=cs) (vs:=cs') (off:=0) rfl hxs (hone θ ρ xs hxs) gt;rw[hE] at g1;have g4:=E9 q1 q3 hidn kx ky g1;rw[hst] at g4;cases g4;refine⟨r0,[.cells cs',.cells bs],_,ρ,h1,⟨rfl,rfl⟩,rfl,?_,g3 _ _ hv,ad _,?_⟩
 ·have:(cs.take 0++(cs'++cs.drop (0+cs'.length)))=cs':=by
   rw[cp,hlen,List.drop_length,dt,take_zero,nil_append]
  rw[this] at g2;exact g2
 ·intro i hi _;by_cases h0:i=0
  ·subst h0;rw[cF]
  ·rw[bT _ _ h0]
def SC.same{P:Program}{g:FuncId}{args:List SV}{S:List SO}{r0:SV}(H:∀(θ:Nat->Loc) (ρ:lD) (h:H) (avs:List AV),df θ ρ args avs->dK P (.func g) avs h (λv h'=>VS θ ρ r0 v/\h'=h)):SC P g args S [] (λr S'=>r=r0/\S'=S):=by
 intro E θ ρ h avs hE hR hA σ w args' hv hr;have hl:=hr.B0;refine dK.mono (H θ ρ h avs hA) ?_ σ w args' hv hr;rintro v h' ⟨hv,rfl⟩;refine⟨r0,S,θ,ρ,E.h,⟨rfl,rfl⟩,?_,hR,hv,ad _,λi hi _=>rfl⟩;rw[hE];show h'={ h' with low:=ic h'.low h'.next };rw[WI _ _ hl]
end
end Go.Ev
namespace Go.Proofs
open Go.Ev Go.RowKit Go.Shelf Go.Lib Go.Sort
set_option maxRecDepth 100000
abbrev TX:=ByteArray×ByteArray×Int
def pz(x:TX):List Value:=[.string x.1,.string x.2.1,.int .i64 x.2.2]
def C7(x:TX):Xf:=⟨r7 x.1,r7 x.2.1,x.2.2⟩
def Xj(x y:TX):Bool:=AT (C7 x) (C7 y)
def YV:SWO Xj where
 irrefl:=λx=>NP _
 trans:=λx y z h1 h2=>tq h1 h2
 ntrans:=λx y z h1 h2=>by
  unfold Xj at *;cases h:AT (C7 x) (C7 z)
  ·rfl
  ·rcases Gd (C7 x) (C7 y) with g | ⟨g1,g2⟩ | g
   ·rw[g] at h1;cases h1
   ·rw[(R9 ⟨g1,g2⟩ _).1,h2] at h;cases h
   ·have:=tq g h;rw[h2] at this;cases this
def XG(x y:TX):Ym x.1 x.2.1 y.1 y.2.1=Xj x y:=by
 unfold Ym Xj AT C7 r7;simp only[ByteArray.toList_eq];have e1:∀a b:List UInt8,Op.bytesLess a b=fZ (a.map (·.toNat)) (b.map (·.toNat)):=λa b=>(qo a b).symm
 have e2:∀a b:List UInt8,(a==b)=decide (a.map (·.toNat)=b.map (·.toNat)):=λa b=>by
  by_cases h:a=b
  ·subst h;simp
  ·have:¬a.map (·.toNat)=b.map (·.toNat):=λhe=>h (List.map_inj_right (λx y=>UInt8.toNat_inj.1) |>.1 he);simp[h,this]
 rw[e1,e1,e2]
def zn:prog.info? 39=some t39:=by kernel_rfl
def CT:prog.info? 47=some t47:=by kernel_rfl
def YW(n:Nat)(h2:2<=n):Lib.swapperK n t47 25=9:=by
 have a:t47.hasPointers=true:=by kernel_rfl
 have b:t47.bytes=40:=by kernel_rfl
 have c:(n==0)=false:=by simp;omega
 have d:(n==1)=false:=by simp;omega
 simp[Lib.swapperK,a,b,c,d]
def Y8:Option Value->ByteArray
 | some (.string s)=>s
 | _=>ByteArray.empty
def ZN:Option Value->Int
 | some (.int _ n)=>n
 | _=>0
def V3(c:Array Value)(d i:Nat):TX:=(Y8 c[d+i*3]?,Y8 c[d+i*3+1]?,ZN c[d+i*3+2]?)
def S4{σ:Sg}{c:Array Value}{d:Nat}{ts:List Xf}(hV:∀(i:Nat) (a:AV),(ts.map Xf.av).flatten[i]?=some a->∃v,c[d+i]?=some v/\V σ a v){i:Nat}{t:Xf}(ht:ts[i]?=some t):
 C7 (V3 c d i)=t/\∀k,k<3->c[d+i*3+k]?=some (pz (V3 c d i))[k]!:=by
 have hw:∀r∈ts.map Xf.av,r.length=3:=by intro r hr;obtain⟨t,_,rfl⟩:=mem_map.1 hr;rfl
 have hg:=(by rw[bh,ht];rfl:(ts.map Xf.av)[i]?=some t.av);have h0:=q9 hw hg (k:=0) gt;have h1:=q9 hw hg (k:=1) gt;have h2:=q9 hw hg (k:=2) gt;obtain⟨v0,g0,V0⟩:=hV _ _ (h0.trans (show t.av[0]?=some (.str t.fr) from rfl));obtain⟨v1,g1,V1⟩:=hV _ _ (h1.trans (show t.av[1]?=some (.str t.to) from rfl));obtain⟨v2,g2,V2⟩:=hV _ _ (h2.trans (show t.av[2]?=some (.int .i64 t.am) from rfl));rw[hX] at g0;rw[<-Nat.add_assoc] at g1 g2
 cases V0 with
 | @str _ s0 e0=>cases V1 with
  | @str _ s1 e1=>
   cases V2
   have hrd:V3 c d i=(s0,s1,t.am):=by unfold V3;rw[g0,g1,g2];rfl
   rw[hrd];refine⟨?_,λk hk=>?_⟩
   ·unfold C7 r7;simp only[e0,e1]
   ·match k,hk with
    | 0,_=>rw[hX];exact g0
    | 1,_=>exact g1
    | 2,_=>exact g2
def Sv(x:TX):∀v∈pz x,v.oneCell'=true:=by
 intro v hv;simp[pz] at hv
 rcases hv with rfl | rfl | rfl<;>rfl
def Ku(ts:List Xf)(id cid bX cf:Nat)(h:Ev.H)(ho:h.aV.get id=some (.cells (ts.map Xf.av).flatten bX))(hcell:h.aV.get cid=some (.cells [.slice (some (id,0)) ts.length 3 none] cf))(hff:bX≠cf)(hii:id≠cid)(h1:1<ts.length)(hlen:ts.length<=1000000):
 dK prog (.func 52) [.iface 39 (.slice (some (id,0)) ts.length 3 none),.fn (.func 53) [] [.ptr (some (cid,0))]] h (λr h'=>r=.bB []/\∃ts':List Xf,ts'.Perm ts/\(ts'.Pairwise λa b=>AT b a=false)/\h.store id 0 (ts'.map Xf.av).flatten=some h'):=by
 intro σ w args' hv hr;obtain⟨x,y,rfl,hx,hy⟩:=HW hv;have hV:=hx
 cases hx with
 | @iface _ _ sv hsv=>
 cases hy with
 | @fn _ _ _ fs' cs' hfy k1 k2 k3 k4=>
 have hfs:fs'=#[]:=by
  have:fs'.size=0:=by rw[<-k1];rfl
  exact Array.eq_empty_of_size_eq_zero this
 subst hfs
 have hcs:∃x,cs'=#[x]/\V σ (.ptr (some (cid,0))) x:=by
  have hl:VL σ [.ptr (some (cid,0))] cs'.toList:=⟨by simpa using k3,λi a v p q=>k4 i a v p (by simpa using q)⟩;obtain⟨x,l,e,h1,h2⟩:=hl.dP;have:=h2.oT;subst this;exact⟨x,Array.ext' e,h1⟩
 obtain⟨bx,rfl,hbx⟩:=hcs
 cases hbx with
 | @ptr _ _ pc hpc=>
 have hw0:∀r∈ts.map Xf.av,r.length=3:=by intro r hr;obtain⟨t,_,rfl⟩:=mem_map.1 hr;rfl
 rw[eM dQ func52 ge]
 cases hsv with
 | @slice _ _ _ _ _ a p c hs hl hrr hcc ha=>
 have ha:a=⟨p.b,p.d+0,none⟩:=ha.resolve_right gt;subst ha;obtain⟨q,carr,et,hq,hb,hsz,hlen',hVc⟩:=hr.cells ho;rw[hs] at hq;cases hq
 have hfl:(ts.map Xf.av).flatten.length=ts.length*3:=by
  have:=kU (s:=3) hw0;rw[ap] at this;exact this
 have hpb:pc.b≠p.b:=by
  intro e;have hsep:=hr.sep cid id _ _ pc p (Ne.symm hii) hcell ho hpc hs e
  rcases hsep with⟨_,_,f,e1,e2⟩ | ⟨_,_,e1,_⟩
  ·cases e1;cases e2;exact hff rfl
  ·cases e1
 have hpcl:=hr.lt hcell hpc;have hpl:=hr.lt ho hs;obtain⟨q2,c2,et2,hq2,hb2,hsz2,hlen2,hVc2⟩:=hr.cells hcell;rw[hpc] at hq2;cases hq2;obtain⟨bv,hbv,hbV⟩:=hVc2 0 _ rfl
 have hbv':∃c',bv=.slice (some ⟨p.b,p.d+0,none⟩) ts.length c':=by
  cases hbV with
  | @slice _ _ _ _ _ a' p' c' hs' hl' _ _ ha'=>
   rw[hs] at hs';cases hs';exact⟨c',by rw[ha'.resolve_right gt]⟩
 obtain⟨c',rfl⟩:=hbv'
 let d:Array TX:=Array.ofFn (n:=ts.length) λi=>V3 carr p.d i.1
 have hdsz:d.size=ts.length:=by simp[d]
 have hdi:∀i,i<ts.length->d[i]! = V3 carr p.d i:=λi hi=>by
  rw[getElem!_pos d i (by rw[hdsz];exact hi)];simp[d]
 have hspec:∀i,i<ts.length->ts[i]?=some (C7 (V3 carr p.d i))/\∀k,k<3->carr[p.d+i*3+k]?=some (pz (V3 carr p.d i))[k]!:=λi hi=>
  have g:=S4 hVc (jp hi)
  ⟨by rw[jp hi,g.1],g.2⟩
 have hH:HoldsK pz 3 w p.b (p.d+0) d:=by
  intro j hj;rw[size_flatK,hdsz] at hj
  have hi:j/3<ts.length:=by omega
  have hk:j%3<3:=by omega
  rw[get_flatK _ _ _ _ (by rw[hdsz];exact hj),hdi _ hi];have:=(hspec _ hi).2 _ hk;refine⟨?_,xP hb⟩;rw[cell_of hb,show p.d+0+j=p.d+j/3*3+j%3 by omega];exact this
 have hcellb:w.cell? ⟨pc.b,pc.d+0,none⟩=some (.slice (some ⟨p.b,p.d+0,none⟩) ts.length c'):=by rw[cell_of hb2];exact hbv
 have hless:LessReadsK prog 53 #[.pointer (some ⟨pc.b,pc.d+0,none⟩)] pz 3 Xj p.b (p.d+0) d.size w:=by
  intro m os dk hdk i j hi hj
  have e:sortWorldK pz 3 w p.b (p.d+0) m dk os=putRowK pz 3 (grow (Sort.ahead w m) os) p.b (p.d+0) dk:=by
   unfold sortWorldK;rw[putRowK_grow _ _ (Sort.ahead w m) _ p.b (p.d+0) _ hpl]
  have hHg:HoldsK pz 3 (grow (Sort.ahead w m) os) p.b (p.d+0) d:=holdsK_grow _ _ _ _ p.b (p.d+0) d hpl (holdsK_ahead _ _ _ _ _ _ _ hH);have hHd:=holdsK_putRowK pz 3 _ p.b (p.d+0) d dk hHg hdk
  have hl:=Qp p.b (p.d+0) c' pc.b (pc.d+0) d.size (sortWorldK pz 3 w p.b (p.d+0) m dk os) (λt=>dk[t]!.1) (λt=>dk[t]!.2.1)
   (by rw[e,cell?_putRowK_other _ _ _ p.b (p.d+0) dk _ hpb,cell?_grow _ _ _ (by exact hpcl)];exact(by rw[hdsz];exact hcellb))
   (λt ht=>by rw[e];exact(hHd.cell (i:=t) (c:=0) gt gt).1) (λt ht=>by rw[e];exact(hHd.cell (i:=t) (c:=1) gt gt).1) i j hi hj (by rw[hdsz];omega)
  rw[XG] at hl;exact hl
 have hmain:=Any.sort_Slice_cells_sorted wP 39 47 t39 t47 zn zW zW CT 25 (λ_=>by kernel_rfl) pz 3 (λ_=>rfl) zW (λ_=>by kernel_rfl)
  Sv Xj YV 53 #[.pointer (some ⟨pc.b,pc.d+0,none⟩)] (enters_of g8 zW rfl) p.b (p.d+0) c d (by rw[hdsz];omega) (by rw[hdsz];omega) 152 (by rw[YW _ (by rw[hdsz];omega)];kernel_rfl) false
  (λargs W=>run_callFunc_extern Tryz.func152 zW zW zW (e:=Extern.ReflectliteSwapper.swap false) zW args W) w hless hH hpl
 rw[hdsz] at hmain;refine Calls.mono hmain ?_;rintro e w' ⟨rfl,d',n,os,⟨hp1,_,hp3⟩,hsorted,rfl⟩;rw[hdsz] at hp1
 have hdl:d.toList.map C7=ts:=by
  apply List.ext_getElem?;intro i;by_cases hi:i<ts.length
  ·rw[bh,fu,cc (by rw[hdsz];exact hi),m6,(hspec i hi).1]
   congr 2
   have:=hdi i hi;rw[getElem!_pos d i (by rw[hdsz];exact hi)] at this;exact this
  ·rw[e5 (by simp[hdsz];omega),e5 gt]
 have hex:∀a:Array TX,a.size=ts.length->(a.extract 0 ts.length).toList=a.toList:=λa ha=>by
  rw[Array.toList_extract,List.extract_eq_take_drop,List.drop_zero,gv,ay (by simp[ha])]
 rw[hex _ hp1,hex _ hdsz] at hp3
 have hperm:(d'.toList.map C7).Perm ts:=by rw[<-hdl];exact hp3.map _
 have hsx:(d'.toList.map C7).Pairwise λa b=>AT b a=false:=by
  rw[List.pairwise_iff_getElem];intro i j hi hj hij;rw[ap,f9] at hi hj;have:=hsorted i j (be _) hij gt;rw[getElem!_pos d' j hj,getElem!_pos d' i hi] at this;simp only[List.getElem_map,Array.getElem_toList];exact this
 have hlen2:(d'.toList.map C7).length=ts.length:=by rw[ap,f9,hp1]
 have hw3:∀r∈(d'.toList.map C7).map Xf.av,r.length=3:=by intro r hr;obtain⟨t,_,rfl⟩:=mem_map.1 hr;rfl
 have hb1:(putRowK pz 3 (Sort.ahead w n) p.b (p.d+0) d').heap[p.b]?=some (.cells (putCells _root_.id (p.d+0) (flatK pz 3 d') carr) et (0,0)):=by
  unfold putRowK putRow mapBlock;simp only[fm,if_true];rw[show(Sort.ahead w n).heap[p.b]?=some (.cells carr et (0,0)) from hb];rfl
 have hoth:∀b,b≠p.b->(putRowK pz 3 (Sort.ahead w n) p.b (p.d+0) d').heap[b]?=w.heap[b]?:=λb hbb=>by
  unfold putRowK putRow mapBlock;simp only[fm];rw[ul (λe=>hbb e.symm)];rfl
 have hVn:∀(i:Nat) (a:AV),((d'.toList.map C7).map Xf.av).flatten[i]?=some a->∃v,(putCells _root_.id (p.d+0) (flatK pz 3 d') carr)[p.d+i]?=some v/\V σ a v:=by
  intro i a hia
  have hil:i<ts.length*3:=by
   have:=Lp hia;rw[kU hw3,ap,hlen2] at this;exact this
  have hj:i/3<d'.size:=by omega
  have hrow:((d'.toList.map C7).map Xf.av)[i/3]?=some (C7 d'[i/3]!).av:=by
   rw[bh,bh,fu,cc hj,getElem!_pos d' _ hj];rfl
  have hat:=q9 hw3 hrow (k:=i%3) gt;rw[show i/3*3+i%3=i by omega,hia] at hat
  have hcl:p.d+i<carr.size:=by omega
  have hput:(putCells _root_.id (p.d+0) (flatK pz 3 d') carr)[p.d+i]?=some ((pz d'[i/3]!)[i%3]!):=by
   unfold putCells;rw[Array.getElem?_mapIdx,cc hcl,m6,t8 ⟨by omega,by rw[size_flatK];omega⟩];rw[show p.d+i-(p.d+0)=i by omega,get_flatK _ _ _ _ gt];rfl
  refine⟨_,hput,?_⟩;generalize d'[i/3]! = x at hat
  have h3:i%3=0\/i%3=1\/i%3=2:=by omega
  rcases h3 with e | e | e<;>rw[e] at hat ⊢
  ·cases hat;exact .str rfl
  ·cases hat;exact .str rfl
  ·cases hat;exact .int _ _
 obtain⟨r1,r2⟩:=hr.rewrite ho hs (cs':=((d'.toList.map C7).map Xf.av).flatten) (by rw[kU hw3,ap,hlen2,hfl]) hb hb1 (by unfold putCells;rw[Array.size_mapIdx]) hVn hoth (by unfold putRowK putRow mapBlock;simp[Sort.ahead]) rfl rfl rfl
 have hbel:Below (putRowK pz 3 (Sort.ahead w n) p.b (p.d+0) d').heap.size (putRowK pz 3 (Sort.ahead w n) p.b (p.d+0) d') (grow (putRowK pz 3 (Sort.ahead w n) p.b (p.d+0) d') os):=
  ⟨rfl,rfl,rfl,by rw[size_grow];omega,λk hk=>by unfold grow;simp only;rw[Array.getElem?_append_left hk]⟩
 have hkeep:=qR r1 hbel;refine⟨_,rfl,.bB [],_,⟨rfl,d'.toList.map C7,hperm,hsx,?_⟩,σ,V.kJ,hkeep.1,r2.trans hkeep.2⟩
 have hfl2:((d'.toList.map C7).map Xf.av).flatten.length=(ts.map Xf.av).flatten.length:=by rw[kU hw3,ap,hlen2,hfl]
 have hone:((d'.toList.map C7).map Xf.av).flatten.all lu=true:=by
  rw[all_eq_true];intro x hx;rw[List.mem_flatten] at hx;obtain⟨r,hr1,hr2⟩:=hx;obtain⟨k,_,rfl⟩:=mem_map.1 hr1;unfold Xf.av at hr2;simp only[dd,bI,or_false] at hr2
  rcases hr2 with rfl | rfl | rfl<;>rfl
 unfold H.store;rw[ho];simp only;rw[hfl2,cp,fH (ad _),hone,Bool.and_self,ah,take_zero,nil_append,bk (ad _),dt]
def z7(v:AV)(n:Nat)(cid:Nat)(h:Ev.H)(hn:n<=1)(hv0:(n=0/\v=.slice none 0 0 (some 0))\/∃id,v=.slice (some (id,0)) n 3 none):
 dK prog (.func 52) [.iface 39 v,.fn (.func 53) [] [.ptr (some (cid,0))]] h (λr h'=>r=.bB []/\h'=h):=by
 intro σ w args' hv hr;obtain⟨x,y,rfl,hx,hy⟩:=HW hv
 cases hx with
 | @iface _ _ sv hsv=>
 cases hy with
 | @fn _ _ _ fs' cs' hfy k1 k2 k3 k4=>
 rw[eM dQ func52 ge]
 have htiny:∃(p:Option Addr) (c:Nat),sv=.slice p n c:=by
  rcases hv0 with⟨rfl,rfl⟩ | ⟨id,rfl⟩
  ·cases hsv with
   | jd hl=>exact⟨none,0,rfl⟩
  ·cases hsv with
   | slice hs hl hrr hcc ha=>exact⟨_,_,rfl⟩
 obtain⟨p,c,rfl⟩:=htiny;have hf:=λf hf=>Any.sort_Slice_tiny wP 39 47 t39 t47 zn zW zW CT 25 (λ_=>by kernel_rfl) p n c hn f hf (.func 53) fs' cs' w
 have h01:n=0\/n=1:=by omega
 refine Calls.mono (hf (if n=0 then 144 else 145) (by rcases h01 with e | e<;>rw[e]<;>kernel_rfl)) ?_;rintro e w' ⟨rfl,os,rfl⟩;have hb:Below w.heap.size w (grow w os):=⟨rfl,rfl,rfl,by rw[size_grow];omega,λk hk=>by simp[grow,Array.getElem?_append,hk]⟩;have hk:=qR hr hb;exact⟨_,rfl,.bB [],h,⟨rfl,rfl⟩,σ,V.kJ,hk.1,hk.2⟩
def Lj:∀l:List Xf,jM (l.flatMap bC)=some (l.map Xf.av).flatten
 | []=>rfl
 | a::l=>by
  show jM (ab a.fr::ab a.to::aa a.am::l.flatMap bC)=_;rw[jM,jM,jM,Lj l];rfl
def rN:Ng:=by
 constructor
 ·intro ts hne hlen hk;by_cases h1:ts.length=1
  ·obtain⟨t,rfl⟩:∃t,ts=[t]:=List.length_eq_one_iff.1 h1;refine SC.same λθ ρ h avs hA=>?_;rw[aG] at hA;obtain⟨a,r,rfl,hA1,hA⟩:=hA;rw[aG] at hA;obtain⟨b,r,rfl,hA2,hA⟩:=hA;rw[aU] at hA;subst hA;rw[VS] at hA1;rw[VS] at hA2;obtain⟨y,rfl,hy⟩:=hA1;obtain⟨xs,ys,rfl,hxs,hys⟩:=hA2;rw[aU] at hxs;subst hxs;rw[aG] at hys;obtain⟨b,r,rfl,hb,hys⟩:=hys;rw[aU] at hys;subst hys;rw[VS] at hy;rw[VS] at hb;subst hy;subst hb;refine(z7 _ 1 _ h (ad _) (.inr ⟨_,rfl⟩)).mono ?_;rintro v h' ⟨rfl,rfl⟩;exact⟨by rw[VS];exact⟨[],rfl,by rw[aU]⟩,rfl⟩
  have hl1:1<ts.length:=by have:=List.length_pos_iff.2 hne;omega
  refine SC.YN (by rw[aM (enc:=bC) (e:=3) ce,aM (enc:=bC) (e:=3) ce,(eQ ts).length_eq]) (λθ ρ xs hx=>nE hx (Sw _)) ?_;intro θ ρ h avs asx bsx hA ho hV hc hb hsep;rw[aG] at hA;obtain⟨a,r,rfl,hA1,hA⟩:=hA;rw[aG] at hA;obtain⟨b,r,rfl,hA2,hA⟩:=hA;rw[aU] at hA;subst hA;rw[VS] at hA1;rw[VS] at hA2;obtain⟨y,rfl,hy⟩:=hA1;obtain⟨xs,ys,rfl,hxs,hys⟩:=hA2;rw[aU] at hxs;subst hxs;rw[aG] at hys;obtain⟨b,r,rfl,hbb,hys⟩:=hys;rw[aU] at hys;subst hys;rw[VS] at hy;rw[VS] at hbb;subst hy;subst hbb;rw[aG] at hb;obtain⟨b,r,rfl,hb1,hb⟩:=hb;rw[aU] at hb;subst hb;rw[VS] at hb1;subst hb1;have has:=p9 hV (Lj ts);subst has
  have hii:(θ 0).id≠(θ 1).id:=by
   intro e;rw[e,hc] at ho
   injection ho with e1
   injection e1 with _ e2
   exact hsep.f e2.symm
  refine(Ku ts _ _ _ _ h ho hc hsep.f hii hl1 hlen).mono ?_;rintro v h' ⟨rfl,ts',hp,hs,hst⟩;have:=sL hk hp hs;subst this;refine⟨by rw[VS];exact⟨[],rfl,by rw[aU]⟩,_,?_,hst⟩;exact vx (Lj _)
 ·refine SC.same λθ ρ h avs hA=>?_;rw[aG] at hA;obtain⟨a,r,rfl,hA1,hA⟩:=hA;rw[aG] at hA;obtain⟨b,r,rfl,hA2,hA⟩:=hA;rw[aU] at hA;subst hA;rw[VS] at hA1;rw[VS] at hA2;obtain⟨y,rfl,hy⟩:=hA1;obtain⟨xs,ys,rfl,hxs,hys⟩:=hA2;rw[aU] at hxs;subst hxs;rw[aG] at hys;obtain⟨b,r,rfl,hb,hys⟩:=hys;rw[aU] at hys;subst hys;rw[VS] at hy;rw[VS] at hb;subst hy;subst hb;refine(z7 _ 0 _ h gc (.inl ⟨rfl,rfl⟩)).mono ?_;rintro v h' ⟨rfl,rfl⟩;exact⟨by rw[VS];exact⟨[],rfl,by rw[aU]⟩,rfl⟩
open Go.Ev
def Ec{l q:cV}(hn:(l.map (·.1)).Nodup)(hp:l.Perm q)(k:Pr):getM 0 k l=getM 0 k q:=by
 have hq:(q.map (·.1)).Nodup:=(hp.map _).nodup_iff.1 hn;by_cases h:k∈l.map (·.1)
 ·obtain⟨e,he,rfl⟩:=mem_map.1 h;rw[sq hn he,sq hq (hp.mem_iff.1 he)]
 ·have hz:∀{m:cV},k∉m.map (·.1)->getM 0 k m=0:=by
   intro m hm
   induction m with
   | nil=>rfl
   | cons a m ih=>
    rw[b7,dd] at hm;rw[getM,ul (λe=>hm (.inl e)),ih (λe=>hm (.inr e))]
  rw[hz h,hz (λe=>h ((hp.map _).mem_iff.2 e))]
def GH(a b:Pr):(pK a=b)=(a=pK b):=by
 obtain⟨a1,a2⟩:=a;obtain⟨b1,b2⟩:=b;simp only[pK,m8,eq_iff_iff];exact⟨λh=>⟨h.2,h.1⟩,λh=>⟨h.2,h.1⟩⟩
def B7:∀(l:cV) (m:cV),(l.map (·.1)).Nodup->∀k,getM 0 k (l.foldl tQ m)=getM 0 k m+getM 0 k l-getM 0 (pK k) l
 | [],m,_,k=>by simp[getM]
 | e::l,m,hn,k=>by
  rw[b7,f4] at hn;rw[fy,B7 l (tQ m e) hn.2 k]
  have hz:∀{q:Pr},q∉l.map (·.1)->getM 0 q l=0:=by
   intro q hq;generalize l=m at hq
   induction m with
   | nil=>rfl
   | cons a m ih=>
    rw[b7,dd] at hq;rw[getM,ul (λe=>hq (.inl e)),ih (λe=>hq (.inr e))]
  have h0:=hz hn.1;unfold tQ;simp only[di];rw[getM,getM];by_cases h1:k=e.1
  ·by_cases h2:k=pK e.1
   ·have h3:pK k=e.1:=by rw[GH];exact h2
    have h4:pK e.1=e.1:=by rw[<-h2,h1]
    simp only[h1,h4,if_true,h0];omega
   ·have h3:¬pK k=e.1:=by rw[GH];exact h2
    have h5:¬e.1=pK e.1:=by rw[<-h1];rw[h1] at h2 ⊢;exact h2
    have h6:¬pK e.1=e.1:=λh=>h5 h.symm;simp only[h1,h5,h6,if_true,if_false,h0];omega
  ·by_cases h2:k=pK e.1
   ·have h5:¬pK e.1=e.1:=by rw[<-h2];exact h1
    have h6:pK (pK e.1)=e.1:=rfl;simp only[h2,h5,h6,if_true,if_false,h0];omega
   ·have h3:¬pK k=e.1:=by rw[GH];exact h2
    simp only[h1,h2,h3,if_false]
def IZ{m:cV}(hn:(m.map (·.1)).Nodup)(t:Xf):t∈ja m↔0<t.am/\getM 0 (t.fr,t.to) m=t.am:=by
 unfold ja;rw[mem_map];constructor
 ·rintro⟨e,he,rfl⟩;obtain⟨h1,h2⟩:=mem_filter.1 he;exact⟨ww h2,sq hn h1⟩
 ·rintro⟨h1,h2⟩
  have hm:(((t.fr,t.to):Pr),t.am)∈m:=by
   rw[<-h2]
   have h3:getM 0 (t.fr,t.to) m≠0:=by omega
   clear h2 hn
   induction m with
   | nil=>exact t7 rfl h3
   | cons a m ih=>
    rw[getM] at h3 ⊢;split
    ·rename_i h;rw[h];exact bd
    ·rename_i h;rw[ul h] at h3;exact bc _ (ih h3)
  exact⟨_,mem_filter.2 ⟨hm,ut h1⟩,rfl⟩
def Me{a b:cV}(ha:(a.map (·.1)).Nodup)(hb:(b.map (·.1)).Nodup)(h:∀k,getM 0 k a=getM 0 k b):dB a=dB b:=by
 have hbig:∀{a b:cV},(a.map (·.1)).Nodup->(∀k,getM 0 k a=getM 0 k b)->a.any (λe=>decide (1000000000000<e.2))=true->b.any (λe=>decide (1000000000000<e.2))=true:=by
  intro a b ha h hh;obtain⟨e,he,h1⟩:=any_eq_true.1 hh;have h1:=ww h1;rw[<-sq ha he,h] at h1
  have hm:(e.1,getM 0 e.1 b)∈b:=by
   have h3:getM 0 e.1 b≠0:=by omega
   clear h h1 hh
   induction b with
   | nil=>exact t7 rfl h3
   | cons x m ih=>
    rw[getM] at h3 ⊢;split
    ·rename_i h;rw[h];exact bd
    ·rename_i h;rw[ul h] at h3;exact bc _ (ih h3)
  exact any_eq_true.2 ⟨_,hm,ut h1⟩
 have e1:a.any (λe=>decide (1000000000000<e.2))=b.any (λe=>decide (1000000000000<e.2)):=by
  rw[Bool.eq_iff_iff];exact⟨hbig ha h,hbig hb λk=>(h k).symm⟩
 have hka:=ye a ha;have hkb:=ye b hb;have hn:∀{l:List Xf},(l.map Dh).Nodup->l.Nodup:=λh=>List.Pairwise.of_map Dh (λa b hab e=>hab (by rw[e])) h
 have hp:(ja a).Perm (ja b):=(List.perm_ext_iff_of_nodup (hn hka) (hn hkb)).2 λt=>by rw[IZ ha,IZ hb,h]
 have hs:gX (ja a)=gX (ja b):=sL hkb ((eQ _).trans hp) ((mh _).imp λh=>by unfold F9 at h;simpa using h);unfold dB;rw[e1,hs]
def PQ(a b:cV)(ha:(a.map (·.1)).Nodup)(hp:a.Perm b):dB (rV a)=dB (rV b):=by
 refine Me (x8 a) (x8 b) λk=>?_;unfold rV;rw[B7 _ _ ha,B7 _ _ ((hp.map _).nodup_iff.1 ha),Ec ha hp,Ec ha hp]
abbrev nF:List Nat:=[70,111,114,103,101]
abbrev nR:List Nat:=[82,97,105,108]
abbrev nA:List Nat:=[97,120,108,101]
abbrev xf(n:Int):Xf:=⟨nF,nR,n⟩
abbrev xb(n:Int):Xf:=⟨nR,nF,n⟩
def Db:List aF:=[⟨nA,false,[]⟩]
def La:aX:=.mk 2 0 []
def GF:aN:=⟨[⟨1,1,[97,49],nA,[],[],[],[],0,0,0,0,0,0⟩],false⟩
def W9:Wy:=⟨nA,nF,9,9,80⟩
def TV(k:Nat):Co:=⟨[97,k],nR,5,100⟩
def Ed{s:List Nat}(h:(decide (s.length<=1000000)&&s.all λb=>decide (b<256))=true):kr s:=by
 simp only[ba,wp,all_eq_true] at h;exact⟨h.1,h.2⟩
def Ud:kq Db:=by
 refine⟨by decide,λk hk=>?_,λk hk s hs=>?_⟩
 ·simp only[Db,dd,bI,or_false] at hk;subst hk;exact⟨Ed gc,by decide⟩
 ·simp only[Db,dd,bI,or_false] at hk;subst hk;cases hs
def Up:iy La:=.mk gc λk hk=>by cases hk
def Vb:∀r∈[GF],eu r:=by
 intro r hr;cases rc hr;refine⟨by decide,λe he=>?_⟩;cases rc he;constructor<;>exact Ed gc
def Yx:Dc [xf 80] []=([xf 80],0):=by kernel_rfl
def Yy:Dc [xf 80] [xf 100]=([xb 20],0):=by kernel_rfl
def Yz:Dc [xf 80,xb 30] [xf 50]=([],0):=by kernel_rfl
def YA:Dc [⟨nR,nR,0⟩] []=([],1):=by kernel_rfl
def XQ:kC Db La [W9] [GF] [TV 49,TV 50]=([xf 80],0):=by kernel_rfl
def tF(owed paid:List Xf)(h:((owed++paid).all λt=>decide (t.fr.length<=1000000)&&(t.fr.all (λb=>decide (b<256))&&(decide (t.to.length<=1000000)&&t.to.all λb=>decide (b<256))))=true)(h1:(decide (owed.length<=1000)&&decide (paid.length<=1000))=true):
 PC prog 9 [an 3 owed bC,an 3 paid bC] (·=OD (Dc owed paid)):=by
 have hf:∀t∈owed++paid,t.fits:=by
  intro t ht;have:=all_eq_true.1 h t ht;simp only[ba,wp,all_eq_true] at this;exact⟨this.1,this.2.1,this.2.2.1,this.2.2.2⟩
 simp only[ba,wp] at h1;exact Ql rN PQ owed paid (λt ht=>hf t (List.mem_append_left _ ht)) (λt ht=>hf t (List.mem_append_right _ ht)) h1.1 h1.2
def Cq(a:List Xf)(h:a.length<=1000000):PC prog 10 [an 3 a bC,an 3 a bC] (·=au true):=by
 have:=MR a a h;rw[ut rfl] at this;exact this
abbrev XJ:Fm:=[(4,.ip [ab nF,ab nR,aa 50]),(3,.ptr 0 0),(2,.ip [ab nF,ab nR,aa 100]),(1,.ip [ab nF,ab nR,aa 80]),(0,au false)]
abbrev Xl:Fm:=(5,an 3 [xf 80] bC)::(6,aa 0)::XJ
abbrev Xm:Fm:=(7,an 3 [xb 20] bC)::(8,aa 0)::Xl
abbrev XL:Fm:=(9,an 3 ([]:List Xf) bC)::(10,aa 0)::Xm
abbrev Yo:Fm:=(12,aa 1)::XL
abbrev XM:Fm:=(13,.ip (an 3 Db ao::aC La))::Yo
abbrev Yp:Fm:=(14,an 2 [GF] ae)::XM
abbrev Xn:Fm:=(15,an 5 [W9] bJ)::Yp
abbrev ZK:Fm:=(16,an 3 [xf 80] bC)::(17,aa 0)::Xn
def J8:PC prog 4 [] (·=au true):=by
 have d0:=tF [xf 80] [] gc gc;rw[Yx] at d0;have d1:=tF [xf 80] [xf 100] gc gc;rw[Yy] at d1;have d2:=tF [xf 80,xb 30] [xf 50] gc gc;rw[Yz] at d2;have d3:=tF [⟨nR,nR,0⟩] [] gc gc;rw[YA] at d3;have ho:=uO rN Db La [W9] [GF] [TV 49,TV 50] Ud Up (λw hw=>by cases rc hw;constructor<;>decide) (λw hw=>by simp only[dd,bI,or_false] at hw;rcases hw with rfl | rfl<;>constructor<;>decide) gc Vb (λr hr=>by cases rc hr;decide) gc gc;rw[XQ] at ho;have m0:=Cq [xf 80] gc;have m1:=Cq [xb 20] gc;refine pB 117 Tryz.func4 ?_;refine(nP) ?_
 (repeat refine aD.seq ?_)
 refine zA [(1,.ptr 0 0),(0,au false)] [.cells [ab nF,ab nR,aa 80]] zH ?_;refine aD.y9 8 12 (λL=>⟨(19,vo L 0 (.ag [ab nF,ab nR,aa 80]))::(20,vo L 1 (.ag [ab nF,ab nR,aa 80]))::(21,vo L 2 (.ag [ab nF,ab nR,aa 80]))::(2,vo L 3 (.ptr 1 0))::(3,vo L 4 (.ptr 2 0))::(4,vo L 5 (.ptr 3 0))::[(1,.ptr 0 0),(0,au false)],117,[.cells [ab nF,ab nR,aa 80],wo L 3 (io L 6 (.cells [ab nF,ab nR,aa 80]) (.cells [ab [],ab [],aa 0])),wo L 4 (io L 7 (.cells [ab nF,ab nR,aa 80]) (.cells [ab [],ab [],aa 0])),wo L 5 (.cells [ab [],ab [],aa 0])],[]⟩) rfl zW ge gc zW (bK (br @nC @OB)) (λL=>rfl) ?_ ?_
 ·rintro L i o him hC hr
  rcases i with _ | _ | _ | _ | _ | _ | _ | _ | i
  rotate_right
  ·exact t7 him gt
  ·cases hr.gw;refine(zR) ?_;exact(bK (cA @aT @fX @bO))
  ·cases hr.gw;refine(zR) ?_;exact(bK (cA @aT @fX @bO))
  ·cases hr.gw;refine(zR) ?_;exact(bK (cA @aT @fX @bO))
  ·cases hr.gw;have hn:¬L 3:=hr.new;have hl:¬L 6:=λh=>hn (hC 6 _ rfl h ⟨3,.data⟩ f5 rfl);refine aJ.r0 ge (by simp only[cG,bG,an,az,m7,m6,↓reduceIte,aj,bw,b9,bt,ck,ah,ar,bD,↓lj,F6,iA hn,cq];first | done | rfl) ?_;exact((Fg.rn (f':=(19,vo L 0 (.ag [ab nF,ab nR,aa 80]))::(20,vo L 1 (.ag [ab nF,ab nR,aa 80]))::(21,vo L 2 (.ag [ab nF,ab nR,aa 80]))::(2,.ptr 1 0)::(3,vo L 4 (.ptr 2 0))::(4,vo L 5 (.ptr 3 0))::[(1,.ptr 0 0),(0,au false)]) (n:=117) (S':=[.cells [ab nF,ab nR,aa 80],.cells [ab [],ab [],aa 0],wo L 4 (io L 7 (.cells [ab nF,ab nR,aa 80]) (.cells [ab [],ab [],aa 0])),wo L 5 (.cells [ab [],ab [],aa 0])]) [0,4,2,3] gc rfl (by (simp only[su,gh,bG,an,tX,tY,E1,cq,↓reduceIte,aj])<;>(repeat' apply bi)<;>first | trivial | exact .inl rfl | exact .inr rfl | exact .inr trivial | exact .inl trivial) (by (simp only[cG,gh,bG,an,tX,tY,E1,cq,↓reduceIte,aj])<;>(repeat' apply bi)<;>first | rfl | trivial))).trans (Fg.less (by (simp only[cG,bG,dU,↓reduceIte,aj,an,aT,fX,bO,gy hl])<;>(repeat' apply bi)<;>first | rfl | trivial) (by (simp only[cG,bG,or_true,true_or,an,aT,fX,bO,gy hl])<;>(repeat' apply bi)<;>first | exact .inr rfl | exact .inl rfl | trivial))
  ·cases hr.gw;have hn:¬L 4:=hr.new;have hl:¬L 7:=λh=>hn (hC 7 _ rfl h ⟨4,.data⟩ f5 rfl);refine aJ.r0 ge (by simp only[cG,bG,an,az,m7,m6,↓reduceIte,aj,bw,b9,bt,ck,ah,ar,bD,↓lj,F6,iA hn,cq];first | done | rfl) ?_;exact((Fg.rn (f':=(19,vo L 0 (.ag [ab nF,ab nR,aa 80]))::(20,vo L 1 (.ag [ab nF,ab nR,aa 80]))::(21,vo L 2 (.ag [ab nF,ab nR,aa 80]))::(2,vo L 3 (.ptr 1 0))::(3,.ptr 2 0)::(4,vo L 5 (.ptr 3 0))::[(1,.ptr 0 0),(0,au false)]) (n:=117) (S':=[.cells [ab nF,ab nR,aa 80],wo L 3 (io L 6 (.cells [ab nF,ab nR,aa 80]) (.cells [ab [],ab [],aa 0])),.cells [ab [],ab [],aa 0],wo L 5 (.cells [ab [],ab [],aa 0])]) [0,1,4,3] gc rfl (by (simp only[su,gh,bG,an,tX,tY,E1,cq,↓reduceIte,aj])<;>(repeat' apply bi)<;>first | trivial | exact .inl rfl | exact .inr rfl | exact .inr trivial | exact .inl trivial) (by (simp only[cG,gh,bG,an,tX,tY,E1,cq,↓reduceIte,aj])<;>(repeat' apply bi)<;>first | rfl | trivial))).trans (Fg.less (by (simp only[cG,bG,dU,↓reduceIte,aj,an,aT,fX,bO,gy hl])<;>(repeat' apply bi)<;>first | rfl | trivial) (by (simp only[cG,bG,or_true,true_or,an,aT,fX,bO,gy hl])<;>(repeat' apply bi)<;>first | exact .inr rfl | exact .inl rfl | trivial))
  ·cases hr.gw;have hn:¬L 5:=hr.new;refine aJ.r0 ge (by simp only[cG,bG,an,az,m7,m6,↓reduceIte,aj,bw,b9,bt,ck,ah,ar,bD,↓lj,F6,iA hn,cq];first | done | rfl) ?_;exact((Fg.rn (f':=(19,vo L 0 (.ag [ab nF,ab nR,aa 80]))::(20,vo L 1 (.ag [ab nF,ab nR,aa 80]))::(21,vo L 2 (.ag [ab nF,ab nR,aa 80]))::(2,vo L 3 (.ptr 1 0))::(3,vo L 4 (.ptr 2 0))::(4,.ptr 3 0)::[(1,.ptr 0 0),(0,au false)]) (n:=117) (S':=[.cells [ab nF,ab nR,aa 80],wo L 3 (io L 6 (.cells [ab nF,ab nR,aa 80]) (.cells [ab [],ab [],aa 0])),wo L 4 (io L 7 (.cells [ab nF,ab nR,aa 80]) (.cells [ab [],ab [],aa 0])),.cells [ab [],ab [],aa 0]]) [0,1,2,4] gc rfl (by (simp only[su,gh,bG,an,tX,tY,E1,cq,↓reduceIte,aj])<;>(repeat' apply bi)<;>first | trivial | exact .inl rfl | exact .inr rfl | exact .inr trivial | exact .inl trivial) (by (simp only[cG,gh,bG,an,tX,tY,E1,cq,↓reduceIte,aj])<;>(repeat' apply bi)<;>first | rfl | trivial))).trans (bK (cA @aT @fX @bO))
  ·cases hr.gw;have d3:L 3:=hr.dep ⟨3,.data⟩ f5 rfl;have d0:L 0:=hr.dep ⟨0,.data⟩ f5 rfl;have hn:¬L 6:=hr.new;refine aJ.r0 ge (by simp only[cG,bG,an,az,m7,m6,↓reduceIte,aj,bw,b9,bt,ck,ah,ar,bD,dC d3,dC d0,mY d3,gy hn];first | done | rfl) ?_;exact(bK (sa @aT @fX @bO (ee d3) (ee d0) (Zw d3)))
  ·cases hr.gw;have d4:L 4:=hr.dep ⟨4,.data⟩ f5 rfl;have d1:L 1:=hr.dep ⟨1,.data⟩ f5 rfl;have hn:¬L 7:=hr.new;refine aJ.r0 ge (by simp only[cG,bG,an,az,m7,m6,↓reduceIte,aj,bw,b9,bt,ck,ah,ar,bD,dC d4,dC d1,mY d4,gy hn];first | done | rfl) ?_;exact(bK (sa @aT @fX @bO (ee d4) (ee d1) (Zw d4)))
 have v8:∀i,i<8->∀v:SV,vo (λj=>j<8) i v=v:=λi h v=>dC h;have w8:∀i,i<8->∀v:SO,wo (λj=>j<8) i v=v:=λi h v=>mY h;have i8:∀i,i<8->∀x y:SO,io (λj=>j<8) i x y=x:=λi h x y=>pF h;change aJ _ _ _ _ _ _
 refine oA [(21,.ag [ab nF,ab nR,aa 80]),(4,.ptr 3 0),(3,.ptr 2 0),(2,.ptr 1 0),(1,.ptr 0 0),(0,au false)] [.cells [ab nF,ab nR,aa 80],.cells [ab nF,ab nR,aa 80],.cells [ab nF,ab nR,aa 80],.cells [ab [],ab [],aa 0]] (bK (DX (v8 2 gc) (v8 3 gc) (v8 4 gc) (v8 5 gc) (w8 3 gc) (w8 4 gc) (w8 5 gc) (i8 6 gc) (i8 7 gc)))<|(zR) ?_
 (try change aD _ _ _ _ _)
 refine(nP)<|zA [(4,.ptr 3 0),(3,.ptr 2 0),(2,.ptr 1 0),(1,.ptr 0 0),(0,au false)] [.cells [ab nF,ab nR,aa 80],.cells [ab nF,ab nR,aa 100],.cells [ab nR,ab nF,aa 30],.cells [ab nF,ab nR,aa 50]] zH ?_;refine zZ [(4,.ip [ab nF,ab nR,aa 50]),(3,.ptr 2 0),(2,.ptr 1 0),(1,.ptr 0 0),(0,au false)] 3 rfl ⟨.inr (.ptr rfl zr (be _)),zj⟩<|zZ [(4,.ip [ab nF,ab nR,aa 50]),(3,.ptr 2 0),(2,.ip [ab nF,ab nR,aa 100]),(1,.ptr 0 0),(0,au false)] 1 rfl ⟨.inl rfl,.inl rfl,.inr (.ptr rfl zr (be _)),zj⟩<|zZ [(4,.ip [ab nF,ab nR,aa 50]),(3,.ptr 2 0),(2,.ip [ab nF,ab nR,aa 100]),(1,.ip [ab nF,ab nR,aa 80]),(0,au false)] 0 rfl ⟨.inl rfl,.inl rfl,.inl rfl,.inr (.ptr rfl zr (be _)),.inl rfl,trivial⟩<|zA [(4,.ip [ab nF,ab nR,aa 50]),(3,.ptr 2 0),(2,.ip [ab nF,ab nR,aa 100]),(1,.ip [ab nF,ab nR,aa 80]),(0,au false)] [.gone,.gone,.cells [ab nR,ab nF,aa 30]] zH<|zA XJ [.cells [ab nR,ab nF,aa 30]] (Fg.rn [2] gc rfl ZR ZS)<|(zC)<|oA ((27,.buf 1 1 3 (some 1))::XJ) [.cells [ab nR,ab nF,aa 30],.cells [ab nF,ab nR,aa 80]] zH ?_;refine oZ ((27,.sl 1 3 [ab nF,ab nR,aa 80])::XJ) 1 rfl ⟨.inr (.buf rfl zr (ad _)),zj⟩<|oA ((27,.sl 1 3 [ab nF,ab nR,aa 80])::XJ) [.cells [ab nR,ab nF,aa 30]] zH<|(zK d0 (hwk:=.cons (.sl _ _ _) (.cons (.nil 3) .nil)) (hfl:=.inr (.cons (.sl _ _ _) (.cons (.nil 3) .nil))))<|(cO @OD.eq_1)<|zA Xl [.cells [ab nR,ab nF,aa 30]] (bK @OD.eq_1)<|(zC)<|oA ((33,.buf 1 1 3 (some 1))::(35,.buf 2 1 3 (some 1))::Xl) [.cells [ab nR,ab nF,aa 30],.cells [ab nF,ab nR,aa 80],.cells [ab nF,ab nR,aa 100]] zH ?_;refine oZ ((33,.buf 1 1 3 (some 1))::(35,.sl 1 3 [ab nF,ab nR,aa 100])::Xl) 2 rfl ⟨.inl rfl,.inr (.buf rfl zr (ad _)),zj⟩<|oZ ((33,.sl 1 3 [ab nF,ab nR,aa 80])::(35,.sl 1 3 [ab nF,ab nR,aa 100])::Xl) 1 rfl ⟨.inr (.buf rfl zr (ad _)),zj⟩<|oA ((33,.sl 1 3 [ab nF,ab nR,aa 80])::(35,.sl 1 3 [ab nF,ab nR,aa 100])::Xl) [.cells [ab nR,ab nF,aa 30]] zH<|(zK d1 (hfl:=.inr zr))<|(cO @OD.eq_1)<|zA Xm [.cells [ab nR,ab nF,aa 30]] (bK @OD.eq_1)<|(zC)<|oA ((42,.buf 1 2 3 (some 2))::(44,.buf 2 1 3 (some 1))::Xm) [.cells [ab nR,ab nF,aa 30],.cells [ab nF,ab nR,aa 80,ab nR,ab nF,aa 30],.cells [ab nF,ab nR,aa 50]] zH ?_;refine oZ ((42,.buf 1 2 3 (some 2))::(44,.sl 1 3 [ab nF,ab nR,aa 50])::Xm) 2 rfl ⟨.inl rfl,.inr (.buf rfl zr (ad _)),zj⟩<|oZ ((42,.sl 2 3 [ab nF,ab nR,aa 80,ab nR,ab nF,aa 30])::(44,.sl 1 3 [ab nF,ab nR,aa 50])::Xm) 1 rfl ⟨.inr (.buf rfl zr (ad _)),zj⟩<|oA ((42,.sl 2 3 [ab nF,ab nR,aa 80,ab nR,ab nF,aa 30])::(44,.sl 1 3 [ab nF,ab nR,aa 50])::Xm) [.cells [ab nR,ab nF,aa 30]] zH<|(zK d2 (hfl:=.inr zr))<|(cO @OD.eq_1)<|zA XL [.cells [ab nR,ab nF,aa 30]] (bK @OD.eq_1)<|(zC)<|oA ((50,.buf 1 1 3 (some 1))::XL) [.cells [ab nR,ab nF,aa 30],.cells [ab nR,ab nR,aa 0]] zH ?_;refine oZ ((50,.sl 1 3 [ab nR,ab nR,aa 0])::XL) 1 rfl ⟨.inr (.buf rfl zr (ad _)),zj⟩<|oA ((50,.sl 1 3 [ab nR,ab nR,aa 0])::XL) [.cells [ab nR,ab nF,aa 30]] zH<|(zK d3 (hwk:=.cons (.sl _ _ _) (.cons (.nil 3) .nil)) (hfl:=.inr (.cons (.sl _ _ _) (.cons (.nil 3) .nil))))<|(cO @OD.eq_1)<|zA Yo [.cells [ab nR,ab nF,aa 30]] (bK @OD.eq_1)<|(zV)<|zA ((13,.ptr 2 0)::Yo) [.cells [ab nR,ab nF,aa 30],.cells [ab nA,au false,.a (.slice none 0 0 (some 0))],.cells [.buf 1 1 3 (some 1),aa 2,aa 0,.a (.slice none 0 0 (some 0))]] zH ?_;refine aD.fg (Fg.AL (f':=(13,.ptr 2 0)::Yo) (S':=[.cells [ab nR,ab nF,aa 30],.gone,.cells [an 3 Db ao,aa 2,aa 0,.a (.slice none 0 0 (some 0))]]) 1 rfl f7 ⟨.inl rfl,zj⟩ ⟨.inr ⟨by decide,.inl rfl⟩,.inl rfl,.inr ⟨by decide,.inr ⟨_,_,rfl,rfl,.cons (.buf rfl (.cons (.a _) (.cons (.a _) (.cons (.nil 3) .nil))) (ad _)) (.cons (.a _) (.cons (.a _) (.cons (.a _) .nil)))⟩⟩,trivial⟩) ?_;refine zZ XM 2 rfl ⟨.inr (.ptr rfl (.cons (.sl _ _ _) (.cons (.a _) (.cons (.a _) (.cons (.nil 3) .nil)))) (be _)),zj⟩<|zA XM [.cells [ab nR,ab nF,aa 30]] zH<|(zV)<|zA ((14,.buf 2 1 2 (some 1))::XM) [.cells [ab nR,ab nF,aa 30],.cells (GF.opts.flatMap aE),.cells [.buf 1 1 14 (some 1),au false]] zH ?_;refine aD.fg (Fg.AL (f':=(14,.buf 2 1 2 (some 1))::XM) (S':=[.cells [ab nR,ab nF,aa 30],.gone,.cells [an 14 GF.opts aE,au false]]) 1 rfl f7 ⟨.inl rfl,zj⟩ ⟨.inr ⟨by decide,.inl rfl⟩,.inl rfl,.inr ⟨by decide,.inr ⟨_,_,rfl,rfl,.cons (.buf rfl zr (ad _)) (.cons (.a _) .nil)⟩⟩,trivial⟩) ?_;refine zZ Yp 2 rfl ⟨.inr (.buf rfl zr (ad _)),zj⟩<|zA Yp [.cells [ab nR,ab nF,aa 30]] zH<|(zV)<|zA ((15,.buf 1 1 5 (some 1))::Yp) [.cells [ab nR,ab nF,aa 30],.cells (bJ W9)] zH ?_;refine zZ Xn 1 rfl ⟨.inr (.buf rfl zr (ad _)),zj⟩<|zA Xn [.cells [ab nR,ab nF,aa 30]] zH<|(zC)<|oA ((71,.buf 1 2 4 (some 2))::(66,.ag (an 3 Db ao::aC La))::(67,an 5 [W9] bJ)::(68,an 2 [GF] ae)::Xn) [.cells [ab nR,ab nF,aa 30],.cells ([TV 49,TV 50].flatMap c8)] zH ?_;exact oZ ((71,an 4 [TV 49,TV 50] c8)::(66,.ag (an 3 Db ao::aC La))::(67,an 5 [W9] bJ)::(68,an 2 [GF] ae)::Xn) 1 rfl ⟨.inr (.buf rfl zr (ad _)),zj⟩<|oA ((71,an 4 [TV 49,TV 50] c8)::(66,.ag (an 3 Db ao::aC La))::(67,an 5 [W9] bJ)::(68,an 2 [GF] ae)::Xn) [.cells [ab nR,ab nF,aa 30]] zH<|(zK ho (hfl:=.inr zr))<|(cO @OD.eq_1)<|zA ZK [.cells [ab nR,ab nF,aa 30]] (bK @OD.eq_1)<|(zV)<|(jH (br (show decide ((0:Int)=0)=true from rfl) (show decide ((1:Int)=1)=true from rfl)))<|(zK m0)<|(Wh (br (show decide ((0:Int)=0)=true from rfl) (show decide ((1:Int)=1)=true from rfl)))<|(zK m1)<|(Wh (br (show decide ((0:Int)=0)=true from rfl) (show decide ((1:Int)=1)=true from rfl)))<|(zK m0)<|(cO (br (show decide ((0:Int)=0)=true from rfl) (show decide ((1:Int)=1)=true from rfl)))<|zo [.tmp 0]
abbrev nD:Nat:=1000000000000000
variable{α:Type}{p:α->Bool}
def mq{l:List α}{k:Nat}{x:α}(hx:l[k]?=some x)(h:(l.take k).all p=true)(hp:p x=true):(l.take (k+1)).all p=true:=by
 rw[bz hx,fx,h];show(true&&(p x&&true))=true;rw[hp];rfl
inductive kO:aX->Prop
 | mk {op n:Int} {kids:List aX}:kids.length<=nD->(∀k∈kids,kO k)->kO (.mk op n kids)
def wT:∀(d:Nat) (f:aX),SizeOf.sizeOf f<d->kO f->∀most:Int,PC Tryz.prog 58 [.ag (aC f),aa most] (·=aa (gB f most))
 | 0,f,hd,_,_=>t7 hd (Nat.not_lt_zero _)
 | d+1,.mk op n kids,hd,hf,most=>by
  cases hf with
  | mk hlen hks=>
  have hkd:∀k∈kids,SizeOf.sizeOf k<d:=λk hk=>by
   have h1:=List.sizeOf_lt_of_mem hk
   have h2:SizeOf.sizeOf (aX.mk op n kids)=1+SizeOf.sizeOf op+SizeOf.sizeOf n+SizeOf.sizeOf kids:=by simp
   omega
  rw[dL,gB]
  refine pB 31 Tryz.func58 ?_;refine(zV) ?_;refine zZ [(1,aa most),(2,.ip [aa op,aa n,an 3 kids aC])] 0 rfl (tK @an.eq_1)<|zA [(1,aa most),(2,.ip [aa op,aa n,an 3 kids aC])] [] zH<|(nP)<|(zs) ?_;refine QB kids (λk (acc:Int)=>iY kids most 1=iY (kids.drop k) most acc) (λk acc=>[(1,aa most),(2,.ip [aa op,aa n,an 3 kids aC]),(5,aa acc),(6,aa k)]) (λk acc=>[]) (1) zH ge ?_;intro k acc hk hall
  by_cases hlt:k<kids.length;rotate_left
  ·refine(aA (show decide ((k:Int)<(kids.length:Int))=false by simp only[wd];omega))<|(fC) ?_
   rw[List.drop_of_length_le gt,iY] at hall
   exact(zV)<|zo [.tmp 4] (hq:=by rw[hall])
  have hd:=show decide ((k:Int)<(kids.length:Int))=true by simp only[wp];omega
  obtain⟨x,hx⟩:∃x,kids[k]?=some x:=⟨kids[k],jp hlt⟩;rw[gm hx,iY] at hall;have hxm:=List.mem_of_getElem? hx;have ih:=wT d x (hkd x hxm) (hks x hxm);have hxl:((kids.flatMap aC).drop (k*3)).take 3=aC x:=aH (e:=3) (enc:=aC) fi hx;obtain⟨op',n',kids'⟩:=x;simp only[dL] at hxl ih;cases h1:decide (acc<=most)
  ·rw[t8 (by have:=wt h1;omega)] at hall
   exact(aA (br hd h1))<|(fC)<|(zV)<|zo [.tmp 4] (hq:=by rw[hall])
  rw[ul (by have:=ww h1;omega)] at hall
  refine(aA (br hd h1))<|(gJ)<|(jH (cA hlt hxl @r6))<|(zK (ih (CB most acc)))<|(cO @Bf)<|(aA (zi hlt hlen)) ?_;refine Fv hlt (FC acc (gB (.mk op' n' kids') (CB most acc))) zH hall
def Kp(f:aX)(hf:kO f)(most:Int):PC prog 58 [.ag (aC f),aa most] (·=aa (gB f most)):=wT _ f (go _) hf most
def Il(f:aX):Bool:=decide (gB f 80<=80)
def Ml(f:aX)(hf:kO f):PC prog 28 [.ag (aC f)] (·=au (Proofs.Il f)):=by
 refine pB 6 Tryz.func28 ?_;have hN:=Kp f hf 80;unfold Proofs.Il;generalize gB f 80=q at hN ⊢;obtain⟨op,n,kids⟩:=f;rw[dL] at hN ⊢
 exact(lJ)<|(zK hN)<|(zR)<|zo [.tmp 2]
def T5{a b:Int}(h : -9223372036854775808<=a+b/\a+b<=9223372036854775807):FC a b=a+b:=by
 have h1:(qK (-9223372036854775808) (a+b)&&qK (a+b) 9223372036854775807)=true:=by
  rw[ff,ff];simp[h.1,h.2]
 unfold FC;simp only[dJ,KR,KP,h1,ah]
def Vp{a b:Int}(h : -9223372036854775808<=a-b/\a-b<=9223372036854775807):CB a b=a-b:=by
 have h1:(qK (-9223372036854775808) (a-b)&&qK (a-b) 9223372036854775807)=true:=by
  rw[ff,ff];simp[h.1,h.2]
 unfold CB;simp only[dJ,KR,KP,h1,ah]
def EI:∀(d:Nat) (f:aX),SizeOf.sizeOf f<d->∀most:Int,-1000<=most->most<=1000->1<=gB f most/\(gB f most<=most+1\/gB f most=1)/\(gB f most<=most->iy f)
 | 0,f,hd,_,_,_=>t7 hd (Nat.not_lt_zero _)
 | d+1,.mk op n kids,hd,most,h0,h1=>by
  have hkd:∀k∈kids,SizeOf.sizeOf k<d:=λk hk=>by
   have h1:=List.sizeOf_lt_of_mem hk
   have h2:SizeOf.sizeOf (aX.mk op n kids)=1+SizeOf.sizeOf op+SizeOf.sizeOf n+SizeOf.sizeOf kids:=by simp
   omega
  have key:∀(ks:List aX) (acc:Int),(∀k∈ks,k∈kids)->1<=acc->(acc<=most+1\/acc=1)->1<=iY ks most acc/\(iY ks most acc<=most+1\/iY ks most acc=1)/\(iY ks most acc<=most->acc+ks.length<=iY ks most acc/\∀k∈ks,iy k):=by
   intro ks
   induction ks with
   | nil=>intro acc _ h2 h3;rw[iY];exact⟨h2,h3,λ_=>⟨by simp,λk hk=>by cases hk⟩⟩
   | cons k ks ih=>
    intro acc hm h2 h3;rw[iY];split
    ·rename_i hlt;exact⟨h2,h3,λh=>by omega⟩
    ·rename_i hlt;rw[Vp gt];obtain⟨b1,b2,b3⟩:=EI d k (hkd k (hm k List.mem_cons_self)) (most-acc) gt gt;rw[T5 gt];obtain⟨c1,c2,c3⟩:=ih (acc+gB k (most-acc)) (λx hx=>hm x (List.mem_cons_of_mem _ hx)) gt gt;refine⟨c1,c2,λh=>?_⟩;obtain⟨d1,d2⟩:=c3 h;refine⟨by rw[i7];omega,λx hx=>?_⟩
     rcases rt hx with rfl | hx
     ·exact b3 gt
     ·exact d2 x hx
  rw[gB];obtain⟨c1,c2,c3⟩:=key kids 1 (λ_ h=>h) (Int.le_refl _) (.inr rfl);refine⟨c1,c2,λh=>?_⟩;obtain⟨d1,d2⟩:=c3 h;exact .mk gt d2
def RE{f:aX}(h:Il f=true):iy f:=(EI _ f (go _) 80 gc gc).2.2 (ww h)
def rH(s:mZ):Bool:=!(decide (100<(s.name.length:Int)))&&(!(decide (15<(s.kinds.length:Int)))&&s.kinds.all λn=>!(decide (100<(n.length:Int))))
def pH(k:aF):Bool:=!(decide (100<(k.name.length:Int)))&&(!(decide (15<(k.bZ.length:Int)))&&k.bZ.all rH)
def vl(c:List aF):Bool:=!(decide (65<(c.length:Int)))&&c.all pH
def AZ{l:List α}{x:α}(hx:x∈l)(hp:p x=false):l.all p=false:=eq_false_iff.2 λh=>by
 have:=all_eq_true.1 h x hx;rw[hp] at this;cases this
def Mm(c:List aF):PC prog 27 [.ag [an 3 c ao]] (·=au (Proofs.vl c)):=by
 refine pB 80 Tryz.func27 ?_;refine(zV) ?_;refine zZ [(1,.ip [an 3 c ao])] 0 rfl (tK @an.eq_1)<|zA [(1,.ip [an 3 c ao])] [] zH ?_
 cases g1:decide (65<(c.length:Int));rotate_left
 ·exact(aA g1)<|(cN)<|zo [.tmp 2] (hq:=by rw[Proofs.vl,g1];rfl)
 have hlen:c.length<=1000000:=by have:=wt g1;omega
 have hN:Proofs.vl c=c.all pH:=by rw[Proofs.vl,g1];rfl
 refine(aA g1)<|(jG)<|(zs) ?_;refine zL c (λk=>(c.take k).all pH=true) (λk=>[(1,.ip [an 3 c ao]),(3,aa k)]) (λk=>[]) zH zp ?_;intro k hk hall
 by_cases hlt:k<c.length;rotate_left
 ·obtain rfl:k=c.length:=by omega
  rw[ax] at hall
  exact(aA (show decide ((c.length:Int)<(c.length:Int))=false by simp))<|(fC)<|(zV)<|zo [.tmp 2] (hq:=by rw[hN,hall])
 have hd:=show decide ((k:Int)<(c.length:Int))=true by simp only[wp];omega
 obtain⟨x,hx⟩:∃x,c[k]?=some x:=⟨c[k],jp hlt⟩
 have hbad:pH x=false->Proofs.vl c=false:=λh=>by rw[hN];exact AZ (ac hx) h
 refine(aA hd)<|(gJ) ?_
 (repeat refine aD.seq ?_)
 refine(aA (cA hlt (aH (e:=3) (enc:=ao) ce hx) @ao.eq_1)) ?_;refine zZ [(1,.ip [an 3 c ao]),(3,aa k),(4,.ip [ab x.name,au x.gY,an 3 x.bZ bQ])] 0 rfl (tK @an.eq_1)<|zA [(1,.ip [an 3 c ao]),(3,aa k),(4,.ip [ab x.name,au x.gY,an 3 x.bZ bQ])] [] zH ?_
 cases j1:decide (100<(x.name.length:Int));rotate_left
 ·exact(aA j1)<|(cN)<|zo [.tmp 2] (hq:=by rw[hbad (by rw[pH,j1];rfl)])
 cases j2:decide (15<(x.bZ.length:Int));rotate_left
 ·exact(aA (br j1 j2))<|(cN)<|zo [.tmp 2] (hq:=by rw[hbad (by rw[pH,j1,j2];rfl)])
 have hkx:pH x=x.bZ.all rH:=by rw[pH,j1,j2];rfl
 have hlen2:x.bZ.length<=1000000:=by have:=wt j2;omega
 refine(aA (br j1 j2))<|(jG)<|(zs) ?_;refine zL x.bZ (λk2=>(x.bZ.take k2).all rH=true) (λk2=>[(1,.ip [an 3 c ao]),(3,aa k),(4,.ip [ab x.name,au x.gY,an 3 x.bZ bQ]),(5,aa k2)]) (λk2=>[]) zH zp ?_;intro k2 hk2 hall2
 by_cases hlt2:k2<x.bZ.length;rotate_left
 ·obtain rfl:k2=x.bZ.length:=by omega
  rw[ax] at hall2
  refine(aA (show decide ((x.bZ.length:Int)<(x.bZ.length:Int))=false by simp))<|(fC)<|(aA (zi hlt hlen)) ?_;refine zX hlt zH (mq hx hall (by rw[hkx,hall2]))
 have hd2:=show decide ((k2:Int)<(x.bZ.length:Int))=true by simp only[wp];omega
 obtain⟨y,hx2⟩:∃y,x.bZ[k2]?=some y:=⟨x.bZ[k2],jp hlt2⟩
 have hbad2:rH y=false->pH x=false:=λh=>by rw[hkx];exact AZ (ac hx2) h
 refine(aA hd2)<|(gJ) ?_
 (repeat refine aD.seq ?_)
 cases j3:decide (100<(y.name.length:Int));rotate_left
 ·exact(aA (jB hlt2 (aH (e:=3) (enc:=bQ) ce hx2) @bQ.eq_1 j3))<|(cN)<|zo [.tmp 2] (hq:=by rw[hbad (hbad2 (by rw[rH,j3];rfl))])
 cases j4:decide (15<(y.kinds.length:Int));rotate_left
 ·exact(aA (ik hlt2 (aH (e:=3) (enc:=bQ) ce hx2) @bQ.eq_1 j3 j4))<|(cN)<|zo [.tmp 2] (hq:=by rw[hbad (hbad2 (by rw[rH,j3,j4];rfl))])
 have hky:rH y=y.kinds.all λn=>!(decide (100<(n.length:Int))):=by rw[rH,j3,j4];rfl
 have hlen3:y.kinds.length<=1000000:=by have:=wt j4;omega
 refine(aA (ik hlt2 (aH (e:=3) (enc:=bQ) ce hx2) @bQ.eq_1 j3 j4))<|(jG)<|(zs) ?_;refine zL y.kinds (λk3=>((y.kinds.take k3).all λn=>!(decide (100<(n.length:Int))))=true) (λk3=>[(1,.ip [an 3 c ao]),(3,aa k),(4,.ip [ab x.name,au x.gY,an 3 x.bZ bQ]),(5,aa k2),(6,aa k3)]) (λk3=>[]) zH zp ?_;intro k3 hk3 hall3
 by_cases hlt3:k3<y.kinds.length;rotate_left
 ·obtain rfl:k3=y.kinds.length:=by omega
  rw[ax] at hall3
  refine(aA (jB hlt2 (aH (e:=3) (enc:=bQ) ce hx2) @bQ.eq_1 (show decide ((y.kinds.length:Int)<(y.kinds.length:Int))=false by simp)))<|(fC)<|(aA (zi hlt2 hlen2)) ?_;refine zX hlt2 zH (mq hx2 hall2 (by rw[hky,hall3]))
 have hd3:=show decide ((k3:Int)<(y.kinds.length:Int))=true by simp only[wp];omega
 obtain⟨z,hx3⟩:∃z,y.kinds[k3]?=some z:=⟨y.kinds[k3],jp hlt3⟩
 refine(aA (jB hlt2 (aH (e:=3) (enc:=bQ) ce hx2) @bQ.eq_1 hd3))<|(gJ) ?_
 cases j5:decide (100<(z.length:Int));rotate_left
 ·exact(aA (Af hlt2 (aH (e:=3) (enc:=bQ) ce hx2) @bQ.eq_1 hlt3 (aH (e:=1) (enc:=aw ab) ce hx3) @aw.eq_1 j5))<|(cN)<|zo [.tmp 2] (hq:=by rw[hbad (hbad2 (by rw[hky];exact AZ (ac hx3) (by rw[j5];rfl)))])
 refine(aA (Af hlt2 (aH (e:=3) (enc:=bQ) ce hx2) @bQ.eq_1 hlt3 (aH (e:=1) (enc:=aw ab) ce hx3) @aw.eq_1 j5))<|(zN)<|(aA (zi hlt3 hlen3)) ?_;refine zX hlt3 zH (mq hx3 hall3 (by rw[j5];rfl))
structure VB (e:bj):Prop where
 part:∀b∈e.part,b<256
 kind:∀b∈e.kind,b<256
 aO:∀b∈e.aO,b<256
 slot:∀b∈e.slot,b<256
 key:∀b∈e.key,b<256
 value:∀b∈e.value,b<256
variable{c:List aF}
def RF(h:vl c=true)(hb:∀k∈c,(∀b∈k.name,b<256)/\∀s∈k.bZ,∀b∈s.name,b<256):kq c:=by
 unfold vl at h;simp only[ba,ej,wd,all_eq_true] at h
 have hk:∀k∈c,k.name.length<=100/\k.bZ.length<=15/\∀s∈k.bZ,s.name.length<=100/\s.kinds.length<=15:=λk hk=>by
  have:=h.2 k hk;unfold pH at this;simp only[ba,ej,wd,all_eq_true] at this;refine⟨by omega,by omega,λs hs=>?_⟩;have:=this.2.2 s hs;unfold rH at this;simp only[ba,ej,wd] at this;omega
 exact⟨by omega,λk h1=>⟨⟨by have:=hk k h1;omega,(hb k h1).1⟩,by have:=hk k h1;omega⟩,λk h1 s hs=>⟨⟨by have:=(hk k h1).2.2 s hs;omega,(hb k h1).2 s hs⟩,by have:=(hk k h1).2.2 s hs;omega⟩⟩
def rG(e:bj):Bool:=decide ((e.part.length:Int)<=300)&&(decide ((e.kind.length:Int)<=300)&&(decide ((e.aO.length:Int)<=300)&&(decide ((e.slot.length:Int)<=300)&&(decide ((e.key.length:Int)<=300)&&decide ((e.value.length:Int)<=300)))))
def HA(e:bj):PC prog 59 [.ag (aE e)] (·=au (rG e)):=by
 refine pB 37 Tryz.func59 ?_;rw[ew];unfold rG;refine(zV) ?_;cases g1:decide ((e.part.length:Int)<=300)
 ·exact(aA g1)<|zo [.tmp 2]
 cases g2:decide ((e.kind.length:Int)<=300)
 ·exact(aA (br g1 g2))<|zo [.tmp 2]
 cases g3:decide ((e.aO.length:Int)<=300)
 ·exact(aA (cA g1 g2 g3))<|zo [.tmp 2]
 cases g4:decide ((e.slot.length:Int)<=300)
 ·exact(aA (jB g1 g2 g3 g4))<|zo [.tmp 2]
 cases g5:decide ((e.key.length:Int)<=300)
 ·exact(aA (ik g1 g2 g3 g4 g5))<|zo [.tmp 2]
 exact(aA (ik g1 g2 g3 g4 g5))<|zo [.tmp 2]
def rP(l:List bj)(most:Int):Bool:=(l.take (most+1).toNat).all rG&&decide ((l.length:Int)<=most)
def TB{l:List α}{n:Nat}{k:Nat}{x:α}(hx:l[k]?=some x)(hk:k<n)(hp:p x=false):(l.take n).all p=false:=by
 refine eq_false_iff.2 λh=>?_;have:=all_eq_true.1 h x (by rw[e6];exact⟨k,by rw[cv,t8 hk];exact hx⟩);rw[hp] at this;cases this
def qH{l:List α}{n k:Nat}(h:(l.take k).all p=true)(hk:n<=k\/l.length<=k):(l.take n).all p=true:=by
 rw[all_eq_true] at h ⊢;intro x hx;refine h x ?_;rw[e6] at hx ⊢;obtain⟨i,hi⟩:=hx;rw[cv] at hi;split at hi
 ·rename_i h1;have:=aR hi;exact⟨i,by rw[cv,t8 gt];exact hi⟩
 ·cases hi
def Mn(l:List bj)(most:Int)(hm:0<=most)(hlen:l.length<=nD):PC prog 29 [an 14 l aE,aa most] (·=au (Proofs.rP l most)):=by
 refine pB 27 Tryz.func29 ?_;refine(nP) ?_
 have hfin:∀k,(l.take k).all rG=true->(l.length<=k\/most<(k:Int))->Proofs.rP l most=decide ((l.length:Int)<=most):=λk h hk=>by
  rw[Proofs.rP,qH h gt,c4]
 refine(zs) ?_;refine zL l (λk=>(l.take k).all rG=true) (λk=>[(0,an 14 l aE),(1,aa most),(5,aa k)]) (λk=>[]) zH zp ?_;intro k hk hall;by_cases hlt:k<l.length;rotate_left
 ·exact(aA (show decide ((k:Int)<(l.length:Int))=false by simp only[wd];omega))<|(fC)<|(zV)<|zo [.tmp 4] (hq:=by rw[hfin k hall gt])
 have hd:=show decide ((k:Int)<(l.length:Int))=true by simp only[wp];omega
 obtain⟨x,hx⟩:∃x,l[k]?=some x:=⟨l[k],jp hlt⟩;cases g:decide ((k:Int)<=most)
 ·refine(aA (br hd g))<|(fC) ?_
  have:=wt g
  exact(zV)<|zo [.tmp 4] (hq:=by rw[hfin k hall gt])
 refine(aA (br hd g))<|(gJ) ?_
 have hg:=ww g
 refine(jH (br hlt (aH (e:=14) (enc:=aE) ce hx)))<|(zK (HA x)) ?_
 cases hs:rG x
 ·exact(zR)<|(cN)<|zo [.tmp 4] (hq:=by rw[show Proofs.rP l most=false by rw[Proofs.rP,TB hx gt hs];rfl])
 refine(zR)<|(zN)<|(aA (zi hlt hlen)) ?_;refine zX hlt zH (mq hx hall hs)
def vm(l:List aN)(most:Int):Bool:=if (l.length:Int)<=most then l.all λr=>Proofs.rP r.opts 6 else false
def Mp(l:List aN)(most:Int)(hlen:l.length<=nD)(ho:∀r∈l,r.opts.length<=nD):PC prog 13 [an 2 l ae,aa most] (·=au (Proofs.vm l most)):=by
 refine pB 29 Tryz.func13 ?_;refine(nP) ?_;cases hm:decide ((l.length:Int)<=most)
 ·refine(zs) ?_;refine zL l (λk=>True) (λk=>[(0,an 2 l ae),(1,aa most),(5,aa k)]) (λk=>[]) zH zp ?_;intro k hk hall;cases hb:decide ((k:Int)<(l.length:Int))
  ·exact(aA hb)<|(fC)<|(aA hm)<|zo [.tmp 4] (hq:=by rw[Proofs.vm,ul (wt hm)])
  ·exact(aA (br hb hm))<|(fC)<|(aA hm)<|zo [.tmp 4] (hq:=by rw[Proofs.vm,ul (wt hm)])
 have hN:Proofs.vm l most=l.all λr=>Proofs.rP r.opts 6:=by rw[Proofs.vm,t8 (ww hm)]
 refine(zs) ?_;refine zL l (λk=>((l.take k).all λr=>Proofs.rP r.opts 6)=true) (λk=>[(0,an 2 l ae),(1,aa most),(5,aa k)]) (λk=>[]) zH zp ?_;intro k hk hall;by_cases hlt:k<l.length;rotate_left
 ·refine(aA (show decide ((k:Int)<(l.length:Int))=false by simp only[wd];omega))<|(fC) ?_
  have h1:=qH (n:=l.length) hall gt;rw[ax] at h1
  exact(aA hm)<|zo [.tmp 4] (hq:=by rw[hN,h1])
 have hd:=show decide ((k:Int)<(l.length:Int))=true by simp only[wp];omega
 obtain⟨x,hx⟩:∃x,l[k]?=some x:=⟨l[k],jp hlt⟩
 refine(aA (br hd hm))<|(gJ)<|(jH (cA hlt (aH (e:=2) (enc:=ae) ce hx) @ae.eq_1))<|(zK (Mn x.opts 6 gc (ho x (ac hx)))) ?_
 cases hs:Proofs.rP x.opts 6
 ·exact(zR)<|(cN)<|zo [.tmp 4] (hq:=by rw[hN,show(l.all λr=>Proofs.rP r.opts 6)=false from eq_false_iff.2 λh=>by have:=all_eq_true.1 h x (ac hx);rw[hs] at this;cases this])
 refine(zR)<|(zN)<|(aA (zi hlt hlen)) ?_;refine zX hlt zH (mq hx hall hs)
def pZ(ws:List Wy)(c:Co):Bool:=decide ((ws.length:Int)<=6)&&(ws.all (λw=>decide ((w.kind.length:Int)+(w.cX.length:Int)<=300))&&decide ((c.part.length:Int)+(c.owner.length:Int)<=300))
def CP(ws:List Wy)(c:Co)(hlen:ws.length<=nD)(hw:∀w∈ws,w.kind.length<=nD/\w.cX.length<=nD)(hc:c.part.length<=nD/\c.owner.length<=nD):PC prog 11 [an 5 ws bJ,.ag (c8 c)] (·=au (Proofs.pZ ws c)):=by
 refine pB 44 Tryz.func11 ?_;rw[eN]
 refine(zV) ?_;refine zZ [(0,an 5 ws bJ),(3,.ip [ab c.part,ab c.owner,aa c.day,aa c.am])] 0 rfl (tK @an.eq_1)<|zA [(0,an 5 ws bJ),(3,.ip [ab c.part,ab c.owner,aa c.day,aa c.am])] [] zH<|(zV) ?_
 have hca:=qT (P:=prog) (t:=3) (show -9223372036854775808<=(c.part.length:Int)+(c.owner.length:Int)/\(c.part.length:Int)+(c.owner.length:Int)<=9223372036854775807 from by unfold nD at hc;omega);cases hm:decide ((ws.length:Int)<=6)
 ·refine(zs) ?_;refine aD.block (aD.loop (λm st=>∃k:Nat,k<=ws.length/\m=ws.length-k/\(True)/\st=⟨[(0,an 5 ws bJ),(3,.ip [ab c.part,ab c.owner,aa c.day,aa c.am]),(5,aa k)],44,[],[]⟩) ws.length (Fg.less Ye Zy) ⟨0,be _,rfl,(by first | exact λi y h=>t7 h (dl _) | trivial | rfl | assumption),rfl⟩ (by rintro m st ⟨k,_,_,_,rfl⟩;rfl) ?_);rintro m st ⟨k,hk,rfl,hall,rfl⟩
  have hN:Proofs.pZ ws c=false:=by rw[Proofs.pZ,hm];rfl
  cases hb:decide ((k:Int)<(ws.length:Int))
  ·refine(zs) ?_;refine aD.r0 ge (fF hb) ?_;refine(fC)<|(zs) ?_;refine aD.r0 ge (fF hm) ?_;refine(zE) ?_;exact ue.of (rs:=[.tmp 4]) rfl rfl zl (Wk.refl rfl) (by (try simp only[dA,aY]);first | done | (rw[hN]))
  ·refine(zs) ?_;refine aD.r0 ge (fF (br hb hm)) ?_;refine(fC)<|(zs) ?_;refine aD.r0 ge (fF hm) ?_;refine(zE) ?_;exact ue.of (rs:=[.tmp 4]) rfl rfl zl (Wk.refl rfl) (by (try simp only[dA,aY]);first | done | (rw[hN]))
 refine(zs) ?_;refine aD.block (aD.loop (λm st=>∃k:Nat,k<=ws.length/\m=ws.length-k/\(((ws.take k).all λw=>decide ((w.kind.length:Int)+(w.cX.length:Int)<=300))=true)/\st=⟨[(0,an 5 ws bJ),(3,.ip [ab c.part,ab c.owner,aa c.day,aa c.am]),(5,aa k)],44,[],[]⟩) ws.length (Fg.less Ye Zy) ⟨0,be _,rfl,(by first | exact λi y h=>t7 h (dl _) | trivial | rfl | assumption),rfl⟩ (by rintro m st ⟨k,_,_,_,rfl⟩;rfl) ?_);rintro m st ⟨k,hk,rfl,hall,rfl⟩;by_cases hlt:k<ws.length;rotate_left
 ·refine(zs) ?_;refine aD.r0 ge (fF (show decide ((k:Int)<(ws.length:Int))=false by simp only[wd];omega)) ?_;refine(fC) ?_;have h1:=qH (n:=ws.length) hall gt;rw[ax] at h1;refine(zs) ?_;refine aD.r0 ge (fF (br hm hca)) ?_;refine(zE) ?_;exact ue.of (rs:=[.tmp 4]) rfl rfl zl (Wk.refl rfl) (by (try simp only[dA,aY]);first | done | (rw[Proofs.pZ,hm,h1];rfl))
 have hd:=show decide ((k:Int)<(ws.length:Int))=true by simp only[wp];omega
 obtain⟨x,hx⟩:∃x,ws[k]?=some x:=⟨ws[k],jp hlt⟩;have hwx:=hw x (ac hx);have hwa:=qT (P:=prog) (t:=3) (show -9223372036854775808<=(x.kind.length:Int)+(x.cX.length:Int)/\(x.kind.length:Int)+(x.cX.length:Int)<=9223372036854775807 from by unfold nD at hwx;omega);refine(zs) ?_;refine aD.r0 ge (fF (br hd hm)) ?_;refine(gJ) ?_;cases hs:decide ((x.kind.length:Int)+(x.cX.length:Int)<=300)
 ·refine(zs) ?_;refine aD.Ru (ms:=[0,0,3,7,15,31,0,0,192,448,960,1984,4095,8191]) rfl zW zW ?_
  (repeat (first | refine SD.r ge rfl ge ge (fF (ik hlt (aH (e:=5) (enc:=bJ) ce hx) @my hwa (show decide (300<(x.kind.length:Int)+(x.cX.length:Int))=true by simp only[wp];have:=wt hs;omega))) ?_ | refine SD.s ge rfl ge ge ?_ | fail))
  refine(zM)<|(cN)<|(zE) ?_;exact ue.of (rs:=[.tmp 4]) rfl rfl zl (Wk.refl rfl) (by (try simp only[dA,aY]);first | done | (rw[Proofs.pZ,hm,show(ws.all λw=>decide ((w.kind.length:Int)+(w.cX.length:Int)<=300))=false from eq_false_iff.2 λh=>by have:=all_eq_true.1 h x (ac hx);rw[hs] at this;cases this];rfl))
 ·refine(zs) ?_;refine aD.Ru (ms:=[0,0,3,7,15,31,0,0,192,448,960,1984,4095,8191]) rfl zW zW ?_
  (repeat (first | refine SD.r ge rfl ge ge (fF (ik hlt (aH (e:=5) (enc:=bJ) ce hx) @my hwa (show decide (300<(x.kind.length:Int)+(x.cX.length:Int))=false by simp only[wd];have:=ww hs;omega))) ?_ | refine SD.s ge rfl ge ge ?_ | fail))
  refine(zM)<|(zN)<|(aA (zi hlt hlen)) ?_;refine zX hlt zH (mq hx hall hs)
def Lv(a b:Int):Bool:=decide (0<=a)&&(decide (a<=b)&&decide (b<=1000000))
def yr(a b:Int):PC prog 217 [.ag [aa a,aa b]] (·=au (Proofs.Lv a b)):=by
 refine pB 18 Tryz.func217 ?_;unfold Proofs.Lv;refine(zV) ?_;cases g1:decide (0<=a)
 ·exact(aA g1)<|zo [.tmp 2]
 cases g2:decide (a<=b)
 ·exact(aA (br g1 g2))<|zo [.tmp 2]
 exact(aA (br g1 g2))<|zo [.tmp 2]
def Oy(u:jj):Bool:=Proofs.Lv u.u1 u.u2&&(Proofs.Lv u.u3 u.u4&&Proofs.Lv u.u5 u.u6)
def MZ(u:jj):PC prog 169 [.ag (eG u)] (·=au (Proofs.Oy u)):=by
 refine pB 16 Tryz.func169 ?_;unfold Proofs.Oy
 refine(aA @eG.eq_1)<|(zC)<|(zK (yr u.u1 u.u2)) ?_
 cases g1:Proofs.Lv u.u1 u.u2
 ·exact(zR)<|zo [.tmp 2]
 refine(zQ)<|(zK (yr u.u3 u.u4)) ?_
 cases g2:Proofs.Lv u.u3 u.u4
 ·exact(zR)<|zo [.tmp 2]
 exact(zQ)<|(zK (yr u.u5 u.u6))<|(zR)<|zo [.tmp 2]
def uN(x y:bj):cW prog .eql 58 (.agg [.int .i64 x.op,.int .i64 x.day,.str x.part,.str x.kind,.str x.aO,.str x.slot,.str x.key,.str x.value,.int .i64 x.u1,.int .i64 x.u2,.int .i64 x.u3,.int .i64 x.u4,.int .i64 x.u5,.int .i64 x.u6]) (.agg [.int .i64 y.op,.int .i64 y.day,.str y.part,.str y.kind,.str y.aO,.str y.slot,.str y.key,.str y.value,.int .i64 y.u1,.int .i64 y.u2,.int .i64 y.u3,.int .i64 y.u4,.int .i64 y.u5,.int .i64 y.u6])=some (.bool (decide (x=y))):=Fh x y
def jD(e:bj):bj:=
 if e.op=1 then ⟨e.op,e.day,e.part,e.kind,[],[],[],[],0,0,0,0,0,0⟩
 else if e.op=2 then ⟨e.op,e.day,e.part,[],e.aO,e.slot,[],[],0,0,0,0,0,0⟩
 else if e.op=4 then ⟨e.op,e.day,e.part,[],[],[],[],[],e.u1,e.u2,e.u3,e.u4,e.u5,e.u6⟩
 else if e.op=6 then ⟨e.op,e.day,e.part,[],[],[],e.key,e.value,0,0,0,0,0,0⟩
 else ⟨e.op,e.day,e.part,[],[],[],[],[],0,0,0,0,0,0⟩
def kX(e:bj):Bool:=
 if e.op=1 then cB e.kind
 else if e.op=2 then cB e.aO&&(cB e.slot&&!(decide (e.aO=e.part)))
 else if e.op=4 then Proofs.Oy (pk e)
 else if e.op=6 then cB e.key&&(decide (1<=(e.value.length:Int))&&decide ((e.value.length:Int)<=200))
 else true
def lB(e:bj):Bool:=!(decide (e.op<1))&&(!(decide (7<e.op))&&(!(decide (e.day<0))&&(!(decide (40000<e.day))&&(cB e.part&&(kX e&&decide (jD e=e))))))
def HE(e:bj)(he:rY e):PC prog 115 [.ag (aE e)] (·=au (Proofs.lB e)):=by
 refine pB 106 Tryz.func115 ?_;rw[ew];refine(zV) ?_;cases h1:decide (e.op<1);rotate_left
 ·exact(aA h1)<|(cN)<|zo [.tmp 2] (hq:=by rw[Proofs.lB,h1];rfl)
 cases h2:decide (7<e.op);rotate_left
 ·exact(aA (br h1 h2))<|(cN)<|zo [.tmp 2] (hq:=by rw[Proofs.lB,h1,h2];rfl)
 cases h3:decide (e.day<0);rotate_left
 ·exact(aA (cA h1 h2 h3))<|(cN)<|zo [.tmp 2] (hq:=by rw[Proofs.lB,h1,h2,h3];rfl)
 cases h4:decide (40000<e.day);rotate_left
 ·exact(aA (jB h1 h2 h3 h4))<|(cN)<|zo [.tmp 2] (hq:=by rw[Proofs.lB,h1,h2,h3,h4];rfl)
 refine(jH (jB h1 h2 h3 h4))<|(zK (lA e.part he.part.1)) ?_
 cases h5:cB e.part
 ·exact(zR)<|(cN)<|zo [.tmp 2] (hq:=by rw[Proofs.lB,h1,h2,h3,h4,h5];rfl)
 refine(zR)<|(zN) ?_
 have hv:Proofs.lB e=(kX e&&decide (jD e=e)):=by rw[Proofs.lB,h1,h2,h3,h4,h5];rfl
 clear h1 h2 h3 h4 h5
 refine(nP)<|(zV) ?_
 (repeat refine aD.seq ?_)
 refine aD.mono (Q:=λex st=>ex=.normal/\Fg st ⟨[(1,.ptr 0 0),(3,.ptr 1 0),(4,au (kX e))],106,[.cells (aE e),.cells (aE (jD e))],[]⟩) ?_ ?_;rotate_left
 ·rintro ex st ⟨rfl,hf⟩;change aD _ _ _ _ _;refine aD.fg hf ?_;rw[hv];cases hg:kX e
  ·exact(zV)<|zo [.tmp 2]
  ·exact(aA (br @aE.eq_1 (uN (jD e) e)))<|zo [.tmp 2]
 have hrest:∀a1 a2 a3 a4 a5 a6 a7 a8 a9 a10 a11 a12 a13 a14,jD e=(⟨a1,a2,a3,a4,a5,a6,a7,a8,a9,a10,a11,a12,a13,a14⟩:bj)->aE (jD e)=[aa a1,aa a2,ab a3,ab a4,ab a5,ab a6,ab a7,ab a8,aa a9,aa a10,aa a11,aa a12,aa a13,aa a14]:=by
  intros;simp only[*,aE]
 refine aD.block ?_;refine(zV) ?_;cases k1:decide (e.op=1);rotate_left
 ·have k1':=ww k1;have hr:=hrest _ _ _ _ _ _ _ _ _ _ _ _ _ _ (show jD e=_ by unfold jD;rw[t8 k1'])
  have hgd:kX e=cB e.kind:=by unfold kX;rw[t8 k1']
  refine(cN)<|(zC)<|(zK (lA e.kind he.kind.1))<|(zR) ?_;refine⟨rfl,?_⟩
  rw[hr,hgd,ew];exact zH
 have n1:=wt k1;refine(jG) ?_;cases k2:decide (e.op=2);rotate_left
 ·have k2':=ww k2;have hr:=hrest _ _ _ _ _ _ _ _ _ _ _ _ _ _ (show jD e=_ by unfold jD;rw[ul n1,t8 k2'])
  have hgd:kX e=(cB e.aO&&(cB e.slot&&!(decide (e.aO=e.part)))):=by unfold kX;rw[ul n1,t8 k2']
  rw[hgd,hr,ew]
  refine(cN)<|(lJ)<|(zK (lA e.aO he.aO.1)) ?_
  cases j1:cB e.aO
  ·refine(zR) ?_;refine⟨rfl,?_⟩;exact zH
  refine(zQ)<|(zK (lA e.slot he.slot.1)) ?_
  cases j2:cB e.slot
  ·refine(zR) ?_;refine⟨rfl,?_⟩;exact zH
  refine(zR) ?_;refine⟨rfl,?_⟩;exact zH
 have n2:=wt k2;refine(jG) ?_;cases k4:decide (e.op=4);rotate_left
 ·have k4':=ww k4;have hr:=hrest _ _ _ _ _ _ _ _ _ _ _ _ _ _ (show jD e=_ by unfold jD;rw[ul n1,ul n2,t8 k4'])
  have hgd:kX e=Proofs.Oy (pk e):=by unfold kX;rw[ul n1,ul n2,t8 k4']
  rw[hgd,hr,ew]
  refine(cN)<|(zC)<|(zK (MZ (pk e)))<|(zR) ?_;refine⟨rfl,?_⟩;exact zH
 have n4:=wt k4;refine(jG) ?_;cases k6:decide (e.op=6);rotate_left
 ·have k6':=ww k6;have hr:=hrest _ _ _ _ _ _ _ _ _ _ _ _ _ _ (show jD e=_ by unfold jD;rw[ul n1,ul n2,ul n4,t8 k6'])
  have hgd:kX e=(cB e.key&&(decide (1<=(e.value.length:Int))&&decide ((e.value.length:Int)<=200))):=by unfold kX;rw[ul n1,ul n2,ul n4,t8 k6']
  rw[hgd,hr,ew]
  refine(cN)<|(lJ)<|(zK (lA e.key he.key.1)) ?_
  cases j1:cB e.key
  ·refine(zR) ?_;refine⟨rfl,?_⟩;exact zH
  cases j2:decide (1<=(e.value.length:Int))
  ·refine(cO j2) ?_;refine⟨rfl,?_⟩;exact zH
  refine(cO j2) ?_;refine⟨rfl,?_⟩;exact zH
 have n6:=wt k6;have hr:=hrest _ _ _ _ _ _ _ _ _ _ _ _ _ _ (show jD e=_ by unfold jD;rw[ul n1,ul n2,ul n4,ul n6])
 have hgd:kX e=true:=by unfold kX;rw[ul n1,ul n2,ul n4,ul n6]
 rw[hgd,hr,ew];refine(zN) ?_
 (try (refine aD.skip ?_))
 refine⟨rfl,?_⟩;exact zH
def Jg(l:List bj)(i:Nat):Bool:=match l[i]? with
 | some y=>Proofs.lB y&&(l.take i).all λx=>!(decide (x=y))
 | none=>true
def nB(r:aN):Bool:=!(decide ((r.opts.length:Int)<1))&&(!(decide (4<(r.opts.length:Int)))&&(hQ r.opts.length).all (Jg r.opts))
def HF(r:aN)(hr:eu r):PC prog 60 [.ag (ae r)] (·=au (Proofs.nB r)):=by
 refine pB 45 Tryz.func60 ?_;refine(aA @ae.eq_1) ?_;refine zZ [(1,.ip [an 14 r.opts aE,au r.sd])] 0 rfl (tK @an.eq_1)<|zA [(1,.ip [an 14 r.opts aE,au r.sd])] [] zH ?_
 cases g1:decide ((r.opts.length:Int)<1);rotate_left
 ·exact(aA g1)<|(cN)<|zo [.tmp 2] (hq:=by rw[Proofs.nB,g1];rfl)
 cases g2:decide (4<(r.opts.length:Int));rotate_left
 ·exact(aA (br g1 g2))<|(cN)<|zo [.tmp 2] (hq:=by rw[Proofs.nB,g1,g2];rfl)
 have hN:Proofs.nB r=(hQ r.opts.length).all (Jg r.opts):=by rw[Proofs.nB,g1,g2];rfl
 have hlen:=hr.len
 refine(aA (br g1 g2))<|(jG)<|(zs) ?_;refine zL r.opts (λk=>(hQ k).all (Jg r.opts)=true) (λk=>[(1,.ip [an 14 r.opts aE,au r.sd]),(3,aa k)]) (λk=>[]) zH zp ?_;intro k hk hall
 by_cases hlt:k<r.opts.length;rotate_left
 ·obtain rfl:k=r.opts.length:=by omega
  exact(aA (show decide ((r.opts.length:Int)<(r.opts.length:Int))=false by simp))<|(fC)<|(zV)<|zo [.tmp 2] (hq:=by rw[hN,hall])
 have hd:=show decide ((k:Int)<(r.opts.length:Int))=true by simp only[wp];omega
 obtain⟨y,hx⟩:∃x,r.opts[k]?=some x:=⟨r.opts[k],jp hlt⟩
 have hoy:Jg r.opts k=(Proofs.lB y&&(r.opts.take k).all λx=>!(decide (x=y))):=by unfold Jg;rw[hx]
 have hbad:Jg r.opts k=false->Proofs.nB r=false:=λh=>by
  rw[hN];refine eq_false_iff.2 λh2=>?_;have:=all_eq_true.1 h2 k (List.mem_range.2 hlt);rw[h] at this;cases this
 refine(aA hd)<|(gJ) ?_
 (repeat refine aD.seq ?_)
 refine(jH (br hlt (aH (e:=14) (enc:=aE) ce hx)))<|(zK (HE y (hr.ev y (ac hx)))) ?_
 cases hs:Proofs.lB y
 ·exact(zR)<|(cN)<|zo [.tmp 2] (hq:=by rw[hbad (by rw[hoy,hs];rfl)])
 rw[hs,c4] at hoy
 refine(zR)<|(jG) ?_
 have htl:(r.opts.take k).length=k:=by rw[ct];omega
 refine(zs) ?_;refine zL (r.opts.take k) (λk2=>(((r.opts.take k).take k2).all λx=>!(decide (x=y)))=true) (λk2=>[(1,.ip [an 14 r.opts aE,au r.sd]),(3,aa k),(4,aa k2)]) (λk2=>[]) zH zp ?_;intro k2 hk2 hall2;by_cases hlt2:k2<(r.opts.take k).length;rotate_left
 ·have hk2:k2=k:=by omega
  refine(aA (show decide ((k2:Int)<(k:Int))=false by simp only[wd];omega))<|(fC) ?_
  have h1:=qH (n:=(r.opts.take k).length) hall2 gt;rw[ax] at h1
  have hnx:(hQ (k+1)).all (Jg r.opts)=true:=by
   rw[List.range_succ,fx,hall,c4];show(Jg r.opts k&&true)=true;rw[hoy,h1];rfl
  refine(aA (zi hlt hlen)) ?_;refine zX hlt zH hnx
 obtain⟨x,hx2⟩:∃x,(r.opts.take k)[k2]?=some x:=⟨(r.opts.take k)[k2],jp hlt2⟩
 have hx3:r.opts[k2]?=some x:=by
  rw[cv] at hx2;split at hx2
  ·exact hx2
  ·cases hx2
 have hlt3:k2<r.opts.length:=by omega
 have hlen2:(r.opts.take k).length<=1000000:=by omega
 refine(aA (show decide ((k2:Int)<(k:Int))=true by simp only[wp];omega))<|(gJ) ?_
 cases he:decide (x=y)
 ·refine(zs) ?_;refine uW [0,1,0,7,15,0,32,0,224,480,1023] ?_;refine(tT (Af hlt hlt3 (aH (e:=14) (enc:=aE) ce hx) (aH (e:=14) (enc:=aE) ce hx3) @aE.eq_1 (uN x y) he))<|(zM)<|(zN)<|(aA (zi hlt2 hlen2)) ?_;refine zX hlt2 zH (mq hx2 hall2 (by rw[he];rfl))
 ·refine(zs) ?_;refine uW [0,1,0,7,15,0,32,0,224,480,1023] ?_;exact(tT (Af hlt hlt3 (aH (e:=14) (enc:=aE) ce hx) (aH (e:=14) (enc:=aE) ce hx3) @aE.eq_1 (uN x y) he))<|(zM)<|(cN)<|zo [.tmp 2] (hq:=by rw[hbad (by rw[hoy];refine eq_false_iff.2 λh=>?_;have:=all_eq_true.1 h x (ac hx2);rw[he] at this;cases this)])
def eW(r:aN):Int:=if Proofs.nB r=false then 0 else if r.sd=true then (r.opts.length:Int)+1 else r.opts.length
def FN(r:aN):eW r<=5/\0<=eW r:=by
 unfold eW;split
 ·omega
 ·rename_i h;have h4:¬4<(r.opts.length:Int):=λhg=>h (by rw[Proofs.nB,ut hg];cases decide ((r.opts.length:Int)<1)<;>rfl);split<;>omega
def CK(r:aN)(hr:eu r):PC prog 30 [.ag (ae r)] (·=aa (Proofs.eW r)):=by
 refine pB 15 Tryz.func30 ?_;have hlen:=hr.len
 refine(aA @ae.eq_1)<|(zC)<|(zK (HF r hr)) ?_
 cases h:Proofs.nB r
 ·exact(zR)<|(cN)<|zo [.tmp 2] (hq:=by rw[Proofs.eW,t8 h])
 have hN:Proofs.eW r=if r.sd=true then (r.opts.length:Int)+1 else r.opts.length:=by rw[Proofs.eW,ul (by rw[h];decide)]
 refine(zR)<|(zN) ?_
 cases hd:r.sd
 ·rw[hd] at hN
  exact(KS)<|(zV)<|zo [.tmp 2] (hq:=by rw[hN];rfl)
 ·rw[hd] at hN
  refine(Ab)<|(zs) ?_;refine aD.r0 ge (fF (bA (r.opts.length:Int) 1 gt)) ?_;refine(zE) ?_;exact ue.of (rs:=[.tmp 2]) rfl rfl zl (Wk.refl rfl) (by (try simp only[dA,aY]);first | done | (rw[hN];rfl))
def uU(most:Int):List aN->Int->Int
 | [],n=>n
 | r::l,n=>if n<=most then uU most l (n*dM 1 (eW r)) else n
def Kz(l:List aN)(most:Int)(hm:most<=1000)(hl:∀r∈l,eu r)(hlen:l.length<=1000000):PC prog 14 [an 2 l ae,aa most] (·=aa (Proofs.uU most l 1)):=by
 refine pB 27 Tryz.func14 ?_;refine(nP)<|(zV)<|(zs) ?_;refine QB l (λk (n:Int)=>(Proofs.uU most l 1=Proofs.uU most (l.drop k) n/\0<=n/\n<=1000000)) (λk n=>[(0,an 2 l ae),(1,aa most),(5,aa n),(6,aa k)]) (λk n=>[]) (1) zH (by exact⟨rfl,by decide,by decide⟩) ?_;intro k n hk hall
 obtain⟨hw,hn0,hn1⟩:=hall;by_cases hlt:k<l.length;rotate_left
 ·refine(aA (show decide ((k:Int)<(l.length:Int))=false by simp only[wd];omega))<|(fC) ?_
  rw[bk gt,Proofs.uU] at hw
  exact(zV)<|zo [.tmp 4] (hq:=by rw[hw])
 have hd:=show decide ((k:Int)<(l.length:Int))=true by simp only[wp];omega
 obtain⟨x,hx⟩:∃x,l[k]?=some x:=⟨l[k],jp hlt⟩;rw[gm hx,Proofs.uU] at hw;cases g:decide (n<=most)
 ·rw[ul (wt g)] at hw
  exact(aA (br hd g))<|(fC)<|(zV)<|zo [.tmp 4] (hq:=by rw[hw])
 rw[t8 (ww g)] at hw;have hg:=ww g;have hc:=FN x
 have hmx:0<=dM 1 (Proofs.eW x)/\dM 1 (Proofs.eW x)<=5:=by unfold dM;split<;>omega
 have hch:=CK x (hl x (ac hx))
 have hnm:0<=n*dM 1 (Proofs.eW x)/\n*dM 1 (Proofs.eW x)<=1000000:=by
  refine⟨Int.mul_nonneg hn0 hmx.1,?_⟩;have h1:=Int.mul_le_mul_of_nonneg_left hmx.2 hn0;omega
 refine(aA (br hd g))<|(gJ)<|(jH (cA hlt (aH (e:=2) (enc:=ae) ce hx) @ae.eq_1))<|(zK hch) ?_;refine aJ.r0 ge (fF (br @gp (bM n (dM 1 (Proofs.eW x)) gt))) ?_;refine(aA (zi hlt hlen)) ?_;refine Fv hlt ((n*dM 1 (Proofs.eW x))) zH (⟨hw,hnm.1,hnm.2⟩)
def Bt(c:List aF)(dmg:aX):Bool:=Proofs.vl c&&Proofs.Il dmg
def Mo(c:List aF)(dmg:aX)(hf:kO dmg):PC prog 12 [.ag (an 3 c ao::aC dmg),.sl 0 14 [],aa 0] (·=au (Proofs.Bt c dmg)):=by
 have hfl:(aC dmg).length=3:=fi dmg;have hft:(aC dmg).take 3=aC dmg:=ay (by rw[hfl];exact ad _);have hfk:=λo:Nat=>bL (o:=o) (aL dmg);have hfn:=λo:Nat=>dX (o:=o) (aL dmg)
 refine pB 69 Tryz.func12 ?_;refine(aA (br hfk hfn)) ?_;refine zZ [(1,.sl 0 14 []),(2,aa 0),(3,.ip (an 3 c ao::aC dmg))] 0 rfl ⟨.inl rfl,.inl rfl,.inr (.ptr rfl (cS.refl (aL dmg)) (be _)),trivial⟩<|zA [(1,.sl 0 14 []),(2,aa 0),(3,.ip (an 3 c ao::aC dmg))] [] zH<|(zC)<|(zK (Mm c)) ?_
 cases g1:Proofs.vl c
 ·exact(zR)<|(cN)<|zo [.tmp 6] (hq:=by rw[Proofs.Bt,g1];rfl)
 refine(Wh (br hfl hft))<|(zK (Ml dmg hf) (hwk:=cS.cons (.ag (cS.refl (aL dmg))) .nil)) ?_
 cases g2:Proofs.Il dmg
 ·exact(zR)<|(cN)<|zo [.tmp 6] (hq:=by rw[Proofs.Bt,g1,g2];rfl)
 refine(zR)<|(jG)<|(zs) ?_;refine zL ([]:List bj) (λk=>True) (λk=>[(1,.sl 0 14 []),(7,aa k)]) (λk=>[]) zH zp ?_;intro k hk hall
 obtain rfl:k=0:=Nat.le_zero.1 hk
 refine(KS) ?_;refine aD.exit ?_;exact(zV)<|zo [.tmp 6] (hq:=by rw[Proofs.Bt,g1,g2];rfl)
def Pg{l:List bj}(h:rP l 6=true):l.length<=6/\∀e∈l,rG e=true:=by
 unfold rP at h;rw[ba] at h;have h2:=ww h.2
 have h1:l.length<=6:=by omega
 refine⟨h1,λe he=>?_⟩;have:=qH (n:=l.length) (k:=(6+1:Int).toNat) h.1 (.inr (by show l.length<=7;omega));rw[ax] at this;exact all_eq_true.1 this e he
def Tw{e:bj}(h:rG e=true)(hb:VB e):rY e:=by
 unfold rG at h;simp only[ba,wp] at h;exact⟨⟨by omega,hb.part⟩,⟨by omega,hb.kind⟩,⟨by omega,hb.aO⟩,⟨by omega,hb.slot⟩,⟨by omega,hb.key⟩,⟨by omega,hb.value⟩⟩
variable{l:List aN}
def Im{most:Nat}(h:vm l most=true)(hb:∀r∈l,∀e∈r.opts,VB e):l.length<=most/\∀r∈l,eu r/\r.opts.length<=6:=by
 unfold vm at h;split at h
 ·rename_i hm;refine⟨by omega,λr hr=>?_⟩;have h1:=Pg (all_eq_true.1 h r hr);exact⟨⟨by omega,λe he=>Tw (h1.2 e he) (hb r hr e he)⟩,h1.1⟩
 ·cases h
def Yw:Co:=⟨[],[],0,0⟩
def tW(c:List aF)(dmg:aX)(ws:List Wy)(l:List aN)(costs:List Co):Bool:=decide ((costs.length:Int)<=6)&&(costs.all (Proofs.pZ ws)&&(Proofs.pZ ws Yw&&(Proofs.Bt c dmg&&(Proofs.vm l 15&&decide (uU 81 l 1<=81)))))
def Mq(c:List aF)(dmg:aX)(ws:List Wy)(l:List aN)(costs:List Co)(hf:kO dmg)(hlw:ws.length<=nD)(hw:∀w∈ws,w.kind.length<=nD/\w.cX.length<=nD)(hlc:costs.length<=nD)(hc:∀co∈costs,co.part.length<=nD/\co.owner.length<=nD)(hlen:l.length<=nD)(ho:∀r∈l,r.opts.length<=nD)(hb:∀r∈l,∀e∈r.opts,VB e):
 PC prog 5 [.ag (an 3 c ao::aC dmg),an 5 ws bJ,an 2 l ae,an 4 costs c8] (·=au (Proofs.tW c dmg ws l costs)):=by
 have hfl:(aC dmg).length=3:=fi dmg;have hft:(aC dmg).take 3=aC dmg:=ay (by rw[hfl];exact ad _);have hfk:=λo:Nat=>bL (o:=o) (aL dmg);have hfn:=λo:Nat=>dX (o:=o) (aL dmg)
 refine pB 49 Tryz.func5 ?_;refine(aA (br hfk hfn)) ?_;refine zZ [(1,an 5 ws bJ),(2,an 2 l ae),(3,an 4 costs c8),(4,.ip (an 3 c ao::aC dmg)),(8,au false)] 0 rfl ⟨.inl rfl,.inl rfl,.inl rfl,.inr (.ptr rfl (cS.refl (aL dmg)) (be _)),.inl rfl,trivial⟩<|zA [(1,an 5 ws bJ),(2,an 2 l ae),(3,an 4 costs c8),(4,.ip (an 3 c ao::aC dmg)),(8,au false)] [] zH<|(zV)<|(zs) ?_;refine zL costs (λk=>(costs.take k).all (Proofs.pZ ws)=true) (λk=>[(1,an 5 ws bJ),(2,an 2 l ae),(3,an 4 costs c8),(4,.ip (an 3 c ao::aC dmg)),(8,au false),(9,aa k)]) (λk=>[]) zH zp ?_;intro k hk hall
 by_cases hgo:k<costs.length/\costs.length<=6
 ·obtain⟨hlt,h6⟩:=hgo
  have hd:=show decide ((k:Int)<(costs.length:Int))=true by simp only[wp];omega
  have hd6:=show decide ((costs.length:Int)<=6)=true by simp only[wp];omega
  obtain⟨x,hx⟩:∃x,costs[k]?=some x:=⟨costs[k],jp hlt⟩
  have hlen6:costs.length<=1000000:=by omega
  have hk:=CP ws x hlw hw (hc x (ac hx));rw[eN] at hk
  refine(aA (br hd hd6))<|(gJ)<|(jH (cA hlt (aH (e:=4) (enc:=c8) ce hx) @eN))<|(zK hk) ?_
  cases g:Proofs.pZ ws x
  ·exact(zR)<|(cN)<|zo [.tmp 8] (hq:=by rw[Proofs.tW,AZ (ac hx) g,Bool.false_and,Bool.and_false])
  ·refine(zR)<|(zN)<|(aA (zi hlt hlen6)) ?_;refine zX hlt zH (mq hx hall g)
 have hfin:(costs.length:Int)<=6->costs.all (Proofs.pZ ws)=true:=by
  intro h6
  have:k=costs.length:=by
   refine Decidable.byContradiction λhne=>hgo ⟨by omega,by omega⟩
  rw[this,ax] at hall;exact hall
 have hout:decide ((k:Int)<(costs.length:Int))=false\/(decide ((k:Int)<(costs.length:Int))=true/\decide ((costs.length:Int)<=6)=false):=by
  by_cases h:k<costs.length
  ·exact .inr ⟨by simp only[wp];omega,by simp only[wd];intro h6;exact hgo ⟨h,by omega⟩⟩
  ·exact .inl (by simp only[wd];omega)
 have hz:=CP ws Yw hlw hw (by constructor<;>decide)
 rcases hout with h1 | ⟨h1,h2⟩
 rotate_left;refine(aA (br h1 h2)) ?_;rotate_left;refine(aA h1) ?_
 all_goals
  refine(fC)<|zA [(1,an 5 ws bJ),(2,an 2 l ae),(3,an 4 costs c8),(4,.ip (an 3 c ao::aC dmg)),(8,au false)] [] zH ?_
  cases g6:decide ((costs.length:Int)<=6)
  ·exact(aA g6)<|zo [.tmp 8] (hq:=by rw[Proofs.tW,g6];rfl)
  have ga:=hfin (ww g6)
  refine(jH g6)<|(zK hz) ?_
  cases g1:Proofs.pZ ws Yw
  ·exact(zR)<|zo [.tmp 8] (hq:=by rw[Proofs.tW,g6,ga,g1];rfl)
  refine(Wh (br hfl hft))<|(zK (Mo c dmg hf) (hwk:=(.cons (.ag (cS.refl (aL dmg))) (.cons (.nil 14) (.cons (.a _) .nil))))) ?_
  cases g2:Proofs.Bt c dmg
  ·exact(zR)<|zo [.tmp 8] (hq:=by rw[Proofs.tW,g6,ga,g1,g2];rfl)
  refine(zQ)<|(zK (Mp l 15 hlen ho)) ?_
  cases g3:Proofs.vm l 15
  ·exact(zR)<|zo [.tmp 8] (hq:=by rw[Proofs.tW,g6,ga,g1,g2,g3];rfl)
  have hk:=Im (most:=15) g3 hb
  exact(zQ)<|(zK (Kz l 81 gc (λr hr=>(hk.2 r hr).1) gt))<|(zR)<|zo [.tmp 8] (hq:=by rw[Proofs.tW,g6,ga,g1,g2,g3];rfl)
structure Vz (c:List aF) (dmg:aX) (ws:List Wy) (l:List aN) (costs:List Co):Prop where
 form:kO dmg
 cat:∀k∈c,(∀b∈k.name,b<256)/\∀s∈k.bZ,∀b∈s.name,b<256
 wl:ws.length<=nD
 wn:∀w∈ws,w.kind.length<=nD/\w.cX.length<=nD
 wb:∀w∈ws,(∀b∈w.kind,b<256)/\∀b∈w.cX,b<256
 cl:costs.length<=nD
 cn:∀co∈costs,co.part.length<=nD/\co.owner.length<=nD
 cb:∀co∈costs,(∀b∈co.part,b<256)/\∀b∈co.owner,b<256
 ll:l.length<=nD
 lo:∀r∈l,r.opts.length<=nD
 lb:∀r∈l,∀e∈r.opts,VB e
structure Wn (c:List aF) (dmg:aX) (ws:List Wy) (l:List aN) (costs:List Co):Prop where
 cat:kq c
 form:iy dmg
 wl:ws.length<=6
 wf:∀w∈ws,w.fits
 cl:costs.length<=6
 cf:∀co∈costs,co.fits
 ll:l.length<=15
 rep:∀r∈l,eu r
 op:∀r∈l,r.opts.length<=6
variable{ws:List Wy}{costs:List Co}
def RG{dmg:aX}(h:tW c dmg ws l costs=true)(ha:Vz c dmg ws l costs):Wn c dmg ws l costs:=by
 unfold tW Bt at h;simp only[ba,wp] at h;obtain⟨h0,h1,h2,⟨h3,h4⟩,h5,_⟩:=h;obtain⟨j1,j2⟩:=Im (most:=15) h5 ha.lb
 have h43:∀{co:Co},pZ ws co=true->ws.length<=6/\(∀w∈ws,w.kind.length<=300/\w.cX.length<=300)/\co.part.length<=300/\co.owner.length<=300:=by
  intro co hk;unfold pZ at hk;simp only[ba,wp,all_eq_true] at hk;refine⟨by omega,λw hw=>?_,by omega,by omega⟩;have:=hk.2.1 w hw;omega
 obtain⟨w1,w2,_⟩:=h43 h2;refine⟨RF h3 ha.cat,RE h4,w1,λw hw=>⟨by have:=w2 w hw;omega,(ha.wb w hw).1,by have:=w2 w hw;omega,(ha.wb w hw).2⟩,by omega,λco hco=>?_,j1,λr hr=>(j2 r hr).1,λr hr=>(j2 r hr).2⟩;obtain⟨_,_,k1,k2⟩:=h43 (all_eq_true.1 h1 co hco);exact⟨by omega,(ha.cb co hco).1,by omega,(ha.cb co hco).2⟩
def Qh{m:cV}{t:Xf}(h:t∈(dB m).1):t.am<=1000000000000:=by
 unfold dB at h;split at h
 ·cases h
 ·rename_i g;simp only at h;have hm:=(eQ _).mem_iff.1 h;unfold ja at hm;obtain⟨e,he,rfl⟩:=mem_map.1 hm;have h1:=(mem_filter.1 he).1;simp only[any_eq_true,wp,not_exists,not_and] at g;have:=g e h1;show e.2<=_;omega
def Mf(m:cV):(dB m).1.length<=m.length:=by
 unfold dB;split
 ·exact be _
 ·simp only;rw[(eQ _).length_eq];unfold ja;rw[ap];exact dc _ _
structure Wp (ws:List Wy) (costs:List Co) (got:List Xf) (t:Xf):Prop where
 ZY:(ws.any λw=>decide (w.cX=t.fr))=true
 ow:(costs.any λco=>decide (co.owner=t.to)&&co.ok)=true
 most:BH t.to got<=EB t.to costs
 am:1<=t.am
def PZ{dmg:aX}{t:Xf}(ht:t∈(kC c dmg ws l costs).1):Wp ws costs (kC c dmg ws l costs).1 t:=by
 unfold kC at ht ⊢;split at ht
 ·cases ht
 ·rename_i g;rw[ul g];obtain⟨⟨w,hw,e1⟩,⟨co,hco,e2,e3⟩,h3,h4⟩:=TS c dmg ws l costs ht;exact⟨any_eq_true.2 ⟨w,hw,ut e1⟩,any_eq_true.2 ⟨co,hco,by rw[ut e2,e3];rfl⟩,h3,h4⟩
def Jo{dmg:aX}(hl:costs.length<=6):(kC c dmg ws l costs).1.length<=12/\∀t∈(kC c dmg ws l costs).1,0<=t.am/\t.am<=1000000000000:=by
 refine⟨?_,λt ht=>⟨by have:=(PZ ht).am;omega,?_⟩⟩
 ·unfold kC;split
  ·exact be _
  ·have h1:=Mf (gk c dmg ws l costs []);have h2:=x9 c dmg ws l costs [];simp only[g9,cp] at h2;omega
 ·unfold kC at ht;split at ht
  ·cases ht
  ·exact Qh ht
def Hb(c:List aF)(l:List aN)(hc:kq c)(hl:∀r∈l,eu r)(hlen:l.length<20)(hl0:l≠[]):PC prog 8 [.ag [an 3 c ao],an 2 l ae] (·=.bB [an 1 (pC c l).1 (aw aa),aa (pC c l).2]):=by
 refine pB 20 Tryz.func8 ?_;have hal:=CH c l 1 hc hl hlen hl0;have hok:=rZ (c:=c) (l:=l) (most:=1);unfold pC;generalize fk c l 1=q at hal hok ⊢
 refine(lJ)<|(zK hal (hfl:=.inr zr))<|(zR) ?_
 by_cases h:q.2=0
 ·have hne:=hok h;rw[t8 h]
  cases hq:q.1 with
  | nil=>exact t7 hq hne
  | cons x r=>
   have hx:(x::r)[0]?=some x:=rfl;have hat:=aH (e:=1) (enc:=gj) ce hx;rw[g7] at hat
   refine(aA (show decide (q.2=0)=true from ut h))<|(zN) ?_
   have h0:0<(x::r).length:=Nat.zero_lt_succ _
   exact(aA (jB h0 hat @g7 @gj.eq_1))<|ji [.tmp 4,.tmp 5]
 ·rw[ul h]
  exact(aA (show decide (q.2=0)=false from un h))<|(cN)<|ji [.tmp 4,.tmp 5] (r:=.bB [.sl 0 1 [],aa q.2]) (hw:=zv)
def Nu{n:Nat}(h:n<256):mu prog 5 3 (.int .u8 (n:Int))=some (.int .i64 (n:Int)):=by
 have h1:prog.underlying 3=some (.int .i64):=by kernel_rfl
 have h2:prog.underlying 5=some (.int .u8):=by kernel_rfl
 unfold mu;rw[h1,h2];simp only;unfold dJ
 rw[show(qK (KR .i64) (n:Int)&&qK (n:Int) (KP .i64))=true by
  simp only[ba,gQ,wp,KR,KP]
  omega]
 rfl
def N5{P:Program}{t:TypeId}{a b:Nat}(h:0<b):cW P .rem t (.int .i64 (a:Int)) (.int .i64 (b:Int))=some (.int .i64 ((a%b:Nat):Int)):=by
 rw[FI gt];rfl
def EW(l:List aN):(l.flatMap ae).all fw=true:=by
 rw[List.all_flatMap];exact all_eq_true.2 λx _=>rfl
def we(x:aN):cg (ae x)=true:=rfl
end Go.Proofs
namespace Go.Ev
noncomputable section
section
variable {P:Program} {ro:Option Nat}
def aJ.r1{all l:List Oper}{o:Oper}{ds:List jy}{n d:Nat}{f:Fm}{S S1:List SO}{v:SV}{kill:Option Nat}{K:eU->Prop}(hst:eD all n [o]=true)(hdst:o.dst=some d)(hw:cH all f o.guard=some true)(hop:dY P f S o.op=some (v,S1,kill))
 (hk:aJ P ro all l ⟨uw f kill (some d) v,n,S1,ds⟩ K):aJ P ro all (o::l) ⟨f,n,S,ds⟩ K:=by
 have hd:=(eR hst).1;rw[hdst] at hd;have hw:=dR hst hw;rintro ρ0 h0 ⟨af,n',hh,ds'⟩ ⟨rfl,rfl,θ,ρ,hR,hF⟩;obtain⟨rv,h',θ',e1,e2,e3,e4⟩:=Tp hR hF hop;refine .cons (cE hF hw) (.run (E3 hop) (by rw[hdst];exact hd) e1 ?_);intro x hx;rw[rc hx];refine hk ρ0 h0 _ ⟨rfl,rfl,θ',ρ,e2,?_⟩;rw[hdst];cases rv<;>exact hF.kill e4 (fY hd) e3
end
end
end Go.Ev
namespace Go.Proofs
open Go.Ev
set_option maxRecDepth 100000
def Vx{S:List SO}{o n:Nat}{q:List aN}(hS:S[o]?=some (.cells (q.flatMap ae)))(hn:q.length=n):Wk S (.buf o n 2 none) (an 2 q ae):=by
 subst hn;rw[pN];exact .buf hS (by rw[dw (enc:=ae) (e:=2) ce];exact cS.refl (aB we q)) (by rw[aM (enc:=ae) (e:=2) ce];exact ad _)
def Vw{p:Prop}(h:p:=by refine Vx (by (try simp only[List.getElem?_cons_succ,List.getElem?_cons_zero,List.flatMap_append,List.flatMap_cons,List.flatMap_nil,List.append_nil,ae,an,i7,g9,List.append_assoc,List.cons_append,List.nil_append,hk0,hnil,List.take_zero])<;>rfl) (by (try simp only[li,i7,g9,List.length_drop,hln])<;>omega)):p:=h
def Xz(y:aN){l:List aN}{k:Nat}(hln:(l.take k).length=k)(d:Nat):(∀o:Nat,((l.take k).flatMap ae++ae y).map (aW o)=(l.take k).flatMap ae++ae y)/\
 ((l.flatMap ae).drop (d*2)).take ((l.length-d)*2)=(l.drop d).flatMap ae/\((l.drop d).flatMap ae).all fw=true/\(∀o:Nat,((l.drop d).flatMap ae).map (aW o)=(l.drop d).flatMap ae)/\
 ((l.take k).flatMap ae++ae y).length=(k+1)*2/\((l.take k).flatMap ae++ae y).take ((k+1)*2)=(l.take k).flatMap ae++ae y/\
 ∀o:Nat,((l.take k).flatMap ae++ae y++(l.drop d).flatMap ae).map (aW o)=(l.take k).flatMap ae++ae y++(l.drop d).flatMap ae:=by
 have hkl:∀o:Nat,((l.take k).flatMap ae).map (aW o)=(l.take k).flatMap ae:=λo=>bf (enc:=ae) we o (l.take k)
 have hfl:((l.take k).flatMap ae).length=k*2:=by rw[aM (enc:=ae) (e:=2) ce,hln]
 have hck:∀o:Nat,((l.take k).flatMap ae++ae y).map (aW o)=(l.take k).flatMap ae++ae y:=λo=>by rw[dv,hkl,bL (we y)]
 have hdk:=λo:Nat=>bf (enc:=ae) we o (l.drop d)
 have hcl:((l.take k).flatMap ae++ae y).length=(k+1)*2:=by rw[li,hfl];show k*2+2=_;omega
 refine⟨hck,?_,EW _,hdk,hcl,ay (by rw[hcl];exact ad _),λo=>by rw[dv,hck,hdk]⟩;rw[nV (enc:=ae) (e:=2) ce,ay (by rw[aM (enc:=ae) (e:=2) ce,hD];exact ad _)]
def CM(l:List aN)(k n:Nat){r:aN}{o:bj}(hr:l[k]?=some r)(hn:r.opts[n]?=some o)(hll:l.length<=1000)(hrl:r.opts.length<=1000):
 PC prog 6 [an 2 l ae,aa k,aa n] (·=an 2 (l.set k ⟨[o],false⟩) ae):=by
 have hkl2:k<l.length:=aR hr;have hnl:n<r.opts.length:=aR hn
 have hk:k<=l.length:=by omega
 have hk6:k<=1000000:=by omega
 have hln:(l.take k).length=k:=by rw[ct];omega
 have hset:l.set k ⟨[o],false⟩=l.take k++⟨[o],false⟩::l.drop (k+1):=by rw[List.set_eq_take_append_cons_drop,t8 hkl2]
 have hft:(l.flatMap ae).take (k*2)=(l.take k).flatMap ae:=ke (enc:=ae) (e:=2) ce l k;have hon:((l.take k).flatMap ae).all fw=true:=EW _;have hkl:∀o:Nat,((l.take k).flatMap ae).map (aW o)=(l.take k).flatMap ae:=λo=>bf (enc:=ae) we o (l.take k)
 have hfl:((l.take k).flatMap ae).length=k*2:=by rw[aM (enc:=ae) (e:=2) ce,hln]
 have hfa:((l.take k).flatMap ae).take (k*2)=(l.take k).flatMap ae:=ay (by rw[hfl];exact ad _)
 have hge:decide ((0:Int)<=(n:Int))=true:=by rw[wp];omega
 have hnd:decide ((n:Int)<(r.opts.length:Int))=true:=by rw[wp];omega
 have hrr:=aH (e:=2) (enc:=ae) ce hr;have hoo:=aH (e:=14) (enc:=aE) ce hn;have hadd:=qT (P:=prog) (t:=3) (a:=(k:Int)) (b:=1) gt;obtain⟨hck,hdt,hdo,hdk,hcl,hct,hcd⟩:=Xz ⟨[o],false⟩ (l:=l) hln (k+1);have hee:ae ⟨[o],false⟩=[an 14 [o] aE,au false]:=rfl;rw[hee,show an 14 [o] aE=SV.sl [o].length 14 ([o].flatMap aE) from rfl] at hck hcl hct hcd;rw[hset];refine pB 44 Tryz.func6 ?_;refine(zV) ?_;by_cases hk0:k=0
 ·refine(aA (Af (VI hk) @gv hft hon hkl hk6 (eq_true hk0)))<|zA [(7,.buf 0 0 2 (some 0)),(0,an 2 l ae),(1,aa k),(2,aa n)] [.cells []] zH<|(aA (ik hge hkl2 hrr @ae.eq_1 hnd))<|(zY)<|zA [(7,.buf 0 0 2 (some 0)),(0,an 2 l ae),(1,aa k),(2,aa n)] [.cells []] zH ?_
  (repeat refine aD.seq ?_)
  refine aD.region ?_;refine aJ.r1 (d:=25) ge rfl ge (fF (ik hkl2 hrr @ae.eq_1 hnl hoo)) ?_;refine aJ.r1 (d:=26) ge rfl ge (fF (ik hkl2 hrr @ae.eq_1 hnl hoo)) ?_;refine aJ.r1 (d:=27) ge rfl ge (fF (ik hkl2 hrr @ae.eq_1 hnl hoo)) ?_;refine aJ.r1 (d:=28) ge rfl ge (fF (ik hkl2 hrr @ae.eq_1 hnl hoo)) ?_;refine aJ.r1 (d:=29) ge rfl ge (fF (ik hkl2 hrr @ae.eq_1 hnl hoo)) ?_;refine aJ.r1 (d:=30) ge rfl ge (fF (ik hkl2 hrr @ae.eq_1 hnl hoo)) ?_;refine aJ.r1 (d:=31) ge rfl ge (fF (ik hkl2 hrr @ae.eq_1 hnl hoo)) ?_;refine aJ.r1 (d:=32) ge rfl ge (fF (ik hkl2 hrr @ae.eq_1 hnl hoo)) ?_;refine aJ.r1 (d:=33) ge rfl ge (fF (ik hkl2 hrr @ae.eq_1 hnl hoo)) ?_;refine aJ.r1 (d:=34) ge rfl ge (fF (ik hkl2 hrr @ae.eq_1 hnl hoo)) ?_;refine oZ ((34,an 14 [o] aE)::(25,.buf 0 0 2 (some 0))::[(7,.buf 0 0 2 (some 0)),(0,an 2 l ae),(1,aa k),(2,aa n)]) 1 rfl ⟨.inr (.buf rfl zr (ad _)),zj⟩<|oA ((34,an 14 [o] aE)::(25,.buf 0 0 2 (some 0))::[(7,.buf 0 0 2 (some 0)),(0,an 2 l ae),(1,aa k),(2,aa n)]) [.cells []] zH<|(cO (br (DX hkl hfa hfl hk6 hck hcl @ad @g7 @take_zero.{0}) (br @nil_append.{0} (eq_true hk0)))) ?_
  by_cases he0:l.length-(k+1)=0
  ·have hnil:l.drop (0+1)=[]:=bk gt
   exact(aA (br (DX hadd @sC (ON (show k+1<=l.length by omega)) hdt hdo hdk hcl hct hck) (ik hcd @ad (show l.length-(k+1)<=1000000 by omega) (show k+1<=1000000 by omega) (eq_true he0))))<|zo [.tmp 6] (r:=an 2 (l.take k++⟨[o],false⟩::l.drop (k+1)) ae) (hw:=Vw)
  ·have hnil:(l.drop (k+1))=[]\/True:=.inr trivial
   exact(aA (br (DX hadd @sC (ON (show k+1<=l.length by omega)) hdt hdo hdk hcl hct hck) (sa hcd @ad (show l.length-(k+1)<=1000000 by omega) (show k+1<=1000000 by omega) he0 (show 0<l.length-(k+1) by omega))))<|zo [.tmp 6] (r:=an 2 (l.take k++⟨[o],false⟩::l.drop (k+1)) ae) (hw:=Vw)
 ·refine(aA (KO (VI hk) @gv hft hon hkl hk6 hk0 (show 0<k by omega)))<|zA [(7,.buf 1 k 2 none),(0,an 2 l ae),(1,aa k),(2,aa n)] [.gone,.cells ((l.take k).flatMap ae)] zH<|(aA (ik hge hkl2 hrr @ae.eq_1 hnd))<|(zY)<|zA [(7,.buf 1 k 2 none),(0,an 2 l ae),(1,aa k),(2,aa n)] [.gone,.cells ((l.take k).flatMap ae)] zH ?_
  (repeat refine aD.seq ?_)
  refine aD.region ?_;refine aJ.r1 (d:=25) ge rfl ge (fF (ik hkl2 hrr @ae.eq_1 hnl hoo)) ?_;refine aJ.r1 (d:=26) ge rfl ge (fF (ik hkl2 hrr @ae.eq_1 hnl hoo)) ?_;refine aJ.r1 (d:=27) ge rfl ge (fF (ik hkl2 hrr @ae.eq_1 hnl hoo)) ?_;refine aJ.r1 (d:=28) ge rfl ge (fF (ik hkl2 hrr @ae.eq_1 hnl hoo)) ?_;refine aJ.r1 (d:=29) ge rfl ge (fF (ik hkl2 hrr @ae.eq_1 hnl hoo)) ?_;refine aJ.r1 (d:=30) ge rfl ge (fF (ik hkl2 hrr @ae.eq_1 hnl hoo)) ?_;refine aJ.r1 (d:=31) ge rfl ge (fF (ik hkl2 hrr @ae.eq_1 hnl hoo)) ?_;refine aJ.r1 (d:=32) ge rfl ge (fF (ik hkl2 hrr @ae.eq_1 hnl hoo)) ?_;refine aJ.r1 (d:=33) ge rfl ge (fF (ik hkl2 hrr @ae.eq_1 hnl hoo)) ?_;refine aJ.r1 (d:=34) ge rfl ge (fF (ik hkl2 hrr @ae.eq_1 hnl hoo)) ?_;refine oZ ((34,an 14 [o] aE)::(25,.buf 1 k 2 none)::[(7,.buf 1 k 2 none),(0,an 2 l ae),(1,aa k),(2,aa n)]) 2 rfl ⟨.inr (.buf rfl zr (ad _)),zj⟩<|oA ((34,an 14 [o] aE)::(25,.buf 1 k 2 none)::[(7,.buf 1 k 2 none),(0,an 2 l ae),(1,aa k),(2,aa n)]) [.gone,.cells ((l.take k).flatMap ae)] (bK hkl)<|(cO (DX hkl hfa hfl hk6 hck hcl @ad hk0 (show 0<k by omega))) ?_
  by_cases he0:l.length-(k+1)=0
  ·have hnil:l.drop (k+1)=[]:=bk gt
   exact(aA (br (DX hadd @sC (ON (show k+1<=l.length by omega)) hdt hdo hdk hcl hct hck) (DX hcd @ad (show l.length-(k+1)<=1000000 by omega) (show k+1<=1000000 by omega) (eq_true he0) hkl hfa hfl hk6)))<|zo [.tmp 6] (r:=an 2 (l.take k++⟨[o],false⟩::l.drop (k+1)) ae) (hw:=Vw)
  ·have hnil:(l.drop (k+1))=[]\/True:=.inr trivial
   exact(aA (br (DX hadd @sC (ON (show k+1<=l.length by omega)) hdt hdo hdk hcl hct hck) (O0 hcd @ad (show l.length-(k+1)<=1000000 by omega) (show k+1<=1000000 by omega) he0 (show 0<l.length-(k+1) by omega) hkl hfa hfl hk6)))<|zo [.tmp 6] (r:=an 2 (l.take k++⟨[o],false⟩::l.drop (k+1)) ae) (hw:=Vw)
def tJ(b:Bool):KH b (.a kJ)=some false:=rfl
abbrev Zu(c:List aF)(dmg:aX)(ws:List Wy)(l:List aN)(costs:List Co)(one two:Nat):Fm:=[(1,an 5 ws bJ),(2,an 2 l ae),(3,an 4 costs c8),(4,.a (.int .u8 (one:Int))),(5,.a (.int .u8 (two:Int))),(6,.ip (an 3 c ao::aC dmg))]
abbrev ZO(c:List aF)(dmg:aX)(ws:List Wy)(l less:List aN)(costs:List Co):Fm:=[(1,an 5 ws bJ),(2,an 2 l ae),(3,an 4 costs c8),(6,.ip (an 3 c ao::aC dmg)),(13,au true),(15,an 2 less ae)]
def xF(t u:Xf):Bool:=decide (u.fr=t.fr)&&(decide (u.to=t.to)&&decide (t.am<=u.am))
def Ax(c:List aF)(dmg:aX)(ws:List Wy)(l:List aN)(costs:List Co)(one two:Nat)(ho1:one<256)(ht1:two<256)(ha:Vz c dmg ws l costs):
 PC prog 3 [.ag (an 3 c ao::aC dmg),an 5 ws bJ,an 2 l ae,an 4 costs c8,.a (.int .u8 (one:Int)),.a (.int .u8 (two:Int))] (·=au true):=by
 have hfl:(aC dmg).length=3:=fi dmg;have hft:(aC dmg).take 3=aC dmg:=ay (by rw[hfl];exact ad _);have hfk:=λo:Nat=>bL (o:=o) (aL dmg);have hfn:=λo:Nat=>dX (o:=o) (aL dmg)
 refine pB 152 func3 ?_;refine(aA (br hfk hfn)) ?_;refine zZ (Zu c dmg ws l costs one two) 0 rfl ⟨.inl rfl,.inl rfl,.inl rfl,.inl rfl,.inl rfl,.inr (.ptr rfl (cS.refl (aL dmg)) (be _)),trivial⟩<|zA (Zu c dmg ws l costs one two) [] zH<|(zC)<|(zK J8)<|(zR)<|(jH (br hfl hft))<|(zK (Mq c dmg ws l costs ha.form ha.wl ha.wn ha.cl ha.cn ha.ll ha.lo ha.lb) (hwk:=(.cons (.ag (cS.refl (aL dmg))) zr))) ?_
 cases hfw:Proofs.tW c dmg ws l costs
 ·exact(zR)<|(cN)<|zo [.tmp 12]
 obtain⟨hcat,hform,hlw6,hwf,hlc6,hcf,hl15,hrep,hop⟩:=RG hfw ha;clear ha hfw;cases hl0:decide ((l.length:Int)=0);rotate_left
 ·exact(cO hl0)<|(cN)<|zo [.tmp 12]
 have hlp:0<l.length:=by have:=wt hl0;omega
 refine(cO hl0)<|(zN) ?_
 have hcv1:=Nu ho1;have hcv2:=Nu ht1;have hrm1:=N5 (P:=prog) (t:=3) (a:=one) hlp;have hkl:=Nat.mod_lt one hlp;refine(aA (br hcv1 hrm1)) ?_;generalize one%l.length=k at hkl;obtain⟨r,hr⟩:∃r,l[k]?=some r:=⟨_,jp hkl⟩;have hro:=hop r (ac hr);refine(aA (cA hkl (aH (e:=2) (enc:=ae) ce hr) @ae.eq_1)) ?_;cases hr0:decide ((r.opts.length:Int)=0);rotate_left
 ·exact(cN)<|zo [.tmp 12]
 have hrp:0<r.opts.length:=by have:=wt hr0;omega
 refine(zN) ?_;have hrm2:=N5 (P:=prog) (t:=3) (a:=two) hrp;have hnl:=Nat.mod_lt two hrp;refine(jH (ik hkl (aH (e:=2) (enc:=ae) ce hr) @ae.eq_1 hcv2 hrm2)) ?_;generalize two%r.opts.length=n at hnl;obtain⟨o,hn⟩:∃o,r.opts[n]?=some o:=⟨_,jp hnl⟩;have hde:=CM l k n hr hn gt gt;obtain⟨less,hle⟩:∃less,less=l.set k ⟨[o],false⟩:=⟨_,rfl⟩;rw[<-hle] at hde;have hL:xe l less k n:=⟨r,o,hr,hn,hle⟩
 have hll:less.length=l.length:=by rw[hle,List.length_set]
 have hmem:∀x∈less,x∈l\/x=⟨[o],false⟩:=λx hx=>by rw[hle] at hx;exact List.mem_or_eq_of_mem_set hx
 have hrep2:∀x∈less,eu x:=λx hx=>by
  rcases hmem x hx with h | rfl
  ·exact hrep x h
  ·exact⟨by simp,λe he=>by rw[rc he];exact(hrep r (ac hr)).ev o (ac hn)⟩
 have hop2:∀x∈less,x.opts.length<=6:=λx hx=>by
  rcases hmem x hx with h | rfl
  ·exact hop x h
  ·simp
 refine(zK hde (hfl:=.inr zr))<|(zR)<|zA (ZO c dmg ws l less costs) [] zH ?_
 have hsA:=uO rN c dmg ws l costs hcat hform hwf hcf gt hrep (λr hr=>by have:=hop r hr;omega) gt gt;have hsB:=uO rN c dmg ws less costs hcat hform hwf hcf gt hrep2 (λr hr=>by have:=hop2 r hr;omega) gt gt;have hfi:=Hb c less hcat hrep2 gt (λh=>by rw[h] at hll;simp at hll;omega);have kA:=Jo (c:=c) (dmg:=dmg) (ws:=ws) (l:=l) hlc6;have kB:=Jo (c:=c) (dmg:=dmg) (ws:=ws) (l:=less) hlc6;have hlaw:=SJ (c:=c) (dmg:=dmg) (ws:=ws) (costs:=costs) hL gt;unfold OD at hsA hsB;generalize kC c dmg ws l costs=rA at hsA kA hlaw;generalize kC c dmg ws less costs=rB at hsB kB hlaw;generalize pC c less=rF at hfi hlaw;obtain⟨A,eA⟩:=rA;obtain⟨B,eB⟩:=rB;obtain⟨F,eF⟩:=rF;simp only at hsA hsB hfi hlaw kA kB
 have hlA:A.length<=1000000:=by omega
 have hlB:B.length<=1000000:=by omega
 refine(jH (br hfl hft))<|(zK hsA (hwk:=(.cons (.ag (cS.refl (aL dmg))) zr)) (hfl:=.inr (.cons (.ag (cS.refl (aL dmg))) zr)))<|(zR)<|(jH (br hfl hft))<|(zK hsB (hwk:=(.cons (.ag (cS.refl (aL dmg))) zr)) (hfl:=.inr (.cons (.ag (cS.refl (aL dmg))) zr)))<|(zR)<|(zC)<|(zK hfi (hfl:=.inr zr))<|(zR) ?_
 cases hA:decide (eA=0)
 ·exact(aA hA)<|(cN)<|zo [.tmp 12]
 cases hB:decide (eB=0)
 ·exact(aA (br hA hB))<|(cN)<|zo [.tmp 12]
 cases hF:decide (eF=0)
 ·exact(aA (cA hA hB hF))<|(cN)<|zo [.tmp 12]
 have hlaw:=hlaw (ww hF) (ww hA) (ww hB)
 refine(aA (cA hA hB hF))<|(jG)<|(zs) ?_;refine zL A (λk=>True) (λk=>[(13,au true),(16,an 3 A bC),(18,an 3 B bC),(22,aa k)]) (λk=>[]) zH zp ?_;intro k hk hall
 by_cases hlt:k<A.length
 ·obtain⟨t,hx⟩:∃x,A[k]?=some x:=⟨A[k],jp hlt⟩;obtain⟨u0,hu1,hu2,hu3,hu4⟩:=hlaw t (ac hx);have hany:(B.any λu=>xF t u)=true:=any_eq_true.2 ⟨u0,hu1,by unfold xF;simp[hu2,hu3,hu4]⟩
  refine(aA (show decide ((k:Int)<(A.length:Int))=true by simp only[wp];omega))<|(gJ)<|(nP)<|(zs) ?_;refine QB B (λk2 (en:Bool)=>en=((B.take k2).any λu=>xF t u)) (λk2 en=>[(13,au true),(16,an 3 A bC),(18,an 3 B bC),(22,aa k),(23,au en),(24,aa k2)]) (λk2 en=>[]) (false) zH f5 ?_;intro k2 en hk2 hall2
  by_cases hlt2:k2<B.length
  ·obtain⟨u,hy⟩:∃u,B[k2]?=some u:=⟨B[k2],jp hlt2⟩
   have hnx:(en||xF t u)=((B.take (k2+1)).any λu=>xF t u):=by rw[bz hy,List.any_append,<-hall2];simp
   refine(aA (show decide ((k2:Int)<(B.length:Int))=true by simp only[wp];omega))<|(gJ) ?_
   have e1:=aH (e:=3) (enc:=bC) ce hx;have e2:=aH (e:=3) (enc:=bC) ce hy;unfold xF at hnx;refine(zs) ?_;refine uW [0,1,3,3,15,31,63,3,3,387,899,1923,4095,8191,16383,16383,65535,131071,262143,16383,16383,1589247,3686399,7880703,16777215,33554431,67108863,134217727,134217727,536870911,1073741823,2147483647,134217727,134217727,13019119615,30198988799,64558727167,137438953471,274877906943,549755813887,1099511627775] ?_;cases en;rotate_left
   ·refine(Yt @tJ)<|(zM)<|(aA (zi hlt2 hlB)) ?_;refine Fv hlt2 (true) zH (by rw[Bool.true_or] at hnx;exact hnx)
   cases g1:decide (u.fr=t.fr)
   ·refine(Yt (Af hlt hlt2 e1 e2 @bC.eq_1 g1 @tJ))<|(zM)<|(aA (zi hlt2 hlB)) ?_;refine Fv hlt2 (false) zH (by rw[g1] at hnx;exact hnx)
   cases g2:decide (u.to=t.to)
   ·refine(Yt (KO hlt hlt2 e1 e2 @bC.eq_1 g1 g2 @tJ))<|(zM)<|(aA (zi hlt2 hlB)) ?_;refine Fv hlt2 (false) zH (by rw[g1,g2] at hnx;exact hnx)
   refine(Yt (KO hlt hlt2 e1 e2 @bC.eq_1 g1 g2 @tJ))<|(zM)<|(aA (zi hlt2 hlB)) ?_;refine Fv hlt2 (decide (t.am<=u.am)) zH (by rw[g1,g2,Bool.false_or,c4,c4] at hnx;exact hnx)
  obtain rfl:k2=B.length:=by omega
  rw[ax,hany] at hall2;subst hall2
  refine(aA (show decide ((B.length:Int)<(B.length:Int))=false by simp))<|(fC) ?_
  simp only[gK,eI,cQ,cr,if_true]
  refine(KS)<|(aA (zi hlt hlA)) ?_;refine zX hlt zH trivial
 obtain rfl:k=A.length:=by omega
 exact(aA (show decide ((A.length:Int)<(A.length:Int))=false by simp))<|(fC)<|(zV)<|zo [.tmp 12]
end Go.Proofs
namespace Go.Ev
open Go.RowKit Go.ChangeShapes Go.WideShapes Go.Deep
noncomputable section
mutual
def Lb:DV->SV
 | .fl a=>.a a
 | .sl _ n e cs=>.sl n e (iG cs)
 | .ag cs=>.ag (iG cs)
def iG:List DV->List SV
 | []=>[]
 | d::ds=>Lb d::iG ds
end
def Ih:∀a b:List DV,iG (a++b)=iG a++iG b
 | [],b=>rfl
 | d::a,b=>by rw[em,iG,iG,Ih a b,em]
def L0(h:H):lD:=λid=>if id<h.next then h.aV.get id else none
def Vd(h:H):QN (L0 h) h:=by
 intro id ob hi;unfold L0 at hi;split at hi
 ·rename_i hl;exact⟨hl,hi⟩
 ·cases hi
def S6{h:H}{id:Nat}{row:List AV}(hl:id<h.next)(hr:tS h.aV id=some row):rE (L0 h) id=some row:=by
 unfold rE L0;rw[t8 hl];unfold tS at hr
 cases hg:h.aV.get id with
 | none=>rw[hg] at hr;cases hr
 | some o=>
  rw[hg] at hr
  cases o<;>first | exact hr | cases hr
mutual
def Dp.gs{s:Bool}{h:H}:∀{d:DV} {a:AV},Dp s h d a->GS (L0 h) (Lb d) a
 | .fl a0,a,hd=>by
  rw[Xt] at hd;rw[Lb,GS];exact hd.1
 | .sl nl n e cs,a,hd=>by
  rw[Nf] at hd;rw[Lb,GS]
  rcases hd with⟨h1,h2,⟨o,e',c,h3,h4,h5⟩,_⟩ | ⟨_,id,off,cap,row,aS,e1,h1,h2,h3,h4,h5⟩
  ·subst h2;exact .inl ⟨h1,by rw[iG],o,e',c,by rw[h3],h4,h5⟩
  ·exact .inr ⟨id,off,cap,row,e1,S6 h1 h2,h3,by rw[<-h4];exact HH.gs h5⟩
 | .ag cs,a,hd=>by
  rw[Xs] at hd;obtain⟨aS,e1,h1⟩:=hd;rw[Lb,GS];exact⟨aS,e1,HH.gs h1⟩
def HH.gs{s:Bool}{h:H}:∀{ds:List DV} {aS:List AV},HH s h ds aS->lF (L0 h) (iG ds) aS
 | [],aS,hd=>by rw[TZ] at hd;rw[iG,lF];exact hd
 | d::ds,aS,hd=>by
  rw[QG] at hd;obtain⟨a,r,e1,h1,h2⟩:=hd;rw[iG,lF];exact⟨a,r,e1,Dp.gs h1,HH.gs h2⟩
end
def WE{P:Program}(hng:uZ P){f:FuncId}{fn:Func}(hf:P.funcs[f]?=some fn)(hb:fn.body.isSome=true){w:World}{ds:List DV}{args':Array Value}(hw:oK w ds args'.toList)
 (hc:PC P f (iG ds) (·=.a (.bool true))):Calls P f args' w λe w'=>e=.returned (.bool true)/\Below w.heap.size w w':=by
 obtain⟨σ,k1,k2⟩:=hw.lay;have hd:=oK.dp (rows:=(fJ ds 0).2) hw 0 (λi r hr=>by rw[cp];exact hr);have hfine:=hc (L0 _) _ _ (Vd _) hd.gs σ w args' k1 k2;rw[eM hng hf hb] at hfine;refine Calls.mono hfine λe w' ⟨x,he,a,h',⟨r,ρ',hr,_,_,hg⟩,σ',hV,hr',hE⟩=>?_;subst hr;rw[GS] at hg;subst hg;cases hV;exact⟨he,Lf hE⟩
end
end Go.Ev
namespace Go.Proofs
open Go.Ev
set_option maxRecDepth 100000
abbrev i6:Ty:=.int .i64
def Wu:List Ty:=[i6,i6,.str,.str,.str,.str,.str,.str,.st [.st [i6,i6],.st [i6,i6],.st [i6,i6]]]
def L7:List Ty:=[.str,.sl .str,i6]
def xY:List Ty:=[.str,.bool,.sl (.st L7)]
def qc:Nat->Ty
 | 0=>.no 3
 | 1=>.st [.no 1,.no 1,.no 1]
 | j+2=>.st [i6,i6,.sl (qc j)]
def uy:∀j,(qc j).size=3
 | 0=>rfl
 | 1=>rfl
 | j+2=>rfl
def wH{α:Type}(enc:α->List SV)(ok:α->Prop):∀{rows:List (List DV)},(∀r∈rows,∃x,iG r=enc x/\ok x)->∃xs:List α,xs.length=rows.length/\iG rows.flatten=xs.flatMap enc/\∀x∈xs,ok x
 | [],_=>⟨[],rfl,rfl,λx hx=>by cases hx⟩
 | r::rows,h=>by
  obtain⟨x,h1,h2⟩:=h r bd;obtain⟨xs,h3,h4,h5⟩:=wH enc ok (rows:=rows) λq hq=>h q (bc _ hq);refine⟨x::xs,by rw[i7,i7,h3],by rw[List.flatten_cons,Ih,h1,h4,el],λy hy=>?_⟩
  rcases rt hy with rfl | hy
  ·exact h2
  ·exact h5 y hy
def yC{α:Type}{enc:α->List SV}{nl:Bool}{e:Nat}{rows:List (List DV)}{xs:List α}(h1:xs.length=rows.length)(h2:iG rows.flatten=xs.flatMap enc):Lb (.sl nl rows.length e rows.flatten)=an e xs enc:=by
 rw[Lb,h2,an,h1]
section
variable {B:Nat} {ds:List DV}
def XC(hk:fN B Wu ds):∃e:bj,iG ds=aE e/\VB e:=by
 unfold Wu at hk;obtain⟨a1,r,rfl,_,hk⟩:=e9 hk;obtain⟨a2,r,rfl,_,hk⟩:=e9 hk;obtain⟨s1,r,rfl,b1,_,hk⟩:=ig hk;obtain⟨s2,r,rfl,b2,_,hk⟩:=ig hk;obtain⟨s3,r,rfl,b3,_,hk⟩:=ig hk;obtain⟨s4,r,rfl,b4,_,hk⟩:=ig hk;obtain⟨s5,r,rfl,b5,_,hk⟩:=ig hk;obtain⟨s6,r,rfl,b6,_,hk⟩:=ig hk;have hk:fN B [.st [i6,i6],.st [i6,i6],.st [i6,i6]] r:=vU hk;have hk:fN B [i6,i6,.st [i6,i6],.st [i6,i6]] r:=vU hk;obtain⟨u1,r,rfl,_,hk⟩:=e9 hk;obtain⟨u2,r,rfl,_,hk⟩:=e9 hk;have hk:fN B [i6,i6,.st [i6,i6]] r:=vU hk;obtain⟨u3,r,rfl,_,hk⟩:=e9 hk;obtain⟨u4,r,rfl,_,hk⟩:=e9 hk;have hk:fN B [i6,i6] r:=vU hk;obtain⟨u5,r,rfl,_,hk⟩:=e9 hk;obtain⟨u6,r,rfl,_,hk⟩:=e9 hk;have:=oh hk;subst this;exact⟨⟨a1,a2,s1,s2,s3,s4,s5,s6,u1,u2,u3,u4,u5,u6⟩,by simp only[iG,Lb,aE],⟨b1,b2,b3,b4,b5,b6⟩⟩
def WY(hk:oF B .str ds):∃s:List Nat,iG ds=aw ab s/\∀b∈s,b<256:=by
 rw[oF] at hk;obtain⟨s,rfl,h1,_⟩:=hk;exact⟨s,by simp only[iG,Lb,aw],h1⟩
def Vk(hk:fN B L7 ds):∃s:mZ,iG ds=bQ s/\∀b∈s.name,b<256:=by
 unfold L7 at hk;obtain⟨s1,r,rfl,b1,_,hk⟩:=ig hk;obtain⟨nl,rows,r,rfl,_,hr,hk⟩:=vT hk;obtain⟨a2,r,rfl,_,hk⟩:=e9 hk;have:=oh hk;subst this;obtain⟨xs,h1,h2,_⟩:=wH (aw ab) (λs=>∀b∈s,b<256) λr hrr=>WY (hr r hrr);exact⟨⟨s1,xs,a2⟩,by simp only[iG,yC h1 h2,bQ];rfl,b1⟩
def UD(hk:fN B xY ds):∃k:aF,iG ds=ao k/\((∀b∈k.name,b<256)/\∀s∈k.bZ,∀b∈s.name,b<256):=by
 unfold xY at hk;obtain⟨s1,r,rfl,b1,_,hk⟩:=ig hk;obtain⟨v,r,rfl,hk2⟩:=EJ hk;obtain⟨nl,rows,r,rfl,_,hr,hk⟩:=vT hk2;have:=oh hk;subst this;obtain⟨xs,h1,h2,h3⟩:=wH bQ (λs=>∀b∈s.name,b<256) λr hrr=>Vk (by have:=hr r hrr;rw[oF] at this;exact this);exact⟨⟨s1,v,xs⟩,by simp only[iG,yC h1 h2,ao];rfl,b1,h3⟩
def RL(hB:B<=nD):∀(j:Nat) {ds:List DV},oF B (qc j) ds->∃f:aX,iG ds=aC f/\kO f
 | 0,ds,h=>by
  rw[qc,oF] at h;exact h.elim
 | 1,ds,h=>by
  rw[qc,oF,fN] at h;obtain⟨_,_,_,h,_⟩:=h;rw[oF] at h;exact h.elim
 | j+2,ds,h=>by
  rw[qc,oF] at h;obtain⟨a1,r,rfl,_,hk⟩:=e9 h;obtain⟨a2,r,rfl,_,hk⟩:=e9 hk;obtain⟨nl,rows,r,rfl,hl,hr,hk⟩:=vT hk;have:=oh hk;subst this;obtain⟨xs,h1,h2,h3⟩:=wH aC kO λr hrr=>RL hB j (hr r hrr);refine⟨.mk a1 a2 xs,?_,.mk gt h3⟩;rw[dL,uy];simp only[iG,Lb,yC h1 h2,h2,h1]
end
def Tu{B:Nat}(hB:B<=nD){j:Nat}{ds:List DV}(hk:fN B [.st [.sl (.st xY)],qc j] ds):∃(c:List aF) (f:aX),iG ds=an 3 c ao::aC f/\kO f/\∀k∈c,(∀b∈k.name,b<256)/\∀s∈k.bZ,∀b∈s.name,b<256:=by
 have hk:fN B [.sl (.st xY),qc j] ds:=vU hk;obtain⟨nl,rows,r,rfl,hl,hr,hk⟩:=vT hk;rw[fN] at hk;obtain⟨d1,d2,rfl,h1,h2⟩:=hk;rw[fN] at h2;subst h2;obtain⟨f,h3,h4⟩:=RL hB j h1;obtain⟨xs,k1,k2,k3⟩:=wH ao (λk=>(∀b∈k.name,b<256)/\∀s∈k.bZ,∀b∈s.name,b<256) λr hrr=>UD (by have:=hr r hrr;rw[oF] at this;exact this);exact⟨xs,f,by rw[iG,yC k1 k2,dt,h3];rfl,h4,k3⟩
def EX:List Ty:=[.sl (.st Wu),.bool]
def Qz:List Ty:=[.str,.str,i6,i6,i6]
def O3:List Ty:=[.str,.str,i6,i6]
section
variable {B:Nat} {ds:List DV}
def WS(hB:B<=nD)(hk:fN B EX ds):∃r:aN,iG ds=ae r/\(r.opts.length<=nD/\∀e∈r.opts,VB e):=by
 unfold EX at hk;obtain⟨nl,rows,r,rfl,hl,hr,hk⟩:=vT hk;obtain⟨v,r,rfl,hk2⟩:=EJ hk;have:=oh hk2;subst this;obtain⟨xs,h1,h2,h3⟩:=wH aE VB λr hrr=>XC (by have:=hr r hrr;rw[oF] at this;exact this);exact⟨⟨xs,v⟩,by simp only[iG,yC h1 h2,ae];rfl,by show xs.length<=nD;omega,h3⟩
def Xa(hB:B<=nD)(hk:fN B Qz ds):∃w:Wy,iG ds=bJ w/\((w.kind.length<=nD/\w.cX.length<=nD)/\((∀b∈w.kind,b<256)/\∀b∈w.cX,b<256)):=by
 unfold Qz at hk;obtain⟨s1,r,rfl,b1,l1,hk⟩:=ig hk;obtain⟨s2,r,rfl,b2,l2,hk⟩:=ig hk;obtain⟨a1,r,rfl,_,hk⟩:=e9 hk;obtain⟨a2,r,rfl,_,hk⟩:=e9 hk;obtain⟨a3,r,rfl,_,hk⟩:=e9 hk;have:=oh hk;subst this;exact⟨⟨s1,s2,a1,a2,a3⟩,by simp only[iG,Lb,my],⟨by show s1.length<=nD;omega,by show s2.length<=nD;omega⟩,b1,b2⟩
def Wq(hB:B<=nD)(hk:fN B O3 ds):∃w:Co,iG ds=c8 w/\((w.part.length<=nD/\w.owner.length<=nD)/\((∀b∈w.part,b<256)/\∀b∈w.owner,b<256)):=by
 unfold O3 at hk;obtain⟨s1,r,rfl,b1,l1,hk⟩:=ig hk;obtain⟨s2,r,rfl,b2,l2,hk⟩:=ig hk;obtain⟨a1,r,rfl,_,hk⟩:=e9 hk;obtain⟨a2,r,rfl,_,hk⟩:=e9 hk;have:=oh hk;subst this;exact⟨⟨s1,s2,a1,a2⟩,by simp only[iG,Lb,eN],⟨by show s1.length<=nD;omega,by show s2.length<=nD;omega⟩,b1,b2⟩
end
end Go.Proofs
namespace Go.Proofs.YtiihffmamighhaaGreat
open Go.Proofs Go.Ev Go.ChangeShapes Go.WideShapes Go.ChangeAt Go.RowKit
set_option maxRecDepth 100000
def YM:ownKnob prog.godebug=none:=by kernel_rfl
def PX:laidOutB prog=true:=by kernel_rfl
def W3{α:Type}:∀{l:List α},l.length=2->∃a b,l=[a,b]
 | [a,b],_=>⟨a,b,rfl⟩
def TC{α:Type}:∀{l:List α},l.length=3->∃a b c,l=[a,b,c]
 | [a,b,c],_=>⟨a,b,c,rfl⟩
def TN:∀k,oC prog k 27=some (qc k)
 | 0=>by kernel_rfl
 | 1=>by kernel_rfl
 | k+2=>by
  have ih:=TN k
  have h1:oC prog (k+1) 25=some (.sl (qc k)):=by
   unfold oC;rw[show prog.underlying 25=some (.slice 27) by kernel_rfl];simp only;rw[ih,m7,uy,show(Nat.beq (prog.cellsOf 27) 3&&(ble 1 3&&ble 1 (prog.bytesOf 27)))=true by kernel_rfl];rfl
  have h2:oC prog (k+1) 3=some i6:=by kernel_rfl
  obtain⟨fs,hu,hfs⟩:∃fs,prog.underlying 27=some (.struct fs)/\fs.toList.map (λf=>(f.type,f.offset))=[(3,0),(3,1),(25,2)]:=by
   have q:(prog.underlying 27).bind (λu=>match u with | .struct fs=>some (fs.toList.map (λf=>(f.type,f.offset))) | _=>none)=some [(3,0),(3,1),(25,2)]:=by kernel_rfl
   obtain⟨u,e1,e2⟩:=t6 q
   cases u<;>first | (cases e2;done) | exact⟨_,e1,Option.some.inj e2⟩
  unfold oC;rw[hu];simp only;generalize fs.toList=l at hfs;obtain⟨a,b,c,rfl⟩:=TC (by have:=n9 h7 hfs;rwa [ap] at this)
  ·simp only[b7,map_nil,mt,m8,and_true] at hfs;obtain⟨⟨a1,a2⟩,⟨b1,b2⟩,c1,c2⟩:=hfs
   have n1:prog.cellsOf 3=1:=by kernel_rfl
   have n2:prog.cellsOf 25=1:=by kernel_rfl
   have n3:prog.cellsOf 27=3:=by kernel_rfl
   simp only[kT,a1,a2,b1,b2,c1,c2,h1,h2,n1,n2,n3,m7,m6,Ty.size,Ty.yZ,hZ,cond_true,cp,bw,qc]
def TO(j:Nat):oC prog (j+12) 29=some (.st [.st [.sl (.st xY)],qc (j+11)]):=by
 obtain⟨fs,hu,hfs⟩:∃fs,prog.underlying 29=some (.struct fs)/\fs.toList.map (λf=>(f.type,f.offset))=[(24,0),(27,1)]:=by
  have q:(prog.underlying 29).bind (λu=>match u with | .struct fs=>some (fs.toList.map (λf=>(f.type,f.offset))) | _=>none)=some [(24,0),(27,1)]:=by kernel_rfl
  obtain⟨u,e1,e2⟩:=t6 q
  cases u<;>first | (cases e2;done) | exact⟨_,e1,Option.some.inj e2⟩
 have h1:oC prog (j+11) 24=some (.st [.sl (.st xY)]):=by kernel_rfl
 have h2:=TN (j+11);unfold oC;rw[hu];simp only;generalize fs.toList=l at hfs;obtain⟨a,b,rfl⟩:=W3 (by have:=n9 h7 hfs;rwa [ap] at this)
 ·simp only[b7,map_nil,mt,m8,and_true] at hfs;obtain⟨⟨a1,a2⟩,b1,b2⟩:=hfs
  have n1:prog.cellsOf 24=1:=by kernel_rfl
  have n2:prog.cellsOf 27=3:=by kernel_rfl
  have n3:prog.cellsOf 29=4:=by kernel_rfl
  have h2:oC prog (j+11) 27=some (qc (j+11)):=h2;simp only[kT,a1,a2,b1,b2,h1,h2,n1,n2,n3,m7,m6,Ty.size,Ty.yZ,uy,hZ,cond_true,cp,bw]
def Yd(j:Nat):oC Tryz.prog (j+12) 30=some (.sl (.st Qz)):=by kernel_rfl
def YX(j:Nat):oC Tryz.prog (j+12) 31=some (.sl (.st EX)):=by kernel_rfl
def Yc(j:Nat):oC Tryz.prog (j+12) 32=some (.sl (.st O3)):=by kernel_rfl
def We(j:Nat):oC Tryz.prog (j+12) 5=some (.int .u8):=by kernel_rfl
def params6:Tryz.f3.params.toList=[29,30,31,32,5,5]:=by kernel_rfl
def Cj:reachBytes<=nD:=by decide
section
variable {H:Type} {enc:TypeId×Value->H} {P:Program} {w:World} {base:Nat} {spare:Nat->Bool} {held:Bool}
def JS{t t' t2 t3 t4 t5:TypeId}{args:Array Value}{ds:List (DataW H)}{ps:List MemPlace}(h:DataW.TrodAll enc P w base spare held [t,t',t2,t3,t4,t5] args.toList ds ps):
 ∃v v' v2 v3 v4 v5 d d' d2 d3 d4 d5 p p' p2 p3 p4 p5,args=#[v,v',v2,v3,v4,v5]/\ds=[d,d',d2,d3,d4,d5]/\ps=p++p'++p2++p3++p4++p5/\DataW.Trod enc P w base spare held t v d p/\DataW.Trod enc P w base spare held t' v' d' p'/\DataW.Trod enc P w base spare held t2 v2 d2 p2/\DataW.Trod enc P w base spare held t3 v3 d3 p3/\DataW.Trod enc P w base spare held t4 v4 d4 p4/\DataW.Trod enc P w base spare held t5 v5 d5 p5:=by
 obtain⟨v,_,d,_,p,_,hargs,rfl,rfl,hd,h⟩:=trodAll_cons h;obtain⟨v',_,d',_,p',_,rfl,rfl,rfl,hd',h⟩:=trodAll_cons h;obtain⟨v2,_,d2,_,p2,_,rfl,rfl,rfl,hd2,h⟩:=trodAll_cons h;obtain⟨v3,_,d3,_,p3,_,rfl,rfl,rfl,hd3,h⟩:=trodAll_cons h;obtain⟨v4,_,d4,_,p4,_,rfl,rfl,rfl,hd4,h⟩:=trodAll_cons h;obtain⟨v5,_,d5,_,p5,_,rfl,rfl,rfl,hd5,h⟩:=trodAll_cons h;obtain⟨rfl,rfl,rfl⟩:=trodAll_nil h;exact⟨v,v',v2,v3,v4,v5,d,d',d2,d3,d4,d5,p,p',p2,p3,p4,p5,by cases args;simp_all,rfl,by simp,hd,hd',hd2,hd3,hd4,hd5⟩
def Wf{B:Nat}{y:DV}(h:YJ B (.int .u8) y):∃n:Nat,y=.fl (.int .u8 (n:Int))/\n<256:=by
 have h:oF B (.int .u8) [y]:=h;rw[oF] at h;obtain⟨n,e,w⟩:=h;simp only[mt,and_true] at e;subst e;have w:(decide ((0:Int)<=n)&&decide (n<=255))=true:=w;rw[ba,wp,wp] at w;exact⟨n.toNat,by rw[Int.toNat_of_nonneg w.1],by omega⟩
def JR{t t' t2 t3 t4 t5:TypeId}{v v' v2 v3 v4 v5:Value}{d d' d2 d3 d4 d5:DataW H}{p p' p2 p3 p4 p5:List MemPlace}(h:DataW.Trod enc P w base spare held t v d p)(h':DataW.Trod enc P w base spare held t' v' d' p')
 (h2:DataW.Trod enc P w base spare held t2 v2 d2 p2) (h3:DataW.Trod enc P w base spare held t3 v3 d3 p3) (h4:DataW.Trod enc P w base spare held t4 v4 d4 p4) (h5:DataW.Trod enc P w base spare held t5 v5 d5 p5):DataW.TrodAll enc P w base spare held [t,t',t2,t3,t4,t5] [v,v',v2,v3,v4,v5] [d,d',d2,d3,d4,d5] (p++(p'++(p2++(p3++(p4++p5))))):=⟨p,p'++(p2++(p3++(p4++p5))),h,⟨p',p2++(p3++(p4++p5)),h',trodAll_mk4 h2 h3 h4 h5,rfl⟩,rfl⟩
end
def evid_lifted(os:Os)(started:os.Started)(H:Type)(enc:TypeId×Value->H):
 ReturnsInHanded {} hJ os 3 .any (Rows.settleEvidenceSpec.pre6 enc prog Tryz.f3 Rows.settleEvidenceRow.domain false) (Rows.settleEvidenceSpec.post enc prog Tryz.f3 false true false false):=by
 refine returnsInHanded_of_change_sized (C:=hJ) YM started zW func3
  (ChangeSpec.witness6 (enc:=enc) (C:=hJ) false ⟨#[],#[.agg #[.slice none 0 0,.int .i64 0,.int .i64 0,.slice none 0 0],.slice none 0 0,.slice none 0 0,.slice none 0 0,.int .u8 0,.int .u8 0],[]⟩ 8 zW zW zW zW) ?_
 intro W base args ds gs before hval0 hW _ hwt0 _;have hval:∀(j:Nat) t v,Tryz.f3.params[j]?=some t->args[j]?=some v->Value.okWide prog W .any base t v:=hval0;have hW':=hW;obtain⟨p,q,hA0,hV,rfl,hfz,hnd⟩:=hW;have hA:DataW.TrodAll enc prog W 0 (λ_=>true) true Tryz.f3.params.toList args.toList ds p:=hA0;rw[params6] at hA;obtain⟨v0,v1,v2,v3,v4,v5,d0,d1,d2,d3,d4,d5,p0,p1,p2,p3,p4,p5,rfl,rfl,rfl,h0,h1,h2,h3,h4,h5⟩:=JS hA;obtain⟨rfl,rfl⟩:=trodVars_none hV;have hwt1:(DataW.weightsEach prog (Tryz.f3.params.toList++Rows.settleEvidenceSpec.plain.varTypes prog) ([d0,d1,d2,d3,d4,d5]++[])).all (·<=reachBytes)=true:=hwt0
 have hwt:∀{j:Nat} {t:TypeId} {d:DataW H},(Tryz.f3.params.toList++Rows.settleEvidenceSpec.plain.varTypes prog)[j]?=some t->([d0,d1,d2,d3,d4,d5]++[])[j]?=some d->∀x∈d.weights prog t,x<=reachBytes:=by
  intro j t d ht hd x hx;have:=all_eq_true.1 hwt1 x (DataW.weights_mem_each ht hd x hx);simpa using this
 obtain⟨j0,y0,o0,w0⟩:=pV TO (hval 0 29 v0 zW rfl) h0 (hwt (j:=0) zW rfl);obtain⟨_,y1,o1,w1⟩:=pV Yd (hval 1 30 v1 zW rfl) h1 (hwt (j:=1) zW rfl);obtain⟨_,y2,o2,w2⟩:=pV YX (hval 2 31 v2 zW rfl) h2 (hwt (j:=2) zW rfl);obtain⟨_,y3,o3,w3⟩:=pV Yc (hval 3 32 v3 zW rfl) h3 (hwt (j:=3) zW rfl);obtain⟨_,y4,o4,w4⟩:=pV We (hval 4 5 v4 zW rfl) h4 (hwt (j:=4) zW rfl);obtain⟨_,y5,o5,w5⟩:=pV We (hval 5 5 v5 zW rfl) h5 (hwt (j:=5) zW rfl);obtain⟨e0,rfl,o0⟩:=o0;obtain⟨m4,rfl,u4⟩:=Wf (B:=reachBytes) o4;obtain⟨m5,rfl,u5⟩:=Wf (B:=reachBytes) o5;have o1:oF reachBytes (.sl (.st Qz)) [y1]:=o1;have o2:oF reachBytes (.sl (.st EX)) [y2]:=o2;have o3:oF reachBytes (.sl (.st O3)) [y3]:=o3;rw[oF] at o1 o2 o3;obtain⟨n1,rows1,e1,b1,k1⟩:=o1;obtain⟨n2,rows2,e2,b2,k2⟩:=o2;obtain⟨n3,rows3,e3,b3,k3⟩:=o3;simp only[mt,and_true] at e1 e2 e3;subst e1;subst e2;subst e3;obtain⟨c,dmg,s0,f0,f1⟩:=Tu Cj o0;obtain⟨ws,s1,t1,g1⟩:=wH bJ (λw=>(w.kind.length<=nD/\w.cX.length<=nD)/\((∀b∈w.kind,b<256)/\∀b∈w.cX,b<256)) λr hr=>Xa Cj (by have:=k1 r hr;rw[oF] at this;exact this);obtain⟨l,s2,t2,g2⟩:=wH ae (λr=>r.opts.length<=nD/\∀e∈r.opts,VB e) λr hr=>WS Cj (by have:=k2 r hr;rw[oF] at this;exact this);obtain⟨costs,s3,t3,g3⟩:=wH c8 (λw=>(w.part.length<=nD/\w.owner.length<=nD)/\((∀b∈w.part,b<256)/\∀b∈w.owner,b<256)) λr hr=>Wq Cj (by have:=k3 r hr;rw[oF] at this;exact this);have hr:=Cj;have hlaw:=Ax c dmg ws l costs m4 m5 u4 u5 ⟨f0,f1,by omega,λw hw=>(g1 w hw).1,λw hw=>(g1 w hw).2,by omega,λw hw=>(g3 w hw).1,λw hw=>(g3 w hw).2,by omega,λr hr=>(g2 r hr).1,λr hr=>(g2 r hr).2⟩
 have hwd:oK W [.ag e0,.sl n1 rows1.length (Ty.st Qz).size rows1.flatten,.sl n2 rows2.length (Ty.st EX).size rows2.flatten,.sl n3 rows3.length (Ty.st O3).size rows3.flatten,.fl (.int .u8 (m4:Int)),.fl (.int .u8 (m5:Int))] (#[v0,v1,v2,v3,v4,v5]:Array Value).toList:=by
  rw[eL];refine⟨_,_,rfl,w0,?_⟩;rw[eL];refine⟨_,_,rfl,w1,?_⟩;rw[eL];refine⟨_,_,rfl,w2,?_⟩;rw[eL];refine⟨_,_,rfl,w3,?_⟩;rw[eL];refine⟨_,_,rfl,w4,?_⟩;rw[eL];refine⟨_,_,rfl,w5,?_⟩;rw[jV]
 have hdv:iG [.ag e0,.sl n1 rows1.length (Ty.st Qz).size rows1.flatten,.sl n2 rows2.length (Ty.st EX).size rows2.flatten,.sl n3 rows3.length (Ty.st O3).size rows3.flatten,.fl (.int .u8 (m4:Int)),.fl (.int .u8 (m5:Int))]=[.ag (an 3 c ao::aC dmg),an 5 ws bJ,an 2 l ae,an 4 costs c8,.a (.int .u8 (m4:Int)),.a (.int .u8 (m5:Int))]:=by
  simp only[iG,yC s1 t1,yC s2 t2,yC s3 t3];rw[Lb,Lb,Lb,s0];rfl
 refine(WE dQ func3 rfl hwd (by rw[hdv];exact hlaw)).mono λe W' ⟨he,hb⟩=>?_;subst he
 have hlt:∀x∈p0++p1++p2++p3++p4++p5,x.block<W.heap.size:=λx hx=>by simpa using hW'.lt x (by simpa using hx)
 have z0:=Below.trod PX zW (ww zW) h0 hb (λx hx=>hlt x (by simp[hx]));have z1:=Below.trod PX zW (ww zW) h1 hb (λx hx=>hlt x (by simp[hx]));have z2:=Below.trod PX zW (ww zW) h2 hb (λx hx=>hlt x (by simp[hx]));have z3:=Below.trod PX zW (ww zW) h3 hb (λx hx=>hlt x (by simp[hx]));have z4:=Below.trod PX zW (ww zW) h4 hb (λx hx=>hlt x (by simp[hx]));have z5:=Below.trod PX zW (ww zW) h5 hb (λx hx=>hlt x (by simp[hx]));exact⟨_,rfl,_,_,_,[],_,[],hW',trodAll_mk1 (shut_bool hG true),JR z0 z1 z2 z3 z4 z5,rfl,hb.frame _,λh=>by cases h⟩
end Go.Proofs.YtiihffmamighhaaGreat
