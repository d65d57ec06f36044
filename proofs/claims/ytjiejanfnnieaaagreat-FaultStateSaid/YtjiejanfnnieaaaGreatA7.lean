/- Lemmas of this claim, each with its conditions. -/
import Derived.Test.YtjiejanfnnieaaaGreatA6
import Derived.Test.YtjiejanfnnieaaaGreatA5
import Derived.Test.YtjiejanfnnieaaaGreatA4
import Derived.Test.YtjiejanfnnieaaaGreatA3
import Derived.Test.YtjiejanfnnieaaaGreatA2
set_option linter.all false
set_option maxHeartbeats 8000000
open List (nil_append mem_iff_getElem? cons_append all_eq_true drop_zero flatMap_cons any_eq_true set_cons_zero take_zero)
open Bool (not_not)
open Go.Proofs.Tryz (func129 func215 func216 func224 func274)
open Go.Proofs.Tryz renaming prog -> aa, func136 -> c5
open Bool renaming and_eq_true -> ac, not_eq_true' -> ap, false_ne_true -> bt, not_eq_true -> fx, or_self -> f3, or_eq_true -> f4, true_and -> f9
open List renaming mem_of_getElem? -> ad, length_map -> af, mem_cons_of_mem -> aj, mem_cons_self -> al, mem_map_of_mem -> am, drop_of_length_le -> bb, length_take -> bd, take_of_length_le -> bk, take_append_of_le_length -> bv, append_nil -> bO, take_length -> b0, map_cons -> b8, find?_cons -> b9, mem_of_find?_eq_some -> ca, flatMap_append -> cb, set_eq_take_append_cons_drop -> cc, drop_append -> ce, getElem?_cons_succ -> ci, append_assoc -> cl, sizeOf_lt_of_mem -> cn, drop_length -> cp, mem_or_eq_of_mem_set -> c6, getElem?_drop -> dd, getElem?_take -> dl, getElem?_cons_zero -> dt, replicate -> dv, takeWhile -> dy, filter_cons -> d7, length_filter_le -> d8, all_append -> d9, length_set -> el, mem_of_mem_drop -> em, mem_of_mem_take -> es, drop_succ_cons -> e4, takeWhile_cons -> e5, take_succ_cons -> e6, mem_singleton -> fm, pairwise_cons -> fu, set_cons_succ -> fv, length_drop -> fy, take_append -> f0, map_append -> f5, drop_drop -> f6, length -> f7
open Nat renaming reduceEqDiff -> ay, reduceLeDiff -> ba, reduceAdd -> bc, le_refl -> be, reduceLT -> bh, reduceMul -> bi, add_zero -> bs, lt_succ_self -> bw, not_lt_zero -> ch, zero_le -> ck, sub_self -> co, min_eq_left -> ct, mul_one -> cv, le_trans -> dc, reduceSub -> d6, add_assoc -> f8, zero_add -> gd
open And renaming intro -> b7
open Int renaming le_refl -> ey, toNat_natCast -> fd, le_trans -> gc
namespace Go.Proofs
open Go.Ev
set_option maxRecDepth 100000
def BG(l1 l2 l3 l4 l5 l6:Int):List SV:=[ab l1,ab l2,ab l3,ab l4,ab l5,ab l6]
def RO(a b x y:List SV)(off:Nat)(h:off=a.length):((a++(x++(y++b))).drop (off+x.length)).take y.length=y:=by
 subst h;rw[ce,show a.length+x.length-a.length=x.length by omega,bb i5,nil_append,ce,co,bb (be _),nil_append,drop_zero,bv (be _),bk (be _)]
def Sj(a b x y z:List SV)(off:Nat)(h:off=a.length)(hz:z.length=y.length):(a++(x++(y++b))).take (off+x.length)++(z++(a++(x++(y++b))).drop (off+x.length+z.length))=a++(x++(z++b)):=by
 subst h
 rw[f0,show a.length+x.length-a.length=x.length by omega,bk i5,bv (be _),bk (be _),
  ce,bb i5,nil_append,show a.length+x.length+z.length-a.length=x.length+z.length by omega,ce,bb i5,nil_append,show x.length+z.length-x.length=y.length by omega,ce,bb (be _),nil_append,co,drop_zero]
 simp
def NJ(l1 l2 l3 l4 l5 l6:Int)(u:iM)(d1 d2:Int):List SV:=BG (ez gy l1 l2 u.u1 u.u2).1 (ez gy l1 l2 u.u1 u.u2).2 (ez gy l3 l4 u.u3 u.u4).1 (ez gy l3 l4 u.u3 u.u4).2 (ez gy l5 l6 d1 d2).1 (ez gy l5 l6 d1 d2).2
def DM(a b:List SV)(l1 l2 l3 l4 l5 l6:Int)(u:iM)(d1 d2:Int)(hg:bW (a++(BG l1 l2 l3 l4 l5 l6++b))=true):SC aa 52 [.ptr 0 a.length,.ag (ee u),kS d1 d2] [.cells (a++(BG l1 l2 l3 l4 l5 l6++b))] []
 (λr S'=>r=.cm []/\S'=[.cells (a++(NJ l1 l2 l3 l4 l5 l6 u d1 d2++b))]):=by
 refine OH 35 Tryz.func52 ?_;have hp1:=pN l1 l2 u.u1 u.u2;have hp2:=pN l3 l4 u.u3 u.u4;have hp3:=pN l5 l6 d1 d2;unfold NJ;generalize ez gy l1 l2 u.u1 u.u2=q1 at hp1 ⊢;generalize ez gy l3 l4 u.u3 u.u4=q2 at hp2 ⊢;generalize ez gy l5 l6 d1 d2=q3 at hp3 ⊢;obtain⟨cs,hcs⟩:∃cs,cs=a++(BG l1 l2 l3 l4 l5 l6++b):=⟨_,rfl⟩;rw[<-hcs] at hg ⊢;have hk:∀o:Nat,cs.map (aY o)=cs:=λo=>bR hg
 have hl:cs.length=a.length+(6+b.length):=by rw[hcs,md,md];rfl
 have g1:(cs.drop a.length).take 2=[ab l1,ab l2]:=by rw[hcs];exact RO a (ab l3::ab l4::ab l5::ab l6::b) [] [ab l1,ab l2] a.length rfl
 have g2:(cs.drop (a.length+2)).take 2=[ab l3,ab l4]:=by rw[hcs];exact RO a (ab l5::ab l6::b) [ab l1,ab l2] [ab l3,ab l4] a.length rfl
 have g3:(cs.drop (a.length+4)).take 2=[ab l5,ab l6]:=by rw[hcs];exact RO a b [ab l1,ab l2,ab l3,ab l4] [ab l5,ab l6] a.length rfl
 obtain⟨c1,hc1⟩:∃c1,c1=cs.take a.length++(ab q1.1::ab q1.2::cs.drop (a.length+2)):=⟨_,rfl⟩
 have e1:c1=a++([ab q1.1,ab q1.2]++([ab l3,ab l4,ab l5,ab l6]++b)):=by rw[hc1,hcs];exact Sj a (ab l3::ab l4::ab l5::ab l6::b) [] [ab l1,ab l2] [ab q1.1,ab q1.2] a.length rfl rfl
 obtain⟨c2,hc2⟩:∃c2,c2=c1.take (a.length+2)++(ab q2.1::ab q2.2::c1.drop (a.length+2+2)):=⟨_,rfl⟩
 have e2:c2=a++([ab q1.1,ab q1.2]++([ab q2.1,ab q2.2]++([ab l5,ab l6]++b))):=by rw[hc2,e1];exact Sj a (ab l5::ab l6::b) [ab q1.1,ab q1.2] [ab l3,ab l4] [ab q2.1,ab q2.2] a.length rfl rfl
 obtain⟨c3,hc3⟩:∃c3,c3=c2.take (a.length+4)++(ab q3.1::ab q3.2::c2.drop (a.length+4+2)):=⟨_,rfl⟩
 have e3:c3=a++(BG q1.1 q1.2 q2.1 q2.2 q3.1 q3.2++b):=by rw[hc3,e2];exact Sj a b [ab q1.1,ab q1.2,ab q2.1,ab q2.2] [ab l5,ab l6] [ab q3.1,ab q3.2] a.length rfl rfl
 have hl1:c1.length=a.length+(6+b.length):=by rw[e1];simp;omega
 have hl2:c2.length=a.length+(6+b.length):=by rw[e2];simp;omega
 rw[<-e3];refine(aw (cG @ee.eq_1 @kS.eq_1 hk)) ?_;refine aE.post ?_;refine(zs) ?_;refine oS [0,0,0,0,8,24,56,0,128,504,0,1024,3072,7168,0,16384,65528,0,131072,393216,917504,0,4194296,8388601,16777209,33554425,67108859,134217723,268435451,536870911,1073741823,2147483647] ?_;refine(uD (gm hl (show a.length+2<=a.length+(6+b.length) by omega) g1 @bs)) ?_;refine SD.k i4 rfl rfl i4 rfl rfl (Hg @kS.eq_1) (hp1) (zw) rfl ?_;refine(uD (lM hl @f8 (show a.length+4<=a.length+(6+b.length) by omega) g2 @bs)) ?_;refine SD.k i4 rfl rfl i4 rfl rfl (Hg @kS.eq_1) (hp2) (zw) rfl ?_;refine(uD (lM hl @f8 (show a.length+6<=a.length+(6+b.length) by omega) g3 @bs)) ?_;refine SD.k i4 rfl rfl i4 rfl rfl (Hg @kS.eq_1) (hp3) (zw) rfl ?_;refine(uD @bs) ?_;refine SD.e i4 rfl i4 rfl rfl i4 (rX (xX @nZ.eq_1 @kS.eq_1 hl @bs (show a.length+2<=a.length+(6+b.length) by omega) (Eq.symm hc1))) ?_;refine(uD @bs) ?_;refine SD.e i4 rfl i4 rfl rfl i4 (rX (lM @nZ.eq_1 @kS.eq_1 hl1 (show a.length+2+2<=a.length+(6+b.length) by omega) (Eq.symm hc2))) ?_;refine(uD @bs) ?_;refine SD.e i4 rfl i4 rfl rfl i4 (rX (lM @nZ.eq_1 @kS.eq_1 hl2 (show a.length+4+2<=a.length+(6+b.length) by omega) (Eq.symm hc3))) ?_;refine(zM) ?_;refine⟨⟨[(1000000,.ptr 0 0)],35,[.cells c3],[]⟩,(bX @ki.eq_1),?_⟩;exact zP []
abbrev rY:Nat:=1000000000000000
def gG{α:Type}{p:α->Bool}{l:List α}{k:Nat}{x:α}(hx:l[k]?=some x)(h:(l.take k).all p=true)(hp:p x=true):(l.take (k+1)).all p=true:=by
 rw[cD hx,d9,h];show(true&&(p x&&true))=true;rw[hp];rfl
inductive kE:bx->Prop
 | mk {op n:Int} {kids:List bx}:kids.length<=rY->(∀k∈kids,kE k)->kE (.mk op n kids)
def um:∀(d:Nat) (f:bx),SizeOf.sizeOf f<d->kE f->∀most:Int,PC Tryz.prog 154 [.ag (aC f),ab most] (·=ab (ft f most))
 | 0,f,hd,_,_=>un hd (Nat.not_lt_zero _)
 | d+1,.mk op n kids,hd,hf,most=>by
  cases hf with
  | mk hlen hks=>
  have hkd:∀k∈kids,SizeOf.sizeOf k<d:=λk hk=>by
   have h1:=List.sizeOf_lt_of_mem hk
   have h2:SizeOf.sizeOf (bx.mk op n kids)=1+SizeOf.sizeOf op+SizeOf.sizeOf n+SizeOf.sizeOf kids:=by simp
   omega
  rw[df,ft]
  refine pB 31 Tryz.func154 ?_;refine(zV) ?_;refine zZ [(1,ab most),(2,.ip [ab op,ab n,an 3 kids aC])] 0 rfl (gu @an.eq_1)<|zA [(1,ab most),(2,.ip [ab op,ab n,an 3 kids aC])] [] zH<|(oa)<|(zs) ?_;refine Hf kids (λk (acc:Int)=>gR kids most 1=gR (kids.drop k) most acc) (λk acc=>[(1,ab most),(2,.ip [ab op,ab n,an 3 kids aC]),(5,ab acc),(6,ab k)]) (λk acc=>[]) (1) zH i4 ?_;intro k acc hk hall
  by_cases hlt:k<kids.length;rotate_left
  ·refine(aw (show decide ((k:Int)<(kids.length:Int))=false by simp only[wn];omega))<|(gh) ?_
   rw[List.drop_of_length_le i5,gR] at hall
   exact(zV)<|zo [.tmp 4] (hq:=by rw[hall])
  have hd:=show decide ((k:Int)<(kids.length:Int))=true by simp only[wp];omega
  obtain⟨x,hx⟩:∃x,kids[k]?=some x:=⟨kids[k],li hlt⟩;rw[eR hx,gR] at hall;have hxm:=List.mem_of_getElem? hx;have ih:=um d x (hkd x hxm) (hks x hxm);have hxl:((kids.flatMap aC).drop (k*3)).take 3=aC x:=aQ (e:=3) (enc:=aC) eS hx;obtain⟨op',n',kids'⟩:=x;simp only[df] at hxl ih;cases h1:decide (acc<=most)
  ·rw[ut (by have:=wt h1;omega)] at hall
   exact(aw (bq hd h1))<|(gh)<|(zV)<|zo [.tmp 4] (hq:=by rw[hall])
  rw[v6 (by have:=ww h1;omega)] at hall
  refine(aw (bq hd h1))<|(gB)<|(fb (cG hlt hxl @oe))<|(zK (ih (ub most acc)))<|(cJ @sM)<|(aw (zi hlt hlen)) ?_;refine wq hlt (xL acc (ft (.mk op' n' kids') (ub most acc))) zH hall
def GG(f:bx)(hf:kE f)(most:Int):PC aa 154 [.ag (aC f),ab most] (·=ab (ft f most)):=um _ f (bw _) hf most
def EU(f:bx):Bool:=decide (ft f 80<=80)
def ID(f:bx)(hf:kE f):PC aa 73 [.ag (aC f)] (·=ak (Proofs.EU f)):=by
 refine pB 6 Tryz.func73 ?_;have hN:=GG f hf 80;unfold Proofs.EU;generalize ft f 80=q at hN ⊢;obtain⟨op,n,kids⟩:=f;rw[df] at hN ⊢
 exact(jt)<|(zK hN)<|(zR)<|zo [.tmp 2]
def Jn{a b:Int}(h : -9223372036854775808<=a+b/\a+b<=9223372036854775807):xL a b=a+b:=by
 have h1:(sF (-9223372036854775808) (a+b)&&sF (a+b) 9223372036854775807)=true:=by
  rw[gq,gq];simp[h.1,h.2]
 unfold xL;simp only[dP,NK,Nz,h1,ar]
def Ky{a b:Int}(h : -9223372036854775808<=a-b/\a-b<=9223372036854775807):ub a b=a-b:=by
 have h1:(sF (-9223372036854775808) (a-b)&&sF (a-b) 9223372036854775807)=true:=by
  rw[gq,gq];simp[h.1,h.2]
 unfold ub;simp only[dP,NK,Nz,h1,ar]
def BQ:∀(d:Nat) (f:bx),SizeOf.sizeOf f<d->∀most:Int,-1000<=most->most<=1000->1<=ft f most/\(ft f most<=most+1\/ft f most=1)/\(ft f most<=most->gE f)
 | 0,f,hd,_,_,_=>un hd (Nat.not_lt_zero _)
 | d+1,.mk op n kids,hd,most,h0,h1=>by
  have hkd:∀k∈kids,SizeOf.sizeOf k<d:=λk hk=>by
   have h1:=List.sizeOf_lt_of_mem hk
   have h2:SizeOf.sizeOf (bx.mk op n kids)=1+SizeOf.sizeOf op+SizeOf.sizeOf n+SizeOf.sizeOf kids:=by simp
   omega
  have key:∀(ks:List bx) (acc:Int),(∀k∈ks,k∈kids)->1<=acc->(acc<=most+1\/acc=1)->1<=gR ks most acc/\(gR ks most acc<=most+1\/gR ks most acc=1)/\(gR ks most acc<=most->acc+ks.length<=gR ks most acc/\∀k∈ks,gE k):=by
   intro ks
   induction ks with
   | nil=>intro acc _ h2 h3;rw[gR];exact⟨h2,h3,λ_=>⟨by simp,λk hk=>by cases hk⟩⟩
   | cons k ks ih=>
    intro acc hm h2 h3;rw[gR];split
    ·rename_i hlt;exact⟨h2,h3,λh=>by omega⟩
    ·rename_i hlt;rw[Ky i5];obtain⟨b1,b2,b3⟩:=BQ d k (hkd k (hm k List.mem_cons_self)) (most-acc) i5 i5;rw[Jn i5];obtain⟨c1,c2,c3⟩:=ih (acc+ft k (most-acc)) (λx hx=>hm x (List.mem_cons_of_mem _ hx)) i5 i5;refine⟨c1,c2,λh=>?_⟩;obtain⟨d1,d2⟩:=c3 h;refine⟨by rw[jp];omega,λx hx=>?_⟩
     rcases t7 hx with rfl | hx
     ·exact b3 i5
     ·exact d2 x hx
  rw[ft];obtain⟨c1,c2,c3⟩:=key kids 1 (λ_ h=>h) (Int.le_refl _) (.inr rfl);refine⟨c1,c2,λh=>?_⟩;obtain⟨d1,d2⟩:=c3 h;exact .mk i5 d2
def Nj{f:bx}(h:EU f=true):gE f:=(BQ _ f (bw _) 80 ii ii).2.2 (ww h)
def pK(s:jU):Bool:=!(decide (100<(s.name.length:Int)))&&(!(decide (15<(s.kinds.length:Int)))&&s.kinds.all λn=>!(decide (100<(n.length:Int))))
def nS(k:aL):Bool:=!(decide (100<(k.name.length:Int)))&&(!(decide (15<(k.bJ.length:Int)))&&k.bJ.all pK)
def sZ(c:List aL):Bool:=!(decide (65<(c.length:Int)))&&c.all nS
def iw{α:Type}{p:α->Bool}{l:List α}{x:α}(hx:x∈l)(hp:p x=false):l.all p=false:=Bool.eq_false_iff.2 λh=>by
 have:=all_eq_true.1 h x hx;rw[hp] at this;cases this
def IE(c:List aL):PC aa 72 [.ag [an 3 c ao]] (·=ak (Proofs.sZ c)):=by
 refine pB 80 Tryz.func72 ?_;refine(zV) ?_;refine zZ [(1,.ip [an 3 c ao])] 0 rfl (gu @an.eq_1)<|zA [(1,.ip [an 3 c ao])] [] zH ?_
 cases g1:decide (65<(c.length:Int));rotate_left
 ·exact(aw g1)<|(cF)<|zo [.tmp 2] (hq:=by rw[Proofs.sZ,g1];rfl)
 have hlen:c.length<=1000000:=by have:=wt g1;omega
 have hN:Proofs.sZ c=c.all nS:=by rw[Proofs.sZ,g1];rfl
 refine(aw g1)<|(kY)<|(zs) ?_;refine zL c (λk=>(c.take k).all nS=true) (λk=>[(1,.ip [an 3 c ao]),(3,ab k)]) (λk=>[]) zH zp ?_;intro k hk hall
 by_cases hlt:k<c.length;rotate_left
 ·obtain rfl:k=c.length:=by omega
  rw[b0] at hall
  exact(aw (show decide ((c.length:Int)<(c.length:Int))=false by simp))<|(gh)<|(zV)<|zo [.tmp 2] (hq:=by rw[hN,hall])
 have hd:=show decide ((k:Int)<(c.length:Int))=true by simp only[wp];omega
 obtain⟨x,hx⟩:∃x,c[k]?=some x:=⟨c[k],li hlt⟩
 have hbad:nS x=false->Proofs.sZ c=false:=λh=>by rw[hN];exact iw (ad hx) h
 refine(aw hd)<|(gB) ?_
 (repeat refine aE.seq ?_)
 refine(aw (cG hlt (aQ (e:=3) (enc:=ao) (λ_=>rfl) hx) @ao.eq_1)) ?_;refine zZ [(1,.ip [an 3 c ao]),(3,ab k),(4,.ip [ah x.name,ak x.vehicle,an 3 x.bJ bF])] 0 rfl (gu @an.eq_1)<|zA [(1,.ip [an 3 c ao]),(3,ab k),(4,.ip [ah x.name,ak x.vehicle,an 3 x.bJ bF])] [] zH ?_
 cases j1:decide (100<(x.name.length:Int));rotate_left
 ·exact(aw j1)<|(cF)<|zo [.tmp 2] (hq:=by rw[hbad (by rw[nS,j1];rfl)])
 cases j2:decide (15<(x.bJ.length:Int));rotate_left
 ·exact(aw (bq j1 j2))<|(cF)<|zo [.tmp 2] (hq:=by rw[hbad (by rw[nS,j1,j2];rfl)])
 have hkx:nS x=x.bJ.all pK:=by rw[nS,j1,j2];rfl
 have hlen2:x.bJ.length<=1000000:=by have:=wt j2;omega
 refine(aw (bq j1 j2))<|(kY)<|(zs) ?_;refine zL x.bJ (λk2=>(x.bJ.take k2).all pK=true) (λk2=>[(1,.ip [an 3 c ao]),(3,ab k),(4,.ip [ah x.name,ak x.vehicle,an 3 x.bJ bF]),(5,ab k2)]) (λk2=>[]) zH zp ?_;intro k2 hk2 hall2
 by_cases hlt2:k2<x.bJ.length;rotate_left
 ·obtain rfl:k2=x.bJ.length:=by omega
  rw[b0] at hall2
  refine(aw (show decide ((x.bJ.length:Int)<(x.bJ.length:Int))=false by simp))<|(gh)<|(aw (zi hlt hlen)) ?_;refine zX hlt zH (gG hx hall (by rw[hkx,hall2]))
 have hd2:=show decide ((k2:Int)<(x.bJ.length:Int))=true by simp only[wp];omega
 obtain⟨y,hx2⟩:∃y,x.bJ[k2]?=some y:=⟨x.bJ[k2],li hlt2⟩
 have hbad2:pK y=false->nS x=false:=λh=>by rw[hkx];exact iw (ad hx2) h
 refine(aw hd2)<|(gB) ?_
 (repeat refine aE.seq ?_)
 cases j3:decide (100<(y.name.length:Int));rotate_left
 ·exact(aw (gm hlt2 (aQ (e:=3) (enc:=bF) (λ_=>rfl) hx2) @bF.eq_1 j3))<|(cF)<|zo [.tmp 2] (hq:=by rw[hbad (hbad2 (by rw[pK,j3];rfl))])
 cases j4:decide (15<(y.kinds.length:Int));rotate_left
 ·exact(aw (lM hlt2 (aQ (e:=3) (enc:=bF) (λ_=>rfl) hx2) @bF.eq_1 j3 j4))<|(cF)<|zo [.tmp 2] (hq:=by rw[hbad (hbad2 (by rw[pK,j3,j4];rfl))])
 have hky:pK y=y.kinds.all λn=>!(decide (100<(n.length:Int))):=by rw[pK,j3,j4];rfl
 have hlen3:y.kinds.length<=1000000:=by have:=wt j4;omega
 refine(aw (lM hlt2 (aQ (e:=3) (enc:=bF) (λ_=>rfl) hx2) @bF.eq_1 j3 j4))<|(kY)<|(zs) ?_;refine zL y.kinds (λk3=>((y.kinds.take k3).all λn=>!(decide (100<(n.length:Int))))=true) (λk3=>[(1,.ip [an 3 c ao]),(3,ab k),(4,.ip [ah x.name,ak x.vehicle,an 3 x.bJ bF]),(5,ab k2),(6,ab k3)]) (λk3=>[]) zH zp ?_;intro k3 hk3 hall3
 by_cases hlt3:k3<y.kinds.length;rotate_left
 ·obtain rfl:k3=y.kinds.length:=by omega
  rw[b0] at hall3
  refine(aw (gm hlt2 (aQ (e:=3) (enc:=bF) (λ_=>rfl) hx2) @bF.eq_1 (show decide ((y.kinds.length:Int)<(y.kinds.length:Int))=false by simp)))<|(gh)<|(aw (zi hlt2 hlen2)) ?_;refine zX hlt2 zH (gG hx2 hall2 (by rw[hky,hall3]))
 have hd3:=show decide ((k3:Int)<(y.kinds.length:Int))=true by simp only[wp];omega
 obtain⟨z,hx3⟩:∃z,y.kinds[k3]?=some z:=⟨y.kinds[k3],li hlt3⟩
 refine(aw (gm hlt2 (aQ (e:=3) (enc:=bF) (λ_=>rfl) hx2) @bF.eq_1 hd3))<|(gB) ?_
 cases j5:decide (100<(z.length:Int));rotate_left
 ·exact(aw (EG hlt2 (aQ (e:=3) (enc:=bF) (λ_=>rfl) hx2) @bF.eq_1 hlt3 (aQ (e:=1) (enc:=aB ah) (λ_=>rfl) hx3) @aB.eq_1 j5))<|(cF)<|zo [.tmp 2] (hq:=by rw[hbad (hbad2 (by rw[hky];exact iw (ad hx3) (by rw[j5];rfl)))])
 refine(aw (EG hlt2 (aQ (e:=3) (enc:=bF) (λ_=>rfl) hx2) @bF.eq_1 hlt3 (aQ (e:=1) (enc:=aB ah) (λ_=>rfl) hx3) @aB.eq_1 j5))<|(zN)<|(aw (zi hlt3 hlen3)) ?_;refine zX hlt3 zH (gG hx3 hall3 (by rw[j5];rfl))
structure T1 (e:bu):Prop where
 part:∀b∈e.part,b<256
 kind:∀b∈e.kind,b<256
 aR:∀b∈e.aR,b<256
 slot:∀b∈e.slot,b<256
 key:∀b∈e.key,b<256
 value:∀b∈e.value,b<256
def Nk{c:List aL}(h:sZ c=true)(hb:∀k∈c,(∀b∈k.name,b<256)/\∀s∈k.bJ,∀b∈s.name,b<256):mr c:=by
 unfold sZ at h;simp only[ac,ap,wn,all_eq_true] at h
 have hk:∀k∈c,k.name.length<=100/\k.bJ.length<=15/\∀s∈k.bJ,s.name.length<=100/\s.kinds.length<=15:=λk hk=>by
  have:=h.2 k hk;unfold nS at this;simp only[ac,ap,wn,all_eq_true] at this;refine⟨by omega,by omega,λs hs=>?_⟩;have:=this.2.2 s hs;unfold pK at this;simp only[ac,ap,wn] at this;omega
 exact⟨by omega,λk h1=>⟨⟨by have:=hk k h1;omega,(hb k h1).1⟩,by have:=hk k h1;omega⟩,λk h1 s hs=>⟨⟨by have:=(hk k h1).2.2 s hs;omega,(hb k h1).2 s hs⟩,by have:=(hk k h1).2.2 s hs;omega⟩⟩
end Go.Proofs
namespace Go.Ev
open Go.RowKit Go.ChangeShapes Go.WideShapes Go.Deep
noncomputable section
mutual
def EP:DV->SV
 | .fl a=>.a a
 | .sl _ n e cs=>.sl n e (eJ cs)
 | .ag cs=>.ag (eJ cs)
def eJ:List DV->List SV
 | []=>[]
 | d::ds=>EP d::eJ ds
end
def ES:∀a b:List DV,eJ (a++b)=eJ a++eJ b
 | [],b=>rfl
 | d::a,b=>by rw[cons_append,eJ,eJ,ES a b,cons_append]
def Ik(h:H):jX:=λid=>if id<h.next then h.aU.get id else none
def QF(h:H):Ms (Ik h) h:=by
 intro id ob hi;unfold Ik at hi;split at hi
 ·rename_i hl;exact⟨hl,hi⟩
 ·cases hi
def Ou{h:H}{id:Nat}{row:List AV}(hl:id<h.next)(hr:rI h.aU id=some row):vn (Ik h) id=some row:=by
 unfold vn Ik;rw[ut hl];unfold rI at hr
 cases hg:h.aU.get id with
 | none=>rw[hg] at hr;cases hr
 | some o=>
  rw[hg] at hr
  cases o<;>first | exact hr | cases hr
mutual
def Dp.gs{s:Bool}{h:H}:∀{d:DV} {a:AV},Dp s h d a->GS (Ik h) (EP d) a
 | .fl a0,a,hd=>by
  rw[SS] at hd;rw[EP,GS];exact hd.1
 | .sl nl n e cs,a,hd=>by
  rw[Jm] at hd;rw[EP,GS]
  rcases hd with⟨h1,h2,⟨o,e',c,h3,h4,h5⟩,_⟩ | ⟨_,id,off,cap,row,aS,e1,h1,h2,h3,h4,h5⟩
  ·subst h2;exact .inl ⟨h1,by rw[eJ],o,e',c,by rw[h3],h4,h5⟩
  ·exact .inr ⟨id,off,cap,row,e1,Ou h1 h2,h3,by rw[<-h4];exact Ed.gs h5⟩
 | .ag cs,a,hd=>by
  rw[SQ] at hd;obtain⟨aS,e1,h1⟩:=hd;rw[EP,GS];exact⟨aS,e1,Ed.gs h1⟩
def Ed.gs{s:Bool}{h:H}:∀{ds:List DV} {aS:List AV},Ed s h ds aS->jQ (Ik h) (eJ ds) aS
 | [],aS,hd=>by rw[Pc] at hd;rw[eJ,jQ];exact hd
 | d::ds,aS,hd=>by
  rw[Mn] at hd;obtain⟨a,r,e1,h1,h2⟩:=hd;rw[eJ,jQ];exact⟨a,r,e1,Dp.gs h1,Ed.gs h2⟩
end
def R5{P:Program}(hng:sG P){f:FuncId}{fn:Func}(hf:P.funcs[f]?=some fn)(hb:fn.body.isSome=true){w:World}{ds:List DV}{args':Array Value}(hw:nf w ds args'.toList)
 (hc:PC P f (eJ ds) (·=.a (.bool true))):Calls P f args' w λe w'=>e=.returned (.bool true)/\Below w.heap.size w w':=by
 obtain⟨σ,k1,k2⟩:=hw.lay;have hd:=nf.dp (rows:=(eM ds 0).2) hw 0 (λi r hr=>by rw[gd];exact hr);have hfine:=hc (Ik _) _ _ (QF _) hd.gs σ w args' k1 k2;rw[dV hng hf hb] at hfine;refine Calls.mono hfine λe w' ⟨x,he,a,h',⟨r,ρ',hr,_,_,hg⟩,σ',hV,hr',hE⟩=>?_;subst hr;rw[GS] at hg;subst hg;cases hV;exact⟨he,HF hE⟩
end
end Go.Ev
namespace Go.Proofs
open Go.Ev
set_option maxRecDepth 100000
abbrev i6:Ty:=.int .i64
def K5:List Ty:=[i6,i6,.str,.str,.str,.str,.str,.str,.st [.st [i6,i6],.st [i6,i6],.st [i6,i6]]]
def Is:List Ty:=[.str,.sl .str,i6]
def u9:List Ty:=[.str,.bool,.sl (.st Is)]
def oq:Nat->Ty
 | 0=>.no 3
 | 1=>.st [.no 1,.no 1,.no 1]
 | j+2=>.st [i6,i6,.sl (oq j)]
def sh:∀j,(oq j).size=3
 | 0=>rfl
 | 1=>rfl
 | j+2=>rfl
def mP{α:Type}(enc:α->List SV)(ok:α->Prop):∀{rows:List (List DV)},(∀r∈rows,∃x,eJ r=enc x/\ok x)->∃xs:List α,xs.length=rows.length/\eJ rows.flatten=xs.flatMap enc/\∀x∈xs,ok x
 | [],_=>⟨[],rfl,rfl,λx hx=>by cases hx⟩
 | r::rows,h=>by
  obtain⟨x,h1,h2⟩:=h r al;obtain⟨xs,h3,h4,h5⟩:=mP enc ok (rows:=rows) λq hq=>h q (aj _ hq);refine⟨x::xs,by rw[jp,jp,h3],by rw[List.flatten_cons,ES,h1,h4,flatMap_cons],λy hy=>?_⟩
  rcases t7 hy with rfl | hy
  ·exact h2
  ·exact h5 y hy
def nj{α:Type}{enc:α->List SV}{nl:Bool}{e:Nat}{rows:List (List DV)}{xs:List α}(h1:xs.length=rows.length)(h2:eJ rows.flatten=xs.flatMap enc):EP (.sl nl rows.length e rows.flatten)=an e xs enc:=by
 rw[EP,h2,an,h1]
section
variable {B:Nat} {ds:List DV}
def S9(hk:dT B K5 ds):∃e:bu,eJ ds=aq e/\T1 e:=by
 unfold K5 at hk;obtain⟨a1,r,rfl,_,hk⟩:=dB hk;obtain⟨a2,r,rfl,_,hk⟩:=dB hk;obtain⟨s1,r,rfl,b1,_,hk⟩:=cU hk;obtain⟨s2,r,rfl,b2,_,hk⟩:=cU hk;obtain⟨s3,r,rfl,b3,_,hk⟩:=cU hk;obtain⟨s4,r,rfl,b4,_,hk⟩:=cU hk;obtain⟨s5,r,rfl,b5,_,hk⟩:=cU hk;obtain⟨s6,r,rfl,b6,_,hk⟩:=cU hk;have hk:dT B [.st [i6,i6],.st [i6,i6],.st [i6,i6]] r:=tC hk;have hk:dT B [i6,i6,.st [i6,i6],.st [i6,i6]] r:=tC hk;obtain⟨u1,r,rfl,_,hk⟩:=dB hk;obtain⟨u2,r,rfl,_,hk⟩:=dB hk;have hk:dT B [i6,i6,.st [i6,i6]] r:=tC hk;obtain⟨u3,r,rfl,_,hk⟩:=dB hk;obtain⟨u4,r,rfl,_,hk⟩:=dB hk;have hk:dT B [i6,i6] r:=tC hk;obtain⟨u5,r,rfl,_,hk⟩:=dB hk;obtain⟨u6,r,rfl,_,hk⟩:=dB hk;have:=gS hk;subst this;exact⟨⟨a1,a2,s1,s2,s3,s4,s5,s6,u1,u2,u3,u4,u5,u6⟩,by simp only[eJ,EP,aq],⟨b1,b2,b3,b4,b5,b6⟩⟩
def Sr(hk:kr B .str ds):∃s:List Nat,eJ ds=aB ah s/\∀b∈s,b<256:=by
 rw[kr] at hk;obtain⟨s,rfl,h1,_⟩:=hk;exact⟨s,by simp only[eJ,EP,aB],h1⟩
def QK(hk:dT B Is ds):∃s:jU,eJ ds=bF s/\∀b∈s.name,b<256:=by
 unfold Is at hk;obtain⟨s1,r,rfl,b1,_,hk⟩:=cU hk;obtain⟨nl,rows,r,rfl,_,hr,hk⟩:=iy hk;obtain⟨a2,r,rfl,_,hk⟩:=dB hk;have:=gS hk;subst this;obtain⟨xs,h1,h2,_⟩:=mP (aB ah) (λs=>∀b∈s,b<256) λr hrr=>Sr (hr r hrr);exact⟨⟨s1,xs,a2⟩,by simp only[eJ,nj h1 h2,bF];rfl,b1⟩
def P0(hk:dT B u9 ds):∃k:aL,eJ ds=ao k/\((∀b∈k.name,b<256)/\∀s∈k.bJ,∀b∈s.name,b<256):=by
 unfold u9 at hk;obtain⟨s1,r,rfl,b1,_,hk⟩:=cU hk;obtain⟨v,r,rfl,hk2⟩:=Lt hk;obtain⟨nl,rows,r,rfl,_,hr,hk⟩:=iy hk2;have:=gS hk;subst this;obtain⟨xs,h1,h2,h3⟩:=mP bF (λs=>∀b∈s.name,b<256) λr hrr=>QK (by have:=hr r hrr;rw[kr] at this;exact this);exact⟨⟨s1,v,xs⟩,by simp only[eJ,nj h1 h2,ao];rfl,b1,h3⟩
def Nt(hB:B<=rY):∀(j:Nat) {ds:List DV},kr B (oq j) ds->∃f:bx,eJ ds=aC f/\kE f
 | 0,ds,h=>by
  rw[oq,kr] at h;exact h.elim
 | 1,ds,h=>by
  rw[oq,kr,dT] at h;obtain⟨_,_,_,h,_⟩:=h;rw[kr] at h;exact h.elim
 | j+2,ds,h=>by
  rw[oq,kr] at h;obtain⟨a1,r,rfl,_,hk⟩:=dB h;obtain⟨a2,r,rfl,_,hk⟩:=dB hk;obtain⟨nl,rows,r,rfl,hl,hr,hk⟩:=iy hk;have:=gS hk;subst this;obtain⟨xs,h1,h2,h3⟩:=mP aC kE λr hrr=>Nt hB j (hr r hrr);refine⟨.mk a1 a2 xs,?_,.mk i5 h3⟩;rw[df,sh];simp only[eJ,EP,nj h1 h2,h2,h1]
end
def OM{B:Nat}(hB:B<=rY){j:Nat}{ds:List DV}(hk:dT B [.st [.sl (.st u9)],oq j] ds):∃(c:List aL) (f:bx),eJ ds=an 3 c ao::aC f/\kE f/\∀k∈c,(∀b∈k.name,b<256)/\∀s∈k.bJ,∀b∈s.name,b<256:=by
 have hk:dT B [.sl (.st u9),oq j] ds:=tC hk;obtain⟨nl,rows,r,rfl,hl,hr,hk⟩:=iy hk;rw[dT] at hk;obtain⟨d1,d2,rfl,h1,h2⟩:=hk;rw[dT] at h2;subst h2;obtain⟨f,h3,h4⟩:=Nt hB j h1;obtain⟨xs,k1,k2,k3⟩:=mP ao (λk=>(∀b∈k.name,b<256)/\∀s∈k.bJ,∀b∈s.name,b<256) λr hrr=>P0 (by have:=hr r hrr;rw[kr] at this;exact this);exact⟨xs,f,by rw[eJ,nj k1 k2,bO,h3];rfl,h4,k3⟩
noncomputable def io(L:Nat->Prop)(i:Nat)(x y:SO):SO:=@ite _ (L i) (Classical.propDecidable _) x y
def CP{L:Nat->Prop}{i:Nat}{x y:SO}(h:L i):io L i x y=x:=ut h
def yz{L:Nat->Prop}{i:Nat}{x y:SO}(h:¬L i):io L i x y=y:=v6 h
def lT(L:Nat->Prop)(i k:Nat)(x y:SO):io (λj=>L j\/j=i) k x y=if k=i then x else io L k x y:=by
 by_cases h:k=i
 ·rw[ut h];exact CP (.inr h)
 ·rw[v6 h];by_cases hl:L k
  ·rw[CP hl,CP (.inl hl)]
  ·rw[yz hl,yz λh'=>h'.elim hl h]
def PZ(o:Nat)(L:Nat->Prop)(i:Nat)(x y:SO):cE o (io L i x y)=io L i (cE o x) (cE o y):=by
 unfold io;split<;>rfl
def Rw(r:Nat->Nat)(L:Nat->Prop)(i:Nat)(x y:SO):pH r (io L i x y)=io L i (pH r x) (pH r y):=by
 unfold io;split<;>rfl
def qL(e:bu):iM:=⟨e.u1,e.u2,e.u3,e.u4,e.u5,e.u6⟩
def sJ(u:iM)(d:Int×Int)(p:ai):ai:={ p with l1:=(ez gy p.l1 p.l2 u.u1 u.u2).1,l2:=(ez gy p.l1 p.l2 u.u1 u.u2).2,l3:=(ez gy p.l3 p.l4 u.u3 u.u4).1,l4:=(ez gy p.l3 p.l4 u.u3 u.u4).2,l5:=(ez gy p.l5 p.l6 d.1 d.2).1,l6:=(ez gy p.l5 p.l6 d.1 d.2).2 }
def uy(dmg:bx)(ins:List (List Nat))(e:bu)(p:ai):ai:=if ins.contains p.name=true then sJ (qL e) (lO dmg (qL e)) p else p
def wW(dmg:bx)(ps:List ai)(e:bu):List ai:=ps.map (uy dmg (ea ps e.part++[e.part]) e)
def kW(c:List aL)(dmg:bx):Nat->List bu->List ai->List ai×Int×Int
 | _,[],s=>(s,-1,0)
 | i,e::r,s=>if (aO c s e).2=0 then (if e.op=4 then kW c dmg (i+1) r (wW dmg (aO c s e).1 e) else kW c dmg (i+1) r (aO c s e).1) else ([],(i:Int),(aO c s e).2)
def eN(day:Int)(e:bu):Bool:=decide (day<e.day)
def runN(c:List aL)(dmg:bx)(l:List bu)(day:Int):List ai×Int×Int:=if (og c&&iD dmg)=true then kW c dmg 0 (eF (dR (eN day) l)) [] else ([],-1,1)
def Sm(r:List ai×Int×Int):SV:=.cm [.ag [an 14 r.1 ae],ab r.2.1,ab r.2.2]
def fj.Ua{p:ai}(h:fj p)(u:iM)(d:Int×Int):fj (sJ u d p):=⟨h.name,h.kind,h.aR,h.slot,h.len,h.prop⟩
def FZ{l:List ai}{x p:ai}(h:p∈cg l x):p=x\/p∈l:=by
 unfold cg at h;split at h
 ·rcases c6 h with h | h
  ·exact .inr h
  ·exact .inl h
 ·rcases List.mem_append.1 h with h | h
  ·exact .inr (es h)
  ·rcases t7 h with h | h
   ·exact .inl h
   ·exact .inr (em h)
def vK{l:List bB}{x p:bB}(h:p∈gz l x):p=x\/p∈l:=by
 unfold gz at h;split at h
 ·rcases c6 h with h | h
  ·exact .inr h
  ·exact .inl h
 ·rcases List.mem_append.1 h with h | h
  ·exact .inr (es h)
  ·rcases t7 h with h | h
   ·exact .inl h
   ·exact .inr (em h)
def FY(l:List ai)(x:ai):(cg l x).length<=l.length+1:=by
 unfold cg;split
 ·rw[el];omega
 ·rw[md,jp,bd,fy];omega
def Ie{l:List ai}{x:ai}:cg l x≠[]:=by
 unfold cg;split
 ·rename_i h;intro e;have e2:=rg f7 e;rw[el] at e2;have e3:l=[]:=t8 e2;subst e3;simp[gn] at h
 ·simp
def tn:fc []:=⟨ck _,λb hb=>by cases hb⟩
def HL(c:List aL)(ps:List ai)(e:bu)(hps:∀p∈ps,fj p)(he:lK e):(∃p,aO c ps e=(cg ps p,0)/\fj p)\/∃k,aO c ps e=([],k)/\k≠0:=by
 have hget:∀name p,pn ps (mX 0 [] ps) name=some p->fj p:=by
  intro name p h;unfold pn at h;split at h
  ·exact hps p (ad h)
  ·cases h
 unfold aO;split
 ·split
  ·split
   ·unfold yM;split
    ·exact .inr ⟨3,rfl,by decide⟩
    ·split
     ·exact .inr ⟨4,rfl,by decide⟩
     ·split
      ·exact .inr ⟨7,rfl,by decide⟩
      ·exact .inl ⟨_,rfl,⟨he.part,he.kind,tn,tn,by simp[nu],λx hx=>by simp[nu] at hx⟩⟩
   ·split
    ·rename_i p h hp hh;have hpo:=hget _ _ hp;split
     ·exact .inr ⟨5,rfl,by decide⟩
     ·unfold iW;simp only
      repeat' split
      all_goals first
       | exact .inr ⟨_,rfl,by decide⟩
       | exact .inl ⟨p,rfl,hpo⟩
       | exact .inl ⟨_,rfl,⟨hpo.name,hpo.kind,he.aR,he.slot,hpo.len,hpo.prop⟩⟩
       | exact .inl ⟨_,rfl,⟨hpo.name,hpo.kind,tn,tn,hpo.len,hpo.prop⟩⟩
       | exact .inl ⟨_,rfl,⟨hpo.name,hpo.kind,hpo.aR,hpo.slot,hpo.len,hpo.prop⟩⟩
       | (
        refine .inl ⟨_,rfl,⟨hpo.name,hpo.kind,hpo.aR,hpo.slot,?_,?_⟩⟩
        ·rename_i hle;show(gz p.props ⟨e.key,e.value⟩).length<=_;omega
        ·intro x hx
         rcases vK hx with rfl | hx
         ·exact⟨he.key,he.value⟩
         ·exact hpo.prop x hx)
    ·exact .inr ⟨2,rfl,by decide⟩
  ·exact .inr ⟨1,rfl,by decide⟩
 ·exact .inr ⟨1,rfl,by decide⟩
def om{c:List aL}{ps:List ai}{e:bu}(hps:∀p∈ps,fj p)(he:lK e):(∀p∈(aO c ps e).1,fj p)/\(aO c ps e).1.length<=ps.length+1/\((aO c ps e).2=0->(aO c ps e).1≠[])/\((aO c ps e).2≠0->(aO c ps e).1=[]):=by
 rcases HL c ps e hps he with⟨p,h,hp⟩ | ⟨k,h,hk⟩
 ·rw[h];refine⟨λq hq=>?_,FY _ _,λ_=>Ie,λh=>un rfl h⟩
  rcases FZ hq with rfl | hq
  ·exact hp
  ·exact hps q hq
 ·rw[h];exact⟨λq hq=>by simp at hq,ck _,λh=>un h hk,λ_=>rfl⟩
def xC{dmg:bx}{ps:List ai}{e:bu}(hps:∀p∈ps,fj p):(∀p∈wW dmg ps e,fj p)/\(wW dmg ps e).length=ps.length:=by
 refine⟨λp hp=>?_,af _⟩;obtain⟨q,hq,rfl⟩:=List.mem_map.1 hp;unfold uy;split
 ·exact(hps q hq).Ua _ _
 ·exact hps q hq
def vX(e:bu)(day:Int):PC aa 46 [.ag (aq e),.ip [ab day]] (·=ak (eN day e)):=by
 refine pB 8 Tryz.func46 ?_;exact(aw @aq.eq_1)<|(zV)<|zo [.tmp 3]
def gH(B:Nat)(l:List (List Nat)):my B (eU l)=true:=by
 unfold eU;split
 ·rfl
 ·rw[my];exact bI (aA (λ_=>rfl) l)
def fk(B e n:Nat):dz (B+1) (bZ 0 e n)=true:=by
 unfold bZ;split
 ·exact gi rfl
 ·rw[dz];exact wl (Nat.succ_pos B)
def Nx:∀(n:Nat) (r:iL) (ls:List (List Nat)),(dm n r ls).length<=r.length
 | 0,_,_=>ck _
 | n+1,r,ls=>by
  rw[dm];split
  ·exact ck _
  ·rw[md,af];have h1:=Nx n (r.filter λe=>!ls.contains e.2) ((r.filter λe=>ls.contains e.2).map (·.1));have h2:=yW (λe:List Nat×List Nat=>ls.contains e.2) r;omega
def ke(ps:List ai)(part:List Nat):(ea ps part).length<=ps.length:=by
 unfold ea;split
 ·have h1:(dX (dm (ps.length+2) (F4 ps part) [part])).length=(dm (ps.length+2) (F4 ps part) [part]).length:=(qE _).length_eq;rw[h1];refine dc (Nx _ _ _) (dc x9 (dc (List.length_filterMap_le _ _) ?_));have:=Cn ps 0 [];simpa using this
 ·exact ck _
def xw(l:List bu)(d:bu->Bool):(eF (dR d l)).length<=l.length:=by
 rw[eF,yv];exact d8 _ _
def xz{l:List bu}{d:bu->Bool}{e:bu}(h:e∈eF (dR d l)):e∈l:=(List.mem_filter.1 ((uU _ _).mem_iff.1 h)).1
abbrev eT(e:bu):List SV:=[ah e.part,ah e.kind,ah e.aR,ah e.slot,ah e.key,ah e.value,ab e.u1,ab e.u2,ab e.u3,ab e.u4,ab e.u5,ab e.u6]
abbrev eA(e:bu):List SV:=[ab e.op,ab e.day,ah e.part,ah e.kind,ah e.aR,ah e.slot,ah e.key,ah e.value,ab e.u1,ab e.u2,ab e.u3,ab e.u4,ab e.u5,ab e.u6]
abbrev wE(c:List aL)(dmg:bx)(e:bu)(ev:List bu)(k:Nat):Fm:=[(3,.ip (an 3 c ao::aC dmg)),(6,.ptr 0 0),(10,.ptr 1 0),(12,.ip (eA e)),(34,an 14 ev aq),(35,ab ev.length),(36,ab k)]
abbrev wF(c:List aL)(dmg:bx)(e:bu)(ev:List bu)(k:Nat)(I:List (List Nat))(d:Int×Int)(n k2:Nat):Fm:=[(3,.ip (an 3 c ao::aC dmg)),(6,.ptr 0 0),(10,.ptr 1 0),(12,.ip (eA e)),(15,an 1 I (aB ah)),(16,.ip [ab d.1,ab d.2]),(34,an 14 ev aq),(35,ab ev.length),(36,ab k),(77,ab n),(78,ab k2)]
def Al(c:List aL)(dmg:bx)(l:List bu)(day:Int)(hc:mr c)(hf:gE dmg)(hlen:l.length<20)(hl:∀e∈l,lK e):PC aa 14 [.ag (an 3 c ao::aC dmg),an 14 l aq,ab day] (·=Sm (runN c dmg l day)):=by
 have hfl:(aC dmg).length=3:=eS dmg;have hft:(aC dmg).take 3=aC dmg:=bk (by rw[hfl];exact be _);have hfk:=λo:Nat=>bR (o:=o) (aV dmg);have hfn:=λo:Nat=>bV (o:=o) (aV dmg);refine pB 101 Tryz.func14 ?_;refine(aw (bq hfk hfn)) ?_;refine zZ [(1,an 14 l aq),(3,.ip (an 3 c ao::aC dmg)),(5,.ptr 1 0),(6,.ptr 2 0),(7,ab 0),(8,ab 0)] 0 rfl ⟨.inl rfl,.inr (.ptr rfl (bg.refl (aV dmg)) (ck _)),zj⟩ ?_
 (try change aE _ _ _ _ _)
 refine(zC)<|(zK (nI c hc)) ?_
 cases h1:og c
 ·refine(zR)<|(cF)<|(zE) ?_;exact zO [.cell 6 46,.tmp 7,.tmp 8] (r:=.cm [.ag [.sl 0 14 []],ab (-1),ab 1]) (hw:=zv) (hq:=by (try simp only[ew,bH]);first | done | (rw[show runN c dmg l day=([],-1,1) by simp[runN,h1]];rfl))
 refine(Mk (bq hfl hft))<|(zK (qJ dmg hf) (hwk:=bg.cons (.ag (bg.refl (aV dmg))) .nil)) ?_
 cases h2:Proofs.iD dmg
 ·refine(zR)<|(cF)<|(zE) ?_;exact zO [.cell 6 46,.tmp 7,.tmp 8] (r:=.cm [.ag [.sl 0 14 []],ab (-1),ab 1]) (hw:=zv) (hq:=by (try simp only[ew,bH]);first | done | (rw[show runN c dmg l day=([],-1,1) by simp[runN,h1,h2]];rfl))
 refine(zR)<|(zN) ?_
 have hN:runN c dmg l day=kW c dmg 0 (eF (dR (eN day) l)) []:=by rw[runN,h1,h2];rfl
 refine zA [(1,an 14 l aq),(3,.ip (an 3 c ao::aC dmg)),(5,.ptr 1 0),(6,.ptr 2 0)] [.gone,.cells [ab day],.cells [.a (.slice none 0 0 (some 0))]] zH ?_;clear h1 h2;obtain⟨kp,hkp⟩:∃kp,kp=dR (eN day) l:=⟨_,rfl⟩
 have hkl:kp.length<=l.length:=by rw[hkp];exact Fh _ _
 rw[<-hkp] at hN
 (repeat refine aE.seq ?_)
 refine aE.mono (Q:=λe st=>e=.normal/\Fg st ⟨[(3,.ip (an 3 c ao::aC dmg)),(6,.ptr 0 0),(9,an 14 kp aq)],101,[.cells [.a (.slice none 0 0 (some 0))]],[]⟩) ?_ ?_
 ·by_cases hne:l=[]
  ·subst hne;have hk0:kp=[]:=hkp;subst hk0;refine(zC) ?_;refine zS [] (bq hfk hfn) rQ ?_;refine(zQ) ?_;refine zS [1] (bq hfk hfn) (z7 46 [ab day] rfl (eN day) (λx=>vX x day)) ?_;refine(zR) ?_;refine⟨rfl,?_⟩;refine Fg.trans (b:=⟨[(3,.ip (an 3 c ao::aC dmg)),(6,.ptr 2 0),(9,an 14 [] aq)],101,[.gone,.gone,.cells [.a (.slice none 0 0 (some 0))]],[]⟩) ?_ (Fg.rn (f':=[(3,.ip (an 3 c ao::aC dmg)),(6,.ptr 0 0),(9,an 14 [] aq)]) (n:=101) (S':=[.cells [.a (.slice none 0 0 (some 0))]]) [2] ii rfl (by (simp only[si,gD,cj,an,bn (aV dmg)])<;>(repeat' apply b7)<;>first | trivial | exact .inl rfl | exact .inr rfl | exact .inr trivial | exact .inl trivial) (by (simp only[dJ,gD,cj,an,bn (aV dmg)])<;>(repeat' apply b7)<;>first | rfl | trivial));exact Fg.trans (Fg.wk (f':=[(3,.ip (an 3 c ao::aC dmg)),(6,.ptr 2 0),(9,an 14 [] aq)]) ⟨.inl rfl,.inl rfl,.inr (.S8 14),trivial⟩) zH
  ·have hne0:¬l.length=0:=λh=>hne (t8 h);have hrq:∀(r:Nat->Nat) (q:List bu),mn r (q.flatMap aq)=q.flatMap aq:=λr q=>bn (aA bN q);have hbq:∀(B:Nat) (q:List bu),hY B (q.flatMap aq)=true:=λB q=>bI (aA bN q);have hkq:=bC bN;have hdel:=z8 46 [ab day] rfl (eN day) (λx=>vX x day) l i5;rw[<-hkp] at hdel;obtain⟨q,hq⟩:∃q,q=kp++dv (l.length-kp.length) bu.zero:=⟨_,rfl⟩
   have hqt:(q.flatMap aq).take (kp.length*14)=kp.flatMap aq:=by
    rw[ji cA,hq,bv (be _),bk (be _)]
   have hql:(q.flatMap aq).length=l.length*14:=by rw[aZ cA,hq,md,List.length_replicate];congr 1;omega
   rw[<-hq] at hdel;refine(zC) ?_;refine zS [] (lM hfk hfn hrq hbq hkq) (rR l i5 hne) ?_;refine(zQ) ?_;refine zS [4,1] (lM hfk hfn hrq hbq hkq) hdel ?_;refine(zR) ?_;refine⟨rfl,?_⟩;refine Fg.trans (b:=⟨[(3,.ip (an 3 c ao::aC dmg)),(6,.ptr 2 0),(9,an 14 kp aq)],101,[.gone,.gone,.cells [.a (.slice none 0 0 (some 0))]],[]⟩) ?_ (Fg.rn (f':=[(3,.ip (an 3 c ao::aC dmg)),(6,.ptr 0 0),(9,an 14 kp aq)]) (n:=101) (S':=[.cells [.a (.slice none 0 0 (some 0))]]) [2] ii rfl (by (simp only[si,gD,cj,an,bn (aV dmg)])<;>(repeat' apply b7)<;>first | trivial | exact .inl rfl | exact .inr rfl | exact .inr trivial | exact .inl trivial) (by (simp only[dJ,gD,cj,an,bn (aV dmg)])<;>(repeat' apply b7)<;>first | rfl | trivial));exact Fg.trans (Fg.freeze (f':=[(3,.ip (an 3 c ao::aC dmg)),(6,.ptr 2 0),(9,an 14 kp aq)]) 4 rfl g9 ⟨.inl rfl,.inl rfl,.inr (.buf rfl (by rw[hqt];exact bg.refl (aA bN _)) (by rw[hql];exact Nat.mul_le_mul_right 14 hkl)),trivial⟩) zH
 rintro e st ⟨rfl,hfg⟩;refine aE.fg hfg ?_;clear hfg
 (try change aE _ _ _ _ _)
 have hkm:∀e∈eF kp,lK e:=λe he=>hl e (by rw[hkp] at he;exact xz he)
 have hsl:(eF kp).length<20:=by have:=xw l (eN day);rw[<-hkp] at this;omega
 refine(jt)<|(zK (we kp i5) (hfl:=.inr (bg.refl (by rw[bW,an,mg,bW];rfl)))) ?_
 generalize eF kp=ev at hN hkm hsl;refine(zR) ?_
 have hlen1:ev.length<=1000000:=by omega
 refine zA [(3,.ip (an 3 c ao::aC dmg)),(6,.ptr 0 0),(10,.ptr 1 0),(34,an 14 ev aq),(35,ab ev.length),(36,ab 0)] [.cells [.a (.slice none 0 0 (some 0))],.cells [.a (.slice none 0 0 (some 0))]] zH ?_;refine aE.fg (Fg.TD (S':=[.cells [.a (.slice none 0 0 (some 0))],.cells [an 14 ([]:List ai) ae]]) ⟨.inr ⟨by decide,.inl rfl⟩,.inr ⟨by decide,.inr ⟨_,_,rfl,rfl,.cons (.nil _) .nil⟩⟩,trivial⟩) ?_
 (try change aE _ _ _ _ _)
 refine(zs) ?_;refine Hf ev (λk (ps:List ai)=>(kW c dmg 0 ev []=kW c dmg k (ev.drop k) ps/\(∀p∈ps,fj p)/\ps.length<=k)) (λk ps=>[(3,.ip (an 3 c ao::aC dmg)),(6,.ptr 0 0),(10,.ptr 1 0),(34,an 14 ev aq),(35,ab ev.length),(36,ab k)]) (λk ps=>[.cells [.a (.slice none 0 0 (some 0))],.cells [an 14 ps ae]]) ([]) zH (by exact⟨rfl,(λp hp=>by cases hp),be _⟩) ?_;intro k ps hk hall;refine zT ev k ?_ ?_;rintro rfl;rotate_left;intro e hx hlt;rotate_left
 ·refine(gh) ?_;obtain⟨hr,_,_⟩:=hall;rw[cp] at hr
  refine(zV)<|(zE) ?_;exact zO [.cell 6 46,.tmp 7,.tmp 8] (r:=.cm [.ag [an 14 ps ae],ab (-1),ab 0]) (hw:=zv) (hq:=by (try simp only[ew,bH]);first | done | (rw[hN,hr];rfl))
 obtain⟨hr,hps,hpl⟩:=hall;rw[eR hx] at hr;have heo:=hkm e (ad hx);have hap:=zJ c ps e hc i5 hps heo;obtain⟨q1,q2,q3,q4⟩:=om (c:=c) hps heo
 have hr2:kW c dmg k (e::ev.drop (k+1)) ps=if (aO c ps e).2=0 then (if e.op=4 then kW c dmg (k+1) (ev.drop (k+1)) (wW dmg (aO c ps e).1 e) else kW c dmg (k+1) (ev.drop (k+1)) (aO c ps e).1) else ([],(k:Int),(aO c ps e).2):=rfl
 rw[hr2] at hr;clear hr2;obtain⟨nx,er,hne⟩:∃nx er,aO c ps e=(nx,er):=⟨_,_,rfl⟩;rw[hne] at hap q1 q2 q3 q4 hr;simp only at q1 q2 q3 q4 hr;rw[dj] at hap
 refine(gB)<|(aw (cG hlt (aQ (e:=14) (enc:=aq) (λ_=>rfl) hx) @dj)) ?_;refine zZ [(3,.ip (an 3 c ao::aC dmg)),(6,.ptr 0 0),(10,.ptr 1 0),(11,ab k),(12,.ip (eA e)),(34,an 14 ev aq),(35,ab ev.length),(36,ab k)] 2 rfl (gu @an.eq_1) ?_
 (try change aE _ _ _ _ _)
 refine(zC)<|(zK hap (hfl:=.inr (bg.refl rfl)))<|(cJ @jZ.eq_1) ?_
 by_cases herr:er=0;rotate_left
 ·rw[v6 herr] at hr;have hnil:=q4 herr
  refine(aw (wd herr))<|(cF)<|(zE) ?_;exact zO [.cell 6 46,.tmp 7,.tmp 8] (r:=.cm [.ag [.sl 0 14 []],ab k,ab er]) (hw:=zv) (hq:=by (try simp only[ew,bH]);first | done | (rw[hN,hr];rfl))
 rw[ut herr] at hr;subst herr
 refine(Ec)<|(zV) ?_
 by_cases hop:e.op=4;rotate_left
 ·rw[v6 hop] at hr
  refine(aw (wd hop))<|(zY) ?_;refine aE.exit ?_
  (try change aE _ _ _ _ _)
  refine(aw (zi hlt hlen1)) ?_;refine wq hlt (nx) zH (⟨hr,q1,by omega⟩)
 rw[ut hop] at hr
 refine(aw (wl hop))<|(zN)<|zA (wE c dmg e ev k) [.cells [.a (.slice none 0 0 (some 0))],.cells [an 14 nx ae]] zH ?_
 obtain⟨ins,hins⟩:∃ins,ins=ea nx e.part:=⟨_,rfl⟩
 have hinl:ins.length<=100000:=by rw[hins];exact dc (ke nx e.part) i5
 (repeat refine aE.seq ?_)
 refine aE.zu 7 12 (λL=>⟨(58,vo L 0 (.ag [an 14 nx ae]))::(59,vo L 1 (.ip (eT e)))::(60,vo L 2 (ah e.part))::(61,vo L 3 (bZ 2 1 ins.length))::(62,vo L 4 (.ip (eT e)))::(63,vo L 5 (ah e.part))::(64,vo L 6 (.buf 3 1 1 (some 1)))::wE c dmg e ev k,101,[.cells [.a (.slice none 0 0 (some 0))],.cells [an 14 nx ae],wo L 3 (eU ins),wo L 6 (.cells [ah e.part])],[]⟩) rfl zW i4 ii zW (bX (bq @xD @D8)) (λL=>rfl) ?_ ?_
 ·rintro L i o him hC hr
  rcases i with _ | _ | _ | _ | _ | _ | _ | i
  rotate_right
  ·exact un him i5
  ·cases hr.jw;refine(zR) ?_;exact(bX (bq @bz @fi))
  ·cases hr.jw;refine(zR) ?_;exact(bX (bq @bz @fi))
  ·cases hr.jw;have d1:L 1:=hr.dep ⟨1,.data⟩ gt rfl;refine(cJ (iK d1)) ?_;exact(bX (cG @bz @fi (iK d1)))
  ·cases hr.jw;have d0:L 0:=hr.dep ⟨0,.data⟩ gt rfl;have d2:L 2:=hr.dep ⟨2,.data⟩ gt rfl;have hn3:¬L 3:=hr.new;have hin:=nF nx e.part i5;rw[<-hins] at hin;refine aT.sk [] i4 rfl rfl i4 rfl (Hg (bq (iK d0) (iK d2))) (hin) (by simp only[gD,cj,an,↓reduceIte,ay,bc,d6,bi,ba,bh,cz d0,cz d2,↓lW,cZ,hfk,hfn,cu (show 2≠4 by decide),fo,dD,eH,fk,gH,gg hn3];first | done | rfl) rfl ii (by simp only[CL,gD,cj,an,cz d0,cz d2,↓lW,cZ,hfk,hfn,cu (show 2≠4 by decide),fo,dD,eH,fk,gH,gg hn3]<;>(repeat' apply b7)<;>first | trivial | rfl | (intro hh;cases hh)) (by simp only[B4,gD,cj,an,bc,bh,decide_true,cz d0,cz d2,↓lW,cZ,hfk,hfn,cu (show 2≠4 by decide),fo,dD,eH,fk,gH,gg hn3];first | done | rfl) (by simp only[B4,gD,cj,an,bc,bh,decide_true,cz d0,cz d2,↓lW,cZ,hfk,hfn,cu (show 2≠4 by decide),fo,dD,eH,fk,gH,gg hn3];first | done | rfl) (by simp only[gD,cj,an,↓reduceIte,ay,bc,d6,bi,ba,bh,cz d0,cz d2,↓lW,cZ,hfk,hfn,cu (show 2≠4 by decide),fo,dD,eH,fk,gH,gg hn3];first | done | rfl) (by simp only[gD,cj,an,↓reduceIte,ay,bc,d6,bi,ba,bh,cz d0,cz d2,↓lW,cZ,hfk,hfn,cu (show 2≠4 by decide),fo,dD,eH,fk,gH,gg hn3,eK,ek,cE,aY,dJ];first | done | rfl) (by simp only[gD,cj,an,↓reduceIte,ay,bc,d6,bi,ba,bh,cz d0,cz d2,↓lW,cZ,hfk,hfn,cu (show 2≠4 by decide),fo,dD,eH,fk,gH,gg hn3,eK,ek,cE,aY,dJ];first | done | rfl) ?_;refine .nil ?_;exact((Fg.rn (f':=(58,(.ag [an 14 nx ae]))::(59,vo L 1 (.ip (eT e)))::(60,(ah e.part))::(61,(bZ 2 1 ins.length))::(62,vo L 4 (.ip (eT e)))::(63,vo L 5 (ah e.part))::(64,vo L 6 (.buf 3 1 1 (some 1)))::wE c dmg e ev k) (n:=101) (S':=[.cells [.a (.slice none 0 0 (some 0))],.cells [an 14 nx ae],eU ins,wo L 6 (.cells [ah e.part])]) [0,1,4,3] ii rfl (by (simp only[si,gD,cj,an,y9,BY,eH,dD,bn (aV dmg),cZ,cu (show 2≠4 by decide)])<;>(repeat' apply b7)<;>first | trivial | exact .inl rfl | exact .inr rfl | exact .inr trivial | exact .inl trivial) (by (simp only[dJ,gD,cj,an,y9,BY,eH,dD,bn (aV dmg),cZ,cu (show 2≠4 by decide)])<;>(repeat' apply b7)<;>first | rfl | trivial))).trans (bX (gm @bz @fi (iK d0) (iK d2)))
  ·cases hr.jw;refine(zR) ?_;exact(bX (bq @bz @fi))
  ·cases hr.jw;have d4:L 4:=hr.dep ⟨4,.data⟩ gt rfl;refine(cJ (iK d4)) ?_;exact(bX (cG @bz @fi (iK d4)))
  ·cases hr.jw;have d5:L 5:=hr.dep ⟨5,.data⟩ gt rfl;have hn6:¬L 6:=hr.new;refine aT.r0 i4 (by simp only[dJ,cj,an,aJ,m8,m7,↓reduceIte,ay,bc,bi,ba,bh,ar,az,bT,cz d5,↓lW,cZ,hfk,hfn,cu (show 2≠4 by decide),fo,gg hn6];first | done | rfl) ?_;exact((Fg.rn (f':=(58,vo L 0 (.ag [an 14 nx ae]))::(59,vo L 1 (.ip (eT e)))::(60,vo L 2 (ah e.part))::(61,vo L 3 (bZ 2 1 ins.length))::(62,vo L 4 (.ip (eT e)))::(63,(ah e.part))::(64,(.buf 3 1 1 (some 1)))::wE c dmg e ev k) (n:=101) (S':=[.cells [.a (.slice none 0 0 (some 0))],.cells [an 14 nx ae],wo L 3 (eU ins),.cells [ah e.part]]) [0,1,2,4] ii rfl (by (simp only[si,gD,cj,an,y9,BY,eH,dD,bn (aV dmg),cZ,cu (show 2≠4 by decide)])<;>(repeat' apply b7)<;>first | trivial | exact .inl rfl | exact .inr rfl | exact .inr trivial | exact .inl trivial) (by (simp only[dJ,gD,cj,an,y9,BY,eH,dD,bn (aV dmg),cZ,cu (show 2≠4 by decide)])<;>(repeat' apply b7)<;>first | rfl | trivial))).trans (bX (cG @bz @fi (iK d5)))
 change aT _ _ _ _ _ _;refine aT.mono (K:=λx=>Fg x ⟨(65,.buf 2 (ins.length+1) 1 none)::wE c dmg e ev k,101,[.cells [.a (.slice none 0 0 (some 0))],.cells [an 14 nx ae],.cells ((ins++[e.part]).flatMap (aB ah))],[]⟩) ?_ λx hx=>?_
 ·have v7:∀i,i<7->∀v:SV,vo (λj=>j<7) i v=v:=λi h v=>cz h;have w7:∀i,i<7->∀v:SO,wo (λj=>j<7) i v=v:=λi h v=>nY h;have a3:=v7 3 ii;have a6:=v7 6 ii;have b3:=w7 3 ii;have b6:=w7 6 ii;have happ:=mb (enc:=aB ah) (e:=1) (λ_=>rfl) (λ_=>rfl) 2 ins e.part;rw[show aB ah e.part=[ah e.part] from rfl,cv] at happ;have hcl:=aZ (enc:=aB ah) (e:=1) (λ_=>rfl) ins;by_cases hi0:ins=[]
  ·subst hi0;refine(cJ (MV a3 a6 b3 b6 @ly @i7.{0} @gl hfk hfn @cZ)) ?_;exact((Fg.rn (f':=(65,.buf 2 1 1 none)::wE c dmg e ev k) (n:=101) (S':=[.cells [.a (.slice none 0 0 (some 0))],.cells [an 14 nx ae],.cells [ah e.part]]) [0,1,4] ii rfl (by (simp only[si,gD,cj,an,bn (aV dmg)])<;>(repeat' apply b7)<;>first | trivial | exact .inl rfl | exact .inr rfl | exact .inr trivial | exact .inl trivial) (by (simp only[dJ,gD,cj,an,bn (aV dmg)])<;>(repeat' apply b7)<;>first | rfl | trivial))).trans (bX (lM @aB.eq_1 @nil_append.{0} @flatMap_cons.{0,0} @List.flatMap_nil.{0,0} @i7.{0}))
  ·have hil:¬ins.length=0:=λh=>hi0 (t8 h);refine(cJ (bq (MW a3 a6 b3 b6 (ef (o:=2) (e:=1) hil) (fw hi0) hfk hfn @cZ) (xX (λo:Nat=>bC (enc:=aB ah) (λ_=>rfl) o ins) hcl @cv @be (show ins.length<=1000000 by omega) happ))) ?_;exact zH
 change aT _ _ _ _ _ _;refine aT.fg hx ?_;refine(zR) ?_;change aE _ _ _ _ _;refine zA ((15,.buf 2 (ins.length+1) 1 none)::wE c dmg e ev k) [.cells [.a (.slice none 0 0 (some 0))],.cells [an 14 nx ae],.cells ((ins++[e.part]).flatMap (aB ah))] zH ?_;obtain⟨I,hI⟩:∃I,I=ins++[e.part]:=⟨_,rfl⟩
 have hIl:I.length=ins.length+1:=by rw[hI,md];rfl
 rw[<-hI];refine zZ [(3,.ip (an 3 c ao::aC dmg)),(6,.ptr 0 0),(10,.ptr 1 0),(12,.ip (eA e)),(15,an 1 I (aB ah)),(34,an 14 ev aq),(35,ab ev.length),(36,ab k)] 2 rfl ⟨.inl rfl,.inl rfl,.inl rfl,.inl rfl,.inr (by rw[sB 1 I (aB ah),hIl];exact .buf rfl (by rw[<-hIl,ej (enc:=aB ah) (e:=1) (λ_=>rfl)];exact bg.refl (aA (λ_=>rfl) _)) (by rw[aZ (enc:=aB ah) (e:=1) (λ_=>rfl),hIl];exact be _)),zj⟩ ?_
 (try change aE _ _ _ _ _)
 have hd:=Gl dmg (qL e) hf;simp only[ee,qL] at hd;obtain⟨d,hdd⟩:∃d,d=lO dmg (qL e):=⟨_,rfl⟩;have hdd2:lO dmg ⟨e.u1,e.u2,e.u3,e.u4,e.u5,e.u6⟩=d:=hdd.symm;rw[hdd2] at hd
 refine(fb (bq hfl hft))<|(zK hd (hwk:=bg.cons (.ag (bg.refl (aV dmg))) (.cons (.ag (bg.refl rfl)) .nil)))<|(cJ (gm @nZ.eq_1 @kS.eq_1 hfk hfn)) ?_
 have hnn:=q3 rfl;have hn0:0<nx.length:=Nat.pos_of_ne_zero λh=>hnn (t8 h);have hrq:∀(r:Nat->Nat) (q:List ai),mn r (q.flatMap ae)=q.flatMap ae:=λr q=>bn (aA dk q);have hbq:∀(B:Nat) (q:List ai),hY B (q.flatMap ae)=true:=λB q=>bI (aA dk q);have hkq:=bC (enc:=ae) dk
 refine(zC) ?_;refine zS [] (lM hfk hfn hrq hbq hkq) (pT nx i5 hnn) ?_;refine(zR)<|(zV)<|zA [(3,.ip (an 3 c ao::aC dmg)),(6,.ptr 0 0),(10,.ptr 1 0),(12,.ip (eA e)),(15,an 1 I (aB ah)),(16,.ptr 3 0),(34,an 14 ev aq),(35,ab ev.length),(36,ab k),(76,.buf 5 nx.length 14 none),(77,ab nx.length),(78,ab 0)] [.cells [.a (.slice none 0 0 (some 0))],.cells [.buf 5 nx.length 14 none],.gone,.cells [ab d.1,ab d.2],.gone,.cells (nx.flatMap ae)] zH ?_;refine zZ (wF c dmg e ev k I d nx.length 0) 3 rfl (gu @an.eq_1) ?_;refine zA (wF c dmg e ev k I d nx.length 0) [.cells [.a (.slice none 0 0 (some 0))],.cells [.buf 2 nx.length 14 none],.cells (nx.flatMap ae)] (Fg.rn [0,1,5] ii rfl (by (simp only[si,gD,cj,an,hrq,bn (aV dmg)])<;>(repeat' apply b7)<;>first | trivial | exact .inl rfl | exact .inr rfl | exact .inr trivial | exact .inl trivial) (by (simp only[dJ,gD,cj,an,hrq,bn (aV dmg)])<;>(repeat' apply b7)<;>first | rfl | trivial)) ?_
 have hIu:wW dmg nx e=nx.map (uy dmg I e):=by unfold wW;rw[hI,hins]
 have hnl:nx.length<=1000000:=by omega
 refine(zs) ?_;refine zL nx (λk2=>True) (λk2=>(wF c dmg e ev k I d nx.length k2)) (λk2=>[.cells [.a (.slice none 0 0 (some 0))],.cells [.buf 2 nx.length 14 none],.cells ((((nx.take k2).map (uy dmg I e))++nx.drop k2).flatMap ae)]) (bX (gm @take_zero.{0} @List.map_nil.{0,0} @drop_zero.{0} @nil_append.{0})) zp ?_;intro k2 hk2 hall2;refine zT nx k2 ?_ ?_;rintro rfl;rotate_left;intro p hx2 hlt2;rotate_left
 ·refine(gh) ?_;rw[b0,cp,bO,<-hIu];obtain⟨r1,r2⟩:=xC (dmg:=dmg) (e:=e) q1;generalize wW dmg nx e=ux at hr r1 r2;refine aE.fg (Fg.lQ (f':=[(3,.ip (an 3 c ao::aC dmg)),(6,.ptr 0 0),(10,.ptr 1 0),(12,.ip (eA e)),(15,an 1 I (aB ah)),(34,an 14 ev aq),(35,ab ev.length),(36,ab k)]) (S':=[.cells [.a (.slice none 0 0 (some 0))],.cells [an 14 ux ae]]) 2 rfl g9 (gu @an.eq_1) ⟨.inr ⟨by decide,.inl rfl⟩,.inr ⟨by decide,.inr ⟨_,_,rfl,rfl,.cons (by rw[sB 14 ux ae,r2];exact .buf rfl (by rw[<-r2,ej (enc:=ae) (e:=14) (λ_=>rfl)];exact bg.refl (aA dk _)) (by rw[aZ (enc:=ae) (e:=14) (λ_=>rfl),r2];exact be _)) .nil⟩⟩,trivial⟩) ?_
  (try change aE _ _ _ _ _)
  refine(aw (zi hlt hlen1)) ?_;refine wq hlt (ux) zH (⟨hr,r1,by omega⟩)
 have hdrop:=eR hx2;obtain⟨q,hq⟩:∃q,q=(nx.take k2).map (uy dmg I e)++nx.drop k2:=⟨_,rfl⟩
 have hqx:q[k2]?=some p:=by
  rw[hq,List.getElem?_append_right (by rw[af,bd];omega),af,bd,ct i5,co,hdrop];rfl
 have hql:q.length=nx.length:=by rw[hq,md,af,bd,fy];omega
 have hqc:(q.flatMap ae).length=nx.length*14:=by rw[aZ (enc:=ae) (e:=14) (λ_=>rfl),hql]
 have hnext:((nx.take (k2+1)).map (uy dmg I e)++nx.drop (k2+1))=q.set k2 (uy dmg I e p):=by
  rw[hq,cD hx2,f5,hdrop,List.set_append_right _ _ (by rw[af,bd];omega),af,bd,ct i5,co,set_cons_zero,cl];rfl
 have hcell:(q.flatMap ae)[k2*14]?=some (ah p.name):=by
  have h1:((q.flatMap ae).drop (k2*14)).take 14=ae p:=aQ (e:=14) (enc:=ae) (λ_=>rfl) hqx;have h2:=rg (λl=>l[0]?) h1;simp only[dl,dd,bs] at h2;exact h2
 rw[<-hq]
 refine(gB)<|(zV)<|(fb (cG hlt2 @bs hcell))<|(zK (iC I p.name i5) (hwk:=bg.cons (.sl _ _ _) (.cons (.a _) .nil))) ?_
 cases hcn:I.contains p.name
 ·have hup:uy dmg I e p=p:=by unfold uy;rw[hcn];rfl
  rw[hup] at hnext
  have hset:q.set k2 p=q:=by
   apply List.ext_getElem?;intro j;by_cases hj:k2=j
   ·subst hj;rw[List.getElem?_set_self (br hqx),hqx]
   ·rw[List.getElem?_set_ne hj]
  rw[hset] at hnext
  refine(zR)<|(zN)<|(aw (zi hlt2 hnl)) ?_;refine zX hlt2 (bX hnext) trivial
 refine(zR)<|(zY) ?_
 have hup:uy dmg I e p=sJ (qL e) d p:=by unfold uy;rw[hcn,<-hdd];rfl
 obtain⟨A,hA⟩:∃A,A=(q.take k2).flatMap ae++[ah p.name,ah p.kind,ah p.aR,ah p.slot,ab p.made,ab p.since,ak p.bo,an 2 p.props aH]:=⟨_,rfl⟩;obtain⟨B,hB⟩:∃B,B=(q.drop (k2+1)).flatMap ae:=⟨_,rfl⟩
 have hkl:k2<q.length:=by omega
 have hAl:A.length=k2*14+8:=by rw[hA,md,aZ (enc:=ae) (e:=14) (λ_=>rfl),bd,ct i5];rfl
 have hqs:q.take k2++(p::q.drop (k2+1))=q:=by rw[<-eR hqx,List.take_append_drop]
 have hsplit:q.flatMap ae=A++(BG p.l1 p.l2 p.l3 p.l4 p.l5 p.l6++B):=by
  rw[hA,hB,cl]
  conv=>lhs;rw[<-hqs,cb,flatMap_cons]
  rfl
 have hset:(q.set k2 (sJ (qL e) d p)).flatMap ae=A++(NJ p.l1 p.l2 p.l3 p.l4 p.l5 p.l6 (qL e) d.1 d.2++B):=by
  rw[hA,hB,cl,cc,ut hkl,cb,flatMap_cons];rfl
 rw[hup] at hnext;have hla:=DM A B p.l1 p.l2 p.l3 p.l4 p.l5 p.l6 (qL e) d.1 d.2 (by rw[<-hsplit];exact aA dk q);rw[<-hsplit,<-hset,hAl] at hla;simp only[ee,qL,kS] at hla;refine aE.zu 8 9 (λL=>⟨(89,vo L 0 (.ptr 1 0))::(90,vo L 1 (.buf 2 nx.length 14 none))::(91,vo L 2 (ab k2))::(92,vo L 3 (.ptr 2 (k2*14)))::(93,vo L 4 (.ptr 2 (k2*14+8)))::(94,vo L 5 (.ip [ab e.u1,ab e.u2,ab e.u3,ab e.u4,ab e.u5,ab e.u6]))::(95,vo L 6 (.ag [ab e.u1,ab e.u2,ab e.u3,ab e.u4,ab e.u5,ab e.u6]))::(96,vo L 7 (.ag [ab d.1,ab d.2]))::(17,ab k2)::wF c dmg e ev k I d nx.length k2,101,[.cells [.a (.slice none 0 0 (some 0))],.cells [.buf 2 nx.length 14 none],.cells (q.flatMap ae)],[]⟩) rfl zW i4 ii zW (bX @xD) (λL=>rfl) ?_ ?_
 ·rintro L i o him hC hr
  rcases i with _ | _ | _ | _ | _ | _ | _ | _ | i
  rotate_right
  ·exact un him i5
  ·cases hr.jw;refine(zR) ?_;exact(bX @bz)
  ·cases hr.jw;have d0:L 0:=hr.dep ⟨0,.data⟩ gt rfl;refine(cJ (iK d0)) ?_;exact(bX (bq @bz (iK d0)))
  ·cases hr.jw;refine(zR) ?_;exact(bX @bz)
  ·cases hr.jw;have d1:L 1:=hr.dep ⟨1,.data⟩ gt rfl;have d2:L 2:=hr.dep ⟨2,.data⟩ gt rfl;refine(cJ (cG (iK d1) (iK d2) hlt2)) ?_;exact(bX (cG @bz (iK d1) (iK d2)))
  ·cases hr.jw;have d3:L 3:=hr.dep ⟨3,.data⟩ gt rfl;refine(cJ (bq (iK d3) hqc)) ?_;exact(bX (bq @bz (iK d3)))
  ·cases hr.jw;refine(zR) ?_;exact(bX @bz)
  ·cases hr.jw;have d5:L 5:=hr.dep ⟨5,.data⟩ gt rfl;refine(cJ (iK d5)) ?_;exact(bX (bq @bz (iK d5)))
  ·cases hr.jw;refine(zR) ?_;exact(bX @bz)
 have v8:∀i,i<8->∀v:SV,vo (λj=>j<8) i v=v:=λi h v=>cz h;have v84:=v8 4 ii;have v86:=v8 6 ii;have v87:=v8 7 ii;change aT _ _ _ _ _ _;refine oA ((93,.ptr 2 (k2*14+8))::(95,.ag [ab e.u1,ab e.u2,ab e.u3,ab e.u4,ab e.u5,ab e.u6])::(96,.ag [ab d.1,ab d.2])::wF c dmg e ev k I d nx.length k2) [.cells [.a (.slice none 0 0 (some 0))],.cells [.buf 2 nx.length 14 none],.cells (q.flatMap ae)] (bX (cG v84 v86 v87)) ?_;refine zS [2] (lM hfk hfn hrq hbq hkq) hla ?_;refine(zR) ?_;simp only[qL] at hnext;refine(aw (zi hlt2 hnl)) ?_;refine zX hlt2 (bX hnext) trivial
def wc(day fr:Int)(hd:0<=day/\day<=40000):PC aa 275 [ab day,ab fr] (·=.ag [ab (gr day fr),ab (gr day fr)]):=by
 refine pB 19 Tryz.func275 ?_;refine(zV) ?_;cases g:decide (day<=fr)
 ·have hg:=wt g
  have hs:gr day fr=day-(if day-1000000000000<=fr then fr else day-1000000000000):=by rw[gr,v6 hg]
  have hm:dN fr (day-1000000000000)=if day-1000000000000<=fr then fr else day-1000000000000:=rfl
  rw[<-hm] at hs
  have hb:fr<=dN fr (day-1000000000000)/\day-1000000000000<=dN fr (day-1000000000000)/\dN fr (day-1000000000000)<=40000:=by unfold dN;split<;>omega
  rw[hs];have hx:=ff fr (day-1000000000000);generalize dN fr (day-1000000000000)=m at hb hx
  exact(aw g)<|(zN)<|(aw (cG (Q6 (P:=aa) (t:=3) (show -9223372036854775808<=day-1000000000000/\day-1000000000000<=9223372036854775807 from⟨by omega,by omega⟩)) hx (Q6 (P:=aa) (t:=3) (show -9223372036854775808<=day-m/\day-m<=9223372036854775807 from⟨by omega,by omega⟩))))<|(zV)<|zo [.cell 4 52]
 ·have hs:gr day fr=0:=by rw[gr,ut (ww g)]
  rw[hs]
  exact(aw g)<|(cF)<|zo [.cell 4 52]
def LS(p:ai)(day:Int)(hd:0<=day/\day<=40000):PC aa 280 [.ag (ae p),ab day,.ip [.fn 275 [] []]] (·=.ag [ab (gr day p.made),ab (gr day p.made)]):=by
 refine pB 11 Tryz.func280 ?_;exact(aw @ae.eq_1)<|(zC)<|(zK (wc day p.made hd))<|(zR)<|zo [.cell 5 52]
abbrev Rz:=List (List Nat×SV)
def oQ{S:List SO}{o:Nat}{l:Rz}(s:List Nat)(u:SV)(hS:S[o]?=some (bE AV.str id l)):iq aa S 288 (.map o) (.a (.str s)) u=some (S.set o (bE AV.str id (cq s u l))):=
 Ig (uv:=id) (kt:=9) (et:=286) (by simp only[aJ]) l8 hS rfl u
def Cv:SV:=.ip [.fn 275 [] []]
def mZ:Rz:=cq [97,103,101] (.fn 280 [] [Cv]) (cq [100,97,121,115] (.fn 279 [] [Cv]) (cq [100,97,109,97,103,101] (.fn 278 [] []) (cq [99,121,99,108,101,115] (.fn 277 [] []) (cq [107,109] (.fn 276 [] []) []))))
def kC:PC aa 220 [] (·=lS AV.str id mZ):=by
 refine pB 6 Tryz.func220 ?_;refine(oa) ?_;refine zZ [(1,.ip [.fn 275 [] []])] 0 rfl zG<|zA [(1,.ip [.fn 275 [] []])] [] zH ?_
 have hm0:SO.map [] [] none=bE AV.str (id:SV->SV) []:=rfl;have p1:=λu=>oQ (S:=[bE AV.str id []]) (o:=0) (l:=[]) [107,109] u rfl;have p2:=λ(l:Rz) u=>oQ (S:=[bE AV.str id l]) (o:=0) (l:=l) [99,121,99,108,101,115] u rfl;have p3:=λ(l:Rz) u=>oQ (S:=[bE AV.str id l]) (o:=0) (l:=l) [100,97,109,97,103,101] u rfl;have p4:=λ(l:Rz) u=>oQ (S:=[bE AV.str id l]) (o:=0) (l:=l) [100,97,121,115] u rfl;have p5:=λ(l:Rz) u=>oQ (S:=[bE AV.str id l]) (o:=0) (l:=l) [97,103,101] u rfl
 refine(aw (EG hm0 p1 p2 p3 p4 p5 @set_cons_zero.{0}))<|(zE) ?_;exact Bf.of (rs:=[.tmp 0]) (r:=lS AV.str id mZ) rfl rfl zl (by exact .map rfl (bg.refl rfl)) zq
def kD{S:List SO}{l:Rz}(s:List Nat)(ok:Bool):jd aa S 288 (lS AV.str id l) (.a (.str s)) ok=some (cond ok (.cm [getM (uc (.eb)) s l,ak (dx s l)]) (getM (uc (.eb)) s l)):=
 Ri (uv:=id) (u0:=uc (.eb)) (k:=s) (kt:=9) (et:=286) (z:=.eb) (by simp only[aJ]) l8 zW rfl rfl ok
def bD(ps:List ai)(name:List Nat):Option ai:=ps.find? λp=>decide (p.name=name)
def Np{ps:List ai}{name:List Nat}{k:Nat}{p:ai}(hx:ps[k]?=some p)(hp:p.name=name)(hb:((ps.take k).all λp=>!(decide (p.name=name)))=true):bD ps name=some p:=by
 unfold bD;rw[List.find?_eq_some_iff_getElem];obtain⟨hlt,he⟩:=rt hx;refine⟨by simpa using hp,k,hlt,he,λj hj=>?_⟩;have h1:=all_eq_true.1 hb (ps[j]' i5) (by rw[mem_iff_getElem?];exact⟨j,by rw[dl,ut hj];exact li i5⟩);simpa using h1
def Nq{ps:List ai}{name:List Nat}(hb:(ps.all λp=>!(decide (p.name=name)))=true):bD ps name=none:=by
 unfold bD;rw[List.find?_eq_none];intro p hp;have h1:=all_eq_true.1 hb p hp;simpa using h1
def Hd:List SV:=[ah [],ah [],ah [],ah [],ab 0,ab 0,ak false,bG,ab 0,ab 0,ab 0,ab 0,ab 0,ab 0]
def gb(ps:List ai)(name:List Nat)(hlen:ps.length<=1000000):PC aa 15 [.ag [an 14 ps ae],ah name] (·=iV ae ai.zero (bD ps name)):=by
 refine pB 22 Tryz.func15 ?_;refine(zV) ?_;refine zZ [(1,ah name),(2,.ip [an 14 ps ae]),(4,.ptr 1 0)] 0 rfl (gu @an.eq_1) ?_
 (try change aE _ _ _ _ _)
 refine(zV)<|(zs) ?_;refine zL ps (λk=>((ps.take k).all λp=>!(decide (p.name=name)))=true) (λk=>[(1,ah name),(4,.ptr 1 0),(9,an 14 ps ae),(10,ab ps.length),(11,ab k)]) (λk=>[.gone,.cells Hd]) (bX @Hd.eq_1) zp ?_;intro k hk hall;refine zT ps k ?_ ?_;rintro rfl;rotate_left;intro p hx hlt;rotate_left
 ·refine(gh) ?_;rw[b0] at hall;rw[Nq hall]
  exact(aw @Hd.eq_1)<|jW [.cell 4 56,.tmp 5] (r:=.cm [.ag (ae ai.zero),ak false]) (hw:=.cm (.cons (.ag (.cons (.a _) (.cons (.a _) (.cons (.a _) (.cons (.a _) (.cons (.a _) (.cons (.a _) (.cons (.a _) (.cons (.nil 2) (bg.refl rfl)))))))))) (bg.refl rfl)))
 refine(gB)<|(aw (gm hlt (aQ (e:=14) (enc:=ae) (λ_=>rfl) hx) @ae.eq_1 @Hd.eq_1)) ?_
 cases he:decide (p.name=name)
 ·refine(aw he)<|(zN)<|(aw (zi hlt hlen)) ?_;refine zX hlt (bX (bq @ae.eq_1 @Hd.eq_1)) (by rw[cD hx,d9,hall];show(true&&(!(decide (p.name=name))&&true))=true;rw[he];rfl)
 ·rw[Np hx (ww he) hall]
  exact(aw he)<|(zY)<|(aw @ae.eq_1)<|jW [.cell 4 56,.tmp 5]
inductive aW where
 | mk (op:Int) (name value:List Nat) (n extra:Int) (kids:List aW)
def aW.op:aW->Int
 | .mk op _ _ _ _ _=>op
def aW.name:aW->List Nat
 | .mk _ name _ _ _ _=>name
def aW.value:aW->List Nat
 | .mk _ _ value _ _ _=>value
def aW.n:aW->Int
 | .mk _ _ _ n _ _=>n
def aW.extra:aW->Int
 | .mk _ _ _ _ extra _=>extra
def aW.kids:aW->List aW
 | .mk _ _ _ _ _ kids=>kids
mutual
def aX:aW->List SV
 | .mk op name value n extra kids=>[ab op,ah name,ah value,ab n,ab extra,.sl kids.length 6 (qe kids)]
def qe:List aW->List SV
 | []=>[]
 | f::fs=>aX f++qe fs
end
def vA:∀l:List aW,qe l=l.flatMap aX
 | []=>by rw[qe];rfl
 | f::l=>by rw[qe,vA l,flatMap_cons]
def gK(op:Int)(name value:List Nat)(n extra:Int)(kids:List aW):aX (.mk op name value n extra kids)=[ab op,ah name,ah value,ab n,ab extra,.sl kids.length 6 (kids.flatMap aX)]:=by rw[aX,vA]
def jm(f:aW):(aX f).length=6:=by
 obtain⟨op,name,value,n,extra,kids⟩:=f;rw[gK];rfl
inductive gp:aW->Prop
 | mk {op:Int} {name value:List Nat} {n extra:Int} {kids:List aW}:fc name->fc value->kids.length<=1000000->(∀k∈kids,gp k)->gp (.mk op name value n extra kids)
def ml:List (List Nat):=[[116,114,117,101],[110,111,116],[97,110,100],[111,114],[108,105,109,105,116],[111,118,101,114],[104,97,115],[115,108,111,116],[97,108,108],[97,110,121],[97,116]]
def HO(n low:Int):Bool:=decide (low<=n)&&decide (n<=9999999)
structure Q4 where
 kids:Bool
 named:Bool
 ok:Bool
 value:List Nat
 n:Int
 extra:Int
def SM(e:aW):Option Q4:=
 let none0:=decide ((e.kids.length:Int)=0)
 if e.op=1 then some ⟨none0,false,true,[],0,0⟩
 else if e.op=2 then some ⟨decide ((e.kids.length:Int)=1),false,true,[],0,0⟩
 else if e.op=3\/e.op=4 then some ⟨decide (1<(e.kids.length:Int)),false,true,[],0,0⟩
 else if e.op=5 then some ⟨none0,true,HO e.n 0&&HO e.extra 0,[],e.n,e.extra⟩
 else if e.op=6 then some ⟨none0,true,HO e.n 0,[],e.n,0⟩
 else if e.op=7 then some ⟨none0,true,!(decide (e.value=[]))&&(decide ((e.value.length:Int)<=200)&&!(ml.contains e.name)),e.value,0,0⟩
 else if e.op=8 then some ⟨none0,true,true,[],0,0⟩
 else if e.op=9 then some ⟨none0,true,cH e.value,e.value,0,0⟩
 else if e.op=10\/e.op=11 then some ⟨decide ((e.kids.length:Int)=1),true,true,[],0,0⟩
 else if e.op=12 then some ⟨none0,true,HO e.n 1,[],e.n,0⟩
 else none
def FJ(q:Q4)(e:aW):Bool:=(q.ok&&(!q.named||cH e.name))&&(q.kids&&((q.named||decide (e.name=[]))&&(decide (q.value=e.value)&&(decide (q.n=e.n)&&decide (q.extra=e.extra)))))
def iF(e:aW):Bool:=match SM e with
 | some q=>FJ q e
 | none=>false
mutual
def fq:aW->List aW
 | .mk op name value n extra kids=>.mk op name value n extra kids::lZ kids
def lZ:List aW->List aW
 | []=>[]
 | k::ks=>fq k++lZ ks
end
def nJ(e:aW):Bool:=decide ((fq e).length<=60)&&(fq e).all iF
def jN(a:Int):Int:=if a=0\/a=2 then a else 1
def Ls(a:Int):Int:=2-jN a
def Cl(a b:Int):Int:=e7 (jN a) (jN b)
def QA(a b:Int):Int:=dN (jN a) (jN b)
def Ea(b:Bool):Int:=if b=true then 2 else 0
def dh(p:ai)(cur:List Nat)(day:Int):(Int×Int)×Int:=
 let v:=λ(x:Int×Int)=>if day<0\/40000<day then (((0,0):Int×Int),(13:Int)) else (x,0)
 if cur=[107,109] then v (p.l1,p.l2) else if cur=[99,121,99,108,101,115] then v (p.l3,p.l4) else if cur=[100,97,109,97,103,101] then v (p.l5,p.l6)
 else if cur=[100,97,121,115] then v (gr day p.since,gr day p.since) else if cur=[97,103,101] then v (gr day p.made,gr day p.made) else ((0,0),15)
def dq(ps:List ai)(name:List Nat):ai:=(bD ps name).getD ai.zero
def ij(ps:List ai)(part kind:List Nat):List (List Nat):=(ea ps part).filter λn=>decide ((dq ps n).kind=kind)
def Rh(ps:List ai)(day:Int)(op:Int)(name value:List Nat)(n extra:Int)(part:List Nat):Int:=
 let p:=dq ps part
 if op=1 then 2
 else if op=5 then (if (dh p name day).2=0 then Ls (oH (dh p name day).1.1 (dh p name day).1.2 (n+extra)) else 0)
 else if op=6 then (if (dh p name day).2=0 then oH (dh p name day).1.1 (dh p name day).1.2 n else 0)
 else if op=7 then Ea (p.props.any λx=>decide (x.key=name)&&decide (x.value=value))
 else if op=8 then Ea (p.props.any λx=>decide (x.key=name))
 else if op=9 then Ea (ps.any λq=>decide (q.aR=part)&&(decide (q.slot=name)&&decide (q.kind=value)))
 else Ea (decide (n<=((ij ps part name).length:Int)))
mutual
def iO(ps:List ai)(day:Int):aW->List Nat->Int
 | .mk op name value n extra kids,part=>
  if op=2 then Ls ((Cm ps day kids part).headD 0)
  else if op=3 then (Cm ps day kids part).foldl Cl 2
  else if op=4 then (Cm ps day kids part).foldl QA 0
  else if op=10 then (Pk ps day kids (ij ps part name)).foldl Cl 2
  else if op=11 then (Pk ps day kids (ij ps part name)).foldl QA 0
  else Rh ps day op name value n extra part
def Cm(ps:List ai)(day:Int):List aW->List Nat->List Int
 | [],_=>[]
 | k::ks,part=>iO ps day k part::Cm ps day ks part
def Pk(ps:List ai)(day:Int):List aW->List (List Nat)->List Int
 | [],_=>[]
 | k::_,names=>names.map λn=>iO ps day k n
end
def qC(ps:List ai):Nat->List Nat->List Nat
 | 0,_=>[]
 | f+1,part=>match bD ps part with
  | none=>[]
  | some p=>if p.aR=[] then part else qC ps f p.aR
def Kr(ps:List ai)(part:List Nat):List Nat:=qC ps ps.length part
def nP(ps:List ai)(e:aW)(part:List Nat)(day:Int):Int:=if nJ e=true/\Kr ps part≠[] then iO ps day e part else 0
def Ix(a:Int):0<=jN a/\jN a<=2:=by unfold jN;split<;>omega
def kX(a:Int):PC aa 219 [ab a] (·=ab (jN a)):=by
 refine pB 8 Tryz.func219 ?_;refine(oa)<|(zB) ?_
 cases h0:decide (a=0)
 ·cases h2:decide (a=2)
  ·exact(aw h0)<|(zN)<|(aw h2)<|(kY)<|zo [.tmp 2] (hq:=by rw[jN,v6 (λh=>h.elim (wt h0) (wt h2))])
  ·exact(aw h0)<|(zN)<|(aw h2)<|(cF)<|zo [.tmp 2] (hq:=by rw[jN,ut (.inr (ww h2))])
 ·exact(aw h0)<|(zY)<|(zY)<|(zV)<|zo [.tmp 2] (hq:=by rw[jN,ut (.inl (ww h0))])
def Cb(a:Int):PC aa 133 [ab a] (·=ab (Ls a)):=by
 refine pB 6 Tryz.func133 ?_;have hb:=Ix a
 exact(jt)<|(zK (kX a))<|(cJ (Q6 (P:=aa) (t:=74) (show -9223372036854775808<=2-jN a/\2-jN a<=9223372036854775807 from⟨by omega,by omega⟩)))<|zo [.tmp 2]
def B5(a b:Int):PC aa 134 [ab a,ab b] (·=ab (Cl a b)):=by
 refine pB 10 Tryz.func134 ?_;exact(jt)<|(zK (kX a))<|(zQ)<|(zK (kX b))<|(cJ @jf)<|zo [.tmp 4]
def GI(a b:Int):PC aa 135 [ab a,ab b] (·=ab (QA a b)):=by
 refine pB 10 Tryz.func135 ?_;exact(jt)<|(zK (kX a))<|(zQ)<|(zK (kX b))<|(cJ @ff)<|zo [.tmp 4]
def rB(b:Bool):PC aa 138 [ak b] (·=ab (Ea b)):=by
 refine pB 4 Tryz.func138 ?_;refine(oa) ?_;cases b
 ·exact(kY)<|zo [.tmp 2]
 ·exact(cF)<|zo [.tmp 2]
def oO(n low:Int):PC aa 217 [ab n,ab low] (·=ak (HO n low)):=by
 refine pB 12 Tryz.func217 ?_;refine(zV) ?_;cases h1:decide (low<=n)
 ·exact(aw h1)<|zo [.tmp 4] (hq:=by rw[HO,h1];rfl)
 ·exact(aw h1)<|zo [.tmp 4] (hq:=by rw[HO,h1];rfl)
def Aj(s:List Nat):PC aa 218 [ah s] (·=ak (ml.contains s)):=by
 refine pB 6 Tryz.func218 ?_;exact(jt)<|(zK (iC ml s ii) (hwk:=.cons (.buf rfl (bg.refl rfl) ii) (.cons (.a _) .nil)))<|(zR)<|zo [.tmp 2]
def OT(p:ai)(day:Int):PC aa 276 [.ag (ae p),ab day] (·=.ag [ab p.l1,ab p.l2]):=by
 refine pB 8 Tryz.func276 ?_;exact(aw @ae.eq_1)<|(zV)<|zo [.cell 4 52]
def OP(p:ai)(day:Int):PC aa 277 [.ag (ae p),ab day] (·=.ag [ab p.l3,ab p.l4]):=by
 refine pB 8 Tryz.func277 ?_;exact(aw @ae.eq_1)<|(zV)<|zo [.cell 4 52]
def OQ(p:ai)(day:Int):PC aa 278 [.ag (ae p),ab day] (·=.ag [ab p.l5,ab p.l6]):=by
 refine pB 8 Tryz.func278 ?_;exact(aw @ae.eq_1)<|(zV)<|zo [.cell 4 52]
def IA(p:ai)(day:Int)(hd:0<=day/\day<=40000):PC aa 279 [.ag (ae p),ab day,.ip [.fn 275 [] []]] (·=.ag [ab (gr day p.since),ab (gr day p.since)]):=by
 refine pB 11 Tryz.func279 ?_;exact(aw @ae.eq_1)<|(zC)<|(zK (wc day p.since hd))<|(zR)<|zo [.cell 5 52]
abbrev TQ(op:Int)(name value:List Nat)(n extra:Int)(kids:List aW):SV:=.ip [ab op,ah name,ah value,ab n,ab extra,.sl kids.length 6 (kids.flatMap aX)]
abbrev wN(op:Int)(name value:List Nat)(n extra:Int)(kids:List aW)(kb nb ob:Bool):Fm:=[(1,TQ op name value n extra kids),(3,.ptr 0 0),(4,ak kb),(5,ak nb),(7,ak ob)]
def IY(e:aW)(he:gp e):PC aa 130 [.ag (aX e)] (·=ak (iF e)):=by
 cases he with
 | @mk op name value n extra kids hgn hgv hlen hks=>
 rw[gK]
 refine pB 147 Tryz.func130 ?_;refine(zV) ?_;refine zZ [(1,TQ op name value n extra kids)] 0 rfl zG<|zA [(1,TQ op name value n extra kids)] [] zH<|(oa)<|(oa)<|(zV)<|zA ((6,.fn 217 [] [])::(16,ab op)::wN op name value n extra kids (decide ((kids.length:Int)=0)) true true) [.cells [ab op,ah [],ah [],ab 0,ab 0,bG]] zH ?_
 (repeat refine aE.seq ?_)
 refine aE.mono (Q:=λex st=>(ex=.normal/\∃q,SM (.mk op name value n extra kids)=some q/\Fg st ⟨wN op name value n extra kids q.kids q.named q.ok,147,[.cells [ab op,ah [],ah q.value,ab q.n,ab q.extra,bG]],[]⟩)\/(ex=.ret/\Bf aa Tryz.f130 (·=ak (iF (.mk op name value n extra kids))) .ret st)) ?_ ?_
 ·refine aE.block ?_;cases o1:decide (op=1);rotate_left
  ·have p1:=ww o1
   refine(aw o1)<|(cF) ?_;exact .inl ⟨rfl,⟨decide ((kids.length:Int)=0),false,true,[],0,0⟩,by subst p1;rfl,zH⟩
  have n1:=wt o1
  refine(aw o1)<|(zN) ?_
  cases o2:decide (op=2);rotate_left
  ·have p2:=ww o2
   refine(aw o2)<|(zY)<|(zs) ?_;refine oS [0,1,3,7,0,31] ?_;refine(qP)<|(zM) ?_;exact .inl ⟨rfl,⟨decide ((kids.length:Int)=1),false,true,[],0,0⟩,by subst p2;rfl,zH⟩
  have n2:=wt o2
  refine(aw o2)<|(zN) ?_
  cases o3:decide (op=3);rotate_left
  ·have p3:=ww o3
   refine(aw o3)<|(zY)<|(zY)<|(zs) ?_;refine oS [0,1,3,7,0,31] ?_;refine(qP)<|(zM) ?_;exact .inl ⟨rfl,⟨decide (1<(kids.length:Int)),false,true,[],0,0⟩,by subst p3;rfl,zH⟩
  have n3:=wt o3
  refine(aw o3)<|(zN) ?_
  cases o4:decide (op=4);rotate_left
  ·have p4:=ww o4
   refine(aw o4)<|(zY)<|(zs) ?_;refine oS [0,1,3,7,0,31] ?_;refine(qP)<|(zM) ?_;exact .inl ⟨rfl,⟨decide (1<(kids.length:Int)),false,true,[],0,0⟩,by subst p4;rfl,zH⟩
  have n4:=wt o4
  refine(aw o4)<|(zN) ?_
  cases o5:decide (op=5);rotate_left
  ·have p5:=ww o5
   refine(aw o5)<|(zY) ?_
   cases g:HO n 0
   ·have hc:=oO n 0;rw[g] at hc
    refine(zs) ?_;refine oS [0,1,0,4,0,0,32,112,240,496,496,1520,4080,8176,3,24563,57343,122879,262143] ?_;refine(qP) ?_;refine SD.k i4 rfl rfl i4 rfl rfl zc (hc) (zw) rfl ?_;refine(qP) ?_;refine SD.e i4 rfl i4 rfl rfl i4 zl ?_;refine(qP) ?_;refine SD.e i4 rfl i4 rfl rfl i4 zl ?_;refine(qP)<|(zM) ?_;exact .inl ⟨rfl,⟨decide ((kids.length:Int)=0),true,HO n 0&&HO extra 0,[],n,extra⟩,by subst p5;rfl,by rw[g];exact zH⟩
   ·have hc:=oO n 0;rw[g] at hc
    refine(zs) ?_;refine oS [0,1,0,4,0,0,32,112,240,496,496,1520,4080,8176,3,24563,57343,122879,262143] ?_;refine(qP) ?_;refine SD.k i4 rfl rfl i4 rfl rfl zc (hc) (zw) rfl ?_;refine(qP) ?_;refine SD.k i4 rfl rfl i4 rfl rfl zc (oO extra 0) (zw) rfl ?_;refine(qP) ?_;refine SD.e i4 rfl i4 rfl rfl i4 zl ?_;refine(qP) ?_;refine SD.e i4 rfl i4 rfl rfl i4 zl ?_;refine(qP)<|(zM) ?_;exact .inl ⟨rfl,⟨decide ((kids.length:Int)=0),true,HO n 0&&HO extra 0,[],n,extra⟩,by subst p5;rfl,by rw[g];exact zH⟩
  have n5:=wt o5
  refine(aw o5)<|(zN) ?_
  cases o6:decide (op=6);rotate_left
  ·have p6:=ww o6
   refine(aw o6)<|(zY)<|(zs) ?_;refine oS [0,1,0,0,8,28,3,127,255] ?_;refine(qP) ?_;refine SD.k i4 rfl rfl i4 rfl rfl zc (oO n 0) (zw) rfl ?_;refine(qP) ?_;refine SD.e i4 rfl i4 rfl rfl i4 zl ?_;refine(qP)<|(zM) ?_;exact .inl ⟨rfl,⟨decide ((kids.length:Int)=0),true,HO n 0,[],n,0⟩,by subst p6;rfl,zH⟩
  have n6:=wt o6
  refine(aw o6)<|(zN) ?_
  cases o7:decide (op=7);rotate_left
  ·have p7:=ww o7;cases g1:decide (value=[])
   ·cases g2:decide ((value.length:Int)<=200)
    ·refine(aw o7)<|(zY)<|(zs) ?_;refine oS [0,1,0,4,12,28,60,124,252,508,1020,2044,4092,8188,16380,32764,65532,3,163839,524287] ?_;refine(QZ (bq g1 g2)) ?_;refine SD.e i4 rfl i4 rfl rfl i4 zl ?_;refine(qP)<|(zM) ?_;exact .inl ⟨rfl,⟨decide ((kids.length:Int)=0),true,!(decide (value=[]))&&(decide ((value.length:Int)<=200)&&!(ml.contains name)),value,0,0⟩,by subst p7;rfl,by rw[g1,g2];exact zH⟩
    ·refine(aw o7)<|(zY)<|(zs) ?_;refine oS [0,1,0,4,12,28,60,124,252,508,1020,2044,4092,8188,16380,32764,65532,3,163839,524287] ?_;refine(QZ (bq g1 g2)) ?_;refine SD.k i4 rfl rfl i4 rfl rfl zc (Aj name) (zw) rfl ?_;refine(qP) ?_;refine SD.e i4 rfl i4 rfl rfl i4 zl ?_;refine(qP)<|(zM) ?_;exact .inl ⟨rfl,⟨decide ((kids.length:Int)=0),true,!(decide (value=[]))&&(decide ((value.length:Int)<=200)&&!(ml.contains name)),value,0,0⟩,by subst p7;rfl,by rw[g1,g2];exact zH⟩
   ·refine(aw o7)<|(zY)<|(zs) ?_;refine oS [0,1,0,4,12,28,60,124,252,508,1020,2044,4092,8188,16380,32764,65532,3,163839,524287] ?_;refine(QZ g1) ?_;refine SD.e i4 rfl i4 rfl rfl i4 zl ?_;refine(qP)<|(zM) ?_;exact .inl ⟨rfl,⟨decide ((kids.length:Int)=0),true,!(decide (value=[]))&&(decide ((value.length:Int)<=200)&&!(ml.contains name)),value,0,0⟩,by subst p7;rfl,by rw[g1];exact zH⟩
  have n7:=wt o7
  refine(aw o7)<|(zN) ?_
  cases o8:decide (op=8);rotate_left
  ·have p8:=ww o8
   refine(aw o8)<|(zY) ?_;exact .inl ⟨rfl,⟨decide ((kids.length:Int)=0),true,true,[],0,0⟩,by subst p8;rfl,zH⟩
  have n8:=wt o8
  refine(aw o8)<|(zN) ?_
  cases o9:decide (op=9);rotate_left
  ·have p9:=ww o9
   refine(aw o9)<|(zY)<|(zs) ?_;refine oS [0,1,0,4,12,3,63,127] ?_;refine(qP) ?_;refine SD.k i4 rfl rfl i4 rfl rfl zc (dS value hgv) (zw) rfl ?_;refine(qP) ?_;refine SD.e i4 rfl i4 rfl rfl i4 zl ?_;refine(qP)<|(zM) ?_;exact .inl ⟨rfl,⟨decide ((kids.length:Int)=0),true,cH value,value,0,0⟩,by subst p9;rfl,zH⟩
  have n9:=wt o9
  refine(aw o9)<|(zN) ?_
  cases o10:decide (op=10);rotate_left
  ·have p10:=ww o10
   refine(aw o10)<|(zY)<|(zY)<|(zV) ?_;exact .inl ⟨rfl,⟨decide ((kids.length:Int)=1),true,true,[],0,0⟩,by subst p10;rfl,zH⟩
  have n10:=wt o10
  refine(aw o10)<|(zN) ?_
  cases o11:decide (op=11);rotate_left
  ·have p11:=ww o11
   refine(aw o11)<|(cF) ?_;exact .inl ⟨rfl,⟨decide ((kids.length:Int)=1),true,true,[],0,0⟩,by subst p11;rfl,zH⟩
  have n11:=wt o11
  refine(aw o11)<|(zN) ?_
  cases o12:decide (op=12);rotate_left
  ·have p12:=ww o12
   refine(aw o12)<|(zY)<|(zs) ?_;refine oS [0,1,0,0,8,28,3,127,255] ?_;refine(qP) ?_;refine SD.k i4 rfl rfl i4 rfl rfl zc (oO n 1) (zw) rfl ?_;refine(qP) ?_;refine SD.e i4 rfl i4 rfl rfl i4 zl ?_;refine(qP)<|(zM) ?_;exact .inl ⟨rfl,⟨decide ((kids.length:Int)=0),true,HO n 1,[],n,0⟩,by subst p12;rfl,zH⟩
  have n12:=wt o12
  refine(aw o12)<|(zN) ?_
  have hnone:iF (.mk op name value n extra kids)=false:=by
   unfold iF SM;simp only[aW.op,n1,n2,n3,n4,n5,n6,n7,n8,n9,n10,n11,n12,if_false,or_self]
  refine(zV) ?_;refine aE.ret ?_;refine .inr ⟨rfl,?_⟩;exact zO [.tmp 2] (hq:=by (try simp only[ew,bH]);first | done | (rw[hnone]))
 rintro ex st (⟨rfl,q,hq,hf⟩ | ⟨rfl,hs⟩);rotate_left
 ·exact hs
 change aE _ _ _ _ _;refine aE.fg hf ?_;clear hf
 have hres:iF (.mk op name value n extra kids)=FJ q (.mk op name value n extra kids):=by unfold iF;rw[hq]
 rw[hres];clear hres hq;obtain⟨kb,nb,ob,v',n',x'⟩:=q;have hM:=dS name hgn;rw[show FJ ⟨kb,nb,ob,v',n',x'⟩ (.mk op name value n extra kids)=((ob&&(!nb||cH name))&&(kb&&((nb||decide (name=[]))&&(decide (v'=value)&&(decide (n'=n)&&decide (x'=extra)))))) from rfl];refine(zV) ?_
 (repeat refine aE.seq ?_)
 refine aE.mono (Q:=λex st=>ex=.normal/\Fg st ⟨[(1,TQ op name value n extra kids),(3,.ptr 0 0),(4,ak kb),(7,ak (ob&&(!nb||cH name)))],147,[.cells [ab op,ah (cond nb name []),ah v',ab n',ab x',bG]],[]⟩) ?_ ?_
 ·cases nb
  ·refine(zN) ?_;exact⟨rfl,by rw[show(ob&&(!false||cH name))=ob by cases ob<;>rfl];exact zH⟩
  ·cases ob
   ·refine(zY)<|(zs) ?_;refine oS [0,1,0,4,12,28,60,124,3,383,1023] ?_;refine(qP) ?_;refine SD.e i4 rfl i4 rfl rfl i4 zl ?_;refine(qP)<|(zM) ?_;exact⟨rfl,zH⟩
   ·refine(zY)<|(zs) ?_;refine oS [0,1,0,4,12,28,60,124,3,383,1023] ?_;refine(qP) ?_;refine SD.k i4 rfl rfl i4 rfl rfl zc (hM) (zw) rfl ?_;refine(qP) ?_;refine SD.e i4 rfl i4 rfl rfl i4 zl ?_;refine(qP)<|(zM) ?_;exact⟨rfl,zH⟩
 rintro ex st ⟨rfl,hf⟩;refine aE.fg hf ?_;clear hf;change aE _ _ _ _ _
 have hsame:(cond nb name []=name)↔(nb||decide (name=[]))=true:=by cases nb<;>simp[eq_comm]
 generalize (ob&&(!nb||cH name))=o1;cases o1
 ·exact(zV)<|zo [.tmp 2]
 cases kb
 ·exact(zV)<|zo [.tmp 2]
 cases g1:decide (cond nb name []=name)
 ·have e1:(nb||decide (name=[]))=false:=by
   cases h:(nb||decide (name=[]))
   ·rfl
   ·exact un (hsame.2 h) (wt g1)
  rw[e1]
  exact(aw g1)<|zo [.tmp 2]
 have e1:=hsame.1 (ww g1);rw[e1];cases g2:decide (v'=value)
 ·exact(aw (bq g1 g2))<|zo [.tmp 2]
 cases g3:decide (n'=n)
 ·exact(aw (cG g1 g2 g3))<|zo [.tmp 2]
 ·exact(aw (cG g1 g2 g3))<|zo [.tmp 2]
def cr(x:aW):aX x=[ab x.op,ah x.name,ah x.value,ab x.n,ab x.extra,.sl x.kids.length 6 (x.kids.flatMap aX)]:=by
 obtain⟨op,name,value,n,extra,kids⟩:=x;exact gK op name value n extra kids
def NT(op:Int)(name value:List Nat)(n extra:Int)(kids:List aW):fq (.mk op name value n extra kids)=.mk op name value n extra kids::kids.flatMap fq:=by
 rw[fq]
 congr 1
 induction kids with
 | nil=>rfl
 | cons k ks ih=>rw[lZ,ih,flatMap_cons]
def BP(p:aW->Bool)(e:aW):(fq e).all p=(p e&&e.kids.all λk=>(fq k).all p):=by
 obtain⟨op,name,value,n,extra,kids⟩:=e;rw[NT,List.all_cons,List.all_flatMap];rfl
def gp.Te{e:aW}(h:gp e):e.kids.length<=1000000/\∀k∈e.kids,gp k:=by
 cases h with
 | mk _ _ h1 h2=>exact⟨h1,h2⟩
def yD{e k:aW}(h:k∈e.kids):SizeOf.sizeOf k<SizeOf.sizeOf e:=by
 obtain⟨op,name,value,n,extra,kids⟩:=e;have h1:=cn (show k∈kids from h)
 have h2:SizeOf.sizeOf (aW.mk op name value n extra kids)=1+SizeOf.sizeOf op+SizeOf.sizeOf name+SizeOf.sizeOf value+SizeOf.sizeOf n+SizeOf.sizeOf extra+SizeOf.sizeOf kids:=by simp
 omega
def DF{l:List aW}(p:aW->Bool){fid:FuncId}{first cap:List SV}(hlen:l.length<=1000000)(hp:∀x∈l,PC aa fid ((first++[.ag (aX x)])++cap) (·=ak (p x)))(hg:bW first=true/\bW cap=true):PC aa 274 [an 6 l aX,.fn fid first cap] (·=ab (fR p l)):=by
 refine pB 19 func274 ?_;refine(aw @an.eq_1)<|(zV)<|(zs) ?_;refine zL l (λk=>∀(i:Nat) y,i<k->l[i]?=some y->p y=false) (λk=>[(0,.sl l.length 6 (l.flatMap aX)),(1,.fn fid first cap),(7,ab l.length),(8,ab k)]) (λk=>[]) zH zp ?_;intro k hk hall;refine zT l k ?_ ?_;rintro rfl;rotate_left;intro x hx hlt;rotate_left
 ·exact(gh)<|(zV)<|zo [.tmp 4] (hq:=by rw[ig hall])
 ·have hpx0:=hp x (mem_iff_getElem?.2 ⟨k,hx⟩);have hxl:((l.flatMap aX).drop (k*6)).take 6=aX x:=aQ jm hx;rw[cr x] at hxl hpx0
  refine(gB)<|(zV)<|(fb (bq hlt hxl))<|(zK hpx0 (hwk:=((bg.refl hg.1).app (bg.refl rfl)).app (bg.refl hg.2))) ?_;refine aT.nil ?_
  change aE _ _ _ _ _;cases hpx:p x
  ·refine(zN)<|(aw (zi hlt hlen)) ?_;refine zX hlt zH ?_
   intro i y hi hy;by_cases hik:i=k
   ·subst hik;rw[hx] at hy;cases hy;exact hpx
   ·exact hall i y i5 hy
  ·exact(cF)<|zo [.tmp 4] (hq:=by rw[lR hx hpx hall])
def Dv{l:List (aW)}(p:aW->Bool){fid:FuncId}{first cap:List SV}(hlen:l.length<=1000000)(hp:∀x∈l,PC aa fid ((first++[.ag (aX x)])++cap) (·=ak (p x)))(hg:bW first=true/\bW cap=true):PC aa 215 [an 6 l aX,.fn fid first cap] (·=ak (l.any p)):=by
 refine pB 9 func215 ?_;exact(jt)<|(zK (DF p hlen hp hg) (hwk:=.cons (Wk.sl _ _ _) (.cons (.fn (bg.refl hg.1) (bg.refl hg.2)) .nil)))<|(zR)<|zo [.tmp 4] (hq:=by rw[nq])
def Jd(k:aW)(b:Bool)(ih:PC aa 129 [.ag (aX k),.fn 130 [] []] (·=ak b)):PC aa 216 [.ag (aX k),.ip [.fn 130 [] []]] (·=ak (!b)):=by
 refine pB 8 func216 ?_;rw[cr] at ih ⊢
 exact(jt)<|(zK ih)<|(zR)<|zo [.tmp 3]
def Ap:∀(d:Nat) (e:aW),SizeOf.sizeOf e<d->gp e->PC aa 129 [.ag (aX e),.fn 130 [] []] (·=ak ((fq e).all iF))
 | 0,e,hd,_=>un hd (ch _)
 | d+1,e,hd,he=>by
  obtain⟨hlen,hks⟩:=he.Te;have hn:=IY e he;have hcof:=Dv (λk=>!((fq k).all iF)) (l:=e.kids) (fid:=216) (first:=[]) (cap:=[.ip [.fn 130 [] []]]) hlen (λk hk=>Jd k _ (Ap d k (by have:=yD hk;omega) (hks k hk))) ⟨rfl,rfl⟩
  have hr:(fq e).all iF=(iF e&&!(e.kids.any λk=>!((fq k).all iF))):=by
   rw[BP,List.not_any_eq_all_not];simp
  rw[hr];refine pB 15 func129 ?_;rw[cr] at hn ⊢
  refine(zV) ?_;refine zZ [(2,.ip [ab e.op,ah e.name,ah e.value,ab e.n,ab e.extra,.sl e.kids.length 6 (e.kids.flatMap aX)]),(3,.ptr 1 0)] 0 rfl zG<|zZ [(2,.ip [ab e.op,ah e.name,ah e.value,ab e.n,ab e.extra,.sl e.kids.length 6 (e.kids.flatMap aX)]),(3,.ip [.fn 130 [] []])] 1 rfl zG<|zA [(2,.ip [ab e.op,ah e.name,ah e.value,ab e.n,ab e.extra,.sl e.kids.length 6 (e.kids.flatMap aX)]),(3,.ip [.fn 130 [] []])] [] zH<|(zC)<|(zK hn) ?_
  cases iF e
  ·exact(zR)<|zo [.tmp 4]
  ·exact(zQ)<|(zK hcof)<|(zR)<|zo [.tmp 4]
mutual
def lN:aW->Int->Int×Bool
 | .mk _ _ _ _ _ kids,n=>if n+1<=60 then pd kids (n+1) else (n+1,false)
def pd:List aW->Int->Int×Bool
 | [],n=>(n,true)
 | k::ks,n=>if (lN k n).2=true then pd ks (lN k n).1 else ((lN k n).1,false)
end
def PA(e:aW)(n:Int):lN e n=if n+1<=60 then pd e.kids (n+1) else (n+1,false):=by
 obtain⟨op,name,value,m,extra,kids⟩:=e;rw[lN];rfl
def Fa:List aW->Int->Int->Int
 | [],_,_ => -1
 | k::ks,n,j=>if (lN k n).2=true then Fa ks (lN k n).1 (j+1) else j
mutual
def Cy:∀(e:aW) (n:Int),n<=60->(((lN e n).2=true/\(lN e n).1=n+(fq e).length/\n+(fq e).length<=60)\/((lN e n).2=false/\(lN e n).1=61/\60<n+(fq e).length))
 | .mk op name value m extra kids,n,hn=>by
  have ih:=JA kids (n+1);rw[lN,fq,jp];split
  ·rename_i h
   rcases ih h with⟨h1,h2,h3⟩ | ⟨h1,h2,h3⟩
   ·exact .inl ⟨h1,by rw[h2];omega,by omega⟩
   ·exact .inr ⟨h1,h2,by omega⟩
  ·exact .inr ⟨rfl,by show n+1=61;omega,by omega⟩
def JA:∀(l:List aW) (n:Int),n<=60->(((pd l n).2=true/\(pd l n).1=n+(lZ l).length/\n+(lZ l).length<=60)\/((pd l n).2=false/\(pd l n).1=61/\60<n+(lZ l).length))
 | [],n,hn=>.inl ⟨rfl,by rw[pd,lZ];simp,by rw[lZ];simpa using hn⟩
 | k::ks,n,hn=>by
  have h:=Cy k n hn;rw[pd,lZ,md]
  rcases h with⟨h1,h2,h3⟩ | ⟨h1,h2,h3⟩
  ·rw[ut h1]
   rcases JA ks (lN k n).1 i5 with⟨i1,i2,i3⟩ | ⟨i1,i2,i3⟩
   ·exact .inl ⟨i1,by rw[i2];omega,by omega⟩
   ·exact .inr ⟨i1,i2,by omega⟩
  ·rw[v6 (by rw[h1];decide)];exact .inr ⟨rfl,h2,by omega⟩
end
def M3(e:aW):decide ((lN e 0).1<=60)=decide ((fq e).length<=60):=by
 rw[decide_eq_decide]
 rcases Cy e 0 ii with⟨h1,h2,h3⟩ | ⟨h1,h2,h3⟩<;>omega
def JM:∀(l:List aW) (n j:Int),0<=j->decide (0<=Fa l n j)=!(pd l n).2
 | [],_,_,_=>rfl
 | k::ks,n,j,hj=>by
  rw[Fa,pd];split
  ·exact JM ks _ _ i5
  ·show decide (0<=j)=true;rw[wp];exact hj
def A5(e:aW)(n:Int)(hn:0<=n/\n<=60):SC aa 214 [.ag (aX e),.ptr 0 0] [.cells [ab n]] [] (λr S'=>r=ak (decide (n+1<=60))/\S'=[.cells [ab (n+1)]]):=by
 refine OH 8 Tryz.func214 ?_;rw[cr]
 refine(zV)<|(aw (Ee (P:=aa) (t:=3) (a:=n) (b:=1) i5))<|(zV)<|zA [(3,ak (decide (n+1<=60))),(1000000,.ptr 0 0)] [.cells [ab (n+1)]] zH<|(zE) ?_;exact zP [.tmp 3]
def G2(k:aW)(n:Int)(q:Int×Bool)(ih:SC aa 129 [.ag (aX k),.fn 214 [] [.ptr 0 0]] [.cells [ab n]] [] (λr S'=>r=ak q.2/\S'=[.cells [ab q.1]])):
 SC aa 216 [.ag (aX k),.ptr 0 0] [.cells [.fn 214 [] [.ptr 1 0]],.cells [ab n]] [] (λr S'=>r=ak (!q.2)/\S'=[.cells [.fn 214 [] [.ptr 1 0]],.cells [ab q.1]]):=by
 refine Rx 8 func216 ?_;rw[cr] at ih ⊢
 refine(jt) ?_;refine zS [1] trivial ih ?_;refine(zR)<|zA [(3,ak (!q.2)),(1000000,.ptr 0 0),(1000001,.ptr 1 0)] [.cells [.fn 214 [] [.ptr 1 0]],.cells [ab q.1]] zH<|(zE) ?_;exact zP [.tmp 3]
abbrev MO:SO:=.cells [.fn 214 [] [.ptr 1 0]]
def Hk(k:aW):Prop:=∀n:Int,0<=n/\n<=60->SC aa 129 [.ag (aX k),.fn 214 [] [.ptr 0 0]] [.cells [ab n]] [] (λr S'=>r=ak (lN k n).2/\S'=[.cells [ab (lN k n).1]])
def LZ(l:List aW)(n:Int)(hn:0<=n/\n<=60)(hlen:l.length<=1000000)(hkk:∀k∈l,Hk k):SC aa 274 [an 6 l aX,.fn 216 [] [.ptr 0 0]] [MO,.cells [ab n]] [] (λr S'=>r=ab (Fa l n 0)/\S'=[MO,.cells [ab (pd l n).1]]):=by
 refine Rx 19 func274 ?_;refine(aw @an.eq_1)<|(zV)<|(zs) ?_;refine Hf l (λk (v:Int)=>(0<=v/\v<=60)/\Fa l n 0=Fa (l.drop k) v k/\(pd l n).1=(pd (l.drop k) v).1) (λk v=>[(0,.sl l.length 6 (l.flatMap aX)),(1,.fn 216 [] [.ptr 0 0]),(7,ab l.length),(8,ab k),(1000000,.ptr 0 0),(1000001,.ptr 1 0)]) (λk v=>[MO,.cells [ab v]]) (n) zH (by exact⟨hn,rfl,rfl⟩) ?_;intro k v hk hall;refine zT l k ?_ ?_;rintro rfl;rotate_left;intro x hx hlt;rotate_left
 ·refine(gh)<|(zV) ?_
  rw[cp] at hall;refine(zE) ?_;exact zP [.tmp 4] (hq:=by (try simp only[ew,bH]);first | done | (rw[hall.2.1,hall.2.2];first | exact⟨rfl,rfl⟩ | exact⟨trivial,rfl⟩ | exact⟨rfl,trivial⟩ | exact⟨trivial,trivial⟩))
 rw[eR hx,Fa,pd] at hall;have hxl:((l.flatMap aX).drop (k*6)).take 6=aX x:=aQ jm hx;have hw:=G2 x v (lN x v) (hkk x (ad hx) v hall.1);rw[cr x] at hxl hw
 refine(gB)<|(zV)<|(fb (bq hlt hxl)) ?_;refine zS [0,1] trivial hw ?_;refine aT.nil ?_
 change aE _ _ _ _ _;have hok:=Cy x v hall.1.2;cases hc:(lN x v).2
 ·rw[hc,v6 bt,v6 bt] at hall
  refine(cF)<|(zE) ?_;exact zP [.tmp 4] (hq:=by (try simp only[ew,bH]);first | done | (rw[hall.2.1,hall.2.2];first | exact⟨rfl,rfl⟩ | exact⟨trivial,rfl⟩ | exact⟨rfl,trivial⟩ | exact⟨trivial,trivial⟩))
 ·rw[hc,ut rfl,ut rfl] at hall;rw[hc] at hok
  have hb:0<=(lN x v).1/\(lN x v).1<=60:=by
   rcases hok with⟨_,h1,h2⟩ | ⟨h1,_⟩
   ·omega
   ·cases h1
  refine(zN)<|(aw (zi hlt hlen)) ?_;refine wq hlt ((lN x v).1) zH (⟨hb,hall.2.1,hall.2.2⟩)
def LU(l:List aW)(n:Int)(hn:0<=n/\n<=60)(hlen:l.length<=1000000)(hkk:∀k∈l,Hk k):SC aa 215 [an 6 l aX,.fn 216 [] [.ptr 0 0]] [MO,.cells [ab n]] [] (λr S'=>r=ak (!(pd l n).2)/\S'=[MO,.cells [ab (pd l n).1]]):=by
 have hi:=LZ l n hn hlen hkk;have hd:=JM l n 0 (ey _);generalize Fa l n 0=j at hi hd
 refine Rx 9 func215 ?_;refine(zV)<|(fb @an.eq_1) ?_;refine zS [0,1] trivial hi ?_;refine(cJ hd)<|(zE) ?_;exact zP [.tmp 4]
def Ao:∀(d:Nat) (e:aW),SizeOf.sizeOf e<d->gp e->Hk e
 | 0,e,hd,_=>un hd (ch _)
 | d+1,e,hd,he=>by
  intro n hn;obtain⟨hlen,hks⟩:=he.Te;have hst:=A5 e n hn;rw[PA];refine OH 15 func129 ?_;rw[cr] at hst ⊢
  refine(zV) ?_;refine zZ [(2,.ip [ab e.op,ah e.name,ah e.value,ab e.n,ab e.extra,.sl e.kids.length 6 (e.kids.flatMap aX)]),(3,.ptr 2 0),(1000000,.ptr 0 0)] 1 rfl zG<|zA [(2,.ip [ab e.op,ah e.name,ah e.value,ab e.n,ab e.extra,.sl e.kids.length 6 (e.kids.flatMap aX)]),(3,.ptr 2 0),(1000000,.ptr 0 0)] [.cells [ab n],.gone,.cells [.fn 214 [] [.ptr 0 0]]] zH ?_
  by_cases h60:n+1<=60
  ·rw[wl h60] at hst;rw[ut h60];have hcof:=LU e.kids (n+1) i5 hlen λk hk=>Ao d k (by have:=yD hk;omega) (hks k hk)
   refine(zC) ?_;refine zS [0] trivial hst ?_;refine(zQ) ?_;refine zS [2,0] trivial hcof ?_ (hc:=Hg @an.eq_1);refine(zR)<|zA [(4,ak (pd e.kids (n+1)).2),(1000000,.ptr 0 0)] [.cells [ab (pd e.kids (n+1)).1]] (bX @not_not)<|(zE) ?_;exact zP [.tmp 4]
  ·rw[wd h60] at hst;rw[v6 h60]
   refine(zC) ?_;refine zS [0] trivial hst ?_;refine(zR)<|zA [(4,ak false),(1000000,.ptr 0 0)] [.cells [ab (n+1)]] zH<|(zE) ?_;exact zP [.tmp 4]
def I8(e:aW)(he:gp e):PC aa 128 [.ag (aX e)] (·=ab (lN e 0).1):=by
 have hw:=Ao _ e (bw _) he 0 ⟨by decide,by decide⟩;refine pB 8 Tryz.func128 ?_;rw[cr] at hw ⊢
 refine(zV) ?_;refine zZ [(1,.ip [ab e.op,ah e.name,ah e.value,ab e.n,ab e.extra,.sl e.kids.length 6 (e.kids.flatMap aX)])] 0 rfl zG<|zA [(1,.ip [ab e.op,ah e.name,ah e.value,ab e.n,ab e.extra,.sl e.kids.length 6 (e.kids.flatMap aX)])] [] zH<|(jt) ?_;refine zS [0] trivial hw ?_;exact(zR)<|(zV)<|zo [.tmp 2]
def wU(name kind:List Nat)(e:aW)(hn:fc name)(hk:fc kind)(he:gp e):PC aa 57 [.ag (ah name::ah kind::aX e)] (·=ak (cH name&&(cH kind&&nJ e))):=by
 have hs:=I8 e he;have hw:=Ap _ e (bw _) he
 have hv:nJ e=(decide ((lN e 0).1<=60)&&(fq e).all iF):=by rw[M3];rfl
 rw[hv];generalize (fq e).all iF=w at hw;generalize (lN e 0).1=m at hs;refine pB 22 Tryz.func57 ?_;rw[cr] at hs hw ⊢
 refine(zV) ?_;refine zZ [(1,.ip [ah name,ah kind,ab e.op,ah e.name,ah e.value,ab e.n,ab e.extra,.sl e.kids.length 6 (e.kids.flatMap aX)])] 0 rfl zG<|zA [(1,.ip [ah name,ah kind,ab e.op,ah e.name,ah e.value,ab e.n,ab e.extra,.sl e.kids.length 6 (e.kids.flatMap aX)])] [] zH<|(zC)<|(zK (dS name hn)) ?_
 cases cH name
 ·exact(zR)<|zo [.tmp 2]
 refine(zQ)<|(zK (dS kind hk)) ?_
 cases cH kind
 ·exact(zR)<|zo [.tmp 2]
 refine(zQ)<|(zK hs) ?_
 cases g:decide (m<=60)
 ·exact(cJ g)<|zo [.tmp 2]
 exact(Mk g)<|(zK hw)<|(zR)<|zo [.tmp 2]
def uW(x:ai):List ai->List ai
 | []=>[x]
 | y::l=>if fe y.name x.name=true then y::uW x l else if y.name=x.name then x::l else x::y::l
def nA(x:ai):∀l:List ai,cg l x=uW x l
 | []=>by simp[cg,nw,gn,uW]
 | y::l=>by
  have ih:=nA x l;unfold cg nw at ih ⊢;rw[uW,e5];split
  ·rename_i h
   have e:gn (y::l) x.name (f7 (y::dy (λp=>fe p.name x.name) l))=gn l x.name (dy (λp=>fe p.name x.name) l).length:=by
    unfold gn;rw[jp,ci]
   rw[e,jp,fv,e6,e4,cons_append];split at ih<;>rename_i hf
   ·rw[ut hf,ih]
   ·rw[v6 hf,ih]
  ·rename_i h;rw[i7];unfold gn;simp only[dt,set_cons_zero,take_zero,drop_zero,nil_append,wp]
section
variable (A:List Nat->Bool)
variable {A}
def JP{x:ai}:∀{l:List ai},eu (l.map ai.name)=true->eu ((uW x l).map ai.name)=true/\∀p∈uW x l,p=x\/p∈l
 | [],_=>⟨rfl,λp hp=>by rw[uW,fm] at hp;exact .inl hp⟩
 | y::l,ho=>by
  obtain⟨i1,i2⟩:=JP (x:=x) (l:=l) (iA ho);have hlt:=nv (a:=y.name) (l:=l.map ai.name) ho
  have cons:∀{a:ai} {r:List ai},(∀p∈r,fe a.name p.name=true)->eu (r.map ai.name)=true->eu ((a::r).map ai.name)=true:=by
   intro a r h1 h2
   cases r with
   | nil=>rfl
   | cons b r=>
    rw[b8,b8,eu,ac];exact⟨h1 b al,by rw[b8] at h2;exact h2⟩
  rw[uW];split
  ·rename_i h;refine⟨cons (λp hp=>?_) i1,λp hp=>?_⟩
   ·rcases i2 p hp with rfl | hp
    ·exact h
    ·exact hlt _ (am hp)
   ·rcases t7 hp with rfl | hp
    ·exact .inr al
    ·exact(i2 p hp).imp id (aj _)
  ·rename_i h;split
   ·rename_i e;refine⟨cons (λp hp=>by rw[<-e];exact hlt _ (am hp)) (iA ho),λp hp=>?_⟩
    rcases t7 hp with rfl | hp
    ·exact .inl rfl
    ·exact .inr (aj _ hp)
   ·rename_i e
    have hxy:fe x.name y.name=true:=by
     rcases jK x.name y.name with k | k | k
     ·exact k
     ·exact un k.symm e
     ·exact un k h
    refine⟨cons (λp hp=>?_) ho,λp hp=>?_⟩
    ·rcases t7 hp with rfl | hp
     ·exact hxy
     ·exact fp hxy (hlt _ (am hp))
    ·rcases t7 hp with rfl | hp
     ·exact .inl rfl
     ·exact .inr hp
def Jq(name:List Nat):∀(l:List ai) (i:Nat) (m:List (List Nat×Int)),(dx name (mX i m l)=(dx name m||(bD l name).isSome))/\(dx name m=true->getM 0 name (mX i m l)=getM 0 name m)/\
 (dx name m=false->(bD l name).isSome=true->∃k,getM 0 name (mX i m l)=((i+k:Nat):Int)/\l[k]?=bD l name)
 | [],i,m=>⟨by rw[mX];simp[bD],λ_=>rfl,λ_ h=>by simp[bD] at h⟩
 | p::l,i,m=>by
  obtain⟨a1,a2,a3⟩:=Jq name l (i+1) (if dx p.name m=true then m else cq p.name i m)
  have hf:bD (p::l) name=if p.name=name then some p else bD l name:=by
   unfold bD;rw[b9];by_cases e:p.name=name
   ·rw[ut e,wl e]
   ·rw[v6 e,wd e]
  have hh:dx name (if dx p.name m=true then m else cq p.name (i:Int) m)=(dx name m||decide (p.name=name)):=by
   split
   ·rename_i h;by_cases e:p.name=name
    ·rw[<-e,h];simp
    ·simp[e]
   ·rw[qo,Bool.or_comm]
    congr 1
    by_cases e:p.name=name
    ·rw[wl e,wl e.symm]
    ·rw[wd e,wd λh=>e h.symm]
  rw[mX];refine⟨?_,λh=>?_,λh h2=>?_⟩
  ·rw[a1,hh,hf];by_cases e:p.name=name
   ·simp[e]
   ·simp[e]
  ·rw[a2 (by rw[hh,h];rfl)];split
   ·rfl
   ·rename_i hp;rw[kO,v6];intro e;rw[<-e,h] at hp;exact hp rfl
  ·by_cases e:p.name=name
   ·refine⟨0,?_,?_⟩
    ·rw[a2 (by rw[hh,wl e,Bool.or_true]),e,h,v6 bt,kO,ut rfl];rfl
    ·rw[hf,ut e];rfl
   ·rw[hf,v6 e] at h2 ⊢;obtain⟨k,k1,k2⟩:=a3 (by rw[hh,h,wd e];rfl) h2;exact⟨k+1,by rw[k1];congr 1;omega,by rw[ci];exact k2⟩
def ot(ps:List ai)(name:List Nat):pn ps (mX 0 [] ps) name=bD ps name:=by
 obtain⟨a1,_,a3⟩:=Jq name ps 0 [];unfold pn;rw[a1];cases h:(bD ps name).isSome
 ·rw[show(dx name ([]:List (List Nat×Int))||false)=false from rfl,v6 bt]
  cases hf:bD ps name with
  | none=>rfl
  | some x=>rw[hf] at h;cases h
 ·obtain⟨k,k1,k2⟩:=a3 rfl h;rw[show(dx name ([]:List (List Nat×Int))||true)=true from rfl,ut rfl,k1,gd,fd,k2]
end
def G8(q:(Int×Int)×Int):SV:=.cm [.ag [ab q.1.1,ab q.1.2],ab q.2]
abbrev wV(p:ai)(cur:List Nat)(day:Int):Fm:=[(1,ah cur),(2,ab day),(3,.ip (ae p)),(6,.ptr 1 0),(7,ab 0)]
def GX(p:ai)(day:Int):PC aa 136 [.ag (ae p),ah [107,109],ab day] (·=G8 (dh p [107,109] day)):=by
 have hq:dh p [107,109] day=if day<0\/40000<day then (((0,0):Int×Int),(13:Int)) else ((p.l1,p.l2),0):=rfl
 refine pB 32 c5 ?_;refine(aw @ae.eq_1) ?_;refine zZ (wV p [107,109] day) 0 rfl (gu @ae.eq_1) ?_
 (try change aE _ _ _ _ _)
 have hg:getM (uc (.eb)) [107,109] mZ=.fn 276 [] []:=rfl;have hh:dx [107,109] mZ=true:=rfl
 refine(zC)<|(zK kC (hfl:=.inr (bg.refl rfl))) ?_;refine aT.r0 i4 (by simp only[dJ,cj,an,aJ,m8,m7,↓reduceIte,ay,bc,bi,ba,bh,ar,az,bT,kD (l:=mZ) [107,109],hg,hh];first | done | rfl) ?_;refine(zB)<|(Ec) ?_
 cases d1:decide (day<0);rotate_left
 ·exact(aw d1)<|(cF)<|jW [.cell 6 52,.tmp 7] (hq:=by rw[hq,ut (.inl (ww d1))];rfl)
 cases d2:decide (40000<day);rotate_left
 ·exact(aw (bq d1 d2))<|(cF)<|jW [.cell 6 52,.tmp 7] (hq:=by rw[hq,ut (.inr (ww d2))];rfl)
 have h1:0<=day:=by have:=wt d1;omega
 have h2:day<=40000:=by have:=wt d2;omega
 exact(aw (bq d1 d2))<|(zN)<|(fb (bq @ae.eq_1 @Cv.eq_1))<|(zK (OT p day))<|(zR)<|jW [.cell 6 52,.tmp 7] (hq:=by rw[hq,v6 i5];rfl)
def GY(p:ai)(day:Int):PC aa 136 [.ag (ae p),ah [99,121,99,108,101,115],ab day] (·=G8 (dh p [99,121,99,108,101,115] day)):=by
 have hq:dh p [99,121,99,108,101,115] day=if day<0\/40000<day then (((0,0):Int×Int),(13:Int)) else ((p.l3,p.l4),0):=rfl
 refine pB 32 c5 ?_;refine(aw @ae.eq_1) ?_;refine zZ (wV p [99,121,99,108,101,115] day) 0 rfl (gu @ae.eq_1) ?_
 (try change aE _ _ _ _ _)
 have hg:getM (uc (.eb)) [99,121,99,108,101,115] mZ=.fn 277 [] []:=rfl;have hh:dx [99,121,99,108,101,115] mZ=true:=rfl
 refine(zC)<|(zK kC (hfl:=.inr (bg.refl rfl))) ?_;refine aT.r0 i4 (by simp only[dJ,cj,an,aJ,m8,m7,↓reduceIte,ay,bc,bi,ba,bh,ar,az,bT,kD (l:=mZ) [99,121,99,108,101,115],hg,hh];first | done | rfl) ?_;refine(zB)<|(Ec) ?_
 cases d1:decide (day<0);rotate_left
 ·exact(aw d1)<|(cF)<|jW [.cell 6 52,.tmp 7] (hq:=by rw[hq,ut (.inl (ww d1))];rfl)
 cases d2:decide (40000<day);rotate_left
 ·exact(aw (bq d1 d2))<|(cF)<|jW [.cell 6 52,.tmp 7] (hq:=by rw[hq,ut (.inr (ww d2))];rfl)
 have h1:0<=day:=by have:=wt d1;omega
 have h2:day<=40000:=by have:=wt d2;omega
 exact(aw (bq d1 d2))<|(zN)<|(fb (bq @ae.eq_1 @Cv.eq_1))<|(zK (OP p day))<|(zR)<|jW [.cell 6 52,.tmp 7] (hq:=by rw[hq,v6 i5];rfl)
def GZ(p:ai)(day:Int):PC aa 136 [.ag (ae p),ah [100,97,109,97,103,101],ab day] (·=G8 (dh p [100,97,109,97,103,101] day)):=by
 have hq:dh p [100,97,109,97,103,101] day=if day<0\/40000<day then (((0,0):Int×Int),(13:Int)) else ((p.l5,p.l6),0):=rfl
 refine pB 32 c5 ?_;refine(aw @ae.eq_1) ?_;refine zZ (wV p [100,97,109,97,103,101] day) 0 rfl (gu @ae.eq_1) ?_
 (try change aE _ _ _ _ _)
 have hg:getM (uc (.eb)) [100,97,109,97,103,101] mZ=.fn 278 [] []:=rfl;have hh:dx [100,97,109,97,103,101] mZ=true:=rfl
 refine(zC)<|(zK kC (hfl:=.inr (bg.refl rfl))) ?_;refine aT.r0 i4 (by simp only[dJ,cj,an,aJ,m8,m7,↓reduceIte,ay,bc,bi,ba,bh,ar,az,bT,kD (l:=mZ) [100,97,109,97,103,101],hg,hh];first | done | rfl) ?_;refine(zB)<|(Ec) ?_
 cases d1:decide (day<0);rotate_left
 ·exact(aw d1)<|(cF)<|jW [.cell 6 52,.tmp 7] (hq:=by rw[hq,ut (.inl (ww d1))];rfl)
 cases d2:decide (40000<day);rotate_left
 ·exact(aw (bq d1 d2))<|(cF)<|jW [.cell 6 52,.tmp 7] (hq:=by rw[hq,ut (.inr (ww d2))];rfl)
 have h1:0<=day:=by have:=wt d1;omega
 have h2:day<=40000:=by have:=wt d2;omega
 exact(aw (bq d1 d2))<|(zN)<|(fb (bq @ae.eq_1 @Cv.eq_1))<|(zK (OQ p day))<|(zR)<|jW [.cell 6 52,.tmp 7] (hq:=by rw[hq,v6 i5];rfl)
def G0(p:ai)(day:Int):PC aa 136 [.ag (ae p),ah [100,97,121,115],ab day] (·=G8 (dh p [100,97,121,115] day)):=by
 have hq:dh p [100,97,121,115] day=if day<0\/40000<day then (((0,0):Int×Int),(13:Int)) else ((gr day p.since,gr day p.since),0):=rfl
 refine pB 32 c5 ?_;refine(aw @ae.eq_1) ?_;refine zZ (wV p [100,97,121,115] day) 0 rfl (gu @ae.eq_1) ?_
 (try change aE _ _ _ _ _)
 have hg:getM (uc (.eb)) [100,97,121,115] mZ=.fn 279 [] [Cv]:=rfl;have hh:dx [100,97,121,115] mZ=true:=rfl
 refine(zC)<|(zK kC (hfl:=.inr (bg.refl rfl))) ?_;refine aT.r0 i4 (by simp only[dJ,cj,an,aJ,m8,m7,↓reduceIte,ay,bc,bi,ba,bh,ar,az,bT,kD (l:=mZ) [100,97,121,115],hg,hh];first | done | rfl) ?_;refine(zB)<|(Ec) ?_
 cases d1:decide (day<0);rotate_left
 ·exact(aw d1)<|(cF)<|jW [.cell 6 52,.tmp 7] (hq:=by rw[hq,ut (.inl (ww d1))];rfl)
 cases d2:decide (40000<day);rotate_left
 ·exact(aw (bq d1 d2))<|(cF)<|jW [.cell 6 52,.tmp 7] (hq:=by rw[hq,ut (.inr (ww d2))];rfl)
 have h1:0<=day:=by have:=wt d1;omega
 have h2:day<=40000:=by have:=wt d2;omega
 exact(aw (bq d1 d2))<|(zN)<|(fb (bq @ae.eq_1 @Cv.eq_1))<|(zK (IA p day ⟨h1,h2⟩))<|(zR)<|jW [.cell 6 52,.tmp 7] (hq:=by rw[hq,v6 i5];rfl)
def G1(p:ai)(day:Int):PC aa 136 [.ag (ae p),ah [97,103,101],ab day] (·=G8 (dh p [97,103,101] day)):=by
 have hq:dh p [97,103,101] day=if day<0\/40000<day then (((0,0):Int×Int),(13:Int)) else ((gr day p.made,gr day p.made),0):=rfl
 refine pB 32 c5 ?_;refine(aw @ae.eq_1) ?_;refine zZ (wV p [97,103,101] day) 0 rfl (gu @ae.eq_1) ?_
 (try change aE _ _ _ _ _)
 have hg:getM (uc (.eb)) [97,103,101] mZ=.fn 280 [] [Cv]:=rfl;have hh:dx [97,103,101] mZ=true:=rfl
 refine(zC)<|(zK kC (hfl:=.inr (bg.refl rfl))) ?_;refine aT.r0 i4 (by simp only[dJ,cj,an,aJ,m8,m7,↓reduceIte,ay,bc,bi,ba,bh,ar,az,bT,kD (l:=mZ) [97,103,101],hg,hh];first | done | rfl) ?_;refine(zB)<|(Ec) ?_
 cases d1:decide (day<0);rotate_left
 ·exact(aw d1)<|(cF)<|jW [.cell 6 52,.tmp 7] (hq:=by rw[hq,ut (.inl (ww d1))];rfl)
 cases d2:decide (40000<day);rotate_left
 ·exact(aw (bq d1 d2))<|(cF)<|jW [.cell 6 52,.tmp 7] (hq:=by rw[hq,ut (.inr (ww d2))];rfl)
 have h1:0<=day:=by have:=wt d1;omega
 have h2:day<=40000:=by have:=wt d2;omega
 exact(aw (bq d1 d2))<|(zN)<|(fb (bq @ae.eq_1 @Cv.eq_1))<|(zK (LS p day ⟨h1,h2⟩))<|(zR)<|jW [.cell 6 52,.tmp 7] (hq:=by rw[hq,v6 i5];rfl)
def wm(p:ai)(cur:List Nat)(day:Int):PC aa 136 [.ag (ae p),ah cur,ab day] (·=G8 (dh p cur day)):=by
 by_cases c0:cur=[107,109]
 ·subst c0;exact GX p day
 by_cases c1:cur=[99,121,99,108,101,115]
 ·subst c1;exact GY p day
 by_cases c2:cur=[100,97,109,97,103,101]
 ·subst c2;exact GZ p day
 by_cases c3:cur=[100,97,121,115]
 ·subst c3;exact G0 p day
 by_cases c4:cur=[97,103,101]
 ·subst c4;exact G1 p day
 have hq:dh p cur day=((0,0),15):=by
  unfold dh;simp only[c0,c1,c2,c3,c4,if_false]
 refine pB 32 c5 ?_;refine(aw @ae.eq_1) ?_;refine zZ (wV p cur day) 0 rfl (gu @ae.eq_1) ?_
 (try change aE _ _ _ _ _)
 have hk:mZ.map (·.1)=[[107,109],[99,121,99,108,101,115],[100,97,109,97,103,101],[100,97,121,115],[97,103,101]]:=rfl
 have hh:dx cur mZ=false:=by
  cases h:dx cur mZ
  ·rfl
  ·rw[kQ,hk] at h;simp[c0,c1,c2,c3,c4] at h
 have hg:getM (uc (.eb)) cur mZ=uc (.eb):=yq hh
 refine(zC)<|(zK kC (hfl:=.inr (bg.refl rfl))) ?_;refine aT.r0 i4 (by simp only[dJ,cj,an,aJ,m8,m7,↓reduceIte,ay,bc,bi,ba,bh,ar,az,bT,kD (l:=mZ) cur,hg,hh];first | done | rfl) ?_;exact(zB)<|(wY)<|(zV)<|jW [.cell 6 52,.tmp 7] (hq:=by rw[hq];rfl)
def Nw{ps:List ai}:RD ps (mX 0 [] ps):=Co gt (Eb ps)
def D0(ps:List ai)(part:List Nat)(hlen:ps.length<=1000000):PC aa 58 [.ag [an 14 ps ae],ah part] (·=ah (Kr ps part)):=by
 refine pB 30 Tryz.func58 ?_;have hof:=rz ps hlen;unfold Ce at hof
 refine(zV) ?_;refine zZ [(1,ah part),(2,.ip [an 14 ps ae])] 0 rfl (gu @an.eq_1)<|zA [(1,ah part),(2,.ip [an 14 ps ae])] [] zH<|(zC)<|(zK hof (hfl:=.inr (bg.refl rfl)))<|(zR) ?_;refine zZ [(1,ah part),(2,.ip [an 14 ps ae]),(5,.ip [an 14 ps ae,lS AV.str ab (mX 0 [] ps)])] 0 rfl (gu @an.eq_1)<|zA [(1,ah part),(2,.ip [an 14 ps ae]),(5,.ip [an 14 ps ae,lS AV.str ab (mX 0 [] ps)])] [] zH<|(zV)<|(zs) ?_;refine Hf ps (λk (pt:List Nat)=>Kr ps part=qC ps (ps.length-k) pt) (λk pt=>[(1,ah pt),(2,.ip [an 14 ps ae]),(5,.ip [an 14 ps ae,lS AV.str ab (mX 0 [] ps)]),(12,ab ps.length),(13,ab k)]) (λk pt=>[]) (part) zH i4 ?_;intro k pt hk hall;refine zT ps k ?_ ?_;rintro rfl;rotate_left;intro x hx hlt;rotate_left
 ·exact(gh)<|(zV)<|zo [.tmp 4] (hq:=by rw[hall,co];rfl)
 have hget:=mU ps (mX 0 [] ps) pt Nw;rw[ot] at hget
 have hstep:qC ps (ps.length-k) pt=match bD ps pt with
  | none=>[]
  | some p=>if p.aR=[] then pt else qC ps (ps.length-(k+1)) p.aR:=by
  rw[show ps.length-k=ps.length-(k+1)+1 by omega];rfl
 refine(gB)<|(zC) ?_;refine aT.k i4 rfl rfl i4 rfl zc (hget) (zw) (.inr (bg.refl (by cases bD ps pt<;>rfl))) ?_
 cases hf:bD ps pt with
 | none=>
  rw[hf] at hstep
  exact(cJ (cG @iV.eq_1 @ae.eq_1 @ai.zero.eq_1))<|(wY)<|(zV)<|zo [.tmp 4] (hq:=by rw[hall,hstep])
 | some p=>
  rw[hf] at hstep
  refine(cJ (bq @iV.eq_1 @ae.eq_1))<|(Ec) ?_
  cases hi:decide (p.aR=[])
  ·rw[show(match some p with | none=>[] | some p=>if p.aR=[] then pt else qC ps (ps.length-(k+1)) p.aR)=qC ps (ps.length-(k+1)) p.aR from v6 (wt hi)] at hstep
   refine(aw hi)<|(kY)<|(aw (zi hlt hlen)) ?_;refine wq hlt (p.aR) zH (by rw[hall,hstep])
  ·rw[show(match some p with | none=>[] | some p=>if p.aR=[] then pt else qC ps (ps.length-(k+1)) p.aR)=pt from ut (ww hi)] at hstep
   exact(aw hi)<|(cF)<|zo [.tmp 4] (hq:=by rw[hall,hstep])
def lE(d:List Nat->Bool)(l:List (List Nat)):List (List Nat):=l.filter λx=>!d x
def BD{d:List Nat->Bool}{l:List (List Nat)}(h:∀x∈l,d x=false):lE d l=l:=by
 unfold lE;rw[List.filter_eq_self];intro x hx;rw[h x hx];rfl
def yC{d:List Nat->Bool}{l:List (List Nat)}{j:Nat}{x:List Nat}(h:l[j]?=some x):lE d (l.take (j+1))=lE d (l.take j)++(if d x=true then [] else [x]):=by
 unfold lE;rw[cD h,List.filter_append];cases hd:d x<;>simp[hd]
def zx(l:List (List Nat)):(l.flatMap (aB ah)).length=l.length:=Qq l
def Kc:∀n,(rep [AV.str []] n).map SV.a=(dv n ([]:List Nat)).flatMap (aB ah)
 | 0=>rfl
 | n+1=>by rw[rep,f5,Kc n,List.replicate_succ,flatMap_cons];rfl
def BW:∀n,(rep [AV.str []] n).all jS=true
 | 0=>rfl
 | n+1=>by rw[rep,d9,BW n];rfl
def N2(l:List (List Nat))(i:Nat):(l.flatMap (aB ah)).take i=(l.take i).flatMap (aB ah):=by
 rw[rm,rm,List.map_take]
def Gn(g:FuncId)(caps:List SV)(hg:bW caps=true)(d:List Nat->Bool)(hp:∀x,PC aa g ([ah x]++caps) (·=ak (d x)))(l:List (List Nat))(hlen:l.length<=100000):
 SC aa 224 [.buf 0 l.length 1 none,.fn g [] caps] [.cells (l.flatMap (aB ah))] [] (λr S'=>r=.buf 0 (lE d l).length 1 none/\S'=[.cells ((lE d l++dv (l.length-(lE d l).length) []).flatMap (aB ah))]):=by
 have hidx:=qH (l:=l) d (fid:=g) (first:=[]) (cap:=caps) i5 (λx hx=>hp x) ⟨rfl,hg⟩;have hkc:∀(o:Nat) (l:List (List Nat)),(l.flatMap (aB ah)).map (aY o)=l.flatMap (aB ah):=λo l=>bC (enc:=aB ah) (λ_=>rfl) o l;have hk2:∀o:Nat,caps.map (aY o)=caps:=λo=>bR hg;have hn2:∀o:Nat,e8 o caps=false:=λo=>bV hg
 refine OH 42 func224 ?_;refine(aw (bq hk2 hn2))<|(fb (bq hk2 hn2))<|(zK hidx (hwk:=.cons (.buf rfl (by rw[ej (enc:=aB ah) (e:=1) (λ_=>rfl)];exact bg.refl (aA (λ_=>rfl) l)) (by rw[aZ (enc:=aB ah) (e:=1) (λ_=>rfl)];exact be _)) (.cons (.fn .nil (bg.refl hg)) .nil)))<|(cJ (bq hk2 hn2)) ?_
 by_cases hno:fR d l = -1
 ·have hall:=Bx hno;rw[hno]
  refine(wY)<|(zV)<|(zE) ?_;exact zP [.tmp 4] (hq:=by (try simp only[ew,bH]);first | done | (rw[BD hall,co,List.replicate_zero,bO];first | exact⟨rfl,rfl⟩ | exact⟨trivial,rfl⟩ | exact⟨rfl,trivial⟩ | exact⟨trivial,trivial⟩))
 obtain⟨k,x0,hk,hx0,hd0,hbef⟩:=Bw hno;rw[hk];have hkl:k<l.length:=br hx0
 refine(aw (show decide ((k:Int) = -1)=false by simp only[wn];omega))<|(zN)<|(aw (Ee (show -9223372036854775808<=(k:Int)+1/\(k:Int)+1<=9223372036854775807 from⟨by omega,by omega⟩))) ?_
 have hst:lE d (l.take (k+1))=l.take k:=by
  rw[yC hx0,ut hd0,bO];refine BD λx hx=>?_;obtain⟨i,hi⟩:=mem_iff_getElem?.1 hx
  have hik:i<k:=by
   have:=br hi;rw[bd] at this;omega
  rw[dl,ut hik] at hi;exact hbef i x hik hi
 (repeat refine aE.seq ?_)
 refine aE.block (aE.loop (λm st=>∃(j i:Nat) (q:List (List Nat)),(i<j/\j<=l.length/\q.length=l.length)/\(q.take i=lE d (l.take j)/\q.drop j=l.drop j)/\l.length-j=m/\st=⟨[(0,.buf 0 l.length 1 none),(1,.fn g [] caps),(5,qy i),(6,qy j),(1000000,.ptr 0 0)],42,[.cells (q.flatMap (aB ah))],[]⟩) (l.length-(k+1)) (bX @fH) ⟨k+1,k,l,⟨bw _,hkl,rfl⟩,⟨hst.symm,rfl⟩,rfl,rfl⟩ (by rintro m st ⟨j,i,q,_,_,_,rfl⟩;rfl) ?_);rintro m st ⟨j,i,q,⟨hij,hjl,hql⟩,⟨htk,hdr⟩,rfl,rfl⟩
 have hcl:(q.flatMap (aB ah)).length=l.length:=by rw[zx,hql]
 refine(zV) ?_;by_cases hlt:j<l.length;rotate_left
 ·rw[show decide ((j:Int)<(l.length:Int))=false by simp only[wn];omega]
  obtain rfl:j=l.length:=by omega
  rw[b0] at htk;refine(gh) ?_
  have hkl2:(lE d l).length=i:=by rw[<-htk,bd];omega
  have hrest:(q.flatMap (aB ah)).take i++((rep [AV.str []] (l.length-i)).map SV.a++(q.flatMap (aB ah)).drop (i+(l.length-i)))=(lE d l++dv (l.length-(lE d l).length) []).flatMap (aB ah):=by
   rw[hkl2,Kc,N2,htk,bb (by rw[hcl];omega),bO,cb]
  refine(aw (EG (Ps (show i<=l.length by omega)) (show ¬(l.length-i=0) by omega) @cv (show i+(l.length-i)<=l.length by omega) hcl @BW hrest))<|(aw (bq (T5 (show i<=l.length by omega)) @Nat.sub_zero))<|(zE) ?_;exact zP [.tmp 4] (hq:=by (try simp only[ew,bH]);first | done | (rw[hkl2];first | exact⟨rfl,rfl⟩ | exact⟨trivial,rfl⟩ | exact⟨rfl,trivial⟩ | exact⟨trivial,trivial⟩))
 rw[show decide ((j:Int)<(l.length:Int))=true by simp only[wp];omega];obtain⟨x,hx⟩:∃x,l[j]?=some x:=⟨l[j],li hlt⟩
 have hqx:q[j]?=some x:=by
  have:(q.drop j)[0]?=(l.drop j)[0]?:=by rw[hdr]
  rw[dd,dd,bs] at this;rw[this,hx]
 have hdr2:q.drop (j+1)=l.drop (j+1):=by
  have:=rg (List.drop 1) hdr;rw[f6,f6] at this;exact this
 have hsn:=yC (d:=d) hx;have ax:=Se (c:=ah) hqx;have hpx:=hp x
 refine(gB)<|(aw (xX hlt hcl @cv (show j+1<=l.length by omega) ax hkc))<|(zC)<|(zK hpx (hwk:=.cons (.a _) (bg.refl hg))) ?_
 cases hd:d x
 ·have hil:i<q.length:=by omega
  have s1:=N3 (c:=ah) (l:=q) (i:=i) x hil;rw[hd,v6 ii] at hsn
  refine(zR)<|(zY)<|(aw (lM (show i<l.length by omega) hcl @cv (show i+1<=l.length by omega) s1))<|(aw (Ee (show -9223372036854775808<=(i:Int)+1/\(i:Int)+1<=9223372036854775807 from⟨by omega,by omega⟩)))<|(aw (Ee (show -9223372036854775808<=(j:Int)+1/\(j:Int)+1<=9223372036854775807 from⟨by omega,by omega⟩))) ?_;refine⟨l.length-(j+1),_,by omega,(bX @fH),j+1,i+1,q.set i x,⟨by omega,by omega,by rw[el,hql]⟩,⟨?_,?_⟩,rfl,rfl⟩
  ·rw[hsn,<-htk,cc,ut hil,f0,bd,ct i5,List.take_take,Nat.min_eq_right i5,show i+1-i=1 by omega];rfl
  ·rw[List.drop_set,ut i5];exact hdr2
 ·rw[hd,ut rfl,bO] at hsn
  refine(zR)<|(zN)<|(aw (Ee (show -9223372036854775808<=(j:Int)+1/\(j:Int)+1<=9223372036854775807 from⟨by omega,by omega⟩))) ?_;exact⟨l.length-(j+1),_,by omega,(bX @fH),j+1,i,q,⟨by omega,by omega,hql⟩,⟨by rw[hsn,htk],hdr2⟩,rfl,rfl⟩
abbrev AF(e:aW):SV:=.ip [ab e.op,ah e.name,ah e.value,ab e.n,ab e.extra,.sl e.kids.length 6 (e.kids.flatMap aX)]
def Ah(ps:List ai)(day:Int)(name kind:List Nat)(hlen:ps.length<=1000000):PC aa 225 [ah name,.ip [an 14 ps ae,ab day],.ip [ah kind]] (·=ak (!(decide ((dq ps name).kind=kind)))):=by
 have hf:=gb ps name hlen;refine pB 18 Tryz.func225 ?_
 have ho:∃b,iV ae ai.zero (bD ps name)=.cm [.ag (ae (dq ps name)),ak b]:=by
  unfold dq
  cases bD ps name with
  | none=>exact⟨false,rfl⟩
  | some p=>exact⟨true,rfl⟩
 obtain⟨b,ho⟩:=ho;rw[ho] at hf;generalize dq ps name=p at hf
 exact(jt)<|(zK hf (hfl:=.inr (bg.refl rfl)))<|(cJ @ae.eq_1)<|(zV)<|zo [.tmp 4]
def LW(x:bB)(e:aW):PC aa 141 [.ag (aH x),AF e] (·=ak (decide (x.key=e.name))):=by
 refine pB 9 Tryz.func141 ?_;exact(aw @aH.eq_1)<|(zV)<|zo [.tmp 3]
def II(q:ai)(part:List Nat)(e:aW):PC aa 142 [.ag (ae q),.ip [ah part],AF e] (·=ak (decide (q.aR=part)&&(decide (q.slot=e.name)&&decide (q.kind=e.value)))):=by
 refine pB 23 Tryz.func142 ?_;refine(aw @ae.eq_1) ?_;cases g1:decide (q.aR=part)
 ·exact(aw g1)<|zo [.tmp 4]
 cases g2:decide (q.slot=e.name)
 ·exact(aw (bq g1 g2))<|zo [.tmp 4]
 ·exact(aw (bq g1 g2))<|zo [.tmp 4]
def DI{l:List (bB)}(p:bB->Bool){fid:FuncId}{first cap:List SV}(hlen:l.length<=1000000)(hp:∀x∈l,PC aa fid ((first++[.ag (aH x)])++cap) (·=ak (p x)))(hg:bW first=true/\bW cap=true):PC aa 223 [an 2 l aH,.fn fid first cap] (·=ab (fR p l)):=by
 refine pB 19 Tryz.func223 ?_;refine(aw @an.eq_1)<|(zV)<|(zs) ?_;refine zL l (λk=>∀(i:Nat) y,i<k->l[i]?=some y->p y=false) (λk=>[(0,.sl l.length 2 (l.flatMap aH)),(1,.fn fid first cap),(7,ab l.length),(8,ab k)]) (λk=>[]) zH zp ?_;intro k hk hall;refine zT l k ?_ ?_;rintro rfl;rotate_left;intro x hx hlt;rotate_left
 ·exact(gh)<|(zV)<|zo [.tmp 4] (hq:=by rw[ig hall])
 ·refine(gB)<|(zV)<|(fb (cG hlt (aQ (e:=2) (enc:=aH) (λ_=>rfl) hx) @aH.eq_1))<|(zK (hp x (mem_iff_getElem?.2 ⟨k,hx⟩)) (hwk:=((bg.refl hg.1).app (bg.refl rfl)).app (bg.refl hg.2))) ?_;refine aT.nil ?_
  change aE _ _ _ _ _;cases hpx:p x
  ·refine(zN)<|(aw (zi hlt hlen)) ?_;refine zX hlt zH ?_
   intro i y hi hy;by_cases hik:i=k
   ·subst hik;rw[hx] at hy;cases hy;exact hpx
   ·exact hall i y i5 hy
  ·exact(cF)<|zo [.tmp 4] (hq:=by rw[lR hx hpx hall])
def Dw{l:List (bB)}(p:bB->Bool){fid:FuncId}{first cap:List SV}(hlen:l.length<=1000000)(hp:∀x∈l,PC aa fid ((first++[.ag (aH x)])++cap) (·=ak (p x)))(hg:bW first=true/\bW cap=true):PC aa 140 [an 2 l aH,.fn fid first cap] (·=ak (l.any p)):=by
 refine pB 9 Tryz.func140 ?_;exact(jt)<|(zK (DI p hlen hp hg) (hwk:=.cons (Wk.sl _ _ _) (.cons (.fn (bg.refl hg.1) (bg.refl hg.2)) .nil)))<|(zR)<|zo [.tmp 4] (hq:=by rw[nq])
def QD(a b:bB):fN eC [AV.str a.key,.str a.value] [AV.str b.key,.str b.value]=(decide (a.key=b.key)&&decide (a.value=b.value)):=by
 simp[fN,eC,xh]
def Gs(a b:bB):da aa .eql 198 (.agg [.str a.key,.str a.value]) (.agg [.str b.key,.str b.value])=some (.bool (decide (a.key=b.key)&&decide (a.value=b.value))):=
 sN (ks:=[.s,.s]) zW zW (by simp only[aJ,m7]) rfl rfl (QD a b)
def Ad(l:List bB)(s:bB)(hlen:l.length<=1000000):PC aa 222 [an 2 l aH,.ag (aH s)] (·=ab (fR (λx=>decide (s.key=x.key)&&decide (s.value=x.value)) l)):=by
 refine pB 19 Tryz.func222 ?_;refine(aw @aH.eq_1) ?_;refine zZ [(0,an 2 l aH),(3,.ip (aH s))] 0 rfl (gu (bq @an.eq_1 @aH.eq_1))<|zA [(0,an 2 l aH),(3,.ip (aH s))] [] zH<|(zV)<|(zs) ?_;refine zL l (λk=>∀(i:Nat) y,i<k->l[i]?=some y->(decide (s.key=y.key)&&decide (s.value=y.value))=false) (λk=>[(0,an 2 l aH),(3,.ip (aH s)),(7,ab l.length),(8,ab k)]) (λk=>[]) zH zp ?_;intro k hk hall;refine zT l k ?_ ?_;rintro rfl;rotate_left;intro x hx hlt;rotate_left
 ·exact(gh)<|(zV)<|zo [.tmp 4] (hq:=by rw[ig hall])
 ·have heq:=Gs s x
  refine(gB)<|(zV)<|(zs) ?_;refine oS [0,0,0,6,14,31] ?_;refine(QZ (gm hlt (aQ (e:=2) (enc:=aH) (λ_=>rfl) hx) @aH.eq_1 heq))<|(zM) ?_
  cases hpx:(decide (s.key=x.key)&&decide (s.value=x.value))
  ·refine(zN)<|(aw (zi hlt hlen)) ?_;refine zX hlt zH ?_
   intro i y hi hy;by_cases hik:i=k
   ·subst hik;rw[hx] at hy;cases hy;exact hpx
   ·exact hall i y i5 hy
  ·exact(cF)<|zo [.tmp 4] (hq:=by rw[lR (p:=λx=>decide (s.key=x.key)&&decide (s.value=x.value)) hx hpx hall])
def uf(l:List bB)(s:bB)(hlen:l.length<=1000000):PC aa 139 [an 2 l aH,.ag (aH s)] (·=ak (l.any λx=>decide (x.key=s.key)&&decide (x.value=s.value))):=by
 have he:(l.any λx=>decide (x.key=s.key)&&decide (x.value=s.value))=l.any λx=>decide (s.key=x.key)&&decide (s.value=x.value):=by
  congr 1;funext x;simp only[eq_comm]
 rw[he];have hi:=Ad l s hlen;refine pB 9 Tryz.func139 ?_;rw[show aH s=[ah s.key,ah s.value] from rfl] at hi ⊢
 exact(jt)<|(zK hi)<|(zR)<|zo [.tmp 4] (hq:=by rw[nq])
def Dz(g:FuncId)(caps:List SV)(hg:bW caps=true)(d:List Nat->Bool)(hp:∀x,PC aa g ([ah x]++caps) (·=ak (d x))):PC aa 224 [bG,.fn g [] caps] (·=bG):=by
 have hidx:=qH (l:=[]) d (fid:=g) (first:=[]) (cap:=caps) gt (λx hx=>hp x) ⟨rfl,hg⟩;rw[show fR d [] = -1 from rfl] at hidx
 refine pB 42 func224 ?_;exact(jt)<|(zK hidx (hwk:=.cons (.nil 1) (.cons (.fn .nil (bg.refl hg)) .nil)))<|(zR)<|(wY)<|(zV)<|zo [.tmp 4]
def HT(ps:List ai)(part kind:List Nat):lE (λn=>!(decide ((dq ps n).kind=kind))) (ea ps part)=ij ps part kind:=by
 unfold lE ij;simp only[not_not]
def A0(ps:List ai)(day:Int)(part kind:List Nat)(hlen:ps.length<=100000):PC aa 143 [.ag [an 14 ps ae,ab day],ah part,ah kind] (·=an 1 (ij ps part kind) (aB ah)):=by
 have hin:=nF ps part hlen;have hil:=ke ps part;rw[<-HT];have hd:=λn=>Ah ps day n kind i5;generalize hdd:(λn=>!(decide ((dq ps n).kind=kind)))=d at hd ⊢
 have hd:∀n,PC aa 225 ([ah n]++[.ip [an 14 ps ae,ab day],.ip [ah kind]]) (·=ak (d n)):=by rw[<-hdd];exact λn=>Ah ps day n kind i5
 clear hdd;generalize ea ps part=L at hin hil
 refine pB 13 Tryz.func143 ?_;refine(zV) ?_;refine zZ [(1,ah part),(3,.ip [an 14 ps ae,ab day]),(5,.ptr 1 0)] 0 rfl (gu @an.eq_1)<|zZ [(1,ah part),(3,.ip [an 14 ps ae,ab day]),(5,.ip [ah kind])] 1 rfl (gu @an.eq_1)<|zA [(1,ah part),(3,.ip [an 14 ps ae,ab day]),(5,.ip [ah kind])] [] zH ?_
 by_cases hL:L=[]
 ·subst hL;rw[show bZ 0 1 ([]:List (List Nat)).length=bG from rfl,gl] at hin
  refine(zC) ?_;refine zS [] trivial hin ?_;exact(zQ)<|(zK (Dz 225 [.ip [an 14 ps ae,ab day],.ip [ah kind]] rfl d hd))<|(zR)<|zo [.tmp 6] (r:=.sl 0 1 []) (hw:=Wk.nil _)
 ·have hL0:¬L.length=0:=λh=>hL (t8 h);rw[ef (o:=0) (e:=1) hL0,fw hL] at hin;have hrc:∀(r:Nat->Nat) (l:List (List Nat)),mn r (l.flatMap (aB ah))=l.flatMap (aB ah):=λr l=>bn (aA (λ_=>rfl) l);have hbc:∀(B:Nat) (l:List (List Nat)),hY B (l.flatMap (aB ah))=true:=λB l=>bI (aA (λ_=>rfl) l);have hkc:∀(o:Nat) (l:List (List Nat)),(l.flatMap (aB ah)).map (aY o)=l.flatMap (aB ah):=λo l=>bC (enc:=aB ah) (λ_=>rfl) o l
  refine(zC) ?_;refine zS [] (cG hrc hbc hkc) hin ?_;refine(zQ) ?_;refine zS [0] (cG hrc hbc hkc) (Gn 225 [.ip [an 14 ps ae,ab day],.ip [ah kind]] rfl d hd L i5) ?_;exact(cJ hkc)<|zo [.tmp 6] (r:=an 1 (lE d L) (aB ah)) (hw:=.buf rfl (by rw[cv,cb,List.take_left'];(exact bg.refl (aA (λ_=>rfl) _));rw[zx]) (by rw[zx,md];omega))
def pM(join:FuncId)(j:Int->Int->Int)(hj:∀a b,PC aa join [ab a,ab b] (·=ab (j a b)))(one:FuncId)(caps:List SV)(hg:bW caps=true)(vals:List Int)(hlen:vals.length<=1000000)(h1:∀(i:Nat) x,vals[i]?=some x->PC aa one ([ab i]++caps) (·=ab x))(first:Int):
 PC aa 131 [.fn join [] [],ab first,ab vals.length,.fn one [] caps] (·=ab (vals.foldl j first)):=by
 refine pB 22 Tryz.func131 ?_;refine(oa)<|(zs) ?_;refine Hf vals (λk (acc:Int)=>vals.foldl j first=(vals.drop k).foldl j acc) (λk acc=>[(0,.fn join [] []),(1,ab acc),(3,.fn one [] caps),(10,ab vals.length),(11,ab k)]) (λk acc=>[]) (first) zH i4 ?_;intro k acc hk hall;refine zT vals k ?_ ?_;rintro rfl;rotate_left;intro x hx hlt;rotate_left
 ·refine(gh) ?_;rw[cp] at hall
  exact(zV)<|zo [.tmp 8] (hq:=by rw[hall];rfl)
 rw[eR hx,List.foldl_cons] at hall
 refine(gB)<|(jt)<|(zK (h1 k x hx) (hwk:=.cons (.a _) (bg.refl hg)))<|(zQ)<|(zK (hj acc x))<|(zR)<|(aw (zi hlt hlen)) ?_;refine wq hlt (j acc x) zH hall
abbrev JQ(ps:List ai)(day:Int):SV:=.ip [an 14 ps ae,ab day]
def Ef(ps:List ai)(day:Int)(e:aW)(part:List Nat)(v:Int):Prop:=PC aa 59 [.ag [an 14 ps ae,ab day],.ag (aX e),ah part] (·=ab v)
def vx(ps:List ai)(day:Int)(e:aW)(part:List Nat)(i:Nat)(k:aW)(hk:e.kids[i]?=some k)(v:Int)(ih:Ef ps day k part v):PC aa 132 ([ab i]++[JQ ps day,AF e,.ip [ah part]]) (·=ab v):=by
 have hlt:=br hk;have hxl:((e.kids.flatMap aX).drop (i*6)).take 6=aX k:=aQ jm hk;unfold Ef at ih;rw[cr k] at hxl ih
 refine pB 14 Tryz.func132 ?_;refine(zV)<|(zs) ?_;refine oS [0,0,2,0,14,30,0,127,255] ?_;refine(QZ (bq hlt hxl)) ?_;refine SD.k i4 rfl rfl i4 rfl rfl zc (ih) (zw) rfl ?_;exact(qP)<|(zM)<|zo [.tmp 5]
def Ab(ps:List ai)(day:Int)(e:aW)(names:List (List Nat))(i:Nat)(nm:List Nat)(hi:names[i]?=some nm)(k:aW)(hk:e.kids[0]?=some k)(v:Int)(ih:Ef ps day k nm v):PC aa 144 ([ab i]++[JQ ps day,AF e,.ip [an 1 names (aB ah)]]) (·=ab v):=by
 have hlt:=br hi;have hlk:=br hk
 have hxl:(e.kids.flatMap aX).take 6=aX k:=by have:=aQ jm hk;simpa using this
 have hnl:=aQ (e:=1) (enc:=aB ah) (λ_=>rfl) hi;unfold Ef at ih;rw[cr k] at hxl ih
 refine pB 16 Tryz.func144 ?_;refine(zV)<|(zs) ?_;refine oS [0,0,2,6,14,0,0,96,224,511,1023] ?_;refine(QZ (TM hlt hlk hxl hnl @aB.eq_1 @Nat.zero_mul @drop_zero.{0} (show H5 (.a (.int .i64 0))=some 0 from rfl))) ?_;refine SD.k i4 rfl rfl i4 rfl rfl zc (ih) (zw) rfl ?_;exact(qP)<|(zM)<|zo [.tmp 5]
section
variable {A:List Nat->Bool}
def nt(A:List Nat->Bool):List Nat->Bool:=λn=>!(A n)
end
section
variable {A:List Nat->Bool}
def JO(x:ai):∀l:List ai,(uW x l).length<=l.length+1
 | []=>be _
 | y::l=>by
  have ih:=JO x l;rw[uW];split
  ·simp only[jp];omega
  ·split<;>simp only[jp]<;>omega
def ic{ps:List ai}{n:List Nat}{p:ai}(h:bD ps n=some p):p∈ps/\p.name=n:=by
 unfold bD at h;exact⟨ca h,by simpa using List.find?_some h⟩
end
def iZ(ps:List ai)(day:Int)(e:aW)(part:List Nat):iO ps day e part=
 if e.op=2 then Ls ((Cm ps day e.kids part).headD 0)
 else if e.op=3 then (Cm ps day e.kids part).foldl Cl 2
 else if e.op=4 then (Cm ps day e.kids part).foldl QA 0
 else if e.op=10 then (Pk ps day e.kids (ij ps part e.name)).foldl Cl 2
 else if e.op=11 then (Pk ps day e.kids (ij ps part e.name)).foldl QA 0
 else Rh ps day e.op e.name e.value e.n e.extra part:=by
 obtain⟨op,name,value,n,extra,kids⟩:=e;rw[iO];rfl
def w8(ps:List ai)(day:Int)(part:List Nat):∀l:List aW,Cm ps day l part=l.map λk=>iO ps day k part
 | []=>rfl
 | k::l=>by rw[Cm,w8 ps day part l,b8]
def RF{ps:List ai}{day:Int}{e:aW}{part:List Nat}(h:e.op=1):iO ps day e part=2:=by
 rw[iZ,h];rfl
def RG{ps:List ai}{day:Int}{e k:aW}{part:List Nat}(h:e.op=2)(hk:e.kids[0]?=some k):iO ps day e part=Ls (iO ps day k part):=by
 rw[iZ,h,w8]
 cases hl:e.kids with
 | nil=>rw[hl] at hk;cases hk
 | cons a l=>rw[hl] at hk;cases hk;rfl
def RH{ps:List ai}{day:Int}{e:aW}{part:List Nat}(h:e.op=3):iO ps day e part=(e.kids.map λk=>iO ps day k part).foldl Cl 2:=by
 rw[iZ,h,w8];rfl
def RI{ps:List ai}{day:Int}{e:aW}{part:List Nat}(h:e.op=4):iO ps day e part=(e.kids.map λk=>iO ps day k part).foldl QA 0:=by
 rw[iZ,h,w8];rfl
def MD{ps:List ai}{day:Int}{e:aW}{part:List Nat}(h:e.op=5):iO ps day e part=if (dh (dq ps part) e.name day).2=0 then Ls (oH (dh (dq ps part) e.name day).1.1 (dh (dq ps part) e.name day).1.2 (e.n+e.extra)) else 0:=by
 rw[iZ,h];rfl
def ME{ps:List ai}{day:Int}{e:aW}{part:List Nat}(h:e.op=6):iO ps day e part=if (dh (dq ps part) e.name day).2=0 then oH (dh (dq ps part) e.name day).1.1 (dh (dq ps part) e.name day).1.2 e.n else 0:=by
 rw[iZ,h];rfl
def RJ{ps:List ai}{day:Int}{e:aW}{part:List Nat}(h:e.op=7):iO ps day e part=Ea ((dq ps part).props.any λx=>decide (x.key=e.name)&&decide (x.value=e.value)):=by
 rw[iZ,h];rfl
def RL{ps:List ai}{day:Int}{e:aW}{part:List Nat}(h:e.op=8):iO ps day e part=Ea ((dq ps part).props.any λx=>decide (x.key=e.name)):=by
 rw[iZ,h];rfl
def RM{ps:List ai}{day:Int}{e:aW}{part:List Nat}(h:e.op=9):iO ps day e part=Ea (ps.any λq=>decide (q.aR=part)&&(decide (q.slot=e.name)&&decide (q.kind=e.value))):=by
 rw[iZ,h];rfl
def Pl{ps:List ai}{day:Int}{e k:aW}{part:List Nat}(h:e.op=10)(hk:e.kids[0]?=some k):iO ps day e part=((ij ps part e.name).map λn=>iO ps day k n).foldl Cl 2:=by
 rw[iZ,h]
 cases hl:e.kids with
 | nil=>rw[hl] at hk;cases hk
 | cons a l=>rw[hl] at hk;cases hk;rfl
def Pm{ps:List ai}{day:Int}{e k:aW}{part:List Nat}(h:e.op=11)(hk:e.kids[0]?=some k):iO ps day e part=((ij ps part e.name).map λn=>iO ps day k n).foldl QA 0:=by
 rw[iZ,h]
 cases hl:e.kids with
 | nil=>rw[hl] at hk;cases hk
 | cons a l=>rw[hl] at hk;cases hk;rfl
def Pn{ps:List ai}{day:Int}{e:aW}{part:List Nat}(h:e.op=12):iO ps day e part=Ea (decide (e.n<=((ij ps part e.name).length:Int))):=by
 rw[iZ,h];rfl
def yS{e:aW}(h:iF e=true)(ho:e.op=2\/e.op=10\/e.op=11):∃k,e.kids[0]?=some k:=by
 have hl:e.kids.length=1:=by
  unfold iF at h
  rcases ho with o | o | o<;>(unfold SM at h;rw[o] at h;simp[FJ] at h;omega)
 cases hk:e.kids with
 | nil=>rw[hk] at hl;cases hl
 | cons a l=>exact⟨a,rfl⟩
def Sa{e:aW}(h:iF e=true)(o:e.op=5):0<=e.n/\e.n<=9999999/\0<=e.extra/\e.extra<=9999999:=by
 unfold iF SM at h;rw[o] at h;simp[FJ,HO] at h;omega
def Qa{e:aW}(h:iF e=true)(n1:¬e.op=1)(n2:¬e.op=2)(n3:¬e.op=3)(n4:¬e.op=4)(n5:¬e.op=5)(n6:¬e.op=6)(n7:¬e.op=7)(n8:¬e.op=8)(n9:¬e.op=9)(n10:¬e.op=10)(n11:¬e.op=11):e.op=12:=by
 refine Classical.byContradiction λn12=>?_;unfold iF SM at h;simp[n1,n2,n3,n4,n5,n6,n7,n8,n9,n10,n11,n12] at h
abbrev Pu(ps:List ai)(day:Int)(e:aW)(part:List Nat):List SV:=[JQ ps day,AF e,.ip [ah part]]
abbrev wA(ps:List ai)(day:Int)(e:aW)(part:List Nat)(p:ai):Fm:=[(3,JQ ps day),(4,AF e),(5,.ip [ah part]),(7,.ip (ae p)),(9,.fn 131 [] []),(10,.fn 132 [] (Pu ps day e part)),(11,ab e.n),(29,ab e.op)]
def B6(ps:List ai)(day:Int)(hlen:ps.length<=100000)(hps:∀p∈ps,p.props.length<=1000000):∀(d:Nat) (e:aW) (part:List Nat),SizeOf.sizeOf e<d->gp e->(fq e).all iF=true->Ef ps day e part (iO ps day e part)
 | 0,e,_,hd,_,_=>un hd (ch _)
 | d+1,e,part,hd,he,hv=>by
  have hf:=gb ps part i5
  have ho:∃b,iV ae ai.zero (bD ps part)=.cm [.ag (ae (dq ps part)),ak b]:=by
   unfold dq
   cases bD ps part with
   | none=>exact⟨false,rfl⟩
   | some p=>exact⟨true,rfl⟩
  obtain⟨b,ho⟩:=ho;rw[ho] at hf
  have hpp:(dq ps part).props.length<=1000000:=by
   unfold dq
   cases hm:bD ps part with
   | none=>exact ck _
   | some p=>exact hps p (ic hm).1
  rw[BP,ac] at hv;have ih:∀k∈e.kids,∀nm,Ef ps day k nm (iO ps day k nm):=λk hk nm=>B6 ps day hlen hps d k nm (by have:=yD hk;omega) (he.Te.2 k hk) (all_eq_true.1 hv.2 k hk);obtain⟨p,hp⟩:∃p,p=dq ps part:=⟨_,rfl⟩;rw[<-hp] at hf hpp;refine pB 137 Tryz.func59 ?_;rw[cr e]
  refine(zV) ?_;refine zZ [(3,JQ ps day),(4,.ptr 1 0),(5,.ptr 2 0)] 0 rfl (gu @an.eq_1)<|zZ [(3,JQ ps day),(4,AF e),(5,.ptr 2 0)] 1 rfl (gu @an.eq_1)<|zZ [(3,JQ ps day),(4,AF e),(5,.ip [ah part])] 2 rfl (gu @an.eq_1)<|zA [(3,JQ ps day),(4,AF e),(5,.ip [ah part])] [] zH<|(zC)<|(zK hf (hfl:=.inr (bg.refl rfl)))<|(cJ @ae.eq_1) ?_;refine zZ [(3,JQ ps day),(4,AF e),(5,.ip [ah part]),(7,.ip (ae p))] 0 rfl (gu (bq @an.eq_1 @ae.eq_1))<|zA [(3,JQ ps day),(4,AF e),(5,.ip [ah part]),(7,.ip (ae p))] [] zH<|(oa)<|(oa)<|zA (wA ps day e part p) [] zH ?_
  (repeat (first | refine aE.seq ?_ | refine aE.block ?_))
  cases o1:decide (e.op=1);rotate_left
  ·have p1:=ww o1
   refine(aw o1)<|(zY) ?_;refine aE.exit ?_
   (try simp only[eQ,cX,bU,bK])
   (try change aE _ _ _ _ _)
   exact(zV)<|zo [.tmp 6] (hq:=by rw[RF p1])
  have n1:=wt o1
  refine(aw o1)<|(zN) ?_
  (try change aE _ _ _ _ _)
  (repeat (first | refine aE.seq ?_ | refine aE.block ?_))
  cases o2:decide (e.op=2);rotate_left
  ·have p2:=ww o2
   refine(aw o2)<|(zY) ?_;refine aE.exit ?_
   (try simp only[eQ,cX,bU,bK])
   (try change aE _ _ _ _ _)
   obtain⟨k,hk⟩:=yS hv.1 (.inl p2);have hkp:PC aa 132 ([ab 0]++Pu ps day e part) (·=ab (iO ps day k part)):=vx ps day e part 0 k hk _ (ih k (ad hk) part)
   exact(zC)<|(zK hkp (hwk:=bg.refl rfl))<|(zQ)<|(zK (Cb (iO ps day k part)))<|(zR)<|zo [.tmp 6] (hq:=by rw[RG p2 hk])
  have n2:=wt o2
  refine(aw o2)<|(zN) ?_
  (try change aE _ _ _ _ _)
  (repeat (first | refine aE.seq ?_ | refine aE.block ?_))
  cases o3:decide (e.op=3);rotate_left
  ·have p3:=ww o3
   refine(aw o3)<|(zY) ?_;refine aE.exit ?_
   (try simp only[eQ,cX,bU,bK])
   (try change aE _ _ _ _ _)
   have hfo:=pM 134 Cl B5 132 (Pu ps day e part) rfl (e.kids.map λk=>iO ps day k part) (by rw[af];exact he.Te.1) (λi x hi=>by
    obtain⟨k,hk,rfl⟩:=qm hi
    exact vx ps day e part i k hk _ (ih k (ad hk) part)) 2
   rw[af] at hfo
   exact(zC)<|(zK hfo (hwk:=bg.refl rfl))<|(zR)<|zo [.tmp 6] (hq:=by rw[RH p3])
  have n3:=wt o3
  refine(aw o3)<|(zN) ?_
  (try change aE _ _ _ _ _)
  (repeat (first | refine aE.seq ?_ | refine aE.block ?_))
  cases o4:decide (e.op=4);rotate_left
  ·have p4:=ww o4
   refine(aw o4)<|(zY) ?_;refine aE.exit ?_
   (try simp only[eQ,cX,bU,bK])
   (try change aE _ _ _ _ _)
   have hfo:=pM 135 QA GI 132 (Pu ps day e part) rfl (e.kids.map λk=>iO ps day k part) (by rw[af];exact he.Te.1) (λi x hi=>by
    obtain⟨k,hk,rfl⟩:=qm hi
    exact vx ps day e part i k hk _ (ih k (ad hk) part)) 0
   rw[af] at hfo
   exact(zC)<|(zK hfo (hwk:=bg.refl rfl))<|(zR)<|zo [.tmp 6] (hq:=by rw[RI p4])
  have n4:=wt o4
  refine(aw o4)<|(zN) ?_
  (try change aE _ _ _ _ _)
  (repeat (first | refine aE.seq ?_ | refine aE.block ?_))
  cases o5:decide (e.op=5);rotate_left
  ·have p5:=ww o5
   refine(aw o5)<|(zY) ?_;refine aE.exit ?_
   (try simp only[eQ,cX,bU,bK])
   (try change aE _ _ _ _ _)
   have h5:=Sa hv.1 p5;refine(aw (Ee (P:=aa) (t:=3) (a:=e.n) (b:=e.extra) i5)) ?_;have hva:=wm p e.name day
   have hvq:dh (dq ps part) e.name day=dh p e.name day:=by rw[hp]
   generalize dh p e.name day=q at hva hvq;obtain⟨⟨v1,v2⟩,cd⟩:=q;unfold G8 at hva
   refine(fb @ae.eq_1)<|(zK hva (hfl:=.inr (bg.refl rfl)))<|(zR) ?_
   cases hc:decide (cd=0)
   ·exact(aw hc)<|(cF)<|zo [.tmp 6] (hq:=by rw[MD p5,hvq,v6 (wt hc)])
   exact(aw hc)<|(Mj)<|(zK (qG v1 v2 (e.n+e.extra)))<|(zR)<|(aw (show decide (e.op=6)=false by rw[p5];rfl))<|(Mj)<|(zK (Cb _))<|(zR)<|zo [.tmp 6] (hq:=by rw[MD p5,hvq,ut (ww hc)])
  have n5:=wt o5
  refine(aw o5)<|(zN) ?_
  (try change aE _ _ _ _ _)
  (repeat (first | refine aE.seq ?_ | refine aE.block ?_))
  cases o6:decide (e.op=6);rotate_left
  ·have p6:=ww o6
   refine(aw o6)<|(zY) ?_;refine aE.exit ?_
   (try simp only[eQ,cX,bU,bK])
   (try change aE _ _ _ _ _)
   have hva:=wm p e.name day
   have hvq:dh (dq ps part) e.name day=dh p e.name day:=by rw[hp]
   generalize dh p e.name day=q at hva hvq;obtain⟨⟨v1,v2⟩,cd⟩:=q;unfold G8 at hva
   refine(fb @ae.eq_1)<|(zK hva (hfl:=.inr (bg.refl rfl)))<|(zR) ?_
   cases hc:decide (cd=0)
   ·exact(aw hc)<|(cF)<|zo [.tmp 6] (hq:=by rw[ME p6,hvq,v6 (wt hc)])
   exact(aw hc)<|(Mj)<|(zK (qG v1 v2 (e.n)))<|(zR)<|(aw (show decide (e.op=6)=true by rw[p6];rfl))<|(cF)<|zo [.tmp 6] (hq:=by rw[ME p6,hvq,ut (ww hc)])
  have n6:=wt o6
  refine(aw o6)<|(zN) ?_
  (try change aE _ _ _ _ _)
  (repeat (first | refine aE.seq ?_ | refine aE.block ?_))
  cases o7:decide (e.op=7);rotate_left
  ·have p7:=ww o7
   refine(aw o7)<|(zY) ?_;refine aE.exit ?_
   (try simp only[eQ,cX,bU,bK])
   (try change aE _ _ _ _ _)
   exact(fb @ae.eq_1)<|(zK (uf p.props ⟨e.name,e.value⟩ hpp))<|(zQ)<|(zK (rB _))<|(zR)<|zo [.tmp 6] (hq:=by rw[RJ p7,<-hp])
  have n7:=wt o7
  refine(aw o7)<|(zN) ?_
  (try change aE _ _ _ _ _)
  (repeat (first | refine aE.seq ?_ | refine aE.block ?_))
  cases o8:decide (e.op=8);rotate_left
  ·have p8:=ww o8
   refine(aw o8)<|(zY) ?_;refine aE.exit ?_
   (try simp only[eQ,cX,bU,bK])
   (try change aE _ _ _ _ _)
   exact(fb @ae.eq_1)<|(zK (Dw (l:=p.props) (λx=>decide (x.key=e.name)) (fid:=141) (first:=[]) (cap:=[AF e]) hpp (λx _=>LW x e) ⟨rfl,rfl⟩))<|(zQ)<|(zK (rB _))<|(zR)<|zo [.tmp 6] (hq:=by rw[RL p8,<-hp])
  have n8:=wt o8
  refine(aw o8)<|(zN) ?_
  (try change aE _ _ _ _ _)
  (repeat (first | refine aE.seq ?_ | refine aE.block ?_))
  cases o9:decide (e.op=9);rotate_left
  ·have p9:=ww o9
   refine(aw o9)<|(zY) ?_;refine aE.exit ?_
   (try simp only[eQ,cX,bU,bK])
   (try change aE _ _ _ _ _)
   exact(zC)<|(zK (ue (l:=ps) (λq=>decide (q.aR=part)&&(decide (q.slot=e.name)&&decide (q.kind=e.value))) (fid:=142) (first:=[]) (cap:=[.ip [ah part],AF e]) i5 (λx _=>II x part e) ⟨rfl,rfl⟩))<|(zQ)<|(zK (rB _))<|(zR)<|zo [.tmp 6] (hq:=by rw[RM p9])
  have n9:=wt o9
  refine(aw o9)<|(zN) ?_
  (try change aE _ _ _ _ _)
  (repeat (first | refine aE.seq ?_ | refine aE.block ?_))
  refine aE.exit ?_
  (try simp only[eQ,cX,bU,bK])
  (try change aE _ _ _ _ _)
  have hin:=A0 ps day part e.name hlen;have hil:(ij ps part e.name).length<=ps.length:=dc (d8 _ _) (ke ps part);obtain⟨N,hN⟩:∃N,N=ij ps part e.name:=⟨_,rfl⟩;rw[<-hN] at hin hil
  refine(jt)<|(zK hin (hfl:=.inr (bg.refl rfl)))<|(zR) ?_;refine zZ [(3,JQ ps day),(4,AF e),(9,.fn 131 [] []),(16,.ip [an 1 N (aB ah)])] 0 rfl (gu @an.eq_1)<|zA [(3,JQ ps day),(4,AF e),(9,.fn 131 [] []),(16,.ip [an 1 N (aB ah)])] [] zH<|(oa)<|(zB) ?_
  cases o10:decide (e.op=10);rotate_left
  ·have p10:=ww o10
   refine(aw o10)<|(zY) ?_
   obtain⟨k,hk⟩:=yS hv.1 (.inr (.inl p10))
   have hfo:=pM 134 Cl B5 144 [JQ ps day,AF e,.ip [an 1 N (aB ah)]] rfl (N.map λn=>iO ps day k n) (by rw[af];omega) (λi x hi=>by
    obtain⟨nm,hnm,rfl⟩:=qm hi
    exact Ab ps day e N i nm hnm k hk _ (ih k (ad hk) nm)) 2
   rw[af] at hfo
   exact(fb @an.eq_1)<|(zK hfo (hwk:=bg.refl rfl))<|(zR)<|zo [.tmp 6] (hq:=by rw[Pl p10 hk,<-hN])
  have n10:=wt o10
  refine(aw o10)<|(zN) ?_
  cases o11:decide (e.op=11);rotate_left
  ·have p11:=ww o11
   refine(aw o11)<|(zY) ?_
   obtain⟨k,hk⟩:=yS hv.1 (.inr (.inr p11))
   have hfo:=pM 135 QA GI 144 [JQ ps day,AF e,.ip [an 1 N (aB ah)]] rfl (N.map λn=>iO ps day k n) (by rw[af];omega) (λi x hi=>by
    obtain⟨nm,hnm,rfl⟩:=qm hi
    exact Ab ps day e N i nm hnm k hk _ (ih k (ad hk) nm)) 0
   rw[af] at hfo
   exact(fb @an.eq_1)<|(zK hfo (hwk:=bg.refl rfl))<|(zR)<|zo [.tmp 6] (hq:=by rw[Pm p11 hk,<-hN])
  have n11:=wt o11;have p12:=Qa hv.1 n1 n2 n3 n4 n5 n6 n7 n8 n9 n10 n11
  exact(aw o11)<|(zN)<|(fb @an.eq_1)<|(zK (rB (decide (e.n<=(N.length:Int)))))<|(zR)<|zo [.tmp 6] (hq:=by rw[Pn p12,<-hN])
structure PR (c:List aL) (F:List Nat->Option ai) (p:ai):Prop where
 r:dC c p=true
 s:p.aR=[]↔p.slot=[]
 h:p.aR≠[]->∃h,F p.aR=some h/\p.bo=false/\h.bo=false/\lC c h.kind p.slot p.kind=true
def Eh(p q:ai):Prop:=p.aR≠[]->¬(q.aR=p.aR/\q.slot=p.slot)
def Eh.symm{p q:ai}(h:Eh p q):Eh q p:=λk e=>h (by rw[e.1];exact k) ⟨e.1.symm,e.2.symm⟩
def NA{c:List aL}{t:List (fF×Bool)}{p:ai}(o:Option ai):rL c t p o=true↔(getM false ⟨p.aR,p.slot⟩ t=false/\∃h,o=some h/\p.bo=false/\h.bo=false/\lC c h.kind p.slot p.kind=true):=by
 cases o with
 | none=>exact⟨λh=>(by cases h),λ⟨_,h,k,_⟩=>(by cases k)⟩
 | some h=>
  unfold rL;simp only[rc,exists_eq_left'];generalize getM false ⟨p.aR,p.slot⟩ t=a;generalize p.bo=b;generalize h.bo=d;generalize lC c h.kind p.slot p.kind=e;cases a<;>cases b<;>cases d<;>cases e<;>simp
def BS{c:List aL}{ps:List ai}:∀{l:List ai} {t:List (fF×Bool)},fa c ps (mX 0 [] ps) t l=true↔(∀p∈l,PR c (bD ps) p/\(p.aR≠[]->getM false ⟨p.aR,p.slot⟩ t=false))/\l.Pairwise Eh
 | [],t=>⟨λ_=>⟨λp hp=>(by cases hp),.nil⟩,λ_=>rfl⟩
 | p::l,t=>by
  have ih:=λ{t}=>BS (c:=c) (ps:=ps) (l:=l) (t:=t);rw[fa,List.pairwise_cons,Bool.and_eq_true,Bool.and_eq_true];by_cases hi:p.aR=[]
  ·rw[wl hi,ar,ih];constructor
   ·rintro⟨h1,h2,h3,h4⟩
    have hs:p.slot=[]:=by simpa using h2
    refine⟨λq hq=>?_,λq _ k=>un hi k,h4⟩
    rcases t7 hq with rfl | hq
    ·exact⟨⟨h1,⟨λ_=>hs,λ_=>hi⟩,λk=>un hi k⟩,λk=>un hi k⟩
    ·exact h3 q hq
   ·rintro⟨h1,_,h4⟩;have h0:=h1 p List.mem_cons_self;exact⟨h0.1.r,by rw[wl (h0.1.s.1 hi)];rfl,λq hq=>h1 q (List.mem_cons_of_mem _ hq),h4⟩
  ·rw[wd hi,az,Bool.and_eq_true,ih,ot,NA];constructor
   ·rintro⟨h1,h2,⟨h3,h3'⟩,h4,h5⟩
    have hs:¬p.slot=[]:=by simpa using h2
    refine⟨λq hq=>?_,λq hq k e=>?_,h5⟩
    ·rcases t7 hq with rfl | hq
     ·exact⟨⟨h1,⟨λk=>un k hi,λk=>un k hs⟩,λ_=>h3'⟩,λ_=>h3⟩
     ·refine⟨(h4 q hq).1,λk=>?_⟩;have:=(h4 q hq).2 k;rw[kO] at this;split at this
      ·cases this
      ·exact this
    ·have:=(h4 q hq).2 (by rw[e.1];exact k);rw[kO,ut (by rw[e.1,e.2])] at this;cases this
   ·rintro⟨h1,h2,h5⟩;have h0:=h1 p List.mem_cons_self;refine⟨h0.1.r,?_,⟨h0.2 hi,h0.1.h hi⟩,λq hq=>⟨(h1 q (List.mem_cons_of_mem _ hq)).1,λk=>?_⟩,h5⟩
    ·rw[wd λk=>hi (h0.1.s.2 k)];rfl
    ·rw[kO,v6,(h1 q (List.mem_cons_of_mem _ hq)).2 k];intro e;exact h2 q hq hi ⟨rg fF.aR e,rg fF.slot e⟩
def Oe:∀{ps:List ai},eu (ps.map ai.name)=true->ps.Pairwise λp q=>fe p.name q.name=true
 | [],_=>.nil
 | y::l,h=>.cons (λp hp=>nv (a:=y.name) (l:=l.map ai.name) h _ (am hp)) (Oe (iA h))
def kM{p:ai}:∀{ps:List ai},eu (ps.map ai.name)=true->p∈ps->bD ps p.name=some p
 | [],_,h=>by cases h
 | y::l,ho,h=>by
  unfold bD;rw[b9]
  rcases t7 h with rfl | h
  ·rw[wl rfl]
  ·have hlt:=nv (a:=y.name) (l:=l.map ai.name) ho _ (am h);rw[wd λe=>by rw[e,cS] at hlt;cases hlt];exact kM (iA ho) h
def Oq{α:Type}{R:α->α->Prop}(hs:∀{a b},R a b->R b a):∀{l:List α},l.Pairwise R->∀a∈l,∀b∈l,a=b\/R a b
 | [],_,a,h,_,_=>by cases h
 | y::l,h,a,ha,b,hb=>by
  rw[fu] at h
  rcases t7 ha with e | ha2
  ·rcases t7 hb with e2 | hb2
   ·exact .inl (e.trans e2.symm)
   ·exact .inr (by rw[e];exact h.1 b hb2)
  ·rcases t7 hb with e2 | hb2
   ·exact .inr (by rw[e2];exact hs (h.1 a ha2))
   ·exact Oq hs h.2 a ha2 b hb2
structure VF (c:List aL) (F:List Nat->Option ai):Prop where
 n:∀{n p},F n=some p->p.name=n
 p:∀{n p},F n=some p->PR c F p
 u:∀{m n p q},F m=some p->F n=some q->m≠n->Eh p q
def uz{c:List aL}{ps:List ai}(hc:og c=true)(ho:eu (ps.map ai.name)=true)(hlen:ps.length<=20000):dF c ps=true↔VF c (bD ps):=by
 unfold dF;rw[hc,ho,wd (show ¬20000<(ps.length:Int) by omega)];simp only[Bool.not_false,f9];rw[BS];constructor
 ·rintro⟨h1,h2⟩;refine⟨λh=>(ic h).2,λh=>(h1 _ (ic h).1).1,λ{m n p q} h k hne=>?_⟩;obtain⟨a1,a2⟩:=ic h;obtain⟨b1,b2⟩:=ic k;exact(Oq Eh.symm h2 p a1 q b1).resolve_left λe=>hne (by rw[<-a2,<-b2,e])
 ·intro h;refine⟨λp hp=>⟨h.p (kM ho hp),λ_=>rfl⟩,(Oe ho).imp_of_mem λ{p q} hp hq hlt=>h.u (kM ho hp) (kM ho hq) λe=>?_⟩;rw[e,cS] at hlt;cases hlt
def qM{c:List aL}{ps:List ai}(h:dF c ps=true):og c=true/\eu (ps.map ai.name)=true/\ps.length<=20000:=by
 unfold dF at h;simp only[ac,ap,wn] at h;exact⟨h.1,h.2.2.1,by omega⟩
def EX{x:ai}{n:List Nat}:∀{l:List ai},bD (uW x l) n=if n=x.name then some x else bD l n
 | []=>by
  unfold uW bD;rw[b9];by_cases h:n=x.name
  ·rw[ut h,wl h.symm]
  ·rw[v6 h,wd λe=>h e.symm]
 | y::l=>by
  have ih:=EX (x:=x) (n:=n) (l:=l)
  have cons:∀(z:ai) (r:List ai),bD (z::r) n=if n=z.name then some z else bD r n:=λz r=>by
   unfold bD;rw[b9];by_cases h:n=z.name
   ·rw[ut h,wl h.symm]
   ·rw[v6 h,wd λe=>h e.symm]
  rw[uW];split
  ·rename_i h;rw[cons,ih,cons];by_cases e:n=y.name
   ·rw[ut e,ut e,v6];intro e2;rw[<-e,e2,cS] at h;cases h
   ·rw[v6 e,v6 e]
  ·split
   ·rename_i e;rw[cons,cons,e];split<;>rfl
   ·rw[cons]
def Nr{x:ai}{n:List Nat}(l:List ai):bD (cg l x) n=if n=x.name then some x else bD l n:=by
 rw[nA,EX]
def VF.put{c:List aL}{F:List Nat->Option ai}(h:VF c F){x:ai}(hr:dC c x=true)(hs:x.aR=[]↔x.slot=[])
 (hh:x.aR≠[]->∃h,(if x.aR=x.name then some x else F x.aR)=some h/\x.bo=false/\h.bo=false/\lC c h.kind x.slot x.kind=true)
 (hf:x.aR≠[]->∀n q,n≠x.name->F n=some q->¬(q.aR=x.aR/\q.slot=x.slot))
 (hg:∀n q,n≠x.name->F n=some q->q.aR≠[]->q.aR=x.name->x.bo=false/\lC c x.kind q.slot q.kind=true):VF c λn=>if n=x.name then some x else F n:=by
 have out:∀{n p},n≠x.name->(if n=x.name then some x else F n)=some p->F n=some p:=λe k=>by rw[v6 e] at k;exact k
 refine⟨λ{n p} k=>?_,λ{n p} k=>?_,λ{m n p q} k1 k2 hne=>?_⟩
 ·by_cases e:n=x.name
  ·rw[ut e] at k;cases k;exact e.symm
  ·exact h.n (out e k)
 ·by_cases e:n=x.name
  ·rw[ut e] at k;cases k;exact⟨hr,hs,hh⟩
  ·have k2:=out e k;have hp:=h.p k2;refine⟨hp.r,hp.s,λk3=>?_⟩;obtain⟨g,g1,g2,g3,g4⟩:=hp.h k3;by_cases e2:p.aR=x.name
   ·obtain⟨f1,f2⟩:=hg n p e k2 k3 e2;exact⟨x,ut e2,g2,f1,f2⟩
   ·exact⟨g,by rw[v6 e2];exact g1,g2,g3,g4⟩
 ·by_cases e:m=x.name
  ·have e2:n≠x.name:=λe2=>hne (e.trans e2.symm);rw[ut e] at k1;cases k1;exact λk=>hf k n q e2 (out e2 k2)
  ·by_cases e2:n=x.name
   ·rw[ut e2] at k2;cases k2;exact Eh.symm λk=>hf k m p e (out e k1)
   ·exact h.u (out e k1) (out e2 k2) hne
def VF.Ny{c:List aL}{F:List Nat->Option ai}(h:VF c F){p x:ai}(hF:F p.name=some p)(h1:x.name=p.name)(h2:x.kind=p.kind)(h3:x.bo=p.bo):∀n q,n≠x.name->F n=some q->q.aR≠[]->q.aR=x.name->x.bo=false/\lC c x.kind q.slot q.kind=true:=by
 intro n q _ hq hi e;obtain⟨g,g1,g2,g3,g4⟩:=(h.p hq).h hi;rw[e,h1,hF] at g1;cases g1;rw[h3,h2];exact⟨g3,g4⟩
def VF.same{c:List aL}{F:List Nat->Option ai}(h:VF c F){p x:ai}(hF:F p.name=some p)(hr:dC c x=true)(h1:x.name=p.name)(h2:x.kind=p.kind)(h3:x.bo=p.bo)(h4:x.aR=p.aR)(h5:x.slot=p.slot):VF c λn=>if n=x.name then some x else F n:=by
 have hp:=h.p hF;refine h.put hr (by rw[h4,h5];exact hp.s) (λk=>?_) (λk n q hn hq=>?_) (h.Ny hF h1 h2 h3)
 ·obtain⟨g,g1,g2,g3,g4⟩:=hp.h (by rw[<-h4];exact k);by_cases e:x.aR=x.name
  ·rw[h4,h1] at e;rw[e,hF] at g1;cases g1;exact⟨x,by rw[h4,h1,ut e],by rw[h3];exact g2,by rw[h3];exact g2,by rw[h2,h5];exact g4⟩
  ·exact⟨g,by rw[v6 e,h4];exact g1,by rw[h3];exact g2,g3,by rw[h2,h5];exact g4⟩
 ·have:=h.u hF hq λe=>hn (by rw[h1];exact e.symm);rw[h4] at k ⊢;rw[h5];exact this k
def vE(x:bB):List bB->List bB
 | []=>[x]
 | y::l=>if fe y.key x.key=true then y::vE x l else if y.key=x.key then x::l else x::y::l
def vJ(x:bB):∀l:List bB,gz l x=vE x l
 | []=>by simp[gz,ny,ie,vE]
 | y::l=>by
  have ih:=vJ x l;unfold gz ny at ih ⊢;rw[vE,e5];split
  ·rename_i h
   have e:ie (y::l) x.key (f7 (y::dy (λp=>fe p.key x.key) l))=ie l x.key (dy (λp=>fe p.key x.key) l).length:=by
    unfold ie;rw[jp,ci]
   rw[e,jp,fv,e6,e4,cons_append];split at ih<;>rename_i hf
   ·rw[ut hf,ih]
   ·rw[v6 hf,ih]
  ·rename_i h;rw[i7];unfold ie;simp only[dt,set_cons_zero,take_zero,drop_zero,nil_append,wp]
def BA{x:bB}:∀{l:List bB},eu (l.map bB.key)=true->eu ((vE x l).map bB.key)=true/\∀p∈vE x l,p=x\/p∈l
 | [],_=>⟨rfl,λp hp=>by rw[vE,fm] at hp;exact .inl hp⟩
 | y::l,ho=>by
  obtain⟨i1,i2⟩:=BA (x:=x) (l:=l) (iA ho);have hlt:=nv (a:=y.key) (l:=l.map bB.key) ho
  have cons:∀{a:bB} {r:List bB},(∀p∈r,fe a.key p.key=true)->eu (r.map bB.key)=true->eu ((a::r).map bB.key)=true:=by
   intro a r h1 h2
   cases r with
   | nil=>rfl
   | cons b r=>
    rw[b8,b8,eu,ac];exact⟨h1 b al,by rw[b8] at h2;exact h2⟩
  rw[vE];split
  ·rename_i h;refine⟨cons (λp hp=>?_) i1,λp hp=>?_⟩
   ·rcases i2 p hp with rfl | hp
    ·exact h
    ·exact hlt _ (am hp)
   ·rcases t7 hp with rfl | hp
    ·exact .inr al
    ·exact(i2 p hp).imp id (aj _)
  ·rename_i h;split
   ·rename_i e;refine⟨cons (λp hp=>by rw[<-e];exact hlt _ (am hp)) (iA ho),λp hp=>?_⟩
    rcases t7 hp with rfl | hp
    ·exact .inl rfl
    ·exact .inr (aj _ hp)
   ·rename_i e
    have hxy:fe x.key y.key=true:=by
     rcases jK x.key y.key with k | k | k
     ·exact k
     ·exact un k.symm e
     ·exact un k h
    refine⟨cons (λp hp=>?_) ho,λp hp=>?_⟩
    ·rcases t7 hp with rfl | hp
     ·exact hxy
     ·exact fp hxy (hlt _ (am hp))
    ·rcases t7 hp with rfl | hp
     ·exact .inl rfl
     ·exact .inr hp
def qi{e:bu}(h:dE e=true):0<=e.day/\e.day<=40000/\cH e.part=true/\e.jO=true/\∀s∈e.names,cH s=true:=by
 unfold dE at h;simp only[ac,ap,wn] at h;obtain⟨_,h1,h2,h3,h4,_,h6⟩:=h;exact⟨by omega,by omega,h3,h4,λs hs=>by simpa using List.any_eq_false.1 h6 s hs⟩
def J0{s:List Nat}(h:cH s=true):s≠[]:=λe=>by rw[e] at h;cases h
def F7{c:List aL}{p:ai}{e:bu}(h:dC c p=true)(he:dE e=true):dC c (ll p e)=true:=by
 obtain⟨h1,h2,_⟩:=qi he;unfold dC at h ⊢;simp only[ac,ap,wn] at h ⊢;obtain⟨a1,a2,a3,a4,a5,a6,a7,a8,_⟩:=h;refine⟨a1,a2,a3,?_,?_,a6,a7,a8,rfl,rfl,rfl⟩
 ·show ¬dN p.since e.day<p.made;unfold dN;split<;>omega
 ·show ¬40000<dN p.since e.day;unfold dN;split<;>omega
def Im{c:List aL}{p:ai}{e:bu}(h:dC c p=true)(he:dE e=true)(h6:e.op=6)(hl:¬60<((gz p.props ⟨e.key,e.value⟩).length:Int)):dC c (pS p e)=true:=by
 obtain⟨_,_,_,hm,hn⟩:=qi he;have hk:cH e.key=true:=hn _ (by unfold bu.names;rw[h6];exact rx rfl)
 have hv:nz ⟨e.key,e.value⟩=true:=by
  unfold bu.jO at hm;rw[h6] at hm;simp only[show ¬(6:Int)=1 by decide,show ¬(6:Int)=2 by decide,if_false,if_true,ac,ap,wn] at hm;unfold nz;simp only[hk,f9,ac,ap,wn,wp];exact⟨hm.1,by omega⟩
 unfold dC at h ⊢;simp only[ac,ap,wn] at h ⊢;obtain⟨a1,a2,a3,a4,a5,a6,a7,a8,a9⟩:=h;refine⟨a1,a2,a3,a4,a5,hl,?_,?_,a9⟩
 ·show(gz p.props ⟨e.key,e.value⟩).all nz=true;rw[all_eq_true] at a7 ⊢;intro x hx
  rcases vK hx with rfl | hx
  ·exact hv
  ·exact a7 x hx
 ·show eu ((gz p.props ⟨e.key,e.value⟩).map bB.key)=true;rw[vJ];exact(BA a8).1
def LH{c:List aL}{e:bu}(he:dE e=true)(hk:¬(dg c e.kind).isNone=true):dC c (nu e)=true:=by
 obtain⟨h1,h2,h3,_⟩:=qi he;unfold dC nu;simp only[ac,ap,wn];refine⟨?_,h3,by omega,by omega,by omega,by simp,rfl,rfl,rfl,rfl,rfl⟩
 cases h:dg c e.kind with
 | none=>rw[h] at hk;exact un rfl hk
 | some k=>rfl
def QL{c:List aL}{ps:List ai}{e:bu}{p h:ai}(hV:VF c (bD ps))(he:dE e=true)(hF:bD ps p.name=some p)(hH:e.op=2->bD ps e.aR=some h/\p.name=e.part)(hps:p.bo=false)(hhs:h.bo=false)(h0:(iW c ps e p h).2=0):∃x,(iW c ps e p h).1=cg ps x/\VF c (λn=>if n=x.name then some x else bD ps n):=by
 have hp:=hV.p hF;unfold iW at h0 ⊢;simp only at h0 ⊢;by_cases h2:e.op=2
 ·rw[ut h2] at h0 ⊢;obtain⟨g1,g2⟩:=hH h2;obtain⟨_,_,_,hm,hn⟩:=qi he;have hi:e.aR≠[]:=J0 (hn _ (by unfold bu.names;rw[h2];exact al));have hs:e.slot≠[]:=J0 (hn _ (by unfold bu.names;rw[h2];exact aj _ al))
  have hne:e.aR≠e.part:=by
   unfold bu.jO at hm;rw[h2] at hm;simpa using hm
  split at h0
  ·cases h0
  rename_i k1;rw[v6 k1];split at h0
  ·cases h0
  rename_i k2;rw[v6 k2];split at h0
  ·cases h0
  rename_i k3;rw[v6 k3];simp only[f4,not_or,fx,Bool.not_eq_false'] at k1;refine⟨_,rfl,hV.put (x:=wG p e) hp.r ⟨λk=>un k hi,λk=>un k hs⟩ (λ_=>⟨h,?_,hps,hhs,k1.2⟩) (λ_ n q _ hq k=>?_) (hV.Ny hF rfl rfl rfl)⟩
  ·show(if e.aR=p.name then some (wG p e) else bD ps e.aR)=some h;rw[v6 (by rw[g2];exact hne)];exact g1
  ·refine k3 (any_eq_true.2 ⟨q,(ic hq).1,?_⟩);rw[ac,wp,wp];exact k
 rw[v6 h2] at h0 ⊢;by_cases h3:e.op=3
 ·rw[ut h3] at h0 ⊢;split at h0
  ·cases h0
  rename_i k1;rw[v6 k1];exact⟨_,rfl,hV.put (x:=yV p) hp.r ⟨λ_=>rfl,λ_=>rfl⟩ (λk=>un rfl k) (λk=>un rfl k) (hV.Ny hF rfl rfl rfl)⟩
 rw[v6 h3] at h0 ⊢;by_cases h4:e.op=4
 ·rw[ut h4] at h0 ⊢;split at h0
  ·rename_i k1;rw[ut k1];exact⟨_,rfl,hV.same hF hp.r rfl rfl rfl rfl rfl⟩
  ·cases h0
 rw[v6 h4] at h0 ⊢;by_cases h5:e.op=5
 ·rw[ut h5] at h0 ⊢;exact⟨_,rfl,hV.same (x:=ll p e) hF (F7 hp.r he) rfl rfl rfl rfl rfl⟩
 rw[v6 h5] at h0 ⊢;by_cases h6:e.op=6
 ·rw[ut h6] at h0 ⊢;split at h0
  ·cases h0
  rename_i k1;rw[v6 k1];exact⟨_,rfl,hV.same (x:=pS p e) hF (Im hp.r he h6 k1) rfl rfl rfl rfl rfl⟩
 rw[v6 h6] at h0 ⊢;by_cases h7:e.op=7
 ·rw[ut h7] at h0 ⊢;split at h0
  ·cases h0
  rename_i k1;rw[v6 k1];split at h0
  ·cases h0
  rename_i k2;rw[v6 k2];have k1:p.aR=[]:=Decidable.not_not.1 k1;refine⟨_,rfl,hV.put (x:=qn p) hp.r hp.s (λk=>un k1 k) (λk=>un k1 k) λn q _ hq hi k=>?_⟩;exact un (any_eq_true.2 ⟨q,(ic hq).1,wl k⟩) k2
 rw[v6 h7] at h0 ⊢;exact⟨_,rfl,hV.same hF hp.r rfl rfl rfl rfl rfl⟩
def E1{c:List aL}{ps:List ai}{e:bu}(hlen:ps.length<20000)(h0:(aO c ps e).2=0):(dF c (aO c ps e).1=true/\(aO c ps e).1.length<=ps.length+1)/\dE e=true:=by
 unfold aO at h0 ⊢;split at h0;rotate_left
 ·cases h0
 rename_i hv;rw[ut hv];split at h0;rotate_left
 ·cases h0
 rename_i he;rw[ut he];refine⟨?_,he⟩;obtain⟨hc,ho,_⟩:=qM hv;have hV:=(uz hc ho i5).1 hv
 have fin:∀x,VF c (λn=>if n=x.name then some x else bD ps n)->dF c (cg ps x)=true/\(cg ps x).length<=ps.length+1:=λx hx=>by
  have hl:=JO x ps;rw[<-nA] at hl;refine⟨(uz hc (by rw[nA];exact(JP ho).1) i5).2 ?_,hl⟩;rw[show bD (cg ps x)=λn=>if n=x.name then some x else bD ps n from funext λn=>Nr ps];exact hx
 by_cases h1:e.op=1
 ·rw[ut h1] at h0 ⊢;rw[ot] at h0 ⊢;unfold yM at h0 ⊢;split at h0
  ·cases h0
  rename_i k1;rw[v6 k1];split at h0
  ·cases h0
  rename_i k2;rw[v6 k2];split at h0
  ·cases h0
  rename_i k3;rw[v6 k3];refine fin _ (hV.put (LH he k2) ⟨λ_=>rfl,λ_=>rfl⟩ (λk=>un rfl k) (λk=>un rfl k) λn q _ hq hi k=>?_);obtain⟨g,g1,_⟩:=(hV.p hq).h hi;rw[k] at g1;have g1:bD ps e.part=some g:=g1;rw[g1] at k1;exact un rfl k1
 ·rw[v6 h1] at h0 ⊢;rw[ot,ot] at h0 ⊢
  cases hp:bD ps e.part with
  | none=>rw[hp] at h0;cases h0
  | some p=>
   rw[hp] at h0;have hpn:=(ic hp).2
   cases hh:(if e.op=2 then bD ps e.aR else some p) with
   | none=>rw[hh] at h0;cases h0
   | some h=>
    rw[hh] at h0;simp only at h0 ⊢;split at h0
    ·cases h0
    rename_i k;rw[v6 k];simp only[f4,not_or,fx] at k;obtain⟨x,x1,x2⟩:=QL hV he (by rw[hpn];exact hp) (λh2=>by rw[ut h2] at hh;exact⟨hh,hpn⟩) k.1 k.2 h0;rw[x1];exact fin x x2
def JZ(a b:Int):e7 a b<=a/\e7 a b<=b:=by unfold e7;split<;>omega
def xm(a b:Int):a<=dN a b/\b<=dN a b:=by unfold dN;split<;>omega
def xp{l a b:Int}(h1:l<=a)(h2:l<=b):l<=e7 a b:=by unfold e7;split<;>assumption
def xo{l a b:Int}(h1:a<=l)(h2:b<=l):dN a b<=l:=by unfold dN;split<;>assumption
def Pj{a b:Int}(h1:0<=a)(h2:a<=1000000000000)(h3:0<=b)(h4:b<=1000000000000):xL a b=a+b:=by
 unfold xL dP
 rw[show(sF (NK .i64) (a+b)&&sF (a+b) (Nz .i64))=true by
  simp only[ac,gx,wp,NK,Nz]
  omega]
 rfl
def tH{a b:Int}(h1:0<=a)(h2:a<=1000000000000)(h3:0<=b)(h4:b<=1000000000000):0<=gy a b/\gy a b<=1000000000000:=by
 unfold gy QI;rw[Pj h1 h2 h3 h4];exact⟨gc (xp i5 i5) (xm _ _).2,xo i5 (JZ _ _).2⟩
def xN{a b c d:Int}(h:rD a b=true)(hc:0<=c)(hd:0<=d):rD (ez gy a b c d).1 (ez gy a b c d).2=true:=by
 unfold rD at h;simp only[ac,wp] at h;unfold ez;split
 ·rename_i k;unfold mG at k;simp only[ac,wp] at k;have p1:=tH h.1 i5 hc i5;have p2:=tH h.1 i5 hd i5;have p3:=tH (a:=b) i5 h.2.2 hc i5;have p4:=tH (a:=b) i5 h.2.2 hd i5;unfold rD;simp only[ac,wp];exact⟨xp (xp (xp p1.1 p2.1) p3.1) p4.1,gc (JZ _ _).2 (xm _ _).2,xo (xo (xo p1.2 p2.2) p3.2) p4.2⟩
 ·rfl
def KX(f:bx)(u:iM):0<=(lO f u).1/\0<=(lO f u).2:=by
 unfold lO;split
 ·exact⟨(xm _ _).1,(xm _ _).1⟩
 ·exact⟨ey _,ey _⟩
def SG{e:bu}(he:dE e=true)(h4:e.op=4):(0<=e.u1/\0<=e.u2)/\(0<=e.u3/\0<=e.u4)/\0<=e.u5/\0<=e.u6:=by
 obtain⟨_,_,_,hm,_⟩:=qi he;unfold bu.jO at hm;rw[h4] at hm;simp only[show ¬(4:Int)=1 by decide,show ¬(4:Int)=2 by decide,show ¬(4:Int)=6 by decide,if_false,if_true,bu.use,ju,ac,ap,wn] at hm;omega
structure Q3 (f:ai->ai):Prop where
 n:∀p,(f p).name=p.name
 k:∀p,(f p).kind=p.kind
 i:∀p,(f p).aR=p.aR
 s:∀p,(f p).slot=p.slot
 x:∀p,(f p).bo=p.bo
def yk{f:ai->ai}(hf:∀p,(f p).name=p.name)(n:List Nat):∀ps:List ai,bD (ps.map f) n=(bD ps n).map f
 | []=>rfl
 | p::ps=>by
  have ih:=yk hf n ps;unfold bD at ih ⊢;rw[b8,b9,b9,hf,ih];split<;>rfl
def Ll{f:ai->ai}(hf:∀p,(f p).name=p.name)(ps:List ai):(ps.map f).map ai.name=ps.map ai.name:=by
 rw[List.map_map];exact List.map_congr_left λp _=>hf p
def Md{c:List aL}{ps:List ai}{f:ai->ai}(hf:Q3 f)(hr:∀p,dC c p=true->dC c (f p)=true)(h:dF c ps=true):dF c (ps.map f)=true:=by
 obtain⟨hc,ho,hl⟩:=qM h;have hV:=(uz hc ho hl).1 h;refine(uz hc (by rw[Ll hf.n];exact ho) (by rw[af];exact hl)).2 ?_
 have inv:∀{n p},bD (ps.map f) n=some p->∃q,bD ps n=some q/\f q=p:=λ{n p} k=>by
  rw[yk hf.n] at k
  cases hq:bD ps n with
  | none=>rw[hq] at k;cases k
  | some q=>rw[hq] at k;cases k;exact⟨q,rfl,rfl⟩
 refine⟨λk=>?_,λk=>?_,λk1 k2 hne=>?_⟩
 ·obtain⟨q,h1,rfl⟩:=inv k;rw[hf.n];exact hV.n h1
 ·obtain⟨q,h1,rfl⟩:=inv k;have hp:=hV.p h1;refine⟨hr q hp.r,by rw[hf.i,hf.s];exact hp.s,λk=>?_⟩;rw[hf.i] at k ⊢;obtain⟨g,g1,g2,g3,g4⟩:=hp.h k;exact⟨f g,by rw[yk hf.n,g1];rfl,by rw[hf.x];exact g2,by rw[hf.x];exact g3,by rw[hf.k,hf.k,hf.s];exact g4⟩
 ·obtain⟨q,h1,rfl⟩:=inv k1;obtain⟨r,h2,rfl⟩:=inv k2;unfold Eh;rw[hf.i,hf.i,hf.s,hf.s];exact hV.u h1 h2 hne
def Il{c:List aL}{p:ai}(u:iM)(d:Int×Int)(h:dC c p=true)(h1:0<=u.u1/\0<=u.u2)(h2:0<=u.u3/\0<=u.u4)(h3:0<=d.1/\0<=d.2):dC c (sJ u d p)=true:=by
 unfold dC at h ⊢;simp only[ac] at h ⊢;obtain⟨a1,a2,a3,a4,a5,a6,a7,a8,b1,b2,b3⟩:=h;exact⟨a1,a2,a3,a4,a5,a6,a7,a8,xN b1 h1.1 h1.2,xN b2 h2.1 h2.2,xN b3 h3.1 h3.2⟩
def Ji(dmg:bx)(ins:List (List Nat))(e:bu):Q3 (uy dmg ins e):=by
 constructor<;>intro p<;>unfold uy<;>split<;>rfl
def Mc{c:List aL}{dmg:bx}{ps:List ai}{e:bu}(he:dE e=true)(h4:e.op=4)(h:dF c ps=true):dF c (wW dmg ps e)=true:=by
 obtain⟨h1,h2,_⟩:=SG he h4;refine Md (Ji _ _ _) (λp hp=>?_) h;unfold uy;split
 ·exact Il _ _ hp h1 h2 (KX _ _)
 ·exact hp
def JJ(u:Bool)(c:List aL)(dmg:bx):List bu->List ai->List ai×Int
 | [],s=>(s,0)
 | e::r,s=>if (aO c s e).2=0 then JJ u c dmg r (if u=true/\e.op=4 then wW dmg (aO c s e).1 e else (aO c s e).1) else ([],(aO c s e).2)
def Ip{c:List aL}{dmg:bx}:∀(l:List bu) (i:Nat) (s:List ai),(kW c dmg i l s).1=(JJ true c dmg l s).1
 | [],_,_=>rfl
 | e::r,i,s=>by
  rw[kW,JJ];split
  ·split
   ·rename_i h;rw[ut ⟨rfl,h⟩];exact Ip r _ _
   ·rename_i h;rw[v6 λk=>h k.2];exact Ip r _ _
  ·rfl
def P7{u:Bool}{c:List aL}{dmg:bx}{s:List ai}{e:bu}(hl:s.length<20000)(h0:(aO c s e).2=0):dF c (if u=true/\e.op=4 then wW dmg (aO c s e).1 e else (aO c s e).1)=true/\(if u=true/\e.op=4 then wW dmg (aO c s e).1 e else (aO c s e).1).length<=s.length+1:=by
 obtain⟨⟨h1,h2⟩,he⟩:=E1 hl h0;split
 ·rename_i k;exact⟨Mc he k.2 h1,by unfold wW;rw[af];exact h2⟩
 ·exact⟨h1,h2⟩
def JT(ps:List ai)(part:List Nat):iL:=(ps.filter λp=>!(decide (p.aR=[]))&&!(decide (p.name=part))).map λp=>(p.name,p.aR)
def TJ:Nat->List ai->List (List Nat×Int)
 | _,[]=>[]
 | i,p::ps=>(p.name,(i:Int))::TJ (i+1) ps
def Jp:∀{ps:List ai} {i:Nat} {m:List (List Nat×Int)},eu (ps.map ai.name)=true->(∀p∈ps,dx p.name m=false)->mX i m ps=m++TJ i ps
 | [],_,m,_,_=>(bO m).symm
 | p::ps,i,m,ho,hm=>by
  have hp:=hm p al;have hlt:=nv (a:=p.name) (l:=ps.map ai.name) ho;rw[mX,hp,v6 bt,oJ hp,Jp (iA ho) λq hq=>?_,cl]
  ·rfl
  ·have h1:=hm q (aj _ hq);have h2:=hlt _ (am hq);unfold dx at h1 ⊢;rw[List.any_append,h1,List.any_cons,List.any_nil,Bool.or_false,Bool.false_or,wn];intro e;rw[e,cS] at h2;cases h2
def BX{full:List ai}:∀{ps:List ai} {i:Nat},full.drop i=ps->jq full (TJ i ps)=(ps.filter λp=>!(decide (p.aR=[]))).map λp=>(p.name,p.aR)
 | [],_,_=>rfl
 | p::ps,i,h=>by
  have hp:full[i]?=some p:=by
   have:=rg (λl=>l[0]?) h;simpa using this
  have h2:full.drop (i+1)=ps:=by
   have:=rg (List.drop 1) h;simpa using this
  have ih:=BX h2
  have hi:uX full (i:Int)=p.aR:=by unfold uX;rw[fd,hp]
  unfold jq at ih ⊢;rw[TJ,List.filterMap_cons,d7,ih,hi];by_cases e:p.aR=[]
  ·rw[ut e,wl e];rfl
  ·rw[v6 e,wd e];rfl
def JC{part:List Nat}:∀{ps:List ai},eu (ps.map ai.name)=true->jB part ((ps.filter λp=>!(decide (p.aR=[]))).map λp=>(p.name,p.aR))=JT ps part
 | [],_=>rfl
 | p::ps,ho=>by
  have ih:=JC (part:=part) (iA ho);have hlt:=nv (a:=p.name) (l:=ps.map ai.name) ho;unfold JT at ih ⊢;rw[d7,d7];by_cases e:p.aR=[]
  ·rw[wl e];exact ih
  ·rw[wd e];by_cases h:part=p.name
   ·rw[wl h.symm];show jB part ((p.name,p.aR)::_)=_;rw[jB,ut h];refine rg (List.map _) (List.filter_congr λq hq=>?_);have h2:=hlt _ (am hq);rw[wd (p:=q.name=part) λk=>by rw[k,h,cS] at h2;cases h2];simp
   ·rw[wd λk=>h k.symm];show jB part ((p.name,p.aR)::_)=(p.name,p.aR)::_;rw[jB,v6 h,ih]
def LG{ps:List ai}(ho:eu (ps.map ai.name)=true)(part:List Nat):F4 ps part=JT ps part:=by
 unfold F4;rw[Jp ho λ_ _=>rfl,nil_append,BX (drop_zero (l:=ps)),JC ho]
structure jl where
 name:List Nat
 kind:List Nat
 cond:aW
def cC(r:jl):List SV:=ah r.name::ah r.kind::aX r.cond
structure wy where
 kind:List Nat
 slot:List Nat
 other:List Nat
 pO:List Nat
 to:Int
def eB(s:wy):List SV:=[ah s.kind,ah s.slot,ah s.other,ah s.pO,ab s.to]
structure dZ where
 name:List Nat
 kind:List Nat
 key:List Nat
 after:Int
 within:Int
def bj(d:dZ):List SV:=[ah d.name,ah d.kind,ah d.key,ab d.after,ab d.within]
structure pX where
 part:List Nat
 fC:List Nat
 to:Int
def du(c:pX):List SV:=[ah c.part,ah c.fC,ab c.to]
structure mu where
 id:List Nat
 vehicle:List Nat
 members:List Int
 back:List Int
def cB(h:mu):List SV:=[ah h.id,ah h.vehicle,an 1 h.members (aB ab),an 1 h.back (aB ab)]
structure dY where
 rules:List jl
 fE:List wy
 ec:List dZ
 nL:List pX
 cI:List jl
 holds:List mu
def aM(b:dY):List SV:=[an 8 b.rules cC,an 5 b.fE eB,an 5 b.ec bj,an 3 b.nL du,an 8 b.cI cC,an 4 b.holds cB]
structure aD where
 kind:Int
 part:List Nat
 name:List Nat
 deriving DecidableEq
def aF(f:aD):List SV:=[ab f.kind,ah f.part,ah f.name]
def sY(l:List pX)(part fC:List Nat)(day:Int):Bool:=l.any λx=>decide (x.part=part)&&(decide (x.fC=fC)&&decide (day<=x.to))
def rl(c:List aL)(kind name other:List Nat):Bool:=match (dg c kind).bind λk=>ph k.bJ name with
 | some s=>decide (0<=fR (λx=>decide (other=x)) s.kinds)&&decide (fR (λx=>decide (other=x)) s.kinds<s.normal)
 | none=>false
def xc(ps:List ai)(p:ai)(slot:List Nat):Bool:=ps.any λx=>decide (x.aR=p.aR)&&(decide (x.slot=slot)&&decide (x.kind=p.kind))
def ku(c:List aL)(fE:List wy)(ps:List ai)(part:List Nat)(day:Int):Bool:=match bD ps part with
 | none=>false
 | some p=>if p.aR=[] then true else match bD ps p.aR with
  | none=>false
  | some h=>rl c h.kind p.slot p.kind||fE.any λs=>(decide (s.kind=h.kind)&&(decide (s.slot=p.slot)&&decide (s.other=p.kind)))&&(decide (day<=s.to)&&(decide (s.pO=[])||xc ps p s.pO))
def rK(d:dZ):Bool:=cH d.name&&(cH d.kind&&(cH d.key&&(decide (1<=d.after)&&(decide (d.after<=7)&&(decide (0<=d.within)&&decide (d.within<=40000))))))
def LA(part:List Nat)(day:Int)(e:bu):Bool:=decide (e.part=part)&&decide (e.day<=day)
def C5(d:dZ)(l:List bu)(part:List Nat)(day:Int):List Int:=(l.filter λe=>LA part day e&&(decide (e.op=6)&&decide (e.key=d.key))).map bu.day
def qU(d:dZ)(l:List bu)(part:List Nat)(day:Int):List Int:=(l.filter λe=>LA part day e&&decide (e.op=d.after)).map bu.day
def qv(d:dZ)(notes:List Int)(a:Int×Bool)(n:Int):Int×Bool:=
 if (!(notes.any λm=>decide (n<=m)&&decide (m<=n+d.within))&&(!a.2||decide (n+d.within<a.1)))=true then (n+d.within,true) else a
def lF(d:dZ)(l:List bu)(part:List Nat)(day:Int):Int×Bool:=(qU d l part day).foldl (qv d (C5 d l part day)) (0,false)
def O6(c:List aL)(l:List bu)(day:Int):List ai×Int:=if og c=true then JJ false c (.mk 0 0 []) (eF (dR (eN day) l)) [] else ([],1)
def tG(ds:List dZ)(c:List aL)(l:List bu)(part:List Nat)(day:Int):List (List Nat×Int):=
 match bD (O6 c l day).1 part with
 | none=>[]
 | some p=>if (O6 c l day).2≠0\/p.bo=true then [] else ds.filterMap λd=>if rK d=true/\d.kind=p.kind/\(lF d l part day).2=true then some (d.name,(lF d l part day).1) else none
def kU(ds:List dZ)(c:List aL)(l:List bu)(part:List Nat)(day:Int):List (List Nat):=LL (((tG ds c l part day).filter λx=>decide (x.2<day)).map (·.1))
def AN(h:mu):Bool:=h.members.any λm=>!h.back.contains m
def od(c:List aL)(b:dY)(l:List bu)(ps:List ai)(day:Int)(p:ai):List aD:=
 ((b.rules.filter λr=>decide (r.kind=p.kind)&&(!sY b.nL p.name r.name day&&!(decide (nP ps r.cond p.name day=2)))).map λr=>⟨1,p.name,r.name⟩)++
 (((b.cI.filter λr=>decide (r.kind=p.kind)&&!(decide (nP ps r.cond p.name day=0))).map λr=>⟨5,p.name,r.name⟩)++
 ((kU b.ec c l p.name day).map (λn=>⟨3,p.name,n⟩)++
 (if ku c b.fE ps p.name day=true then [] else [⟨2,p.name,p.slot⟩])))
def sf(c:List aL)(b:dY)(l:List bu)(ps:List ai)(vehicle:List Nat)(day:Int)(v:ai):List aD:=
 od c b l ps day v++(((ea ps vehicle).flatMap λn=>od c b l ps day (dq ps n))++((b.holds.filter λh=>decide (h.vehicle=vehicle)&&AN h).map λh=>⟨6,vehicle,h.id⟩))
def vV(ps:List ai)(e:aW)(part:List Nat)(day:Int)(hlen:ps.length<=100000)(hps:∀p∈ps,p.props.length<=1000000)(he:gp e):PC aa 19 [.ag [an 14 ps ae],.ag (aX e),ah part,ab day] (·=ab (nP ps e part day)):=by
 have hvr:=wU [114] [107] e ⟨by decide,by decide⟩ ⟨by decide,by decide⟩ he;rw[show(cH [114]&&(cH [107]&&nJ e))=nJ e from by rw[show cH [114]=true from rfl,show cH [107]=true from rfl];rfl] at hvr;have hro:=D0 ps part i5
 have hak:nJ e=true->Ef ps day e part (iO ps day e part):=λh=>by
  unfold nJ at h;rw[ac] at h;exact B6 ps day hlen hps _ e part (bw _) he h.2
 unfold Ef at hak;unfold nP;refine pB 25 Tryz.func19 ?_;rw[cr e] at hvr hak ⊢
 refine(zV) ?_;refine zZ [(2,ah part),(3,ab day),(4,.ip [an 14 ps ae]),(5,.ptr 1 0)] 0 rfl (gu @an.eq_1)<|zZ [(2,ah part),(3,ab day),(4,.ip [an 14 ps ae]),(5,AF e)] 1 rfl (gu @an.eq_1)<|zA [(2,ah part),(3,ab day),(4,.ip [an 14 ps ae]),(5,AF e)] [] zH<|(zC)<|(zK hvr) ?_
 cases g:nJ e
 ·exact(zR)<|(cF)<|zo [.tmp 8] (hq:=by rw[v6 (λh=>bt h.1)])
 refine(zQ)<|(zK hro) ?_
 cases g2:decide (Kr ps part=[]);rotate_left
 ·exact(cJ g2)<|(cF)<|zo [.tmp 8] (hq:=by rw[v6 (λh=>h.2 (ww g2))])
 exact(cJ g2)<|(Mj)<|(zK (hak g))<|(zR)<|zo [.tmp 8] (hq:=by rw[ut ⟨by trivial,wt g2⟩])
def Hn{α:Type}{p:α->Bool}{l:List α}(h:∀(i:Nat) y,i<l.length->l[i]?=some y->p y=false):l.any p=false:=by
 rw[List.any_eq_false];intro x hx;obtain⟨i,hi⟩:=mem_iff_getElem?.1 hx;rw[h i x (br hi) hi];decide
def Hm{α:Type}{p:α->Bool}{l:List α}{k:Nat}{x:α}(hx:l[k]?=some x)(hp:p x=true):l.any p=true:=any_eq_true.2 ⟨x,ad hx,hp⟩
def A7{l:List (pX)}(p:pX->Bool){fid:FuncId}{first cap:List SV}(hlen:l.length<=1000000)(hp:∀x∈l,PC aa fid ((first++[.ag (du x)])++cap) (·=ak (p x)))(hg:bW first=true/\bW cap=true):PC aa 60 [an 3 l du,.fn fid first cap] (·=ak (l.any p)):=by
 refine pB 17 Tryz.func60 ?_;have hn1:=λo:Nat=>bV (o:=o) hg.1;have hn2:=λo:Nat=>bV (o:=o) hg.2
 refine(aw @an.eq_1)<|(zV)<|(zs) ?_;refine zL l (λk=>∀(i:Nat) y,i<k->l[i]?=some y->p y=false) (λk=>[(0,.sl l.length 3 (l.flatMap du)),(1,.fn fid first cap),(7,.sl l.length 3 (l.flatMap du)),(8,ab l.length),(9,ab k)]) (λk=>[]) zH zp ?_;intro k hk hall;refine zT l k ?_ ?_;rintro rfl;rotate_left;intro x hx hlt;rotate_left
 ·exact(gh)<|(zV)<|zo [.tmp 4] (hq:=by rw[Hn hall])
 ·refine(gB)<|(aw (cG hlt (aQ (e:=3) (enc:=du) (λ_=>rfl) hx) @du.eq_1))<|zA [(0,.sl l.length 3 (l.flatMap du)),(1,.fn fid first cap),(6,.ptr 0 0),(7,.sl l.length 3 (l.flatMap du)),(8,ab l.length),(9,ab k)] [.cells (du x)] (bX (gm hn1 hn2 @f3 @az.{1}))<|(fb @du.eq_1)<|(zK (hp x (mem_iff_getElem?.2 ⟨k,hx⟩)) (hwk:=((bg.refl hg.1).app (bg.refl rfl)).app (bg.refl hg.2))) ?_;refine aT.nil ?_
  change aE _ _ _ _ _;cases hpx:p x
  ·refine(zN)<|(aw (zi hlt hlen)) ?_;refine zX hlt zH ?_
   intro i y hi hy;by_cases hik:i=k
   ·subst hik;rw[hx] at hy;cases hy;exact hpx
   ·exact hall i y i5 hy
  ·exact(cF)<|zo [.tmp 4] (hq:=by rw[Hm hx hpx])
def D2{l:List (wy)}(p:wy->Bool){fid:FuncId}{first cap:List SV}(hlen:l.length<=1000000)(hp:∀x∈l,PC aa fid ((first++[.ag (eB x)])++cap) (·=ak (p x)))(hg:bW first=true/\bW cap=true):PC aa 67 [an 5 l eB,.fn fid first cap] (·=ak (l.any p)):=by
 refine pB 17 Tryz.func67 ?_;have hn1:=λo:Nat=>bV (o:=o) hg.1;have hn2:=λo:Nat=>bV (o:=o) hg.2
 refine(aw @an.eq_1)<|(zV)<|(zs) ?_;refine zL l (λk=>∀(i:Nat) y,i<k->l[i]?=some y->p y=false) (λk=>[(0,.sl l.length 5 (l.flatMap eB)),(1,.fn fid first cap),(7,.sl l.length 5 (l.flatMap eB)),(8,ab l.length),(9,ab k)]) (λk=>[]) zH zp ?_;intro k hk hall;refine zT l k ?_ ?_;rintro rfl;rotate_left;intro x hx hlt;rotate_left
 ·exact(gh)<|(zV)<|zo [.tmp 4] (hq:=by rw[Hn hall])
 ·refine(gB)<|(aw (cG hlt (aQ (e:=5) (enc:=eB) (λ_=>rfl) hx) @eB.eq_1))<|zA [(0,.sl l.length 5 (l.flatMap eB)),(1,.fn fid first cap),(6,.ptr 0 0),(7,.sl l.length 5 (l.flatMap eB)),(8,ab l.length),(9,ab k)] [.cells (eB x)] (bX (gm hn1 hn2 @f3 @az.{1}))<|(fb @eB.eq_1)<|(zK (hp x (mem_iff_getElem?.2 ⟨k,hx⟩)) (hwk:=((bg.refl hg.1).app (bg.refl rfl)).app (bg.refl hg.2))) ?_;refine aT.nil ?_
  change aE _ _ _ _ _;cases hpx:p x
  ·refine(zN)<|(aw (zi hlt hlen)) ?_;refine zX hlt zH ?_
   intro i y hi hy;by_cases hik:i=k
   ·subst hik;rw[hx] at hy;cases hy;exact hpx
   ·exact hall i y i5 hy
  ·exact(cF)<|zo [.tmp 4] (hq:=by rw[Hm hx hpx])
def GM{l:List (ai)}(p:ai->Bool){fid:FuncId}{first cap:List SV}(hlen:l.length<=1000000)(hp:∀x∈l,PC aa fid ((first++[.ag (ae x)])++cap) (·=ak (p x)))(hg:bW first=true/\bW cap=true):PC aa 151 [an 14 l ae,.fn fid first cap] (·=ak (l.any p)):=by
 refine pB 17 Tryz.func151 ?_;have hn1:=λo:Nat=>bV (o:=o) hg.1;have hn2:=λo:Nat=>bV (o:=o) hg.2
 refine(aw @an.eq_1)<|(zV)<|(zs) ?_;refine zL l (λk=>∀(i:Nat) y,i<k->l[i]?=some y->p y=false) (λk=>[(0,.sl l.length 14 (l.flatMap ae)),(1,.fn fid first cap),(7,.sl l.length 14 (l.flatMap ae)),(8,ab l.length),(9,ab k)]) (λk=>[]) zH zp ?_;intro k hk hall;refine zT l k ?_ ?_;rintro rfl;rotate_left;intro x hx hlt;rotate_left
 ·exact(gh)<|(zV)<|zo [.tmp 4] (hq:=by rw[Hn hall])
 ·refine(gB)<|(aw (cG hlt (aQ (e:=14) (enc:=ae) (λ_=>rfl) hx) @ae.eq_1))<|zA [(0,.sl l.length 14 (l.flatMap ae)),(1,.fn fid first cap),(6,.ptr 0 0),(7,.sl l.length 14 (l.flatMap ae)),(8,ab l.length),(9,ab k)] [.cells (ae x)] (bX (gm hn1 hn2 @f3 @az.{1}))<|(fb @ae.eq_1)<|(zK (hp x (mem_iff_getElem?.2 ⟨k,hx⟩)) (hwk:=((bg.refl hg.1).app (bg.refl rfl)).app (bg.refl hg.2))) ?_;refine aT.nil ?_
  change aE _ _ _ _ _;cases hpx:p x
  ·refine(zN)<|(aw (zi hlt hlen)) ?_;refine zX hlt zH ?_
   intro i y hi hy;by_cases hik:i=k
   ·subst hik;rw[hx] at hy;cases hy;exact hpx
   ·exact hall i y i5 hy
  ·exact(cF)<|zo [.tmp 4] (hq:=by rw[Hm hx hpx])
def DA(x:pX)(part fC:List Nat)(day:Int):PC aa 61 ([.ag (du x)]++[.ip [ah part],.ip [ah fC],.ip [ab day]]) (·=ak (decide (x.part=part)&&(decide (x.fC=fC)&&decide (day<=x.to)))):=by
 refine pB 22 Tryz.func61 ?_;refine(aw @du.eq_1) ?_;cases g1:decide (x.part=part)
 ·exact(aw g1)<|zo [.tmp 5]
 cases g2:decide (x.fC=fC)
 ·exact(aw (bq g1 g2))<|zo [.tmp 5]
 ·exact(aw (bq g1 g2))<|zo [.tmp 5]
def DB(l:List pX)(part fC:List Nat)(day:Int)(hlen:l.length<=1000000):PC aa 20 [an 3 l du,ah part,ah fC,ab day] (·=ak (sY l part fC day)):=by
 have hs:=A7 (l:=l) (λx=>decide (x.part=part)&&(decide (x.fC=fC)&&decide (day<=x.to))) (fid:=61) (first:=[]) (cap:=[.ip [ah part],.ip [ah fC],.ip [ab day]]) hlen (λx _=>DA x part fC day) ⟨rfl,rfl⟩
 refine pB 12 Tryz.func20 ?_;refine(zV) ?_;exact zZ [(0,an 3 l du),(5,.ip [ah part]),(6,.ptr 1 0),(7,.ptr 2 0)] 0 rfl (gu @an.eq_1)<|zZ [(0,an 3 l du),(5,.ip [ah part]),(6,.ip [ah fC]),(7,.ptr 2 0)] 1 rfl (gu @an.eq_1)<|zZ [(0,an 3 l du),(5,.ip [ah part]),(6,.ip [ah fC]),(7,.ip [ab day])] 2 rfl (gu @an.eq_1)<|zA [(0,an 3 l du),(5,.ip [ah part]),(6,.ip [ah fC]),(7,.ip [ab day])] [] zH<|(zC)<|(zK hs)<|(zR)<|zo [.tmp 8]
def Gx{l:List (Int)}(p:Int->Bool){fid:FuncId}{first cap:List SV}(hlen:l.length<=1000000)(hp:∀x∈l,PC aa fid ((first++[ab x])++cap) (·=ak (p x)))(hg:bW first=true/\bW cap=true):PC aa 160 [an 1 l (aB ab),.fn fid first cap] (·=ab (fR p l)):=by
 refine pB 19 Tryz.func160 ?_;refine(aw @an.eq_1)<|(zV)<|(zs) ?_;refine zL l (λk=>∀(i:Nat) y,i<k->l[i]?=some y->p y=false) (λk=>[(0,.sl l.length 1 (l.flatMap (aB ab))),(1,.fn fid first cap),(7,ab l.length),(8,ab k)]) (λk=>[]) zH zp ?_;intro k hk hall;refine zT l k ?_ ?_;rintro rfl;rotate_left;intro x hx hlt;rotate_left
 ·exact(gh)<|(zV)<|zo [.tmp 4] (hq:=by rw[ig hall])
 ·refine(gB)<|(zV)<|(fb (cG hlt (aQ (e:=1) (enc:=(aB ab)) (λ_=>rfl) hx) @aB.eq_1))<|(zK (hp x (mem_iff_getElem?.2 ⟨k,hx⟩)) (hwk:=((bg.refl hg.1).app (bg.refl rfl)).app (bg.refl hg.2))) ?_;refine aT.nil ?_
  change aE _ _ _ _ _;cases hpx:p x
  ·refine(zN)<|(aw (zi hlt hlen)) ?_;refine zX hlt zH ?_
   intro i y hi hy;by_cases hik:i=k
   ·subst hik;rw[hx] at hy;cases hy;exact hpx
   ·exact hall i y i5 hy
  ·exact(cF)<|zo [.tmp 4] (hq:=by rw[lR hx hpx hall])
def vR{l:List (Int)}(p:Int->Bool){fid:FuncId}{first cap:List SV}(hlen:l.length<=1000000)(hp:∀x∈l,PC aa fid ((first++[ab x])++cap) (·=ak (p x)))(hg:bW first=true/\bW cap=true):PC aa 80 [an 1 l (aB ab),.fn fid first cap] (·=ak (l.any p)):=by
 refine pB 9 Tryz.func80 ?_;exact(jt)<|(zK (Gx p hlen hp hg) (hwk:=.cons (Wk.sl _ _ _) (.cons (.fn (bg.refl hg.1) (bg.refl hg.2)) .nil)))<|(zR)<|zo [.tmp 4] (hq:=by rw[nq])
def AX(l:List Int)(s:Int)(hlen:l.length<=1000000):PC aa 161 [an 1 l (aB ab),ab s] (·=ab (fR (λx=>decide (s=x)) l)):=by
 refine pB 19 Tryz.func161 ?_;refine(oa)<|(zs) ?_;refine zL l (λk=>∀(i:Nat) y,i<k->l[i]?=some y->decide (s=y)=false) (λk=>[(0,.sl l.length 1 (l.flatMap (aB ab))),(1,ab s),(7,ab l.length),(8,ab k)]) (λk=>[]) zH zp ?_;intro k hk hall;refine zT l k ?_ ?_;rintro rfl;rotate_left;intro x hx hlt;rotate_left
 ·exact(gh)<|(zV)<|zo [.tmp 4] (hq:=by rw[ig hall])
 ·refine(gB)<|(zV)<|(aw (cG hlt (aQ (e:=1) (enc:=aB ab) (λ_=>rfl) hx) @aB.eq_1)) ?_
  cases hpx:decide (s=x)
  ·refine(zN)<|(aw (zi hlt hlen)) ?_;refine zX hlt zH ?_
   intro i y hi hy;by_cases hik:i=k
   ·subst hik;rw[hx] at hy;cases hy;exact hpx
   ·exact hall i y i5 hy
  ·exact(cF)<|zo [.tmp 4] (hq:=by rw[lR hx hpx hall])
def vw(l:List Int)(s:Int)(hlen:l.length<=1000000):PC aa 82 [an 1 l (aB ab),ab s] (·=ak (l.contains s)):=by
 have hc:l.contains s=l.any λx=>decide (s=x):=by
  rw[Bool.eq_iff_iff,List.contains_iff_mem,any_eq_true];exact⟨λh=>⟨s,h,wl rfl⟩,λ⟨x,h,e⟩=>by rw[ww e];exact h⟩
 rw[hc]
 refine pB 9 Tryz.func82 ?_;exact(jt)<|(zK (AX l s hlen))<|(zR)<|zo [.tmp 4] (hq:=by rw[nq])
def L5(h:mu)(m:Int)(hlen:h.back.length<=1000000):PC aa 81 ([ab m]++[.ip (cB h)]) (·=ak (!h.back.contains m)):=by
 refine pB 9 Tryz.func81 ?_;exact(zV)<|(fb @cB.eq_1)<|(zK (vw h.back m hlen))<|(zR)<|zo [.tmp 3]
def L6(h:mu)(hm:h.members.length<=1000000)(hb:h.back.length<=1000000):PC aa 32 [.ag (cB h)] (·=ak (AN h)):=by
 refine pB 7 Tryz.func32 ?_;refine(aw @cB.eq_1) ?_;exact zZ [(1,.ip (cB h))] 0 rfl (gu (bq @an.eq_1 @cB.eq_1))<|zA [(1,.ip (cB h))] [] zH<|(fb @cB.eq_1)<|(zK (vR (l:=h.members) (λm=>!h.back.contains m) (fid:=81) (first:=[]) (cap:=[.ip (cB h)]) hm (λm _=>L5 h m hb) ⟨rfl,rfl⟩))<|(zR)<|zo [.tmp 2]
def DP(l:List aL)(kind name other:List Nat)(hlen:l.length<=1000000)(hs:∀k∈l,k.bJ.length<=1000000/\∀s∈k.bJ,s.kinds.length<=1000000):PC aa 66 [.ag [an 3 l ao],ah kind,ah name,ah other] (·=ak (rl l kind name other)):=by
 refine pB 34 Tryz.func66 ?_;have hF:=Am l kind name hlen λk hk=>(hs k hk).1;refine(jt) ?_;unfold rl
 cases hf:(dg l kind).bind λk=>ph k.bJ name with
 | none=>
  rw[hf] at hF
  exact(zK hF (hfl:=.inr (bg.refl rfl)))<|(cJ (cG @iV.eq_1 @bF.eq_1 @jU.zero.eq_1))<|(zC)<|(zK (nV [] other gt) (hwk:=bg.refl rfl))<|(zR)<|(zV)<|zo [.tmp 8]
 | some q=>
  have hq:q.kinds.length<=1000000:=by
   obtain⟨k,hk,h2⟩:=ul hf;exact(hs k (ca hk)).2 q (ca h2)
  rw[hf] at hF;have hI:=nV q.kinds other hq;obtain⟨j,hj⟩:∃j,j=fR (λx=>decide (other=x)) q.kinds:=⟨_,rfl⟩;rw[<-hj] at hI
  refine(zK hF (hfl:=.inr (bg.refl rfl)))<|(cJ (bq @iV.eq_1 @bF.eq_1))<|(zC)<|(zK hI)<|(zR) ?_
  cases g:decide (0<=j)
  ·exact(aw g)<|zo [.tmp 8] (hq:=by show _=ak (decide (0<=fR (λx=>decide (other=x)) q.kinds)&&decide (fR (λx=>decide (other=x)) q.kinds<q.normal));rw[<-hj,g];rfl)
  ·exact(aw g)<|zo [.tmp 8] (hq:=by show _=ak (decide (0<=fR (λx=>decide (other=x)) q.kinds)&&decide (fR (λx=>decide (other=x)) q.kinds<q.normal));rw[<-hj,g];rfl)
def Ds(x p h:ai)(slot:List Nat):PC aa 152 ([.ag (ae x)]++[.ip (ae p++ae h),.ip [ah slot]]) (·=ak (decide (x.aR=p.aR)&&(decide (x.slot=slot)&&decide (x.kind=p.kind)))):=by
 refine pB 25 Tryz.func152 ?_;refine(aw @ae.eq_1) ?_;cases g1:decide (x.aR=p.aR)
 ·exact(aw (gm g1 @ae.eq_1 @cons_append.{0} @nil_append.{0}))<|zo [.tmp 4]
 cases g2:decide (x.slot=slot)
 ·exact(aw (lM g1 g2 @ae.eq_1 @cons_append.{0} @nil_append.{0}))<|zo [.tmp 4]
 ·exact(aw (lM g1 g2 @ae.eq_1 @cons_append.{0} @nil_append.{0}))<|zo [.tmp 4]
def Dt(ps:List ai)(p h:ai)(slot:List Nat)(hlen:ps.length<=1000000):PC aa 69 [.ag (ae p++ae h),.ag [an 14 ps ae],ah slot] (·=ak (xc ps p slot)):=by
 have hs:=GM (l:=ps) (λx=>decide (x.aR=p.aR)&&(decide (x.slot=slot)&&decide (x.kind=p.kind))) (fid:=152) (first:=[]) (cap:=[.ip (ae p++ae h),.ip [ah slot]]) hlen (λx _=>Ds x p h slot) ⟨rfl,rfl⟩
 refine pB 11 Tryz.func69 ?_;refine(aw (cG @ae.eq_1 @cons_append.{0} @nil_append.{0})) ?_;exact zZ [(3,.ip (ae p++ae h)),(4,.ptr 1 0),(5,.ptr 2 0)] 0 rfl (gu (bq @an.eq_1 @ae.eq_1))<|zZ [(3,.ip (ae p++ae h)),(4,.ip [an 14 ps ae]),(5,.ptr 2 0)] 1 rfl (gu @an.eq_1)<|zZ [(3,.ip (ae p++ae h)),(4,.ip [an 14 ps ae]),(5,.ip [ah slot])] 2 rfl (gu @an.eq_1)<|zA [(3,.ip (ae p++ae h)),(4,.ip [an 14 ps ae]),(5,.ip [ah slot])] [] zH<|(zC)<|(zK hs)<|(zR)<|zo [.tmp 6]
end Go.Proofs
