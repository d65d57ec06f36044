/- Lemmas of this claim, each with its conditions. -/
import Derived.Test.YtjiejanfnnieaaaGreatA6
import Derived.Test.YtjiejanfnnieaaaGreatA5
import Derived.Test.YtjiejanfnnieaaaGreatA4
import Derived.Test.YtjiejanfnnieaaaGreatA3
import Derived.Test.YtjiejanfnnieaaaGreatA2
set_option linter.all false
set_option maxHeartbeats 8000000
open List (nil_append mem_iff_getElem? cons_append all_eq_true drop_zero flatMap_cons any_eq_true set_cons_zero take_zero map_map)
open Prod (ext)
open Bool (not_not)
open Go.Proofs.Tryz (func129 func215 func216 func224 func274)
open Go.Proofs.Tryz renaming prog -> aa, func136 -> c5
open Bool renaming and_eq_true -> ac, not_eq_true' -> ap, false_ne_true -> bk, not_eq_true -> fy, or_self -> f4, or_eq_true -> f5, true_and -> gd
open List renaming mem_of_getElem? -> ad, length_map -> af, mem_cons_of_mem -> aj, mem_cons_self -> al, mem_map_of_mem -> am, drop_of_length_le -> bb, length_take -> bd, take_of_length_le -> bs, map_cons -> bv, take_append_of_le_length -> bw, append_nil -> b0, take_length -> b7, find?_cons -> b9, mem_of_find?_eq_some -> ca, flatMap_append -> cb, set_eq_take_append_cons_drop -> cc, drop_append -> ce, getElem?_cons_succ -> ci, append_assoc -> cl, sizeOf_lt_of_mem -> cn, drop_length -> cp, mem_or_eq_of_mem_set -> c6, getElem?_drop -> dd, getElem?_take -> dl, getElem?_cons_zero -> dt, replicate -> dv, takeWhile -> dF, filter_cons -> d7, length_filter_le -> d8, all_append -> d9, length_set -> el, mem_of_mem_drop -> em, mem_of_mem_take -> es, drop_succ_cons -> e4, map_congr_left -> e5, takeWhile_cons -> e6, take_succ_cons -> fd, mem_singleton -> fu, pairwise_cons -> fv, set_cons_succ -> fx, length_drop -> f0, take_append -> f3, map_append -> f6, drop_drop -> f7, length -> f8
open Nat renaming reduceEqDiff -> ay, reduceLeDiff -> ba, reduceAdd -> bc, le_refl -> be, reduceLT -> bh, reduceMul -> bi, add_zero -> bt, lt_succ_self -> bQ, not_lt_zero -> ch, zero_le -> ck, sub_self -> co, min_eq_left -> ct, mul_one -> cv, le_trans -> dc, reduceSub -> d6, add_assoc -> f9, zero_add -> g0
open And renaming intro -> b8
open Int renaming le_refl -> ey, toNat_natCast -> fm, le_trans -> gv
namespace Go.Proofs
open Go.Ev
set_option maxRecDepth 100000
def CD(l1 l2 l3 l4 l5 l6:Int):List SV:=[ab l1,ab l2,ab l3,ab l4,ab l5,ab l6]
def TQ(a b x y:List SV)(off:Nat)(h:off=a.length):((a++(x++(y++b))).drop (off+x.length)).take y.length=y:=by
 subst h;rw[ce,show a.length+x.length-a.length=x.length by omega,bb ii,nil_append,ce,co,bb (be _),nil_append,drop_zero,bw (be _),bs (be _)]
def Ui(a b x y z:List SV)(off:Nat)(h:off=a.length)(hz:z.length=y.length):(a++(x++(y++b))).take (off+x.length)++(z++(a++(x++(y++b))).drop (off+x.length+z.length))=a++(x++(z++b)):=by
 subst h
 rw[f3,show a.length+x.length-a.length=x.length by omega,bs ii,bw (be _),bs (be _),
  ce,bb ii,nil_append,show a.length+x.length+z.length-a.length=x.length+z.length by omega,ce,bb ii,nil_append,show x.length+z.length-x.length=y.length by omega,ce,bb (be _),nil_append,co,drop_zero]
 simp
def Pp(l1 l2 l3 l4 l5 l6:Int)(u:gm)(d1 d2:Int):List SV:=CD (dC fV l1 l2 u.u1 u.u2).1 (dC fV l1 l2 u.u1 u.u2).2 (dC fV l3 l4 u.u3 u.u4).1 (dC fV l3 l4 u.u3 u.u4).2 (dC fV l5 l6 d1 d2).1 (dC fV l5 l6 d1 d2).2
def E6(a b:List SV)(l1 l2 l3 l4 l5 l6:Int)(u:gm)(d1 d2:Int)(hg:bZ (a++(CD l1 l2 l3 l4 l5 l6++b))=true):SC aa 52 [.ptr 0 a.length,.ag (ew u),lJ d1 d2] [.cells (a++(CD l1 l2 l3 l4 l5 l6++b))] []
 (λr S'=>r=.cq []/\S'=[.cells (a++(Pp l1 l2 l3 l4 l5 l6 u d1 d2++b))]):=by
 refine Qt 35 Tryz.func52 ?_;have hp1:=qx l1 l2 u.u1 u.u2;have hp2:=qx l3 l4 u.u3 u.u4;have hp3:=qx l5 l6 d1 d2;unfold Pp;generalize dC fV l1 l2 u.u1 u.u2=q1 at hp1 ⊢;generalize dC fV l3 l4 u.u3 u.u4=q2 at hp2 ⊢;generalize dC fV l5 l6 d1 d2=q3 at hp3 ⊢;obtain⟨cs,hcs⟩:∃cs,cs=a++(CD l1 l2 l3 l4 l5 l6++b):=⟨_,rfl⟩;rw[<-hcs] at hg ⊢;have hk:∀o:Nat,cs.map (bf o)=cs:=λo=>bV hg
 have hl:cs.length=a.length+(6+b.length):=by rw[hcs,li,li];rfl
 have g1:(cs.drop a.length).take 2=[ab l1,ab l2]:=by rw[hcs];exact TQ a (ab l3::ab l4::ab l5::ab l6::b) [] [ab l1,ab l2] a.length rfl
 have g2:(cs.drop (a.length+2)).take 2=[ab l3,ab l4]:=by rw[hcs];exact TQ a (ab l5::ab l6::b) [ab l1,ab l2] [ab l3,ab l4] a.length rfl
 have g3:(cs.drop (a.length+4)).take 2=[ab l5,ab l6]:=by rw[hcs];exact TQ a b [ab l1,ab l2,ab l3,ab l4] [ab l5,ab l6] a.length rfl
 obtain⟨c1,hc1⟩:∃c1,c1=cs.take a.length++(ab q1.1::ab q1.2::cs.drop (a.length+2)):=⟨_,rfl⟩
 have e1:c1=a++([ab q1.1,ab q1.2]++([ab l3,ab l4,ab l5,ab l6]++b)):=by rw[hc1,hcs];exact Ui a (ab l3::ab l4::ab l5::ab l6::b) [] [ab l1,ab l2] [ab q1.1,ab q1.2] a.length rfl rfl
 obtain⟨c2,hc2⟩:∃c2,c2=c1.take (a.length+2)++(ab q2.1::ab q2.2::c1.drop (a.length+2+2)):=⟨_,rfl⟩
 have e2:c2=a++([ab q1.1,ab q1.2]++([ab q2.1,ab q2.2]++([ab l5,ab l6]++b))):=by rw[hc2,e1];exact Ui a (ab l5::ab l6::b) [ab q1.1,ab q1.2] [ab l3,ab l4] [ab q2.1,ab q2.2] a.length rfl rfl
 obtain⟨c3,hc3⟩:∃c3,c3=c2.take (a.length+4)++(ab q3.1::ab q3.2::c2.drop (a.length+4+2)):=⟨_,rfl⟩
 have e3:c3=a++(CD q1.1 q1.2 q2.1 q2.2 q3.1 q3.2++b):=by rw[hc3,e2];exact Ui a b [ab q1.1,ab q1.2,ab q2.1,ab q2.2] [ab l5,ab l6] [ab q3.1,ab q3.2] a.length rfl rfl
 have hl1:c1.length=a.length+(6+b.length):=by rw[e1];simp;omega
 have hl2:c2.length=a.length+(6+b.length):=by rw[e2];simp;omega
 rw[<-e3];refine(az (cL @ew.eq_1 @lJ.eq_1 hk)) ?_;refine aE.post ?_;refine(zs) ?_;refine oK [0,0,0,0,8,24,56,0,128,504,0,1024,3072,7168,0,16384,65528,0,131072,393216,917504,0,4194296,8388601,16777209,33554425,67108859,134217723,268435451,536870911,1073741823,2147483647] ?_;refine(vD (gh hl (show a.length+2<=a.length+(6+b.length) by omega) g1 @bt)) ?_;refine SD.k g9 rfl rfl g9 rfl rfl (IH @lJ.eq_1) (hp1) (zw) rfl ?_;refine(vD (lB hl @f9 (show a.length+4<=a.length+(6+b.length) by omega) g2 @bt)) ?_;refine SD.k g9 rfl rfl g9 rfl rfl (IH @lJ.eq_1) (hp2) (zw) rfl ?_;refine(vD (lB hl @f9 (show a.length+6<=a.length+(6+b.length) by omega) g3 @bt)) ?_;refine SD.k g9 rfl rfl g9 rfl rfl (IH @lJ.eq_1) (hp3) (zw) rfl ?_;refine(vD @bt) ?_;refine SD.e g9 rfl g9 rfl rfl g9 (sP (wS @oJ.eq_1 @lJ.eq_1 hl @bt (show a.length+2<=a.length+(6+b.length) by omega) (Eq.symm hc1))) ?_;refine(vD @bt) ?_;refine SD.e g9 rfl g9 rfl rfl g9 (sP (lB @oJ.eq_1 @lJ.eq_1 hl1 (show a.length+2+2<=a.length+(6+b.length) by omega) (Eq.symm hc2))) ?_;refine(vD @bt) ?_;refine SD.e g9 rfl g9 rfl rfl g9 (sP (lB @oJ.eq_1 @lJ.eq_1 hl2 (show a.length+4+2<=a.length+(6+b.length) by omega) (Eq.symm hc3))) ?_;refine(zM) ?_;refine⟨⟨[(1000000,.ptr 0 0)],35,[.cells c3],[]⟩,(bN @kS.eq_1),?_⟩;exact zP []
abbrev sy:Nat:=1000000000000000
def ia{α:Type}{p:α->Bool}{l:List α}{k:Nat}{x:α}(hx:l[k]?=some x)(h:(l.take k).all p=true)(hp:p x=true):(l.take (k+1)).all p=true:=by
 rw[c8 hx,d9,h];show(true&&(p x&&true))=true;rw[hp];rfl
inductive lj:bo->Prop
 | mk {op n:Int} {kids:List bo}:kids.length<=sy->(∀k∈kids,lj k)->lj (.mk op n kids)
def vr:∀(d:Nat) (f:bo),SizeOf.sizeOf f<d->lj f->∀most:Int,PC Tryz.prog 154 [.ag (aC f),ab most] (·=ab (fU f most))
 | 0,f,hd,_,_=>ul hd (Nat.not_lt_zero _)
 | d+1,.mk op n kids,hd,hf,most=>by
  cases hf with
  | mk hlen hks=>
  have hkd:∀k∈kids,SizeOf.sizeOf k<d:=λk hk=>by
   have h1:=List.sizeOf_lt_of_mem hk
   have h2:SizeOf.sizeOf (bo.mk op n kids)=1+SizeOf.sizeOf op+SizeOf.sizeOf n+SizeOf.sizeOf kids:=by simp
   omega
  rw[dn,fU]
  refine pB 31 Tryz.func154 ?_;refine(zV) ?_;refine zZ [(1,ab most),(2,.ip [ab op,ab n,an 3 kids aC])] 0 rfl (gV @an.eq_1)<|zA [(1,ab most),(2,.ip [ab op,ab n,an 3 kids aC])] [] zH<|(oL)<|(zs) ?_;refine KG kids (λk (acc:Int)=>iB kids most 1=iB (kids.drop k) most acc) (λk acc=>[(1,ab most),(2,.ip [ab op,ab n,an 3 kids aC]),(5,ab acc),(6,ab k)]) (λk acc=>[]) (1) zH g9 ?_;intro k acc hk hall
  by_cases hlt:k<kids.length;rotate_left
  ·refine(az (show decide ((k:Int)<(kids.length:Int))=false by simp only[wn];omega))<|(gE) ?_
   rw[List.drop_of_length_le ii,iB] at hall
   exact(zV)<|zo [.tmp 4] (hq:=by rw[hall])
  have hd:=show decide ((k:Int)<(kids.length:Int))=true by simp only[wp];omega
  obtain⟨x,hx⟩:∃x,kids[k]?=some x:=⟨kids[k],jp hlt⟩;rw[e9 hx,iB] at hall;have hxm:=List.mem_of_getElem? hx;have ih:=vr d x (hkd x hxm) (hks x hxm);have hxl:((kids.flatMap aC).drop (k*3)).take 3=aC x:=aQ (e:=3) (enc:=aC) fa hx;obtain⟨op',n',kids'⟩:=x;simp only[dn] at hxl ih;cases h1:decide (acc<=most)
  ·rw[un (by have:=wt h1;omega)] at hall
   exact(az (bz hd h1))<|(gE)<|(zV)<|zo [.tmp 4] (hq:=by rw[hall])
  rw[ut (by have:=ww h1;omega)] at hall
  refine(az (bz hd h1))<|(gO)<|(fC (cL hlt hxl @oN))<|(zK (ih (rp most acc)))<|(cH @tM)<|(az (zi hlt hlen)) ?_;refine yL hlt (vI acc (fU (.mk op' n' kids') (rp most acc))) zH hall
def H6(f:bo)(hf:lj f)(most:Int):PC aa 154 [.ag (aC f),ab most] (·=ab (fU f most)):=vr _ f (bQ _) hf most
def Gf(f:bo):Bool:=decide (fU f 80<=80)
def JZ(f:bo)(hf:lj f):PC aa 73 [.ag (aC f)] (·=ak (Proofs.Gf f)):=by
 refine pB 6 Tryz.func73 ?_;have hN:=H6 f hf 80;unfold Proofs.Gf;generalize fU f 80=q at hN ⊢;obtain⟨op,n,kids⟩:=f;rw[dn] at hN ⊢
 exact(jM)<|(zK hN)<|(zR)<|zo [.tmp 2]
def KK{a b:Int}(h : -9223372036854775808<=a+b/\a+b<=9223372036854775807):vI a b=a+b:=by
 have h1:(tF (-9223372036854775808) (a+b)&&tF (a+b) 9223372036854775807)=true:=by
  rw[gM,gM];simp[h.1,h.2]
 unfold vI;simp only[dE,Pq,Pe,h1,ar]
def L8{a b:Int}(h : -9223372036854775808<=a-b/\a-b<=9223372036854775807):rp a b=a-b:=by
 have h1:(tF (-9223372036854775808) (a-b)&&tF (a-b) 9223372036854775807)=true:=by
  rw[gM,gM];simp[h.1,h.2]
 unfold rp;simp only[dE,Pq,Pe,h1,ar]
def CO:∀(d:Nat) (f:bo),SizeOf.sizeOf f<d->∀most:Int,-1000<=most->most<=1000->1<=fU f most/\(fU f most<=most+1\/fU f most=1)/\(fU f most<=most->gZ f)
 | 0,f,hd,_,_,_=>ul hd (Nat.not_lt_zero _)
 | d+1,.mk op n kids,hd,most,h0,h1=>by
  have hkd:∀k∈kids,SizeOf.sizeOf k<d:=λk hk=>by
   have h1:=List.sizeOf_lt_of_mem hk
   have h2:SizeOf.sizeOf (bo.mk op n kids)=1+SizeOf.sizeOf op+SizeOf.sizeOf n+SizeOf.sizeOf kids:=by simp
   omega
  have key:∀(ks:List bo) (acc:Int),(∀k∈ks,k∈kids)->1<=acc->(acc<=most+1\/acc=1)->1<=iB ks most acc/\(iB ks most acc<=most+1\/iB ks most acc=1)/\(iB ks most acc<=most->acc+ks.length<=iB ks most acc/\∀k∈ks,gZ k):=by
   intro ks
   induction ks with
   | nil=>intro acc _ h2 h3;rw[iB];exact⟨h2,h3,λ_=>⟨by simp,λk hk=>by cases hk⟩⟩
   | cons k ks ih=>
    intro acc hm h2 h3;rw[iB];split
    ·rename_i hlt;exact⟨h2,h3,λh=>by omega⟩
    ·rename_i hlt;rw[L8 ii];obtain⟨b1,b2,b3⟩:=CO d k (hkd k (hm k List.mem_cons_self)) (most-acc) ii ii;rw[KK ii];obtain⟨c1,c2,c3⟩:=ih (acc+fU k (most-acc)) (λx hx=>hm x (List.mem_cons_of_mem _ hx)) ii ii;refine⟨c1,c2,λh=>?_⟩;obtain⟨d1,d2⟩:=c3 h;refine⟨by rw[i7];omega,λx hx=>?_⟩
     rcases t6 hx with rfl | hx
     ·exact b3 ii
     ·exact d2 x hx
  rw[fU];obtain⟨c1,c2,c3⟩:=key kids 1 (λ_ h=>h) (Int.le_refl _) (.inr rfl);refine⟨c1,c2,λh=>?_⟩;obtain⟨d1,d2⟩:=c3 h;exact .mk ii d2
def OZ{f:bo}(h:Gf f=true):gZ f:=(CO _ f (bQ _) 80 gt gt).2.2 (ww h)
def qu(s:ku):Bool:=!(decide (100<(s.name.length:Int)))&&(!(decide (15<(s.kinds.length:Int)))&&s.kinds.all λn=>!(decide (100<(n.length:Int))))
def oE(k:aK):Bool:=!(decide (100<(k.name.length:Int)))&&(!(decide (15<(k.bH.length:Int)))&&k.bH.all qu)
def tZ(c:List aK):Bool:=!(decide (65<(c.length:Int)))&&c.all oE
def iU{α:Type}{p:α->Bool}{l:List α}{x:α}(hx:x∈l)(hp:p x=false):l.all p=false:=Bool.eq_false_iff.2 λh=>by
 have:=all_eq_true.1 h x hx;rw[hp] at this;cases this
def J0(c:List aK):PC aa 72 [.ag [an 3 c aq]] (·=ak (Proofs.tZ c)):=by
 refine pB 80 Tryz.func72 ?_;refine(zV) ?_;refine zZ [(1,.ip [an 3 c aq])] 0 rfl (gV @an.eq_1)<|zA [(1,.ip [an 3 c aq])] [] zH ?_
 cases g1:decide (65<(c.length:Int));rotate_left
 ·exact(az g1)<|(cB)<|zo [.tmp 2] (hq:=by rw[Proofs.tZ,g1];rfl)
 have hlen:c.length<=1000000:=by have:=wt g1;omega
 have hN:Proofs.tZ c=c.all oE:=by rw[Proofs.tZ,g1];rfl
 refine(az g1)<|(ly)<|(zs) ?_;refine zL c (λk=>(c.take k).all oE=true) (λk=>[(1,.ip [an 3 c aq]),(3,ab k)]) (λk=>[]) zH zp ?_;intro k hk hall
 by_cases hlt:k<c.length;rotate_left
 ·obtain rfl:k=c.length:=by omega
  rw[b7] at hall
  exact(az (show decide ((c.length:Int)<(c.length:Int))=false by simp))<|(gE)<|(zV)<|zo [.tmp 2] (hq:=by rw[hN,hall])
 have hd:=show decide ((k:Int)<(c.length:Int))=true by simp only[wp];omega
 obtain⟨x,hx⟩:∃x,c[k]?=some x:=⟨c[k],jp hlt⟩
 have hbad:oE x=false->Proofs.tZ c=false:=λh=>by rw[hN];exact iU (ad hx) h
 refine(az hd)<|(gO) ?_
 (repeat refine aE.seq ?_)
 refine(az (cL hlt (aQ (e:=3) (enc:=aq) (λ_=>rfl) hx) @aq.eq_1)) ?_;refine zZ [(1,.ip [an 3 c aq]),(3,ab k),(4,.ip [ah x.name,ak x.vehicle,an 3 x.bH bE])] 0 rfl (gV @an.eq_1)<|zA [(1,.ip [an 3 c aq]),(3,ab k),(4,.ip [ah x.name,ak x.vehicle,an 3 x.bH bE])] [] zH ?_
 cases j1:decide (100<(x.name.length:Int));rotate_left
 ·exact(az j1)<|(cB)<|zo [.tmp 2] (hq:=by rw[hbad (by rw[oE,j1];rfl)])
 cases j2:decide (15<(x.bH.length:Int));rotate_left
 ·exact(az (bz j1 j2))<|(cB)<|zo [.tmp 2] (hq:=by rw[hbad (by rw[oE,j1,j2];rfl)])
 have hkx:oE x=x.bH.all qu:=by rw[oE,j1,j2];rfl
 have hlen2:x.bH.length<=1000000:=by have:=wt j2;omega
 refine(az (bz j1 j2))<|(ly)<|(zs) ?_;refine zL x.bH (λk2=>(x.bH.take k2).all qu=true) (λk2=>[(1,.ip [an 3 c aq]),(3,ab k),(4,.ip [ah x.name,ak x.vehicle,an 3 x.bH bE]),(5,ab k2)]) (λk2=>[]) zH zp ?_;intro k2 hk2 hall2
 by_cases hlt2:k2<x.bH.length;rotate_left
 ·obtain rfl:k2=x.bH.length:=by omega
  rw[b7] at hall2
  refine(az (show decide ((x.bH.length:Int)<(x.bH.length:Int))=false by simp))<|(gE)<|(az (zi hlt hlen)) ?_;refine zX hlt zH (ia hx hall (by rw[hkx,hall2]))
 have hd2:=show decide ((k2:Int)<(x.bH.length:Int))=true by simp only[wp];omega
 obtain⟨y,hx2⟩:∃y,x.bH[k2]?=some y:=⟨x.bH[k2],jp hlt2⟩
 have hbad2:qu y=false->oE x=false:=λh=>by rw[hkx];exact iU (ad hx2) h
 refine(az hd2)<|(gO) ?_
 (repeat refine aE.seq ?_)
 cases j3:decide (100<(y.name.length:Int));rotate_left
 ·exact(az (gh hlt2 (aQ (e:=3) (enc:=bE) (λ_=>rfl) hx2) @bE.eq_1 j3))<|(cB)<|zo [.tmp 2] (hq:=by rw[hbad (hbad2 (by rw[qu,j3];rfl))])
 cases j4:decide (15<(y.kinds.length:Int));rotate_left
 ·exact(az (lB hlt2 (aQ (e:=3) (enc:=bE) (λ_=>rfl) hx2) @bE.eq_1 j3 j4))<|(cB)<|zo [.tmp 2] (hq:=by rw[hbad (hbad2 (by rw[qu,j3,j4];rfl))])
 have hky:qu y=y.kinds.all λn=>!(decide (100<(n.length:Int))):=by rw[qu,j3,j4];rfl
 have hlen3:y.kinds.length<=1000000:=by have:=wt j4;omega
 refine(az (lB hlt2 (aQ (e:=3) (enc:=bE) (λ_=>rfl) hx2) @bE.eq_1 j3 j4))<|(ly)<|(zs) ?_;refine zL y.kinds (λk3=>((y.kinds.take k3).all λn=>!(decide (100<(n.length:Int))))=true) (λk3=>[(1,.ip [an 3 c aq]),(3,ab k),(4,.ip [ah x.name,ak x.vehicle,an 3 x.bH bE]),(5,ab k2),(6,ab k3)]) (λk3=>[]) zH zp ?_;intro k3 hk3 hall3
 by_cases hlt3:k3<y.kinds.length;rotate_left
 ·obtain rfl:k3=y.kinds.length:=by omega
  rw[b7] at hall3
  refine(az (gh hlt2 (aQ (e:=3) (enc:=bE) (λ_=>rfl) hx2) @bE.eq_1 (show decide ((y.kinds.length:Int)<(y.kinds.length:Int))=false by simp)))<|(gE)<|(az (zi hlt2 hlen2)) ?_;refine zX hlt2 zH (ia hx2 hall2 (by rw[hky,hall3]))
 have hd3:=show decide ((k3:Int)<(y.kinds.length:Int))=true by simp only[wp];omega
 obtain⟨z,hx3⟩:∃z,y.kinds[k3]?=some z:=⟨y.kinds[k3],jp hlt3⟩
 refine(az (gh hlt2 (aQ (e:=3) (enc:=bE) (λ_=>rfl) hx2) @bE.eq_1 hd3))<|(gO) ?_
 cases j5:decide (100<(z.length:Int));rotate_left
 ·exact(az (F4 hlt2 (aQ (e:=3) (enc:=bE) (λ_=>rfl) hx2) @bE.eq_1 hlt3 (aQ (e:=1) (enc:=aD ah) (λ_=>rfl) hx3) @aD.eq_1 j5))<|(cB)<|zo [.tmp 2] (hq:=by rw[hbad (hbad2 (by rw[hky];exact iU (ad hx3) (by rw[j5];rfl)))])
 refine(az (F4 hlt2 (aQ (e:=3) (enc:=bE) (λ_=>rfl) hx2) @bE.eq_1 hlt3 (aQ (e:=1) (enc:=aD ah) (λ_=>rfl) hx3) @aD.eq_1 j5))<|(zN)<|(az (zi hlt3 hlen3)) ?_;refine zX hlt3 zH (ia hx3 hall3 (by rw[j5];rfl))
structure UI (e:aV):Prop where
 part:∀b∈e.part,b<256
 kind:∀b∈e.kind,b<256
 aJ:∀b∈e.aJ,b<256
 slot:∀b∈e.slot,b<256
 key:∀b∈e.key,b<256
 value:∀b∈e.value,b<256
def O0{c:List aK}(h:tZ c=true)(hb:∀k∈c,(∀b∈k.name,b<256)/\∀s∈k.bH,∀b∈s.name,b<256):mS c:=by
 unfold tZ at h;simp only[ac,ap,wn,all_eq_true] at h
 have hk:∀k∈c,k.name.length<=100/\k.bH.length<=15/\∀s∈k.bH,s.name.length<=100/\s.kinds.length<=15:=λk hk=>by
  have:=h.2 k hk;unfold oE at this;simp only[ac,ap,wn,all_eq_true] at this;refine⟨by omega,by omega,λs hs=>?_⟩;have:=this.2.2 s hs;unfold qu at this;simp only[ac,ap,wn] at this;omega
 exact⟨by omega,λk h1=>⟨⟨by have:=hk k h1;omega,(hb k h1).1⟩,by have:=hk k h1;omega⟩,λk h1 s hs=>⟨⟨by have:=(hk k h1).2.2 s hs;omega,(hb k h1).2 s hs⟩,by have:=(hk k h1).2.2 s hs;omega⟩⟩
end Go.Proofs
namespace Go.Ev
open Go.RowKit Go.ChangeShapes Go.WideShapes Go.Deep
noncomputable section
mutual
def Gc:DV->SV
 | .fl a=>.a a
 | .sl _ n e cs=>.sl n e (eS cs)
 | .ag cs=>.ag (eS cs)
def eS:List DV->List SV
 | []=>[]
 | d::ds=>Gc d::eS ds
end
def Gd:∀a b:List DV,eS (a++b)=eS a++eS b
 | [],b=>rfl
 | d::a,b=>by rw[cons_append,eS,eS,Gd a b,cons_append]
def JH(h:H):kG:=λid=>if id<h.next then h.aU.get id else none
def Sv(h:H):N4 (JH h) h:=by
 intro id ob hi;unfold JH at hi;split at hi
 ·rename_i hl;exact⟨hl,hi⟩
 ·cases hi
def Qb{h:H}{id:Nat}{row:List AV}(hl:id<h.next)(hr:sw h.aU id=some row):wI (JH h) id=some row:=by
 unfold wI JH;rw[un hl];unfold sw at hr
 cases hg:h.aU.get id with
 | none=>rw[hg] at hr;cases hr
 | some o=>
  rw[hg] at hr
  cases o<;>first | exact hr | cases hr
mutual
def Dp.gs{s:Bool}{h:H}:∀{d:DV} {a:AV},Dp s h d a->GS (JH h) (Gc d) a
 | .fl a0,a,hd=>by
  rw[UH] at hd;rw[Gc,GS];exact hd.1
 | .sl nl n e cs,a,hd=>by
  rw[KI] at hd;rw[Gc,GS]
  rcases hd with⟨h1,h2,⟨o,e',c,h3,h4,h5⟩,_⟩ | ⟨_,id,off,cap,row,aS,e1,h1,h2,h3,h4,h5⟩
  ·subst h2;exact .inl ⟨h1,by rw[eS],o,e',c,by rw[h3],h4,h5⟩
  ·exact .inr ⟨id,off,cap,row,e1,Qb h1 h2,h3,by rw[<-h4];exact FB.gs h5⟩
 | .ag cs,a,hd=>by
  rw[UG] at hd;obtain⟨aS,e1,h1⟩:=hd;rw[Gc,GS];exact⟨aS,e1,FB.gs h1⟩
def FB.gs{s:Bool}{h:H}:∀{ds:List DV} {aS:List AV},FB s h ds aS->kn (JH h) (eS ds) aS
 | [],aS,hd=>by rw[Q2] at hd;rw[eS,kn];exact hd
 | d::ds,aS,hd=>by
  rw[NY] at hd;obtain⟨a,r,e1,h1,h2⟩:=hd;rw[eS,kn];exact⟨a,r,e1,Dp.gs h1,FB.gs h2⟩
end
def T5{P:Program}(hng:tG P){f:FuncId}{fn:Func}(hf:P.funcs[f]?=some fn)(hb:fn.body.isSome=true){w:World}{ds:List DV}{args':Array Value}(hw:nL w ds args'.toList)
 (hc:PC P f (eS ds) (·=.a (.bool true))):Calls P f args' w λe w'=>e=.returned (.bool true)/\Below w.heap.size w w':=by
 obtain⟨σ,k1,k2⟩:=hw.lay;have hd:=nL.dp (rows:=(eX ds 0).2) hw 0 (λi r hr=>by rw[g0];exact hr);have hfine:=hc (JH _) _ _ (Sv _) hd.gs σ w args' k1 k2;rw[ei hng hf hb] at hfine;refine Calls.mono hfine λe w' ⟨x,he,a,h',⟨r,ρ',hr,_,_,hg⟩,σ',hV,hr',hE⟩=>?_;subst hr;rw[GS] at hg;subst hg;cases hV;exact⟨he,I5 hE⟩
end
end Go.Ev
namespace Go.Proofs
open Go.Ev
set_option maxRecDepth 100000
abbrev i6:Ty:=.int .i64
def DQ:List Ty:=[i6,i6,.str,.str,.str,.str,.str,.str,.st [.st [i6,i6],.st [i6,i6],.st [i6,i6]]]
def JN:List Ty:=[.str,.sl .str,i6]
def wg:List Ty:=[.str,.bool,.sl (.st JN)]
def oS:Nat->Ty
 | 0=>.no 3
 | 1=>.st [.no 1,.no 1,.no 1]
 | j+2=>.st [i6,i6,.sl (oS j)]
def td:∀j,(oS j).size=3
 | 0=>rfl
 | 1=>rfl
 | j+2=>rfl
def me{α:Type}(enc:α->List SV)(ok:α->Prop):∀{rows:List (List DV)},(∀r∈rows,∃x,eS r=enc x/\ok x)->∃xs:List α,xs.length=rows.length/\eS rows.flatten=xs.flatMap enc/\∀x∈xs,ok x
 | [],_=>⟨[],rfl,rfl,λx hx=>by cases hx⟩
 | r::rows,h=>by
  obtain⟨x,h1,h2⟩:=h r al;obtain⟨xs,h3,h4,h5⟩:=me enc ok (rows:=rows) λq hq=>h q (aj _ hq);refine⟨x::xs,by rw[i7,i7,h3],by rw[List.flatten_cons,Gd,h1,h4,flatMap_cons],λy hy=>?_⟩
  rcases t6 hy with rfl | hy
  ·exact h2
  ·exact h5 y hy
def nf{α:Type}{enc:α->List SV}{nl:Bool}{e:Nat}{rows:List (List DV)}{xs:List α}(h1:xs.length=rows.length)(h2:eS rows.flatten=xs.flatMap enc):Gc (.sl nl rows.length e rows.flatten)=an e xs enc:=by
 rw[Gc,h2,an,h1]
section
variable {B:Nat} {ds:List DV}
def S8(hk:ee B DQ ds):∃e:aV,eS ds=ao e/\UI e:=by
 unfold DQ at hk;obtain⟨a1,r,rfl,_,hk⟩:=dL hk;obtain⟨a2,r,rfl,_,hk⟩:=dL hk;obtain⟨s1,r,rfl,b1,_,hk⟩:=cZ hk;obtain⟨s2,r,rfl,b2,_,hk⟩:=cZ hk;obtain⟨s3,r,rfl,b3,_,hk⟩:=cZ hk;obtain⟨s4,r,rfl,b4,_,hk⟩:=cZ hk;obtain⟨s5,r,rfl,b5,_,hk⟩:=cZ hk;obtain⟨s6,r,rfl,b6,_,hk⟩:=cZ hk;have hk:ee B [.st [i6,i6],.st [i6,i6],.st [i6,i6]] r:=uD hk;have hk:ee B [i6,i6,.st [i6,i6],.st [i6,i6]] r:=uD hk;obtain⟨u1,r,rfl,_,hk⟩:=dL hk;obtain⟨u2,r,rfl,_,hk⟩:=dL hk;have hk:ee B [i6,i6,.st [i6,i6]] r:=uD hk;obtain⟨u3,r,rfl,_,hk⟩:=dL hk;obtain⟨u4,r,rfl,_,hk⟩:=dL hk;have hk:ee B [i6,i6] r:=uD hk;obtain⟨u5,r,rfl,_,hk⟩:=dL hk;obtain⟨u6,r,rfl,_,hk⟩:=dL hk;have:=iC hk;subst this;exact⟨⟨a1,a2,s1,s2,s3,s4,s5,s6,u1,u2,u3,u4,u5,u6⟩,by simp only[eS,Gc,ao],⟨b1,b2,b3,b4,b5,b6⟩⟩
def Uo(hk:kj B .str ds):∃s:List Nat,eS ds=aD ah s/\∀b∈s,b<256:=by
 rw[kj] at hk;obtain⟨s,rfl,h1,_⟩:=hk;exact⟨s,by simp only[eS,Gc,aD],h1⟩
def SB(hk:ee B JN ds):∃s:ku,eS ds=bE s/\∀b∈s.name,b<256:=by
 unfold JN at hk;obtain⟨s1,r,rfl,b1,_,hk⟩:=cZ hk;obtain⟨nl,rows,r,rfl,_,hr,hk⟩:=iV hk;obtain⟨a2,r,rfl,_,hk⟩:=dL hk;have:=iC hk;subst this;obtain⟨xs,h1,h2,_⟩:=me (aD ah) (λs=>∀b∈s,b<256) λr hrr=>Uo (hr r hrr);exact⟨⟨s1,xs,a2⟩,by simp only[eS,nf h1 h2,bE];rfl,b1⟩
def RL(hk:ee B wg ds):∃k:aK,eS ds=aq k/\((∀b∈k.name,b<256)/\∀s∈k.bH,∀b∈s.name,b<256):=by
 unfold wg at hk;obtain⟨s1,r,rfl,b1,_,hk⟩:=cZ hk;obtain⟨v,r,rfl,hk2⟩:=M5 hk;obtain⟨nl,rows,r,rfl,_,hr,hk⟩:=iV hk2;have:=iC hk;subst this;obtain⟨xs,h1,h2,h3⟩:=me bE (λs=>∀b∈s.name,b<256) λr hrr=>SB (by have:=hr r hrr;rw[kj] at this;exact this);exact⟨⟨s1,v,xs⟩,by simp only[eS,nf h1 h2,aq];rfl,b1,h3⟩
def O8(hB:B<=sy):∀(j:Nat) {ds:List DV},kj B (oS j) ds->∃f:bo,eS ds=aC f/\lj f
 | 0,ds,h=>by
  rw[oS,kj] at h;exact h.elim
 | 1,ds,h=>by
  rw[oS,kj,ee] at h;obtain⟨_,_,_,h,_⟩:=h;rw[kj] at h;exact h.elim
 | j+2,ds,h=>by
  rw[oS,kj] at h;obtain⟨a1,r,rfl,_,hk⟩:=dL h;obtain⟨a2,r,rfl,_,hk⟩:=dL hk;obtain⟨nl,rows,r,rfl,hl,hr,hk⟩:=iV hk;have:=iC hk;subst this;obtain⟨xs,h1,h2,h3⟩:=me aC lj λr hrr=>O8 hB j (hr r hrr);refine⟨.mk a1 a2 xs,?_,.mk ii h3⟩;rw[dn,td];simp only[eS,Gc,nf h1 h2,h2,h1]
end
def Qz{B:Nat}(hB:B<=sy){j:Nat}{ds:List DV}(hk:ee B [.st [.sl (.st wg)],oS j] ds):∃(c:List aK) (f:bo),eS ds=an 3 c aq::aC f/\lj f/\∀k∈c,(∀b∈k.name,b<256)/\∀s∈k.bH,∀b∈s.name,b<256:=by
 have hk:ee B [.sl (.st wg),oS j] ds:=uD hk;obtain⟨nl,rows,r,rfl,hl,hr,hk⟩:=iV hk;rw[ee] at hk;obtain⟨d1,d2,rfl,h1,h2⟩:=hk;rw[ee] at h2;subst h2;obtain⟨f,h3,h4⟩:=O8 hB j h1;obtain⟨xs,k1,k2,k3⟩:=me aq (λk=>(∀b∈k.name,b<256)/\∀s∈k.bH,∀b∈s.name,b<256) λr hrr=>RL (by have:=hr r hrr;rw[kj] at this;exact this);exact⟨xs,f,by rw[eS,nf k1 k2,b0,h3];rfl,h4,k3⟩
noncomputable def io(L:Nat->Prop)(i:Nat)(x y:SO):SO:=@ite _ (L i) (Classical.propDecidable _) x y
def Ai{L:Nat->Prop}{i:Nat}{x y:SO}(h:L i):io L i x y=x:=un h
def qY{L:Nat->Prop}{i:Nat}{x y:SO}(h:¬L i):io L i x y=y:=ut h
def dJ(L:Nat->Prop)(i k:Nat)(x y:SO):io (λj=>L j\/j=i) k x y=if k=i then x else io L k x y:=by
 by_cases h:k=i
 ·rw[un h];exact Ai (.inr h)
 ·rw[ut h];by_cases hl:L k
  ·rw[Ai hl,Ai (.inl hl)]
  ·rw[qY hl,qY λh'=>h'.elim hl h]
def D2(o:Nat)(L:Nat->Prop)(i:Nat)(x y:SO):cI o (io L i x y)=io L i (cI o x) (cI o y):=by
 unfold io;split<;>rfl
def CY(r:Nat->Nat)(L:Nat->Prop)(i:Nat)(x y:SO):qo r (io L i x y)=io L i (qo r x) (qo r y):=by
 unfold io;split<;>rfl
def ki(e:aV):gm:=⟨e.u1,e.u2,e.u3,e.u4,e.u5,e.u6⟩
def tJ(u:gm)(d:Int×Int)(p:ai):ai:={ p with l1:=(dC fV p.l1 p.l2 u.u1 u.u2).1,l2:=(dC fV p.l1 p.l2 u.u1 u.u2).2,l3:=(dC fV p.l3 p.l4 u.u3 u.u4).1,l4:=(dC fV p.l3 p.l4 u.u3 u.u4).2,l5:=(dC fV p.l5 p.l6 d.1 d.2).1,l6:=(dC fV p.l5 p.l6 d.1 d.2).2 }
def rE(dmg:bo)(ins:List (List Nat))(e:aV)(p:ai):ai:=if ins.contains p.name=true then tJ (ki e) (gP dmg (ki e)) p else p
def qz(dmg:bo)(ps:List ai)(e:aV):List ai:=ps.map (rE dmg (ec ps e.part++[e.part]) e)
def lN(c:List aK)(dmg:bo):Nat->List aV->List ai->List ai×Int×Int
 | _,[],s=>(s,-1,0)
 | i,e::r,s=>if (aI c s e).2=0 then (if e.op=4 then lN c dmg (i+1) r (qz dmg (aI c s e).1 e) else lN c dmg (i+1) r (aI c s e).1) else ([],(i:Int),(aI c s e).2)
def dK(day:Int)(e:aV):Bool:=decide (day<e.day)
def runN(c:List aK)(dmg:bo)(l:List aV)(day:Int):List ai×Int×Int:=if (ox c&&fZ dmg)=true then lN c dmg 0 (dY (db (dK day) l)) [] else ([],-1,1)
def U9(r:List ai×Int×Int):SV:=.cq [.ag [an 14 r.1 ae],ab r.2.1,ab r.2.2]
def fJ.VV{p:ai}(h:fJ p)(u:gm)(d:Int×Int):fJ (tJ u d p):=⟨h.name,h.kind,h.aJ,h.slot,h.len,h.prop⟩
def Hm{l:List ai}{x p:ai}(h:p∈bJ l x):p=x\/p∈l:=by
 unfold bJ at h;split at h
 ·rcases c6 h with h | h
  ·exact .inr h
  ·exact .inl h
 ·rcases List.mem_append.1 h with h | h
  ·exact .inr (es h)
  ·rcases t6 h with h | h
   ·exact .inl h
   ·exact .inr (em h)
def xf{l:List bB}{x p:bB}(h:p∈gT l x):p=x\/p∈l:=by
 unfold gT at h;split at h
 ·rcases c6 h with h | h
  ·exact .inr h
  ·exact .inl h
 ·rcases List.mem_append.1 h with h | h
  ·exact .inr (es h)
  ·rcases t6 h with h | h
   ·exact .inl h
   ·exact .inr (em h)
def Hl(l:List ai)(x:ai):(bJ l x).length<=l.length+1:=by
 unfold bJ;split
 ·rw[el];omega
 ·rw[li,i7,bd,f0];omega
def JC{l:List ai}{x:ai}:bJ l x≠[]:=by
 unfold bJ;split
 ·rename_i h;intro e;have e2:=rc f8 e;rw[el] at e2;have e3:l=[]:=t7 e2;subst e3;simp[gI] at h
 ·simp
def uo:fD []:=⟨ck _,λb hb=>by cases hb⟩
def Ja(c:List aK)(ps:List ai)(e:aV)(hps:∀p∈ps,fJ p)(he:lP e):(∃p,aI c ps e=(bJ ps p,0)/\fJ p)\/∃k,aI c ps e=([],k)/\k≠0:=by
 have hget:∀name p,pZ ps (mV 0 [] ps) name=some p->fJ p:=by
  intro name p h;unfold pZ at h;split at h
  ·exact hps p (ad h)
  ·cases h
 unfold aI;split
 ·split
  ·split
   ·unfold uy;split
    ·exact .inr ⟨3,rfl,by decide⟩
    ·split
     ·exact .inr ⟨4,rfl,by decide⟩
     ·split
      ·exact .inr ⟨7,rfl,by decide⟩
      ·exact .inl ⟨_,rfl,⟨he.part,he.kind,uo,uo,by simp[mB],λx hx=>by simp[mB] at hx⟩⟩
   ·split
    ·rename_i p h hp hh;have hpo:=hget _ _ hp;split
     ·exact .inr ⟨5,rfl,by decide⟩
     ·unfold eV;simp only
      repeat' split
      all_goals first
       | exact .inr ⟨_,rfl,by decide⟩
       | exact .inl ⟨p,rfl,hpo⟩
       | exact .inl ⟨_,rfl,⟨hpo.name,hpo.kind,he.aJ,he.slot,hpo.len,hpo.prop⟩⟩
       | exact .inl ⟨_,rfl,⟨hpo.name,hpo.kind,uo,uo,hpo.len,hpo.prop⟩⟩
       | exact .inl ⟨_,rfl,⟨hpo.name,hpo.kind,hpo.aJ,hpo.slot,hpo.len,hpo.prop⟩⟩
       | (
        refine .inl ⟨_,rfl,⟨hpo.name,hpo.kind,hpo.aJ,hpo.slot,?_,?_⟩⟩
        ·rename_i hle;show(gT p.props ⟨e.key,e.value⟩).length<=_;omega
        ·intro x hx
         rcases xf hx with rfl | hx
         ·exact⟨he.key,he.value⟩
         ·exact hpo.prop x hx)
    ·exact .inr ⟨2,rfl,by decide⟩
  ·exact .inr ⟨1,rfl,by decide⟩
 ·exact .inr ⟨1,rfl,by decide⟩
def oR{c:List aK}{ps:List ai}{e:aV}(hps:∀p∈ps,fJ p)(he:lP e):(∀p∈(aI c ps e).1,fJ p)/\(aI c ps e).1.length<=ps.length+1/\((aI c ps e).2=0->(aI c ps e).1≠[])/\((aI c ps e).2≠0->(aI c ps e).1=[]):=by
 rcases Ja c ps e hps he with⟨p,h,hp⟩ | ⟨k,h,hk⟩
 ·rw[h];refine⟨λq hq=>?_,Hl _ _,λ_=>JC,λh=>ul rfl h⟩
  rcases Hm hq with rfl | hq
  ·exact hp
  ·exact hps q hq
 ·rw[h];exact⟨λq hq=>by simp at hq,ck _,λh=>ul h hk,λ_=>rfl⟩
def yI{dmg:bo}{ps:List ai}{e:aV}(hps:∀p∈ps,fJ p):(∀p∈qz dmg ps e,fJ p)/\(qz dmg ps e).length=ps.length:=by
 refine⟨λp hp=>?_,af _⟩;obtain⟨q,hq,rfl⟩:=List.mem_map.1 hp;unfold rE;split
 ·exact(hps q hq).VV _ _
 ·exact hps q hq
def xz(e:aV)(day:Int):PC aa 46 [.ag (ao e),.ip [ab day]] (·=ak (dK day e)):=by
 refine pB 8 Tryz.func46 ?_;exact(az @ao.eq_1)<|(zV)<|zo [.tmp 3]
def ib(B:Nat)(l:List (List Nat)):mX B (fe l)=true:=by
 unfold fe;split
 ·rfl
 ·rw[mX];exact bK (aA (λ_=>rfl) l)
def fK(B e n:Nat):dG (B+1) (cj 0 e n)=true:=by
 unfold cj;split
 ·exact gF rfl
 ·rw[dG];exact wl (Nat.succ_pos B)
def Pc:∀(n:Nat) (r:jD) (ls:List (List Nat)),(dT n r ls).length<=r.length
 | 0,_,_=>ck _
 | n+1,r,ls=>by
  rw[dT];split
  ·exact ck _
  ·rw[li,af];have h1:=Pc n (r.filter λe=>!ls.contains e.2) ((r.filter λe=>ls.contains e.2).map (·.1));have h2:=AK (λe:List Nat×List Nat=>ls.contains e.2) r;omega
def nk(ps:List ai)(part:List Nat):(ec ps part).length<=ps.length:=by
 unfold ec;split
 ·have h1:(ek (dT (ps.length+2) (Hp ps part) [part])).length=(dT (ps.length+2) (Hp ps part) [part]).length:=(sH _).length_eq;rw[h1];refine dc (Pc _ _ _) (dc ze (dc (List.length_filterMap_le _ _) ?_));have:=Dy ps 0 [];simpa using this
 ·exact ck _
def EC(l:List aV)(d:aV->Bool):(dY (db d l)).length<=l.length:=by
 rw[dY,Ae];exact d8 _ _
def yG{l:List aV}{d:aV->Bool}{e:aV}(h:e∈dY (db d l)):e∈l:=(List.mem_filter.1 ((vY _ _).mem_iff.1 h)).1
abbrev eT(e:aV):List SV:=[ah e.part,ah e.kind,ah e.aJ,ah e.slot,ah e.key,ah e.value,ab e.u1,ab e.u2,ab e.u3,ab e.u4,ab e.u5,ab e.u6]
abbrev eA(e:aV):List SV:=[ab e.op,ab e.day,ah e.part,ah e.kind,ah e.aJ,ah e.slot,ah e.key,ah e.value,ab e.u1,ab e.u2,ab e.u3,ab e.u4,ab e.u5,ab e.u6]
abbrev wE(c:List aK)(dmg:bo)(e:aV)(ev:List aV)(k:Nat):Fm:=[(3,.ip (an 3 c aq::aC dmg)),(6,.ptr 0 0),(10,.ptr 1 0),(12,.ip (eA e)),(34,an 14 ev ao),(35,ab ev.length),(36,ab k)]
abbrev wF(c:List aK)(dmg:bo)(e:aV)(ev:List aV)(k:Nat)(I:List (List Nat))(d:Int×Int)(n k2:Nat):Fm:=[(3,.ip (an 3 c aq::aC dmg)),(6,.ptr 0 0),(10,.ptr 1 0),(12,.ip (eA e)),(15,an 1 I (aD ah)),(16,.ip [ab d.1,ab d.2]),(34,an 14 ev ao),(35,ab ev.length),(36,ab k),(77,ab n),(78,ab k2)]
def Ks(c:List aK)(dmg:bo)(l:List aV)(day:Int)(hc:mS c)(hf:gZ dmg)(hlen:l.length<20)(hl:∀e∈l,lP e):PC aa 14 [.ag (an 3 c aq::aC dmg),an 14 l ao,ab day] (·=U9 (runN c dmg l day)):=by
 have hfl:(aC dmg).length=3:=fa dmg;have hft:(aC dmg).take 3=aC dmg:=bs (by rw[hfl];exact be _);have hfk:=λo:Nat=>bV (o:=o) (aW dmg);have hfn:=λo:Nat=>bX (o:=o) (aW dmg);refine pB 101 Tryz.func14 ?_;refine(az (bz hfk hfn)) ?_;refine zZ [(1,an 14 l ao),(3,.ip (an 3 c aq::aC dmg)),(5,.ptr 1 0),(6,.ptr 2 0),(7,ab 0),(8,ab 0)] 0 rfl ⟨.inl rfl,.inr (.ptr rfl (bm.refl (aW dmg)) (ck _)),zj⟩ ?_
 (try change aE _ _ _ _ _)
 refine(zC)<|(zK (oi c hc)) ?_
 cases h1:ox c
 ·refine(zR)<|(cB)<|(zE) ?_;exact zO [.cell 6 46,.tmp 7,.tmp 8] (r:=.cq [.ag [.sl 0 14 []],ab (-1),ab 1]) (hw:=zv) (hq:=by (try simp only[eI,bG]);first | done | (rw[show runN c dmg l day=([],-1,1) by simp[runN,h1]];rfl))
 refine(NV (bz hfl hft))<|(zK (rC dmg hf) (hwk:=bm.cons (.ag (bm.refl (aW dmg))) .nil)) ?_
 cases h2:Proofs.fZ dmg
 ·refine(zR)<|(cB)<|(zE) ?_;exact zO [.cell 6 46,.tmp 7,.tmp 8] (r:=.cq [.ag [.sl 0 14 []],ab (-1),ab 1]) (hw:=zv) (hq:=by (try simp only[eI,bG]);first | done | (rw[show runN c dmg l day=([],-1,1) by simp[runN,h1,h2]];rfl))
 refine(zR)<|(zN) ?_
 have hN:runN c dmg l day=lN c dmg 0 (dY (db (dK day) l)) []:=by rw[runN,h1,h2];rfl
 refine zA [(1,an 14 l ao),(3,.ip (an 3 c aq::aC dmg)),(5,.ptr 1 0),(6,.ptr 2 0)] [.gone,.cells [ab day],.cells [.a (.slice none 0 0 (some 0))]] zH ?_;clear h1 h2;obtain⟨kp,hkp⟩:∃kp,kp=db (dK day) l:=⟨_,rfl⟩
 have hkl:kp.length<=l.length:=by rw[hkp];exact GD _ _
 rw[<-hkp] at hN
 (repeat refine aE.seq ?_)
 refine aE.mono (Q:=λe st=>e=.normal/\Fg st ⟨[(3,.ip (an 3 c aq::aC dmg)),(6,.ptr 0 0),(9,an 14 kp ao)],101,[.cells [.a (.slice none 0 0 (some 0))]],[]⟩) ?_ ?_
 ·by_cases hne:l=[]
  ·subst hne;have hk0:kp=[]:=hkp;subst hk0;refine(zC) ?_;refine zS [] (bz hfk hfn) sI ?_;refine(zQ) ?_;refine zS [1] (bz hfk hfn) (A8 46 [ab day] rfl (dK day) (λx=>xz x day)) ?_;refine(zR) ?_;refine⟨rfl,?_⟩;refine Fg.trans (b:=⟨[(3,.ip (an 3 c aq::aC dmg)),(6,.ptr 2 0),(9,an 14 [] ao)],101,[.gone,.gone,.cells [.a (.slice none 0 0 (some 0))]],[]⟩) ?_ (Fg.rn (f':=[(3,.ip (an 3 c aq::aC dmg)),(6,.ptr 0 0),(9,an 14 [] ao)]) (n:=101) (S':=[.cells [.a (.slice none 0 0 (some 0))]]) [2] gt rfl (by (simp only[qX,gJ,bY,an,br (aW dmg)])<;>(repeat' apply b8)<;>first | trivial | exact .inl rfl | exact .inr rfl | exact .inr trivial | exact .inl trivial) (by (simp only[dD,gJ,bY,an,br (aW dmg)])<;>(repeat' apply b8)<;>first | rfl | trivial));exact Fg.trans (Fg.wk (f':=[(3,.ip (an 3 c aq::aC dmg)),(6,.ptr 2 0),(9,an 14 [] ao)]) ⟨.inl rfl,.inl rfl,.inr (.US 14),trivial⟩) zH
  ·have hne0:¬l.length=0:=λh=>hne (t7 h);have hrq:∀(r:Nat->Nat) (q:List aV),nr r (q.flatMap ao)=q.flatMap ao:=λr q=>br (aA bO q);have hbq:∀(B:Nat) (q:List aV),je B (q.flatMap ao)=true:=λB q=>bK (aA bO q);have hkq:=bC bO;have hdel:=A9 46 [ab day] rfl (dK day) (λx=>xz x day) l ii;rw[<-hkp] at hdel;obtain⟨q,hq⟩:∃q,q=kp++dv (l.length-kp.length) aV.zero:=⟨_,rfl⟩
   have hqt:(q.flatMap ao).take (kp.length*14)=kp.flatMap ao:=by
    rw[jA cD,hq,bw (be _),bs (be _)]
   have hql:(q.flatMap ao).length=l.length*14:=by rw[bg cD,hq,li,List.length_replicate];congr 1;omega
   rw[<-hq] at hdel;refine(zC) ?_;refine zS [] (lB hfk hfn hrq hbq hkq) (sJ l ii hne) ?_;refine(zQ) ?_;refine zS [4,1] (lB hfk hfn hrq hbq hkq) hdel ?_;refine(zR) ?_;refine⟨rfl,?_⟩;refine Fg.trans (b:=⟨[(3,.ip (an 3 c aq::aC dmg)),(6,.ptr 2 0),(9,an 14 kp ao)],101,[.gone,.gone,.cells [.a (.slice none 0 0 (some 0))]],[]⟩) ?_ (Fg.rn (f':=[(3,.ip (an 3 c aq::aC dmg)),(6,.ptr 0 0),(9,an 14 kp ao)]) (n:=101) (S':=[.cells [.a (.slice none 0 0 (some 0))]]) [2] gt rfl (by (simp only[qX,gJ,bY,an,br (aW dmg)])<;>(repeat' apply b8)<;>first | trivial | exact .inl rfl | exact .inr rfl | exact .inr trivial | exact .inl trivial) (by (simp only[dD,gJ,bY,an,br (aW dmg)])<;>(repeat' apply b8)<;>first | rfl | trivial));exact Fg.trans (Fg.freeze (f':=[(3,.ip (an 3 c aq::aC dmg)),(6,.ptr 2 0),(9,an 14 kp ao)]) 4 rfl ge ⟨.inl rfl,.inl rfl,.inr (.buf rfl (by rw[hqt];exact bm.refl (aA bO _)) (by rw[hql];exact Nat.mul_le_mul_right 14 hkl)),trivial⟩) zH
 rintro e st ⟨rfl,hfg⟩;refine aE.fg hfg ?_;clear hfg
 (try change aE _ _ _ _ _)
 have hkm:∀e∈dY kp,lP e:=λe he=>hl e (by rw[hkp] at he;exact yG he)
 have hsl:(dY kp).length<20:=by have:=EC l (dK day);rw[<-hkp] at this;omega
 refine(jM)<|(zK (xI kp ii) (hfl:=.inr (bm.refl (by rw[bZ,an,mN,bZ];rfl)))) ?_
 generalize dY kp=ev at hN hkm hsl;refine(zR) ?_
 have hlen1:ev.length<=1000000:=by omega
 refine zA [(3,.ip (an 3 c aq::aC dmg)),(6,.ptr 0 0),(10,.ptr 1 0),(34,an 14 ev ao),(35,ab ev.length),(36,ab 0)] [.cells [.a (.slice none 0 0 (some 0))],.cells [.a (.slice none 0 0 (some 0))]] zH ?_;refine aE.fg (Fg.Vn (S':=[.cells [.a (.slice none 0 0 (some 0))],.cells [an 14 ([]:List ai) ae]]) ⟨.inr ⟨by decide,.inl rfl⟩,.inr ⟨by decide,.inr ⟨_,_,rfl,rfl,.cons (.nil _) .nil⟩⟩,trivial⟩) ?_
 (try change aE _ _ _ _ _)
 refine(zs) ?_;refine KG ev (λk (ps:List ai)=>(lN c dmg 0 ev []=lN c dmg k (ev.drop k) ps/\(∀p∈ps,fJ p)/\ps.length<=k)) (λk ps=>[(3,.ip (an 3 c aq::aC dmg)),(6,.ptr 0 0),(10,.ptr 1 0),(34,an 14 ev ao),(35,ab ev.length),(36,ab k)]) (λk ps=>[.cells [.a (.slice none 0 0 (some 0))],.cells [an 14 ps ae]]) ([]) zH (by exact⟨rfl,(λp hp=>by cases hp),be _⟩) ?_;intro k ps hk hall;refine zT ev k ?_ ?_;rintro rfl;rotate_left;intro e hx hlt;rotate_left
 ·refine(gE) ?_;obtain⟨hr,_,_⟩:=hall;rw[cp] at hr
  refine(zV)<|(zE) ?_;exact zO [.cell 6 46,.tmp 7,.tmp 8] (r:=.cq [.ag [an 14 ps ae],ab (-1),ab 0]) (hw:=zv) (hq:=by (try simp only[eI,bG]);first | done | (rw[hN,hr];rfl))
 obtain⟨hr,hps,hpl⟩:=hall;rw[e9 hx] at hr;have heo:=hkm e (ad hx);have hap:=A5 c ps e hc ii hps heo;obtain⟨q1,q2,q3,q4⟩:=oR (c:=c) hps heo
 have hr2:lN c dmg k (e::ev.drop (k+1)) ps=if (aI c ps e).2=0 then (if e.op=4 then lN c dmg (k+1) (ev.drop (k+1)) (qz dmg (aI c ps e).1 e) else lN c dmg (k+1) (ev.drop (k+1)) (aI c ps e).1) else ([],(k:Int),(aI c ps e).2):=rfl
 rw[hr2] at hr;clear hr2;obtain⟨nx,er,hne⟩:∃nx er,aI c ps e=(nx,er):=⟨_,_,rfl⟩;rw[hne] at hap q1 q2 q3 q4 hr;simp only at q1 q2 q3 q4 hr;rw[du] at hap
 refine(gO)<|(az (cL hlt (aQ (e:=14) (enc:=ao) (λ_=>rfl) hx) @du)) ?_;refine zZ [(3,.ip (an 3 c aq::aC dmg)),(6,.ptr 0 0),(10,.ptr 1 0),(11,ab k),(12,.ip (eA e)),(34,an 14 ev ao),(35,ab ev.length),(36,ab k)] 2 rfl (gV @an.eq_1) ?_
 (try change aE _ _ _ _ _)
 refine(zC)<|(zK hap (hfl:=.inr (bm.refl rfl)))<|(cH @kJ.eq_1) ?_
 by_cases herr:er=0;rotate_left
 ·rw[ut herr] at hr;have hnil:=q4 herr
  refine(az (wd herr))<|(cB)<|(zE) ?_;exact zO [.cell 6 46,.tmp 7,.tmp 8] (r:=.cq [.ag [.sl 0 14 []],ab k,ab er]) (hw:=zv) (hq:=by (try simp only[eI,bG]);first | done | (rw[hN,hr];rfl))
 rw[un herr] at hr;subst herr
 refine(FA)<|(zV) ?_
 by_cases hop:e.op=4;rotate_left
 ·rw[ut hop] at hr
  refine(az (wd hop))<|(zY) ?_;refine aE.exit ?_
  (try change aE _ _ _ _ _)
  refine(az (zi hlt hlen1)) ?_;refine yL hlt (nx) zH (⟨hr,q1,by omega⟩)
 rw[un hop] at hr
 refine(az (wl hop))<|(zN)<|zA (wE c dmg e ev k) [.cells [.a (.slice none 0 0 (some 0))],.cells [an 14 nx ae]] zH ?_
 obtain⟨ins,hins⟩:∃ins,ins=ec nx e.part:=⟨_,rfl⟩
 have hinl:ins.length<=100000:=by rw[hins];exact dc (nk nx e.part) ii
 (repeat refine aE.seq ?_)
 refine aE.xm 7 12 (λL=>⟨(58,vo L 0 (.ag [an 14 nx ae]))::(59,vo L 1 (.ip (eT e)))::(60,vo L 2 (ah e.part))::(61,vo L 3 (cj 2 1 ins.length))::(62,vo L 4 (.ip (eT e)))::(63,vo L 5 (ah e.part))::(64,vo L 6 (.buf 3 1 1 (some 1)))::wE c dmg e ev k,101,[.cells [.a (.slice none 0 0 (some 0))],.cells [an 14 nx ae],wo L 3 (fe ins),wo L 6 (.cells [ah e.part])],[]⟩) rfl zW g9 gt zW (bN (bz @vA @yK)) (λL=>rfl) ?_ ?_
 ·rintro L i o him hC hr
  rcases i with _ | _ | _ | _ | _ | _ | _ | i
  rotate_right
  ·exact ul him ii
  ·cases hr.gX;refine(zR) ?_;exact(bN (bz @aZ @cN))
  ·cases hr.gX;refine(zR) ?_;exact(bN (bz @aZ @cN))
  ·cases hr.gX;have d1:L 1:=hr.dep ⟨1,.data⟩ gc rfl;refine(cH (fH d1)) ?_;exact(bN (cL @aZ @cN (fH d1)))
  ·cases hr.gX;have d0:L 0:=hr.dep ⟨0,.data⟩ gc rfl;have d2:L 2:=hr.dep ⟨2,.data⟩ gc rfl;have hn3:¬L 3:=hr.new;have hin:=ry nx e.part ii;rw[<-hins] at hin;refine aR.sk [] g9 rfl rfl g9 rfl (IH (bz (fH d0) (fH d2))) (hin) (by simp only[gJ,bY,an,↓reduceIte,ay,bc,d6,bi,ba,bh,cg d0,cg d2,↓j6,cr,hfk,hfn,cx (show 2≠4 by decide),fN,dM,eQ,fK,ib,fz hn3];first | done | rfl) rfl gt (by simp only[DY,gJ,bY,an,cg d0,cg d2,↓j6,cr,hfk,hfn,cx (show 2≠4 by decide),fN,dM,eQ,fK,ib,fz hn3]<;>(repeat' apply b8)<;>first | trivial | rfl | (intro hh;cases hh)) (by simp only[C5,gJ,bY,an,bc,bh,decide_true,cg d0,cg d2,↓j6,cr,hfk,hfn,cx (show 2≠4 by decide),fN,dM,eQ,fK,ib,fz hn3];first | done | rfl) (by simp only[C5,gJ,bY,an,bc,bh,decide_true,cg d0,cg d2,↓j6,cr,hfk,hfn,cx (show 2≠4 by decide),fN,dM,eQ,fK,ib,fz hn3];first | done | rfl) (by simp only[gJ,bY,an,↓reduceIte,ay,bc,d6,bi,ba,bh,cg d0,cg d2,↓j6,cr,hfk,hfn,cx (show 2≠4 by decide),fN,dM,eQ,fK,ib,fz hn3];first | done | rfl) (by simp only[gJ,bY,an,↓reduceIte,ay,bc,d6,bi,ba,bh,cg d0,cg d2,↓j6,cr,hfk,hfn,cx (show 2≠4 by decide),fN,dM,eQ,fK,ib,fz hn3,eU,eC,cI,bf,dD];first | done | rfl) (by simp only[gJ,bY,an,↓reduceIte,ay,bc,d6,bi,ba,bh,cg d0,cg d2,↓j6,cr,hfk,hfn,cx (show 2≠4 by decide),fN,dM,eQ,fK,ib,fz hn3,eU,eC,cI,bf,dD];first | done | rfl) ?_;refine .nil ?_;exact((Fg.rn (f':=(58,(.ag [an 14 nx ae]))::(59,vo L 1 (.ip (eT e)))::(60,(ah e.part))::(61,(cj 2 1 ins.length))::(62,vo L 4 (.ip (eT e)))::(63,vo L 5 (ah e.part))::(64,vo L 6 (.buf 3 1 1 (some 1)))::wE c dmg e ev k) (n:=101) (S':=[.cells [.a (.slice none 0 0 (some 0))],.cells [an 14 nx ae],fe ins,wo L 6 (.cells [ah e.part])]) [0,1,4,3] gt rfl (by (simp only[qX,gJ,bY,an,rl,sE,eQ,dM,br (aW dmg),cr,cx (show 2≠4 by decide)])<;>(repeat' apply b8)<;>first | trivial | exact .inl rfl | exact .inr rfl | exact .inr trivial | exact .inl trivial) (by (simp only[dD,gJ,bY,an,rl,sE,eQ,dM,br (aW dmg),cr,cx (show 2≠4 by decide)])<;>(repeat' apply b8)<;>first | rfl | trivial))).trans (bN (gh @aZ @cN (fH d0) (fH d2)))
  ·cases hr.gX;refine(zR) ?_;exact(bN (bz @aZ @cN))
  ·cases hr.gX;have d4:L 4:=hr.dep ⟨4,.data⟩ gc rfl;refine(cH (fH d4)) ?_;exact(bN (cL @aZ @cN (fH d4)))
  ·cases hr.gX;have d5:L 5:=hr.dep ⟨5,.data⟩ gc rfl;have hn6:¬L 6:=hr.new;refine aR.r0 g9 (by simp only[dD,bY,an,aH,m7,m6,↓reduceIte,ay,bc,bi,ba,bh,ar,aw,bP,cg d5,↓j6,cr,hfk,hfn,cx (show 2≠4 by decide),fN,fz hn6];first | done | rfl) ?_;exact((Fg.rn (f':=(58,vo L 0 (.ag [an 14 nx ae]))::(59,vo L 1 (.ip (eT e)))::(60,vo L 2 (ah e.part))::(61,vo L 3 (cj 2 1 ins.length))::(62,vo L 4 (.ip (eT e)))::(63,(ah e.part))::(64,(.buf 3 1 1 (some 1)))::wE c dmg e ev k) (n:=101) (S':=[.cells [.a (.slice none 0 0 (some 0))],.cells [an 14 nx ae],wo L 3 (fe ins),.cells [ah e.part]]) [0,1,2,4] gt rfl (by (simp only[qX,gJ,bY,an,rl,sE,eQ,dM,br (aW dmg),cr,cx (show 2≠4 by decide)])<;>(repeat' apply b8)<;>first | trivial | exact .inl rfl | exact .inr rfl | exact .inr trivial | exact .inl trivial) (by (simp only[dD,gJ,bY,an,rl,sE,eQ,dM,br (aW dmg),cr,cx (show 2≠4 by decide)])<;>(repeat' apply b8)<;>first | rfl | trivial))).trans (bN (cL @aZ @cN (fH d5)))
 change aR _ _ _ _ _ _;refine aR.mono (K:=λx=>Fg x ⟨(65,.buf 2 (ins.length+1) 1 none)::wE c dmg e ev k,101,[.cells [.a (.slice none 0 0 (some 0))],.cells [an 14 nx ae],.cells ((ins++[e.part]).flatMap (aD ah))],[]⟩) ?_ λx hx=>?_
 ·have v7:∀i,i<7->∀v:SV,vo (λj=>j<7) i v=v:=λi h v=>cg h;have w7:∀i,i<7->∀v:SO,wo (λj=>j<7) i v=v:=λi h v=>ma h;have a3:=v7 3 gt;have a6:=v7 6 gt;have b3:=w7 3 gt;have b6:=w7 6 gt;have happ:=mI (enc:=aD ah) (e:=1) (λ_=>rfl) (λ_=>rfl) 2 ins e.part;rw[show aD ah e.part=[ah e.part] from rfl,cv] at happ;have hcl:=bg (enc:=aD ah) (e:=1) (λ_=>rfl) ins;by_cases hi0:ins=[]
  ·subst hi0;refine(cH (OF a3 a6 b3 b6 @lX @i5.{0} @iD hfk hfn @cr)) ?_;exact((Fg.rn (f':=(65,.buf 2 1 1 none)::wE c dmg e ev k) (n:=101) (S':=[.cells [.a (.slice none 0 0 (some 0))],.cells [an 14 nx ae],.cells [ah e.part]]) [0,1,4] gt rfl (by (simp only[qX,gJ,bY,an,br (aW dmg)])<;>(repeat' apply b8)<;>first | trivial | exact .inl rfl | exact .inr rfl | exact .inr trivial | exact .inl trivial) (by (simp only[dD,gJ,bY,an,br (aW dmg)])<;>(repeat' apply b8)<;>first | rfl | trivial))).trans (bN (lB @aD.eq_1 @nil_append.{0} @flatMap_cons.{0,0} @List.flatMap_nil.{0,0} @i5.{0}))
  ·have hil:¬ins.length=0:=λh=>hi0 (t7 h);refine(cH (bz (QV a3 a6 b3 b6 (eF (o:=2) (e:=1) hil) (gz hi0) hfk hfn @cr) (wS (λo:Nat=>bC (enc:=aD ah) (λ_=>rfl) o ins) hcl @cv @be (show ins.length<=1000000 by omega) happ))) ?_;exact zH
 change aR _ _ _ _ _ _;refine aR.fg hx ?_;refine(zR) ?_;change aE _ _ _ _ _;refine zA ((15,.buf 2 (ins.length+1) 1 none)::wE c dmg e ev k) [.cells [.a (.slice none 0 0 (some 0))],.cells [an 14 nx ae],.cells ((ins++[e.part]).flatMap (aD ah))] zH ?_;obtain⟨I,hI⟩:∃I,I=ins++[e.part]:=⟨_,rfl⟩
 have hIl:I.length=ins.length+1:=by rw[hI,li];rfl
 rw[<-hI];refine zZ [(3,.ip (an 3 c aq::aC dmg)),(6,.ptr 0 0),(10,.ptr 1 0),(12,.ip (eA e)),(15,an 1 I (aD ah)),(34,an 14 ev ao),(35,ab ev.length),(36,ab k)] 2 rfl ⟨.inl rfl,.inl rfl,.inl rfl,.inl rfl,.inr (by rw[tv 1 I (aD ah),hIl];exact .buf rfl (by rw[<-hIl,eL (enc:=aD ah) (e:=1) (λ_=>rfl)];exact bm.refl (aA (λ_=>rfl) _)) (by rw[bg (enc:=aD ah) (e:=1) (λ_=>rfl),hIl];exact be _)),zj⟩ ?_
 (try change aE _ _ _ _ _)
 have hd:=HJ dmg (ki e) hf;simp only[ew,ki] at hd;obtain⟨d,hdd⟩:∃d,d=gP dmg (ki e):=⟨_,rfl⟩;have hdd2:gP dmg ⟨e.u1,e.u2,e.u3,e.u4,e.u5,e.u6⟩=d:=hdd.symm;rw[hdd2] at hd
 refine(fC (bz hfl hft))<|(zK hd (hwk:=bm.cons (.ag (bm.refl (aW dmg))) (.cons (.ag (bm.refl rfl)) .nil)))<|(cH (gh @oJ.eq_1 @lJ.eq_1 hfk hfn)) ?_
 have hnn:=q3 rfl;have hn0:0<nx.length:=Nat.pos_of_ne_zero λh=>hnn (t7 h);have hrq:∀(r:Nat->Nat) (q:List ai),nr r (q.flatMap ae)=q.flatMap ae:=λr q=>br (aA dw q);have hbq:∀(B:Nat) (q:List ai),je B (q.flatMap ae)=true:=λB q=>bK (aA dw q);have hkq:=bC (enc:=ae) dw
 refine(zC) ?_;refine zS [] (lB hfk hfn hrq hbq hkq) (qE nx ii hnn) ?_;refine(zR)<|(zV)<|zA [(3,.ip (an 3 c aq::aC dmg)),(6,.ptr 0 0),(10,.ptr 1 0),(12,.ip (eA e)),(15,an 1 I (aD ah)),(16,.ptr 3 0),(34,an 14 ev ao),(35,ab ev.length),(36,ab k),(76,.buf 5 nx.length 14 none),(77,ab nx.length),(78,ab 0)] [.cells [.a (.slice none 0 0 (some 0))],.cells [.buf 5 nx.length 14 none],.gone,.cells [ab d.1,ab d.2],.gone,.cells (nx.flatMap ae)] zH ?_;refine zZ (wF c dmg e ev k I d nx.length 0) 3 rfl (gV @an.eq_1) ?_;refine zA (wF c dmg e ev k I d nx.length 0) [.cells [.a (.slice none 0 0 (some 0))],.cells [.buf 2 nx.length 14 none],.cells (nx.flatMap ae)] (Fg.rn [0,1,5] gt rfl (by (simp only[qX,gJ,bY,an,hrq,br (aW dmg)])<;>(repeat' apply b8)<;>first | trivial | exact .inl rfl | exact .inr rfl | exact .inr trivial | exact .inl trivial) (by (simp only[dD,gJ,bY,an,hrq,br (aW dmg)])<;>(repeat' apply b8)<;>first | rfl | trivial)) ?_
 have hIu:qz dmg nx e=nx.map (rE dmg I e):=by unfold qz;rw[hI,hins]
 have hnl:nx.length<=1000000:=by omega
 refine(zs) ?_;refine zL nx (λk2=>True) (λk2=>(wF c dmg e ev k I d nx.length k2)) (λk2=>[.cells [.a (.slice none 0 0 (some 0))],.cells [.buf 2 nx.length 14 none],.cells ((((nx.take k2).map (rE dmg I e))++nx.drop k2).flatMap ae)]) (bN (gh @take_zero.{0} @List.map_nil.{0,0} @drop_zero.{0} @nil_append.{0})) zp ?_;intro k2 hk2 hall2;refine zT nx k2 ?_ ?_;rintro rfl;rotate_left;intro p hx2 hlt2;rotate_left
 ·refine(gE) ?_;rw[b7,cp,b0,<-hIu];obtain⟨r1,r2⟩:=yI (dmg:=dmg) (e:=e) q1;generalize qz dmg nx e=ux at hr r1 r2;refine aE.fg (Fg.mr (f':=[(3,.ip (an 3 c aq::aC dmg)),(6,.ptr 0 0),(10,.ptr 1 0),(12,.ip (eA e)),(15,an 1 I (aD ah)),(34,an 14 ev ao),(35,ab ev.length),(36,ab k)]) (S':=[.cells [.a (.slice none 0 0 (some 0))],.cells [an 14 ux ae]]) 2 rfl ge (gV @an.eq_1) ⟨.inr ⟨by decide,.inl rfl⟩,.inr ⟨by decide,.inr ⟨_,_,rfl,rfl,.cons (by rw[tv 14 ux ae,r2];exact .buf rfl (by rw[<-r2,eL (enc:=ae) (e:=14) (λ_=>rfl)];exact bm.refl (aA dw _)) (by rw[bg (enc:=ae) (e:=14) (λ_=>rfl),r2];exact be _)) .nil⟩⟩,trivial⟩) ?_
  (try change aE _ _ _ _ _)
  refine(az (zi hlt hlen1)) ?_;refine yL hlt (ux) zH (⟨hr,r1,by omega⟩)
 have hdrop:=e9 hx2;obtain⟨q,hq⟩:∃q,q=(nx.take k2).map (rE dmg I e)++nx.drop k2:=⟨_,rfl⟩
 have hqx:q[k2]?=some p:=by
  rw[hq,List.getElem?_append_right (by rw[af,bd];omega),af,bd,ct ii,co,hdrop];rfl
 have hql:q.length=nx.length:=by rw[hq,li,af,bd,f0];omega
 have hqc:(q.flatMap ae).length=nx.length*14:=by rw[bg (enc:=ae) (e:=14) (λ_=>rfl),hql]
 have hnext:((nx.take (k2+1)).map (rE dmg I e)++nx.drop (k2+1))=q.set k2 (rE dmg I e p):=by
  rw[hq,c8 hx2,f6,hdrop,List.set_append_right _ _ (by rw[af,bd];omega),af,bd,ct ii,co,set_cons_zero,cl];rfl
 have hcell:(q.flatMap ae)[k2*14]?=some (ah p.name):=by
  have h1:((q.flatMap ae).drop (k2*14)).take 14=ae p:=aQ (e:=14) (enc:=ae) (λ_=>rfl) hqx;have h2:=rc (λl=>l[0]?) h1;simp only[dl,dd,bt] at h2;exact h2
 rw[<-hq]
 refine(gO)<|(zV)<|(fC (cL hlt2 @bt hcell))<|(zK (iY I p.name ii) (hwk:=bm.cons (.sl _ _ _) (.cons (.a _) .nil))) ?_
 cases hcn:I.contains p.name
 ·have hup:rE dmg I e p=p:=by unfold rE;rw[hcn];rfl
  rw[hup] at hnext
  have hset:q.set k2 p=q:=by
   apply List.ext_getElem?;intro j;by_cases hj:k2=j
   ·subst hj;rw[List.getElem?_set_self (bx hqx),hqx]
   ·rw[List.getElem?_set_ne hj]
  rw[hset] at hnext
  refine(zR)<|(zN)<|(az (zi hlt2 hnl)) ?_;refine zX hlt2 (bN hnext) trivial
 refine(zR)<|(zY) ?_
 have hup:rE dmg I e p=tJ (ki e) d p:=by unfold rE;rw[hcn,<-hdd];rfl
 obtain⟨A,hA⟩:∃A,A=(q.take k2).flatMap ae++[ah p.name,ah p.kind,ah p.aJ,ah p.slot,ab p.made,ab p.since,ak p.aY,an 2 p.props aG]:=⟨_,rfl⟩;obtain⟨B,hB⟩:∃B,B=(q.drop (k2+1)).flatMap ae:=⟨_,rfl⟩
 have hkl:k2<q.length:=by omega
 have hAl:A.length=k2*14+8:=by rw[hA,li,bg (enc:=ae) (e:=14) (λ_=>rfl),bd,ct ii];rfl
 have hqs:q.take k2++(p::q.drop (k2+1))=q:=by rw[<-e9 hqx,List.take_append_drop]
 have hsplit:q.flatMap ae=A++(CD p.l1 p.l2 p.l3 p.l4 p.l5 p.l6++B):=by
  rw[hA,hB,cl]
  conv=>lhs;rw[<-hqs,cb,flatMap_cons]
  rfl
 have hset:(q.set k2 (tJ (ki e) d p)).flatMap ae=A++(Pp p.l1 p.l2 p.l3 p.l4 p.l5 p.l6 (ki e) d.1 d.2++B):=by
  rw[hA,hB,cl,cc,un hkl,cb,flatMap_cons];rfl
 rw[hup] at hnext;have hla:=E6 A B p.l1 p.l2 p.l3 p.l4 p.l5 p.l6 (ki e) d.1 d.2 (by rw[<-hsplit];exact aA dw q);rw[<-hsplit,<-hset,hAl] at hla;simp only[ew,ki,lJ] at hla;refine aE.xm 8 9 (λL=>⟨(89,vo L 0 (.ptr 1 0))::(90,vo L 1 (.buf 2 nx.length 14 none))::(91,vo L 2 (ab k2))::(92,vo L 3 (.ptr 2 (k2*14)))::(93,vo L 4 (.ptr 2 (k2*14+8)))::(94,vo L 5 (.ip [ab e.u1,ab e.u2,ab e.u3,ab e.u4,ab e.u5,ab e.u6]))::(95,vo L 6 (.ag [ab e.u1,ab e.u2,ab e.u3,ab e.u4,ab e.u5,ab e.u6]))::(96,vo L 7 (.ag [ab d.1,ab d.2]))::(17,ab k2)::wF c dmg e ev k I d nx.length k2,101,[.cells [.a (.slice none 0 0 (some 0))],.cells [.buf 2 nx.length 14 none],.cells (q.flatMap ae)],[]⟩) rfl zW g9 gt zW (bN @vA) (λL=>rfl) ?_ ?_
 ·rintro L i o him hC hr
  rcases i with _ | _ | _ | _ | _ | _ | _ | _ | i
  rotate_right
  ·exact ul him ii
  ·cases hr.gX;refine(zR) ?_;exact(bN @aZ)
  ·cases hr.gX;have d0:L 0:=hr.dep ⟨0,.data⟩ gc rfl;refine(cH (fH d0)) ?_;exact(bN (bz @aZ (fH d0)))
  ·cases hr.gX;refine(zR) ?_;exact(bN @aZ)
  ·cases hr.gX;have d1:L 1:=hr.dep ⟨1,.data⟩ gc rfl;have d2:L 2:=hr.dep ⟨2,.data⟩ gc rfl;refine(cH (cL (fH d1) (fH d2) hlt2)) ?_;exact(bN (cL @aZ (fH d1) (fH d2)))
  ·cases hr.gX;have d3:L 3:=hr.dep ⟨3,.data⟩ gc rfl;refine(cH (bz (fH d3) hqc)) ?_;exact(bN (bz @aZ (fH d3)))
  ·cases hr.gX;refine(zR) ?_;exact(bN @aZ)
  ·cases hr.gX;have d5:L 5:=hr.dep ⟨5,.data⟩ gc rfl;refine(cH (fH d5)) ?_;exact(bN (bz @aZ (fH d5)))
  ·cases hr.gX;refine(zR) ?_;exact(bN @aZ)
 have v8:∀i,i<8->∀v:SV,vo (λj=>j<8) i v=v:=λi h v=>cg h;have v84:=v8 4 gt;have v86:=v8 6 gt;have v87:=v8 7 gt;change aR _ _ _ _ _ _;refine oA ((93,.ptr 2 (k2*14+8))::(95,.ag [ab e.u1,ab e.u2,ab e.u3,ab e.u4,ab e.u5,ab e.u6])::(96,.ag [ab d.1,ab d.2])::wF c dmg e ev k I d nx.length k2) [.cells [.a (.slice none 0 0 (some 0))],.cells [.buf 2 nx.length 14 none],.cells (q.flatMap ae)] (bN (cL v84 v86 v87)) ?_;refine zS [2] (lB hfk hfn hrq hbq hkq) hla ?_;refine(zR) ?_;simp only[ki] at hnext;refine(az (zi hlt2 hnl)) ?_;refine zX hlt2 (bN hnext) trivial
def xG(day fr:Int)(hd:0<=day/\day<=40000):PC aa 275 [ab day,ab fr] (·=.ag [ab (gN day fr),ab (gN day fr)]):=by
 refine pB 19 Tryz.func275 ?_;refine(zV) ?_;cases g:decide (day<=fr)
 ·have hg:=wt g
  have hs:gN day fr=day-(if day-1000000000000<=fr then fr else day-1000000000000):=by rw[gN,ut hg]
  have hm:bT fr (day-1000000000000)=if day-1000000000000<=fr then fr else day-1000000000000:=rfl
  rw[<-hm] at hs
  have hb:fr<=bT fr (day-1000000000000)/\day-1000000000000<=bT fr (day-1000000000000)/\bT fr (day-1000000000000)<=40000:=by unfold bT;split<;>omega
  rw[hs];have hx:=fF fr (day-1000000000000);generalize bT fr (day-1000000000000)=m at hb hx
  exact(az g)<|(zN)<|(az (cL (S6 (P:=aa) (t:=3) (show -9223372036854775808<=day-1000000000000/\day-1000000000000<=9223372036854775807 from⟨by omega,by omega⟩)) hx (S6 (P:=aa) (t:=3) (show -9223372036854775808<=day-m/\day-m<=9223372036854775807 from⟨by omega,by omega⟩))))<|(zV)<|zo [.cell 4 52]
 ·have hs:gN day fr=0:=by rw[gN,un (ww g)]
  rw[hs]
  exact(az g)<|(cB)<|zo [.cell 4 52]
def Nv(p:ai)(day:Int)(hd:0<=day/\day<=40000):PC aa 280 [.ag (ae p),ab day,.ip [.fn 275 [] []]] (·=.ag [ab (gN day p.made),ab (gN day p.made)]):=by
 refine pB 11 Tryz.func280 ?_;exact(az @ae.eq_1)<|(zC)<|(zK (xG day p.made hd))<|(zR)<|zo [.cell 5 52]
abbrev TA:=List (List Nat×SV)
def pD{S:List SO}{o:Nat}{l:TA}(s:List Nat)(u:SV)(hS:S[o]?=some (bD AV.str id l)):iR aa S 288 (.map o) (.a (.str s)) u=some (S.set o (bD AV.str id (cu s u l))):=
 JD (uv:=id) (kt:=9) (et:=286) (by simp only[aH]) mE hS rfl u
def DF:SV:=.ip [.fn 275 [] []]
def nI:TA:=cu [97,103,101] (.fn 280 [] [DF]) (cu [100,97,121,115] (.fn 279 [] [DF]) (cu [100,97,109,97,103,101] (.fn 278 [] []) (cu [99,121,99,108,101,115] (.fn 277 [] []) (cu [107,109] (.fn 276 [] []) []))))
def kY:PC aa 220 [] (·=mw AV.str id nI):=by
 refine pB 6 Tryz.func220 ?_;refine(oL) ?_;refine zZ [(1,.ip [.fn 275 [] []])] 0 rfl zG<|zA [(1,.ip [.fn 275 [] []])] [] zH ?_
 have hm0:SO.map [] [] none=bD AV.str (id:SV->SV) []:=rfl;have p1:=λu=>pD (S:=[bD AV.str id []]) (o:=0) (l:=[]) [107,109] u rfl;have p2:=λ(l:TA) u=>pD (S:=[bD AV.str id l]) (o:=0) (l:=l) [99,121,99,108,101,115] u rfl;have p3:=λ(l:TA) u=>pD (S:=[bD AV.str id l]) (o:=0) (l:=l) [100,97,109,97,103,101] u rfl;have p4:=λ(l:TA) u=>pD (S:=[bD AV.str id l]) (o:=0) (l:=l) [100,97,121,115] u rfl;have p5:=λ(l:TA) u=>pD (S:=[bD AV.str id l]) (o:=0) (l:=l) [97,103,101] u rfl
 refine(az (F4 hm0 p1 p2 p3 p4 p5 @set_cons_zero.{0}))<|(zE) ?_;exact Cb.of (rs:=[.tmp 0]) (r:=mw AV.str id nI) rfl rfl zl (by exact .map rfl (bm.refl rfl)) zq
def lg{S:List SO}{l:TA}(s:List Nat)(ok:Bool):jv aa S 288 (mw AV.str id l) (.a (.str s)) ok=some (cond ok (.cq [getM (ve (.ep)) s l,ak (dx s l)]) (getM (ve (.ep)) s l)):=
 Th (uv:=id) (u0:=ve (.ep)) (k:=s) (kt:=9) (et:=286) (z:=.ep) (by simp only[aH]) mE zW rfl rfl ok
def bu(ps:List ai)(name:List Nat):Option ai:=ps.find? λp=>decide (p.name=name)
def O4{ps:List ai}{name:List Nat}{k:Nat}{p:ai}(hx:ps[k]?=some p)(hp:p.name=name)(hb:((ps.take k).all λp=>!(decide (p.name=name)))=true):bu ps name=some p:=by
 unfold bu;rw[List.find?_eq_some_iff_getElem];obtain⟨hlt,he⟩:=rg hx;refine⟨by simpa using hp,k,hlt,he,λj hj=>?_⟩;have h1:=all_eq_true.1 hb (ps[j]' ii) (by rw[mem_iff_getElem?];exact⟨j,by rw[dl,un hj];exact jp ii⟩);simpa using h1
def O5{ps:List ai}{name:List Nat}(hb:(ps.all λp=>!(decide (p.name=name)))=true):bu ps name=none:=by
 unfold bu;rw[List.find?_eq_none];intro p hp;have h1:=all_eq_true.1 hb p hp;simpa using h1
def IE:List SV:=[ah [],ah [],ah [],ah [],ab 0,ab 0,ak false,bF,ab 0,ab 0,ab 0,ab 0,ab 0,ab 0]
def iZ(ps:List ai)(name:List Nat)(hlen:ps.length<=1000000):PC aa 15 [.ag [an 14 ps ae],ah name] (·=jn ae ai.zero (bu ps name)):=by
 refine pB 22 Tryz.func15 ?_;refine(zV) ?_;refine zZ [(1,ah name),(2,.ip [an 14 ps ae]),(4,.ptr 1 0)] 0 rfl (gV @an.eq_1) ?_
 (try change aE _ _ _ _ _)
 refine(zV)<|(zs) ?_;refine zL ps (λk=>((ps.take k).all λp=>!(decide (p.name=name)))=true) (λk=>[(1,ah name),(4,.ptr 1 0),(9,an 14 ps ae),(10,ab ps.length),(11,ab k)]) (λk=>[.gone,.cells IE]) (bN @IE.eq_1) zp ?_;intro k hk hall;refine zT ps k ?_ ?_;rintro rfl;rotate_left;intro p hx hlt;rotate_left
 ·refine(gE) ?_;rw[b7] at hall;rw[O5 hall]
  exact(az @IE.eq_1)<|kE [.cell 4 56,.tmp 5] (r:=.cq [.ag (ae ai.zero),ak false]) (hw:=.cq (.cons (.ag (.cons (.a _) (.cons (.a _) (.cons (.a _) (.cons (.a _) (.cons (.a _) (.cons (.a _) (.cons (.a _) (.cons (.nil 2) (bm.refl rfl)))))))))) (bm.refl rfl)))
 refine(gO)<|(az (gh hlt (aQ (e:=14) (enc:=ae) (λ_=>rfl) hx) @ae.eq_1 @IE.eq_1)) ?_
 cases he:decide (p.name=name)
 ·refine(az he)<|(zN)<|(az (zi hlt hlen)) ?_;refine zX hlt (bN (bz @ae.eq_1 @IE.eq_1)) (by rw[c8 hx,d9,hall];show(true&&(!(decide (p.name=name))&&true))=true;rw[he];rfl)
 ·rw[O4 hx (ww he) hall]
  exact(az he)<|(zY)<|(az @ae.eq_1)<|kE [.cell 4 56,.tmp 5]
inductive aT where
 | mk (op:Int) (name value:List Nat) (n extra:Int) (kids:List aT)
def aT.op:aT->Int
 | .mk op _ _ _ _ _=>op
def aT.name:aT->List Nat
 | .mk _ name _ _ _ _=>name
def aT.value:aT->List Nat
 | .mk _ _ value _ _ _=>value
def aT.n:aT->Int
 | .mk _ _ _ n _ _=>n
def aT.extra:aT->Int
 | .mk _ _ _ _ extra _=>extra
def aT.kids:aT->List aT
 | .mk _ _ _ _ _ kids=>kids
mutual
def aX:aT->List SV
 | .mk op name value n extra kids=>[ab op,ah name,ah value,ab n,ab extra,.sl kids.length 6 (qO kids)]
def qO:List aT->List SV
 | []=>[]
 | f::fs=>aX f++qO fs
end
def wU:∀l:List aT,qO l=l.flatMap aX
 | []=>by rw[qO];rfl
 | f::l=>by rw[qO,wU l,flatMap_cons]
def ig(op:Int)(name value:List Nat)(n extra:Int)(kids:List aT):aX (.mk op name value n extra kids)=[ab op,ah name,ah value,ab n,ab extra,.sl kids.length 6 (kids.flatMap aX)]:=by rw[aX,wU]
def jF(f:aT):(aX f).length=6:=by
 obtain⟨op,name,value,n,extra,kids⟩:=f;rw[ig];rfl
inductive gK:aT->Prop
 | mk {op:Int} {name value:List Nat} {n extra:Int} {kids:List aT}:fD name->fD value->kids.length<=1000000->(∀k∈kids,gK k)->gK (.mk op name value n extra kids)
def mQ:List (List Nat):=[[116,114,117,101],[110,111,116],[97,110,100],[111,114],[108,105,109,105,116],[111,118,101,114],[104,97,115],[115,108,111,116],[97,108,108],[97,110,121],[97,116]]
def Je(n low:Int):Bool:=decide (low<=n)&&decide (n<=9999999)
structure S4 where
 kids:Bool
 named:Bool
 ok:Bool
 value:List Nat
 n:Int
 extra:Int
def UE(e:aT):Option S4:=
 let none0:=decide ((e.kids.length:Int)=0)
 if e.op=1 then some ⟨none0,false,true,[],0,0⟩
 else if e.op=2 then some ⟨decide ((e.kids.length:Int)=1),false,true,[],0,0⟩
 else if e.op=3\/e.op=4 then some ⟨decide (1<(e.kids.length:Int)),false,true,[],0,0⟩
 else if e.op=5 then some ⟨none0,true,Je e.n 0&&Je e.extra 0,[],e.n,e.extra⟩
 else if e.op=6 then some ⟨none0,true,Je e.n 0,[],e.n,0⟩
 else if e.op=7 then some ⟨none0,true,!(decide (e.value=[]))&&(decide ((e.value.length:Int)<=200)&&!(mQ.contains e.name)),e.value,0,0⟩
 else if e.op=8 then some ⟨none0,true,true,[],0,0⟩
 else if e.op=9 then some ⟨none0,true,cJ e.value,e.value,0,0⟩
 else if e.op=10\/e.op=11 then some ⟨decide ((e.kids.length:Int)=1),true,true,[],0,0⟩
 else if e.op=12 then some ⟨none0,true,Je e.n 1,[],e.n,0⟩
 else none
def G6(q:S4)(e:aT):Bool:=(q.ok&&(!q.named||cJ e.name))&&(q.kids&&((q.named||decide (e.name=[]))&&(decide (q.value=e.value)&&(decide (q.n=e.n)&&decide (q.extra=e.extra)))))
def jc(e:aT):Bool:=match UE e with
 | some q=>G6 q e
 | none=>false
mutual
def fR:aT->List aT
 | .mk op name value n extra kids=>.mk op name value n extra kids::mC kids
def mC:List aT->List aT
 | []=>[]
 | k::ks=>fR k++mC ks
end
def om(e:aT):Bool:=decide ((fR e).length<=60)&&(fR e).all jc
def fY(a:Int):Int:=if a=0\/a=2 then a else 1
def G7(a:Int):Int:=2-fY a
def xS(a b:Int):Int:=cC (fY a) (fY b)
def NT(a b:Int):Int:=bT (fY a) (fY b)
def Fy(b:Bool):Int:=if b=true then 2 else 0
def cK(p:ai)(cur:List Nat)(day:Int):(Int×Int)×Int:=
 let v:=λ(x:Int×Int)=>if day<0\/40000<day then (((0,0):Int×Int),(13:Int)) else (x,0)
 if cur=[107,109] then v (p.l1,p.l2) else if cur=[99,121,99,108,101,115] then v (p.l3,p.l4) else if cur=[100,97,109,97,103,101] then v (p.l5,p.l6)
 else if cur=[100,97,121,115] then v (gN day p.since,gN day p.since) else if cur=[97,103,101] then v (gN day p.made,gN day p.made) else ((0,0),15)
def cP(ps:List ai)(name:List Nat):ai:=(bu ps name).getD ai.zero
def eb(ps:List ai)(part kind:List Nat):List (List Nat):=(ec ps part).filter λn=>decide ((cP ps n).kind=kind)
def GM(ps:List ai)(day:Int)(op:Int)(name value:List Nat)(n extra:Int)(part:List Nat):Int:=
 let p:=cP ps part
 if op=1 then 2
 else if op=5 then (if (cK p name day).2=0 then G7 (gS (cK p name day).1.1 (cK p name day).1.2 (n+extra)) else 0)
 else if op=6 then (if (cK p name day).2=0 then gS (cK p name day).1.1 (cK p name day).1.2 n else 0)
 else if op=7 then Fy (p.props.any λx=>decide (x.key=name)&&decide (x.value=value))
 else if op=8 then Fy (p.props.any λx=>decide (x.key=name))
 else if op=9 then Fy (ps.any λq=>decide (q.aJ=part)&&(decide (q.slot=name)&&decide (q.kind=value)))
 else Fy (decide (n<=((eb ps part name).length:Int)))
mutual
def gW(ps:List ai)(day:Int):aT->List Nat->Int
 | .mk op name value n extra kids,part=>
  if op=2 then G7 ((Dw ps day kids part).headD 0)
  else if op=3 then (Dw ps day kids part).foldl xS 2
  else if op=4 then (Dw ps day kids part).foldl NT 0
  else if op=10 then (Bu ps day kids (eb ps part name)).foldl xS 2
  else if op=11 then (Bu ps day kids (eb ps part name)).foldl NT 0
  else GM ps day op name value n extra part
def Dw(ps:List ai)(day:Int):List aT->List Nat->List Int
 | [],_=>[]
 | k::ks,part=>gW ps day k part::Dw ps day ks part
def Bu(ps:List ai)(day:Int):List aT->List (List Nat)->List Int
 | [],_=>[]
 | k::_,names=>names.map λn=>gW ps day k n
end
def l7(ps:List ai):Nat->List Nat->List Nat
 | 0,_=>[]
 | f+1,part=>match bu ps part with
  | none=>[]
  | some p=>if p.aJ=[] then part else l7 ps f p.aJ
def AP(ps:List ai)(part:List Nat):List Nat:=l7 ps ps.length part
def kO(ps:List ai)(e:aT)(part:List Nat)(day:Int):Int:=if om e=true/\AP ps part≠[] then gW ps day e part else 0
def JT(a:Int):0<=fY a/\fY a<=2:=by unfold fY;split<;>omega
def lO(a:Int):PC aa 219 [ab a] (·=ab (fY a)):=by
 refine pB 8 Tryz.func219 ?_;refine(oL)<|(zB) ?_
 cases h0:decide (a=0)
 ·cases h2:decide (a=2)
  ·exact(az h0)<|(zN)<|(az h2)<|(ly)<|zo [.tmp 2] (hq:=by rw[fY,ut (λh=>h.elim (wt h0) (wt h2))])
  ·exact(az h0)<|(zN)<|(az h2)<|(cB)<|zo [.tmp 2] (hq:=by rw[fY,un (.inr (ww h2))])
 ·exact(az h0)<|(zY)<|(zY)<|(zV)<|zo [.tmp 2] (hq:=by rw[fY,un (.inl (ww h0))])
def De(a:Int):PC aa 133 [ab a] (·=ab (G7 a)):=by
 refine pB 6 Tryz.func133 ?_;have hb:=JT a
 exact(jM)<|(zK (lO a))<|(cH (S6 (P:=aa) (t:=74) (show -9223372036854775808<=2-fY a/\2-fY a<=9223372036854775807 from⟨by omega,by omega⟩)))<|zo [.tmp 2]
def C7(a b:Int):PC aa 134 [ab a,ab b] (·=ab (xS a b)):=by
 refine pB 10 Tryz.func134 ?_;exact(jM)<|(zK (lO a))<|(zQ)<|(zK (lO b))<|(cH @jx)<|zo [.tmp 4]
def H8(a b:Int):PC aa 135 [ab a,ab b] (·=ab (NT a b)):=by
 refine pB 10 Tryz.func135 ?_;exact(jM)<|(zK (lO a))<|(zQ)<|(zK (lO b))<|(cH @fF)<|zo [.tmp 4]
def si(b:Bool):PC aa 138 [ak b] (·=ab (Fy b)):=by
 refine pB 4 Tryz.func138 ?_;refine(oL) ?_;cases b
 ·exact(ly)<|zo [.tmp 2]
 ·exact(cB)<|zo [.tmp 2]
def pA(n low:Int):PC aa 217 [ab n,ab low] (·=ak (Je n low)):=by
 refine pB 12 Tryz.func217 ?_;refine(zV) ?_;cases h1:decide (low<=n)
 ·exact(az h1)<|zo [.tmp 4] (hq:=by rw[Je,h1];rfl)
 ·exact(az h1)<|zo [.tmp 4] (hq:=by rw[Je,h1];rfl)
def Bi(s:List Nat):PC aa 218 [ah s] (·=ak (mQ.contains s)):=by
 refine pB 6 Tryz.func218 ?_;exact(jM)<|(zK (iY mQ s gt) (hwk:=.cons (.buf rfl (bm.refl rfl) gt) (.cons (.a _) .nil)))<|(zR)<|zo [.tmp 2]
def QF(p:ai)(day:Int):PC aa 276 [.ag (ae p),ab day] (·=.ag [ab p.l1,ab p.l2]):=by
 refine pB 8 Tryz.func276 ?_;exact(az @ae.eq_1)<|(zV)<|zo [.cell 4 52]
def QC(p:ai)(day:Int):PC aa 277 [.ag (ae p),ab day] (·=.ag [ab p.l3,ab p.l4]):=by
 refine pB 8 Tryz.func277 ?_;exact(az @ae.eq_1)<|(zV)<|zo [.cell 4 52]
def QD(p:ai)(day:Int):PC aa 278 [.ag (ae p),ab day] (·=.ag [ab p.l5,ab p.l6]):=by
 refine pB 8 Tryz.func278 ?_;exact(az @ae.eq_1)<|(zV)<|zo [.cell 4 52]
def JW(p:ai)(day:Int)(hd:0<=day/\day<=40000):PC aa 279 [.ag (ae p),ab day,.ip [.fn 275 [] []]] (·=.ag [ab (gN day p.since),ab (gN day p.since)]):=by
 refine pB 11 Tryz.func279 ?_;exact(az @ae.eq_1)<|(zC)<|(zK (xG day p.since hd))<|(zR)<|zo [.cell 5 52]
abbrev Vz(op:Int)(name value:List Nat)(n extra:Int)(kids:List aT):SV:=.ip [ab op,ah name,ah value,ab n,ab extra,.sl kids.length 6 (kids.flatMap aX)]
abbrev wN(op:Int)(name value:List Nat)(n extra:Int)(kids:List aT)(kb nb ob:Bool):Fm:=[(1,Vz op name value n extra kids),(3,.ptr 0 0),(4,ak kb),(5,ak nb),(7,ak ob)]
def Kj(e:aT)(he:gK e):PC aa 130 [.ag (aX e)] (·=ak (jc e)):=by
 cases he with
 | @mk op name value n extra kids hgn hgv hlen hks=>
 rw[ig]
 refine pB 147 Tryz.func130 ?_;refine(zV) ?_;refine zZ [(1,Vz op name value n extra kids)] 0 rfl zG<|zA [(1,Vz op name value n extra kids)] [] zH<|(oL)<|(oL)<|(zV)<|zA ((6,.fn 217 [] [])::(16,ab op)::wN op name value n extra kids (decide ((kids.length:Int)=0)) true true) [.cells [ab op,ah [],ah [],ab 0,ab 0,bF]] zH ?_
 (repeat refine aE.seq ?_)
 refine aE.mono (Q:=λex st=>(ex=.normal/\∃q,UE (.mk op name value n extra kids)=some q/\Fg st ⟨wN op name value n extra kids q.kids q.named q.ok,147,[.cells [ab op,ah [],ah q.value,ab q.n,ab q.extra,bF]],[]⟩)\/(ex=.ret/\Cb aa Tryz.f130 (·=ak (jc (.mk op name value n extra kids))) .ret st)) ?_ ?_
 ·refine aE.block ?_;cases o1:decide (op=1);rotate_left
  ·have p1:=ww o1
   refine(az o1)<|(cB) ?_;exact .inl ⟨rfl,⟨decide ((kids.length:Int)=0),false,true,[],0,0⟩,by subst p1;rfl,zH⟩
  have n1:=wt o1
  refine(az o1)<|(zN) ?_
  cases o2:decide (op=2);rotate_left
  ·have p2:=ww o2
   refine(az o2)<|(zY)<|(zs) ?_;refine oK [0,1,3,7,0,31] ?_;refine(qB)<|(zM) ?_;exact .inl ⟨rfl,⟨decide ((kids.length:Int)=1),false,true,[],0,0⟩,by subst p2;rfl,zH⟩
  have n2:=wt o2
  refine(az o2)<|(zN) ?_
  cases o3:decide (op=3);rotate_left
  ·have p3:=ww o3
   refine(az o3)<|(zY)<|(zY)<|(zs) ?_;refine oK [0,1,3,7,0,31] ?_;refine(qB)<|(zM) ?_;exact .inl ⟨rfl,⟨decide (1<(kids.length:Int)),false,true,[],0,0⟩,by subst p3;rfl,zH⟩
  have n3:=wt o3
  refine(az o3)<|(zN) ?_
  cases o4:decide (op=4);rotate_left
  ·have p4:=ww o4
   refine(az o4)<|(zY)<|(zs) ?_;refine oK [0,1,3,7,0,31] ?_;refine(qB)<|(zM) ?_;exact .inl ⟨rfl,⟨decide (1<(kids.length:Int)),false,true,[],0,0⟩,by subst p4;rfl,zH⟩
  have n4:=wt o4
  refine(az o4)<|(zN) ?_
  cases o5:decide (op=5);rotate_left
  ·have p5:=ww o5
   refine(az o5)<|(zY) ?_
   cases g:Je n 0
   ·have hc:=pA n 0;rw[g] at hc
    refine(zs) ?_;refine oK [0,1,0,4,0,0,32,112,240,496,496,1520,4080,8176,3,24563,57343,122879,262143] ?_;refine(qB) ?_;refine SD.k g9 rfl rfl g9 rfl rfl zc (hc) (zw) rfl ?_;refine(qB) ?_;refine SD.e g9 rfl g9 rfl rfl g9 zl ?_;refine(qB) ?_;refine SD.e g9 rfl g9 rfl rfl g9 zl ?_;refine(qB)<|(zM) ?_;exact .inl ⟨rfl,⟨decide ((kids.length:Int)=0),true,Je n 0&&Je extra 0,[],n,extra⟩,by subst p5;rfl,by rw[g];exact zH⟩
   ·have hc:=pA n 0;rw[g] at hc
    refine(zs) ?_;refine oK [0,1,0,4,0,0,32,112,240,496,496,1520,4080,8176,3,24563,57343,122879,262143] ?_;refine(qB) ?_;refine SD.k g9 rfl rfl g9 rfl rfl zc (hc) (zw) rfl ?_;refine(qB) ?_;refine SD.k g9 rfl rfl g9 rfl rfl zc (pA extra 0) (zw) rfl ?_;refine(qB) ?_;refine SD.e g9 rfl g9 rfl rfl g9 zl ?_;refine(qB) ?_;refine SD.e g9 rfl g9 rfl rfl g9 zl ?_;refine(qB)<|(zM) ?_;exact .inl ⟨rfl,⟨decide ((kids.length:Int)=0),true,Je n 0&&Je extra 0,[],n,extra⟩,by subst p5;rfl,by rw[g];exact zH⟩
  have n5:=wt o5
  refine(az o5)<|(zN) ?_
  cases o6:decide (op=6);rotate_left
  ·have p6:=ww o6
   refine(az o6)<|(zY)<|(zs) ?_;refine oK [0,1,0,0,8,28,3,127,255] ?_;refine(qB) ?_;refine SD.k g9 rfl rfl g9 rfl rfl zc (pA n 0) (zw) rfl ?_;refine(qB) ?_;refine SD.e g9 rfl g9 rfl rfl g9 zl ?_;refine(qB)<|(zM) ?_;exact .inl ⟨rfl,⟨decide ((kids.length:Int)=0),true,Je n 0,[],n,0⟩,by subst p6;rfl,zH⟩
  have n6:=wt o6
  refine(az o6)<|(zN) ?_
  cases o7:decide (op=7);rotate_left
  ·have p7:=ww o7;cases g1:decide (value=[])
   ·cases g2:decide ((value.length:Int)<=200)
    ·refine(az o7)<|(zY)<|(zs) ?_;refine oK [0,1,0,4,12,28,60,124,252,508,1020,2044,4092,8188,16380,32764,65532,3,163839,524287] ?_;refine(NO (bz g1 g2)) ?_;refine SD.e g9 rfl g9 rfl rfl g9 zl ?_;refine(qB)<|(zM) ?_;exact .inl ⟨rfl,⟨decide ((kids.length:Int)=0),true,!(decide (value=[]))&&(decide ((value.length:Int)<=200)&&!(mQ.contains name)),value,0,0⟩,by subst p7;rfl,by rw[g1,g2];exact zH⟩
    ·refine(az o7)<|(zY)<|(zs) ?_;refine oK [0,1,0,4,12,28,60,124,252,508,1020,2044,4092,8188,16380,32764,65532,3,163839,524287] ?_;refine(NO (bz g1 g2)) ?_;refine SD.k g9 rfl rfl g9 rfl rfl zc (Bi name) (zw) rfl ?_;refine(qB) ?_;refine SD.e g9 rfl g9 rfl rfl g9 zl ?_;refine(qB)<|(zM) ?_;exact .inl ⟨rfl,⟨decide ((kids.length:Int)=0),true,!(decide (value=[]))&&(decide ((value.length:Int)<=200)&&!(mQ.contains name)),value,0,0⟩,by subst p7;rfl,by rw[g1,g2];exact zH⟩
   ·refine(az o7)<|(zY)<|(zs) ?_;refine oK [0,1,0,4,12,28,60,124,252,508,1020,2044,4092,8188,16380,32764,65532,3,163839,524287] ?_;refine(NO g1) ?_;refine SD.e g9 rfl g9 rfl rfl g9 zl ?_;refine(qB)<|(zM) ?_;exact .inl ⟨rfl,⟨decide ((kids.length:Int)=0),true,!(decide (value=[]))&&(decide ((value.length:Int)<=200)&&!(mQ.contains name)),value,0,0⟩,by subst p7;rfl,by rw[g1];exact zH⟩
  have n7:=wt o7
  refine(az o7)<|(zN) ?_
  cases o8:decide (op=8);rotate_left
  ·have p8:=ww o8
   refine(az o8)<|(zY) ?_;exact .inl ⟨rfl,⟨decide ((kids.length:Int)=0),true,true,[],0,0⟩,by subst p8;rfl,zH⟩
  have n8:=wt o8
  refine(az o8)<|(zN) ?_
  cases o9:decide (op=9);rotate_left
  ·have p9:=ww o9
   refine(az o9)<|(zY)<|(zs) ?_;refine oK [0,1,0,4,12,3,63,127] ?_;refine(qB) ?_;refine SD.k g9 rfl rfl g9 rfl rfl zc (dZ value hgv) (zw) rfl ?_;refine(qB) ?_;refine SD.e g9 rfl g9 rfl rfl g9 zl ?_;refine(qB)<|(zM) ?_;exact .inl ⟨rfl,⟨decide ((kids.length:Int)=0),true,cJ value,value,0,0⟩,by subst p9;rfl,zH⟩
  have n9:=wt o9
  refine(az o9)<|(zN) ?_
  cases o10:decide (op=10);rotate_left
  ·have p10:=ww o10
   refine(az o10)<|(zY)<|(zY)<|(zV) ?_;exact .inl ⟨rfl,⟨decide ((kids.length:Int)=1),true,true,[],0,0⟩,by subst p10;rfl,zH⟩
  have n10:=wt o10
  refine(az o10)<|(zN) ?_
  cases o11:decide (op=11);rotate_left
  ·have p11:=ww o11
   refine(az o11)<|(cB) ?_;exact .inl ⟨rfl,⟨decide ((kids.length:Int)=1),true,true,[],0,0⟩,by subst p11;rfl,zH⟩
  have n11:=wt o11
  refine(az o11)<|(zN) ?_
  cases o12:decide (op=12);rotate_left
  ·have p12:=ww o12
   refine(az o12)<|(zY)<|(zs) ?_;refine oK [0,1,0,0,8,28,3,127,255] ?_;refine(qB) ?_;refine SD.k g9 rfl rfl g9 rfl rfl zc (pA n 1) (zw) rfl ?_;refine(qB) ?_;refine SD.e g9 rfl g9 rfl rfl g9 zl ?_;refine(qB)<|(zM) ?_;exact .inl ⟨rfl,⟨decide ((kids.length:Int)=0),true,Je n 1,[],n,0⟩,by subst p12;rfl,zH⟩
  have n12:=wt o12
  refine(az o12)<|(zN) ?_
  have hnone:jc (.mk op name value n extra kids)=false:=by
   unfold jc UE;simp only[aT.op,n1,n2,n3,n4,n5,n6,n7,n8,n9,n10,n11,n12,if_false,or_self]
  refine(zV) ?_;refine aE.ret ?_;refine .inr ⟨rfl,?_⟩;exact zO [.tmp 2] (hq:=by (try simp only[eI,bG]);first | done | (rw[hnone]))
 rintro ex st (⟨rfl,q,hq,hf⟩ | ⟨rfl,hs⟩);rotate_left
 ·exact hs
 change aE _ _ _ _ _;refine aE.fg hf ?_;clear hf
 have hres:jc (.mk op name value n extra kids)=G6 q (.mk op name value n extra kids):=by unfold jc;rw[hq]
 rw[hres];clear hres hq;obtain⟨kb,nb,ob,v',n',x'⟩:=q;have hM:=dZ name hgn;rw[show G6 ⟨kb,nb,ob,v',n',x'⟩ (.mk op name value n extra kids)=((ob&&(!nb||cJ name))&&(kb&&((nb||decide (name=[]))&&(decide (v'=value)&&(decide (n'=n)&&decide (x'=extra)))))) from rfl];refine(zV) ?_
 (repeat refine aE.seq ?_)
 refine aE.mono (Q:=λex st=>ex=.normal/\Fg st ⟨[(1,Vz op name value n extra kids),(3,.ptr 0 0),(4,ak kb),(7,ak (ob&&(!nb||cJ name)))],147,[.cells [ab op,ah (cond nb name []),ah v',ab n',ab x',bF]],[]⟩) ?_ ?_
 ·cases nb
  ·refine(zN) ?_;exact⟨rfl,by rw[show(ob&&(!false||cJ name))=ob by cases ob<;>rfl];exact zH⟩
  ·cases ob
   ·refine(zY)<|(zs) ?_;refine oK [0,1,0,4,12,28,60,124,3,383,1023] ?_;refine(qB) ?_;refine SD.e g9 rfl g9 rfl rfl g9 zl ?_;refine(qB)<|(zM) ?_;exact⟨rfl,zH⟩
   ·refine(zY)<|(zs) ?_;refine oK [0,1,0,4,12,28,60,124,3,383,1023] ?_;refine(qB) ?_;refine SD.k g9 rfl rfl g9 rfl rfl zc (hM) (zw) rfl ?_;refine(qB) ?_;refine SD.e g9 rfl g9 rfl rfl g9 zl ?_;refine(qB)<|(zM) ?_;exact⟨rfl,zH⟩
 rintro ex st ⟨rfl,hf⟩;refine aE.fg hf ?_;clear hf;change aE _ _ _ _ _
 have hsame:(cond nb name []=name)↔(nb||decide (name=[]))=true:=by cases nb<;>simp[eq_comm]
 generalize (ob&&(!nb||cJ name))=o1;cases o1
 ·exact(zV)<|zo [.tmp 2]
 cases kb
 ·exact(zV)<|zo [.tmp 2]
 cases g1:decide (cond nb name []=name)
 ·have e1:(nb||decide (name=[]))=false:=by
   cases h:(nb||decide (name=[]))
   ·rfl
   ·exact ul (hsame.2 h) (wt g1)
  rw[e1]
  exact(az g1)<|zo [.tmp 2]
 have e1:=hsame.1 (ww g1);rw[e1];cases g2:decide (v'=value)
 ·exact(az (bz g1 g2))<|zo [.tmp 2]
 cases g3:decide (n'=n)
 ·exact(az (cL g1 g2 g3))<|zo [.tmp 2]
 ·exact(az (cL g1 g2 g3))<|zo [.tmp 2]
def cw(x:aT):aX x=[ab x.op,ah x.name,ah x.value,ab x.n,ab x.extra,.sl x.kids.length 6 (x.kids.flatMap aX)]:=by
 obtain⟨op,name,value,n,extra,kids⟩:=x;exact ig op name value n extra kids
def PB(op:Int)(name value:List Nat)(n extra:Int)(kids:List aT):fR (.mk op name value n extra kids)=.mk op name value n extra kids::kids.flatMap fR:=by
 rw[fR]
 congr 1
 induction kids with
 | nil=>rfl
 | cons k ks ih=>rw[mC,ih,flatMap_cons]
def CN(p:aT->Bool)(e:aT):(fR e).all p=(p e&&e.kids.all λk=>(fR k).all p):=by
 obtain⟨op,name,value,n,extra,kids⟩:=e;rw[PB,List.all_cons,List.all_flatMap];rfl
def gK.UZ{e:aT}(h:gK e):e.kids.length<=1000000/\∀k∈e.kids,gK k:=by
 cases h with
 | mk _ _ h1 h2=>exact⟨h1,h2⟩
def Ao{e k:aT}(h:k∈e.kids):SizeOf.sizeOf k<SizeOf.sizeOf e:=by
 obtain⟨op,name,value,n,extra,kids⟩:=e;have h1:=cn (show k∈kids from h)
 have h2:SizeOf.sizeOf (aT.mk op name value n extra kids)=1+SizeOf.sizeOf op+SizeOf.sizeOf name+SizeOf.sizeOf value+SizeOf.sizeOf n+SizeOf.sizeOf extra+SizeOf.sizeOf kids:=by simp
 omega
def EZ{l:List aT}(p:aT->Bool){fid:FuncId}{first cap:List SV}(hlen:l.length<=1000000)(hp:∀x∈l,PC aa fid ((first++[.ag (aX x)])++cap) (·=ak (p x)))(hg:bZ first=true/\bZ cap=true):PC aa 274 [an 6 l aX,.fn fid first cap] (·=ab (gu p l)):=by
 refine pB 19 func274 ?_;refine(az @an.eq_1)<|(zV)<|(zs) ?_;refine zL l (λk=>∀(i:Nat) y,i<k->l[i]?=some y->p y=false) (λk=>[(0,.sl l.length 6 (l.flatMap aX)),(1,.fn fid first cap),(7,ab l.length),(8,ab k)]) (λk=>[]) zH zp ?_;intro k hk hall;refine zT l k ?_ ?_;rintro rfl;rotate_left;intro x hx hlt;rotate_left
 ·exact(gE)<|(zV)<|zo [.tmp 4] (hq:=by rw[iP hall])
 ·have hpx0:=hp x (mem_iff_getElem?.2 ⟨k,hx⟩);have hxl:((l.flatMap aX).drop (k*6)).take 6=aX x:=aQ jF hx;rw[cw x] at hxl hpx0
  refine(gO)<|(zV)<|(fC (bz hlt hxl))<|(zK hpx0 (hwk:=((bm.refl hg.1).app (bm.refl rfl)).app (bm.refl hg.2))) ?_;refine aR.nil ?_
  change aE _ _ _ _ _;cases hpx:p x
  ·refine(zN)<|(az (zi hlt hlen)) ?_;refine zX hlt zH ?_
   intro i y hi hy;by_cases hik:i=k
   ·subst hik;rw[hx] at hy;cases hy;exact hpx
   ·exact hall i y ii hy
  ·exact(cB)<|zo [.tmp 4] (hq:=by rw[mu hx hpx hall])
def EN{l:List (aT)}(p:aT->Bool){fid:FuncId}{first cap:List SV}(hlen:l.length<=1000000)(hp:∀x∈l,PC aa fid ((first++[.ag (aX x)])++cap) (·=ak (p x)))(hg:bZ first=true/\bZ cap=true):PC aa 215 [an 6 l aX,.fn fid first cap] (·=ak (l.any p)):=by
 refine pB 9 func215 ?_;exact(jM)<|(zK (EZ p hlen hp hg) (hwk:=.cons (Wk.sl _ _ _) (.cons (.fn (bm.refl hg.1) (bm.refl hg.2)) .nil)))<|(zR)<|zo [.tmp 4] (hq:=by rw[nT])
def Kz(k:aT)(b:Bool)(ih:PC aa 129 [.ag (aX k),.fn 130 [] []] (·=ak b)):PC aa 216 [.ag (aX k),.ip [.fn 130 [] []]] (·=ak (!b)):=by
 refine pB 8 func216 ?_;rw[cw] at ih ⊢
 exact(jM)<|(zK ih)<|(zR)<|zo [.tmp 3]
def Bn:∀(d:Nat) (e:aT),SizeOf.sizeOf e<d->gK e->PC aa 129 [.ag (aX e),.fn 130 [] []] (·=ak ((fR e).all jc))
 | 0,e,hd,_=>ul hd (ch _)
 | d+1,e,hd,he=>by
  obtain⟨hlen,hks⟩:=he.UZ;have hn:=Kj e he;have hcof:=EN (λk=>!((fR k).all jc)) (l:=e.kids) (fid:=216) (first:=[]) (cap:=[.ip [.fn 130 [] []]]) hlen (λk hk=>Kz k _ (Bn d k (by have:=Ao hk;omega) (hks k hk))) ⟨rfl,rfl⟩
  have hr:(fR e).all jc=(jc e&&!(e.kids.any λk=>!((fR k).all jc))):=by
   rw[CN,List.not_any_eq_all_not];simp
  rw[hr];refine pB 15 func129 ?_;rw[cw] at hn ⊢
  refine(zV) ?_;refine zZ [(2,.ip [ab e.op,ah e.name,ah e.value,ab e.n,ab e.extra,.sl e.kids.length 6 (e.kids.flatMap aX)]),(3,.ptr 1 0)] 0 rfl zG<|zZ [(2,.ip [ab e.op,ah e.name,ah e.value,ab e.n,ab e.extra,.sl e.kids.length 6 (e.kids.flatMap aX)]),(3,.ip [.fn 130 [] []])] 1 rfl zG<|zA [(2,.ip [ab e.op,ah e.name,ah e.value,ab e.n,ab e.extra,.sl e.kids.length 6 (e.kids.flatMap aX)]),(3,.ip [.fn 130 [] []])] [] zH<|(zC)<|(zK hn) ?_
  cases jc e
  ·exact(zR)<|zo [.tmp 4]
  ·exact(zQ)<|(zK hcof)<|(zR)<|zo [.tmp 4]
mutual
def mq:aT->Int->Int×Bool
 | .mk _ _ _ _ _ kids,n=>if n+1<=60 then pT kids (n+1) else (n+1,false)
def pT:List aT->Int->Int×Bool
 | [],n=>(n,true)
 | k::ks,n=>if (mq k n).2=true then pT ks (mq k n).1 else ((mq k n).1,false)
end
def Ro(e:aT)(n:Int):mq e n=if n+1<=60 then pT e.kids (n+1) else (n+1,false):=by
 obtain⟨op,name,value,m,extra,kids⟩:=e;rw[mq];rfl
def Gz:List aT->Int->Int->Int
 | [],_,_ => -1
 | k::ks,n,j=>if (mq k n).2=true then Gz ks (mq k n).1 (j+1) else j
mutual
def DI:∀(e:aT) (n:Int),n<=60->(((mq e n).2=true/\(mq e n).1=n+(fR e).length/\n+(fR e).length<=60)\/((mq e n).2=false/\(mq e n).1=61/\60<n+(fR e).length))
 | .mk op name value m extra kids,n,hn=>by
  have ih:=KZ kids (n+1);rw[mq,fR,i7];split
  ·rename_i h
   rcases ih h with⟨h1,h2,h3⟩ | ⟨h1,h2,h3⟩
   ·exact .inl ⟨h1,by rw[h2];omega,by omega⟩
   ·exact .inr ⟨h1,h2,by omega⟩
  ·exact .inr ⟨rfl,by show n+1=61;omega,by omega⟩
def KZ:∀(l:List aT) (n:Int),n<=60->(((pT l n).2=true/\(pT l n).1=n+(mC l).length/\n+(mC l).length<=60)\/((pT l n).2=false/\(pT l n).1=61/\60<n+(mC l).length))
 | [],n,hn=>.inl ⟨rfl,by rw[pT,mC];simp,by rw[mC];simpa using hn⟩
 | k::ks,n,hn=>by
  have h:=DI k n hn;rw[pT,mC,li]
  rcases h with⟨h1,h2,h3⟩ | ⟨h1,h2,h3⟩
  ·rw[un h1]
   rcases KZ ks (mq k n).1 ii with⟨i1,i2,i3⟩ | ⟨i1,i2,i3⟩
   ·exact .inl ⟨i1,by rw[i2];omega,by omega⟩
   ·exact .inr ⟨i1,i2,by omega⟩
  ·rw[ut (by rw[h1];decide)];exact .inr ⟨rfl,h2,by omega⟩
end
def OK(e:aT):decide ((mq e 0).1<=60)=decide ((fR e).length<=60):=by
 rw[decide_eq_decide]
 rcases DI e 0 gt with⟨h1,h2,h3⟩ | ⟨h1,h2,h3⟩<;>omega
def Lg:∀(l:List aT) (n j:Int),0<=j->decide (0<=Gz l n j)=!(pT l n).2
 | [],_,_,_=>rfl
 | k::ks,n,j,hj=>by
  rw[Gz,pT];split
  ·exact Lg ks _ _ ii
  ·show decide (0<=j)=true;rw[wp];exact hj
def B1(e:aT)(n:Int)(hn:0<=n/\n<=60):SC aa 214 [.ag (aX e),.ptr 0 0] [.cells [ab n]] [] (λr S'=>r=ak (decide (n+1<=60))/\S'=[.cells [ab (n+1)]]):=by
 refine Qt 8 Tryz.func214 ?_;rw[cw]
 refine(zV)<|(az (FC (P:=aa) (t:=3) (a:=n) (b:=1) ii))<|(zV)<|zA [(3,ak (decide (n+1<=60))),(1000000,.ptr 0 0)] [.cells [ab (n+1)]] zH<|(zE) ?_;exact zP [.tmp 3]
def Is(k:aT)(n:Int)(q:Int×Bool)(ih:SC aa 129 [.ag (aX k),.fn 214 [] [.ptr 0 0]] [.cells [ab n]] [] (λr S'=>r=ak q.2/\S'=[.cells [ab q.1]])):
 SC aa 216 [.ag (aX k),.ptr 0 0] [.cells [.fn 214 [] [.ptr 1 0]],.cells [ab n]] [] (λr S'=>r=ak (!q.2)/\S'=[.cells [.fn 214 [] [.ptr 1 0]],.cells [ab q.1]]):=by
 refine Tw 8 func216 ?_;rw[cw] at ih ⊢
 refine(jM) ?_;refine zS [1] trivial ih ?_;refine(zR)<|zA [(3,ak (!q.2)),(1000000,.ptr 0 0),(1000001,.ptr 1 0)] [.cells [.fn 214 [] [.ptr 1 0]],.cells [ab q.1]] zH<|(zE) ?_;exact zP [.tmp 3]
abbrev Ox:SO:=.cells [.fn 214 [] [.ptr 1 0]]
def IK(k:aT):Prop:=∀n:Int,0<=n/\n<=60->SC aa 129 [.ag (aX k),.fn 214 [] [.ptr 0 0]] [.cells [ab n]] [] (λr S'=>r=ak (mq k n).2/\S'=[.cells [ab (mq k n).1]])
def NA(l:List aT)(n:Int)(hn:0<=n/\n<=60)(hlen:l.length<=1000000)(hkk:∀k∈l,IK k):SC aa 274 [an 6 l aX,.fn 216 [] [.ptr 0 0]] [Ox,.cells [ab n]] [] (λr S'=>r=ab (Gz l n 0)/\S'=[Ox,.cells [ab (pT l n).1]]):=by
 refine Tw 19 func274 ?_;refine(az @an.eq_1)<|(zV)<|(zs) ?_;refine KG l (λk (v:Int)=>(0<=v/\v<=60)/\Gz l n 0=Gz (l.drop k) v k/\(pT l n).1=(pT (l.drop k) v).1) (λk v=>[(0,.sl l.length 6 (l.flatMap aX)),(1,.fn 216 [] [.ptr 0 0]),(7,ab l.length),(8,ab k),(1000000,.ptr 0 0),(1000001,.ptr 1 0)]) (λk v=>[Ox,.cells [ab v]]) (n) zH (by exact⟨hn,rfl,rfl⟩) ?_;intro k v hk hall;refine zT l k ?_ ?_;rintro rfl;rotate_left;intro x hx hlt;rotate_left
 ·refine(gE)<|(zV) ?_
  rw[cp] at hall;refine(zE) ?_;exact zP [.tmp 4] (hq:=by (try simp only[eI,bG]);first | done | (rw[hall.2.1,hall.2.2];first | exact⟨rfl,rfl⟩ | exact⟨trivial,rfl⟩ | exact⟨rfl,trivial⟩ | exact⟨trivial,trivial⟩))
 rw[e9 hx,Gz,pT] at hall;have hxl:((l.flatMap aX).drop (k*6)).take 6=aX x:=aQ jF hx;have hw:=Is x v (mq x v) (hkk x (ad hx) v hall.1);rw[cw x] at hxl hw
 refine(gO)<|(zV)<|(fC (bz hlt hxl)) ?_;refine zS [0,1] trivial hw ?_;refine aR.nil ?_
 change aE _ _ _ _ _;have hok:=DI x v hall.1.2;cases hc:(mq x v).2
 ·rw[hc,ut bk,ut bk] at hall
  refine(cB)<|(zE) ?_;exact zP [.tmp 4] (hq:=by (try simp only[eI,bG]);first | done | (rw[hall.2.1,hall.2.2];first | exact⟨rfl,rfl⟩ | exact⟨trivial,rfl⟩ | exact⟨rfl,trivial⟩ | exact⟨trivial,trivial⟩))
 ·rw[hc,un rfl,un rfl] at hall;rw[hc] at hok
  have hb:0<=(mq x v).1/\(mq x v).1<=60:=by
   rcases hok with⟨_,h1,h2⟩ | ⟨h1,_⟩
   ·omega
   ·cases h1
  refine(zN)<|(az (zi hlt hlen)) ?_;refine yL hlt ((mq x v).1) zH (⟨hb,hall.2.1,hall.2.2⟩)
def Nw(l:List aT)(n:Int)(hn:0<=n/\n<=60)(hlen:l.length<=1000000)(hkk:∀k∈l,IK k):SC aa 215 [an 6 l aX,.fn 216 [] [.ptr 0 0]] [Ox,.cells [ab n]] [] (λr S'=>r=ak (!(pT l n).2)/\S'=[Ox,.cells [ab (pT l n).1]]):=by
 have hi:=NA l n hn hlen hkk;have hd:=Lg l n 0 (ey _);generalize Gz l n 0=j at hi hd
 refine Tw 9 func215 ?_;refine(zV)<|(fC @an.eq_1) ?_;refine zS [0,1] trivial hi ?_;refine(cH hd)<|(zE) ?_;exact zP [.tmp 4]
def Bm:∀(d:Nat) (e:aT),SizeOf.sizeOf e<d->gK e->IK e
 | 0,e,hd,_=>ul hd (ch _)
 | d+1,e,hd,he=>by
  intro n hn;obtain⟨hlen,hks⟩:=he.UZ;have hst:=B1 e n hn;rw[Ro];refine Qt 15 func129 ?_;rw[cw] at hst ⊢
  refine(zV) ?_;refine zZ [(2,.ip [ab e.op,ah e.name,ah e.value,ab e.n,ab e.extra,.sl e.kids.length 6 (e.kids.flatMap aX)]),(3,.ptr 2 0),(1000000,.ptr 0 0)] 1 rfl zG<|zA [(2,.ip [ab e.op,ah e.name,ah e.value,ab e.n,ab e.extra,.sl e.kids.length 6 (e.kids.flatMap aX)]),(3,.ptr 2 0),(1000000,.ptr 0 0)] [.cells [ab n],.gone,.cells [.fn 214 [] [.ptr 0 0]]] zH ?_
  by_cases h60:n+1<=60
  ·rw[wl h60] at hst;rw[un h60];have hcof:=Nw e.kids (n+1) ii hlen λk hk=>Bm d k (by have:=Ao hk;omega) (hks k hk)
   refine(zC) ?_;refine zS [0] trivial hst ?_;refine(zQ) ?_;refine zS [2,0] trivial hcof ?_ (hc:=IH @an.eq_1);refine(zR)<|zA [(4,ak (pT e.kids (n+1)).2),(1000000,.ptr 0 0)] [.cells [ab (pT e.kids (n+1)).1]] (bN @not_not)<|(zE) ?_;exact zP [.tmp 4]
  ·rw[wd h60] at hst;rw[ut h60]
   refine(zC) ?_;refine zS [0] trivial hst ?_;refine(zR)<|zA [(4,ak false),(1000000,.ptr 0 0)] [.cells [ab (n+1)]] zH<|(zE) ?_;exact zP [.tmp 4]
def Ku(e:aT)(he:gK e):PC aa 128 [.ag (aX e)] (·=ab (mq e 0).1):=by
 have hw:=Bm _ e (bQ _) he 0 ⟨by decide,by decide⟩;refine pB 8 Tryz.func128 ?_;rw[cw] at hw ⊢
 refine(zV) ?_;refine zZ [(1,.ip [ab e.op,ah e.name,ah e.value,ab e.n,ab e.extra,.sl e.kids.length 6 (e.kids.flatMap aX)])] 0 rfl zG<|zA [(1,.ip [ab e.op,ah e.name,ah e.value,ab e.n,ab e.extra,.sl e.kids.length 6 (e.kids.flatMap aX)])] [] zH<|(jM) ?_;refine zS [0] trivial hw ?_;exact(zR)<|(zV)<|zo [.tmp 2]
def yh(name kind:List Nat)(e:aT)(hn:fD name)(hk:fD kind)(he:gK e):PC aa 57 [.ag (ah name::ah kind::aX e)] (·=ak (cJ name&&(cJ kind&&om e))):=by
 have hs:=Ku e he;have hw:=Bn _ e (bQ _) he
 have hv:om e=(decide ((mq e 0).1<=60)&&(fR e).all jc):=by rw[OK];rfl
 rw[hv];generalize (fR e).all jc=w at hw;generalize (mq e 0).1=m at hs;refine pB 22 Tryz.func57 ?_;rw[cw] at hs hw ⊢
 refine(zV) ?_;refine zZ [(1,.ip [ah name,ah kind,ab e.op,ah e.name,ah e.value,ab e.n,ab e.extra,.sl e.kids.length 6 (e.kids.flatMap aX)])] 0 rfl zG<|zA [(1,.ip [ah name,ah kind,ab e.op,ah e.name,ah e.value,ab e.n,ab e.extra,.sl e.kids.length 6 (e.kids.flatMap aX)])] [] zH<|(zC)<|(zK (dZ name hn)) ?_
 cases cJ name
 ·exact(zR)<|zo [.tmp 2]
 refine(zQ)<|(zK (dZ kind hk)) ?_
 cases cJ kind
 ·exact(zR)<|zo [.tmp 2]
 refine(zQ)<|(zK hs) ?_
 cases g:decide (m<=60)
 ·exact(cH g)<|zo [.tmp 2]
 exact(NV g)<|(zK hw)<|(zR)<|zo [.tmp 2]
def qe(x:ai):List ai->List ai
 | []=>[x]
 | y::l=>if fO y.name x.name=true then y::qe x l else if y.name=x.name then x::l else x::y::l
def gj(x:ai):∀l:List ai,bJ l x=qe x l
 | []=>by simp[bJ,nY,gI,qe]
 | y::l=>by
  have ih:=gj x l;unfold bJ nY at ih ⊢;rw[qe,e6];split
  ·rename_i h
   have e:gI (y::l) x.name (f8 (y::dF (λp=>fO p.name x.name) l))=gI l x.name (dF (λp=>fO p.name x.name) l).length:=by
    unfold gI;rw[i7,ci]
   rw[e,i7,fx,fd,e4,cons_append];split at ih<;>rename_i hf
   ·rw[un hf,ih]
   ·rw[ut hf,ih]
  ·rename_i h;rw[i5];unfold gI;simp only[dt,set_cons_zero,take_zero,drop_zero,nil_append,wp]
section
variable (A:List Nat->Bool)
variable {A}
def Ll{x:ai}:∀{l:List ai},dX (l.map ai.name)=true->dX ((qe x l).map ai.name)=true/\∀p∈qe x l,p=x\/p∈l
 | [],_=>⟨rfl,λp hp=>by rw[qe,fu] at hp;exact .inl hp⟩
 | y::l,ho=>by
  obtain⟨i1,i2⟩:=Ll (x:=x) (l:=l) (iW ho);have hlt:=nX (a:=y.name) (l:=l.map ai.name) ho
  have cons:∀{a:ai} {r:List ai},(∀p∈r,fO a.name p.name=true)->dX (r.map ai.name)=true->dX ((a::r).map ai.name)=true:=by
   intro a r h1 h2
   cases r with
   | nil=>rfl
   | cons b r=>
    rw[bv,bv,dX,ac];exact⟨h1 b al,by rw[bv] at h2;exact h2⟩
  rw[qe];split
  ·rename_i h;refine⟨cons (λp hp=>?_) i1,λp hp=>?_⟩
   ·rcases i2 p hp with rfl | hp
    ·exact h
    ·exact hlt _ (am hp)
   ·rcases t6 hp with rfl | hp
    ·exact .inr al
    ·exact(i2 p hp).imp id (aj _)
  ·rename_i h;split
   ·rename_i e;refine⟨cons (λp hp=>by rw[<-e];exact hlt _ (am hp)) (iW ho),λp hp=>?_⟩
    rcases t6 hp with rfl | hp
    ·exact .inl rfl
    ·exact .inr (aj _ hp)
   ·rename_i e
    have hxy:fO x.name y.name=true:=by
     rcases j8 x.name y.name with k | k | k
     ·exact k
     ·exact ul k.symm e
     ·exact ul k h
    refine⟨cons (λp hp=>?_) ho,λp hp=>?_⟩
    ·rcases t6 hp with rfl | hp
     ·exact hxy
     ·exact fP hxy (hlt _ (am hp))
    ·rcases t6 hp with rfl | hp
     ·exact .inl rfl
     ·exact .inr hp
def Dx(name:List Nat):∀(l:List ai) (i:Nat) (m:List (List Nat×Int)),(dx name (mV i m l)=(dx name m||(bu l name).isSome))/\(dx name m=true->getM 0 name (mV i m l)=getM 0 name m)/\
 (dx name m=false->(bu l name).isSome=true->∃k,getM 0 name (mV i m l)=((i+k:Nat):Int)/\l[k]?=bu l name)
 | [],i,m=>⟨by rw[mV];simp[bu],λ_=>rfl,λ_ h=>by simp[bu] at h⟩
 | p::l,i,m=>by
  obtain⟨a1,a2,a3⟩:=Dx name l (i+1) (if dx p.name m=true then m else cu p.name i m)
  have hf:bu (p::l) name=if p.name=name then some p else bu l name:=by
   unfold bu;rw[b9];by_cases e:p.name=name
   ·rw[un e,wl e]
   ·rw[ut e,wd e]
  have hh:dx name (if dx p.name m=true then m else cu p.name (i:Int) m)=(dx name m||decide (p.name=name)):=by
   split
   ·rename_i h;by_cases e:p.name=name
    ·rw[<-e,h];simp
    ·simp[e]
   ·rw[qW,Bool.or_comm]
    congr 1
    by_cases e:p.name=name
    ·rw[wl e,wl e.symm]
    ·rw[wd e,wd λh=>e h.symm]
  rw[mV];refine⟨?_,λh=>?_,λh h2=>?_⟩
  ·rw[a1,hh,hf];by_cases e:p.name=name
   ·simp[e]
   ·simp[e]
  ·rw[a2 (by rw[hh,h];rfl)];split
   ·rfl
   ·rename_i hp;rw[lF,ut];intro e;rw[<-e,h] at hp;exact hp rfl
  ·by_cases e:p.name=name
   ·refine⟨0,?_,?_⟩
    ·rw[a2 (by rw[hh,wl e,Bool.or_true]),e,h,ut bk,lF,un rfl];rfl
    ·rw[hf,un e];rfl
   ·rw[hf,ut e] at h2 ⊢;obtain⟨k,k1,k2⟩:=a3 (by rw[hh,h,wd e];rfl) h2;exact⟨k+1,by rw[k1];congr 1;omega,by rw[ci];exact k2⟩
def en(ps:List ai)(name:List Nat):pZ ps (mV 0 [] ps) name=bu ps name:=by
 obtain⟨a1,_,a3⟩:=Dx name ps 0 [];unfold pZ;rw[a1];cases h:(bu ps name).isSome
 ·rw[show(dx name ([]:List (List Nat×Int))||false)=false from rfl,ut bk]
  cases hf:bu ps name with
  | none=>rfl
  | some x=>rw[hf] at h;cases h
 ·obtain⟨k,k1,k2⟩:=a3 rfl h;rw[show(dx name ([]:List (List Nat×Int))||true)=true from rfl,un rfl,k1,g0,fm,k2]
end
def Iy(q:(Int×Int)×Int):SV:=.cq [.ag [ab q.1.1,ab q.1.2],ab q.2]
abbrev wV(p:ai)(cur:List Nat)(day:Int):Fm:=[(1,ah cur),(2,ab day),(3,.ip (ae p)),(6,.ptr 1 0),(7,ab 0)]
def Im(p:ai)(day:Int):PC aa 136 [.ag (ae p),ah [107,109],ab day] (·=Iy (cK p [107,109] day)):=by
 have hq:cK p [107,109] day=if day<0\/40000<day then (((0,0):Int×Int),(13:Int)) else ((p.l1,p.l2),0):=rfl
 refine pB 32 c5 ?_;refine(az @ae.eq_1) ?_;refine zZ (wV p [107,109] day) 0 rfl (gV @ae.eq_1) ?_
 (try change aE _ _ _ _ _)
 have hg:getM (ve (.ep)) [107,109] nI=.fn 276 [] []:=rfl;have hh:dx [107,109] nI=true:=rfl
 refine(zC)<|(zK kY (hfl:=.inr (bm.refl rfl))) ?_;refine aR.r0 g9 (by simp only[dD,bY,an,aH,m7,m6,↓reduceIte,ay,bc,bi,ba,bh,ar,aw,bP,lg (l:=nI) [107,109],hg,hh];first | done | rfl) ?_;refine(zB)<|(FA) ?_
 cases d1:decide (day<0);rotate_left
 ·exact(az d1)<|(cB)<|kE [.cell 6 52,.tmp 7] (hq:=by rw[hq,un (.inl (ww d1))];rfl)
 cases d2:decide (40000<day);rotate_left
 ·exact(az (bz d1 d2))<|(cB)<|kE [.cell 6 52,.tmp 7] (hq:=by rw[hq,un (.inr (ww d2))];rfl)
 have h1:0<=day:=by have:=wt d1;omega
 have h2:day<=40000:=by have:=wt d2;omega
 exact(az (bz d1 d2))<|(zN)<|(fC (bz @ae.eq_1 @DF.eq_1))<|(zK (QF p day))<|(zR)<|kE [.cell 6 52,.tmp 7] (hq:=by rw[hq,ut ii];rfl)
def Io(p:ai)(day:Int):PC aa 136 [.ag (ae p),ah [99,121,99,108,101,115],ab day] (·=Iy (cK p [99,121,99,108,101,115] day)):=by
 have hq:cK p [99,121,99,108,101,115] day=if day<0\/40000<day then (((0,0):Int×Int),(13:Int)) else ((p.l3,p.l4),0):=rfl
 refine pB 32 c5 ?_;refine(az @ae.eq_1) ?_;refine zZ (wV p [99,121,99,108,101,115] day) 0 rfl (gV @ae.eq_1) ?_
 (try change aE _ _ _ _ _)
 have hg:getM (ve (.ep)) [99,121,99,108,101,115] nI=.fn 277 [] []:=rfl;have hh:dx [99,121,99,108,101,115] nI=true:=rfl
 refine(zC)<|(zK kY (hfl:=.inr (bm.refl rfl))) ?_;refine aR.r0 g9 (by simp only[dD,bY,an,aH,m7,m6,↓reduceIte,ay,bc,bi,ba,bh,ar,aw,bP,lg (l:=nI) [99,121,99,108,101,115],hg,hh];first | done | rfl) ?_;refine(zB)<|(FA) ?_
 cases d1:decide (day<0);rotate_left
 ·exact(az d1)<|(cB)<|kE [.cell 6 52,.tmp 7] (hq:=by rw[hq,un (.inl (ww d1))];rfl)
 cases d2:decide (40000<day);rotate_left
 ·exact(az (bz d1 d2))<|(cB)<|kE [.cell 6 52,.tmp 7] (hq:=by rw[hq,un (.inr (ww d2))];rfl)
 have h1:0<=day:=by have:=wt d1;omega
 have h2:day<=40000:=by have:=wt d2;omega
 exact(az (bz d1 d2))<|(zN)<|(fC (bz @ae.eq_1 @DF.eq_1))<|(zK (QC p day))<|(zR)<|kE [.cell 6 52,.tmp 7] (hq:=by rw[hq,ut ii];rfl)
def Ip(p:ai)(day:Int):PC aa 136 [.ag (ae p),ah [100,97,109,97,103,101],ab day] (·=Iy (cK p [100,97,109,97,103,101] day)):=by
 have hq:cK p [100,97,109,97,103,101] day=if day<0\/40000<day then (((0,0):Int×Int),(13:Int)) else ((p.l5,p.l6),0):=rfl
 refine pB 32 c5 ?_;refine(az @ae.eq_1) ?_;refine zZ (wV p [100,97,109,97,103,101] day) 0 rfl (gV @ae.eq_1) ?_
 (try change aE _ _ _ _ _)
 have hg:getM (ve (.ep)) [100,97,109,97,103,101] nI=.fn 278 [] []:=rfl;have hh:dx [100,97,109,97,103,101] nI=true:=rfl
 refine(zC)<|(zK kY (hfl:=.inr (bm.refl rfl))) ?_;refine aR.r0 g9 (by simp only[dD,bY,an,aH,m7,m6,↓reduceIte,ay,bc,bi,ba,bh,ar,aw,bP,lg (l:=nI) [100,97,109,97,103,101],hg,hh];first | done | rfl) ?_;refine(zB)<|(FA) ?_
 cases d1:decide (day<0);rotate_left
 ·exact(az d1)<|(cB)<|kE [.cell 6 52,.tmp 7] (hq:=by rw[hq,un (.inl (ww d1))];rfl)
 cases d2:decide (40000<day);rotate_left
 ·exact(az (bz d1 d2))<|(cB)<|kE [.cell 6 52,.tmp 7] (hq:=by rw[hq,un (.inr (ww d2))];rfl)
 have h1:0<=day:=by have:=wt d1;omega
 have h2:day<=40000:=by have:=wt d2;omega
 exact(az (bz d1 d2))<|(zN)<|(fC (bz @ae.eq_1 @DF.eq_1))<|(zK (QD p day))<|(zR)<|kE [.cell 6 52,.tmp 7] (hq:=by rw[hq,ut ii];rfl)
def Iq(p:ai)(day:Int):PC aa 136 [.ag (ae p),ah [100,97,121,115],ab day] (·=Iy (cK p [100,97,121,115] day)):=by
 have hq:cK p [100,97,121,115] day=if day<0\/40000<day then (((0,0):Int×Int),(13:Int)) else ((gN day p.since,gN day p.since),0):=rfl
 refine pB 32 c5 ?_;refine(az @ae.eq_1) ?_;refine zZ (wV p [100,97,121,115] day) 0 rfl (gV @ae.eq_1) ?_
 (try change aE _ _ _ _ _)
 have hg:getM (ve (.ep)) [100,97,121,115] nI=.fn 279 [] [DF]:=rfl;have hh:dx [100,97,121,115] nI=true:=rfl
 refine(zC)<|(zK kY (hfl:=.inr (bm.refl rfl))) ?_;refine aR.r0 g9 (by simp only[dD,bY,an,aH,m7,m6,↓reduceIte,ay,bc,bi,ba,bh,ar,aw,bP,lg (l:=nI) [100,97,121,115],hg,hh];first | done | rfl) ?_;refine(zB)<|(FA) ?_
 cases d1:decide (day<0);rotate_left
 ·exact(az d1)<|(cB)<|kE [.cell 6 52,.tmp 7] (hq:=by rw[hq,un (.inl (ww d1))];rfl)
 cases d2:decide (40000<day);rotate_left
 ·exact(az (bz d1 d2))<|(cB)<|kE [.cell 6 52,.tmp 7] (hq:=by rw[hq,un (.inr (ww d2))];rfl)
 have h1:0<=day:=by have:=wt d1;omega
 have h2:day<=40000:=by have:=wt d2;omega
 exact(az (bz d1 d2))<|(zN)<|(fC (bz @ae.eq_1 @DF.eq_1))<|(zK (JW p day ⟨h1,h2⟩))<|(zR)<|kE [.cell 6 52,.tmp 7] (hq:=by rw[hq,ut ii];rfl)
def Ir(p:ai)(day:Int):PC aa 136 [.ag (ae p),ah [97,103,101],ab day] (·=Iy (cK p [97,103,101] day)):=by
 have hq:cK p [97,103,101] day=if day<0\/40000<day then (((0,0):Int×Int),(13:Int)) else ((gN day p.made,gN day p.made),0):=rfl
 refine pB 32 c5 ?_;refine(az @ae.eq_1) ?_;refine zZ (wV p [97,103,101] day) 0 rfl (gV @ae.eq_1) ?_
 (try change aE _ _ _ _ _)
 have hg:getM (ve (.ep)) [97,103,101] nI=.fn 280 [] [DF]:=rfl;have hh:dx [97,103,101] nI=true:=rfl
 refine(zC)<|(zK kY (hfl:=.inr (bm.refl rfl))) ?_;refine aR.r0 g9 (by simp only[dD,bY,an,aH,m7,m6,↓reduceIte,ay,bc,bi,ba,bh,ar,aw,bP,lg (l:=nI) [97,103,101],hg,hh];first | done | rfl) ?_;refine(zB)<|(FA) ?_
 cases d1:decide (day<0);rotate_left
 ·exact(az d1)<|(cB)<|kE [.cell 6 52,.tmp 7] (hq:=by rw[hq,un (.inl (ww d1))];rfl)
 cases d2:decide (40000<day);rotate_left
 ·exact(az (bz d1 d2))<|(cB)<|kE [.cell 6 52,.tmp 7] (hq:=by rw[hq,un (.inr (ww d2))];rfl)
 have h1:0<=day:=by have:=wt d1;omega
 have h2:day<=40000:=by have:=wt d2;omega
 exact(az (bz d1 d2))<|(zN)<|(fC (bz @ae.eq_1 @DF.eq_1))<|(zK (Nv p day ⟨h1,h2⟩))<|(zR)<|kE [.cell 6 52,.tmp 7] (hq:=by rw[hq,ut ii];rfl)
def xO(p:ai)(cur:List Nat)(day:Int):PC aa 136 [.ag (ae p),ah cur,ab day] (·=Iy (cK p cur day)):=by
 by_cases c0:cur=[107,109]
 ·subst c0;exact Im p day
 by_cases c1:cur=[99,121,99,108,101,115]
 ·subst c1;exact Io p day
 by_cases c2:cur=[100,97,109,97,103,101]
 ·subst c2;exact Ip p day
 by_cases c3:cur=[100,97,121,115]
 ·subst c3;exact Iq p day
 by_cases c4:cur=[97,103,101]
 ·subst c4;exact Ir p day
 have hq:cK p cur day=((0,0),15):=by
  unfold cK;simp only[c0,c1,c2,c3,c4,if_false]
 refine pB 32 c5 ?_;refine(az @ae.eq_1) ?_;refine zZ (wV p cur day) 0 rfl (gV @ae.eq_1) ?_
 (try change aE _ _ _ _ _)
 have hk:nI.map (·.1)=[[107,109],[99,121,99,108,101,115],[100,97,109,97,103,101],[100,97,121,115],[97,103,101]]:=rfl
 have hh:dx cur nI=false:=by
  cases h:dx cur nI
  ·rfl
  ·rw[lH,hk] at h;simp[c0,c1,c2,c3,c4] at h
 have hg:getM (ve (.ep)) cur nI=ve (.ep):=Aa hh
 refine(zC)<|(zK kY (hfl:=.inr (bm.refl rfl))) ?_;refine aR.r0 g9 (by simp only[dD,bY,an,aH,m7,m6,↓reduceIte,ay,bc,bi,ba,bh,ar,aw,bP,lg (l:=nI) cur,hg,hh];first | done | rfl) ?_;exact(zB)<|(yi)<|(zV)<|kE [.cell 6 52,.tmp 7] (hq:=by rw[hq];rfl)
def Pb{ps:List ai}:TE ps (mV 0 [] ps):=Dz gc (Fz ps)
def Fo(ps:List ai)(part:List Nat)(hlen:ps.length<=1000000):PC aa 58 [.ag [an 14 ps ae],ah part] (·=ah (AP ps part)):=by
 refine pB 30 Tryz.func58 ?_;have hof:=sf ps hlen;unfold Dj at hof
 refine(zV) ?_;refine zZ [(1,ah part),(2,.ip [an 14 ps ae])] 0 rfl (gV @an.eq_1)<|zA [(1,ah part),(2,.ip [an 14 ps ae])] [] zH<|(zC)<|(zK hof (hfl:=.inr (bm.refl rfl)))<|(zR) ?_;refine zZ [(1,ah part),(2,.ip [an 14 ps ae]),(5,.ip [an 14 ps ae,mw AV.str ab (mV 0 [] ps)])] 0 rfl (gV @an.eq_1)<|zA [(1,ah part),(2,.ip [an 14 ps ae]),(5,.ip [an 14 ps ae,mw AV.str ab (mV 0 [] ps)])] [] zH<|(zV)<|(zs) ?_;refine KG ps (λk (pt:List Nat)=>AP ps part=l7 ps (ps.length-k) pt) (λk pt=>[(1,ah pt),(2,.ip [an 14 ps ae]),(5,.ip [an 14 ps ae,mw AV.str ab (mV 0 [] ps)]),(12,ab ps.length),(13,ab k)]) (λk pt=>[]) (part) zH g9 ?_;intro k pt hk hall;refine zT ps k ?_ ?_;rintro rfl;rotate_left;intro x hx hlt;rotate_left
 ·exact(gE)<|(zV)<|zo [.tmp 4] (hq:=by rw[hall,co];rfl)
 have hget:=nE ps (mV 0 [] ps) pt Pb;rw[en] at hget
 have hstep:l7 ps (ps.length-k) pt=match bu ps pt with
  | none=>[]
  | some p=>if p.aJ=[] then pt else l7 ps (ps.length-(k+1)) p.aJ:=by
  rw[show ps.length-k=ps.length-(k+1)+1 by omega];rfl
 refine(gO)<|(zC) ?_;refine aR.k g9 rfl rfl g9 rfl zc (hget) (zw) (.inr (bm.refl (by cases bu ps pt<;>rfl))) ?_
 cases hf:bu ps pt with
 | none=>
  rw[hf] at hstep
  exact(cH (cL @jn.eq_1 @ae.eq_1 @ai.zero.eq_1))<|(yi)<|(zV)<|zo [.tmp 4] (hq:=by rw[hall,hstep])
 | some p=>
  rw[hf] at hstep
  refine(cH (bz @jn.eq_1 @ae.eq_1))<|(FA) ?_
  cases hi:decide (p.aJ=[])
  ·rw[show(match some p with | none=>[] | some p=>if p.aJ=[] then pt else l7 ps (ps.length-(k+1)) p.aJ)=l7 ps (ps.length-(k+1)) p.aJ from ut (wt hi)] at hstep
   refine(az hi)<|(ly)<|(az (zi hlt hlen)) ?_;refine yL hlt (p.aJ) zH (by rw[hall,hstep])
  ·rw[show(match some p with | none=>[] | some p=>if p.aJ=[] then pt else l7 ps (ps.length-(k+1)) p.aJ)=pt from un (ww hi)] at hstep
   exact(az hi)<|(cB)<|zo [.tmp 4] (hq:=by rw[hall,hstep])
def mc(d:List Nat->Bool)(l:List (List Nat)):List (List Nat):=l.filter λx=>!d x
def Cz{d:List Nat->Bool}{l:List (List Nat)}(h:∀x∈l,d x=false):mc d l=l:=by
 unfold mc;rw[List.filter_eq_self];intro x hx;rw[h x hx];rfl
def An{d:List Nat->Bool}{l:List (List Nat)}{j:Nat}{x:List Nat}(h:l[j]?=some x):mc d (l.take (j+1))=mc d (l.take j)++(if d x=true then [] else [x]):=by
 unfold mc;rw[c8 h,List.filter_append];cases hd:d x<;>simp[hd]
def A1(l:List (List Nat)):(l.flatMap (aD ah)).length=l.length:=Sh l
def LL:∀n,(rep [AV.str []] n).map SV.a=(dv n ([]:List Nat)).flatMap (aD ah)
 | 0=>rfl
 | n+1=>by rw[rep,f6,LL n,List.replicate_succ,flatMap_cons];rfl
def CU:∀n,(rep [AV.str []] n).all kq=true
 | 0=>rfl
 | n+1=>by rw[rep,d9,CU n];rfl
def PM(l:List (List Nat))(i:Nat):(l.flatMap (aD ah)).take i=(l.take i).flatMap (aD ah):=by
 rw[r9,r9,List.map_take]
def HL(g:FuncId)(caps:List SV)(hg:bZ caps=true)(d:List Nat->Bool)(hp:∀x,PC aa g ([ah x]++caps) (·=ak (d x)))(l:List (List Nat))(hlen:l.length<=100000):
 SC aa 224 [.buf 0 l.length 1 none,.fn g [] caps] [.cells (l.flatMap (aD ah))] [] (λr S'=>r=.buf 0 (mc d l).length 1 none/\S'=[.cells ((mc d l++dv (l.length-(mc d l).length) []).flatMap (aD ah))]):=by
 have hidx:=rA (l:=l) d (fid:=g) (first:=[]) (cap:=caps) ii (λx hx=>hp x) ⟨rfl,hg⟩;have hkc:∀(o:Nat) (l:List (List Nat)),(l.flatMap (aD ah)).map (bf o)=l.flatMap (aD ah):=λo l=>bC (enc:=aD ah) (λ_=>rfl) o l;have hk2:∀o:Nat,caps.map (bf o)=caps:=λo=>bV hg;have hn2:∀o:Nat,fp o caps=false:=λo=>bX hg
 refine Qt 42 func224 ?_;refine(az (bz hk2 hn2))<|(fC (bz hk2 hn2))<|(zK hidx (hwk:=.cons (.buf rfl (by rw[eL (enc:=aD ah) (e:=1) (λ_=>rfl)];exact bm.refl (aA (λ_=>rfl) l)) (by rw[bg (enc:=aD ah) (e:=1) (λ_=>rfl)];exact be _)) (.cons (.fn .nil (bm.refl hg)) .nil)))<|(cH (bz hk2 hn2)) ?_
 by_cases hno:gu d l = -1
 ·have hall:=Ct hno;rw[hno]
  refine(yi)<|(zV)<|(zE) ?_;exact zP [.tmp 4] (hq:=by (try simp only[eI,bG]);first | done | (rw[Cz hall,co,List.replicate_zero,b0];first | exact⟨rfl,rfl⟩ | exact⟨trivial,rfl⟩ | exact⟨rfl,trivial⟩ | exact⟨trivial,trivial⟩))
 obtain⟨k,x0,hk,hx0,hd0,hbef⟩:=Cs hno;rw[hk];have hkl:k<l.length:=bx hx0
 refine(az (show decide ((k:Int) = -1)=false by simp only[wn];omega))<|(zN)<|(az (FC (show -9223372036854775808<=(k:Int)+1/\(k:Int)+1<=9223372036854775807 from⟨by omega,by omega⟩))) ?_
 have hst:mc d (l.take (k+1))=l.take k:=by
  rw[An hx0,un hd0,b0];refine Cz λx hx=>?_;obtain⟨i,hi⟩:=mem_iff_getElem?.1 hx
  have hik:i<k:=by
   have:=bx hi;rw[bd] at this;omega
  rw[dl,un hik] at hi;exact hbef i x hik hi
 (repeat refine aE.seq ?_)
 refine aE.block (aE.loop (λm st=>∃(j i:Nat) (q:List (List Nat)),(i<j/\j<=l.length/\q.length=l.length)/\(q.take i=mc d (l.take j)/\q.drop j=l.drop j)/\l.length-j=m/\st=⟨[(0,.buf 0 l.length 1 none),(1,.fn g [] caps),(5,re i),(6,re j),(1000000,.ptr 0 0)],42,[.cells (q.flatMap (aD ah))],[]⟩) (l.length-(k+1)) (bN @fQ) ⟨k+1,k,l,⟨bQ _,hkl,rfl⟩,⟨hst.symm,rfl⟩,rfl,rfl⟩ (by rintro m st ⟨j,i,q,_,_,_,rfl⟩;rfl) ?_);rintro m st ⟨j,i,q,⟨hij,hjl,hql⟩,⟨htk,hdr⟩,rfl,rfl⟩
 have hcl:(q.flatMap (aD ah)).length=l.length:=by rw[A1,hql]
 refine(zV) ?_;by_cases hlt:j<l.length;rotate_left
 ·rw[show decide ((j:Int)<(l.length:Int))=false by simp only[wn];omega]
  obtain rfl:j=l.length:=by omega
  rw[b7] at htk;refine(gE) ?_
  have hkl2:(mc d l).length=i:=by rw[<-htk,bd];omega
  have hrest:(q.flatMap (aD ah)).take i++((rep [AV.str []] (l.length-i)).map SV.a++(q.flatMap (aD ah)).drop (i+(l.length-i)))=(mc d l++dv (l.length-(mc d l).length) []).flatMap (aD ah):=by
   rw[hkl2,LL,PM,htk,bb (by rw[hcl];omega),b0,cb]
  refine(az (F4 (Rg (show i<=l.length by omega)) (show ¬(l.length-i=0) by omega) @cv (show i+(l.length-i)<=l.length by omega) hcl @CU hrest))<|(az (bz (VP (show i<=l.length by omega)) @Nat.sub_zero))<|(zE) ?_;exact zP [.tmp 4] (hq:=by (try simp only[eI,bG]);first | done | (rw[hkl2];first | exact⟨rfl,rfl⟩ | exact⟨trivial,rfl⟩ | exact⟨rfl,trivial⟩ | exact⟨trivial,trivial⟩))
 rw[show decide ((j:Int)<(l.length:Int))=true by simp only[wp];omega];obtain⟨x,hx⟩:∃x,l[j]?=some x:=⟨l[j],jp hlt⟩
 have hqx:q[j]?=some x:=by
  have:(q.drop j)[0]?=(l.drop j)[0]?:=by rw[hdr]
  rw[dd,dd,bt] at this;rw[this,hx]
 have hdr2:q.drop (j+1)=l.drop (j+1):=by
  have:=rc (List.drop 1) hdr;rw[f7,f7] at this;exact this
 have hsn:=An (d:=d) hx;have ax:=Ue (c:=ah) hqx;have hpx:=hp x
 refine(gO)<|(az (wS hlt hcl @cv (show j+1<=l.length by omega) ax hkc))<|(zC)<|(zK hpx (hwk:=.cons (.a _) (bm.refl hg))) ?_
 cases hd:d x
 ·have hil:i<q.length:=by omega
  have s1:=PN (c:=ah) (l:=q) (i:=i) x hil;rw[hd,ut gt] at hsn
  refine(zR)<|(zY)<|(az (lB (show i<l.length by omega) hcl @cv (show i+1<=l.length by omega) s1))<|(az (FC (show -9223372036854775808<=(i:Int)+1/\(i:Int)+1<=9223372036854775807 from⟨by omega,by omega⟩)))<|(az (FC (show -9223372036854775808<=(j:Int)+1/\(j:Int)+1<=9223372036854775807 from⟨by omega,by omega⟩))) ?_;refine⟨l.length-(j+1),_,by omega,(bN @fQ),j+1,i+1,q.set i x,⟨by omega,by omega,by rw[el,hql]⟩,⟨?_,?_⟩,rfl,rfl⟩
  ·rw[hsn,<-htk,cc,un hil,f3,bd,ct ii,List.take_take,Nat.min_eq_right ii,show i+1-i=1 by omega];rfl
  ·rw[List.drop_set,un ii];exact hdr2
 ·rw[hd,un rfl,b0] at hsn
  refine(zR)<|(zN)<|(az (FC (show -9223372036854775808<=(j:Int)+1/\(j:Int)+1<=9223372036854775807 from⟨by omega,by omega⟩))) ?_;exact⟨l.length-(j+1),_,by omega,(bN @fQ),j+1,i,q,⟨by omega,by omega,hql⟩,⟨by rw[hsn,htk],hdr2⟩,rfl,rfl⟩
abbrev BD(e:aT):SV:=.ip [ab e.op,ah e.name,ah e.value,ab e.n,ab e.extra,.sl e.kids.length 6 (e.kids.flatMap aX)]
def Bh(ps:List ai)(day:Int)(name kind:List Nat)(hlen:ps.length<=1000000):PC aa 225 [ah name,.ip [an 14 ps ae,ab day],.ip [ah kind]] (·=ak (!(decide ((cP ps name).kind=kind)))):=by
 have hf:=iZ ps name hlen;refine pB 18 Tryz.func225 ?_
 have ho:∃b,jn ae ai.zero (bu ps name)=.cq [.ag (ae (cP ps name)),ak b]:=by
  unfold cP
  cases bu ps name with
  | none=>exact⟨false,rfl⟩
  | some p=>exact⟨true,rfl⟩
 obtain⟨b,ho⟩:=ho;rw[ho] at hf;generalize cP ps name=p at hf
 exact(jM)<|(zK hf (hfl:=.inr (bm.refl rfl)))<|(cH @ae.eq_1)<|(zV)<|zo [.tmp 4]
def Nx(x:bB)(e:aT):PC aa 141 [.ag (aG x),BD e] (·=ak (decide (x.key=e.name))):=by
 refine pB 9 Tryz.func141 ?_;exact(az @aG.eq_1)<|(zV)<|zo [.tmp 3]
def J4(q:ai)(part:List Nat)(e:aT):PC aa 142 [.ag (ae q),.ip [ah part],BD e] (·=ak (decide (q.aJ=part)&&(decide (q.slot=e.name)&&decide (q.kind=e.value)))):=by
 refine pB 23 Tryz.func142 ?_;refine(az @ae.eq_1) ?_;cases g1:decide (q.aJ=part)
 ·exact(az g1)<|zo [.tmp 4]
 cases g2:decide (q.slot=e.name)
 ·exact(az (bz g1 g2))<|zo [.tmp 4]
 ·exact(az (bz g1 g2))<|zo [.tmp 4]
def E2{l:List (bB)}(p:bB->Bool){fid:FuncId}{first cap:List SV}(hlen:l.length<=1000000)(hp:∀x∈l,PC aa fid ((first++[.ag (aG x)])++cap) (·=ak (p x)))(hg:bZ first=true/\bZ cap=true):PC aa 223 [an 2 l aG,.fn fid first cap] (·=ab (gu p l)):=by
 refine pB 19 Tryz.func223 ?_;refine(az @an.eq_1)<|(zV)<|(zs) ?_;refine zL l (λk=>∀(i:Nat) y,i<k->l[i]?=some y->p y=false) (λk=>[(0,.sl l.length 2 (l.flatMap aG)),(1,.fn fid first cap),(7,ab l.length),(8,ab k)]) (λk=>[]) zH zp ?_;intro k hk hall;refine zT l k ?_ ?_;rintro rfl;rotate_left;intro x hx hlt;rotate_left
 ·exact(gE)<|(zV)<|zo [.tmp 4] (hq:=by rw[iP hall])
 ·refine(gO)<|(zV)<|(fC (cL hlt (aQ (e:=2) (enc:=aG) (λ_=>rfl) hx) @aG.eq_1))<|(zK (hp x (mem_iff_getElem?.2 ⟨k,hx⟩)) (hwk:=((bm.refl hg.1).app (bm.refl rfl)).app (bm.refl hg.2))) ?_;refine aR.nil ?_
  change aE _ _ _ _ _;cases hpx:p x
  ·refine(zN)<|(az (zi hlt hlen)) ?_;refine zX hlt zH ?_
   intro i y hi hy;by_cases hik:i=k
   ·subst hik;rw[hx] at hy;cases hy;exact hpx
   ·exact hall i y ii hy
  ·exact(cB)<|zo [.tmp 4] (hq:=by rw[mu hx hpx hall])
def EO{l:List (bB)}(p:bB->Bool){fid:FuncId}{first cap:List SV}(hlen:l.length<=1000000)(hp:∀x∈l,PC aa fid ((first++[.ag (aG x)])++cap) (·=ak (p x)))(hg:bZ first=true/\bZ cap=true):PC aa 140 [an 2 l aG,.fn fid first cap] (·=ak (l.any p)):=by
 refine pB 9 Tryz.func140 ?_;exact(jM)<|(zK (E2 p hlen hp hg) (hwk:=.cons (Wk.sl _ _ _) (.cons (.fn (bm.refl hg.1) (bm.refl hg.2)) .nil)))<|(zR)<|zo [.tmp 4] (hq:=by rw[nT])
def Ss(a b:bB):gn eK [AV.str a.key,.str a.value] [AV.str b.key,.str b.value]=(decide (a.key=b.key)&&decide (a.value=b.value)):=by
 simp[gn,eK,yq]
def HP(a b:bB):dj aa .eql 198 (.agg [.str a.key,.str a.value]) (.agg [.str b.key,.str b.value])=some (.bool (decide (a.key=b.key)&&decide (a.value=b.value))):=
 tN (ks:=[.s,.s]) zW zW (by simp only[aH,m6]) rfl rfl (Ss a b)
def Bd(l:List bB)(s:bB)(hlen:l.length<=1000000):PC aa 222 [an 2 l aG,.ag (aG s)] (·=ab (gu (λx=>decide (s.key=x.key)&&decide (s.value=x.value)) l)):=by
 refine pB 19 Tryz.func222 ?_;refine(az @aG.eq_1) ?_;refine zZ [(0,an 2 l aG),(3,.ip (aG s))] 0 rfl (gV (bz @an.eq_1 @aG.eq_1))<|zA [(0,an 2 l aG),(3,.ip (aG s))] [] zH<|(zV)<|(zs) ?_;refine zL l (λk=>∀(i:Nat) y,i<k->l[i]?=some y->(decide (s.key=y.key)&&decide (s.value=y.value))=false) (λk=>[(0,an 2 l aG),(3,.ip (aG s)),(7,ab l.length),(8,ab k)]) (λk=>[]) zH zp ?_;intro k hk hall;refine zT l k ?_ ?_;rintro rfl;rotate_left;intro x hx hlt;rotate_left
 ·exact(gE)<|(zV)<|zo [.tmp 4] (hq:=by rw[iP hall])
 ·have heq:=HP s x
  refine(gO)<|(zV)<|(zs) ?_;refine oK [0,0,0,6,14,31] ?_;refine(NO (gh hlt (aQ (e:=2) (enc:=aG) (λ_=>rfl) hx) @aG.eq_1 heq))<|(zM) ?_
  cases hpx:(decide (s.key=x.key)&&decide (s.value=x.value))
  ·refine(zN)<|(az (zi hlt hlen)) ?_;refine zX hlt zH ?_
   intro i y hi hy;by_cases hik:i=k
   ·subst hik;rw[hx] at hy;cases hy;exact hpx
   ·exact hall i y ii hy
  ·exact(cB)<|zo [.tmp 4] (hq:=by rw[mu (p:=λx=>decide (s.key=x.key)&&decide (s.value=x.value)) hx hpx hall])
def vk(l:List bB)(s:bB)(hlen:l.length<=1000000):PC aa 139 [an 2 l aG,.ag (aG s)] (·=ak (l.any λx=>decide (x.key=s.key)&&decide (x.value=s.value))):=by
 have he:(l.any λx=>decide (x.key=s.key)&&decide (x.value=s.value))=l.any λx=>decide (s.key=x.key)&&decide (s.value=x.value):=by
  congr 1;funext x;simp only[eq_comm]
 rw[he];have hi:=Bd l s hlen;refine pB 9 Tryz.func139 ?_;rw[show aG s=[ah s.key,ah s.value] from rfl] at hi ⊢
 exact(jM)<|(zK hi)<|(zR)<|zo [.tmp 4] (hq:=by rw[nT])
def ET(g:FuncId)(caps:List SV)(hg:bZ caps=true)(d:List Nat->Bool)(hp:∀x,PC aa g ([ah x]++caps) (·=ak (d x))):PC aa 224 [bF,.fn g [] caps] (·=bF):=by
 have hidx:=rA (l:=[]) d (fid:=g) (first:=[]) (cap:=caps) gc (λx hx=>hp x) ⟨rfl,hg⟩;rw[show gu d [] = -1 from rfl] at hidx
 refine pB 42 func224 ?_;exact(jM)<|(zK hidx (hwk:=.cons (.nil 1) (.cons (.fn .nil (bm.refl hg)) .nil)))<|(zR)<|(yi)<|(zV)<|zo [.tmp 4]
def Ji(ps:List ai)(part kind:List Nat):mc (λn=>!(decide ((cP ps n).kind=kind))) (ec ps part)=eb ps part kind:=by
 unfold mc eb;simp only[not_not]
def BW(ps:List ai)(day:Int)(part kind:List Nat)(hlen:ps.length<=100000):PC aa 143 [.ag [an 14 ps ae,ab day],ah part,ah kind] (·=an 1 (eb ps part kind) (aD ah)):=by
 have hin:=ry ps part hlen;have hil:=nk ps part;rw[<-Ji];have hd:=λn=>Bh ps day n kind ii;generalize hdd:(λn=>!(decide ((cP ps n).kind=kind)))=d at hd ⊢
 have hd:∀n,PC aa 225 ([ah n]++[.ip [an 14 ps ae,ab day],.ip [ah kind]]) (·=ak (d n)):=by rw[<-hdd];exact λn=>Bh ps day n kind ii
 clear hdd;generalize ec ps part=L at hin hil
 refine pB 13 Tryz.func143 ?_;refine(zV) ?_;refine zZ [(1,ah part),(3,.ip [an 14 ps ae,ab day]),(5,.ptr 1 0)] 0 rfl (gV @an.eq_1)<|zZ [(1,ah part),(3,.ip [an 14 ps ae,ab day]),(5,.ip [ah kind])] 1 rfl (gV @an.eq_1)<|zA [(1,ah part),(3,.ip [an 14 ps ae,ab day]),(5,.ip [ah kind])] [] zH ?_
 by_cases hL:L=[]
 ·subst hL;rw[show cj 0 1 ([]:List (List Nat)).length=bF from rfl,iD] at hin
  refine(zC) ?_;refine zS [] trivial hin ?_;exact(zQ)<|(zK (ET 225 [.ip [an 14 ps ae,ab day],.ip [ah kind]] rfl d hd))<|(zR)<|zo [.tmp 6] (r:=.sl 0 1 []) (hw:=Wk.nil _)
 ·have hL0:¬L.length=0:=λh=>hL (t7 h);rw[eF (o:=0) (e:=1) hL0,gz hL] at hin;have hrc:∀(r:Nat->Nat) (l:List (List Nat)),nr r (l.flatMap (aD ah))=l.flatMap (aD ah):=λr l=>br (aA (λ_=>rfl) l);have hbc:∀(B:Nat) (l:List (List Nat)),je B (l.flatMap (aD ah))=true:=λB l=>bK (aA (λ_=>rfl) l);have hkc:∀(o:Nat) (l:List (List Nat)),(l.flatMap (aD ah)).map (bf o)=l.flatMap (aD ah):=λo l=>bC (enc:=aD ah) (λ_=>rfl) o l
  refine(zC) ?_;refine zS [] (cL hrc hbc hkc) hin ?_;refine(zQ) ?_;refine zS [0] (cL hrc hbc hkc) (HL 225 [.ip [an 14 ps ae,ab day],.ip [ah kind]] rfl d hd L ii) ?_;exact(cH hkc)<|zo [.tmp 6] (r:=an 1 (mc d L) (aD ah)) (hw:=.buf rfl (by rw[cv,cb,List.take_left'];(exact bm.refl (aA (λ_=>rfl) _));rw[A1]) (by rw[A1,li];omega))
def qw(join:FuncId)(j:Int->Int->Int)(hj:∀a b,PC aa join [ab a,ab b] (·=ab (j a b)))(one:FuncId)(caps:List SV)(hg:bZ caps=true)(vals:List Int)(hlen:vals.length<=1000000)(h1:∀(i:Nat) x,vals[i]?=some x->PC aa one ([ab i]++caps) (·=ab x))(first:Int):
 PC aa 131 [.fn join [] [],ab first,ab vals.length,.fn one [] caps] (·=ab (vals.foldl j first)):=by
 refine pB 22 Tryz.func131 ?_;refine(oL)<|(zs) ?_;refine KG vals (λk (acc:Int)=>vals.foldl j first=(vals.drop k).foldl j acc) (λk acc=>[(0,.fn join [] []),(1,ab acc),(3,.fn one [] caps),(10,ab vals.length),(11,ab k)]) (λk acc=>[]) (first) zH g9 ?_;intro k acc hk hall;refine zT vals k ?_ ?_;rintro rfl;rotate_left;intro x hx hlt;rotate_left
 ·refine(gE) ?_;rw[cp] at hall
  exact(zV)<|zo [.tmp 8] (hq:=by rw[hall];rfl)
 rw[e9 hx,List.foldl_cons] at hall
 refine(gO)<|(jM)<|(zK (h1 k x hx) (hwk:=.cons (.a _) (bm.refl hg)))<|(zQ)<|(zK (hj acc x))<|(zR)<|(az (zi hlt hlen)) ?_;refine yL hlt (j acc x) zH hall
abbrev Lm(ps:List ai)(day:Int):SV:=.ip [an 14 ps ae,ab day]
def FD(ps:List ai)(day:Int)(e:aT)(part:List Nat)(v:Int):Prop:=PC aa 59 [.ag [an 14 ps ae,ab day],.ag (aX e),ah part] (·=ab v)
def wQ(ps:List ai)(day:Int)(e:aT)(part:List Nat)(i:Nat)(k:aT)(hk:e.kids[i]?=some k)(v:Int)(ih:FD ps day k part v):PC aa 132 ([ab i]++[Lm ps day,BD e,.ip [ah part]]) (·=ab v):=by
 have hlt:=bx hk;have hxl:((e.kids.flatMap aX).drop (i*6)).take 6=aX k:=aQ jF hk;unfold FD at ih;rw[cw k] at hxl ih
 refine pB 14 Tryz.func132 ?_;refine(zV)<|(zs) ?_;refine oK [0,0,2,0,14,30,0,127,255] ?_;refine(NO (bz hlt hxl)) ?_;refine SD.k g9 rfl rfl g9 rfl rfl zc (ih) (zw) rfl ?_;exact(qB)<|(zM)<|zo [.tmp 5]
def Bb(ps:List ai)(day:Int)(e:aT)(names:List (List Nat))(i:Nat)(nm:List Nat)(hi:names[i]?=some nm)(k:aT)(hk:e.kids[0]?=some k)(v:Int)(ih:FD ps day k nm v):PC aa 144 ([ab i]++[Lm ps day,BD e,.ip [an 1 names (aD ah)]]) (·=ab v):=by
 have hlt:=bx hi;have hlk:=bx hk
 have hxl:(e.kids.flatMap aX).take 6=aX k:=by have:=aQ jF hk;simpa using this
 have hnl:=aQ (e:=1) (enc:=aD ah) (λ_=>rfl) hi;unfold FD at ih;rw[cw k] at hxl ih
 refine pB 16 Tryz.func144 ?_;refine(zV)<|(zs) ?_;refine oK [0,0,2,6,14,0,0,96,224,511,1023] ?_;refine(NO (Vv hlt hlk hxl hnl @aD.eq_1 @Nat.zero_mul @drop_zero.{0} (show Jt (.a (.int .i64 0))=some 0 from rfl))) ?_;refine SD.k g9 rfl rfl g9 rfl rfl zc (ih) (zw) rfl ?_;exact(qB)<|(zM)<|zo [.tmp 5]
section
variable {A:List Nat->Bool}
def nt(A:List Nat->Bool):List Nat->Bool:=λn=>!(A n)
end
section
variable {A:List Nat->Bool}
def Lk(x:ai):∀l:List ai,(qe x l).length<=l.length+1
 | []=>be _
 | y::l=>by
  have ih:=Lk x l;rw[qe];split
  ·simp only[i7];omega
  ·split<;>simp only[i7]<;>omega
def jH{ps:List ai}{n:List Nat}{p:ai}(h:bu ps n=some p):p∈ps/\p.name=n:=by
 unfold bu at h;exact⟨ca h,by simpa using List.find?_some h⟩
end
def jr(ps:List ai)(day:Int)(e:aT)(part:List Nat):gW ps day e part=
 if e.op=2 then G7 ((Dw ps day e.kids part).headD 0)
 else if e.op=3 then (Dw ps day e.kids part).foldl xS 2
 else if e.op=4 then (Dw ps day e.kids part).foldl NT 0
 else if e.op=10 then (Bu ps day e.kids (eb ps part e.name)).foldl xS 2
 else if e.op=11 then (Bu ps day e.kids (eb ps part e.name)).foldl NT 0
 else GM ps day e.op e.name e.value e.n e.extra part:=by
 obtain⟨op,name,value,n,extra,kids⟩:=e;rw[gW];rfl
def rL(ps:List ai)(day:Int)(part:List Nat):∀l:List aT,Dw ps day l part=l.map λk=>gW ps day k part
 | []=>rfl
 | k::l=>by rw[Dw,rL ps day part l,bv]
def TH{ps:List ai}{day:Int}{e:aT}{part:List Nat}(h:e.op=1):gW ps day e part=2:=by
 rw[jr,h];rfl
def TI{ps:List ai}{day:Int}{e k:aT}{part:List Nat}(h:e.op=2)(hk:e.kids[0]?=some k):gW ps day e part=G7 (gW ps day k part):=by
 rw[jr,h,rL]
 cases hl:e.kids with
 | nil=>rw[hl] at hk;cases hk
 | cons a l=>rw[hl] at hk;cases hk;rfl
def TJ{ps:List ai}{day:Int}{e:aT}{part:List Nat}(h:e.op=3):gW ps day e part=(e.kids.map λk=>gW ps day k part).foldl xS 2:=by
 rw[jr,h,rL];rfl
def TL{ps:List ai}{day:Int}{e:aT}{part:List Nat}(h:e.op=4):gW ps day e part=(e.kids.map λk=>gW ps day k part).foldl NT 0:=by
 rw[jr,h,rL];rfl
def Oi{ps:List ai}{day:Int}{e:aT}{part:List Nat}(h:e.op=5):gW ps day e part=if (cK (cP ps part) e.name day).2=0 then G7 (gS (cK (cP ps part) e.name day).1.1 (cK (cP ps part) e.name day).1.2 (e.n+e.extra)) else 0:=by
 rw[jr,h];rfl
def Oj{ps:List ai}{day:Int}{e:aT}{part:List Nat}(h:e.op=6):gW ps day e part=if (cK (cP ps part) e.name day).2=0 then gS (cK (cP ps part) e.name day).1.1 (cK (cP ps part) e.name day).1.2 e.n else 0:=by
 rw[jr,h];rfl
def TM{ps:List ai}{day:Int}{e:aT}{part:List Nat}(h:e.op=7):gW ps day e part=Fy ((cP ps part).props.any λx=>decide (x.key=e.name)&&decide (x.value=e.value)):=by
 rw[jr,h];rfl
def TN{ps:List ai}{day:Int}{e:aT}{part:List Nat}(h:e.op=8):gW ps day e part=Fy ((cP ps part).props.any λx=>decide (x.key=e.name)):=by
 rw[jr,h];rfl
def TO{ps:List ai}{day:Int}{e:aT}{part:List Nat}(h:e.op=9):gW ps day e part=Fy (ps.any λq=>decide (q.aJ=part)&&(decide (q.slot=e.name)&&decide (q.kind=e.value))):=by
 rw[jr,h];rfl
def Q9{ps:List ai}{day:Int}{e k:aT}{part:List Nat}(h:e.op=10)(hk:e.kids[0]?=some k):gW ps day e part=((eb ps part e.name).map λn=>gW ps day k n).foldl xS 2:=by
 rw[jr,h]
 cases hl:e.kids with
 | nil=>rw[hl] at hk;cases hk
 | cons a l=>rw[hl] at hk;cases hk;rfl
def Ra{ps:List ai}{day:Int}{e k:aT}{part:List Nat}(h:e.op=11)(hk:e.kids[0]?=some k):gW ps day e part=((eb ps part e.name).map λn=>gW ps day k n).foldl NT 0:=by
 rw[jr,h]
 cases hl:e.kids with
 | nil=>rw[hl] at hk;cases hk
 | cons a l=>rw[hl] at hk;cases hk;rfl
def Rb{ps:List ai}{day:Int}{e:aT}{part:List Nat}(h:e.op=12):gW ps day e part=Fy (decide (e.n<=((eb ps part e.name).length:Int))):=by
 rw[jr,h];rfl
def AF{e:aT}(h:jc e=true)(ho:e.op=2\/e.op=10\/e.op=11):∃k,e.kids[0]?=some k:=by
 have hl:e.kids.length=1:=by
  unfold jc at h
  rcases ho with o | o | o<;>(unfold UE at h;rw[o] at h;simp[G6] at h;omega)
 cases hk:e.kids with
 | nil=>rw[hk] at hl;cases hl
 | cons a l=>exact⟨a,rfl⟩
def Ua{e:aT}(h:jc e=true)(o:e.op=5):0<=e.n/\e.n<=9999999/\0<=e.extra/\e.extra<=9999999:=by
 unfold jc UE at h;rw[o] at h;simp[G6,Je] at h;omega
def RY{e:aT}(h:jc e=true)(n1:¬e.op=1)(n2:¬e.op=2)(n3:¬e.op=3)(n4:¬e.op=4)(n5:¬e.op=5)(n6:¬e.op=6)(n7:¬e.op=7)(n8:¬e.op=8)(n9:¬e.op=9)(n10:¬e.op=10)(n11:¬e.op=11):e.op=12:=by
 refine Classical.byContradiction λn12=>?_;unfold jc UE at h;simp[n1,n2,n3,n4,n5,n6,n7,n8,n9,n10,n11,n12] at h
abbrev Ri(ps:List ai)(day:Int)(e:aT)(part:List Nat):List SV:=[Lm ps day,BD e,.ip [ah part]]
abbrev wA(ps:List ai)(day:Int)(e:aT)(part:List Nat)(p:ai):Fm:=[(3,Lm ps day),(4,BD e),(5,.ip [ah part]),(7,.ip (ae p)),(9,.fn 131 [] []),(10,.fn 132 [] (Ri ps day e part)),(11,ab e.n),(29,ab e.op)]
def C8(ps:List ai)(day:Int)(hlen:ps.length<=100000)(hps:∀p∈ps,p.props.length<=1000000):∀(d:Nat) (e:aT) (part:List Nat),SizeOf.sizeOf e<d->gK e->(fR e).all jc=true->FD ps day e part (gW ps day e part)
 | 0,e,_,hd,_,_=>ul hd (ch _)
 | d+1,e,part,hd,he,hv=>by
  have hf:=iZ ps part ii
  have ho:∃b,jn ae ai.zero (bu ps part)=.cq [.ag (ae (cP ps part)),ak b]:=by
   unfold cP
   cases bu ps part with
   | none=>exact⟨false,rfl⟩
   | some p=>exact⟨true,rfl⟩
  obtain⟨b,ho⟩:=ho;rw[ho] at hf
  have hpp:(cP ps part).props.length<=1000000:=by
   unfold cP
   cases hm:bu ps part with
   | none=>exact ck _
   | some p=>exact hps p (jH hm).1
  rw[CN,ac] at hv;have ih:∀k∈e.kids,∀nm,FD ps day k nm (gW ps day k nm):=λk hk nm=>C8 ps day hlen hps d k nm (by have:=Ao hk;omega) (he.UZ.2 k hk) (all_eq_true.1 hv.2 k hk);obtain⟨p,hp⟩:∃p,p=cP ps part:=⟨_,rfl⟩;rw[<-hp] at hf hpp;refine pB 137 Tryz.func59 ?_;rw[cw e]
  refine(zV) ?_;refine zZ [(3,Lm ps day),(4,.ptr 1 0),(5,.ptr 2 0)] 0 rfl (gV @an.eq_1)<|zZ [(3,Lm ps day),(4,BD e),(5,.ptr 2 0)] 1 rfl (gV @an.eq_1)<|zZ [(3,Lm ps day),(4,BD e),(5,.ip [ah part])] 2 rfl (gV @an.eq_1)<|zA [(3,Lm ps day),(4,BD e),(5,.ip [ah part])] [] zH<|(zC)<|(zK hf (hfl:=.inr (bm.refl rfl)))<|(cH @ae.eq_1) ?_;refine zZ [(3,Lm ps day),(4,BD e),(5,.ip [ah part]),(7,.ip (ae p))] 0 rfl (gV (bz @an.eq_1 @ae.eq_1))<|zA [(3,Lm ps day),(4,BD e),(5,.ip [ah part]),(7,.ip (ae p))] [] zH<|(oL)<|(oL)<|zA (wA ps day e part p) [] zH ?_
  (repeat (first | refine aE.seq ?_ | refine aE.block ?_))
  cases o1:decide (e.op=1);rotate_left
  ·have p1:=ww o1
   refine(az o1)<|(zY) ?_;refine aE.exit ?_
   (try simp only[e8,df,bW,bI])
   (try change aE _ _ _ _ _)
   exact(zV)<|zo [.tmp 6] (hq:=by rw[TH p1])
  have n1:=wt o1
  refine(az o1)<|(zN) ?_
  (try change aE _ _ _ _ _)
  (repeat (first | refine aE.seq ?_ | refine aE.block ?_))
  cases o2:decide (e.op=2);rotate_left
  ·have p2:=ww o2
   refine(az o2)<|(zY) ?_;refine aE.exit ?_
   (try simp only[e8,df,bW,bI])
   (try change aE _ _ _ _ _)
   obtain⟨k,hk⟩:=AF hv.1 (.inl p2);have hkp:PC aa 132 ([ab 0]++Ri ps day e part) (·=ab (gW ps day k part)):=wQ ps day e part 0 k hk _ (ih k (ad hk) part)
   exact(zC)<|(zK hkp (hwk:=bm.refl rfl))<|(zQ)<|(zK (De (gW ps day k part)))<|(zR)<|zo [.tmp 6] (hq:=by rw[TI p2 hk])
  have n2:=wt o2
  refine(az o2)<|(zN) ?_
  (try change aE _ _ _ _ _)
  (repeat (first | refine aE.seq ?_ | refine aE.block ?_))
  cases o3:decide (e.op=3);rotate_left
  ·have p3:=ww o3
   refine(az o3)<|(zY) ?_;refine aE.exit ?_
   (try simp only[e8,df,bW,bI])
   (try change aE _ _ _ _ _)
   have hfo:=qw 134 xS C7 132 (Ri ps day e part) rfl (e.kids.map λk=>gW ps day k part) (by rw[af];exact he.UZ.1) (λi x hi=>by
    obtain⟨k,hk,rfl⟩:=qV hi
    exact wQ ps day e part i k hk _ (ih k (ad hk) part)) 2
   rw[af] at hfo
   exact(zC)<|(zK hfo (hwk:=bm.refl rfl))<|(zR)<|zo [.tmp 6] (hq:=by rw[TJ p3])
  have n3:=wt o3
  refine(az o3)<|(zN) ?_
  (try change aE _ _ _ _ _)
  (repeat (first | refine aE.seq ?_ | refine aE.block ?_))
  cases o4:decide (e.op=4);rotate_left
  ·have p4:=ww o4
   refine(az o4)<|(zY) ?_;refine aE.exit ?_
   (try simp only[e8,df,bW,bI])
   (try change aE _ _ _ _ _)
   have hfo:=qw 135 NT H8 132 (Ri ps day e part) rfl (e.kids.map λk=>gW ps day k part) (by rw[af];exact he.UZ.1) (λi x hi=>by
    obtain⟨k,hk,rfl⟩:=qV hi
    exact wQ ps day e part i k hk _ (ih k (ad hk) part)) 0
   rw[af] at hfo
   exact(zC)<|(zK hfo (hwk:=bm.refl rfl))<|(zR)<|zo [.tmp 6] (hq:=by rw[TL p4])
  have n4:=wt o4
  refine(az o4)<|(zN) ?_
  (try change aE _ _ _ _ _)
  (repeat (first | refine aE.seq ?_ | refine aE.block ?_))
  cases o5:decide (e.op=5);rotate_left
  ·have p5:=ww o5
   refine(az o5)<|(zY) ?_;refine aE.exit ?_
   (try simp only[e8,df,bW,bI])
   (try change aE _ _ _ _ _)
   have h5:=Ua hv.1 p5;refine(az (FC (P:=aa) (t:=3) (a:=e.n) (b:=e.extra) ii)) ?_;have hva:=xO p e.name day
   have hvq:cK (cP ps part) e.name day=cK p e.name day:=by rw[hp]
   generalize cK p e.name day=q at hva hvq;obtain⟨⟨v1,v2⟩,cd⟩:=q;unfold Iy at hva
   refine(fC @ae.eq_1)<|(zK hva (hfl:=.inr (bm.refl rfl)))<|(zR) ?_
   cases hc:decide (cd=0)
   ·exact(az hc)<|(cB)<|zo [.tmp 6] (hq:=by rw[Oi p5,hvq,ut (wt hc)])
   exact(az hc)<|(NU)<|(zK (rz v1 v2 (e.n+e.extra)))<|(zR)<|(az (show decide (e.op=6)=false by rw[p5];rfl))<|(NU)<|(zK (De _))<|(zR)<|zo [.tmp 6] (hq:=by rw[Oi p5,hvq,un (ww hc)])
  have n5:=wt o5
  refine(az o5)<|(zN) ?_
  (try change aE _ _ _ _ _)
  (repeat (first | refine aE.seq ?_ | refine aE.block ?_))
  cases o6:decide (e.op=6);rotate_left
  ·have p6:=ww o6
   refine(az o6)<|(zY) ?_;refine aE.exit ?_
   (try simp only[e8,df,bW,bI])
   (try change aE _ _ _ _ _)
   have hva:=xO p e.name day
   have hvq:cK (cP ps part) e.name day=cK p e.name day:=by rw[hp]
   generalize cK p e.name day=q at hva hvq;obtain⟨⟨v1,v2⟩,cd⟩:=q;unfold Iy at hva
   refine(fC @ae.eq_1)<|(zK hva (hfl:=.inr (bm.refl rfl)))<|(zR) ?_
   cases hc:decide (cd=0)
   ·exact(az hc)<|(cB)<|zo [.tmp 6] (hq:=by rw[Oj p6,hvq,ut (wt hc)])
   exact(az hc)<|(NU)<|(zK (rz v1 v2 (e.n)))<|(zR)<|(az (show decide (e.op=6)=true by rw[p6];rfl))<|(cB)<|zo [.tmp 6] (hq:=by rw[Oj p6,hvq,un (ww hc)])
  have n6:=wt o6
  refine(az o6)<|(zN) ?_
  (try change aE _ _ _ _ _)
  (repeat (first | refine aE.seq ?_ | refine aE.block ?_))
  cases o7:decide (e.op=7);rotate_left
  ·have p7:=ww o7
   refine(az o7)<|(zY) ?_;refine aE.exit ?_
   (try simp only[e8,df,bW,bI])
   (try change aE _ _ _ _ _)
   exact(fC @ae.eq_1)<|(zK (vk p.props ⟨e.name,e.value⟩ hpp))<|(zQ)<|(zK (si _))<|(zR)<|zo [.tmp 6] (hq:=by rw[TM p7,<-hp])
  have n7:=wt o7
  refine(az o7)<|(zN) ?_
  (try change aE _ _ _ _ _)
  (repeat (first | refine aE.seq ?_ | refine aE.block ?_))
  cases o8:decide (e.op=8);rotate_left
  ·have p8:=ww o8
   refine(az o8)<|(zY) ?_;refine aE.exit ?_
   (try simp only[e8,df,bW,bI])
   (try change aE _ _ _ _ _)
   exact(fC @ae.eq_1)<|(zK (EO (l:=p.props) (λx=>decide (x.key=e.name)) (fid:=141) (first:=[]) (cap:=[BD e]) hpp (λx _=>Nx x e) ⟨rfl,rfl⟩))<|(zQ)<|(zK (si _))<|(zR)<|zo [.tmp 6] (hq:=by rw[TN p8,<-hp])
  have n8:=wt o8
  refine(az o8)<|(zN) ?_
  (try change aE _ _ _ _ _)
  (repeat (first | refine aE.seq ?_ | refine aE.block ?_))
  cases o9:decide (e.op=9);rotate_left
  ·have p9:=ww o9
   refine(az o9)<|(zY) ?_;refine aE.exit ?_
   (try simp only[e8,df,bW,bI])
   (try change aE _ _ _ _ _)
   exact(zC)<|(zK (vi (l:=ps) (λq=>decide (q.aJ=part)&&(decide (q.slot=e.name)&&decide (q.kind=e.value))) (fid:=142) (first:=[]) (cap:=[.ip [ah part],BD e]) ii (λx _=>J4 x part e) ⟨rfl,rfl⟩))<|(zQ)<|(zK (si _))<|(zR)<|zo [.tmp 6] (hq:=by rw[TO p9])
  have n9:=wt o9
  refine(az o9)<|(zN) ?_
  (try change aE _ _ _ _ _)
  (repeat (first | refine aE.seq ?_ | refine aE.block ?_))
  refine aE.exit ?_
  (try simp only[e8,df,bW,bI])
  (try change aE _ _ _ _ _)
  have hin:=BW ps day part e.name hlen;have hil:(eb ps part e.name).length<=ps.length:=dc (d8 _ _) (nk ps part);obtain⟨N,hN⟩:∃N,N=eb ps part e.name:=⟨_,rfl⟩;rw[<-hN] at hin hil
  refine(jM)<|(zK hin (hfl:=.inr (bm.refl rfl)))<|(zR) ?_;refine zZ [(3,Lm ps day),(4,BD e),(9,.fn 131 [] []),(16,.ip [an 1 N (aD ah)])] 0 rfl (gV @an.eq_1)<|zA [(3,Lm ps day),(4,BD e),(9,.fn 131 [] []),(16,.ip [an 1 N (aD ah)])] [] zH<|(oL)<|(zB) ?_
  cases o10:decide (e.op=10);rotate_left
  ·have p10:=ww o10
   refine(az o10)<|(zY) ?_
   obtain⟨k,hk⟩:=AF hv.1 (.inr (.inl p10))
   have hfo:=qw 134 xS C7 144 [Lm ps day,BD e,.ip [an 1 N (aD ah)]] rfl (N.map λn=>gW ps day k n) (by rw[af];omega) (λi x hi=>by
    obtain⟨nm,hnm,rfl⟩:=qV hi
    exact Bb ps day e N i nm hnm k hk _ (ih k (ad hk) nm)) 2
   rw[af] at hfo
   exact(fC @an.eq_1)<|(zK hfo (hwk:=bm.refl rfl))<|(zR)<|zo [.tmp 6] (hq:=by rw[Q9 p10 hk,<-hN])
  have n10:=wt o10
  refine(az o10)<|(zN) ?_
  cases o11:decide (e.op=11);rotate_left
  ·have p11:=ww o11
   refine(az o11)<|(zY) ?_
   obtain⟨k,hk⟩:=AF hv.1 (.inr (.inr p11))
   have hfo:=qw 135 NT H8 144 [Lm ps day,BD e,.ip [an 1 N (aD ah)]] rfl (N.map λn=>gW ps day k n) (by rw[af];omega) (λi x hi=>by
    obtain⟨nm,hnm,rfl⟩:=qV hi
    exact Bb ps day e N i nm hnm k hk _ (ih k (ad hk) nm)) 0
   rw[af] at hfo
   exact(fC @an.eq_1)<|(zK hfo (hwk:=bm.refl rfl))<|(zR)<|zo [.tmp 6] (hq:=by rw[Ra p11 hk,<-hN])
  have n11:=wt o11;have p12:=RY hv.1 n1 n2 n3 n4 n5 n6 n7 n8 n9 n10 n11
  exact(az o11)<|(zN)<|(fC @an.eq_1)<|(zK (si (decide (e.n<=(N.length:Int)))))<|(zR)<|zo [.tmp 6] (hq:=by rw[Rb p12,<-hN])
structure PR (c:List aK) (F:List Nat->Option ai) (p:ai):Prop where
 r:di c p=true
 s:p.aJ=[]↔p.slot=[]
 h:p.aJ≠[]->∃h,F p.aJ=some h/\p.aY=false/\h.aY=false/\l9 c h.kind p.slot p.kind=true
def FF(p q:ai):Prop:=p.aJ≠[]->¬(q.aJ=p.aJ/\q.slot=p.slot)
def FF.symm{p q:ai}(h:FF p q):FF q p:=λk e=>h (by rw[e.1];exact k) ⟨e.1.symm,e.2.symm⟩
def Pf{c:List aK}{t:List (gg×Bool)}{p:ai}(o:Option ai):sB c t p o=true↔(getM false ⟨p.aJ,p.slot⟩ t=false/\∃h,o=some h/\p.aY=false/\h.aY=false/\l9 c h.kind p.slot p.kind=true):=by
 cases o with
 | none=>exact⟨λh=>(by cases h),λ⟨_,h,k,_⟩=>(by cases k)⟩
 | some h=>
  unfold sB;simp only[qr,exists_eq_left'];generalize getM false ⟨p.aJ,p.slot⟩ t=a;generalize p.aY=b;generalize h.aY=d;generalize l9 c h.kind p.slot p.kind=e;cases a<;>cases b<;>cases d<;>cases e<;>simp
def CQ{c:List aK}{ps:List ai}:∀{l:List ai} {t:List (gg×Bool)},ft c ps (mV 0 [] ps) t l=true↔(∀p∈l,PR c (bu ps) p/\(p.aJ≠[]->getM false ⟨p.aJ,p.slot⟩ t=false))/\l.Pairwise FF
 | [],t=>⟨λ_=>⟨λp hp=>(by cases hp),.nil⟩,λ_=>rfl⟩
 | p::l,t=>by
  have ih:=λ{t}=>CQ (c:=c) (ps:=ps) (l:=l) (t:=t);rw[ft,List.pairwise_cons,Bool.and_eq_true,Bool.and_eq_true];by_cases hi:p.aJ=[]
  ·rw[wl hi,ar,ih];constructor
   ·rintro⟨h1,h2,h3,h4⟩
    have hs:p.slot=[]:=by simpa using h2
    refine⟨λq hq=>?_,λq _ k=>ul hi k,h4⟩
    rcases t6 hq with rfl | hq
    ·exact⟨⟨h1,⟨λ_=>hs,λ_=>hi⟩,λk=>ul hi k⟩,λk=>ul hi k⟩
    ·exact h3 q hq
   ·rintro⟨h1,_,h4⟩;have h0:=h1 p List.mem_cons_self;exact⟨h0.1.r,by rw[wl (h0.1.s.1 hi)];rfl,λq hq=>h1 q (List.mem_cons_of_mem _ hq),h4⟩
  ·rw[wd hi,aw,Bool.and_eq_true,ih,en,Pf];constructor
   ·rintro⟨h1,h2,⟨h3,h3'⟩,h4,h5⟩
    have hs:¬p.slot=[]:=by simpa using h2
    refine⟨λq hq=>?_,λq hq k e=>?_,h5⟩
    ·rcases t6 hq with rfl | hq
     ·exact⟨⟨h1,⟨λk=>ul k hi,λk=>ul k hs⟩,λ_=>h3'⟩,λ_=>h3⟩
     ·refine⟨(h4 q hq).1,λk=>?_⟩;have:=(h4 q hq).2 k;rw[lF] at this;split at this
      ·cases this
      ·exact this
    ·have:=(h4 q hq).2 (by rw[e.1];exact k);rw[lF,un (by rw[e.1,e.2])] at this;cases this
   ·rintro⟨h1,h2,h5⟩;have h0:=h1 p List.mem_cons_self;refine⟨h0.1.r,?_,⟨h0.2 hi,h0.1.h hi⟩,λq hq=>⟨(h1 q (List.mem_cons_of_mem _ hq)).1,λk=>?_⟩,h5⟩
    ·rw[wd λk=>hi (h0.1.s.2 k)];rfl
    ·rw[lF,ut,(h1 q (List.mem_cons_of_mem _ hq)).2 k];intro e;exact h2 q hq hi ⟨rc gg.aJ e,rc gg.slot e⟩
def PZ:∀{ps:List ai},dX (ps.map ai.name)=true->ps.Pairwise λp q=>fO p.name q.name=true
 | [],_=>.nil
 | y::l,h=>.cons (λp hp=>nX (a:=y.name) (l:=l.map ai.name) h _ (am hp)) (PZ (iW h))
def nR{p:ai}:∀{ps:List ai},dX (ps.map ai.name)=true->p∈ps->bu ps p.name=some p
 | [],_,h=>by cases h
 | y::l,ho,h=>by
  unfold bu;rw[b9]
  rcases t6 h with rfl | h
  ·rw[wl rfl]
  ·have hlt:=nX (a:=y.name) (l:=l.map ai.name) ho _ (am h);rw[wd λe=>by rw[e,dq] at hlt;cases hlt];exact nR (iW ho) h
def P8{α:Type}{R:α->α->Prop}(hs:∀{a b},R a b->R b a):∀{l:List α},l.Pairwise R->∀a∈l,∀b∈l,a=b\/R a b
 | [],_,a,h,_,_=>by cases h
 | y::l,h,a,ha,b,hb=>by
  rw[fv] at h
  rcases t6 ha with e | ha2
  ·rcases t6 hb with e2 | hb2
   ·exact .inl (e.trans e2.symm)
   ·exact .inr (by rw[e];exact h.1 b hb2)
  ·rcases t6 hb with e2 | hb2
   ·exact .inr (by rw[e2];exact hs (h.1 a ha2))
   ·exact P8 hs h.2 a ha2 b hb2
structure VF (c:List aK) (F:List Nat->Option ai):Prop where
 n:∀{n p},F n=some p->p.name=n
 p:∀{n p},F n=some p->PR c F p
 u:∀{m n p q},F m=some p->F n=some q->m≠n->FF p q
def vz{c:List aK}{ps:List ai}(hc:ox c=true)(ho:dX (ps.map ai.name)=true)(hlen:ps.length<=20000):cS c ps=true↔VF c (bu ps):=by
 unfold cS;rw[hc,ho,wd (show ¬20000<(ps.length:Int) by omega)];simp only[Bool.not_false,gd];rw[CQ];constructor
 ·rintro⟨h1,h2⟩;refine⟨λh=>(jH h).2,λh=>(h1 _ (jH h).1).1,λ{m n p q} h k hne=>?_⟩;obtain⟨a1,a2⟩:=jH h;obtain⟨b1,b2⟩:=jH k;exact(P8 FF.symm h2 p a1 q b1).resolve_left λe=>hne (by rw[<-a2,<-b2,e])
 ·intro h;refine⟨λp hp=>⟨h.p (nR ho hp),λ_=>rfl⟩,(PZ ho).imp_of_mem λ{p q} hp hq hlt=>h.u (nR ho hp) (nR ho hq) λe=>?_⟩;rw[e,dq] at hlt;cases hlt
def oq{c:List aK}{ps:List ai}(h:cS c ps=true):ox c=true/\dX (ps.map ai.name)=true/\ps.length<=20000:=by
 unfold cS at h;simp only[ac,ap,wn] at h;exact⟨h.1,h.2.2.1,by omega⟩
def Gi{x:ai}{n:List Nat}:∀{l:List ai},bu (qe x l) n=if n=x.name then some x else bu l n
 | []=>by
  unfold qe bu;rw[b9];by_cases h:n=x.name
  ·rw[un h,wl h.symm]
  ·rw[ut h,wd λe=>h e.symm]
 | y::l=>by
  have ih:=Gi (x:=x) (n:=n) (l:=l)
  have cons:∀(z:ai) (r:List ai),bu (z::r) n=if n=z.name then some z else bu r n:=λz r=>by
   unfold bu;rw[b9];by_cases h:n=z.name
   ·rw[un h,wl h.symm]
   ·rw[ut h,wd λe=>h e.symm]
  rw[qe];split
  ·rename_i h;rw[cons,ih,cons];by_cases e:n=y.name
   ·rw[un e,un e,ut];intro e2;rw[<-e,e2,dq] at h;cases h
   ·rw[ut e,ut e]
  ·split
   ·rename_i e;rw[cons,cons,e];split<;>rfl
   ·rw[cons]
def O6{x:ai}{n:List Nat}(l:List ai):bu (bJ l x) n=if n=x.name then some x else bu l n:=by
 rw[gj,Gi]
def VF.put{c:List aK}{F:List Nat->Option ai}(h:VF c F){x:ai}(hr:di c x=true)(hs:x.aJ=[]↔x.slot=[])
 (hh:x.aJ≠[]->∃h,(if x.aJ=x.name then some x else F x.aJ)=some h/\x.aY=false/\h.aY=false/\l9 c h.kind x.slot x.kind=true)
 (hf:x.aJ≠[]->∀n q,n≠x.name->F n=some q->¬(q.aJ=x.aJ/\q.slot=x.slot))
 (hg:∀n q,n≠x.name->F n=some q->q.aJ≠[]->q.aJ=x.name->x.aY=false/\l9 c x.kind q.slot q.kind=true):VF c λn=>if n=x.name then some x else F n:=by
 have out:∀{n p},n≠x.name->(if n=x.name then some x else F n)=some p->F n=some p:=λe k=>by rw[ut e] at k;exact k
 refine⟨λ{n p} k=>?_,λ{n p} k=>?_,λ{m n p q} k1 k2 hne=>?_⟩
 ·by_cases e:n=x.name
  ·rw[un e] at k;cases k;exact e.symm
  ·exact h.n (out e k)
 ·by_cases e:n=x.name
  ·rw[un e] at k;cases k;exact⟨hr,hs,hh⟩
  ·have k2:=out e k;have hp:=h.p k2;refine⟨hp.r,hp.s,λk3=>?_⟩;obtain⟨g,g1,g2,g3,g4⟩:=hp.h k3;by_cases e2:p.aJ=x.name
   ·obtain⟨f1,f2⟩:=hg n p e k2 k3 e2;exact⟨x,un e2,g2,f1,f2⟩
   ·exact⟨g,by rw[ut e2];exact g1,g2,g3,g4⟩
 ·by_cases e:m=x.name
  ·have e2:n≠x.name:=λe2=>hne (e.trans e2.symm);rw[un e] at k1;cases k1;exact λk=>hf k n q e2 (out e2 k2)
  ·by_cases e2:n=x.name
   ·rw[un e2] at k2;cases k2;exact FF.symm λk=>hf k m p e (out e k1)
   ·exact h.u (out e k1) (out e2 k2) hne
def VF.Pd{c:List aK}{F:List Nat->Option ai}(h:VF c F){p x:ai}(hF:F p.name=some p)(h1:x.name=p.name)(h2:x.kind=p.kind)(h3:x.aY=p.aY):∀n q,n≠x.name->F n=some q->q.aJ≠[]->q.aJ=x.name->x.aY=false/\l9 c x.kind q.slot q.kind=true:=by
 intro n q _ hq hi e;obtain⟨g,g1,g2,g3,g4⟩:=(h.p hq).h hi;rw[e,h1,hF] at g1;cases g1;rw[h3,h2];exact⟨g3,g4⟩
def VF.same{c:List aK}{F:List Nat->Option ai}(h:VF c F){p x:ai}(hF:F p.name=some p)(hr:di c x=true)(h1:x.name=p.name)(h2:x.kind=p.kind)(h3:x.aY=p.aY)(h4:x.aJ=p.aJ)(h5:x.slot=p.slot):VF c λn=>if n=x.name then some x else F n:=by
 have hp:=h.p hF;refine h.put hr (by rw[h4,h5];exact hp.s) (λk=>?_) (λk n q hn hq=>?_) (h.Pd hF h1 h2 h3)
 ·obtain⟨g,g1,g2,g3,g4⟩:=hp.h (by rw[<-h4];exact k);by_cases e:x.aJ=x.name
  ·rw[h4,h1] at e;rw[e,hF] at g1;cases g1;exact⟨x,by rw[h4,h1,un e],by rw[h3];exact g2,by rw[h3];exact g2,by rw[h2,h5];exact g4⟩
  ·exact⟨g,by rw[ut e,h4];exact g1,by rw[h3];exact g2,g3,by rw[h2,h5];exact g4⟩
 ·have:=h.u hF hq λe=>hn (by rw[h1];exact e.symm);rw[h4] at k ⊢;rw[h5];exact this k
def w6(x:bB):List bB->List bB
 | []=>[x]
 | y::l=>if fO y.key x.key=true then y::w6 x l else if y.key=x.key then x::l else x::y::l
def xe(x:bB):∀l:List bB,gT l x=w6 x l
 | []=>by simp[gT,nZ,iO,w6]
 | y::l=>by
  have ih:=xe x l;unfold gT nZ at ih ⊢;rw[w6,e6];split
  ·rename_i h
   have e:iO (y::l) x.key (f8 (y::dF (λp=>fO p.key x.key) l))=iO l x.key (dF (λp=>fO p.key x.key) l).length:=by
    unfold iO;rw[i7,ci]
   rw[e,i7,fx,fd,e4,cons_append];split at ih<;>rename_i hf
   ·rw[un hf,ih]
   ·rw[ut hf,ih]
  ·rename_i h;rw[i5];unfold iO;simp only[dt,set_cons_zero,take_zero,drop_zero,nil_append,wp]
def Cw{x:bB}:∀{l:List bB},dX (l.map bB.key)=true->dX ((w6 x l).map bB.key)=true/\∀p∈w6 x l,p=x\/p∈l
 | [],_=>⟨rfl,λp hp=>by rw[w6,fu] at hp;exact .inl hp⟩
 | y::l,ho=>by
  obtain⟨i1,i2⟩:=Cw (x:=x) (l:=l) (iW ho);have hlt:=nX (a:=y.key) (l:=l.map bB.key) ho
  have cons:∀{a:bB} {r:List bB},(∀p∈r,fO a.key p.key=true)->dX (r.map bB.key)=true->dX ((a::r).map bB.key)=true:=by
   intro a r h1 h2
   cases r with
   | nil=>rfl
   | cons b r=>
    rw[bv,bv,dX,ac];exact⟨h1 b al,by rw[bv] at h2;exact h2⟩
  rw[w6];split
  ·rename_i h;refine⟨cons (λp hp=>?_) i1,λp hp=>?_⟩
   ·rcases i2 p hp with rfl | hp
    ·exact h
    ·exact hlt _ (am hp)
   ·rcases t6 hp with rfl | hp
    ·exact .inr al
    ·exact(i2 p hp).imp id (aj _)
  ·rename_i h;split
   ·rename_i e;refine⟨cons (λp hp=>by rw[<-e];exact hlt _ (am hp)) (iW ho),λp hp=>?_⟩
    rcases t6 hp with rfl | hp
    ·exact .inl rfl
    ·exact .inr (aj _ hp)
   ·rename_i e
    have hxy:fO x.key y.key=true:=by
     rcases j8 x.key y.key with k | k | k
     ·exact k
     ·exact ul k.symm e
     ·exact ul k h
    refine⟨cons (λp hp=>?_) ho,λp hp=>?_⟩
    ·rcases t6 hp with rfl | hp
     ·exact hxy
     ·exact fP hxy (hlt _ (am hp))
    ·rcases t6 hp with rfl | hp
     ·exact .inl rfl
     ·exact .inr hp
def oP{e:aV}(h:cQ e=true):0<=e.day/\e.day<=40000/\cJ e.part=true/\e.j9=true/\∀s∈e.names,cJ s=true:=by
 unfold cQ at h;simp only[ac,ap,wn] at h;obtain⟨_,h1,h2,h3,h4,_,h6⟩:=h;exact⟨by omega,by omega,h3,h4,λs hs=>by simpa using List.any_eq_false.1 h6 s hs⟩
def Lw{s:List Nat}(h:cJ s=true):s≠[]:=λe=>by rw[e] at h;cases h
def Hs{c:List aK}{p:ai}{e:aV}(h:di c p=true)(he:cQ e=true):di c (gL p e)=true:=by
 obtain⟨h1,h2,_⟩:=oP he;unfold di at h ⊢;simp only[ac,ap,wn] at h ⊢;obtain⟨a1,a2,a3,a4,a5,a6,a7,a8,_⟩:=h;refine⟨a1,a2,a3,?_,?_,a6,a7,a8,rfl,rfl,rfl⟩
 ·show ¬bT p.since e.day<p.made;unfold bT;split<;>omega
 ·show ¬40000<bT p.since e.day;unfold bT;split<;>omega
def JJ{c:List aK}{p:ai}{e:aV}(h:di c p=true)(he:cQ e=true)(h6:e.op=6)(hl:¬60<((gT p.props ⟨e.key,e.value⟩).length:Int)):di c (nV p e)=true:=by
 obtain⟨_,_,_,hm,hn⟩:=oP he;have hk:cJ e.key=true:=hn _ (by unfold aV.names;rw[h6];exact rt rfl)
 have hv:oa ⟨e.key,e.value⟩=true:=by
  unfold aV.j9 at hm;rw[h6] at hm;simp only[show ¬(6:Int)=1 by decide,show ¬(6:Int)=2 by decide,if_false,if_true,ac,ap,wn] at hm;unfold oa;simp only[hk,gd,ac,ap,wn,wp];exact⟨hm.1,by omega⟩
 unfold di at h ⊢;simp only[ac,ap,wn] at h ⊢;obtain⟨a1,a2,a3,a4,a5,a6,a7,a8,a9⟩:=h;refine⟨a1,a2,a3,a4,a5,hl,?_,?_,a9⟩
 ·show(gT p.props ⟨e.key,e.value⟩).all oa=true;rw[all_eq_true] at a7 ⊢;intro x hx
  rcases xf hx with rfl | hx
  ·exact hv
  ·exact a7 x hx
 ·show dX ((gT p.props ⟨e.key,e.value⟩).map bB.key)=true;rw[xe];exact(Cw a8).1
def Nk{c:List aK}{e:aV}(he:cQ e=true)(hk:¬(dH c e.kind).isNone=true):di c (mB e)=true:=by
 obtain⟨h1,h2,h3,_⟩:=oP he;unfold di mB;simp only[ac,ap,wn];refine⟨?_,h3,by omega,by omega,by omega,by simp,rfl,rfl,rfl,rfl,rfl⟩
 cases h:dH c e.kind with
 | none=>rw[h] at hk;exact ul rfl hk
 | some k=>rfl
def SE{c:List aK}{ps:List ai}{e:aV}{p h:ai}(hV:VF c (bu ps))(he:cQ e=true)(hF:bu ps p.name=some p)(hH:e.op=2->bu ps e.aJ=some h/\p.name=e.part)(hps:p.aY=false)(hhs:h.aY=false)(h0:(eV c ps e p h).2=0):∃x,(eV c ps e p h).1=bJ ps x/\VF c (λn=>if n=x.name then some x else bu ps n):=by
 have hp:=hV.p hF;unfold eV at h0 ⊢;simp only at h0 ⊢;by_cases h2:e.op=2
 ·rw[un h2] at h0 ⊢;obtain⟨g1,g2⟩:=hH h2;obtain⟨_,_,_,hm,hn⟩:=oP he;have hi:e.aJ≠[]:=Lw (hn _ (by unfold aV.names;rw[h2];exact al));have hs:e.slot≠[]:=Lw (hn _ (by unfold aV.names;rw[h2];exact aj _ al))
  have hne:e.aJ≠e.part:=by
   unfold aV.j9 at hm;rw[h2] at hm;simpa using hm
  split at h0
  ·cases h0
  rename_i k1;rw[ut k1];split at h0
  ·cases h0
  rename_i k2;rw[ut k2];split at h0
  ·cases h0
  rename_i k3;rw[ut k3];simp only[f5,not_or,fy,Bool.not_eq_false'] at k1;refine⟨_,rfl,hV.put (x:=uj p e) hp.r ⟨λk=>ul k hi,λk=>ul k hs⟩ (λ_=>⟨h,?_,hps,hhs,k1.2⟩) (λ_ n q _ hq k=>?_) (hV.Pd hF rfl rfl rfl)⟩
  ·show(if e.aJ=p.name then some (uj p e) else bu ps e.aJ)=some h;rw[ut (by rw[g2];exact hne)];exact g1
  ·refine k3 (any_eq_true.2 ⟨q,(jH hq).1,?_⟩);rw[ac,wp,wp];exact k
 rw[ut h2] at h0 ⊢;by_cases h3:e.op=3
 ·rw[un h3] at h0 ⊢;split at h0
  ·cases h0
  rename_i k1;rw[ut k1];exact⟨_,rfl,hV.put (x:=wz p) hp.r ⟨λ_=>rfl,λ_=>rfl⟩ (λk=>ul rfl k) (λk=>ul rfl k) (hV.Pd hF rfl rfl rfl)⟩
 rw[ut h3] at h0 ⊢;by_cases h4:e.op=4
 ·rw[un h4] at h0 ⊢;split at h0
  ·rename_i k1;rw[un k1];exact⟨_,rfl,hV.same hF hp.r rfl rfl rfl rfl rfl⟩
  ·cases h0
 rw[ut h4] at h0 ⊢;by_cases h5:e.op=5
 ·rw[un h5] at h0 ⊢;exact⟨_,rfl,hV.same (x:=gL p e) hF (Hs hp.r he) rfl rfl rfl rfl rfl⟩
 rw[ut h5] at h0 ⊢;by_cases h6:e.op=6
 ·rw[un h6] at h0 ⊢;split at h0
  ·cases h0
  rename_i k1;rw[ut k1];exact⟨_,rfl,hV.same (x:=nV p e) hF (JJ hp.r he h6 k1) rfl rfl rfl rfl rfl⟩
 rw[ut h6] at h0 ⊢;by_cases h7:e.op=7
 ·rw[un h7] at h0 ⊢;split at h0
  ·cases h0
  rename_i k1;rw[ut k1];split at h0
  ·cases h0
  rename_i k2;rw[ut k2];have k1:p.aJ=[]:=Decidable.not_not.1 k1;refine⟨_,rfl,hV.put (x:=oT p) hp.r hp.s (λk=>ul k1 k) (λk=>ul k1 k) λn q _ hq hi k=>?_⟩;exact ul (any_eq_true.2 ⟨q,(jH hq).1,wl k⟩) k2
 rw[ut h7] at h0 ⊢;exact⟨_,rfl,hV.same hF hp.r rfl rfl rfl rfl rfl⟩
def qT{c:List aK}{ps:List ai}{e:aV}(hlen:ps.length<20000)(h0:(aI c ps e).2=0):(cS c (aI c ps e).1=true/\(aI c ps e).1.length<=ps.length+1)/\cQ e=true:=by
 unfold aI at h0 ⊢;split at h0;rotate_left
 ·cases h0
 rename_i hv;rw[un hv];split at h0;rotate_left
 ·cases h0
 rename_i he;rw[un he];refine⟨?_,he⟩;obtain⟨hc,ho,_⟩:=oq hv;have hV:=(vz hc ho ii).1 hv
 have fin:∀x,VF c (λn=>if n=x.name then some x else bu ps n)->cS c (bJ ps x)=true/\(bJ ps x).length<=ps.length+1:=λx hx=>by
  have hl:=Lk x ps;rw[<-gj] at hl;refine⟨(vz hc (by rw[gj];exact(Ll ho).1) ii).2 ?_,hl⟩;rw[show bu (bJ ps x)=λn=>if n=x.name then some x else bu ps n from funext λn=>O6 ps];exact hx
 by_cases h1:e.op=1
 ·rw[un h1] at h0 ⊢;rw[en] at h0 ⊢;unfold uy at h0 ⊢;split at h0
  ·cases h0
  rename_i k1;rw[ut k1];split at h0
  ·cases h0
  rename_i k2;rw[ut k2];split at h0
  ·cases h0
  rename_i k3;rw[ut k3];refine fin _ (hV.put (Nk he k2) ⟨λ_=>rfl,λ_=>rfl⟩ (λk=>ul rfl k) (λk=>ul rfl k) λn q _ hq hi k=>?_);obtain⟨g,g1,_⟩:=(hV.p hq).h hi;rw[k] at g1;have g1:bu ps e.part=some g:=g1;rw[g1] at k1;exact ul rfl k1
 ·rw[ut h1] at h0 ⊢;rw[en,en] at h0 ⊢
  cases hp:bu ps e.part with
  | none=>rw[hp] at h0;cases h0
  | some p=>
   rw[hp] at h0;have hpn:=(jH hp).2
   cases hh:(if e.op=2 then bu ps e.aJ else some p) with
   | none=>rw[hh] at h0;cases h0
   | some h=>
    rw[hh] at h0;simp only at h0 ⊢;split at h0
    ·cases h0
    rename_i k;rw[ut k];simp only[f5,not_or,fy] at k;obtain⟨x,x1,x2⟩:=SE hV he (by rw[hpn];exact hp) (λh2=>by rw[un h2] at hh;exact⟨hh,hpn⟩) k.1 k.2 h0;rw[x1];exact fin x x2
def Lv(a b:Int):cC a b<=a/\cC a b<=b:=by unfold cC;split<;>omega
def yv(a b:Int):a<=bT a b/\b<=bT a b:=by unfold bT;split<;>omega
def yA{l a b:Int}(h1:l<=a)(h2:l<=b):l<=cC a b:=by unfold cC;split<;>assumption
def yz{l a b:Int}(h1:a<=l)(h2:b<=l):bT a b<=l:=by unfold bT;split<;>assumption
def Q8{a b:Int}(h1:0<=a)(h2:a<=1000000000000)(h3:0<=b)(h4:b<=1000000000000):vI a b=a+b:=by
 unfold vI dE
 rw[show(tF (Pq .i64) (a+b)&&tF (a+b) (Pe .i64))=true by
  simp only[ac,gR,wp,Pq,Pe]
  omega]
 rfl
def uJ{a b:Int}(h1:0<=a)(h2:a<=1000000000000)(h3:0<=b)(h4:b<=1000000000000):0<=fV a b/\fV a b<=1000000000000:=by
 unfold fV nw;rw[Q8 h1 h2 h3 h4];exact⟨gv (yA ii ii) (yv _ _).2,yz ii (Lv _ _).2⟩
def yR{a b c d:Int}(h:sm a b=true)(hc:0<=c)(hd:0<=d):sm (dC fV a b c d).1 (dC fV a b c d).2=true:=by
 unfold sm at h;simp only[ac,wp] at h;unfold dC;split
 ·rename_i k;unfold lI at k;simp only[ac,wp] at k;have p1:=uJ h.1 ii hc ii;have p2:=uJ h.1 ii hd ii;have p3:=uJ (a:=b) ii h.2.2 hc ii;have p4:=uJ (a:=b) ii h.2.2 hd ii;unfold sm;simp only[ac,wp];exact⟨yA (yA (yA p1.1 p2.1) p3.1) p4.1,gv (Lv _ _).2 (yv _ _).2,yz (yz (yz p1.2 p2.2) p3.2) p4.2⟩
 ·rfl
def Mz(f:bo)(u:gm):0<=(gP f u).1/\0<=(gP f u).2:=by
 unfold gP;split
 ·exact⟨(yv _ _).1,(yv _ _).1⟩
 ·exact⟨ey _,ey _⟩
def Uy{e:aV}(he:cQ e=true)(h4:e.op=4):(0<=e.u1/\0<=e.u2)/\(0<=e.u3/\0<=e.u4)/\0<=e.u5/\0<=e.u6:=by
 obtain⟨_,_,_,hm,_⟩:=oP he;unfold aV.j9 at hm;rw[h4] at hm;simp only[show ¬(4:Int)=1 by decide,show ¬(4:Int)=2 by decide,show ¬(4:Int)=6 by decide,if_false,if_true,aV.use,fb,ac,ap,wn] at hm;omega
structure NZ (f:ai->ai):Prop where
 n:∀p,(f p).name=p.name
 k:∀p,(f p).kind=p.kind
 i:∀p,(f p).aJ=p.aJ
 s:∀p,(f p).slot=p.slot
 x:∀p,(f p).aY=p.aY
def ng{f:ai->ai}(hf:∀p,(f p).name=p.name)(n:List Nat):∀ps:List ai,bu (ps.map f) n=(bu ps n).map f
 | []=>rfl
 | p::ps=>by
  have ih:=ng hf n ps;unfold bu at ih ⊢;rw[bv,b9,b9,hf,ih];split<;>rfl
def rZ{f:ai->ai}(hf:∀p,(f p).name=p.name)(ps:List ai):(ps.map f).map ai.name=ps.map ai.name:=by
 rw[map_map];exact e5 λp _=>hf p
def Dg{c:List aK}{ps:List ai}{f:ai->ai}(hf:NZ f)(hr:∀p,di c p=true->di c (f p)=true)(h:cS c ps=true):cS c (ps.map f)=true:=by
 obtain⟨hc,ho,hl⟩:=oq h;have hV:=(vz hc ho hl).1 h;refine(vz hc (by rw[rZ hf.n];exact ho) (by rw[af];exact hl)).2 ?_
 have inv:∀{n p},bu (ps.map f) n=some p->∃q,bu ps n=some q/\f q=p:=λ{n p} k=>by
  rw[ng hf.n] at k
  cases hq:bu ps n with
  | none=>rw[hq] at k;cases k
  | some q=>rw[hq] at k;cases k;exact⟨q,rfl,rfl⟩
 refine⟨λk=>?_,λk=>?_,λk1 k2 hne=>?_⟩
 ·obtain⟨q,h1,rfl⟩:=inv k;rw[hf.n];exact hV.n h1
 ·obtain⟨q,h1,rfl⟩:=inv k;have hp:=hV.p h1;refine⟨hr q hp.r,by rw[hf.i,hf.s];exact hp.s,λk=>?_⟩;rw[hf.i] at k ⊢;obtain⟨g,g1,g2,g3,g4⟩:=hp.h k;exact⟨f g,by rw[ng hf.n,g1];rfl,by rw[hf.x];exact g2,by rw[hf.x];exact g3,by rw[hf.k,hf.k,hf.s];exact g4⟩
 ·obtain⟨q,h1,rfl⟩:=inv k1;obtain⟨r,h2,rfl⟩:=inv k2;unfold FF;rw[hf.i,hf.i,hf.s,hf.s];exact hV.u h1 h2 hne
def JI{c:List aK}{p:ai}(u:gm)(d:Int×Int)(h:di c p=true)(h1:0<=u.u1/\0<=u.u2)(h2:0<=u.u3/\0<=u.u4)(h3:0<=d.1/\0<=d.2):di c (tJ u d p)=true:=by
 unfold di at h ⊢;simp only[ac] at h ⊢;obtain⟨a1,a2,a3,a4,a5,a6,a7,a8,b1,b2,b3⟩:=h;exact⟨a1,a2,a3,a4,a5,a6,a7,a8,yR b1 h1.1 h1.2,yR b2 h2.1 h2.2,yR b3 h3.1 h3.2⟩
def KE(dmg:bo)(ins:List (List Nat))(e:aV):NZ (rE dmg ins e):=by
 constructor<;>intro p<;>unfold rE<;>split<;>rfl
def NM{c:List aK}{dmg:bo}{ps:List ai}{e:aV}(he:cQ e=true)(h4:e.op=4)(h:cS c ps=true):cS c (qz dmg ps e)=true:=by
 obtain⟨h1,h2,_⟩:=Uy he h4;refine Dg (KE _ _ _) (λp hp=>?_) h;unfold rE;split
 ·exact JI _ _ hp h1 h2 (Mz _ _)
 ·exact hp
def bare(p:ai):ai:={ p with l1:=0,l2:=0,l3:=0,l4:=0,l5:=0,l6:=0 }
def fk:NZ bare:=⟨λ_=>rfl,λ_=>rfl,λ_=>rfl,λ_=>rfl,λ_=>rfl⟩
def IN{c:List aK}{p:ai}(h:di c p=true):di c (bare p)=true:=by
 unfold di at h ⊢;simp only[ac] at h ⊢;obtain⟨a1,a2,a3,a4,a5,a6,a7,a8,_⟩:=h;exact⟨a1,a2,a3,a4,a5,a6,a7,a8,rfl,rfl,rfl⟩
def LH{f:ai->ai}(hf:∀p,(f p).name=p.name)(x:ai)(l:List ai):bJ (l.map f) (f x)=(bJ l x).map f:=by
 rw[gj,gj]
 induction l with
 | nil=>rfl
 | cons y l ih=>
  rw[bv,qe,qe,hf,hf,ih];split
  ·rfl
  ·split<;>rfl
def Nr{c:List aK}{ps:List ai}{e:aV}{p h:ai}:eV c (ps.map bare) e (bare p) (bare h)=((eV c ps e p h).1.map bare,(eV c ps e p h).2):=by
 have ha:∀g:ai->Bool,(∀q,g (bare q)=g q)->(ps.map bare).any g=ps.any g:=λg hg=>by
  rw[List.any_map];exact rc (ps.any ·) (funext hg)
 have put:=λx=>LH fk.n x ps;have a1:=ha (λq=>decide (q.aJ=e.aJ)&&decide (q.slot=e.slot)) λ_=>rfl;have a2:=ha (λq=>decide (q.aJ=p.name)) λ_=>rfl;unfold eV;simp only;rw[a1,show(bare p).name=p.name from rfl,a2]
 repeat' split
 all_goals first
  | rfl
  | contradiction
  | exact ext (put (uj p e)) rfl
  | exact ext (put (wz p)) rfl
  | exact ext (put (gL p e)) rfl
  | exact ext (put (nV p e)) rfl
  | exact ext (put (oT p)) rfl
  | exact ext (put p) rfl
def Jb{c:List aK}{ps:List ai}{e:aV}(hv:cS c ps=true):aI c (ps.map bare) e=((aI c ps e).1.map bare,(aI c ps e).2):=by
 have hv2:cS c (ps.map bare)=true:=Dg fk (λp=>IN) hv;unfold aI;rw[un hv,un hv2];split;rotate_left
 ·rfl
 split
 ·rw[en,en,ng fk.n,Option.isSome_map];unfold uy;rw[af]
  repeat' split
  all_goals first
   | rfl
   | exact ext (LH fk.n (mB e) ps) rfl
 ·rw[en,en,en,en,ng fk.n,ng fk.n];rw[show(if e.op=2 then Option.map bare (bu ps e.aJ) else Option.map bare (bu ps e.part))=Option.map bare (if e.op=2 then bu ps e.aJ else bu ps e.part) by split<;>rfl]
  cases bu ps e.part with
  | none=>rfl
  | some p=>
   cases (if e.op=2 then bu ps e.aJ else some p) with
   | none=>rfl
   | some h=>
    simp only[m6];rw[show(bare p).aY=p.aY from rfl,show(bare h).aY=h.aY from rfl];split
    ·rfl
    ·exact Nr
def QT(dmg:bo)(ps:List ai)(e:aV):(qz dmg ps e).map bare=ps.map bare:=by
 unfold qz;rw[map_map];refine e5 λp _=>?_;show bare (rE _ _ _ p)=bare p;unfold rE;split<;>rfl
def su(u:Bool)(c:List aK)(dmg:bo):List aV->List ai->List ai×Int
 | [],s=>(s,0)
 | e::r,s=>if (aI c s e).2=0 then su u c dmg r (if u=true/\e.op=4 then qz dmg (aI c s e).1 e else (aI c s e).1) else ([],(aI c s e).2)
def EB{c:List aK}{dmg:bo}:∀(l:List aV) (i:Nat) (s:List ai),(lN c dmg i l s).1=(su true c dmg l s).1
 | [],_,_=>rfl
 | e::r,i,s=>by
  rw[lN,su];split
  ·split
   ·rename_i h;rw[un ⟨rfl,h⟩];exact EB r _ _
   ·rename_i h;rw[ut λk=>h k.2];exact EB r _ _
  ·rfl
def yD{u:Bool}{c:List aK}{dmg:bo}{s:List ai}{e:aV}(hl:s.length<20000)(h0:(aI c s e).2=0):cS c (if u=true/\e.op=4 then qz dmg (aI c s e).1 e else (aI c s e).1)=true/\(if u=true/\e.op=4 then qz dmg (aI c s e).1 e else (aI c s e).1).length<=s.length+1:=by
 obtain⟨⟨h1,h2⟩,he⟩:=qT hl h0;split
 ·rename_i k;exact⟨NM he k.2 h1,by unfold qz;rw[af];exact h2⟩
 ·exact⟨h1,h2⟩
def Lb{c:List aK}{dmg:bo}:∀(l:List aV) (s:List ai),cS c s=true->s.length+l.length<=20000->(su false c dmg l (s.map bare)).2=(su true c dmg l s).2
 | [],_,_,_=>rfl
 | e::r,s,hv,hl=>by
  rw[i7] at hl;rw[su,su,Jb hv];by_cases h0:(aI c s e).2=0
  ·obtain⟨n1,n2⟩:=yD (u:=true) (dmg:=dmg) ii h0;rw[un h0,un h0,ut λk:false=true/\_=>bk k.1,<-Lb r _ n1 ii];split
   ·rw[QT]
   ·rfl
  ·rw[ut h0,ut h0]
def CB(ps:List ai)(part:List Nat):jD:=(ps.filter λp=>!(decide (p.aJ=[]))&&!(decide (p.name=part))).map λp=>(p.name,p.aJ)
def Vt:Nat->List ai->List (List Nat×Int)
 | _,[]=>[]
 | i,p::ps=>(p.name,(i:Int))::Vt (i+1) ps
def KN:∀{ps:List ai} {i:Nat} {m:List (List Nat×Int)},dX (ps.map ai.name)=true->(∀p∈ps,dx p.name m=false)->mV i m ps=m++Vt i ps
 | [],_,m,_,_=>(b0 m).symm
 | p::ps,i,m,ho,hm=>by
  have hp:=hm p al;have hlt:=nX (a:=p.name) (l:=ps.map ai.name) ho;rw[mV,hp,ut bk,pn hp,KN (iW ho) λq hq=>?_,cl]
  ·rfl
  ·have h1:=hm q (aj _ hq);have h2:=hlt _ (am hq);unfold dx at h1 ⊢;rw[List.any_append,h1,List.any_cons,List.any_nil,Bool.or_false,Bool.false_or,wn];intro e;rw[e,dq] at h2;cases h2
def CW{full:List ai}:∀{ps:List ai} {i:Nat},full.drop i=ps->jJ full (Vt i ps)=(ps.filter λp=>!(decide (p.aJ=[]))).map λp=>(p.name,p.aJ)
 | [],_,_=>rfl
 | p::ps,i,h=>by
  have hp:full[i]?=some p:=by
   have:=rc (λl=>l[0]?) h;simpa using this
  have h2:full.drop (i+1)=ps:=by
   have:=rc (List.drop 1) h;simpa using this
  have ih:=CW h2
  have hi:wa full (i:Int)=p.aJ:=by unfold wa;rw[fm,hp]
  unfold jJ at ih ⊢;rw[Vt,List.filterMap_cons,d7,ih,hi];by_cases e:p.aJ=[]
  ·rw[un e,wl e];rfl
  ·rw[ut e,wd e];rfl
def K2{part:List Nat}:∀{ps:List ai},dX (ps.map ai.name)=true->jS part ((ps.filter λp=>!(decide (p.aJ=[]))).map λp=>(p.name,p.aJ))=CB ps part
 | [],_=>rfl
 | p::ps,ho=>by
  have ih:=K2 (part:=part) (iW ho);have hlt:=nX (a:=p.name) (l:=ps.map ai.name) ho;unfold CB at ih ⊢;rw[d7,d7];by_cases e:p.aJ=[]
  ·rw[wl e];exact ih
  ·rw[wd e];by_cases h:part=p.name
   ·rw[wl h.symm];show jS part ((p.name,p.aJ)::_)=_;rw[jS,un h];refine rc (List.map _) (List.filter_congr λq hq=>?_);have h2:=hlt _ (am hq);rw[wd (p:=q.name=part) λk=>by rw[k,h,dq] at h2;cases h2];simp
   ·rw[wd λk=>h k.symm];show jS part ((p.name,p.aJ)::_)=(p.name,p.aJ)::_;rw[jS,ut h,ih]
def CX{ps:List ai}(ho:dX (ps.map ai.name)=true)(part:List Nat):Hp ps part=CB ps part:=by
 unfold Hp;rw[KN ho λ_ _=>rfl,nil_append,CW (drop_zero (l:=ps)),K2 ho]
structure jE where
 name:List Nat
 kind:List Nat
 cond:aT
def cF(r:jE):List SV:=ah r.name::ah r.kind::aX r.cond
structure vG where
 kind:List Nat
 slot:List Nat
 other:List Nat
 qy:List Nat
 to:Int
def eJ(s:vG):List SV:=[ah s.kind,ah s.slot,ah s.other,ah s.qy,ab s.to]
structure ea where
 name:List Nat
 kind:List Nat
 key:List Nat
 after:Int
 within:Int
def bl(d:ea):List SV:=[ah d.name,ah d.kind,ah d.key,ab d.after,ab d.within]
structure qJ where
 part:List Nat
 gb:List Nat
 to:Int
def dA(c:qJ):List SV:=[ah c.part,ah c.gb,ab c.to]
structure mT where
 id:List Nat
 vehicle:List Nat
 members:List Int
 back:List Int
def cE(h:mT):List SV:=[ah h.id,ah h.vehicle,an 1 h.members (aD ab),an 1 h.back (aD ab)]
structure eg where
 rules:List jE
 fw:List vG
 eu:List ea
 oy:List qJ
 cM:List jE
 holds:List mT
def aN(b:eg):List SV:=[an 8 b.rules cF,an 5 b.fw eJ,an 5 b.eu bl,an 3 b.oy dA,an 8 b.cM cF,an 4 b.holds cE]
structure aB where
 kind:Int
 part:List Nat
 name:List Nat
 deriving DecidableEq
def aL(f:aB):List SV:=[ab f.kind,ah f.part,ah f.name]
def tY(l:List qJ)(part gb:List Nat)(day:Int):Bool:=l.any λx=>decide (x.part=part)&&(decide (x.gb=gb)&&decide (day<=x.to))
def r8(c:List aK)(kind name other:List Nat):Bool:=match (dH c kind).bind λk=>pW k.bH name with
 | some s=>decide (0<=gu (λx=>decide (other=x)) s.kinds)&&decide (gu (λx=>decide (other=x)) s.kinds<s.normal)
 | none=>false
def pN(ps:List ai)(p:ai)(slot:List Nat):Bool:=ps.any λx=>decide (x.aJ=p.aJ)&&(decide (x.slot=slot)&&decide (x.kind=p.kind))
def gA(c:List aK)(fw:List vG)(ps:List ai)(part:List Nat)(day:Int):Bool:=match bu ps part with
 | none=>false
 | some p=>if p.aJ=[] then true else match bu ps p.aJ with
  | none=>false
  | some h=>r8 c h.kind p.slot p.kind||fw.any λs=>(decide (s.kind=h.kind)&&(decide (s.slot=p.slot)&&decide (s.other=p.kind)))&&(decide (day<=s.to)&&(decide (s.qy=[])||pN ps p s.qy))
def sA(d:ea):Bool:=cJ d.name&&(cJ d.kind&&(cJ d.key&&(decide (1<=d.after)&&(decide (d.after<=7)&&(decide (0<=d.within)&&decide (d.within<=40000))))))
def Es(part:List Nat)(day:Int)(e:aV):Bool:=decide (e.part=part)&&decide (e.day<=day)
def wx(d:ea)(l:List aV)(part:List Nat)(day:Int):List Int:=(l.filter λe=>Es part day e&&(decide (e.op=6)&&decide (e.key=d.key))).map aV.day
def nN(d:ea)(l:List aV)(part:List Nat)(day:Int):List Int:=(l.filter λe=>Es part day e&&decide (e.op=d.after)).map aV.day
def q9(d:ea)(notes:List Int)(a:Int×Bool)(n:Int):Int×Bool:=
 if (!(notes.any λm=>decide (n<=m)&&decide (m<=n+d.within))&&(!a.2||decide (n+d.within<a.1)))=true then (n+d.within,true) else a
def j7(d:ea)(l:List aV)(part:List Nat)(day:Int):Int×Bool:=(nN d l part day).foldl (q9 d (wx d l part day)) (0,false)
def FT(c:List aK)(l:List aV)(day:Int):List ai×Int:=if ox c=true then su false c (.mk 0 0 []) (dY (db (dK day) l)) [] else ([],1)
def rh(ds:List ea)(c:List aK)(l:List aV)(part:List Nat)(day:Int):List (List Nat×Int):=
 match bu (FT c l day).1 part with
 | none=>[]
 | some p=>if (FT c l day).2≠0\/p.aY=true then [] else ds.filterMap λd=>if sA d=true/\d.kind=p.kind/\(j7 d l part day).2=true then some (d.name,(j7 d l part day).1) else none
def iE(ds:List ea)(c:List aK)(l:List aV)(part:List Nat)(day:Int):List (List Nat):=No (((rh ds c l part day).filter λx=>decide (x.2<day)).map (·.1))
def BL(h:mT):Bool:=h.members.any λm=>!h.back.contains m
def ou(c:List aK)(b:eg)(l:List aV)(ps:List ai)(day:Int)(p:ai):List aB:=
 ((b.rules.filter λr=>decide (r.kind=p.kind)&&(!tY b.oy p.name r.name day&&!(decide (kO ps r.cond p.name day=2)))).map λr=>⟨1,p.name,r.name⟩)++
 (((b.cM.filter λr=>decide (r.kind=p.kind)&&!(decide (kO ps r.cond p.name day=0))).map λr=>⟨5,p.name,r.name⟩)++
 ((iE b.eu c l p.name day).map (λn=>⟨3,p.name,n⟩)++
 (if gA c b.fw ps p.name day=true then [] else [⟨2,p.name,p.slot⟩])))
def z6(c:List aK)(b:eg)(l:List aV)(ps:List ai)(vehicle:List Nat)(day:Int)(v:ai):List aB:=
 ou c b l ps day v++(((ec ps vehicle).flatMap λn=>ou c b l ps day (cP ps n))++((b.holds.filter λh=>decide (h.vehicle=vehicle)&&BL h).map λh=>⟨6,vehicle,h.id⟩))
def xv(ps:List ai)(e:aT)(part:List Nat)(day:Int)(hlen:ps.length<=100000)(hps:∀p∈ps,p.props.length<=1000000)(he:gK e):PC aa 19 [.ag [an 14 ps ae],.ag (aX e),ah part,ab day] (·=ab (kO ps e part day)):=by
 have hvr:=yh [114] [107] e ⟨by decide,by decide⟩ ⟨by decide,by decide⟩ he;rw[show(cJ [114]&&(cJ [107]&&om e))=om e from by rw[show cJ [114]=true from rfl,show cJ [107]=true from rfl];rfl] at hvr;have hro:=Fo ps part ii
 have hak:om e=true->FD ps day e part (gW ps day e part):=λh=>by
  unfold om at h;rw[ac] at h;exact C8 ps day hlen hps _ e part (bQ _) he h.2
 unfold FD at hak;unfold kO;refine pB 25 Tryz.func19 ?_;rw[cw e] at hvr hak ⊢
 refine(zV) ?_;refine zZ [(2,ah part),(3,ab day),(4,.ip [an 14 ps ae]),(5,.ptr 1 0)] 0 rfl (gV @an.eq_1)<|zZ [(2,ah part),(3,ab day),(4,.ip [an 14 ps ae]),(5,BD e)] 1 rfl (gV @an.eq_1)<|zA [(2,ah part),(3,ab day),(4,.ip [an 14 ps ae]),(5,BD e)] [] zH<|(zC)<|(zK hvr) ?_
 cases g:om e
 ·exact(zR)<|(cB)<|zo [.tmp 8] (hq:=by rw[ut (λh=>bk h.1)])
 refine(zQ)<|(zK hro) ?_
 cases g2:decide (AP ps part=[]);rotate_left
 ·exact(cH g2)<|(cB)<|zo [.tmp 8] (hq:=by rw[ut (λh=>h.2 (ww g2))])
 exact(cH g2)<|(NU)<|(zK (hak g))<|(zR)<|zo [.tmp 8] (hq:=by rw[un ⟨by trivial,wt g2⟩])
def Dv{α:Type}{p:α->Bool}{l:List α}(h:∀(i:Nat) y,i<l.length->l[i]?=some y->p y=false):l.any p=false:=by
 rw[List.any_eq_false];intro x hx;obtain⟨i,hi⟩:=mem_iff_getElem?.1 hx;rw[h i x (bx hi) hi];decide
def Du{α:Type}{p:α->Bool}{l:List α}{k:Nat}{x:α}(hx:l[k]?=some x)(hp:p x=true):l.any p=true:=any_eq_true.2 ⟨x,ad hx,hp⟩
def B3{l:List (qJ)}(p:qJ->Bool){fid:FuncId}{first cap:List SV}(hlen:l.length<=1000000)(hp:∀x∈l,PC aa fid ((first++[.ag (dA x)])++cap) (·=ak (p x)))(hg:bZ first=true/\bZ cap=true):PC aa 60 [an 3 l dA,.fn fid first cap] (·=ak (l.any p)):=by
 refine pB 17 Tryz.func60 ?_;have hn1:=λo:Nat=>bX (o:=o) hg.1;have hn2:=λo:Nat=>bX (o:=o) hg.2
 refine(az @an.eq_1)<|(zV)<|(zs) ?_;refine zL l (λk=>∀(i:Nat) y,i<k->l[i]?=some y->p y=false) (λk=>[(0,.sl l.length 3 (l.flatMap dA)),(1,.fn fid first cap),(7,.sl l.length 3 (l.flatMap dA)),(8,ab l.length),(9,ab k)]) (λk=>[]) zH zp ?_;intro k hk hall;refine zT l k ?_ ?_;rintro rfl;rotate_left;intro x hx hlt;rotate_left
 ·exact(gE)<|(zV)<|zo [.tmp 4] (hq:=by rw[Dv hall])
 ·refine(gO)<|(az (cL hlt (aQ (e:=3) (enc:=dA) (λ_=>rfl) hx) @dA.eq_1))<|zA [(0,.sl l.length 3 (l.flatMap dA)),(1,.fn fid first cap),(6,.ptr 0 0),(7,.sl l.length 3 (l.flatMap dA)),(8,ab l.length),(9,ab k)] [.cells (dA x)] (bN (gh hn1 hn2 @f4 @aw.{1}))<|(fC @dA.eq_1)<|(zK (hp x (mem_iff_getElem?.2 ⟨k,hx⟩)) (hwk:=((bm.refl hg.1).app (bm.refl rfl)).app (bm.refl hg.2))) ?_;refine aR.nil ?_
  change aE _ _ _ _ _;cases hpx:p x
  ·refine(zN)<|(az (zi hlt hlen)) ?_;refine zX hlt zH ?_
   intro i y hi hy;by_cases hik:i=k
   ·subst hik;rw[hx] at hy;cases hy;exact hpx
   ·exact hall i y ii hy
  ·exact(cB)<|zo [.tmp 4] (hq:=by rw[Du hx hpx])
def Fq{l:List (vG)}(p:vG->Bool){fid:FuncId}{first cap:List SV}(hlen:l.length<=1000000)(hp:∀x∈l,PC aa fid ((first++[.ag (eJ x)])++cap) (·=ak (p x)))(hg:bZ first=true/\bZ cap=true):PC aa 67 [an 5 l eJ,.fn fid first cap] (·=ak (l.any p)):=by
 refine pB 17 Tryz.func67 ?_;have hn1:=λo:Nat=>bX (o:=o) hg.1;have hn2:=λo:Nat=>bX (o:=o) hg.2
 refine(az @an.eq_1)<|(zV)<|(zs) ?_;refine zL l (λk=>∀(i:Nat) y,i<k->l[i]?=some y->p y=false) (λk=>[(0,.sl l.length 5 (l.flatMap eJ)),(1,.fn fid first cap),(7,.sl l.length 5 (l.flatMap eJ)),(8,ab l.length),(9,ab k)]) (λk=>[]) zH zp ?_;intro k hk hall;refine zT l k ?_ ?_;rintro rfl;rotate_left;intro x hx hlt;rotate_left
 ·exact(gE)<|(zV)<|zo [.tmp 4] (hq:=by rw[Dv hall])
 ·refine(gO)<|(az (cL hlt (aQ (e:=5) (enc:=eJ) (λ_=>rfl) hx) @eJ.eq_1))<|zA [(0,.sl l.length 5 (l.flatMap eJ)),(1,.fn fid first cap),(6,.ptr 0 0),(7,.sl l.length 5 (l.flatMap eJ)),(8,ab l.length),(9,ab k)] [.cells (eJ x)] (bN (gh hn1 hn2 @f4 @aw.{1}))<|(fC @eJ.eq_1)<|(zK (hp x (mem_iff_getElem?.2 ⟨k,hx⟩)) (hwk:=((bm.refl hg.1).app (bm.refl rfl)).app (bm.refl hg.2))) ?_;refine aR.nil ?_
  change aE _ _ _ _ _;cases hpx:p x
  ·refine(zN)<|(az (zi hlt hlen)) ?_;refine zX hlt zH ?_
   intro i y hi hy;by_cases hik:i=k
   ·subst hik;rw[hx] at hy;cases hy;exact hpx
   ·exact hall i y ii hy
  ·exact(cB)<|zo [.tmp 4] (hq:=by rw[Du hx hpx])
def Ic{l:List (ai)}(p:ai->Bool){fid:FuncId}{first cap:List SV}(hlen:l.length<=1000000)(hp:∀x∈l,PC aa fid ((first++[.ag (ae x)])++cap) (·=ak (p x)))(hg:bZ first=true/\bZ cap=true):PC aa 151 [an 14 l ae,.fn fid first cap] (·=ak (l.any p)):=by
 refine pB 17 Tryz.func151 ?_;have hn1:=λo:Nat=>bX (o:=o) hg.1;have hn2:=λo:Nat=>bX (o:=o) hg.2
 refine(az @an.eq_1)<|(zV)<|(zs) ?_;refine zL l (λk=>∀(i:Nat) y,i<k->l[i]?=some y->p y=false) (λk=>[(0,.sl l.length 14 (l.flatMap ae)),(1,.fn fid first cap),(7,.sl l.length 14 (l.flatMap ae)),(8,ab l.length),(9,ab k)]) (λk=>[]) zH zp ?_;intro k hk hall;refine zT l k ?_ ?_;rintro rfl;rotate_left;intro x hx hlt;rotate_left
 ·exact(gE)<|(zV)<|zo [.tmp 4] (hq:=by rw[Dv hall])
 ·refine(gO)<|(az (cL hlt (aQ (e:=14) (enc:=ae) (λ_=>rfl) hx) @ae.eq_1))<|zA [(0,.sl l.length 14 (l.flatMap ae)),(1,.fn fid first cap),(6,.ptr 0 0),(7,.sl l.length 14 (l.flatMap ae)),(8,ab l.length),(9,ab k)] [.cells (ae x)] (bN (gh hn1 hn2 @f4 @aw.{1}))<|(fC @ae.eq_1)<|(zK (hp x (mem_iff_getElem?.2 ⟨k,hx⟩)) (hwk:=((bm.refl hg.1).app (bm.refl rfl)).app (bm.refl hg.2))) ?_;refine aR.nil ?_
  change aE _ _ _ _ _;cases hpx:p x
  ·refine(zN)<|(az (zi hlt hlen)) ?_;refine zX hlt zH ?_
   intro i y hi hy;by_cases hik:i=k
   ·subst hik;rw[hx] at hy;cases hy;exact hpx
   ·exact hall i y ii hy
  ·exact(cB)<|zo [.tmp 4] (hq:=by rw[Du hx hpx])
def EU(x:qJ)(part gb:List Nat)(day:Int):PC aa 61 ([.ag (dA x)]++[.ip [ah part],.ip [ah gb],.ip [ab day]]) (·=ak (decide (x.part=part)&&(decide (x.gb=gb)&&decide (day<=x.to)))):=by
 refine pB 22 Tryz.func61 ?_;refine(az @dA.eq_1) ?_;cases g1:decide (x.part=part)
 ·exact(az g1)<|zo [.tmp 5]
 cases g2:decide (x.gb=gb)
 ·exact(az (bz g1 g2))<|zo [.tmp 5]
 ·exact(az (bz g1 g2))<|zo [.tmp 5]
def EV(l:List qJ)(part gb:List Nat)(day:Int)(hlen:l.length<=1000000):PC aa 20 [an 3 l dA,ah part,ah gb,ab day] (·=ak (tY l part gb day)):=by
 have hs:=B3 (l:=l) (λx=>decide (x.part=part)&&(decide (x.gb=gb)&&decide (day<=x.to))) (fid:=61) (first:=[]) (cap:=[.ip [ah part],.ip [ah gb],.ip [ab day]]) hlen (λx _=>EU x part gb day) ⟨rfl,rfl⟩
 refine pB 12 Tryz.func20 ?_;refine(zV) ?_;exact zZ [(0,an 3 l dA),(5,.ip [ah part]),(6,.ptr 1 0),(7,.ptr 2 0)] 0 rfl (gV @an.eq_1)<|zZ [(0,an 3 l dA),(5,.ip [ah part]),(6,.ip [ah gb]),(7,.ptr 2 0)] 1 rfl (gV @an.eq_1)<|zZ [(0,an 3 l dA),(5,.ip [ah part]),(6,.ip [ah gb]),(7,.ip [ab day])] 2 rfl (gV @an.eq_1)<|zA [(0,an 3 l dA),(5,.ip [ah part]),(6,.ip [ah gb]),(7,.ip [ab day])] [] zH<|(zC)<|(zK hs)<|(zR)<|zo [.tmp 8]
def HW{l:List (Int)}(p:Int->Bool){fid:FuncId}{first cap:List SV}(hlen:l.length<=1000000)(hp:∀x∈l,PC aa fid ((first++[ab x])++cap) (·=ak (p x)))(hg:bZ first=true/\bZ cap=true):PC aa 160 [an 1 l (aD ab),.fn fid first cap] (·=ab (gu p l)):=by
 refine pB 19 Tryz.func160 ?_;refine(az @an.eq_1)<|(zV)<|(zs) ?_;refine zL l (λk=>∀(i:Nat) y,i<k->l[i]?=some y->p y=false) (λk=>[(0,.sl l.length 1 (l.flatMap (aD ab))),(1,.fn fid first cap),(7,ab l.length),(8,ab k)]) (λk=>[]) zH zp ?_;intro k hk hall;refine zT l k ?_ ?_;rintro rfl;rotate_left;intro x hx hlt;rotate_left
 ·exact(gE)<|(zV)<|zo [.tmp 4] (hq:=by rw[iP hall])
 ·refine(gO)<|(zV)<|(fC (cL hlt (aQ (e:=1) (enc:=(aD ab)) (λ_=>rfl) hx) @aD.eq_1))<|(zK (hp x (mem_iff_getElem?.2 ⟨k,hx⟩)) (hwk:=((bm.refl hg.1).app (bm.refl rfl)).app (bm.refl hg.2))) ?_;refine aR.nil ?_
  change aE _ _ _ _ _;cases hpx:p x
  ·refine(zN)<|(az (zi hlt hlen)) ?_;refine zX hlt zH ?_
   intro i y hi hy;by_cases hik:i=k
   ·subst hik;rw[hx] at hy;cases hy;exact hpx
   ·exact hall i y ii hy
  ·exact(cB)<|zo [.tmp 4] (hq:=by rw[mu hx hpx hall])
def xp{l:List (Int)}(p:Int->Bool){fid:FuncId}{first cap:List SV}(hlen:l.length<=1000000)(hp:∀x∈l,PC aa fid ((first++[ab x])++cap) (·=ak (p x)))(hg:bZ first=true/\bZ cap=true):PC aa 80 [an 1 l (aD ab),.fn fid first cap] (·=ak (l.any p)):=by
 refine pB 9 Tryz.func80 ?_;exact(jM)<|(zK (HW p hlen hp hg) (hwk:=.cons (Wk.sl _ _ _) (.cons (.fn (bm.refl hg.1) (bm.refl hg.2)) .nil)))<|(zR)<|zo [.tmp 4] (hq:=by rw[nT])
def BT(l:List Int)(s:Int)(hlen:l.length<=1000000):PC aa 161 [an 1 l (aD ab),ab s] (·=ab (gu (λx=>decide (s=x)) l)):=by
 refine pB 19 Tryz.func161 ?_;refine(oL)<|(zs) ?_;refine zL l (λk=>∀(i:Nat) y,i<k->l[i]?=some y->decide (s=y)=false) (λk=>[(0,.sl l.length 1 (l.flatMap (aD ab))),(1,ab s),(7,ab l.length),(8,ab k)]) (λk=>[]) zH zp ?_;intro k hk hall;refine zT l k ?_ ?_;rintro rfl;rotate_left;intro x hx hlt;rotate_left
 ·exact(gE)<|(zV)<|zo [.tmp 4] (hq:=by rw[iP hall])
 ·refine(gO)<|(zV)<|(az (cL hlt (aQ (e:=1) (enc:=aD ab) (λ_=>rfl) hx) @aD.eq_1)) ?_
  cases hpx:decide (s=x)
  ·refine(zN)<|(az (zi hlt hlen)) ?_;refine zX hlt zH ?_
   intro i y hi hy;by_cases hik:i=k
   ·subst hik;rw[hx] at hy;cases hy;exact hpx
   ·exact hall i y ii hy
  ·exact(cB)<|zo [.tmp 4] (hq:=by rw[mu hx hpx hall])
def wO(l:List Int)(s:Int)(hlen:l.length<=1000000):PC aa 82 [an 1 l (aD ab),ab s] (·=ak (l.contains s)):=by
 have hc:l.contains s=l.any λx=>decide (s=x):=by
  rw[Bool.eq_iff_iff,List.contains_iff_mem,any_eq_true];exact⟨λh=>⟨s,h,wl rfl⟩,λ⟨x,h,e⟩=>by rw[ww e];exact h⟩
 rw[hc]
 refine pB 9 Tryz.func82 ?_;exact(jM)<|(zK (BT l s hlen))<|(zR)<|zo [.tmp 4] (hq:=by rw[nT])
def NF(h:mT)(m:Int)(hlen:h.back.length<=1000000):PC aa 81 ([ab m]++[.ip (cE h)]) (·=ak (!h.back.contains m)):=by
 refine pB 9 Tryz.func81 ?_;exact(zV)<|(fC @cE.eq_1)<|(zK (wO h.back m hlen))<|(zR)<|zo [.tmp 3]
def NG(h:mT)(hm:h.members.length<=1000000)(hb:h.back.length<=1000000):PC aa 32 [.ag (cE h)] (·=ak (BL h)):=by
 refine pB 7 Tryz.func32 ?_;refine(az @cE.eq_1) ?_;exact zZ [(1,.ip (cE h))] 0 rfl (gV (bz @an.eq_1 @cE.eq_1))<|zA [(1,.ip (cE h))] [] zH<|(fC @cE.eq_1)<|(zK (xp (l:=h.members) (λm=>!h.back.contains m) (fid:=81) (first:=[]) (cap:=[.ip (cE h)]) hm (λm _=>NF h m hb) ⟨rfl,rfl⟩))<|(zR)<|zo [.tmp 2]
def E9(l:List aK)(kind name other:List Nat)(hlen:l.length<=1000000)(hs:∀k∈l,k.bH.length<=1000000/\∀s∈k.bH,s.kinds.length<=1000000):PC aa 66 [.ag [an 3 l aq],ah kind,ah name,ah other] (·=ak (r8 l kind name other)):=by
 refine pB 34 Tryz.func66 ?_;have hF:=Bk l kind name hlen λk hk=>(hs k hk).1;refine(jM) ?_;unfold r8
 cases hf:(dH l kind).bind λk=>pW k.bH name with
 | none=>
  rw[hf] at hF
  exact(zK hF (hfl:=.inr (bm.refl rfl)))<|(cH (cL @jn.eq_1 @bE.eq_1 @ku.zero.eq_1))<|(zC)<|(zK (oH [] other gc) (hwk:=bm.refl rfl))<|(zR)<|(zV)<|zo [.tmp 8]
 | some q=>
  have hq:q.kinds.length<=1000000:=by
   obtain⟨k,hk,h2⟩:=t8 hf;exact(hs k (ca hk)).2 q (ca h2)
  rw[hf] at hF;have hI:=oH q.kinds other hq;obtain⟨j,hj⟩:∃j,j=gu (λx=>decide (other=x)) q.kinds:=⟨_,rfl⟩;rw[<-hj] at hI
  refine(zK hF (hfl:=.inr (bm.refl rfl)))<|(cH (bz @jn.eq_1 @bE.eq_1))<|(zC)<|(zK hI)<|(zR) ?_
  cases g:decide (0<=j)
  ·exact(az g)<|zo [.tmp 8] (hq:=by show _=ak (decide (0<=gu (λx=>decide (other=x)) q.kinds)&&decide (gu (λx=>decide (other=x)) q.kinds<q.normal));rw[<-hj,g];rfl)
  ·exact(az g)<|zo [.tmp 8] (hq:=by show _=ak (decide (0<=gu (λx=>decide (other=x)) q.kinds)&&decide (gu (λx=>decide (other=x)) q.kinds<q.normal));rw[<-hj,g];rfl)
def EJ(x p h:ai)(slot:List Nat):PC aa 152 ([.ag (ae x)]++[.ip (ae p++ae h),.ip [ah slot]]) (·=ak (decide (x.aJ=p.aJ)&&(decide (x.slot=slot)&&decide (x.kind=p.kind)))):=by
 refine pB 25 Tryz.func152 ?_;refine(az @ae.eq_1) ?_;cases g1:decide (x.aJ=p.aJ)
 ·exact(az (gh g1 @ae.eq_1 @cons_append.{0} @nil_append.{0}))<|zo [.tmp 4]
 cases g2:decide (x.slot=slot)
 ·exact(az (lB g1 g2 @ae.eq_1 @cons_append.{0} @nil_append.{0}))<|zo [.tmp 4]
 ·exact(az (lB g1 g2 @ae.eq_1 @cons_append.{0} @nil_append.{0}))<|zo [.tmp 4]
def EK(ps:List ai)(p h:ai)(slot:List Nat)(hlen:ps.length<=1000000):PC aa 69 [.ag (ae p++ae h),.ag [an 14 ps ae],ah slot] (·=ak (pN ps p slot)):=by
 have hs:=Ic (l:=ps) (λx=>decide (x.aJ=p.aJ)&&(decide (x.slot=slot)&&decide (x.kind=p.kind))) (fid:=152) (first:=[]) (cap:=[.ip (ae p++ae h),.ip [ah slot]]) hlen (λx _=>EJ x p h slot) ⟨rfl,rfl⟩
 refine pB 11 Tryz.func69 ?_;refine(az (cL @ae.eq_1 @cons_append.{0} @nil_append.{0})) ?_;exact zZ [(3,.ip (ae p++ae h)),(4,.ptr 1 0),(5,.ptr 2 0)] 0 rfl (gV (bz @an.eq_1 @ae.eq_1))<|zZ [(3,.ip (ae p++ae h)),(4,.ip [an 14 ps ae]),(5,.ptr 2 0)] 1 rfl (gV @an.eq_1)<|zZ [(3,.ip (ae p++ae h)),(4,.ip [an 14 ps ae]),(5,.ip [ah slot])] 2 rfl (gV @an.eq_1)<|zA [(3,.ip (ae p++ae h)),(4,.ip [an 14 ps ae]),(5,.ip [ah slot])] [] zH<|(zC)<|(zK hs)<|(zR)<|zo [.tmp 6]
end Go.Proofs
