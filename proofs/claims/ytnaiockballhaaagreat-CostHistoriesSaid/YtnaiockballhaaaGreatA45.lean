/- A part of the texts of this claim: every theorem says what it proves, with its conditions. -/
import Derived.Test.YtnaiockballhaaaGreatA44
import Derived.Test.YtnaiockballhaaaGreatA43
import Derived.Test.YtnaiockballhaaaGreatA23
import Derived.Test.YtnaiockballhaaaGreatA17
import Derived.Test.YtnaiockballhaaaGreatA10
set_option linter.unusedSimpArgs false
set_option linter.unusedVariables false
set_option linter.unusedSectionVars false
open Option (bind_some map_some)
open List (getElem?_eq_getElem getElem?_mapIdx take_zero ext_getElem? getElem?_map length_take replicate length_nil map_append map_nil sum_nil take_length)
open Nat (reduceEqDiff mul_one le_refl reduceAdd reduceLT reduceLeDiff reduceMul ble)
open Prod (fst)
namespace Go.Proofs
open Go.Ev
set_option maxRecDepth 100000
structure OB (c:List aU) (dmg:bE) (ws:List Wy) (l:List bq) (co:Co):Prop where
 form:ji dmg
 cat:∀k∈c,(∀b∈k.name,b<256)/\∀s∈k.bJ,∀b∈s.name,b<256
 wl:ws.length<=mr
 wn:∀w∈ws,w.kind.length<=mr/\w.cK.length<=mr
 wb:∀w∈ws,(∀b∈w.kind,b<256)/\∀b∈w.cK,b<256
 cn:co.part.length<=mr/\co.owner.length<=mr
 cb:(∀b∈co.part,b<256)/\∀b∈co.owner,b<256
 ll:l.length<=mr
 lo:∀r∈l,r.opts.length<=mr
 lb:∀r∈l,∀e∈r.opts,Nf e
structure O3 (c:List aU) (dmg:bE) (ws:List Wy) (l:List bq) (co:Co):Prop where
 cat:jJ c
 form:gm dmg
 wl:ws.length<=6
 wf:∀w∈ws,w.fits
 cf:co.fits
 ll:l.length<=12
 rep:∀r∈l,ea r
 op:∀r∈l,r.opts.length<=6
theorem LA{ws:List Wy}{co:Co}(h:rZ ws co=true)(hb:∀w∈ws,(∀b∈w.kind,b<256)/\∀b∈w.cK,b<256)(hc:(∀b∈co.part,b<256)/\∀b∈co.owner,b<256):ws.length<=6/\(∀w∈ws,w.fits)/\co.fits:=by
 unfold rZ at h;simp only[Bool.and_eq_true,decide_eq_true_eq,List.all_eq_true] at h;refine⟨by omega,λw hw=>?_,⟨by omega,hc.1,by omega,hc.2⟩⟩;have:=h.2.1 w hw;exact⟨by omega,(hb w hw).1,by omega,(hb w hw).2⟩
theorem NF{c:List aU}{dmg:bE}{ws:List Wy}{l:List bq}{co:Co}(h:GH c dmg ws l co=true)(ha:OB c dmg ws l co):O3 c dmg ws l co:=by
 unfold GH xf DY at h;simp only[Bool.and_eq_true] at h;obtain⟨⟨h1,h2⟩,h3,h4,_⟩:=h;obtain⟨k1,k2,k3⟩:=LA h3 ha.wb ha.cb;obtain⟨j1,j2⟩:=DX (most:=12) h4 ha.lb;exact⟨Lz h1 ha.cat,Ly h2,k1,k2,k3,j1,λr hr=>(j2 r hr).1,λr hr=>(j2 r hr).2⟩
theorem KA{c:List aU}{dmg:bE}{ws:List Wy}{l:List bq}{co:Co}(h:(lg c dmg ws l co).2.2=0):oy l co.part≠[]/\(iN c (oy l co.part) 4096).2=0/\ej ws co=true/\
 lg c dmg ws l co=(eX (gC (cJ c dmg ws (oy l co.part) co (iN c (oy l co.part) 4096).1)),iX co.am (eX (gC (cJ c dmg ws (oy l co.part) co (iN c (oy l co.part) 4096).1))),0):=by
 have hr:=(Jp c dmg ws l co).right h;unfold lg at h ⊢;split at h
 ·cases h
 rename_i h1;rw[if_neg h1];unfold Fc at h ⊢;split at h
 ·cases h
 rename_i h2;rw[if_neg h2];split at h
 ·rename_i h3;rw[if_pos h3];split at h
  ·cases h
  ·rename_i h4;rw[if_neg h4];exact⟨h2,h3,hr,rfl⟩
 ·rename_i h3;exact absurd h h3
theorem FK(n:Nat)(h:n<=1000000):eS Tryz.prog 40 (.int .i64 (n:Int)) (.int .i64 (n:Int))=some (n,1,n,rep [.int .i64 0] n):=by
 have q1:(Tryz.prog.info? 3).map (λi=>(i.size,ble i.bytes 10000))=some (1,true):=by kernel_rfl
 obtain⟨i,hi,e⟩:=Option.map_eq_some_iff.1 q1;have e1:i.size=1:=congrArg fst e;have e2:ble i.bytes 10000=true:=congrArg Prod.snd e;unfold eS;rw[show Tryz.prog.underlying 40=some (.slice 3) by kernel_rfl];simp only;rw[show c9 (.int .i64 (n:Int))=some n from rfl,bind_some,bind_some,hi,bind_some,show dm Tryz.prog 3=some (.int .i64 0) by simp only[aw],bind_some,e1,e2,ek (le_refl n),ek h];rfl
theorem EY:∀n,(rep [AV.int .i64 0] n).map SV.a=(replicate n (0:Int)).flatMap (az aa)
 | 0=>rfl
 | n+1=>by rw[rep,map_append,EY n,List.replicate_succ,List.flatMap_cons];rfl
def EM(k:Nat):SV:=if k=0 then .buf 0 1 1 (some 1) else .buf 2 (k+1) 1 none
def ON(k:Nat)(ps:List (List Nat)):List SO:=if k=0 then [.cells (ps.flatMap (az ak))] else [.gone,.gone,.cells (ps.flatMap (az ak))]
def sB(ps:List (List Nat))(bs:List fw)(b:fw)(j:Nat):List Int:=ps.mapIdx λi p=>if i<j then ep p (bs++[b]) else ep p bs
theorem Pk(ps:List (List Nat))(bs:List fw)(b:fw):sB ps bs b 0=ps.map (ep · bs):=by
 apply ext_getElem?;intro i;unfold sB;rw[getElem?_mapIdx,getElem?_map]
 cases ps[i]? with
 | none=>rfl
 | some p=>simp
theorem L6(ps:List (List Nat))(bs:List fw)(b:fw){j:Nat}(h:ps.length<=j):sB ps bs b j=ps.map (ep · (bs++[b])):=by
 apply ext_getElem?;intro i;unfold sB;rw[getElem?_mapIdx,getElem?_map]
 cases hp:ps[i]? with
 | none=>rfl
 | some p=>
  have:=bl hp;simp only[map_some,if_pos (show i<j by omega)]
theorem xS(ps:List (List Nat))(bs:List fw)(b:fw)(j:Nat):(sB ps bs b j).length=ps.length:=List.length_mapIdx
theorem NU{ps:List (List Nat)}{bs:List fw}{b:fw}{j:Nat}{p:List Nat}(hp:ps[j]?=some p):(sB ps bs b j)[j]?=some (ep p bs):=by
 unfold sB;rw[getElem?_mapIdx,hp];simp
theorem Pl{ps:List (List Nat)}{bs:List fw}{b:fw}{j:Nat}{p:List Nat}(hp:ps[j]?=some p):sB ps bs b (j+1)=(sB ps bs b j).set j (ep p (bs++[b])):=by
 apply ext_getElem?;intro i;by_cases hij:j=i
 ·subst hij;rw[List.getElem?_set_self (by rw[xS];exact bl hp)];unfold sB;rw[getElem?_mapIdx,hp];simp
 ·rw[List.getElem?_set_ne hij];unfold sB;rw[getElem?_mapIdx,getElem?_mapIdx]
  cases ps[i]? with
  | none=>rfl
  | some q=>
   simp only[map_some];by_cases h:i<j
   ·rw[if_pos h,if_pos (by omega)]
   ·rw[if_neg h,if_neg (by omega)]
theorem MP{α:Type}{l:List α}{i:Nat}{x:α}(h:l[i]?=some x):l.set i x=l:=by
 apply ext_getElem?;intro j;by_cases hij:i=j
 ·subst hij;rw[List.getElem?_set_self (bl h),h]
 ·rw[List.getElem?_set_ne hij]
set_option maxHeartbeats 16000000 in
theorem zI(c:List aU)(dmg:bE)(ws:List Wy)(l:List bq)(co:Co)(ha:OB c dmg ws l co):
 PC Tryz.prog 3 [.ag (an 3 c aq::aI dmg),an 5 ws bN,an 2 l aD,.ag (gU co)] (·=aA true):=by
 have hfl:(aI dmg).length=3:=eM dmg;have hft:(aI dmg).take 3=aI dmg:=List.take_of_length_le (by rw[hfl];exact le_refl _);have hfk:=λo:Nat=>bK (o:=o) (aO dmg);have hfn:=λo:Nat=>du (o:=o) (aO dmg);refine pB 271 Tryz.func3 ?_;rw[bF];refine aE (n2 hfk hfn) ?_;refine ai.fg (Fg.freeze (f':=[(1,an 5 ws bN),(2,an 2 l aD),(4,.ip (an 3 c aq::aI dmg)),(7,.ptr 1 0)]) 0 rfl (λh=>by cases h) ⟨.inl rfl,.inl rfl,.inr (.ptr rfl (bn.refl (aO dmg)) (Nat.zero_le _)),.inl rfl,trivial⟩) ?_;refine ai.fg (Fg.freeze (f':=[(1,an 5 ws bN),(2,an 2 l aD),(4,.ip (an 3 c aq::aI dmg)),(7,.ip [ak co.part,ak co.owner,aa co.day,aa co.am])]) 1 rfl (λh=>by cases h) (p6 @an.eq_1)) ?_;refine ai.fg (st':=⟨[(1,an 5 ws bN),(2,an 2 l aD),(4,.ip (an 3 c aq::aI dmg)),(7,.ip [ak co.part,ak co.owner,aa co.day,aa co.am])],271,[],[]⟩) zH ?_
 (try change ai _ _ _ _ _)
 refine zC ?_;refine zK HB ?_;refine zR ?_;refine gl (n2 hfl hft) ?_;refine zK (KE c dmg ws l co ha.form ha.wl ha.wn ha.cn ha.ll ha.lo ha.lb) ?_ (hwk:=(.cons (.ag (bn.refl (aO dmg))) (bn.refl rfl)));cases hfw:Proofs.GH c dmg ws l co
 ·refine zR ?_;refine cE ?_;refine zE ?_;exact zO [.tmp 8]
 obtain⟨hcat,hform,hlw6,hwf,hcf,hl12,hrep,hop⟩:=NF hfw ha;clear ha hfw;refine zR ?_;refine zN ?_;have hsu:=yN c dmg ws l co hcat hform hwf hcf (by omega) hrep (λr hr=>by have:=hop r hr;omega) (by omega);have hso:=Jp c dmg ws l co;have hsz:=KA (c:=c) (dmg:=dmg) (ws:=ws) (l:=l) (co:=co);unfold Jo at hsu;generalize lg c dmg ws l co=r at hsu hso hsz;obtain⟨ss,op,code⟩:=r;simp only at hsu hsz;have hse:=hso.err;simp only at hse;refine gl (n2 hfl hft) ?_;refine zK hsu ?_ (hwk:=(.cons (.ag (bn.refl (aO dmg))) (bn.refl rfl))) (hfl:=.inr (.cons (.ag (bn.refl (aO dmg))) (bn.refl rfl)));refine zR ?_;cases h0:decide (code=0)
 ·obtain⟨e1,e2⟩:=hse (of_decide_eq_false h0);subst e1;subst e2;refine aE h0 ?_;refine zY ?_;refine aE (n2 @an.eq_1 @length_nil.{0}) ?_;refine zE ?_;exact zO [.tmp 8]
 have hc0:=of_decide_eq_true h0;obtain⟨hon,hq0,hr,hsr⟩:=hsz hc0;refine aE h0 ?_;refine M9 ?_;refine zK (Bp l co.part hrep (λr hr=>by have:=hop r hr;omega) (by omega)) ?_ (hfl:=.inr (bn.refl rfl));have hlo:=uk l co.part;have hown:oy l co.part=(lW l co.part).filterMap (l[·]?):=rfl;generalize lW l co.part=is at hlo hown;refine zR ?_;refine kQ ?_
 have hlen7:is.length<=1000000:=by omega
 refine zs ?_;refine zL is (λk=>True) (λk=>[(1,an 5 ws bN),(2,an 2 l aD),(4,.ip (an 3 c aq::aI dmg)),(7,.ip [ak co.part,ak co.owner,aa co.day,aa co.am]),(9,aA true),(10,an 2 ss bC),(11,aa op),(13,an 1 is (az bX)),(14,bm 1 2 ((is.take k).filterMap (l[·]?)).length),(15,aa k)]) (λk=>ow 1 ((is.take k).filterMap (l[·]?)) aD) (Fg.less (by (simp only[bx,aX,cw,↓reduceIte,reduceEqDiff,an,take_zero,List.filterMap_nil,length_nil,dy,e9])<;>(repeat' apply And.intro)<;>first | rfl | trivial) (by (simp only[bx,aX,or_true,true_or,an,take_zero,List.filterMap_nil,length_nil,dy,e9])<;>(repeat' apply And.intro)<;>first | exact .inr rfl | exact .inl rfl | trivial)) zp ?_;intro k hk hall;by_cases hlt:k<is.length
 ·have hd:=show decide ((k:Int)<(is.length:Int))=true by simp only[decide_eq_true_eq];omega
  obtain⟨i,hx⟩:∃x,is[k]?=some x:=⟨is[k],getElem?_eq_getElem hlt⟩;have hil:i<l.length:=hlo.2 i (List.mem_of_getElem? hx);obtain⟨r,hri⟩:∃r,l[i]?=some r:=⟨l[i],getElem?_eq_getElem hil⟩;have hfm:=EJ hx hri;have hol:((is.take k).filterMap (l[·]?)).length<=k:=Nat.le_trans (List.length_filterMap_le _ _) (by rw[length_take];omega);generalize hO:(is.take k).filterMap (l[·]?)=out at hol hfm;have hcl:=aJ gw out;have hkc:=λo=>aW jT o out
  have i1:=show decide ((0:Int)<=(i:Int))=true by simp
  have i2:=show decide ((i:Int)<(l.length:Int))=true by simp only[decide_eq_true_eq];omega
  by_cases hk0:out=[]
  ·rw[show ow 1 out aD=[] by rw[hk0];rfl,show bm 1 2 out.length=cC by rw[hk0];rfl]
   have f1:bm 1 2 ((is.take (k+1)).filterMap (l[·]?)).length=.buf 1 1 2 none:=by rw[hfm,hk0];rfl
   have f2:ow 1 ((is.take (k+1)).filterMap (l[·]?)) aD=[.gone,.cells (aD r)]:=by rw[hfm,hk0];rfl
   refine aE hd ?_;refine zY ?_
   (repeat refine ai.seq ?_)
   refine ai.block ?_;refine aE (n5 hlt (aH (e:=1) (enc:=az bX) (λ_=>rfl) hx) @az.eq_1 i1 i2) ?_;refine zY ?_;refine aE (n6 hlt (aH (e:=1) (enc:=az bX) (λ_=>rfl) hx) @az.eq_1 hil (aH (e:=2) (enc:=aD) (λ_=>rfl) hri) @aD.eq_1) ?_;refine aE (zi hlt hlen7) ?_;refine zX hlt (cI (n3 f1 f2 @aD.eq_1)) trivial
  ·have hk1:¬out.length=0:=λh=>hk0 (List.length_eq_zero_iff.1 h)
   have f1:bm 1 2 ((is.take (k+1)).filterMap (l[·]?)).length=.buf 1 (out.length+1) 2 none:=by rw[hfm,List.length_append];rfl
   have f2:ow 1 ((is.take (k+1)).filterMap (l[·]?)) aD=[.gone,.cells ((out++[r]).flatMap aD)]:=by rw[hfm,jz];rfl
   have happ:=dO gw jT 1 out r;rw[show aD r=[.sl r.opts.length 14 (r.opts.flatMap aF),aA r.oM] from rfl] at happ;rw[gF hk0,bV hk1];refine aE hd ?_;refine zY ?_
   (repeat refine ai.seq ?_)
   refine ai.block ?_;refine aE (n5 hlt (aH (e:=1) (enc:=az bX) (λ_=>rfl) hx) @az.eq_1 i1 i2) ?_;refine zY ?_;refine zs ?_;refine ai.r0 (by rfl) (by simp only[bx,aX,an,aw,bind_some,map_some,↓reduceIte,reduceEqDiff,reduceAdd,reduceMul,reduceLeDiff,reduceLT,ah,ao,aP,hlt,aH (e:=1) (enc:=az bX) (λ_=>rfl) hx,az,hil,aH (e:=2) (enc:=aD) (λ_=>rfl) hri,aD,hcl,hkc,replicate,show out.length<=1000000 by omega,le_refl,happ];first | done | rfl) ?_;refine aE (zi hlt hlen7) ?_;refine zX hlt (cI (n2 f1 f2)) trivial
 obtain rfl:k=is.length:=by omega
 refine aE (show decide ((is.length:Int)<(is.length:Int))=false by simp) ?_;refine zN ?_;refine ai.exit ?_;rw[take_length,<-hown];have hoo:=λr (hr:r∈oy l co.part)=>hrep r (I1 hr);have hol:=Nat.lt_of_le_of_lt (I0 l co.part) (show l.length<20 by omega);generalize oy l co.part=own at hoo hol hon hq0 hsr ⊢;clear hall hk hown hlo hlen7 hlt
 (try change ai _ _ _ _ _)
 rw[gF hon,bV (λh=>hon (List.length_eq_zero_iff.1 h))];refine ai.fg (Fg.freeze (f':=[(1,an 5 ws bN),(4,.ip (an 3 c aq::aI dmg)),(7,.ip [ak co.part,ak co.owner,aa co.day,aa co.am]),(9,aA true),(10,an 2 ss bC),(11,aa op),(14,an 2 own aD)]) 1 rfl (λh=>by cases h) ⟨.inl rfl,.inl rfl,.inl rfl,.inl rfl,.inl rfl,.inl rfl,.inr (.buf rfl (by rw[cu gw];exact bn.refl (aB jT _)) (by rw[aJ gw];exact le_refl _)),trivial⟩) ?_;refine ai.fg (st':=⟨[(1,an 5 ws bN),(4,.ip (an 3 c aq::aI dmg)),(7,.ip [ak co.part,ak co.owner,aa co.day,aa co.am]),(9,aA true),(10,an 2 ss bC),(11,aa op),(14,an 2 own aD)],271,[],[]⟩) zH ?_
 (try change ai _ _ _ _ _)
 have hal:=yp c own 4096 hcat hoo hol hon;have hai:=λch (h:ch∈(iN c own 4096).1)=>LN (K6 h);have ham:=Dk (c:=c) (l:=own) (most:=4096) (by decide);have hak:=Gr (c:=c) (l:=own) (most:=4096);generalize iN c own 4096=q at hal hai ham hak hq0 hsr;have hne:=hak hq0;have hql:¬q.1.length=0:=λh=>hne (List.length_eq_zero_iff.1 h);rw[hq0] at hal;refine zC ?_;refine zK hal ?_ (hfl:=.inr (bn.refl rfl));refine zR ?_;refine aE (show decide ((q.1.length:Int)=0)=false by simp only[decide_eq_false_iff_not];omega) ?_;refine gX ?_;refine zV ?_;have hps:cD ws co=co.owner::ws.map (·.cK):=rfl
 have hpl:(cD ws co).length=ws.length+1:=by rw[hps,List.length_cons,List.length_map]
 have hlen6:ws.length<=1000000:=by omega
 refine zs ?_;refine zL ws (λk=>True) (λk=>[(1,an 5 ws bN),(4,.ip (an 3 c aq::aI dmg)),(7,.ip [ak co.part,ak co.owner,aa co.day,aa co.am]),(9,aA true),(10,an 2 ss bC),(11,aa op),(14,an 2 own aD),(16,an 1 q.1 dD),(18,EM k),(19,aa k)]) (λk=>ON k ((cD ws co).take (k+1))) (cI (n2 (show EM 0=.buf 0 1 1 (some 1) from rfl) (show ON 0 ((cD ws co).take (0+1))=[.cells [ak co.owner]] from rfl))) zp ?_;intro k hk hall;by_cases hlt:k<ws.length
 ·have hd:=show decide ((k:Int)<(ws.length:Int))=true by simp only[decide_eq_true_eq];omega
  obtain⟨w,hx⟩:∃x,ws[k]?=some x:=⟨ws[k],getElem?_eq_getElem hlt⟩
  have hpx:(cD ws co)[k+1]?=some w.cK:=by rw[hps,List.getElem?_cons_succ,getElem?_map,hx];rfl
  have htk:=bo hpx;have f1:EM (k+1)=.buf 2 (k+1+1) 1 none:=rfl;by_cases hk0:k=0
  ·have f0:EM (k+1)=.buf 2 2 1 none:=by rw[hk0];rfl
   have f2:ON (k+1) ((cD ws co).take (k+1+1))=[.gone,.gone,.cells [ak co.owner,ak w.cK]]:=by rw[htk,hk0];rfl
   rw[show EM k=.buf 0 1 1 (some 1) from if_pos hk0,show ON k ((cD ws co).take (k+1))=[.cells [ak co.owner]] by rw[hk0];rfl];refine aE hd ?_;refine zY ?_
   (repeat refine ai.seq ?_)
   refine ai.block ?_;refine aE (n3 hlt (aH (e:=5) (enc:=bN) (λ_=>rfl) hx) @iA) ?_;refine aE (zi hlt hlen6) ?_;refine zX hlt (cI (n2 f0 f2)) trivial
  ·have hlp:((cD ws co).take (k+1)).length=k+1:=by rw[length_take];omega
   have hcl:=aJ (enc:=az ak) (e:=1) (λ_=>rfl) ((cD ws co).take (k+1));have happ:=dO (enc:=az ak) (e:=1) (λ_=>rfl) (λ_=>rfl) 2 ((cD ws co).take (k+1)) w.cK;rw[<-htk,hlp,show az ak w.cK=[ak w.cK] from rfl,mul_one] at happ;rw[hlp,mul_one] at hcl;have f2:ON (k+1) ((cD ws co).take (k+1+1))=[.gone,.gone,.cells (((cD ws co).take (k+1+1)).flatMap (az ak))]:=rfl;have hkc:=λo=>aW (enc:=az ak) (λ_=>rfl) o ((cD ws co).take (k+1));rw[show EM k=.buf 2 (k+1) 1 none from if_neg hk0,show ON k ((cD ws co).take (k+1))=[.gone,.gone,.cells (((cD ws co).take (k+1)).flatMap (az ak))] from if_neg hk0];refine aE hd ?_;refine zY ?_
   (repeat refine ai.seq ?_)
   refine ai.block ?_;refine aE (n9 hlt (aH (e:=5) (enc:=bN) (λ_=>rfl) hx) @iA hcl hkc happ @mul_one (show k+1<=1000000 by omega) @le_refl) ?_;refine aE (zi hlt hlen6) ?_;refine zX hlt (cI (n2 f1 f2)) trivial
 obtain rfl:k=ws.length:=by omega
 refine aE (show decide ((ws.length:Int)<(ws.length:Int))=false by simp) ?_;refine zN ?_;refine ai.exit ?_
 (try change ai _ _ _ _ _)
 refine ai.fg (st':=⟨[(1,an 5 ws bN),(4,.ip (an 3 c aq::aI dmg)),(7,.ip [ak co.part,ak co.owner,aa co.day,aa co.am]),(9,aA true),(10,an 2 ss bC),(11,aa op),(14,an 2 own aD),(16,an 1 q.1 dD),(18,an 1 (cD ws co) (az ak))],271,[],[]⟩) (by
  rw[List.take_of_length_le (by omega)];by_cases hk0:ws.length=0
  ·have hn1:(cD ws co).length=1:=by omega
   rw[show EM ws.length=.buf 0 (cD ws co).length 1 (some 1) by rw[hn1];exact if_pos hk0,show ON ws.length (cD ws co)=[.cells ((cD ws co).flatMap (az ak))] from if_pos hk0];exact Fg.trans (Fg.freeze (f':=[(1,an 5 ws bN),(4,.ip (an 3 c aq::aI dmg)),(7,.ip [ak co.part,ak co.owner,aa co.day,aa co.am]),(9,aA true),(10,an 2 ss bC),(11,aa op),(14,an 2 own aD),(16,an 1 q.1 dD),(18,an 1 (cD ws co) (az ak))]) 0 rfl (λh=>by cases h) ⟨.inl rfl,.inl rfl,.inl rfl,.inl rfl,.inl rfl,.inl rfl,.inl rfl,.inl rfl,.inr (.buf rfl (by rw[cu (enc:=az ak) (e:=1) (λ_=>rfl)];exact bn.refl (aB (λ_=>rfl) _)) (by rw[aJ (enc:=az ak) (e:=1) (λ_=>rfl)];exact le_refl _)),trivial⟩) zH
  ·rw[show EM ws.length=.buf 2 (ws.length+1) 1 none from if_neg hk0,show ON ws.length (cD ws co)=[.gone,.gone,.cells ((cD ws co).flatMap (az ak))] from if_neg hk0,<-hpl]
   exact Fg.trans (Fg.freeze (f':=[(1,an 5 ws bN),(4,.ip (an 3 c aq::aI dmg)),(7,.ip [ak co.part,ak co.owner,aa co.day,aa co.am]),(9,aA true),(10,an 2 ss bC),(11,aa op),(14,an 2 own aD),(16,an 1 q.1 dD),(18,an 1 (cD ws co) (az ak))]) 2 rfl (λh=>by cases h) ⟨.inl rfl,.inl rfl,.inl rfl,.inl rfl,.inl rfl,.inl rfl,.inl rfl,.inl rfl,.inr (.buf rfl (by rw[cu (enc:=az ak) (e:=1) (λ_=>rfl)];exact bn.refl (aB (λ_=>rfl) _)) (by rw[aJ (enc:=az ak) (e:=1) (λ_=>rfl)];exact le_refl _)),trivial⟩) zH) ?_
 (try change ai _ _ _ _ _)
 clear hall hk;have hpar:∀p∈cD ws co,True:=λ_ _=>trivial;generalize hpp:cD ws co=ps at hpl hpar ⊢;have hkz:=λo=>aW (enc:=az aa) (λ_=>rfl) o (replicate ps.length (0:Int));refine aE (n3 (FK ps.length (by omega)) @EY hkz) ?_;refine zV ?_;have hbk:=λall=>wM (c:=c) (dmg:=dmg) (own:=own) (all:=all) hr;have hbl:∀all:List (List Int),(cJ c dmg ws own co all).length=all.length:=λall=>List.length_map _
 have hz:(ps.map λp=>ep p (cJ c dmg ws own co (q.1.take 0)))=replicate ps.length 0:=by
  rw[take_zero]
  exact List.ext_getElem (by simp) λi h1 h2=>by simp[cJ,ep]
 have hlen8:q.1.length<=1000000:=by omega
 refine zs ?_;refine ai.block (ai.loop (λm st=>∃k:Nat,k<=q.1.length/\m=q.1.length-k/\(True)/\st=⟨[(1,an 5 ws bN),(4,.ip (an 3 c aq::aI dmg)),(7,.ip [ak co.part,ak co.owner,aa co.day,aa co.am]),(9,aA true),(10,an 2 ss bC),(11,aa op),(14,an 2 own aD),(16,an 1 q.1 dD),(18,an 1 ps (az ak)),(20,.buf 0 ps.length 1 (some ps.length)),(21,aa k)],271,[.cells ((ps.map λp=>ep p (cJ c dmg ws own co (q.1.take k))).flatMap (az aa))],[]⟩) q.1.length (Fg.less (by (simp only[bx,aX,cw,↓reduceIte,reduceEqDiff,an,hz])<;>(repeat' apply And.intro)<;>first | rfl | trivial) (by (simp only[bx,aX,or_true,true_or,an,hz])<;>(repeat' apply And.intro)<;>first | exact .inr rfl | exact .inl rfl | trivial)) ⟨0,Nat.zero_le _,rfl,(by first | exact λi y h=>absurd h (Nat.not_lt_zero _) | trivial | rfl | assumption),rfl⟩ (by rintro m st ⟨k,_,_,_,rfl⟩;rfl) ?_);rintro m st ⟨k,hk,rfl,hall,rfl⟩;by_cases hlt:k<q.1.length
 ·have hd:=show decide ((k:Int)<(q.1.length:Int))=true by simp only[decide_eq_true_eq];omega
  obtain⟨ch,hx⟩:∃x,q.1[k]?=some x:=⟨q.1[k],getElem?_eq_getElem hlt⟩;have hch:=hai ch (List.mem_of_getElem? hx);have hev:=Aw (ch:=ch) hoo
  have hbs:cJ c dmg ws own co (q.1.take (k+1))=cJ c dmg ws own co (q.1.take k)++[fY ws (runN c dmg (kl own ch) co.day).1 co]:=by
   unfold cJ;rw[bo hx,map_append];rfl
  have hbn:=hbk (q.1.take (k+1))
  have hbz:cJ c dmg ws own co (q.1.take k)=[]↔k=0:=by
   rw[<-List.length_eq_zero_iff,hbl,length_take];omega
  obtain⟨e1,he1⟩:=A7 (jA own ch);have hpk:=vw own ch hoo (by omega) (by omega);rw[he1] at hpk;rw[show(jA own ch).getD []=kl own ch from rfl] at hpk;generalize kl own ch=tF at hpk hev hbs;have hru:=rD c dmg tF co.day hcat hform (by omega) hev.1;have hrl:=E8 (c:=c) (dmg:=dmg) (day:=co.day) hev.1;unfold Oj at hru;generalize runN c dmg tF co.day=rr at hru hrl hbs;have hsh:=oI ws rr.1 co hwf hcf (by omega) (by omega);have hof:=N5 (ps:=rr.1) hr
  have hsx:∃X e,mQ ws rr.1 co=(X,e)/\((e=0/\X=EC ws rr.1 co)\/(e=2/\EC ws rr.1 co=[⟨co.owner,co.am⟩])):=by
   unfold mQ EC;rw[if_pos hr];split
   ·exact⟨_,_,rfl,.inl ⟨rfl,rfl⟩⟩
   ·exact⟨_,_,rfl,.inr ⟨rfl,rfl⟩⟩
  obtain⟨X,e2,hX,hXe⟩:=hsx
  have holn:(EC ws rr.1 co).length<=1000000:=by
   unfold EC;split
   ·have:=(o4 (ps:=rr.1) hr).sum.2;omega
   ·simp
  rw[hX] at hsh;unfold cV at hsh;rw[hbs] at hbn;clear he1 hX;generalize fY ws rr.1 co=bb at hof hbs hbn;generalize EC ws rr.1 co=one at hof hXe holn;generalize cJ c dmg ws own co (q.1.take k)=bls at hbz hbn hbs ⊢;have hkc:=λ(o:Nat) (L:List Int)=>aW (enc:=az aa) (λ_=>rfl) o L;refine aE hd ?_;refine zY ?_
  (repeat refine ai.seq ?_)
  refine ai.block ?_
  (repeat refine ai.seq ?_)
  refine gl (n3 hlt (aH (e:=1) (enc:=dD) (λ_=>rfl) hx) @dD.eq_1) ?_;refine zK hpk ?_ (hfl:=.inr (bn.refl rfl));refine zR ?_;refine gl (n2 hfl hft) ?_;refine zK hru ?_ (hwk:=(.cons (.ag (bn.refl (aO dmg))) (bn.refl rfl))) (hfl:=.inr (.cons (.ag (bn.refl (aO dmg))) (bn.refl rfl)));refine cS hkc ?_;refine gl hkc ?_;refine zK hsh ?_ (hfl:=.inr (bn.refl rfl));refine cS hkc ?_;refine ai.fg (st':=⟨[(1,an 5 ws bN),(4,.ip (an 3 c aq::aI dmg)),(7,.ip [ak co.part,ak co.owner,aa co.day,aa co.am]),(9,aA true),(10,an 2 ss bC),(11,aa op),(14,an 2 own aD),(16,an 1 q.1 dD),(18,an 1 ps (az ak)),(20,.buf 0 ps.length 1 (some ps.length)),(21,aa k),(27,an 2 X bC),(28,aa e2)],271,[.cells ((ps.map λp=>ep p bls).flatMap (az aa))],[]⟩) zH ?_
  (try change ai _ _ _ _ _)
  refine zV ?_
  (repeat refine ai.seq ?_)
  refine ai.mono (Q:=λex st=>ex=.normal/\Fg st ⟨[(1,an 5 ws bN),(4,.ip (an 3 c aq::aI dmg)),(7,.ip [ak co.part,ak co.owner,aa co.day,aa co.am]),(9,aA true),(10,an 2 ss bC),(11,aa op),(14,an 2 own aD),(16,an 1 q.1 dD),(18,an 1 ps (az ak)),(20,.buf 0 ps.length 1 (some ps.length)),(21,aa k),(27,an 2 one bC)],271,[.cells ((ps.map λp=>ep p bls).flatMap (az aa))],[]⟩) ?_ ?_
  ·rcases hXe with⟨rfl,rfl⟩ | ⟨rfl,ho⟩
   ·rw[show(!decide ((0:Int)=0))=false from rfl];refine zN ?_;exact⟨rfl,zH⟩
   ·rw[show(!decide ((2:Int)=0))=true from rfl,ho];refine zY ?_;refine aE hkc ?_;refine⟨rfl,?_⟩;exact Fg.trans (Fg.freeze (f':=[(1,an 5 ws bN),(4,.ip (an 3 c aq::aI dmg)),(7,.ip [ak co.part,ak co.owner,aa co.day,aa co.am]),(9,aA true),(10,an 2 ss bC),(11,aa op),(14,an 2 own aD),(16,an 1 q.1 dD),(18,an 1 ps (az ak)),(20,.buf 0 ps.length 1 (some ps.length)),(21,aa k),(27,an 2 [(⟨co.owner,co.am⟩:Sh)] bC)]) 1 rfl (λh=>by cases h) (p6 @an.eq_1)) zH
  rintro ex st ⟨rfl,hf⟩;refine ai.fg hf ?_;clear hf hXe hsh
  (try change ai _ _ _ _ _)
  refine zV ?_;have hm0:=Pk ps bls bb
  have hlenp:ps.length<=1000000:=by omega
  refine zs ?_;refine zL ps (λk2=>True) (λk2=>[(1,an 5 ws bN),(4,.ip (an 3 c aq::aI dmg)),(7,.ip [ak co.part,ak co.owner,aa co.day,aa co.am]),(9,aA true),(10,an 2 ss bC),(11,aa op),(14,an 2 own aD),(16,an 1 q.1 dD),(18,an 1 ps (az ak)),(20,.buf 0 ps.length 1 (some ps.length)),(21,aa k),(27,an 2 one bC),(29,aa k2)]) (λk2=>[.cells ((sB ps bls bb k2).flatMap (az aa))]) (cI hm0) zp ?_;intro k2 hk2 hall2;by_cases hlt2:k2<ps.length
  ·have hd2:=show decide ((k2:Int)<(ps.length:Int))=true by simp only[decide_eq_true_eq];omega
   obtain⟨p,hx2⟩:∃p,ps[k2]?=some p:=⟨ps[k2],getElem?_eq_getElem hlt2⟩;have hmk:=NU (bs:=bls) (b:=bb) hx2
   have hml:k2<(sB ps bls bb k2).length:=by rw[xS];exact hlt2
   have hms:=Pl (bs:=bls) (b:=bb) hx2;have hsn:=Ee p bls bb;have hop:=yK one p holn;rw[hof p] at hop;have hml2:=xS ps bls bb k2;generalize sB ps bls bb k2=mx at hmk hml hml2 hms ⊢;generalize ep p (bls++[bb])=nw at hsn hms;generalize ep p bls=od at hmk hsn;generalize getM 0 p bb=g at hop hsn;refine aE hd2 ?_;refine zY ?_
   (repeat refine ai.seq ?_)
   refine ai.block ?_
   (repeat refine ai.seq ?_)
   refine gl (n3 hlt2 (aH (e:=1) (enc:=az ak) (λ_=>rfl) hx2) @az.eq_1) ?_;refine zK hop ?_;refine zR ?_;by_cases hk0:k=0
   ·rw[if_pos (hbz.2 hk0)] at hsn;subst hsn;refine aE (show decide ((k:Int)=0)=true by simp only[decide_eq_true_eq];omega) ?_;refine zY ?_;refine zs ?_;refine ai.r0 (by rfl) (by simp only[bx,aX,an,aw,bind_some,map_some,↓reduceIte,reduceEqDiff,reduceAdd,reduceMul,reduceLeDiff,reduceLT,ah,ao,aP,hlt2,mul_one,ox,hml2,show k2+1<=ps.length by omega,sJ nw hml];first | done | rfl) ?_;refine aE (zi hlt2 hlenp) ?_;refine zX hlt2 (cI hms) trivial
   ·rw[if_neg (λh=>hk0 (hbz.1 h))] at hsn;cases hlg:decide (g<od)
    ·rw[if_neg (of_decide_eq_false hlg)] at hsn;subst hsn;rw[MP hmk] at hms;refine zs ?_;refine ai.r0 (by rfl) (by simp only[bx,aX,an,aw,bind_some,map_some,↓reduceIte,reduceEqDiff,reduceAdd,reduceMul,reduceLeDiff,reduceLT,ah,ao,aP,show decide ((k:Int)=0)=false by simp only[decide_eq_false_iff_not];omega,hlt2,mul_one,rk hmk,hlg];first | done | rfl) ?_;refine zN ?_;refine aE (zi hlt2 hlenp) ?_;refine zX hlt2 (cI hms) trivial
    ·rw[if_pos (of_decide_eq_true hlg)] at hsn;subst hsn;refine zs ?_;refine ai.r0 (by rfl) (by simp only[bx,aX,an,aw,bind_some,map_some,↓reduceIte,reduceEqDiff,reduceAdd,reduceMul,reduceLeDiff,reduceLT,ah,ao,aP,show decide ((k:Int)=0)=false by simp only[decide_eq_false_iff_not];omega,hlt2,mul_one,rk hmk,hlg];first | done | rfl) ?_;refine zY ?_;refine zs ?_;refine ai.r0 (by rfl) (by simp only[bx,aX,an,aw,bind_some,map_some,↓reduceIte,reduceEqDiff,reduceAdd,reduceMul,reduceLeDiff,reduceLT,ah,ao,aP,hlt2,mul_one,ox,hml2,show k2+1<=ps.length by omega,sJ nw hml];first | done | rfl) ?_;refine aE (zi hlt2 hlenp) ?_;refine zX hlt2 (cI hms) trivial
  refine aE (show decide ((k2:Int)<(ps.length:Int))=false by simp only[decide_eq_false_iff_not];omega) ?_;refine zN ?_;refine ai.exit ?_;have hma:=L6 ps bls bb (j:=k2) (by omega);rw[hma];refine aE (zi hlt hlen8) ?_;refine zX hlt (cI hbs) trivial
 obtain rfl:k=q.1.length:=by omega
 rw[take_length];refine aE (show decide ((q.1.length:Int)<(q.1.length:Int))=false by simp) ?_;refine zN ?_;refine ai.exit ?_;have hbn:cJ c dmg ws own co q.1≠[]:=λe=>hne (by unfold cJ at e;exact List.map_eq_nil_iff.1 e);have hbq:=hbk q.1;have hblq:=hbl q.1;have hsf:=Hn hbn hbq
 have hopen:q.1.length=1->iX co.am (eX (gC (cJ c dmg ws own co q.1)))=0:=λh1=>by
  obtain⟨ch,hch⟩:=List.length_eq_one_iff.1 h1;unfold cJ;rw[hch];exact Mm hr
 generalize cJ c dmg ws own co q.1=bls at hbn hbq hblq hsf hopen hsr ⊢;have hss:ss=eX (gC bls):=congrArg fst hsr;have hopn:op=iX co.am (eX (gC bls)):=congrArg (λx=>x.2.1) hsr;rw[<-hopn] at hopen;rw[<-hss] at hsf;obtain⟨_,hsam,hslt,hsln,hsop,hssm,_⟩:=hso;simp only at hsam hslt hsln hsop hssm;obtain⟨hop0,hop1⟩:=hsop hc0;clear hsr hss hopn hsu hsz hse
 have hsl6:ss.length<=1000000:=by omega
 have hlenp:ps.length<=1000000:=by omega
 have hamr:=K7 (mM hr).2;refine zV ?_;refine zs ?_;refine zL ps (λk=>True) (λk=>[(7,.ip [ak co.part,ak co.owner,aa co.day,aa co.am]),(9,aA true),(10,an 2 ss bC),(11,aa op),(16,an 1 q.1 dD),(18,an 1 ps (az ak)),(20,.buf 0 ps.length 1 (some ps.length)),(31,aa k)]) (λk=>[.cells ((ps.map λp=>ep p bls).flatMap (az aa))]) zH zp ?_;intro k hk hall;by_cases hlt:k<ps.length
 ·have hd:=show decide ((k:Int)<(ps.length:Int))=true by simp only[decide_eq_true_eq];omega
  obtain⟨p,hx⟩:∃p,ps[k]?=some p:=⟨ps[k],getElem?_eq_getElem hlt⟩
  have hmk:(ps.map λp=>ep p bls)[k]?=some (ep p bls):=by rw[getElem?_map,hx];rfl
  have hop:=yK ss p hsl6;rw[hsf p] at hop;generalize ep p bls=v at hop hmk;generalize (ps.map λp=>ep p bls)=L at hmk ⊢;refine aE hd ?_;refine zY ?_
  (repeat refine ai.seq ?_)
  refine ai.block ?_
  (repeat refine ai.seq ?_)
  refine zs ?_;refine oW [0,0,0,6,14,31,0,0,192,448,1023] ?_;refine nL (n3 hlt (aH (e:=1) (enc:=az ak) (λ_=>rfl) hx) @az.eq_1) ?_;refine SD.k (by rfl) rfl rfl (by rfl) rfl rfl zc (hop) (zw) rfl ?_
  (repeat (first | refine SD.r (by rfl) rfl (by rfl) (by rfl) (by simp only[bx,aX,an,aw,bind_some,map_some,↓reduceIte,reduceEqDiff,reduceAdd,reduceMul,reduceLeDiff,reduceLT,ah,ao,aP,hlt,mul_one,rk hmk,show decide (v=v)=true by simp];first | done | rfl) ?_ | refine SD.s (by rfl) rfl (by rfl) (by rfl) ?_ | fail))
  refine zM ?_;refine zN ?_;refine aE (zi hlt hlenp) ?_;refine zX hlt zH trivial
 obtain rfl:k=ps.length:=by omega
 refine aE (show decide ((ps.length:Int)<(ps.length:Int))=false by simp) ?_;refine zN ?_;refine ai.exit ?_;refine kQ ?_;refine zs ?_;refine zL ss (λk=>True) (λk=>[(7,.ip [ak co.part,ak co.owner,aa co.day,aa co.am]),(9,aA true),(10,an 2 ss bC),(11,aa op),(16,an 1 q.1 dD),(32,aa (op+((ss.take k).map Sh.am).sum)),(33,aa k)]) (λk=>[]) (Fg.less (by (simp only[bx,aX,cw,↓reduceIte,reduceEqDiff,an,take_zero,map_nil,sum_nil,Int.add_zero])<;>(repeat' apply And.intro)<;>first | rfl | trivial) (by (simp only[bx,aX,or_true,true_or,an,take_zero,map_nil,sum_nil,Int.add_zero])<;>(repeat' apply And.intro)<;>first | exact .inr rfl | exact .inl rfl | trivial)) zp ?_;intro k hk hall;by_cases hlt:k<ss.length
 ·have hd:=show decide ((k:Int)<(ss.length:Int))=true by simp only[decide_eq_true_eq];omega
  obtain⟨s,hx⟩:∃s,ss[k]?=some s:=⟨ss[k],getElem?_eq_getElem hlt⟩
  have hos:((ss.take (k+1)).map Sh.am).sum=((ss.take k).map Sh.am).sum+s.am:=by
   rw[bo hx,map_append,List.sum_append,List.map_cons,map_nil,List.sum_cons,sum_nil];omega
  have hsb:=hsam s (List.mem_of_getElem? hx);have hob:=Gt (ss.take k) (λs hs=>by have:=hsam s (List.mem_of_mem_take hs);omega)
  have hob2:(ss.take k).length<=2:=by rw[length_take];omega
  generalize ((ss.take k).map Sh.am).sum=sm at hos hob;have hadd:=iJ (P:=Tryz.prog) (t:=3) (show -9223372036854775808<=op+sm+s.am/\op+sm+s.am<=9223372036854775807 from⟨by omega,by omega⟩)
  have n1:=show decide (s.am<=0)=false by simp only[decide_eq_false_iff_not];omega
  have hos2:op+((ss.take (k+1)).map Sh.am).sum=op+sm+s.am:=by rw[hos];omega
  refine aE hd ?_;refine zY ?_
  (repeat refine ai.seq ?_)
  refine ai.block ?_
  (repeat refine ai.seq ?_)
  refine aE (n4 hlt (aH (e:=2) (enc:=bC) (λ_=>rfl) hx) @bC.eq_1 hadd) ?_;by_cases hk0:k=0
  ·have n2:=show decide ((0:Int)<(k:Int))=false by simp only[decide_eq_false_iff_not];omega
   refine zs ?_;refine oW [0,0,3,7,15,31,63,127,255,511,1023,1023,3071,8191,16383,32767,1023,1023,197631,459775,984063,2097151,4194303,8388607] ?_;refine nL (n5 hlt (aH (e:=2) (enc:=bC) (λ_=>rfl) hx) @bC.eq_1 n1 @n2) ?_;refine zM ?_;refine zN ?_;refine aE (zi hlt hsl6) ?_;refine zX hlt (cI hos2) trivial
  ·have n2:=show decide ((0:Int)<(k:Int))=true by simp only[decide_eq_true_eq];omega
   obtain⟨j,hj0⟩:∃j,k=j+1:=⟨k-1,by omega⟩
   have hj:j<ss.length:=by omega
   obtain⟨s0,hx0⟩:∃s,ss[j]?=some s:=⟨ss[j],getElem?_eq_getElem hj⟩
   have hl0:gk s0.pt s.pt=true:=by
    have h1:=List.pairwise_iff_getElem.1 hslt j k hj hlt (by omega);rw[getElem?_eq_getElem hj] at hx0;rw[getElem?_eq_getElem hlt] at hx;cases hx0;cases hx;exact h1
   refine zs ?_;refine oW [0,0,3,7,15,31,63,127,255,511,1023,1023,3071,8191,16383,32767,1023,1023,197631,459775,984063,2097151,4194303,8388607] ?_
   (repeat (first | refine SD.r (by rfl) rfl (by rfl) (by rfl) (by simp only[bx,aX,an,aw,bind_some,map_some,↓reduceIte,reduceEqDiff,reduceAdd,reduceMul,reduceLeDiff,reduceLT,ah,ao,aP,hlt,aH (e:=2) (enc:=bC) (λ_=>rfl) hx,bC,n1,n2,bS (k:Int) 1 (by omega),show(k:Int)-1=(j:Int) from by omega,hj,aH (e:=2) (enc:=bC) (λ_=>rfl) hx0,o6,hl0];first | done | rfl) ?_ | refine SD.s (by rfl) rfl (by rfl) (by rfl) ?_ | fail))
   refine zM ?_;refine zN ?_;refine aE (zi hlt hsl6) ?_;refine zX hlt (cI hos2) trivial
 obtain rfl:k=ss.length:=by omega
 rw[take_length]
 have hsum:op+(ss.map Sh.am).sum=co.am:=by omega
 rw[hsum];have g1:=show decide ((0:Int)<=op)=true from decide_eq_true hop0;refine aE (show decide ((ss.length:Int)<(ss.length:Int))=false by simp) ?_;refine zN ?_;refine ai.exit ?_;by_cases hq1:q.1.length=1
 ·have ho:=hopen hq1;subst ho;refine aE (n3 g1 (show decide (co.am=co.am)=true by simp) (show decide ((1:Int)<(q.1.length:Int))=false by simp only[decide_eq_false_iff_not];omega)) ?_;refine zE ?_;exact zO [.tmp 8]
 ·refine aE (n3 g1 (show decide (co.am=co.am)=true by simp) (show decide ((1:Int)<(q.1.length:Int))=true by simp only[decide_eq_true_eq];omega)) ?_;refine zE ?_;exact zO [.tmp 8]
end Go.Proofs
namespace Go.Ev
open Go.RowKit Go.ChangeShapes Go.WideShapes Go.Deep
noncomputable section
mutual
def Iy:DV->SV
 | .fl a=>.a a
 | .sl _ n e cs=>.sl n e (gg cs)
 | .ag cs=>.ag (gg cs)
def gg:List DV->List SV
 | []=>[]
 | d::ds=>Iy d::gg ds
end
theorem DT:∀a b:List DV,gg (a++b)=gg a++gg b
 | [],b=>rfl
 | d::a,b=>by rw[List.cons_append,gg,gg,DT a b,List.cons_append]
def Hf(h:H):jP:=λid=>if id<h.next then h.aQ.get id else none
theorem Oh(h:H):K0 (Hf h) h:=by
 intro id ob hi;unfold Hf at hi;split at hi
 ·rename_i hl;exact⟨hl,hi⟩
 ·cases hi
theorem Mx{h:H}{id:Nat}{row:List AV}(hl:id<h.next)(hr:qK h.aQ id=some row):oC (Hf h) id=some row:=by
 unfold oC Hf;rw[if_pos hl];unfold qK at hr
 cases hg:h.aQ.get id with
 | none=>rw[hg] at hr;cases hr
 | some o=>
  rw[hg] at hr
  cases o<;>first | exact hr | cases hr
mutual
theorem Dp.gs{s:Bool}{h:H}:∀{d:DV} {a:AV},Dp s h d a->GS (Hf h) (Iy d) a
 | .fl a0,a,hd=>by
  rw[PS] at hd;rw[Iy,GS];exact hd.1
 | .sl nl n e cs,a,hd=>by
  rw[Ih] at hd;rw[Iy,GS]
  rcases hd with⟨h1,h2,⟨o,e',c,h3,h4,h5⟩,_⟩ | ⟨_,id,off,cap,row,aS,e1,h1,h2,h3,h4,h5⟩
  ·subst h2;exact .inl ⟨h1,by rw[gg],o,e',c,by rw[h3],h4,h5⟩
  ·exact .inr ⟨id,off,cap,row,e1,Mx h1 h2,h3,by rw[<-h4];exact Da.gs h5⟩
 | .ag cs,a,hd=>by
  rw[PR] at hd;obtain⟨aS,e1,h1⟩:=hd;rw[Iy,GS];exact⟨aS,e1,Da.gs h1⟩
theorem Da.gs{s:Bool}{h:H}:∀{ds:List DV} {aS:List AV},Da s h ds aS->jH (Hf h) (gg ds) aS
 | [],aS,hd=>by rw[Nd] at hd;rw[gg,jH];exact hd
 | d::ds,aS,hd=>by
  rw[KU] at hd;obtain⟨a,r,e1,h1,h2⟩:=hd;rw[gg,jH];exact⟨a,r,e1,Dp.gs h1,Da.gs h2⟩
end
theorem Ph{P:Program}(hng:rK P){f:FuncId}{fn:Func}(hf:P.funcs[f]?=some fn)(hb:fn.body.isSome=true){w:World}{ds:List DV}{args':Array Value}(hw:my w ds args'.toList)
 (hc:PC P f (gg ds) (·=.a (.bool true))):Calls P f args' w λe w'=>e=.returned (.bool true)/\Below w.heap.size w w':=by
 obtain⟨σ,k1,k2⟩:=hw.lay;have hd:=my.dp (rows:=(eC ds 0).2) hw 0 (λi r hr=>by rw[Nat.zero_add];exact hr);have hfine:=hc (Hf _) _ _ (Oh _) hd.gs σ w args' k1 k2;rw[ff hng hf hb] at hfine;refine Calls.mono hfine λe w' ⟨x,he,a,h',⟨r,ρ',hr,_,_,hg⟩,σ',hV,hr',hE⟩=>?_;subst hr;rw[GS] at hg;subst hg;cases hV;exact⟨he,GG hE⟩
end
end Go.Ev
