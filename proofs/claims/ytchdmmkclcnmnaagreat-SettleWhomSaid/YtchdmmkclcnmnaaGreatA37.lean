/- Lemmas of this claim, each with its conditions. -/
import Derived.Test.YtchdmmkclcnmnaaGreatA36
import Derived.Test.YtchdmmkclcnmnaaGreatA34
import Derived.Test.YtchdmmkclcnmnaaGreatA19
import Derived.Test.YtchdmmkclcnmnaaGreatA14
import Derived.Test.YtchdmmkclcnmnaaGreatA9
set_option linter.all false
open List (all_eq_true take_zero any_eq_true)
open List renaming mem_of_getElem? -> ac, getElem?_eq_getElem -> ad, take_length -> aj, length_cons -> al, take_of_length_le -> ap, mem_cons_of_mem -> ax, mem_cons_self -> ay, filter_cons -> a7, sizeOf_lt_of_mem -> a8, any_nil -> a9, filter_append -> bc, cons_append -> bh, length_take -> bi, map_append -> bt, sum_append -> bv, map_cons -> bx, sum_cons -> bE
open Bool renaming and_eq_true -> af, not_eq_true' -> a4, false_and -> ba, false_ne_true -> bb, or_false -> bw
open Int renaming le_refl -> a5
open Nat renaming zero_le -> a6, lt_succ_self -> bd, reduceEqDiff -> be, not_lt_zero -> bk, le_refl -> bo, zero_add -> b0
open And renaming intro -> bs
namespace Go.Proofs
open Go.Ev
set_option maxRecDepth 100000
inductive jE:bB->Prop
 | mk {op n:Int} {kids:List bB}:kids.length<=mi->(∀k∈kids,jE k)->jE (.mk op n kids)
set_option maxHeartbeats 1000000 in
def uG:∀(d:Nat) (f:bB),SizeOf.sizeOf f<d->jE f->∀most:Int,PC Tryz.prog 63 [.ag (aE f),ab most] (·=ab (fO f most))
 | 0,f,hd,_,_=>t8 hd (Nat.not_lt_zero _)
 | d+1,.mk op n kids,hd,hf,most=>by
  cases hf with
  | mk hlen hks=>
  have hkd:∀k∈kids,SizeOf.sizeOf k<d:=λk hk=>by
   have h1:=List.sizeOf_lt_of_mem hk
   have h2:SizeOf.sizeOf (bB.mk op n kids)=1+SizeOf.sizeOf op+SizeOf.sizeOf n+SizeOf.sizeOf kids:=by simp
   omega
  rw[dD,fO];refine pB 31 Tryz.func63 ?_;refine zV ?_;refine ar.fg (Fg.freeze (f':=[(1,ab most),(2,.ip [ab op,ab n,ak 3 kids aE])]) 0 rfl (λh=>by cases h) (rK @ak.eq_1)) ?_;refine ar.fg (st':=⟨[(1,ab most),(2,.ip [ab op,ab n,ak 3 kids aE])],31,[],[]⟩) zH ?_
  (try change ar _ _ _ _ _)
  refine lC ?_;refine zs ?_;refine MX kids (λk (acc:Int)=>ie kids most 1=ie (kids.drop k) most acc) (λk acc=>[(1,ab most),(2,.ip [ab op,ab n,ak 3 kids aE]),(5,ab acc),(6,ab k)]) (λk acc=>[]) (1) zH (by rfl) ?_;intro k acc hk hall;by_cases hlt:k<kids.length;rotate_left
  ·refine aC (show decide ((k:Int)<(kids.length:Int))=false by simp only[wp];omega) ?_;refine dZ ?_;rw[List.drop_of_length_le (by omega),ie] at hall;refine zV ?_;exact zo [.tmp 4] (hq:=by rw[hall])
  have hd:=show decide ((k:Int)<(kids.length:Int))=true by simp only[wr];omega
  obtain⟨x,hx⟩:∃x,kids[k]?=some x:=⟨kids[k],List.getElem?_eq_getElem hlt⟩;rw[ft hx,ie] at hall;have hxm:=List.mem_of_getElem? hx;have ih:=uG d x (hkd x hxm) (hks x hxm);have hxl:((kids.flatMap aE).drop (k*3)).take 3=aE x:=aG (e:=3) (enc:=aE) eD hx;obtain⟨op',n',kids'⟩:=x;simp only[dD] at hxl ih;cases h1:decide (acc<=most)
  ·rw[ul (by have:=wt h1;omega)] at hall;refine aC (n2 hd h1) ?_;refine dZ ?_;refine zV ?_;exact zo [.tmp 4] (hq:=by rw[hall])
  rw[un (by have:=ww h1;omega)] at hall;refine aC (n2 hd h1) ?_;refine eQ ?_;refine gG (n3 hlt hxl @qc) ?_;refine zK (ih (Ao most acc)) ?_;refine cM @yj ?_;refine aC (zi hlt hlen) ?_;refine H3 hlt (H8 acc (fO (.mk op' n' kids') (Ao most acc))) zH hall
def Hs(f:bB)(hf:jE f)(most:Int):PC Tryz.prog 63 [.ag (aE f),ab most] (·=ab (fO f most)):=uG _ f (bd _) hf most
def FF(f:bB):Bool:=decide (fO f 80<=80)
def Jj(f:bB)(hf:jE f):PC Tryz.prog 31 [.ag (aE f)] (·=az (Proofs.FF f)):=by
 refine pB 6 Tryz.func31 ?_;have hN:=Hs f hf 80;unfold Proofs.FF;generalize fO f 80=q at hN ⊢;obtain⟨op,n,kids⟩:=f;rw[dD] at hN ⊢;refine kD ?_;refine zK hN ?_;refine zR ?_;exact zo [.tmp 2]
def PI{a b:Int}(h : -9223372036854775808<=a+b/\a+b<=9223372036854775807):H8 a b=a+b:=by
 have h1:(rZ (-9223372036854775808) (a+b)&&rZ (a+b) 9223372036854775807)=true:=by
  rw[eU,eU];simp[h.1,h.2]
 unfold H8;simp only[dO,N9,NW,h1,ai]
def QM{a b:Int}(h : -9223372036854775808<=a-b/\a-b<=9223372036854775807):Ao a b=a-b:=by
 have h1:(rZ (-9223372036854775808) (a-b)&&rZ (a-b) 9223372036854775807)=true:=by
  rw[eU,eU];simp[h.1,h.2]
 unfold Ao;simp only[dO,N9,NW,h1,ai]
def Cp:∀(d:Nat) (f:bB),SizeOf.sizeOf f<d->∀most:Int,-1000<=most->most<=1000->1<=fO f most/\(fO f most<=most+1\/fO f most=1)/\(fO f most<=most->gD f)
 | 0,f,hd,_,_,_=>t8 hd (Nat.not_lt_zero _)
 | d+1,.mk op n kids,hd,most,h0,h1=>by
  have hkd:∀k∈kids,SizeOf.sizeOf k<d:=λk hk=>by
   have h1:=List.sizeOf_lt_of_mem hk
   have h2:SizeOf.sizeOf (bB.mk op n kids)=1+SizeOf.sizeOf op+SizeOf.sizeOf n+SizeOf.sizeOf kids:=by simp
   omega
  have key:∀(ks:List bB) (acc:Int),(∀k∈ks,k∈kids)->1<=acc->(acc<=most+1\/acc=1)->1<=ie ks most acc/\(ie ks most acc<=most+1\/ie ks most acc=1)/\(ie ks most acc<=most->acc+ks.length<=ie ks most acc/\∀k∈ks,gD k):=by
   intro ks
   induction ks with
   | nil=>intro acc _ h2 h3;rw[ie];exact⟨h2,h3,λ_=>⟨by simp,λk hk=>by cases hk⟩⟩
   | cons k ks ih=>
    intro acc hm h2 h3;rw[ie];split
    ·rename_i hlt;exact⟨h2,h3,λh=>by omega⟩
    ·rename_i hlt;rw[QM (by omega)];obtain⟨b1,b2,b3⟩:=Cp d k (hkd k (hm k List.mem_cons_self)) (most-acc) (by omega) (by omega);rw[PI (by omega)];obtain⟨c1,c2,c3⟩:=ih (acc+fO k (most-acc)) (λx hx=>hm x (List.mem_cons_of_mem _ hx)) (by omega) (by omega);refine⟨c1,c2,λh=>?_⟩;obtain⟨d1,d2⟩:=c3 h;refine⟨by rw[List.length_cons];omega,λx hx=>?_⟩
     rcases List.mem_cons.1 hx with rfl | hx
     ·exact b3 (by omega)
     ·exact d2 x hx
  rw[fO];obtain⟨c1,c2,c3⟩:=key kids 1 (λ_ h=>h) (Int.le_refl _) (.inr rfl);refine⟨c1,c2,λh=>?_⟩;obtain⟨d1,d2⟩:=c3 h;exact .mk (by omega) d2
def NL{f:bB}(h:FF f=true):gD f:=(Cp _ f (bd _) 80 (by decide) (by decide)).2.2 (ww h)
def pL(s:lP):Bool:=!(decide (100<(s.name.length:Int)))&&(!(decide (15<(s.kinds.length:Int)))&&s.kinds.all λn=>!(decide (100<(n.length:Int))))
def og(k:aP):Bool:=!(decide (100<(k.name.length:Int)))&&(!(decide (15<(k.cm.length:Int)))&&k.cm.all pL)
def tl(c:List aP):Bool:=!(decide (65<(c.length:Int)))&&c.all og
def x3{α:Type}{p:α->Bool}{l:List α}{x:α}(hx:x∈l)(hp:p x=false):l.all p=false:=Bool.eq_false_iff.2 λh=>by
 have:=all_eq_true.1 h x hx;rw[hp] at this;cases this
set_option maxHeartbeats 2000000 in
def Jk(c:List aP):PC Tryz.prog 30 [.ag [ak 3 c ao]] (·=az (Proofs.tl c)):=by
 refine pB 80 Tryz.func30 ?_;refine zV ?_;refine ar.fg (Fg.freeze (f':=[(1,.ip [ak 3 c ao])]) 0 rfl (λh=>by cases h) (rK @ak.eq_1)) ?_;refine ar.fg (st':=⟨[(1,.ip [ak 3 c ao])],80,[],[]⟩) zH ?_
 (try change ar _ _ _ _ _)
 cases g1:decide (65<(c.length:Int));rotate_left
 ·refine aC g1 ?_;refine cL ?_;exact zo [.tmp 2] (hq:=by rw[Proofs.tl,g1];rfl)
 have hlen:c.length<=1000000:=by have:=wt g1;omega
 have hN:Proofs.tl c=c.all og:=by rw[Proofs.tl,g1];rfl
 refine aC g1 ?_;refine iK ?_;refine zs ?_;refine zL c (λk=>(c.take k).all og=true) (λk=>[(1,.ip [ak 3 c ao]),(3,ab k)]) (λk=>[]) zH zp ?_;intro k hk hall;by_cases hlt:k<c.length;rotate_left
 ·obtain rfl:k=c.length:=by omega
  rw[aj] at hall;refine aC (show decide ((c.length:Int)<(c.length:Int))=false by simp) ?_;refine dZ ?_;refine zV ?_;exact zo [.tmp 2] (hq:=by rw[hN,hall])
 have hd:=show decide ((k:Int)<(c.length:Int))=true by simp only[wr];omega
 obtain⟨x,hx⟩:∃x,c[k]?=some x:=⟨c[k],ad hlt⟩
 have hbad:og x=false->Proofs.tl c=false:=λh=>by rw[hN];exact x3 (ac hx) h
 refine aC hd ?_;refine eQ ?_
 (repeat refine ar.seq ?_)
 refine aC (n3 hlt (aG (e:=3) (enc:=ao) (λ_=>rfl) hx) @ao.eq_1) ?_;refine ar.fg (Fg.freeze (f':=[(1,.ip [ak 3 c ao]),(3,ab k),(4,.ip [ae x.name,az x.gn,ak 3 x.cm bU])]) 0 rfl (λh=>by cases h) (rK @ak.eq_1)) ?_;refine ar.fg (st':=⟨[(1,.ip [ak 3 c ao]),(3,ab k),(4,.ip [ae x.name,az x.gn,ak 3 x.cm bU])],80,[],[]⟩) zH ?_
 (try change ar _ _ _ _ _)
 cases j1:decide (100<(x.name.length:Int));rotate_left
 ·refine aC j1 ?_;refine cL ?_;exact zo [.tmp 2] (hq:=by rw[hbad (by rw[og,j1];rfl)])
 cases j2:decide (15<(x.cm.length:Int));rotate_left
 ·refine aC (n2 j1 j2) ?_;refine cL ?_;exact zo [.tmp 2] (hq:=by rw[hbad (by rw[og,j1,j2];rfl)])
 have hkx:og x=x.cm.all pL:=by rw[og,j1,j2];rfl
 have hlen2:x.cm.length<=1000000:=by have:=wt j2;omega
 refine aC (n2 j1 j2) ?_;refine iK ?_;refine zs ?_;refine zL x.cm (λk2=>(x.cm.take k2).all pL=true) (λk2=>[(1,.ip [ak 3 c ao]),(3,ab k),(4,.ip [ae x.name,az x.gn,ak 3 x.cm bU]),(5,ab k2)]) (λk2=>[]) zH zp ?_;intro k2 hk2 hall2;by_cases hlt2:k2<x.cm.length;rotate_left
 ·obtain rfl:k2=x.cm.length:=by omega
  rw[aj] at hall2;refine aC (show decide ((x.cm.length:Int)<(x.cm.length:Int))=false by simp) ?_;refine dZ ?_;refine aC (zi hlt hlen) ?_;refine zX hlt zH (k9 hx hall (by rw[hkx,hall2]))
 have hd2:=show decide ((k2:Int)<(x.cm.length:Int))=true by simp only[wr];omega
 obtain⟨y,hx2⟩:∃y,x.cm[k2]?=some y:=⟨x.cm[k2],ad hlt2⟩
 have hbad2:pL y=false->og x=false:=λh=>by rw[hkx];exact x3 (ac hx2) h
 refine aC hd2 ?_;refine eQ ?_
 (repeat refine ar.seq ?_)
 cases j3:decide (100<(y.name.length:Int));rotate_left
 ·refine aC (n4 hlt2 (aG (e:=3) (enc:=bU) (λ_=>rfl) hx2) @bU.eq_1 j3) ?_;refine cL ?_;exact zo [.tmp 2] (hq:=by rw[hbad (hbad2 (by rw[pL,j3];rfl))])
 cases j4:decide (15<(y.kinds.length:Int));rotate_left
 ·refine aC (n5 hlt2 (aG (e:=3) (enc:=bU) (λ_=>rfl) hx2) @bU.eq_1 j3 j4) ?_;refine cL ?_;exact zo [.tmp 2] (hq:=by rw[hbad (hbad2 (by rw[pL,j3,j4];rfl))])
 have hky:pL y=y.kinds.all λn=>!(decide (100<(n.length:Int))):=by rw[pL,j3,j4];rfl
 have hlen3:y.kinds.length<=1000000:=by have:=wt j4;omega
 refine aC (n5 hlt2 (aG (e:=3) (enc:=bU) (λ_=>rfl) hx2) @bU.eq_1 j3 j4) ?_;refine iK ?_;refine zs ?_;refine zL y.kinds (λk3=>((y.kinds.take k3).all λn=>!(decide (100<(n.length:Int))))=true) (λk3=>[(1,.ip [ak 3 c ao]),(3,ab k),(4,.ip [ae x.name,az x.gn,ak 3 x.cm bU]),(5,ab k2),(6,ab k3)]) (λk3=>[]) zH zp ?_;intro k3 hk3 hall3;by_cases hlt3:k3<y.kinds.length;rotate_left
 ·obtain rfl:k3=y.kinds.length:=by omega
  rw[aj] at hall3;refine aC (n4 hlt2 (aG (e:=3) (enc:=bU) (λ_=>rfl) hx2) @bU.eq_1 (show decide ((y.kinds.length:Int)<(y.kinds.length:Int))=false by simp)) ?_;refine dZ ?_;refine aC (zi hlt2 hlen2) ?_;refine zX hlt2 zH (k9 hx2 hall2 (by rw[hky,hall3]))
 have hd3:=show decide ((k3:Int)<(y.kinds.length:Int))=true by simp only[wr];omega
 obtain⟨z,hx3⟩:∃z,y.kinds[k3]?=some z:=⟨y.kinds[k3],ad hlt3⟩;refine aC (n4 hlt2 (aG (e:=3) (enc:=bU) (λ_=>rfl) hx2) @bU.eq_1 hd3) ?_;refine eQ ?_;cases j5:decide (100<(z.length:Int));rotate_left
 ·refine aC (n7 hlt2 (aG (e:=3) (enc:=bU) (λ_=>rfl) hx2) @bU.eq_1 hlt3 (aG (e:=1) (enc:=aA ae) (λ_=>rfl) hx3) @aA.eq_1 j5) ?_;refine cL ?_;exact zo [.tmp 2] (hq:=by rw[hbad (hbad2 (by rw[hky];exact x3 (ac hx3) (by rw[j5];rfl)))])
 refine aC (n7 hlt2 (aG (e:=3) (enc:=bU) (λ_=>rfl) hx2) @bU.eq_1 hlt3 (aG (e:=1) (enc:=aA ae) (λ_=>rfl) hx3) @aA.eq_1 j5) ?_;refine zN ?_;refine aC (zi hlt3 hlen3) ?_;refine zX hlt3 zH (k9 hx3 hall3 (by rw[j5];rfl))
def yC(c:List aP)(dmg:bB):Bool:=Proofs.tl c&&Proofs.FF dmg
def Jm(c:List aP)(dmg:bB)(hf:jE dmg):PC Tryz.prog 13 [.ag (ak 3 c ao::aE dmg),.sl 0 14 [],ab 0] (·=az (Proofs.yC c dmg)):=by
 have hfl:(aE dmg).length=3:=eD dmg;have hft:(aE dmg).take 3=aE dmg:=ap (by rw[hfl];exact bo _);have hfk:=λo:Nat=>bI (o:=o) (aM dmg);have hfn:=λo:Nat=>dm (o:=o) (aM dmg);refine pB 69 Tryz.func13 ?_;refine aC (n2 hfk hfn) ?_;refine ar.fg (Fg.freeze (f':=[(1,.sl 0 14 []),(2,ab 0),(3,.ip (ak 3 c ao::aE dmg))]) 0 rfl (λh=>by cases h) ⟨.inl rfl,.inl rfl,.inr (.ptr rfl (bp.refl (aM dmg)) (a6 _)),trivial⟩) ?_;refine ar.fg (st':=⟨[(1,.sl 0 14 []),(2,ab 0),(3,.ip (ak 3 c ao::aE dmg))],69,[],[]⟩) zH ?_
 (try change ar _ _ _ _ _)
 refine zC ?_;refine zK (Jk c) ?_;cases g1:Proofs.tl c
 ·refine zR ?_;refine cL ?_;exact zo [.tmp 6] (hq:=by rw[Proofs.yC,g1];rfl)
 refine QT (n2 hfl hft) ?_;refine zK (Jj dmg hf) ?_ (hwk:=bp.cons (.ag (bp.refl (aM dmg))) .nil);cases g2:Proofs.FF dmg
 ·refine zR ?_;refine cL ?_;exact zo [.tmp 6] (hq:=by rw[Proofs.yC,g1,g2];rfl)
 refine zR ?_;refine iK ?_;refine zs ?_;refine zL ([]:List bJ) (λk=>True) (λk=>[(1,.sl 0 14 []),(7,ab k)]) (λk=>[]) zH zp ?_;intro k hk hall;obtain rfl:k=0:=Nat.le_zero.1 hk;refine H2 ?_;refine ar.exit ?_;refine zV ?_;exact zo [.tmp 6] (hq:=by rw[Proofs.yC,g1,g2];rfl)
def LK{l:List bJ}(h:pQ l 6=true):l.length<=6/\∀e∈l,pK e=true:=by
 unfold pQ at h;rw[af] at h;have h2:=ww h.2
 have h1:l.length<=6:=by omega
 refine⟨h1,λe he=>?_⟩;have:=oX (n:=l.length) (k:=(6+1:Int).toNat) h.1 (.inr (by show l.length<=7;omega));rw[aj] at this;exact all_eq_true.1 this e he
structure QW (e:bJ):Prop where
 part:∀b∈e.part,b<256
 kind:∀b∈e.kind,b<256
 bN:∀b∈e.bN,b<256
 slot:∀b∈e.slot,b<256
 key:∀b∈e.key,b<256
 value:∀b∈e.value,b<256
def Pf{e:bJ}(h:pK e=true)(hb:QW e):p8 e:=by
 unfold pK at h;simp only[af,wr] at h;exact⟨⟨by omega,hb.part⟩,⟨by omega,hb.kind⟩,⟨by omega,hb.bN⟩,⟨by omega,hb.slot⟩,⟨by omega,hb.key⟩,⟨by omega,hb.value⟩⟩
def FG{l:List bu}{most:Nat}(h:tm l most=true)(hb:∀r∈l,∀e∈r.opts,QW e):l.length<=most/\∀r∈l,ea r/\r.opts.length<=6:=by
 unfold tm at h;split at h
 ·rename_i hm;refine⟨by omega,λr hr=>?_⟩;have h1:=LK (all_eq_true.1 h r hr);exact⟨⟨by omega,λe he=>Pf (h1.2 e he) (hb r hr e he)⟩,h1.1⟩
 ·cases h
def NM{c:List aP}(h:tl c=true)(hb:∀k∈c,(∀b∈k.name,b<256)/\∀s∈k.cm,∀b∈s.name,b<256):jD c:=by
 unfold tl at h;simp only[af,a4,wp,all_eq_true] at h
 have hk:∀k∈c,k.name.length<=100/\k.cm.length<=15/\∀s∈k.cm,s.name.length<=100/\s.kinds.length<=15:=λk hk=>by
  have:=h.2 k hk;unfold og at this;simp only[af,a4,wp,all_eq_true] at this;refine⟨by omega,by omega,λs hs=>?_⟩;have:=this.2.2 s hs;unfold pL at this;simp only[af,a4,wp] at this;omega
 exact⟨by omega,λk h1=>⟨⟨by have:=hk k h1;omega,(hb k h1).1⟩,by have:=hk k h1;omega⟩,λk h1 s hs=>⟨⟨by have:=(hk k h1).2.2 s hs;omega,(hb k h1).2 s hs⟩,by have:=(hk k h1).2.2 s hs;omega⟩⟩
def TG:Co:=⟨[],[],0,0⟩
def rW(c:List aP)(dmg:bB)(ws:List Wy)(l:List bu)(costs:List Co):Bool:=decide ((costs.length:Int)<=6)&&(costs.all (Proofs.oE ws)&&(Proofs.oE ws TG&&(Proofs.yC c dmg&&(Proofs.tm l 15&&decide (sV 81 l 1<=81)))))
set_option maxHeartbeats 2000000 in
def Jo(c:List aP)(dmg:bB)(ws:List Wy)(l:List bu)(costs:List Co)(hf:jE dmg)(hlw:ws.length<=mi)(hw:∀w∈ws,w.kind.length<=mi/\w.cH.length<=mi)(hlc:costs.length<=mi)(hc:∀co∈costs,co.part.length<=mi/\co.owner.length<=mi)(hlen:l.length<=mi)(ho:∀r∈l,r.opts.length<=mi)(hb:∀r∈l,∀e∈r.opts,QW e):
 PC Tryz.prog 6 [.ag (ak 3 c ao::aE dmg),ak 5 ws bK,ak 2 l aD,ak 4 costs cF] (·=az (Proofs.rW c dmg ws l costs)):=by
 have hfl:(aE dmg).length=3:=eD dmg;have hft:(aE dmg).take 3=aE dmg:=ap (by rw[hfl];exact bo _);have hfk:=λo:Nat=>bI (o:=o) (aM dmg);have hfn:=λo:Nat=>dm (o:=o) (aM dmg);refine pB 49 Tryz.func6 ?_;refine aC (n2 hfk hfn) ?_;refine ar.fg (Fg.freeze (f':=[(1,ak 5 ws bK),(2,ak 2 l aD),(3,ak 4 costs cF),(4,.ip (ak 3 c ao::aE dmg)),(8,az false)]) 0 rfl (λh=>by cases h) ⟨.inl rfl,.inl rfl,.inl rfl,.inr (.ptr rfl (bp.refl (aM dmg)) (a6 _)),.inl rfl,trivial⟩) ?_;refine ar.fg (st':=⟨[(1,ak 5 ws bK),(2,ak 2 l aD),(3,ak 4 costs cF),(4,.ip (ak 3 c ao::aE dmg)),(8,az false)],49,[],[]⟩) zH ?_
 (try change ar _ _ _ _ _)
 refine zV ?_;refine zs ?_;refine zL costs (λk=>(costs.take k).all (Proofs.oE ws)=true) (λk=>[(1,ak 5 ws bK),(2,ak 2 l aD),(3,ak 4 costs cF),(4,.ip (ak 3 c ao::aE dmg)),(8,az false),(9,ab k)]) (λk=>[]) zH zp ?_;intro k hk hall;by_cases hgo:k<costs.length/\costs.length<=6
 ·obtain⟨hlt,h6⟩:=hgo
  have hd:=show decide ((k:Int)<(costs.length:Int))=true by simp only[wr];omega
  have hd6:=show decide ((costs.length:Int)<=6)=true by simp only[wr];omega
  obtain⟨x,hx⟩:∃x,costs[k]?=some x:=⟨costs[k],ad hlt⟩
  have hlen6:costs.length<=1000000:=by omega
  have hk:=AA ws x hlw hw (hc x (ac hx));rw[da] at hk;refine aC (n2 hd hd6) ?_;refine eQ ?_;refine gG (n3 hlt (aG (e:=4) (enc:=cF) (λ_=>rfl) hx) @da) ?_;refine zK hk ?_;cases g:Proofs.oE ws x
  ·refine zR ?_;refine cL ?_;exact zo [.tmp 8] (hq:=by rw[Proofs.rW,x3 (ac hx) g,ba,Bool.and_false])
  ·refine zR ?_;refine zN ?_;refine aC (zi hlt hlen6) ?_;refine zX hlt zH (k9 hx hall g)
 have hfin:(costs.length:Int)<=6->costs.all (Proofs.oE ws)=true:=by
  intro h6
  have:k=costs.length:=by
   refine Decidable.byContradiction λhne=>hgo ⟨by omega,by omega⟩
  rw[this,aj] at hall;exact hall
 have hout:decide ((k:Int)<(costs.length:Int))=false\/(decide ((k:Int)<(costs.length:Int))=true/\decide ((costs.length:Int)<=6)=false):=by
  by_cases h:k<costs.length
  ·exact .inr ⟨by simp only[wr];omega,by simp only[wp];intro h6;exact hgo ⟨h,by omega⟩⟩
  ·exact .inl (by simp only[wp];omega)
 have hz:=AA ws TG hlw hw (by constructor<;>decide)
 rcases hout with h1 | ⟨h1,h2⟩
 rotate_left;refine aC (n2 h1 h2) ?_;rotate_left;refine aC h1 ?_
 all_goals
  refine dZ ?_;refine ar.fg (st':=⟨[(1,ak 5 ws bK),(2,ak 2 l aD),(3,ak 4 costs cF),(4,.ip (ak 3 c ao::aE dmg)),(8,az false)],49,[],[]⟩) zH ?_
  (try change ar _ _ _ _ _)
  cases g6:decide ((costs.length:Int)<=6)
  ·refine aC g6 ?_;exact zo [.tmp 8] (hq:=by rw[Proofs.rW,g6];rfl)
  have ga:=hfin (ww g6);refine gG g6 ?_;refine zK hz ?_;cases g1:Proofs.oE ws TG
  ·refine zR ?_;exact zo [.tmp 8] (hq:=by rw[Proofs.rW,g6,ga,g1];rfl)
  refine QT (n2 hfl hft) ?_;refine zK (Jm c dmg hf) ?_ (hwk:=(.cons (.ag (bp.refl (aM dmg))) (.cons (.nil 14) (.cons (.a _) .nil))));cases g2:Proofs.yC c dmg
  ·refine zR ?_;exact zo [.tmp 8] (hq:=by rw[Proofs.rW,g6,ga,g1,g2];rfl)
  refine zQ ?_;refine zK (Jn l 15 hlen ho) ?_;cases g3:Proofs.tm l 15
  ·refine zR ?_;exact zo [.tmp 8] (hq:=by rw[Proofs.rW,g6,ga,g1,g2,g3];rfl)
  have hk:=FG (most:=15) g3 hb;refine zQ ?_;refine zK (HM l 81 (by decide) (λr hr=>(hk.2 r hr).1) (by omega)) ?_;refine zR ?_;exact zo [.tmp 8] (hq:=by rw[Proofs.rW,g6,ga,g1,g2,g3];rfl)
def MK(n:Int):PC Tryz.prog 26 [ab n] (·=az (xp n)):=by
 refine pB 9 Tryz.func26 ?_;unfold xp;cases e1:decide (0<=n)
 ·refine aC e1 ?_;refine aC e1 ?_;exact zo [.tmp 2]
 ·refine aC e1 ?_;refine aC e1 ?_;exact zo [.tmp 2]
def G5(co:Co)(hc:co.fits):PC Tryz.prog 10 [.ag (cF co)] (·=az co.ok):=by
 refine pB 26 Tryz.func10 ?_;unfold Co.ok FV;rw[da];obtain⟨part,owner,day,am⟩:=co;obtain⟨h1,_,h2,_⟩:=hc;simp only at h1 h2 ⊢;refine kD ?_;refine zK (gm part h1) ?_;cases e1:cD part
 ·refine zR ?_;exact zo [.tmp 2]
 refine zQ ?_;refine zK (gm owner h2) ?_;cases e2:cD owner
 ·refine zR ?_;exact zo [.tmp 2]
 cases e3:decide (0<=day)
 ·refine cM e3 ?_;exact zo [.tmp 2]
 cases e4:decide (day<=40000)
 ·refine cM (n2 e3 e4) ?_;exact zo [.tmp 2]
 refine QT (n2 e3 e4) ?_;refine zK (MK am) ?_;refine zR ?_;exact zo [.tmp 2]
structure QU (c:List aP) (dmg:bB) (ws:List Wy) (l:List bu) (costs:List Co):Prop where
 form:jE dmg
 cat:∀k∈c,(∀b∈k.name,b<256)/\∀s∈k.cm,∀b∈s.name,b<256
 wl:ws.length<=mi
 wn:∀w∈ws,w.kind.length<=mi/\w.cH.length<=mi
 wb:∀w∈ws,(∀b∈w.kind,b<256)/\∀b∈w.cH,b<256
 cl:costs.length<=mi
 cn:∀co∈costs,co.part.length<=mi/\co.owner.length<=mi
 cb:∀co∈costs,(∀b∈co.part,b<256)/\∀b∈co.owner,b<256
 ll:l.length<=mi
 lo:∀r∈l,r.opts.length<=mi
 lb:∀r∈l,∀e∈r.opts,QW e
structure Rq (c:List aP) (dmg:bB) (ws:List Wy) (l:List bu) (costs:List Co):Prop where
 cat:jD c
 form:gD dmg
 wl:ws.length<=6
 wf:∀w∈ws,w.fits
 cl:costs.length<=6
 cf:∀co∈costs,co.fits
 ll:l.length<=15
 rep:∀r∈l,ea r
 op:∀r∈l,r.opts.length<=6
def NN{c:List aP}{dmg:bB}{ws:List Wy}{l:List bu}{costs:List Co}(h:rW c dmg ws l costs=true)(ha:QU c dmg ws l costs):Rq c dmg ws l costs:=by
 unfold rW yC at h;simp only[af,wr] at h;obtain⟨h0,h1,h2,⟨h3,h4⟩,h5,_⟩:=h;obtain⟨j1,j2⟩:=FG (most:=15) h5 ha.lb
 have h43:∀{co:Co},oE ws co=true->ws.length<=6/\(∀w∈ws,w.kind.length<=300/\w.cH.length<=300)/\co.part.length<=300/\co.owner.length<=300:=by
  intro co hk;unfold oE at hk;simp only[af,wr,all_eq_true] at hk;refine⟨by omega,λw hw=>?_,by omega,by omega⟩;have:=hk.2.1 w hw;omega
 obtain⟨w1,w2,_⟩:=h43 h2;refine⟨NM h3 ha.cat,NL h4,w1,λw hw=>⟨by have:=w2 w hw;omega,(ha.wb w hw).1,by have:=w2 w hw;omega,(ha.wb w hw).2⟩,by omega,λco hco=>?_,j1,λr hr=>(j2 r hr).1,λr hr=>(j2 r hr).2⟩;obtain⟨_,_,k1,k2⟩:=h43 (all_eq_true.1 h1 co hco);exact⟨by omega,(ha.cb co hco).1,by omega,(ha.cb co hco).2⟩
def Ja{m:c9}(h:(dn m).2≠0):(dn m).1=[]:=by
 unfold dn at h ⊢;split at h
 ·rename_i g;rw[ul g]
 ·exact t8 rfl h
def Mm{c:List aP}{dmg:bB}{ws:List Wy}{l:List bu}{costs:List Co}(h:(lx c dmg ws l costs).2≠0):(lx c dmg ws l costs).1=[]:=by
 unfold lx at h ⊢;split at h
 ·rename_i g;rw[ul g]
 ·rename_i g;rw[un g];exact Ja h
def MD{m:c9}{t:Xf}(h:t∈(dn m).1):t.am<=1000000000000:=by
 unfold dn at h;split at h
 ·cases h
 ·rename_i g;simp only at h;have hm:=(eE _).mem_iff.1 h;unfold iQ at hm;obtain⟨e,he,rfl⟩:=List.mem_map.1 hm;have h1:=(List.mem_filter.1 he).1;simp only[any_eq_true,wr,not_exists,not_and] at g;have:=g e h1;show e.2<=_;omega
def Jc(m:c9):(dn m).1.length<=m.length:=by
 unfold dn;split
 ·exact a6 _
 ·simp only;rw[(eE _).length_eq];unfold iQ;rw[List.length_map];exact List.length_filter_le _ _
structure Rr (ws:List Wy) (costs:List Co) (got:List Xf) (t:Xf):Prop where
 U4:(ws.any λw=>decide (w.cH=t.fr))=true
 ow:(costs.any λco=>decide (co.owner=t.to)&&co.ok)=true
 most:kq t.to got<=jX t.to costs
 am:1<=t.am
def Cs{c:List aP}{dmg:bB}{ws:List Wy}{l:List bu}{costs:List Co}{t:Xf}(ht:t∈(lx c dmg ws l costs).1):Rr ws costs (lx c dmg ws l costs).1 t:=by
 unfold lx at ht ⊢;split at ht
 ·cases ht
 ·rename_i g;rw[un g];obtain⟨⟨w,hw,e1⟩,⟨co,hco,e2,e3⟩,h3,h4⟩:=Ps c dmg ws l costs ht;exact⟨any_eq_true.2 ⟨w,hw,wd e1⟩,any_eq_true.2 ⟨co,hco,by rw[wd e2,e3];rfl⟩,h3,h4⟩
def OE{c:List aP}{dmg:bB}{ws:List Wy}{l:List bu}{costs:List Co}(hl:costs.length<=6):(lx c dmg ws l costs).1.length<=12/\∀t∈(lx c dmg ws l costs).1,0<=t.am/\t.am<=1000000000000:=by
 refine⟨?_,λt ht=>⟨by have:=(Cs ht).am;omega,?_⟩⟩
 ·unfold lx;split
  ·exact a6 _
  ·have h1:=Jc (gy c dmg ws l costs []);have h2:=vG c dmg ws l costs [];simp only[List.length_nil,b0] at h2;omega
 ·unfold lx at ht;split at ht
  ·cases ht
  ·exact MD ht
def LN(to:List Nat)(l:List Xf)(t:Xf):kq to (l++[t])=if t.to=to then kq to l+t.am else kq to l:=by
 unfold kq;rw[bc,bt,bv];by_cases h:t.to=to<;>simp[h]
def Ma(to:List Nat)(l:List Co)(co:Co):jX to (l++[co])=if (decide (co.owner=to)&&co.ok)=true then jX to l+co.am else jX to l:=by
 unfold jX;rw[bc,bt,bv];cases h:(decide (co.owner=to)&&co.ok)<;>simp[a7,h]
def E0{α:Type}{p:α->Bool}{l:List α}{k:Nat}{x:α}(hx:l[k]?=some x):(l.take (k+1)).any p=((l.take k).any p||p x):=by
 rw[br hx,List.any_append];simp
def FP(to:List Nat):∀(l:List Xf),(∀t∈l,0<=t.am/\t.am<=1000000000000)->0<=kq to l/\kq to l<=l.length*1000000000000
 | [],_=>⟨a5 0,a5 0⟩
 | t::l,h=>by
  have ih:=FP to l λx hx=>h x (ax _ hx);have ht:=h t ay;unfold kq at ih ⊢;rw[a7,al];split
  ·rw[bx,bE];omega
  ·omega
def Gd(to:List Nat):∀(l:List Co),0<=jX to l/\jX to l<=l.length*1000000000000
 | []=>⟨a5 0,a5 0⟩
 | co::l=>by
  have ih:=Gd to l;unfold jX at ih ⊢;rw[a7,al];split
  ·rename_i hh;have:=KF (co:=co) (by rw[af] at hh;exact hh.2);rw[bx,bE];omega
  ·omega
abbrev Tt(ws:List Wy)(costs:List Co)(got:List Xf)(k:Nat):Fm:=[(1,ak 5 ws bK),(3,ak 4 costs cF),(9,az true),(10,ak 3 got bj),(12,ab k)]
set_option maxHeartbeats 4000000 in
def xG(c:List aP)(dmg:bB)(ws:List Wy)(l:List bu)(costs:List Co)(ha:QU c dmg ws l costs):
 PC Tryz.prog 4 [.ag (ak 3 c ao::aE dmg),ak 5 ws bK,ak 2 l aD,ak 4 costs cF] (·=az true):=by
 have hfl:(aE dmg).length=3:=eD dmg;have hft:(aE dmg).take 3=aE dmg:=ap (by rw[hfl];exact bo _);have hfk:=λo:Nat=>bI (o:=o) (aM dmg);have hfn:=λo:Nat=>dm (o:=o) (aM dmg);refine pB 145 Tryz.func4 ?_;refine aC (n2 hfk hfn) ?_;refine ar.fg (Fg.freeze (f':=[(1,ak 5 ws bK),(2,ak 2 l aD),(3,ak 4 costs cF),(4,.ip (ak 3 c ao::aE dmg))]) 0 rfl (λh=>by cases h) ⟨.inl rfl,.inl rfl,.inl rfl,.inr (.ptr rfl (bp.refl (aM dmg)) (a6 _)),trivial⟩) ?_;refine ar.fg (st':=⟨[(1,ak 5 ws bK),(2,ak 2 l aD),(3,ak 4 costs cF),(4,.ip (ak 3 c ao::aE dmg))],145,[],[]⟩) zH ?_
 (try change ar _ _ _ _ _)
 refine zC ?_;refine zK Hb ?_;refine zR ?_;refine gG (n2 hfl hft) ?_;refine zK (Jo c dmg ws l costs ha.form ha.wl ha.wn ha.cl ha.cn ha.ll ha.lo ha.lb) ?_ (hwk:=(.cons (.ag (bp.refl (aM dmg))) (bp.refl rfl)));cases hfw:Proofs.rW c dmg ws l costs
 ·refine zR ?_;refine cL ?_;exact zo [.tmp 8]
 obtain⟨hcat,hform,hlw6,hwf,hlc6,hcf,hl15,hrep,hop⟩:=NN hfw ha;clear ha hfw;refine zR ?_;refine zN ?_;have how:=AP sT c dmg ws l costs hcat hform hwf hcf (by omega) hrep (λr hr=>by have:=hop r hr;omega) (by omega) (by omega);have hwh:=λt=>Cs (c:=c) (dmg:=dmg) (ws:=ws) (l:=l) (costs:=costs) (t:=t);have hbn:=OE (c:=c) (dmg:=dmg) (ws:=ws) (l:=l) hlc6;have her:=Mm (c:=c) (dmg:=dmg) (ws:=ws) (l:=l) (costs:=costs);unfold Li at how;generalize lx c dmg ws l costs=r at how hwh hbn her;obtain⟨got,code⟩:=r;simp only at how hwh hbn her;refine gG (n2 hfl hft) ?_;refine zK how ?_ (hwk:=(.cons (.ag (bp.refl (aM dmg))) (bp.refl rfl))) (hfl:=.inr (.cons (.ag (bp.refl (aM dmg))) (bp.refl rfl)));refine zR ?_;cases h0:decide (code=0)
 ·have hnil:=her (wt h0);subst hnil;refine aC h0 ?_;refine zY ?_;refine aC (n2 @ak.eq_1 @List.length_nil.{0}) ?_;exact zo [.tmp 8]
 refine aC h0 ?_;refine iK ?_;obtain⟨hg12,hgam⟩:=hbn;clear her how
 have hleng:got.length<=1000000:=by omega
 have hlenw:ws.length<=1000000:=by omega
 have hlenc:costs.length<=1000000:=by omega
 refine zs ?_;refine zL got (λk=>True) (λk=>Tt ws costs got k) (λk=>[]) zH zp ?_;intro k hk hall;refine zT got k ?_ ?_;rintro rfl;rotate_left;intro t hx hlt;rotate_left
 ·refine dZ ?_;refine zV ?_;exact zo [.tmp 8]
 refine eQ ?_;obtain⟨hmk,how,hmo,h1am⟩:=hwh t (ac hx);refine lC ?_;refine zs ?_;refine zL ws (λk2=>True) (λk2=>(13,az ((ws.take k2).any λw=>decide (w.cH=t.fr)))::(14,ab k2)::Tt ws costs got k) (λk2=>[]) (Fg.less (by (simp only[bP,bg,dr,↓reduceIte,be,ak,take_zero,a9])<;>(repeat' apply bs)<;>first | rfl | trivial) (by (simp only[bP,bg,or_true,true_or,ak,take_zero,a9])<;>(repeat' apply bs)<;>first | exact .inr rfl | exact .inl rfl | trivial)) zp ?_;intro k2 hk2 hall2;refine zT ws k2 ?_ ?_;rintro rfl;rotate_left;intro w hx2 hlt2;rotate_left
 ·refine dZ ?_;rw[aj,hmk];refine lC ?_;refine zs ?_;refine zL costs (λk2=>True) (λk2=>(15,ab (jX t.to (costs.take k2)))::(16,az ((costs.take k2).any λco=>decide (co.owner=t.to)&&co.ok))::(17,ab k2)::(13,az true)::Tt ws costs got k) (λk2=>[]) (Fg.less (by (simp only[bP,bg,dr,↓reduceIte,be,ak,take_zero,a9,show jX t.to []=0 from rfl])<;>(repeat' apply bs)<;>first | rfl | trivial) (by (simp only[bP,bg,or_true,true_or,ak,take_zero,a9,show jX t.to []=0 from rfl])<;>(repeat' apply bs)<;>first | exact .inr rfl | exact .inl rfl | trivial)) zp ?_;intro k2 hk2 hall2;refine zT costs k2 ?_ ?_;rintro rfl;rotate_left;intro co hx2 hlt2;rotate_left
  ·refine dZ ?_;rw[aj,how];refine lC ?_;refine zs ?_;refine zL got (λk2=>True) (λk2=>(18,ab (kq t.to (got.take k2)))::(19,ab k2)::(15,ab (jX t.to costs))::(16,az true)::(13,az true)::Tt ws costs got k) (λk2=>[]) (bL (n2 @take_zero.{0} (show kq t.to []=0 from rfl))) zp ?_;intro k2 hk2 hall2;refine zT got k2 ?_ ?_;rintro rfl;rotate_left;intro y hx2 hlt2;rotate_left
   ·refine dZ ?_;rw[aj];refine aC (n5 hlt (aG (e:=3) (enc:=bj) (λ_=>rfl) hx) @bj.eq_1 (show decide (jX t.to costs<kq t.to got)=false by simp only[wp];omega) (show decide (t.am<1)=false by simp only[wp];omega)) ?_;refine zN ?_;refine aC (zi hlt hleng) ?_;refine zX hlt zH trivial
   refine eQ ?_
   (repeat refine ar.seq ?_)
   have hsn:=LN t.to (got.take k2) y;rw[<-br hx2] at hsn;have hya:=hgam y (ac hx2);have hgb:=FP t.to (got.take k2) λx hx=>hgam x (List.mem_of_mem_take hx)
   have hgl:(got.take k2).length<=12:=by rw[bi];omega
   generalize kq t.to (got.take k2)=sm at hsn hgb;cases e1:decide (y.to=t.to)
   ·rw[un (wt e1)] at hsn;refine zs ?_;refine oz [0,0,3,7,15,0,0,96,224,480,1023] ?_;refine ni (n6 hlt hlt2 (aG (e:=3) (enc:=bj) (λ_=>rfl) hx2) (aG (e:=3) (enc:=bj) (λ_=>rfl) hx) @bj.eq_1 e1) ?_;refine zM ?_;refine zN ?_;refine aC (zi hlt2 hleng) ?_;refine zX hlt2 (bL hsn) trivial
   ·rw[ul (ww e1)] at hsn;refine zs ?_;refine oz [0,0,3,7,15,0,0,96,224,480,1023] ?_;refine ni (n6 hlt hlt2 (aG (e:=3) (enc:=bj) (λ_=>rfl) hx2) (aG (e:=3) (enc:=bj) (λ_=>rfl) hx) @bj.eq_1 e1) ?_;refine zM ?_;refine zY ?_;refine aC (n4 hlt2 (aG (e:=3) (enc:=bj) (λ_=>rfl) hx2) @bj.eq_1 (p9 (P:=Tryz.prog) (t:=3) (show -9223372036854775808<=sm+y.am/\sm+y.am<=9223372036854775807 from⟨by omega,by omega⟩))) ?_;refine aC (zi hlt2 hleng) ?_;refine zX hlt2 (bL hsn) trivial
  refine eQ ?_
  (repeat refine ar.seq ?_)
  have hsn:=Ma t.to (costs.take k2) co;rw[<-br hx2] at hsn;have han:=E0 (p:=λco:Co=>decide (co.owner=t.to)&&co.ok) hx2;have hgb:=Gd t.to (costs.take k2)
  have hgl:(costs.take k2).length<=6:=by rw[bi];omega
  generalize jX t.to (costs.take k2)=sm at hsn hgb;generalize ((costs.take k2).any λco=>decide (co.owner=t.to)&&co.ok)=aa at han;cases e1:decide (co.owner=t.to)
  ·rw[e1,ba,un bb] at hsn;rw[e1,ba,bw] at han;refine zs ?_;refine oz [0,0,3,7,15,0,0,96,224,480,1023,2047,4095,4095,16383,32767,65535,131071] ?_;refine ni (n7 hlt hlt2 (aG (e:=4) (enc:=cF) (λ_=>rfl) hx2) (aG (e:=3) (enc:=bj) (λ_=>rfl) hx) @bj.eq_1 @da e1) ?_;refine zM ?_;refine zN ?_;refine aC (zi hlt2 hlenc) ?_;refine zX hlt2 (bL (n2 hsn han)) trivial
  rw[e1,Bool.true_and] at hsn han;have hcc:=G5 co (hcf co (ac hx2));rw[da] at hcc;cases e2:co.ok
  ·rw[e2] at hsn han hcc;rw[un bb] at hsn;rw[bw] at han;refine zs ?_;refine oz [0,0,3,7,15,0,0,96,224,480,1023,2047,4095,4095,16383,32767,65535,131071] ?_;refine ni (n7 hlt hlt2 (aG (e:=4) (enc:=cF) (λ_=>rfl) hx2) (aG (e:=3) (enc:=bj) (λ_=>rfl) hx) @bj.eq_1 @da e1) ?_;refine SD.k (by rfl) rfl rfl (by rfl) rfl rfl zc (hcc) (zw) rfl ?_;refine zD ?_;refine zM ?_;refine zN ?_;refine aC (zi hlt2 hlenc) ?_;refine zX hlt2 (bL (n2 hsn han)) trivial
  ·have hca:=KF e2;rw[e2] at hsn han hcc;rw[ul rfl] at hsn;rw[Bool.or_true] at han;refine zs ?_;refine oz [0,0,3,7,15,0,0,96,224,480,1023,2047,4095,4095,16383,32767,65535,131071] ?_;refine ni (n7 hlt hlt2 (aG (e:=4) (enc:=cF) (λ_=>rfl) hx2) (aG (e:=3) (enc:=bj) (λ_=>rfl) hx) @bj.eq_1 @da e1) ?_;refine SD.k (by rfl) rfl rfl (by rfl) rfl rfl zc (hcc) (zw) rfl ?_;refine zD ?_;refine zM ?_;refine zY ?_;refine aC (n4 hlt2 (aG (e:=4) (enc:=cF) (λ_=>rfl) hx2) @da (p9 (P:=Tryz.prog) (t:=3) (show -9223372036854775808<=sm+co.am/\sm+co.am<=9223372036854775807 from⟨by omega,by omega⟩))) ?_;refine zV ?_;refine aC (zi hlt2 hlenc) ?_;refine zX hlt2 (bL (n2 hsn han)) trivial
 refine eQ ?_
 (repeat refine ar.seq ?_)
 have han:=E0 (p:=λw:Wy=>decide (w.cH=t.fr)) hx2;generalize ((ws.take k2).any λw=>decide (w.cH=t.fr))=aa at han;cases aa
 ·rw[Bool.false_or] at han;cases e1:decide (w.cH=t.fr)
  ·rw[e1] at han;refine zs ?_;refine oz [0,1,3,3,15,31,63,3,3,387,899,1923,4095,8191,16383] ?_;refine ni (n7 hlt hlt2 (aG (e:=5) (enc:=bK) (λ_=>rfl) hx2) (aG (e:=3) (enc:=bj) (λ_=>rfl) hx) @bj.eq_1 @iZ e1) ?_;refine zM ?_;refine aC (zi hlt2 hlenw) ?_;refine zX hlt2 (bL han) trivial
  ·rw[e1] at han;refine zs ?_;refine oz [0,1,3,3,15,31,63,3,3,387,899,1923,4095,8191,16383] ?_;refine ni (n7 hlt hlt2 (aG (e:=5) (enc:=bK) (λ_=>rfl) hx2) (aG (e:=3) (enc:=bj) (λ_=>rfl) hx) @bj.eq_1 @iZ e1) ?_;refine zM ?_;refine aC (zi hlt2 hlenw) ?_;refine zX hlt2 (bL han) trivial
 ·rw[Bool.true_or] at han;refine zs ?_;refine oz [0,1,3,3,15,31,63,3,3,387,899,1923,4095,8191,16383] ?_;refine zD ?_;refine zM ?_;refine aC (zi hlt2 hlenw) ?_;refine zX hlt2 (bL han) trivial
end Go.Proofs
namespace Go.Ev
open Go.RowKit Go.ChangeShapes Go.WideShapes Go.Deep
noncomputable section
mutual
def LD:DV->SV
 | .fl a=>.a a
 | .sl _ n e cs=>.sl n e (gN cs)
 | .ag cs=>.ag (gN cs)
def gN:List DV->List SV
 | []=>[]
 | d::ds=>LD d::gN ds
end
def FD:∀a b:List DV,gN (a++b)=gN a++gN b
 | [],b=>rfl
 | d::a,b=>by rw[bh,gN,gN,FD a b,bh]
def I1(h:H):kg:=λid=>if id<h.next then h.aR.get id else none
def QF(h:H):M7 (I1 h) h:=by
 intro id ob hi;unfold I1 at hi;split at hi
 ·rename_i hl;exact⟨hl,hi⟩
 ·cases hi
def OS{h:H}{id:Nat}{row:List AV}(hl:id<h.next)(hr:rT h.aR id=some row):pJ (I1 h) id=some row:=by
 unfold pJ I1;rw[ul hl];unfold rT at hr
 cases hg:h.aR.get id with
 | none=>rw[hg] at hr;cases hr
 | some o=>
  rw[hg] at hr
  cases o<;>first | exact hr | cases hr
mutual
def Dp.gs{s:Bool}{h:H}:∀{d:DV} {a:AV},Dp s h d a->GS (I1 h) (LD d) a
 | .fl a0,a,hd=>by
  rw[Sq] at hd;rw[LD,GS];exact hd.1
 | .sl nl n e cs,a,hd=>by
  rw[J5] at hd;rw[LD,GS]
  rcases hd with⟨h1,h2,⟨o,e',c,h3,h4,h5⟩,_⟩ | ⟨_,id,off,cap,row,aS,e1,h1,h2,h3,h4,h5⟩
  ·subst h2;exact .inl ⟨h1,by rw[gN],o,e',c,by rw[h3],h4,h5⟩
  ·exact .inr ⟨id,off,cap,row,e1,OS h1 h2,h3,by rw[<-h4];exact ES.gs h5⟩
 | .ag cs,a,hd=>by
  rw[Sp] at hd;obtain⟨aS,e1,h1⟩:=hd;rw[LD,GS];exact⟨aS,e1,ES.gs h1⟩
def ES.gs{s:Bool}{h:H}:∀{ds:List DV} {aS:List AV},ES s h ds aS->ki (I1 h) (gN ds) aS
 | [],aS,hd=>by rw[PD] at hd;rw[gN,ki];exact hd
 | d::ds,aS,hd=>by
  rw[MZ] at hd;obtain⟨a,r,e1,h1,h2⟩:=hd;rw[gN,ki];exact⟨a,r,e1,Dp.gs h1,ES.gs h2⟩
end
def RF{P:Program}(hng:sY P){f:FuncId}{fn:Func}(hf:P.funcs[f]?=some fn)(hb:fn.body.isSome=true){w:World}{ds:List DV}{args':Array Value}(hw:nr w ds args'.toList)
 (hc:PC P f (gN ds) (·=.a (.bool true))):Calls P f args' w λe w'=>e=.returned (.bool true)/\Below w.heap.size w w':=by
 obtain⟨σ,k1,k2⟩:=hw.lay;have hd:=nr.dp (rows:=(eR ds 0).2) hw 0 (λi r hr=>by rw[b0];exact hr);have hfine:=hc (I1 _) _ _ (QF _) hd.gs σ w args' k1 k2;rw[eb hng hf hb] at hfine;refine Calls.mono hfine λe w' ⟨x,he,a,h',⟨r,ρ',hr,_,_,hg⟩,σ',hV,hr',hE⟩=>?_;subst hr;rw[GS] at hg;subst hg;cases hV;exact⟨he,Ip hE⟩
end
end Go.Ev
namespace Go.Proofs
open Go.Ev
set_option maxRecDepth 100000
abbrev i6:Ty:=.int .i64
def Rv:List Ty:=[i6,i6,.str,.str,.str,.str,.str,.str,.st [.st [i6,i6],.st [i6,i6],.st [i6,i6]]]
def I4:List Ty:=[.str,.sl .str,i6]
def vz:List Ty:=[.str,.bool,.sl (.st I4)]
def Cx:List Ty:=[.sl (.st Rv),.bool]
def MT:List Ty:=[.str,.str,i6,i6,i6]
def Lw:List Ty:=[.str,.str,i6,i6]
def oK:Nat->Ty
 | 0=>.no 3
 | 1=>.st [.no 1,.no 1,.no 1]
 | j+2=>.st [i6,i6,.sl (oK j)]
def sB:∀j,(oK j).size=3
 | 0=>rfl
 | 1=>rfl
 | j+2=>rfl
def uo{α:Type}(enc:α->List SV)(ok:α->Prop):∀{rows:List (List DV)},(∀r∈rows,∃x,gN r=enc x/\ok x)->∃xs:List α,xs.length=rows.length/\gN rows.flatten=xs.flatMap enc/\∀x∈xs,ok x
 | [],_=>⟨[],rfl,rfl,λx hx=>by cases hx⟩
 | r::rows,h=>by
  obtain⟨x,h1,h2⟩:=h r ay;obtain⟨xs,h3,h4,h5⟩:=uo enc ok (rows:=rows) λq hq=>h q (ax _ hq);refine⟨x::xs,by rw[al,al,h3],by rw[List.flatten_cons,FD,h1,h4,List.flatMap_cons],λy hy=>?_⟩
  rcases List.mem_cons.1 hy with rfl | hy
  ·exact h2
  ·exact h5 y hy
def wm{α:Type}{enc:α->List SV}{nl:Bool}{e:Nat}{rows:List (List DV)}{xs:List α}(h1:xs.length=rows.length)(h2:gN rows.flatten=xs.flatMap enc):LD (.sl nl rows.length e rows.flatten)=ak e xs enc:=by
 rw[LD,h2,ak,h1]
section
variable {B:Nat} {ds:List DV}
def SA(hk:eV B Rv ds):∃e:bJ,gN ds=aF e/\QW e:=by
 unfold Rv at hk;obtain⟨a1,r,rfl,_,hk⟩:=ew hk;obtain⟨a2,r,rfl,_,hk⟩:=ew hk;obtain⟨s1,r,rfl,b1,_,hk⟩:=gx hk;obtain⟨s2,r,rfl,b2,_,hk⟩:=gx hk;obtain⟨s3,r,rfl,b3,_,hk⟩:=gx hk;obtain⟨s4,r,rfl,b4,_,hk⟩:=gx hk;obtain⟨s5,r,rfl,b5,_,hk⟩:=gx hk;obtain⟨s6,r,rfl,b6,_,hk⟩:=gx hk;have hk:eV B [.st [i6,i6],.st [i6,i6],.st [i6,i6]] r:=tR hk;have hk:eV B [i6,i6,.st [i6,i6],.st [i6,i6]] r:=tR hk;obtain⟨u1,r,rfl,_,hk⟩:=ew hk;obtain⟨u2,r,rfl,_,hk⟩:=ew hk;have hk:eV B [i6,i6,.st [i6,i6]] r:=tR hk;obtain⟨u3,r,rfl,_,hk⟩:=ew hk;obtain⟨u4,r,rfl,_,hk⟩:=ew hk;have hk:eV B [i6,i6] r:=tR hk;obtain⟨u5,r,rfl,_,hk⟩:=ew hk;obtain⟨u6,r,rfl,_,hk⟩:=ew hk;have:=mR hk;subst this;exact⟨⟨a1,a2,s1,s2,s3,s4,s5,s6,u1,u2,u3,u4,u5,u6⟩,by simp only[gN,LD,aF],⟨b1,b2,b3,b4,b5,b6⟩⟩
def RU(hk:nJ B .str ds):∃s:List Nat,gN ds=aA ae s/\∀b∈s,b<256:=by
 rw[nJ] at hk;obtain⟨s,rfl,h1,_⟩:=hk;exact⟨s,by simp only[gN,LD,aA],h1⟩
def QK(hk:eV B I4 ds):∃s:lP,gN ds=bU s/\∀b∈s.name,b<256:=by
 unfold I4 at hk;obtain⟨s1,r,rfl,b1,_,hk⟩:=gx hk;obtain⟨nl,rows,r,rfl,_,hr,hk⟩:=tQ hk;obtain⟨a2,r,rfl,_,hk⟩:=ew hk;have:=mR hk;subst this;obtain⟨xs,h1,h2,_⟩:=uo (aA ae) (λs=>∀b∈s,b<256) λr hrr=>RU (hr r hrr);exact⟨⟨s1,xs,a2⟩,by simp only[gN,wm h1 h2,bU];rfl,b1⟩
def P9(hk:eV B vz ds):∃k:aP,gN ds=ao k/\((∀b∈k.name,b<256)/\∀s∈k.cm,∀b∈s.name,b<256):=by
 unfold vz at hk;obtain⟨s1,r,rfl,b1,_,hk⟩:=gx hk;obtain⟨v,r,rfl,hk2⟩:=Cq hk;obtain⟨nl,rows,r,rfl,_,hr,hk⟩:=tQ hk2;have:=mR hk;subst this;obtain⟨xs,h1,h2,h3⟩:=uo bU (λs=>∀b∈s.name,b<256) λr hrr=>QK (by have:=hr r hrr;rw[nJ] at this;exact this);exact⟨⟨s1,v,xs⟩,by simp only[gN,wm h1 h2,ao];rfl,b1,h3⟩
def RN(hB:B<=mi)(hk:eV B Cx ds):∃r:bu,gN ds=aD r/\(r.opts.length<=mi/\∀e∈r.opts,QW e):=by
 unfold Cx at hk;obtain⟨nl,rows,r,rfl,hl,hr,hk⟩:=tQ hk;obtain⟨v,r,rfl,hk2⟩:=Cq hk;have:=mR hk2;subst this;obtain⟨xs,h1,h2,h3⟩:=uo aF QW λr hrr=>SA (by have:=hr r hrr;rw[nJ] at this;exact this);exact⟨⟨xs,v⟩,by simp only[gN,wm h1 h2,aD];rfl,by show xs.length<=mi;omega,h3⟩
def R6(hB:B<=mi)(hk:eV B MT ds):∃w:Wy,gN ds=bK w/\((w.kind.length<=mi/\w.cH.length<=mi)/\((∀b∈w.kind,b<256)/\∀b∈w.cH,b<256)):=by
 unfold MT at hk;obtain⟨s1,r,rfl,b1,l1,hk⟩:=gx hk;obtain⟨s2,r,rfl,b2,l2,hk⟩:=gx hk;obtain⟨a1,r,rfl,_,hk⟩:=ew hk;obtain⟨a2,r,rfl,_,hk⟩:=ew hk;obtain⟨a3,r,rfl,_,hk⟩:=ew hk;have:=mR hk;subst this;exact⟨⟨s1,s2,a1,a2,a3⟩,by simp only[gN,LD,iZ],⟨by show s1.length<=mi;omega,by show s2.length<=mi;omega⟩,b1,b2⟩
def Rt(hB:B<=mi)(hk:eV B Lw ds):∃w:Co,gN ds=cF w/\((w.part.length<=mi/\w.owner.length<=mi)/\((∀b∈w.part,b<256)/\∀b∈w.owner,b<256)):=by
 unfold Lw at hk;obtain⟨s1,r,rfl,b1,l1,hk⟩:=gx hk;obtain⟨s2,r,rfl,b2,l2,hk⟩:=gx hk;obtain⟨a1,r,rfl,_,hk⟩:=ew hk;obtain⟨a2,r,rfl,_,hk⟩:=ew hk;have:=mR hk;subst this;exact⟨⟨s1,s2,a1,a2⟩,by simp only[gN,LD,da],⟨by show s1.length<=mi;omega,by show s2.length<=mi;omega⟩,b1,b2⟩
def NR(hB:B<=mi):∀(j:Nat) {ds:List DV},nJ B (oK j) ds->∃f:bB,gN ds=aE f/\jE f
 | 0,ds,h=>by
  rw[oK,nJ] at h;exact h.elim
 | 1,ds,h=>by
  rw[oK,nJ,eV] at h;obtain⟨_,_,_,h,_⟩:=h;rw[nJ] at h;exact h.elim
 | j+2,ds,h=>by
  rw[oK,nJ] at h;obtain⟨a1,r,rfl,_,hk⟩:=ew h;obtain⟨a2,r,rfl,_,hk⟩:=ew hk;obtain⟨nl,rows,r,rfl,hl,hr,hk⟩:=tQ hk;have:=mR hk;subst this;obtain⟨xs,h1,h2,h3⟩:=uo aE jE λr hrr=>NR hB j (hr r hrr);refine⟨.mk a1 a2 xs,?_,.mk (by omega) h3⟩;rw[dD,sB];simp only[gN,LD,wm h1 h2,h2,h1]
end
def Pd{B:Nat}(hB:B<=mi){j:Nat}{ds:List DV}(hk:eV B [.st [.sl (.st vz)],oK j] ds):∃(c:List aP) (f:bB),gN ds=ak 3 c ao::aE f/\jE f/\∀k∈c,(∀b∈k.name,b<256)/\∀s∈k.cm,∀b∈s.name,b<256:=by
 have hk:eV B [.sl (.st vz),oK j] ds:=tR hk;obtain⟨nl,rows,r,rfl,hl,hr,hk⟩:=tQ hk;rw[eV] at hk;obtain⟨d1,d2,rfl,h1,h2⟩:=hk;rw[eV] at h2;subst h2;obtain⟨f,h3,h4⟩:=NR hB j h1;obtain⟨xs,k1,k2,k3⟩:=uo ao (λk=>(∀b∈k.name,b<256)/\∀s∈k.cm,∀b∈s.name,b<256) λr hrr=>P9 (by have:=hr r hrr;rw[nJ] at this;exact this);exact⟨xs,f,by rw[gN,wm k1 k2,List.append_nil,h3];rfl,h4,k3⟩
end Go.Proofs
