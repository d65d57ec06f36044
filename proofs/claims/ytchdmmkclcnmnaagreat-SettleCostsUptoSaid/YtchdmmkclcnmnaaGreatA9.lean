/- Lemmas of this claim, each with its conditions. -/
import Derived.Test.YtchdmmkclcnmnaaGreatA8
import Derived.Test.YtchdmmkclcnmnaaGreatA5
import Derived.Test.YtchdmmkclcnmnaaGreatA4
import Derived.Test.YtchdmmkclcnmnaaGreatA3
import Derived.Test.YtchdmmkclcnmnaaGreatA2
import Derived.Ground.GgsProg
import Derived.Shelf.GgSortFunc.Tiny
import Derived.Shelf.SlSortFuncK.WholeK
import Derived.Test.YtchdmmkclcnmnaaGreatProg
import Derived.WalkKit
import Derived.WalkSpells
import Derived.WalkLawsBesides
import Derived.Deep.QuietTactic
import Derived.BigQuiet
set_option linter.all false
set_option maxHeartbeats 8000000
open Go.Proofs.Tryz (prog t45 func56)
open List (mem_cons all_eq_true length_eq_zero_iff nil_append mem_singleton mem_map take_zero any_eq_true mem_append mem_filter pairwise_cons set_cons_zero)
open Bool (eq_false_iff)
open Int (ofNat)
open Nat renaming reduceEqDiff -> ac, reduceLeDiff -> ad, le_refl -> af, reduceAdd -> ap, reduceMul -> ax, reduceLT -> ay, pos_of_ne_zero -> bh, sub_zero -> cd, zero_le -> ce, not_lt_zero -> d8, zero_add -> eP, zero_mul -> e5, reduceSub -> fd, lt_succ_self -> gd, add_zero -> hD
open List renaming getElem?_eq_getElem -> aj, length_append -> bc, mem_of_getElem? -> bd, mem_cons_of_mem -> be, mem_cons_self -> bi, map_cons -> bk, take_of_length_le -> bt, length_cons -> bw, take_length -> b7, length_map -> b8, sum_cons -> ca, map_append -> cc, append_nil -> ch, getElem?_map -> ck, length_nil -> cp, drop_of_length_le -> ct, flatMap_append -> dc, not_mem_nil -> dd, nodup_nil -> dl, getElem?_take -> dt, getElem?_eq_none -> dv, mem_map_of_mem -> el, perm_ext_iff_of_nodup -> em, sum_append -> er, cons_append -> fm, length_drop -> fo, mem_append_right -> fu, mem_iff_getElem? -> fw, sizeOf_lt_of_mem -> fx, foldl_cons -> f4, mem_append_left -> f5, nodup_cons -> f7, flatMap_cons -> f9, foldl_append -> gc, all_flatMap -> go, length_take -> gt, all_append -> g7, range -> g8
open Option renaming bind_some -> ba, map_some -> bb
open And renaming intro -> b0
open Bool renaming and_eq_true -> b9, not_eq_true' -> e6, true_and -> fs, and_true -> g9
open Array renaming getElem?_eq_getElem -> cv, getElem?_modify -> fy, getElem?_toList -> f3, length_toList -> f8
open Int renaming le_refl -> c4
open Go.Proofs.Tryz renaming func57 -> ge, ntmps57 -> gv
namespace Go.Proofs
open Go.Ev
set_option maxRecDepth 100000
def Xf.av(t:Xf):List AV:=[.str t.fr,.str t.to,.int .i64 t.am]
def Xf.eq(a b:Xf):gW gj a.av b.av=decide (a=b):=by
 obtain⟨a1,a2,a3⟩:=a;obtain⟨b1,b2,b3⟩:=b;simp only[Xf.av,gW,gj,Aj,zu,mS,fs,g9,Xf.mk.injEq,Bool.decide_and]
def N7(a b:Xf):cS prog .neq 45 (.agg [.str a.fr,.str a.to,.int .i64 a.am]) (.agg [.str b.fr,.str b.to,.int .i64 b.am])=some (.bool (!(decide (a=b)))):=
 Rg (F7 (ks:=[.s,.s,.i .i64]) (by kernel_rfl) (by kernel_rfl) (by simp only[an,bb]) rfl rfl (Xf.eq a b))
def lh(a b:List Xf)(ha:a.length<=1000000):PC prog 8 [ah 3 a aC,ah 3 b aC] (·=au (decide (a=b))):=by
 refine pB 26 Tryz.func8 ?_;refine(zV) ?_;cases g:decide ((a.length:Int)=b.length)
 ·exact(az g)<|(cM)<|zo [.tmp 4] (hq:=by rw[un (λh=>wt g (by rw[h]))])
 refine(az g)<|(iY) ?_
 have hl:a.length=b.length:=ofNat.inj (ww g);refine(zs) ?_;refine zL a (λk=>a.take k=b.take k) (λk=>[(0,ah 3 a aC),(1,ah 3 b aC),(5,aa k)]) (λk=>[]) zH zp ?_;intro k hk hall;by_cases hlt:k<a.length;rotate_left
 ·obtain rfl:k=a.length:=by omega
  rw[b7,hl,b7] at hall
  exact(az (show decide ((a.length:Int)<(a.length:Int))=false by simp))<|(eN)<|(zV)<|zo [.tmp 4] (hq:=by rw[ut hall])
 have hd:=show decide ((k:Int)<(a.length:Int))=true by simp only[wp];omega
 obtain⟨x,hx⟩:∃x,a[k]?=some x:=⟨a[k],aj hlt⟩
 have hlt2:k<b.length:=by omega
 obtain⟨y,hy⟩:∃y,b[k]?=some y:=⟨b[k],aj hlt2⟩
 refine(az hd)<|(gh) ?_
 have hn:=N7 x y;refine(zs) ?_;refine nQ [0,0,3,7,0,0,48,112,255] ?_;cases he:decide (x=y)
 ·rw[he] at hn
  exact(me (n6 hlt hlt2 (aH (e:=3) (enc:=aC) (λ_=>rfl) hx) (aH (e:=3) (enc:=aC) (λ_=>rfl) hy) @aC.eq_1 hn))<|(zM)<|(cM)<|zo [.tmp 4] (hq:=by rw[un (λh=>by subst h;rw[hx] at hy;exact wt he (Option.some.inj hy))])
 ·rw[he] at hn
  refine(me (n6 hlt hlt2 (aH (e:=3) (enc:=aC) (λ_=>rfl) hx) (aH (e:=3) (enc:=aC) (λ_=>rfl) hy) @aC.eq_1 hn))<|(zM)<|(zN)<|(az (zi hlt ha)) ?_;refine zX hlt zH (by rw[bz hx,bz hy,hall,ww he])
def BM(t:Xf):Bool:=!(cC t.fr)||(!(cC t.to)||(decide (t.fr=t.to)||(decide (t.am<0)||decide (1000000000000<t.am))))
structure Xf.fits (t:Xf):Prop where
 f:t.fr.length<=1000000
 fb:∀b∈t.fr,b<256
 g:t.to.length<=1000000
 gb:∀b∈t.to,b<256
def DD(t:Xf)(ht:t.fits):PC prog 27 ([]++[.ag (aC t)]++[]) (·=au (BM t)):=by
 refine pB 30 Tryz.func27 ?_;have h1:=oR t.fr ht.f ht.fb;have h2:=oR t.to ht.g ht.gb;unfold BM;obtain⟨fr,to,am⟩:=t;simp only at h1 h2 ⊢
 refine(az @aC.eq_1)<|(zC)<|(zK h1) ?_
 cases e1:cC fr
 ·exact(zR)<|zo [.tmp 2]
 refine(zQ)<|(zK h2) ?_
 cases e2:cC to
 ·exact(zR)<|zo [.tmp 2]
 cases e3:decide (fr=to)
 ·cases e4:decide (am<0)
  ·exact(cK (n2 e3 e4))<|zo [.tmp 2]
  ·exact(cK (n2 e3 e4))<|zo [.tmp 2]
 ·exact(cK e3)<|zo [.tmp 2]
open Go.Proofs.Tryz renaming func62 -> vaa in
open Go.Ev renaming PR -> vab in
open Go.Proofs renaming aC -> vac in
def KD{l:List (Xf)}(p:Xf->Bool){fid:FuncId}{first cap:List SV}(hlen:l.length<=1000000)(hp:∀x∈l,PC prog fid ((first++[.ag (aC x)])++cap) (·=au (p x)))(hg:cm first=true/\cm cap=true):PC prog 62 [ah 3 l aC,.fn fid first cap] (·=aa (jv p l)):=by
 have vad:=@aC.eq_1;exact zy
def Bf{l:List (Xf)}(p:Xf->Bool){fid:FuncId}{first cap:List SV}(hlen:l.length<=1000000)(hp:∀x∈l,PC prog fid ((first++[.ag (aC x)])++cap) (·=au (p x)))(hg:cm first=true/\cm cap=true):PC prog 29 [ah 3 l aC,.fn fid first cap] (·=au (l.any p)):=by
 refine pB 9 Tryz.func29 ?_;exact(kK)<|(zK (KD p hlen hp hg) (hwk:=.cons (Wk.sl _ _ _) (.cons (.fn (bl.refl hg.1) (bl.refl hg.2)) .nil)))<|(zR)<|zo [.tmp 4] (hq:=by rw[yw])
def oO(p:Pr):Pr:=(p.2,p.1)
def su(Ul:cQ)(e:Pr×Int):cQ:=cr (oO e.1) (getM 0 (oO e.1) (cr e.1 (getM 0 e.1 Ul+e.2) Ul)-e.2) (cr e.1 (getM 0 e.1 Ul+e.2) Ul)
def qx(l:cQ):cQ:=l.foldl su []
def Nu(l:cQ)(e:Pr×Int):qx (l++[e])=su (qx l) e:=by unfold qx;rw[List.foldl_append];rfl
def BF(owed paid:List Xf):List Xf×Int:=if (owed.any BM||paid.any BM)=true then ([],1) else cL (qx (fc (-1) (fc 1 [] owed) paid))
def yT{n:Int}{B:Int}:∀{ts:List Xf} {m:cQ},(n=1\/n = -1)->fH B m->(∀t∈ts,-1000000000000<=t.am/\t.am<=1000000000000)->fH (B+ts.length*1000000000000) (fc n m ts)
 | [],m,_,h,_=>h.mono (by simp)
 | t::ts,m,hn,h,ha=>by
  have h1:=h.add hn (ha t bi);have:=yT (ts:=ts) hn h1 λx hx=>ha x (be _ hx);refine fH.mono this ?_;rw[bw];omega
def IV{n:Int}{ts:List Xf}(hn:n=1\/n = -1)(hl:ts.length<=1000)(ha:∀t∈ts,-1000000000000<=t.am/\t.am<=1000000000000):fH 1000000000000000 (fc n [] ts):=
 (yT (B:=0) hn (λq=>⟨c4 _,c4 _⟩) ha).mono (by omega)
def vx{n:Int}:∀{ts:List Xf} {m:cQ},(m.map (·.1)).Nodup->((fc n m ts).map (·.1)).Nodup
 | [],_,h=>h
 | t::ts,m,h=>vx (ts:=ts) (m:=jM n m t) (rf h)
def yQ(n:Int):∀(ts:List Xf) (m:cQ),(fc n m ts).length<=m.length+ts.length
 | [],m=>by unfold fc;simp
 | t::ts,m=>by
  have h1:=yQ n ts (jM n m t);have h2:(jM n m t).length<=m.length+1:=yH m;have e:fc n m (t::ts)=fc n (jM n m t) ts:=rfl;rw[e,bw];omega
def AE:∀(l:cQ) (m:cQ),(m.map (·.1)).Nodup->((l.foldl su m).map (·.1)).Nodup
 | [],_,h=>h
 | e::l,m,h=>AE l (su m e) (rf (rf h))
def wq(l:cQ):((qx l).map (·.1)).Nodup:=AE l [] dl
def C5:∀(l:cQ) (m:cQ),(l.foldl su m).length<=m.length+2*l.length
 | [],m=>by simp
 | e::l,m=>by
  have h1:=C5 l (su m e)
  have h2:(su m e).length<=m.length+2:=by
   unfold su;have a:=yH (k:=oO e.1) (v:=getM 0 (oO e.1) (cr e.1 (getM 0 e.1 m+e.2) m)-e.2) (cr e.1 (getM 0 e.1 m+e.2) m);have b:=yH (k:=e.1) (v:=getM 0 e.1 m+e.2) m;omega
  rw[f4,bw];omega
def PK(l:cQ):(qx l).length<=2*l.length:=by
 have:=C5 l [];simp only[cp,eP] at this;exact this
def o9{m:cQ}(hn:(m.map (·.1)).Nodup){e:Pr×Int}(he:e∈m):getM 0 e.1 m=e.2:=by
 induction m with
 | nil=>cases he
 | cons a m ih=>
  rw[bk,f7] at hn;rw[getM]
  rcases mem_cons.1 he with rfl | he'
  ·rw[t8 rfl]
  ·rw[ul (λh=>hn.1 (by rw[<-h];exact el he')),ih hn.2 he']
def fH.Ul{B n:Int}{m:cQ}{p:Pr}(h:fH B m)(hn : -2000000000000000<=n/\n<=2000000000000000):fH (B+4000000000000000) (su m (p,n)):=by
 intro k;unfold su;simp only[ic];have h1:=h k;have h2:=h p;have h3:=h (oO p);split
 ·split
  ·omega
  ·omega
 ·split<;>omega
def NZ(hsort:Ld)(hcong:∀(a b:cQ),(a.map (·.1)).Nodup->a.Perm b->cL (qx a)=cL (qx b))(owed paid:List Xf)(ho:∀t∈owed,t.fits)(hp:∀t∈paid,t.fits)(hlo:owed.length<=1000)(hlp:paid.length<=1000):
 PC prog 11 [ah 3 owed aC,ah 3 paid aC] (·=My (BF owed paid)):=by
 refine pB 58 Tryz.func11 ?_;have c1:=Bf (l:=owed) BM (first:=[]) (cap:=[]) (by omega) (λx hx=>DD x (ho x hx)) ⟨rfl,rfl⟩;have c2:=Bf (l:=paid) BM (first:=[]) (cap:=[]) (by omega) (λx hx=>DD x (hp x hx)) ⟨rfl,rfl⟩
 refine(mO)<|(zC)<|(zK c1) ?_
 cases e1:owed.any BM;rotate_left
 ·exact(zR)<|(cM)<|iP [.tmp 4,.tmp 5] (r:=.bC [.sl 0 3 [],aa 1]) (hw:=.bC (.cons (.nil _) (.cons (.a _) .nil))) (hq:=by rw[BF,e1];rfl)
 refine(zQ)<|(zK c2) ?_
 cases e2:paid.any BM;rotate_left
 ·exact(zR)<|(cM)<|iP [.tmp 4,.tmp 5] (r:=.bC [.sl 0 3 [],aa 1]) (hw:=.bC (.cons (.nil _) (.cons (.a _) .nil))) (hq:=by rw[BF,e1,e2];rfl)
 refine(zR)<|(zN) ?_
 have hN:BF owed paid=cL (qx (fc (-1) (fc 1 [] owed) paid)):=by rw[BF,e1,e2];rfl
 rw[hN]
 have am:∀{l:List Xf},l.any BM=false->∀t∈l,-1000000000000<=t.am/\t.am<=1000000000000:=by
  intro l h t ht;rw[List.any_eq_false] at h;have:=h t ht;unfold BM at this;simp only[Bool.or_eq_true,wp,not_or] at this;omega
 have a1:=wO 1 (.inl rfl) [owed] [] (λq=>⟨by show -1000000000000000<=0;omega,by show(0:Int)<=_;omega⟩) (by show 1<=10;decide) (by
  intro ts hts;rw[mem_singleton.1 hts]
  exact⟨hlo,am e1⟩)
 rw[show[owed].foldl (fc 1) []=fc 1 [] owed from rfl] at a1;have w1:fH 1000000000000000 (fc 1 [] owed):=IV (.inl rfl) hlo (am e1)
 have a2:=wO (-1) (.inr rfl) [paid] (fc 1 [] owed) w1 (by show 1<=10;decide) (by
  intro ts hts;rw[mem_singleton.1 hts]
  exact⟨hlp,am e2⟩)
 rw[show[paid].foldl (fc (-1)) (fc 1 [] owed)=fc (-1) (fc 1 [] owed) paid from rfl] at a2;refine aq.fg (st':=⟨[(0,ah 3 owed aC),(1,ah 3 paid aC)],58,[],[]⟩) zH ?_
 (try change aq _ _ _ _ _)
 refine(kK) ?_;refine aG.fg (Fg.freeze (f':=[(22,ah 1 [owed] tR),(20,.map 0),(7,.map 0),(0,ah 3 owed aC),(1,ah 3 paid aC)]) 1 rfl (λh=>by cases h) ⟨.inr (.buf rfl (bl.refl rfl) (af _)),.inl rfl,.inl rfl,.inl rfl,.inl rfl,trivial⟩) ?_;refine aG.fg (st':=⟨[(22,ah 1 [owed] tR),(20,.map 0),(7,.map 0),(0,ah 3 owed aC),(1,ah 3 paid aC)],58,[bB gG aa []],[]⟩) (bK (n2 @j8 (show SO.map [] [] none=bB gG aa [] from rfl))) ?_;refine zS [0] (n3 @j8 @TY @OL) a1 ?_;refine(zR) ?_;refine aq.fg (st':=⟨[(7,.map 0),(1,ah 3 paid aC)],58,[bB gG aa (fc 1 [] owed)],[]⟩) (bK @j8) ?_
 (try change aq _ _ _ _ _)
 refine(zC) ?_;refine aG.fg (Fg.freeze (f':=[(26,ah 1 [paid] tR),(24,.map 0),(7,.map 0)]) 1 rfl (λh=>by cases h) ⟨.inr (.buf rfl (bl.refl rfl) (af _)),.inl rfl,.inl rfl,trivial⟩) ?_;refine aG.fg (st':=⟨[(26,ah 1 [paid] tR),(24,.map 0),(7,.map 0)],58,[bB gG aa (fc 1 [] owed)],[]⟩) (bK @j8) ?_;refine zS [0] (n3 @j8 @TY @OL) a2 ?_;refine(zR) ?_;have hk1:((fc (-1) (fc 1 [] owed) paid).map (·.1)).Nodup:=vx (vx dl)
 have hl1:(fc (-1) (fc 1 [] owed) paid).length<=2000:=by
  have h1:=yQ (-1) paid (fc 1 [] owed);have h2:=yQ 1 owed [];simp only[cp] at h2;omega
 have hw1:∀e∈fc (-1) (fc 1 [] owed) paid,-2000000000000000<=e.2/\e.2<=2000000000000000:=by
  intro e he;have h:=(yT (n := -1) (.inr rfl) w1 (am e2)) e.1;rw[o9 hk1 he] at h;omega
 generalize fc (-1) (fc 1 [] owed) paid=al at hk1 hl1 hw1 ⊢;refine aq.fg (Fg.freeze (f':=[(7,oI gG aa al)]) 0 rfl (λh=>by cases h) ⟨.inr (oC (λ_=>rfl) rfl),trivial⟩) ?_;refine aq.fg (st':=⟨[(7,oI gG aa al)],58,[],[]⟩) zH ?_
 (try change aq _ _ _ _ _)
 refine(zV) ?_;refine aq.fg (st':=⟨[(8,.map 0),(7,oI gG aa al)],58,[bB gG aa []],[]⟩) (bK (show SO.map [] [] none=bB gG aa [] from rfl)) ?_
 (try change aq _ _ _ _ _)
 refine(zC) ?_;refine aG.Vt (ks:=al.map λe=>gG e.1) (vs:=al.map λe=>aa e.2) (by rfl) rfl rfl (by rfl) rfl (by simp only[an]) ?_;intro bs c hbs;refine(cK @j8) ?_
 (repeat refine aq.seq ?_)
 refine aq.block (aq.loop (λm st=>∃pos:List Nat,pos.Nodup/\(∀j∈pos,j<al.length)/\fH (pos.length*4000000000000000) (qx (bq al pos))/\al.length-pos.length=m/\st=⟨[(8,.map 0),(30,.ptr 1 0)],58,[bB gG aa (qx (bq al pos)),.pd (al.map λe=>gG e.1) (al.map λe=>aa e.2) bs c pos],[]⟩) al.length (bK @j8) ⟨[],dl,λj h=>(dd h).elim,λq=>⟨c4 _,c4 _⟩,by simp,rfl⟩ (by rintro m st ⟨_,_,_,_,_,rfl⟩;rfl) ?_);rintro m st ⟨pos,hpn,hpl,hwi,rfl,rfl⟩;refine(zC) ?_;refine aG.Vp (by rfl) rfl rfl (by rfl) rfl rfl (λj hj=>by rw[b8];exact hpl j hj) ?_ ?_;rotate_left
 ·intro j hj hjn;rw[b8] at hj;obtain⟨e,he⟩:∃e,al[j]?=some e:=⟨al[j],aj hj⟩;obtain⟨q1,q2,q3⟩:=pA hpn hpl hj hjn;have hsn:=lE al pos he
  refine(zR)<|(gh)<|(zC) ?_;refine aG.Vl (k:=gG e.1) (v:=aa e.2) (by rfl) rfl rfl (by rfl) rfl rfl (by rw[ck,he];rfl) (by rw[ck,he];rfl) ?_;refine(cK (n3 @QL @j8 @Al)) ?_
  have hmeas:al.length-(pos++[j]).length<al.length-pos.length:=by rw[bc];simp only[bw,cp];omega
  have hpos:pos.length<=2000:=by omega
  have hae:=hw1 e (bd he);obtain⟨N,hNN⟩:∃N,N=qx (bq al pos):=⟨_,rfl⟩
  have hnext:qx (bq al (pos++[j]))=su N e:=by rw[hsn,Nu,<-hNN]
  rw[<-hNN] at hwi ⊢;clear hNN;obtain⟨⟨fr,to⟩,n⟩:=e;simp only at hae
  have hbn:∀q,-8000000000000000000<=getM 0 q N/\getM 0 q N<=8000000000000000000:=λq=>by have:=hwi q;omega
  refine aq.fg (st':=⟨[(9,.ptr 2 0),(10,aa n),(8,.map 0),(30,.ptr 1 0)],58,[bB gG aa N,.pd (al.map λe=>gG e.1) (al.map λe=>aa e.2) bs c (pos++[j]),.cells [ab fr,ab to]],[]⟩) (bK (n2 @j8 @Al)) ?_;obtain⟨g,hg⟩:∃g,g=getM 0 (fr,to) N:=⟨_,rfl⟩;have hgb:=hbn (fr,to);rw[<-hg] at hgb;have hadd : -9223372036854775808<=g+n/\g+n<=9223372036854775807:=⟨by omega,by omega⟩;refine aq.born 0 rfl λbs0 c0 hbl=>?_;rw[b8] at hbl;change aq _ _ _ ⟨_,_,[jh gG aa N (some (bs0,c0)),.pd (al.map λe=>gG e.1) (al.map λe=>aa e.2) bs c (pos++[j]),.cells [ab fr,ab to]],_⟩ _;obtain⟨b,hb⟩:∃b:List Nat×Nat,b=(bs0,c0):=⟨_,rfl⟩;rw[<-hb]
  have hbl:b.1.length=N.length:=by rw[hb];exact hbl
  clear hb;obtain⟨sb,hsb⟩:∃sb,sb=oQ b (fr,to) N:=⟨_,rfl⟩
  (repeat refine aq.seq ?_)
  refine aq.xv 7 12 (λL=>⟨(36,vo L 0 (.map 0))::(37,vo L 1 (.ag [ab fr,ab to]))::(38,vo L 2 (aa g))::(39,vo L 3 (aa n))::(40,vo L 4 (aa (g+n)))::(41,vo L 5 (.bC [aa g,.a (.int .i64 (ofNat sb))]))::(42,vo L 6 (.a (.int .i64 (ofNat sb))))::[(9,.ptr 2 0),(10,aa n),(8,.map 0),(30,.ptr 1 0)],58,[io L 5 (jh gG aa (fW 0 (fr,to) N) (some (iX b (fr,to) N))) (jh gG aa N (some b)),.pd (al.map λe=>gG e.1) (al.map λe=>aa e.2) bs c (pos++[j]),.cells [ab fr,ab to]],[]⟩) rfl (by kernel_rfl) (by rfl) (by decide) (by kernel_rfl) (Fg.less (by (simp only[bI,bj,dI,↓reduceIte,ac,ah,mD,fQ (L:=λ_=>False) (λh=>h)])<;>(repeat' apply b0)<;>first | rfl | trivial) (by (simp only[bI,bj,or_true,true_or,ah,mD,fQ (L:=λ_=>False) (λh=>h)])<;>(repeat' apply b0)<;>first | exact .inr rfl | exact .inl rfl | trivial)) (λL=>rfl) ?_ ?_
  ·rintro L i o him hC hr
   rcases i with _ | _ | _ | _ | _ | _ | _ | i
   rotate_right
   ·exact t7 him (by omega)
   ·cases hr.fK;refine(zR) ?_;exact(bK (n2 @aR @bP))
   ·cases hr.fK;refine(zR) ?_;exact(bK (n2 @aR @bP))
   ·cases hr.fK;have d0:L 0:=hr.dep ⟨0,.data⟩ (by simp) rfl;have d1:L 1:=hr.dep ⟨1,.data⟩ (by simp) rfl
    have hlk:ec prog [io L 5 (jh gG aa (fW 0 (fr,to) N) (some (iX b (fr,to) N))) (jh gG aa N (some b)),.pd (al.map λe=>gG e.1) (al.map λe=>aa e.2) bs c (pos++[j]),.cells [ab fr,ab to]] 82 (.map 0) (.ag [ab fr,ab to]) false=some (aa g):=by
     by_cases h:L 5
     ·rw[oK h,lg _ _ rfl,s9,<-hg]
     ·rw[fQ h,lg _ _ rfl,<-hg]
    refine(cK (n3 (dR d0) (dR d1) hlk)) ?_;exact(bK (n4 @aR @bP (dR d0) (dR d1)))
   ·cases hr.fK;refine(zR) ?_;exact(bK (n2 @aR @bP))
   ·cases hr.fK;have d2:L 2:=hr.dep ⟨2,.data⟩ (by simp) rfl;have d3:L 3:=hr.dep ⟨3,.data⟩ (by simp) rfl;refine(cK (n3 (dR d2) (dR d3) (qA hadd))) ?_;exact(bK (n4 @aR @bP (dR d2) (dR d3)))
   ·cases hr.fK;have d0:L 0:=hr.dep ⟨0,.data⟩ (by simp) rfl;have d1:L 1:=hr.dep ⟨1,.data⟩ (by simp) rfl;have h12:¬L 5:=hr.new;refine aG.VI (kv:=gG) (uv:=aa) (l:=N) (k:=((fr,to):Pr)) (u0:=0) (z:=.int .i64 0) (kt:=95) (et:=3) (oo:=0) (b:=b) (ky:=.ag [ab fr,ab to]) (by rfl) rfl rfl (by rfl) (iZ (dR d0)) (iZ (dR d1)) rfl (by rw[fQ h12];rfl) (by simp only[an]) u7 (by simp only[an]) rfl ?_;refine .nil ?_;rw[<-hg,<-hsb];exact(bK (n3 @aR @bP @set_cons_zero.{0}))
   ·cases hr.fK;have d5:L 5:=hr.dep ⟨5,.data⟩ (by simp) rfl;refine(cK (dR d5)) ?_;exact(bK (n3 @aR @bP (dR d5)))
  have vv:∀i,i<7->∀v:SV,vo (λj=>j<7) i v=v:=λi h v=>dh h;have va:=vv 0 (by decide);have vs:=vv 6 (by decide);have vy:=vv 4 (by decide);have ii:∀x y:SO,io (λj=>j<7) 5 x y=x:=λx y=>oK (by decide);change aG _ _ _ _ _ _;refine aG.VD (kv:=gG) (uv:=aa) (l:=N) (k:=((fr,to):Pr)) (u0:=0) (oo:=0) (b:=iX b (fr,to) N) (sb:=sb) (u:=g+n) (by rfl) rfl rfl (by rfl) (iZ va) (iZ vs) (iZ vy) (by rw[ii];rfl) (by rw[hsb];exact wM hbl) ?_;refine .nil ?_;change aq _ _ _ _ _;refine aq.fg (st':=⟨[(9,.ptr 2 0),(10,aa n),(8,.map 0),(30,.ptr 1 0)],58,[bB gG aa (cr (fr,to) (g+n) N),.pd (al.map λe=>gG e.1) (al.map λe=>aa e.2) bs c (pos++[j]),.cells [ab fr,ab to]],[]⟩) (bK @set_cons_zero.{0}) ?_;obtain⟨N2,hN2⟩:∃N2,N2=cr (fr,to) (g+n) N:=⟨_,rfl⟩;rw[<-hN2];obtain⟨g2,hg2⟩:∃g2,g2=getM 0 (to,fr) N2:=⟨_,rfl⟩
  have hg2b : -8100000000000000000<=g2/\g2<=8100000000000000000:=by rw[hg2,hN2,ic];have:=hbn (to,fr);split<;>omega
  have hsub : -9223372036854775808<=g2-n/\g2-n<=9223372036854775807:=⟨by omega,by omega⟩
  have hnet:su N ((fr,to),n)=cr (to,fr) (g2-n) N2:=by unfold su oO;rw[<-hg,<-hN2,<-hg2]
  refine aq.born 0 rfl λbs0 c0 hbl=>?_;rw[b8] at hbl;change aq _ _ _ ⟨_,_,[jh gG aa N2 (some (bs0,c0)),.pd (al.map λe=>gG e.1) (al.map λe=>aa e.2) bs c (pos++[j]),.cells [ab fr,ab to]],_⟩ _;obtain⟨b,hb⟩:∃b:List Nat×Nat,b=(bs0,c0):=⟨_,rfl⟩;rw[<-hb]
  have hbl:b.1.length=N2.length:=by rw[hb];exact hbl
  clear hb;obtain⟨sb,hsb⟩:∃sb,sb=oQ b (to,fr) N2:=⟨_,rfl⟩
  (repeat refine aq.seq ?_)
  refine aq.xv 11 16 (λL=>⟨(43,vo L 0 (.map 0))::(44,vo L 1 (.ptr 2 1))::(45,vo L 2 (ab to))::(46,vo L 3 (.ptr 2 0))::(47,vo L 4 (ab fr))::(48,vo L 5 (.ag [ab to,ab fr]))::(49,vo L 6 (aa g2))::(50,vo L 7 (aa n))::(51,vo L 8 (aa (g2-n)))::(52,vo L 9 (.bC [aa g2,.a (.int .i64 (ofNat sb))]))::(53,vo L 10 (.a (.int .i64 (ofNat sb))))::[(9,.ptr 2 0),(10,aa n),(8,.map 0),(30,.ptr 1 0)],58,[io L 9 (jh gG aa (fW 0 (to,fr) N2) (some (iX b (to,fr) N2))) (jh gG aa N2 (some b)),.pd (al.map λe=>gG e.1) (al.map λe=>aa e.2) bs c (pos++[j]),.cells [ab fr,ab to]],[]⟩) rfl (by kernel_rfl) (by rfl) (by decide) (by kernel_rfl) (Fg.less (by (simp only[bI,bj,dI,↓reduceIte,ac,ah,mD,fQ (L:=λ_=>False) (λh=>h)])<;>(repeat' apply b0)<;>first | rfl | trivial) (by (simp only[bI,bj,or_true,true_or,ah,mD,fQ (L:=λ_=>False) (λh=>h)])<;>(repeat' apply b0)<;>first | exact .inr rfl | exact .inl rfl | trivial)) (λL=>rfl) ?_ ?_
  ·rintro L i o him hC hr
   rcases i with _ | _ | _ | _ | _ | _ | _ | _ | _ | _ | _ | i
   rotate_right
   ·exact t7 him (by omega)
   ·cases hr.fK;refine(zR) ?_;exact(bK (n2 @aR @bP))
   ·cases hr.fK;refine(zR) ?_;exact(bK (n2 @aR @bP))
   ·cases hr.fK;have d1:L 1:=hr.dep ⟨1,.data⟩ (by simp) rfl;refine(cK (dR d1)) ?_;exact(bK (n3 @aR @bP (dR d1)))
   ·cases hr.fK;refine(zR) ?_;exact(bK (n2 @aR @bP))
   ·cases hr.fK;have d3:L 3:=hr.dep ⟨3,.data⟩ (by simp) rfl;refine(cK (dR d3)) ?_;exact(bK (n3 @aR @bP (dR d3)))
   ·cases hr.fK;have d2:L 2:=hr.dep ⟨2,.data⟩ (by simp) rfl;have d4:L 4:=hr.dep ⟨4,.data⟩ (by simp) rfl;refine(cK (n2 (dR d2) (dR d4))) ?_;exact(bK (n4 @aR @bP (dR d2) (dR d4)))
   ·cases hr.fK;have d0:L 0:=hr.dep ⟨0,.data⟩ (by simp) rfl;have d5:L 5:=hr.dep ⟨5,.data⟩ (by simp) rfl
    have hlk:ec prog [io L 9 (jh gG aa (fW 0 (to,fr) N2) (some (iX b (to,fr) N2))) (jh gG aa N2 (some b)),.pd (al.map λe=>gG e.1) (al.map λe=>aa e.2) bs c (pos++[j]),.cells [ab fr,ab to]] 82 (.map 0) (.ag [ab to,ab fr]) false=some (aa g2):=by
     by_cases h:L 9
     ·rw[oK h,lg _ _ rfl,s9,<-hg2]
     ·rw[fQ h,lg _ _ rfl,<-hg2]
    refine(cK (n3 (dR d0) (dR d5) hlk)) ?_;exact(bK (n4 @aR @bP (dR d0) (dR d5)))
   ·cases hr.fK;refine(zR) ?_;exact(bK (n2 @aR @bP))
   ·cases hr.fK;have d6:L 6:=hr.dep ⟨6,.data⟩ (by simp) rfl;have d7:L 7:=hr.dep ⟨7,.data⟩ (by simp) rfl;refine(cK (n3 (dR d6) (dR d7) (QV hsub))) ?_;exact(bK (n4 @aR @bP (dR d6) (dR d7)))
   ·cases hr.fK;have d0:L 0:=hr.dep ⟨0,.data⟩ (by simp) rfl;have d5:L 5:=hr.dep ⟨5,.data⟩ (by simp) rfl;have h12:¬L 9:=hr.new;refine aG.VI (kv:=gG) (uv:=aa) (l:=N2) (k:=((to,fr):Pr)) (u0:=0) (z:=.int .i64 0) (kt:=95) (et:=3) (oo:=0) (b:=b) (ky:=.ag [ab to,ab fr]) (by rfl) rfl rfl (by rfl) (iZ (dR d0)) (iZ (dR d5)) rfl (by rw[fQ h12];rfl) (by simp only[an]) u7 (by simp only[an]) rfl ?_;refine .nil ?_;rw[<-hg2,<-hsb];exact(bK (n3 @aR @bP @set_cons_zero.{0}))
   ·cases hr.fK;have d9:L 9:=hr.dep ⟨9,.data⟩ (by simp) rfl;refine(cK (dR d9)) ?_;exact(bK (n3 @aR @bP (dR d9)))
  have vv:∀i,i<11->∀v:SV,vo (λj=>j<11) i v=v:=λi h v=>dh h;have va:=vv 0 (by decide);have vs:=vv 10 (by decide);have vy:=vv 8 (by decide);have ii:∀x y:SO,io (λj=>j<11) 9 x y=x:=λx y=>oK (by decide);change aG _ _ _ _ _ _;refine aG.VD (kv:=gG) (uv:=aa) (l:=N2) (k:=((to,fr):Pr)) (u0:=0) (oo:=0) (b:=iX b (to,fr) N2) (sb:=sb) (u:=g2-n) (by rfl) rfl rfl (by rfl) (iZ va) (iZ vs) (iZ vy) (by rw[ii];rfl) (by rw[hsb];exact wM hbl) ?_;refine .nil ?_;show yM _ _ _ _ _ _ _;rw[yM];exact⟨al.length-(pos++[j]).length,_,hmeas,(bK (n3 @set_cons_zero.{0} hnext hnet)),pos++[j],q1,q2,(by rw[hnext,bc];simp only[bw,cp];exact(hwi.Ul hae).mono (by omega)),rfl,rfl⟩
 intro hall;have hperm:(bq al pos).Perm al:=mY hpn hpl λj hj=>hall j (by rw[b8];exact hj)
 refine(zR)<|(eN) ?_
 simp only[fG,dH,cB,bX,if_true];rw[<-hcong (bq al pos) al ((hperm.map (·.1)).nodup_iff.2 hk1) hperm];have hkn:=wq (bq al pos)
 have hkl:(qx (bq al pos)).length<=100000:=by
  have h1:=PK (bq al pos);have h2:=hperm.length_eq;omega
 generalize qx (bq al pos)=M at hkn hkl ⊢
 have hgm:cm [oI gG aa M]=true:=by simp only[cm,oI,lU,eU (uv:=aa) (λ_=>rfl) M,g9]
 refine(zC) ?_;refine aG.fg (Fg.freeze (f':=[(54,oI gG aa M)]) 0 rfl (λh=>by cases h) ⟨.inr (oC (λ_=>rfl) rfl),trivial⟩) ?_;exact(zK (xR hsort M hkn hkl) (hwk:=(bl.refl hgm)) (hfl:=.inr (bl.refl hgm)))<|(zR)<|iP [.tmp 4,.tmp 5] (r:=.bC [ah 3 (cL M).1 aC,aa (cL M).2]) (hw:=.bC (.cons (.sl _ _ _) (.cons (.a _) .nil)))
open Go.Shelf
def wR:Go.Shelf.Ren:=⟨λ| 6=>56 | 10=>110 | 11=>111 | 12=>112 | 13=>113 | 14=>114 | 24=>161 | 25=>162 | 26=>163 | 27=>164 | 28=>165 | 29=>166 | 30=>167 | 31=>168 | 32=>169 | 33=>170 | 34=>212 | 35=>213 | 36=>214 | 37=>215 | 38=>216 | 39=>238 | n=>n,λ| 20=>20 | 26=>130 | 35=>203 | 0=>0 | 37=>205 | 3=>3 | 41=>209 | 44=>212 | 49=>259 | 51=>261 | 4=>4 | 54=>264 | 53=>263 | 58=>176 | 5=>5 | 9=>9 | 60=>303 | 64=>307 | 66=>325 | 67=>326 | 17=>17 | 32=>200 | 33=>201 | 82=>349 | 12=>12 | 75=>342 | 76=>343 | 77=>344 | 78=>345 | 79=>346 | 80=>347 | n=>n,λ| n=>n⟩
def vc:Go.Proofs.LaysGg.n6 prog wR:={
 mixed:=by kernel_rfl
 f6:=func56.trans (congrArg some (by kernel_rfl))
 f10:=Tryz.func110.trans (congrArg some (by kernel_rfl))
 f11:=Tryz.func111.trans (congrArg some (by kernel_rfl))
 f12:=Tryz.func112.trans (congrArg some (by kernel_rfl))
 f13:=Tryz.func113.trans (congrArg some (by kernel_rfl))
 f14:=Tryz.func114.trans (congrArg some (by kernel_rfl))
 f24:=Tryz.func161.trans (congrArg some (by kernel_rfl))
 f25:=Tryz.func162.trans (congrArg some (by kernel_rfl))
 f26:=Tryz.func163.trans (congrArg some (by kernel_rfl))
 f27:=Tryz.func164.trans (congrArg some (by kernel_rfl))
 f28:=Tryz.func165.trans (congrArg some (by kernel_rfl))
 f29:=Tryz.func166.trans (congrArg some (by kernel_rfl))
 f30:=Tryz.func167.trans (congrArg some (by kernel_rfl))
 f31:=Tryz.func168.trans (congrArg some (by kernel_rfl))
 f32:=Tryz.func169.trans (congrArg some (by kernel_rfl))
 f33:=Tryz.func170.trans (congrArg some (by kernel_rfl))
 f34:=Tryz.func212.trans (congrArg some (by kernel_rfl))
 f35:=Tryz.func213.trans (congrArg some (by kernel_rfl))
 f36:=Tryz.func214.trans (congrArg some (by kernel_rfl))
 f37:=Tryz.func215.trans (congrArg some (by kernel_rfl))
 f38:=Tryz.func216.trans (congrArg some (by kernel_rfl))
 f39:=Tryz.func238.trans (congrArg some (by kernel_rfl))
 t0:=Tryz.underlying0
 a0:=Tryz.isAgg0
 z0:=Tryz.sizeOf0
 v0:=Tryz.zeroValue0
 i0:=by kernel_rfl
 t3:=Tryz.underlying3
 a3:=Tryz.isAgg3
 z3:=Tryz.sizeOf3
 v3:=Tryz.zeroValue3
 i3:=by kernel_rfl
 t4:=Tryz.underlying4
 a4:=Tryz.isAgg4
 z4:=Tryz.sizeOf4
 v4:=Tryz.zeroValue4
 i4:=by kernel_rfl
 t5:=Tryz.underlying5
 a5:=Tryz.isAgg5
 z5:=Tryz.sizeOf5
 v5:=Tryz.zeroValue5
 i5:=by kernel_rfl
 t9:=Tryz.underlying9
 a9:=Tryz.isAgg9
 z9:=Tryz.sizeOf9
 v9:=Tryz.zeroValue9
 i9:=by kernel_rfl
 t12:=Tryz.underlying12
 a12:=Tryz.isAgg12
 z12:=Tryz.sizeOf12
 v12:=Tryz.zeroValue12
 i12:=by kernel_rfl
 t17:=Tryz.underlying17
 a17:=Tryz.isAgg17
 z17:=Tryz.sizeOf17
 v17:=Tryz.zeroValue17
 i17:=by kernel_rfl
 t20:=Tryz.underlying20
 a20:=Tryz.isAgg20
 z20:=Tryz.sizeOf20
 v20:=Tryz.zeroValue20
 i20:=by kernel_rfl
 t26:=Tryz.underlying130
 a26:=Tryz.isAgg130
 z26:=Tryz.sizeOf130
 v26:=Tryz.zeroValue130
 i26:=by kernel_rfl
 t32:=Tryz.underlying200
 a32:=Tryz.isAgg200
 z32:=Tryz.sizeOf200
 v32:=Tryz.zeroValue200
 i32:=by kernel_rfl
 t33:=Tryz.underlying201
 a33:=Tryz.isAgg201
 z33:=Tryz.sizeOf201
 v33:=Tryz.zeroValue201
 i33:=by kernel_rfl
 t35:=Tryz.underlying203
 a35:=Tryz.isAgg203
 z35:=Tryz.sizeOf203
 v35:=Tryz.zeroValue203
 i35:=by kernel_rfl
 t37:=Tryz.underlying205
 a37:=Tryz.isAgg205
 z37:=Tryz.sizeOf205
 v37:=Tryz.zeroValue205
 i37:=by kernel_rfl
 t41:=Tryz.underlying209
 a41:=Tryz.isAgg209
 z41:=Tryz.sizeOf209
 v41:=Tryz.zeroValue209
 i41:=by kernel_rfl
 t44:=Tryz.underlying212
 a44:=Tryz.isAgg212
 z44:=Tryz.sizeOf212
 v44:=Tryz.zeroValue212
 i44:=by kernel_rfl
 t49:=Tryz.underlying259
 a49:=Tryz.isAgg259
 z49:=Tryz.sizeOf259
 v49:=Tryz.zeroValue259
 i49:=by kernel_rfl
 t51:=Tryz.underlying261
 a51:=Tryz.isAgg261
 z51:=Tryz.sizeOf261
 v51:=Tryz.zeroValue261
 i51:=by kernel_rfl
 t53:=Tryz.underlying263
 a53:=Tryz.isAgg263
 z53:=Tryz.sizeOf263
 v53:=Tryz.zeroValue263
 i53:=by kernel_rfl
 t54:=Tryz.underlying264
 a54:=Tryz.isAgg264
 z54:=Tryz.sizeOf264
 v54:=Tryz.zeroValue264
 i54:=by kernel_rfl
 t58:=Tryz.underlying176
 a58:=Tryz.isAgg176
 z58:=Tryz.sizeOf176
 v58:=Tryz.zeroValue176
 i58:=by kernel_rfl
 t60:=Tryz.underlying303
 a60:=Tryz.isAgg303
 z60:=Tryz.sizeOf303
 v60:=Tryz.zeroValue303
 i60:=by kernel_rfl
 t64:=Tryz.underlying307
 a64:=Tryz.isAgg307
 z64:=Tryz.sizeOf307
 v64:=Tryz.zeroValue307
 i64:=by kernel_rfl
 t66:=Tryz.underlying325
 a66:=Tryz.isAgg325
 z66:=Tryz.sizeOf325
 v66:=Tryz.zeroValue325
 i66:=by kernel_rfl
 t67:=Tryz.underlying326
 a67:=Tryz.isAgg326
 z67:=Tryz.sizeOf326
 v67:=Tryz.zeroValue326
 i67:=by kernel_rfl
 t75:=Tryz.underlying342
 a75:=Tryz.isAgg342
 z75:=Tryz.sizeOf342
 v75:=Tryz.zeroValue342
 i75:=by kernel_rfl
 t76:=Tryz.underlying343
 a76:=Tryz.isAgg343
 z76:=Tryz.sizeOf343
 v76:=Tryz.zeroValue343
 i76:=by kernel_rfl
 t77:=Tryz.underlying344
 a77:=Tryz.isAgg344
 z77:=Tryz.sizeOf344
 v77:=Tryz.zeroValue344
 i77:=by kernel_rfl
 t78:=Tryz.underlying345
 a78:=Tryz.isAgg345
 z78:=Tryz.sizeOf345
 v78:=Tryz.zeroValue345
 i78:=by kernel_rfl
 t79:=Tryz.underlying346
 a79:=Tryz.isAgg346
 z79:=Tryz.sizeOf346
 v79:=Tryz.zeroValue346
 i79:=by kernel_rfl
 t80:=Tryz.underlying347
 a80:=Tryz.isAgg347
 z80:=Tryz.sizeOf347
 v80:=Tryz.zeroValue347
 i80:=by kernel_rfl
 t82:=Tryz.underlying349
 a82:=Tryz.isAgg349
 z82:=Tryz.sizeOf349
 v82:=Tryz.zeroValue349
 i82:=by kernel_rfl }
open Go.Ev Go.RowKit
def Vn(a b c d:ByteArray):Bool:=Op.bytesLess a.toList c.toList||(a.toList==c.toList&&Op.bytesLess b.toList d.toList)
set_option maxRecDepth 100000 in
def KH(qG off c Bs bo size:Nat)(W:World)(Gf Gt:Nat->ByteArray)(hs:W.cell? ⟨Bs,bo,none⟩=some (.slice (some ⟨qG,off,none⟩) size c))
 (hc1:∀t,t<size->W.cell? ⟨qG,off+t*3,none⟩=some (.string (Gf t))) (i j:Nat) (hi:i<size) (hj:j<size) (_hsz:size<4611686018427387904)
 (hl:Op.bytesLess (Gf i).toList (Gf j).toList=true):
 Calls prog 57 #[.int .i64 i,.int .i64 j,.pointer (some ⟨Bs,bo,none⟩)] W λe w'=>e=.returned (.bool true)/\∃q,w'=W.drewN q:=by
 have ci:=hc1 i hi;have cj:=hc1 j hj;clear hc1
 go_enter ge,gv
 go_wp2
 go_quiet (fail)
 go_wp2
 go_ret
 exact⟨rfl,nq,rfl⟩
set_option maxRecDepth 100000 in
def KI(qG off c Bs bo size:Nat)(W:World)(Gf Gt:Nat->ByteArray)(hs:W.cell? ⟨Bs,bo,none⟩=some (.slice (some ⟨qG,off,none⟩) size c))
 (hc1:∀t,t<size->W.cell? ⟨qG,off+t*3,none⟩=some (.string (Gf t))) (i j:Nat) (hi:i<size) (hj:j<size) (_hsz:size<4611686018427387904)
 (hl:Op.bytesLess (Gf i).toList (Gf j).toList=false) (he:((Gf i).toList==(Gf j).toList)=false):
 Calls prog 57 #[.int .i64 i,.int .i64 j,.pointer (some ⟨Bs,bo,none⟩)] W λe w'=>e=.returned (.bool false)/\∃q,w'=W.drewN q:=by
 have ci:=hc1 i hi;have cj:=hc1 j hj;clear hc1
 go_enter ge,gv
 go_wp2
 go_quiet (fail)
 go_wp2
 go_ret
 exact⟨rfl,nq,rfl⟩
set_option maxRecDepth 100000 in
def KJ(qG off c Bs bo size:Nat)(W:World)(Gf Gt:Nat->ByteArray)(hs:W.cell? ⟨Bs,bo,none⟩=some (.slice (some ⟨qG,off,none⟩) size c))
 (hc1:∀t,t<size->W.cell? ⟨qG,off+t*3,none⟩=some (.string (Gf t))) (hc2:∀t,t<size->W.cell? ⟨qG,off+t*3+1,none⟩=some (.string (Gt t))) (i j:Nat) (hi:i<size) (hj:j<size) (_hsz:size<4611686018427387904)
 (hl:Op.bytesLess (Gf i).toList (Gf j).toList=false) (he:((Gf i).toList==(Gf j).toList)=true):
 Calls prog 57 #[.int .i64 i,.int .i64 j,.pointer (some ⟨Bs,bo,none⟩)] W λe w'=>e=.returned (.bool (Op.bytesLess (Gt i).toList (Gt j).toList))/\∃q,w'=W.drewN q:=by
 have ci:=hc1 i hi;have cj:=hc1 j hj;have ci2:=hc2 i hi;have cj2:=hc2 j hj;clear hc1 hc2
 go_enter ge,gv
 go_wp2
 go_quiet (fail)
 go_wp2
 go_ret
 exact⟨rfl,nq,rfl⟩
def N5(qG off c Bs bo size:Nat)(W:World)(Gf Gt:Nat->ByteArray)(hs:W.cell? ⟨Bs,bo,none⟩=some (.slice (some ⟨qG,off,none⟩) size c))
 (hc1:∀t,t<size->W.cell? ⟨qG,off+t*3,none⟩=some (.string (Gf t))) (hc2:∀t,t<size->W.cell? ⟨qG,off+t*3+1,none⟩=some (.string (Gt t))) (i j:Nat) (hi:i<size) (hj:j<size) (hsz:size<4611686018427387904):
 Calls prog 57 #[.int .i64 i,.int .i64 j,.pointer (some ⟨Bs,bo,none⟩)] W λe w'=>e=.returned (.bool (Vn (Gf i) (Gt i) (Gf j) (Gt j)))/\∃q,w'=W.drewN q:=by
 unfold Vn;cases hl:Op.bytesLess (Gf i).toList (Gf j).toList
 ·cases he:((Gf i).toList==(Gf j).toList)
  ·exact KI qG off c Bs bo size W Gf Gt hs hc1 i j hi hj hsz hl he
  ·exact KJ qG off c Bs bo size W Gf Gt hs hc1 hc2 i j hi hj hsz hl he
 ·exact KH qG off c Bs bo size W Gf Gt hs hc1 i j hi hj hsz hl
end Go.Proofs
namespace Go.Ev
noncomputable section
def TP(a b:Nat)(h:a<=b):gE a b=a:=by rw[Aw];omega
def SC.VN{P:Program}{g:FuncId}{args cs cs' bs:List SV}{r0:SV}(hlen:cs'.length=cs.length)(hone:∀(θ:Nat->Loc) (ρ:kq) (xs:List AV),cZ θ ρ cs' xs->xs.all ke=true)
 (H:∀(θ:Nat->Loc) (ρ:kq) (h:H) (avs asx bsx:List AV),cZ θ ρ args avs->h.aU.get (θ 0).id=some (.cells asx (θ 0).bY)->cZ θ ρ cs asx->h.aU.get (θ 1).id=some (.cells bsx (θ 1).bY)->cZ θ ρ bs bsx->vt (θ 0) (θ 1)->
  dy P (.func g) avs h (λv h'=>VS θ ρ r0 v/\∃xs,cZ θ ρ cs' xs/\h.store (θ 0).id 0 xs=some h')):SC P g args [.cells cs,.cells bs] [] (λr S'=>r=r0/\S'=[.cells cs',.cells bs]):=by
 intro E θ ρ h avs hE hR hA;obtain⟨⟨k1,k2,k3,k4⟩,asx,q1,q2,q3⟩:=hR.obj 0 _ rfl (λh=>by cases h);obtain⟨_,bsx,p1,p2,_⟩:=hR.obj 1 _ rfl (λh=>by cases h);have hsep:=hR.sep 0 1 _ _ (by decide) rfl (λh=>by cases h) rfl (λh=>by cases h)
 have hidn:(θ 0).id<E.h.next:=by rcases k1 with e | e<;>rw[e];exact k2.2;exact k3.2
 have e1:E.h.aU=h.aU:=by rw[hE]
 have e2:E.h.dB=h.dB:=by rw[hE]
 have e3:E.h.next=h.next:=by rw[hE]
 rw[e1] at q1 p1;rw[e2] at q3;rw[e3] at hidn;have kx:=k2.2;have ky:=k3.2;rw[e3] at kx ky;refine(H θ ρ h avs asx bsx hA q1 q2 p1 p2 hsep).mono ?_;rintro v h' ⟨hv,xs,hxs,hst⟩;obtain⟨h1,g1,g2,g3⟩:=hR.store (o:=0) (cs:=cs) (vs:=cs') (off:=0) rfl hxs (hone θ ρ xs hxs) (by omega);rw[hE] at g1;have g4:=Dn q1 q3 hidn kx ky g1;rw[hst] at g4;cases g4;refine⟨r0,[.cells cs',.cells bs],_,ρ,h1,⟨rfl,rfl⟩,rfl,?_,g3 _ _ hv,af _,?_⟩
 ·have:(cs.take 0++(cs'++cs.drop (0+cs'.length)))=cs':=by
   rw[eP,hlen,List.drop_length,ch,take_zero,nil_append]
  rw[this] at g2;exact g2
 ·intro i hi _;by_cases h0:i=0
  ·subst h0;rw[cz]
  ·rw[bV _ _ h0]
def SC.same{P:Program}{g:FuncId}{args:List SV}{S:List SO}{r0:SV}(H:∀(θ:Nat->Loc) (ρ:kq) (h:H) (avs:List AV),cZ θ ρ args avs->dy P (.func g) avs h (λv h'=>VS θ ρ r0 v/\h'=h)):SC P g args S [] (λr S'=>r=r0/\S'=S):=by
 intro E θ ρ h avs hE hR hA σ w args' hv hr;have hl:=hr.Ar;refine dy.mono (H θ ρ h avs hA) ?_ σ w args' hv hr;rintro v h' ⟨hv,rfl⟩;refine⟨r0,S,θ,ρ,E.h,⟨rfl,rfl⟩,?_,hR,hv,af _,λi hi _=>rfl⟩;rw[hE];show h'={ h' with low:=gE h'.low h'.next };rw[TP _ _ hl]
end
end Go.Ev
namespace Go.Proofs
open Go.Ev Go.RowKit Go.Shelf Go.Lib Go.Sort
set_option maxRecDepth 100000
abbrev TX:=ByteArray×ByteArray×Int
def oF(x:TX):List Value:=[.string x.1,.string x.2.1,.int .i64 x.2.2]
def By(x:TX):Xf:=⟨qH x.1,qH x.2.1,x.2.2⟩
def Uk(x y:TX):Bool:=pG (By x) (By y)
def VR:SWO Uk where
 irrefl:=λx=>yC _
 trans:=λx y z h1 h2=>mK h1 h2
 ntrans:=λx y z h1 h2=>by
  unfold Uk at *;cases h:pG (By x) (By z)
  ·rfl
  ·rcases yD (By x) (By y) with g | ⟨g1,g2⟩ | g
   ·rw[g] at h1;cases h1
   ·rw[(PB ⟨g1,g2⟩ _).1,h2] at h;cases h
   ·have:=mK g h;rw[h2] at this;cases this
def UI(x y:TX):Vn x.1 x.2.1 y.1 y.2.1=Uk x y:=by
 unfold Vn Uk pG By qH;simp only[ByteArray.toList_eq];have e1:∀a b:List UInt8,Op.bytesLess a b=iD (a.map (·.toNat)) (b.map (·.toNat)):=λa b=>(pj a b).symm
 have e2:∀a b:List UInt8,(a==b)=decide (a.map (·.toNat)=b.map (·.toNat)):=λa b=>by
  by_cases h:a=b
  ·subst h;simp
  ·have:¬a.map (·.toNat)=b.map (·.toNat):=λhe=>h (List.map_inj_right (λx y=>UInt8.toNat_inj.1) |>.1 he);simp[h,this]
 rw[e1,e1,e2]
def xF:prog.info? 35=some Tryz.t35:=by kernel_rfl
def Bm:prog.info? 45=some t45:=by kernel_rfl
def VT(n:Nat)(h2:2<=n):Lib.swapperK n t45 25=9:=by
 have a:t45.hasPointers=true:=by kernel_rfl
 have b:t45.bytes=40:=by kernel_rfl
 have c:(n==0)=false:=by simp;omega
 have d:(n==1)=false:=by simp;omega
 simp[Lib.swapperK,a,b,c,d]
def Wj:Option Value->ByteArray
 | some (.string s)=>s
 | _=>ByteArray.empty
def WE:Option Value->Int
 | some (.int _ n)=>n
 | _=>0
def S9(c:Array Value)(d i:Nat):TX:=(Wj c[d+i*3]?,Wj c[d+i*3+1]?,WE c[d+i*3+2]?)
def Qg{σ:Sg}{c:Array Value}{d:Nat}{ts:List Xf}(hV:∀(i:Nat) (a:AV),(ts.map Xf.av).flatten[i]?=some a->∃v,c[d+i]?=some v/\V σ a v){i:Nat}{t:Xf}(ht:ts[i]?=some t):
 By (S9 c d i)=t/\∀k,k<3->c[d+i*3+k]?=some (oF (S9 c d i))[k]!:=by
 have hw:∀r∈ts.map Xf.av,r.length=3:=by intro r hr;obtain⟨t,_,rfl⟩:=mem_map.1 hr;rfl
 have hg:=(by rw[ck,ht];rfl:(ts.map Xf.av)[i]?=some t.av);have h0:=pX hw hg (k:=0) (by omega);have h1:=pX hw hg (k:=1) (by omega);have h2:=pX hw hg (k:=2) (by omega);obtain⟨v0,g0,V0⟩:=hV _ _ (h0.trans (show t.av[0]?=some (.str t.fr) from rfl));obtain⟨v1,g1,V1⟩:=hV _ _ (h1.trans (show t.av[1]?=some (.str t.to) from rfl));obtain⟨v2,g2,V2⟩:=hV _ _ (h2.trans (show t.av[2]?=some (.int .i64 t.am) from rfl));rw[hD] at g0;rw[<-Nat.add_assoc] at g1 g2
 cases V0 with
 | @str _ s0 e0=>cases V1 with
  | @str _ s1 e1=>
   cases V2
   have hrd:S9 c d i=(s0,s1,t.am):=by unfold S9;rw[g0,g1,g2];rfl
   rw[hrd];refine⟨?_,λk hk=>?_⟩
   ·unfold By qH;simp only[e0,e1]
   ·match k,hk with
    | 0,_=>rw[hD];exact g0
    | 1,_=>exact g1
    | 2,_=>exact g2
def PV(x:TX):∀v∈oF x,v.oneCell'=true:=by
 intro v hv;simp[oF] at hv
 rcases hv with rfl | rfl | rfl<;>rfl
def Ix(ts:List Xf)(id cid bY cf:Nat)(h:Ev.H)(ho:h.aU.get id=some (.cells (ts.map Xf.av).flatten bY))(hcell:h.aU.get cid=some (.cells [.slice (some (id,0)) ts.length 3 none] cf))(hff:bY≠cf)(hii:id≠cid)(h1:1<ts.length)(hlen:ts.length<=1000000):
 dy prog (.func 56) [.iface 35 (.slice (some (id,0)) ts.length 3 none),.fn (.func 57) [] [.ptr (some (cid,0))]] h (λr h'=>r=.bC []/\∃ts':List Xf,ts'.Perm ts/\(ts'.Pairwise λa b=>pG b a=false)/\h.store id 0 (ts'.map Xf.av).flatten=some h'):=by
 intro σ w args' hv hr;obtain⟨x,y,rfl,hx,hy⟩:=F3 hv;have hV:=hx
 cases hx with
 | @iface _ _ sv hsv=>
 cases hy with
 | @fn _ _ _ fs' cs' hfy k1 k2 k3 k4=>
 have hfs:fs'=#[]:=by
  have:fs'.size=0:=by rw[<-k1];rfl
  exact Array.eq_empty_of_size_eq_zero this
 subst hfs
 have hcs:∃x,cs'=#[x]/\V σ (.ptr (some (cid,0))) x:=by
  have hl:VL σ [.ptr (some (cid,0))] cs'.toList:=⟨by simpa using k3,λi a v p q=>k4 i a v p (by simpa using q)⟩;obtain⟨x,l,e,h1,h2⟩:=hl.dC;have:=h2.nZ;subst this;exact⟨x,Array.ext' e,h1⟩
 obtain⟨bx,rfl,hbx⟩:=hcs
 cases hbx with
 | @ptr _ _ pc hpc=>
 have hw0:∀r∈ts.map Xf.av,r.length=3:=by intro r hr;obtain⟨t,_,rfl⟩:=mem_map.1 hr;rfl
 rw[ei dE func56 (by rfl)]
 cases hsv with
 | @slice _ _ _ _ _ a p c hs hl hrr hcc ha=>
 have ha:a=⟨p.b,p.d+0,none⟩:=ha.resolve_right (by omega);subst ha;obtain⟨q,carr,et,hq,hb,hsz,hlen',hVc⟩:=hr.cells ho;rw[hs] at hq;cases hq
 have hfl:(ts.map Xf.av).flatten.length=ts.length*3:=by
  have:=jT (s:=3) hw0;rw[b8] at this;exact this
 have hpb:pc.b≠p.b:=by
  intro e;have hsep:=hr.sep cid id _ _ pc p (Ne.symm hii) hcell ho hpc hs e
  rcases hsep with⟨_,_,f,e1,e2⟩ | ⟨_,_,e1,_⟩
  ·cases e1;cases e2;exact hff rfl
  ·cases e1
 have hpcl:=hr.lt hcell hpc;have hpl:=hr.lt ho hs;obtain⟨q2,c2,et2,hq2,hb2,hsz2,hlen2,hVc2⟩:=hr.cells hcell;rw[hpc] at hq2;cases hq2;obtain⟨bv,hbv,hbV⟩:=hVc2 0 _ rfl
 have hbv':∃c',bv=.slice (some ⟨p.b,p.d+0,none⟩) ts.length c':=by
  cases hbV with
  | @slice _ _ _ _ _ a' p' c' hs' hl' _ _ ha'=>
   rw[hs] at hs';cases hs';exact⟨c',by rw[ha'.resolve_right (by omega)]⟩
 obtain⟨c',rfl⟩:=hbv'
 let d:Array TX:=Array.ofFn (n:=ts.length) λi=>S9 carr p.d i.1
 have hdsz:d.size=ts.length:=by simp[d]
 have hdi:∀i,i<ts.length->d[i]! = S9 carr p.d i:=λi hi=>by
  rw[getElem!_pos d i (by rw[hdsz];exact hi)];simp[d]
 have hspec:∀i,i<ts.length->ts[i]?=some (By (S9 carr p.d i))/\∀k,k<3->carr[p.d+i*3+k]?=some (oF (S9 carr p.d i))[k]!:=λi hi=>
  have g:=Qg hVc (aj hi)
  ⟨by rw[aj hi,g.1],g.2⟩
 have hH:HoldsK oF 3 w p.b (p.d+0) d:=by
  intro j hj;rw[size_flatK,hdsz] at hj
  have hi:j/3<ts.length:=by omega
  have hk:j%3<3:=by omega
  rw[get_flatK _ _ _ _ (by rw[hdsz];exact hj),hdi _ hi];have:=(hspec _ hi).2 _ hk;refine⟨?_,vU hb⟩;rw[cell_of hb,show p.d+0+j=p.d+j/3*3+j%3 by omega];exact this
 have hcellb:w.cell? ⟨pc.b,pc.d+0,none⟩=some (.slice (some ⟨p.b,p.d+0,none⟩) ts.length c'):=by rw[cell_of hb2];exact hbv
 have hless:LessReadsK prog 57 #[.pointer (some ⟨pc.b,pc.d+0,none⟩)] oF 3 Uk p.b (p.d+0) d.size w:=by
  intro m os dk hdk i j hi hj
  have e:sortWorldK oF 3 w p.b (p.d+0) m dk os=putRowK oF 3 (grow (Sort.ahead w m) os) p.b (p.d+0) dk:=by
   unfold sortWorldK;rw[putRowK_grow _ _ (Sort.ahead w m) _ p.b (p.d+0) _ hpl]
  have hHg:HoldsK oF 3 (grow (Sort.ahead w m) os) p.b (p.d+0) d:=holdsK_grow _ _ _ _ p.b (p.d+0) d hpl (holdsK_ahead _ _ _ _ _ _ _ hH);have hHd:=holdsK_putRowK oF 3 _ p.b (p.d+0) d dk hHg hdk
  have hl:=N5 p.b (p.d+0) c' pc.b (pc.d+0) d.size (sortWorldK oF 3 w p.b (p.d+0) m dk os) (λt=>dk[t]!.1) (λt=>dk[t]!.2.1)
   (by rw[e,cell?_putRowK_other _ _ _ p.b (p.d+0) dk _ hpb,cell?_grow _ _ _ (by exact hpcl)];exact(by rw[hdsz];exact hcellb))
   (λt ht=>by rw[e];exact(hHd.cell (i:=t) (c:=0) (by omega) (by omega)).1) (λt ht=>by rw[e];exact(hHd.cell (i:=t) (c:=1) (by omega) (by omega)).1) i j hi hj (by rw[hdsz];omega)
  rw[UI] at hl;exact hl
 have hmain:=Any.sort_Slice_cells_sorted vc 35 45 Tryz.t35 t45 xF (by kernel_rfl) (by kernel_rfl) Bm 25 (λ_=>by kernel_rfl) oF 3 (λ_=>rfl) (by kernel_rfl) (λ_=>by kernel_rfl)
  PV Uk VR 57 #[.pointer (some ⟨pc.b,pc.d+0,none⟩)] (enters_of ge (by kernel_rfl) rfl) p.b (p.d+0) c d (by rw[hdsz];omega) (by rw[hdsz];omega) 160 (by rw[VT _ (by rw[hdsz];omega)];kernel_rfl) false
  (λargs W=>run_callFunc_extern Tryz.func160 (by kernel_rfl) (by kernel_rfl) (by kernel_rfl) (e:=Extern.ReflectliteSwapper.swap false) (by kernel_rfl) args W) w hless hH hpl
 rw[hdsz] at hmain;refine Calls.mono hmain ?_;rintro e w' ⟨rfl,d',n,os,⟨hp1,_,hp3⟩,hsorted,rfl⟩;rw[hdsz] at hp1
 have hdl:d.toList.map By=ts:=by
  apply List.ext_getElem?;intro i;by_cases hi:i<ts.length
  ·rw[ck,f3,cv (by rw[hdsz];exact hi),bb,(hspec i hi).1]
   congr 2
   have:=hdi i hi;rw[getElem!_pos d i (by rw[hdsz];exact hi)] at this;exact this
  ·rw[dv (by simp[hdsz];omega),dv (by omega)]
 have hex:∀a:Array TX,a.size=ts.length->(a.extract 0 ts.length).toList=a.toList:=λa ha=>by
  rw[Array.toList_extract,List.extract_eq_take_drop,List.drop_zero,cd,bt (by simp[ha])]
 rw[hex _ hp1,hex _ hdsz] at hp3
 have hperm:(d'.toList.map By).Perm ts:=by rw[<-hdl];exact hp3.map _
 have hsx:(d'.toList.map By).Pairwise λa b=>pG b a=false:=by
  rw[List.pairwise_iff_getElem];intro i j hi hj hij;rw[b8,f8] at hi hj;have:=hsorted i j (ce _) hij (by omega);rw[getElem!_pos d' j hj,getElem!_pos d' i hi] at this;simp only[List.getElem_map,Array.getElem_toList];exact this
 have hlen2:(d'.toList.map By).length=ts.length:=by rw[b8,f8,hp1]
 have hw3:∀r∈(d'.toList.map By).map Xf.av,r.length=3:=by intro r hr;obtain⟨t,_,rfl⟩:=mem_map.1 hr;rfl
 have hb1:(putRowK oF 3 (Sort.ahead w n) p.b (p.d+0) d').heap[p.b]?=some (.cells (putCells _root_.id (p.d+0) (flatK oF 3 d') carr) et (0,0)):=by
  unfold putRowK putRow mapBlock;simp only[fy,if_true];rw[show(Sort.ahead w n).heap[p.b]?=some (.cells carr et (0,0)) from hb];rfl
 have hoth:∀b,b≠p.b->(putRowK oF 3 (Sort.ahead w n) p.b (p.d+0) d').heap[b]?=w.heap[b]?:=λb hbb=>by
  unfold putRowK putRow mapBlock;simp only[fy];rw[ul (λe=>hbb e.symm)];rfl
 have hVn:∀(i:Nat) (a:AV),((d'.toList.map By).map Xf.av).flatten[i]?=some a->∃v,(putCells _root_.id (p.d+0) (flatK oF 3 d') carr)[p.d+i]?=some v/\V σ a v:=by
  intro i a hia
  have hil:i<ts.length*3:=by
   have:=Jy hia;rw[jT hw3,b8,hlen2] at this;exact this
  have hj:i/3<d'.size:=by omega
  have hrow:((d'.toList.map By).map Xf.av)[i/3]?=some (By d'[i/3]!).av:=by
   rw[ck,ck,f3,cv hj,getElem!_pos d' _ hj];rfl
  have hat:=pX hw3 hrow (k:=i%3) (by omega);rw[show i/3*3+i%3=i by omega,hia] at hat
  have hcl:p.d+i<carr.size:=by omega
  have hput:(putCells _root_.id (p.d+0) (flatK oF 3 d') carr)[p.d+i]?=some ((oF d'[i/3]!)[i%3]!):=by
   unfold putCells;rw[Array.getElem?_mapIdx,cv hcl,bb,t8 ⟨by omega,by rw[size_flatK];omega⟩];rw[show p.d+i-(p.d+0)=i by omega,get_flatK _ _ _ _ (by omega)];rfl
  refine⟨_,hput,?_⟩;generalize d'[i/3]! = x at hat
  have h3:i%3=0\/i%3=1\/i%3=2:=by omega
  rcases h3 with e | e | e<;>rw[e] at hat ⊢
  ·cases hat;exact .str rfl
  ·cases hat;exact .str rfl
  ·cases hat;exact .int _ _
 obtain⟨r1,r2⟩:=hr.rewrite ho hs (cs':=((d'.toList.map By).map Xf.av).flatten) (by rw[jT hw3,b8,hlen2,hfl]) hb hb1 (by unfold putCells;rw[Array.size_mapIdx]) hVn hoth (by unfold putRowK putRow mapBlock;simp[Sort.ahead]) rfl rfl rfl
 have hbel:Below (putRowK oF 3 (Sort.ahead w n) p.b (p.d+0) d').heap.size (putRowK oF 3 (Sort.ahead w n) p.b (p.d+0) d') (grow (putRowK oF 3 (Sort.ahead w n) p.b (p.d+0) d') os):=
  ⟨rfl,rfl,rfl,by rw[size_grow];omega,λk hk=>by unfold grow;simp only;rw[Array.getElem?_append_left hk]⟩
 have hkeep:=pL r1 hbel;refine⟨_,rfl,.bC [],_,⟨rfl,d'.toList.map By,hperm,hsx,?_⟩,σ,V.jG,hkeep.1,r2.trans hkeep.2⟩
 have hfl2:((d'.toList.map By).map Xf.av).flatten.length=(ts.map Xf.av).flatten.length:=by rw[jT hw3,b8,hlen2,hfl]
 have hone:((d'.toList.map By).map Xf.av).flatten.all ke=true:=by
  rw[all_eq_true];intro x hx;rw[List.mem_flatten] at hx;obtain⟨r,hr1,hr2⟩:=hx;obtain⟨k,_,rfl⟩:=mem_map.1 hr1;unfold Xf.av at hr2;simp only[mem_cons,dd,or_false] at hr2
  rcases hr2 with rfl | rfl | rfl<;>rfl
 unfold H.store;rw[ho];simp only;rw[hfl2,eP,eZ (af _),hone,Bool.and_self,ae,take_zero,nil_append,ct (af _),ch]
def xP(v:AV)(n:Nat)(cid:Nat)(h:Ev.H)(hn:n<=1)(hv0:(n=0/\v=.slice none 0 0 (some 0))\/∃id,v=.slice (some (id,0)) n 3 none):
 dy prog (.func 56) [.iface 35 v,.fn (.func 57) [] [.ptr (some (cid,0))]] h (λr h'=>r=.bC []/\h'=h):=by
 intro σ w args' hv hr;obtain⟨x,y,rfl,hx,hy⟩:=F3 hv
 cases hx with
 | @iface _ _ sv hsv=>
 cases hy with
 | @fn _ _ _ fs' cs' hfy k1 k2 k3 k4=>
 rw[ei dE func56 (by rfl)]
 have htiny:∃(p:Option Addr) (c:Nat),sv=.slice p n c:=by
  rcases hv0 with⟨rfl,rfl⟩ | ⟨id,rfl⟩
  ·cases hsv with
   | iu hl=>exact⟨none,0,rfl⟩
  ·cases hsv with
   | slice hs hl hrr hcc ha=>exact⟨_,_,rfl⟩
 obtain⟨p,c,rfl⟩:=htiny;have hf:=λf hf=>Any.sort_Slice_tiny vc 35 45 Tryz.t35 t45 xF (by kernel_rfl) (by kernel_rfl) Bm 25 (λ_=>by kernel_rfl) p n c hn f hf (.func 57) fs' cs' w
 have h01:n=0\/n=1:=by omega
 refine Calls.mono (hf (if n=0 then 152 else 153) (by rcases h01 with e | e<;>rw[e]<;>kernel_rfl)) ?_;rintro e w' ⟨rfl,os,rfl⟩;have hb:Below w.heap.size w (grow w os):=⟨rfl,rfl,rfl,by rw[size_grow];omega,λk hk=>by simp[grow,Array.getElem?_append,hk]⟩;have hk:=pL hr hb;exact⟨_,rfl,.bC [],h,⟨rfl,rfl⟩,σ,V.jG,hk.1,hk.2⟩
def Ju:∀l:List Xf,ia (l.flatMap aC)=some (l.map Xf.av).flatten
 | []=>rfl
 | a::l=>by
  show ia (ab a.fr::ab a.to::aa a.am::l.flatMap aC)=_;rw[ia,ia,ia,Ju l];rfl
def lj:Ld:=by
 constructor
 ·intro ts hne hlen hk;by_cases h1:ts.length=1
  ·obtain⟨t,rfl⟩:∃t,ts=[t]:=List.length_eq_one_iff.1 h1;refine SC.same λθ ρ h avs hA=>?_;rw[aJ] at hA;obtain⟨a,r,rfl,hA1,hA⟩:=hA;rw[aJ] at hA;obtain⟨b,r,rfl,hA2,hA⟩:=hA;rw[aT] at hA;subst hA;rw[VS] at hA1;rw[VS] at hA2;obtain⟨y,rfl,hy⟩:=hA1;obtain⟨xs,ys,rfl,hxs,hys⟩:=hA2;rw[aT] at hxs;subst hxs;rw[aJ] at hys;obtain⟨b,r,rfl,hb,hys⟩:=hys;rw[aT] at hys;subst hys;rw[VS] at hy;rw[VS] at hb;subst hy;subst hb;refine(xP _ 1 _ h (af _) (.inr ⟨_,rfl⟩)).mono ?_;rintro v h' ⟨rfl,rfl⟩;exact⟨by rw[VS];exact⟨[],rfl,by rw[aT]⟩,rfl⟩
  have hl1:1<ts.length:=by have:=List.length_pos_iff.2 hne;omega
  refine SC.VN (by rw[aL (enc:=aC) (e:=3) (λ_=>rfl),aL (enc:=aC) (e:=3) (λ_=>rfl),(dD ts).length_eq]) (λθ ρ xs hx=>mE hx (PW _)) ?_;intro θ ρ h avs asx bsx hA ho hV hc hb hsep;rw[aJ] at hA;obtain⟨a,r,rfl,hA1,hA⟩:=hA;rw[aJ] at hA;obtain⟨b,r,rfl,hA2,hA⟩:=hA;rw[aT] at hA;subst hA;rw[VS] at hA1;rw[VS] at hA2;obtain⟨y,rfl,hy⟩:=hA1;obtain⟨xs,ys,rfl,hxs,hys⟩:=hA2;rw[aT] at hxs;subst hxs;rw[aJ] at hys;obtain⟨b,r,rfl,hbb,hys⟩:=hys;rw[aT] at hys;subst hys;rw[VS] at hy;rw[VS] at hbb;subst hy;subst hbb;rw[aJ] at hb;obtain⟨b,r,rfl,hb1,hb⟩:=hb;rw[aT] at hb;subst hb;rw[VS] at hb1;subst hb1;have has:=o5 hV (Ju ts);subst has
  have hii:(θ 0).id≠(θ 1).id:=by
   intro e;rw[e,hc] at ho
   injection ho with e1
   injection e1 with _ e2
   exact hsep.f e2.symm
  refine(Ix ts _ _ _ _ h ho hc hsep.f hii hl1 hlen).mono ?_;rintro v h' ⟨rfl,ts',hp,hs,hst⟩;have:=ox hk hp hs;subst this;refine⟨by rw[VS];exact⟨[],rfl,by rw[aT]⟩,_,?_,hst⟩;exact ud (Ju _)
 ·refine SC.same λθ ρ h avs hA=>?_;rw[aJ] at hA;obtain⟨a,r,rfl,hA1,hA⟩:=hA;rw[aJ] at hA;obtain⟨b,r,rfl,hA2,hA⟩:=hA;rw[aT] at hA;subst hA;rw[VS] at hA1;rw[VS] at hA2;obtain⟨y,rfl,hy⟩:=hA1;obtain⟨xs,ys,rfl,hxs,hys⟩:=hA2;rw[aT] at hxs;subst hxs;rw[aJ] at hys;obtain⟨b,r,rfl,hb,hys⟩:=hys;rw[aT] at hys;subst hys;rw[VS] at hy;rw[VS] at hb;subst hy;subst hb;refine(xP _ 0 _ h (by decide) (.inl ⟨rfl,rfl⟩)).mono ?_;rintro v h' ⟨rfl,rfl⟩;exact⟨by rw[VS];exact⟨[],rfl,by rw[aT]⟩,rfl⟩
open Go.Ev
def CH{l q:cQ}(hn:(l.map (·.1)).Nodup)(hp:l.Perm q)(k:Pr):getM 0 k l=getM 0 k q:=by
 have hq:(q.map (·.1)).Nodup:=(hp.map _).nodup_iff.1 hn;by_cases h:k∈l.map (·.1)
 ·obtain⟨e,he,rfl⟩:=mem_map.1 h;rw[o9 hn he,o9 hq (hp.mem_iff.1 he)]
 ·have hz:∀{m:cQ},k∉m.map (·.1)->getM 0 k m=0:=by
   intro m hm
   induction m with
   | nil=>rfl
   | cons a m ih=>
    rw[bk,mem_cons] at hm;rw[getM,ul (λe=>hm (.inl e)),ih (λe=>hm (.inr e))]
  rw[hz h,hz (λe=>h ((hp.map _).mem_iff.2 e))]
def EO(a b:Pr):(oO a=b)=(a=oO b):=by
 obtain⟨a1,a2⟩:=a;obtain⟨b1,b2⟩:=b;simp only[oO,Prod.mk.injEq,eq_iff_iff];exact⟨λh=>⟨h.2,h.1⟩,λh=>⟨h.2,h.1⟩⟩
def AD:∀(l:cQ) (m:cQ),(l.map (·.1)).Nodup->∀k,getM 0 k (l.foldl su m)=getM 0 k m+getM 0 k l-getM 0 (oO k) l
 | [],m,_,k=>by simp[getM]
 | e::l,m,hn,k=>by
  rw[bk,f7] at hn;rw[f4,AD l (su m e) hn.2 k]
  have hz:∀{q:Pr},q∉l.map (·.1)->getM 0 q l=0:=by
   intro q hq;generalize l=m at hq
   induction m with
   | nil=>rfl
   | cons a m ih=>
    rw[bk,mem_cons] at hq;rw[getM,ul (λe=>hq (.inl e)),ih (λe=>hq (.inr e))]
  have h0:=hz hn.1;unfold su;simp only[ic];rw[getM,getM];by_cases h1:k=e.1
  ·by_cases h2:k=oO e.1
   ·have h3:oO k=e.1:=by rw[EO];exact h2
    have h4:oO e.1=e.1:=by rw[<-h2,h1]
    simp only[h1,h4,if_true,h0];omega
   ·have h3:¬oO k=e.1:=by rw[EO];exact h2
    have h5:¬e.1=oO e.1:=by rw[<-h1];rw[h1] at h2 ⊢;exact h2
    have h6:¬oO e.1=e.1:=λh=>h5 h.symm;simp only[h1,h5,h6,if_true,if_false,h0];omega
  ·by_cases h2:k=oO e.1
   ·have h5:¬oO e.1=e.1:=by rw[<-h2];exact h1
    have h6:oO (oO e.1)=e.1:=rfl;simp only[h2,h5,h6,if_true,if_false,h0];omega
   ·have h3:¬oO k=e.1:=by rw[EO];exact h2
    simp only[h1,h2,h3,if_false]
def q0{m:cQ}(hn:(m.map (·.1)).Nodup)(t:Xf):t∈fV m↔0<t.am/\getM 0 (t.fr,t.to) m=t.am:=by
 unfold fV;rw[mem_map];constructor
 ·rintro⟨e,he,rfl⟩;obtain⟨h1,h2⟩:=mem_filter.1 he;exact⟨ww h2,o9 hn h1⟩
 ·rintro⟨h1,h2⟩
  have hm:(((t.fr,t.to):Pr),t.am)∈m:=by
   rw[<-h2]
   have h3:getM 0 (t.fr,t.to) m≠0:=by omega
   clear h2 hn
   induction m with
   | nil=>exact t7 rfl h3
   | cons a m ih=>
    rw[getM] at h3 ⊢;split
    ·rename_i h;rw[h];exact bi
    ·rename_i h;rw[ul h] at h3;exact be _ (ih h3)
  exact⟨_,mem_filter.2 ⟨hm,ut h1⟩,rfl⟩
def Bb{a b:cQ}(ha:(a.map (·.1)).Nodup)(hb:(b.map (·.1)).Nodup)(h:∀k,getM 0 k a=getM 0 k b):cL a=cL b:=by
 have hbig:∀{a b:cQ},(a.map (·.1)).Nodup->(∀k,getM 0 k a=getM 0 k b)->a.any (λe=>decide (1000000000000<e.2))=true->b.any (λe=>decide (1000000000000<e.2))=true:=by
  intro a b ha h hh;obtain⟨e,he,h1⟩:=any_eq_true.1 hh;have h1:=ww h1;rw[<-o9 ha he,h] at h1
  have hm:(e.1,getM 0 e.1 b)∈b:=by
   have h3:getM 0 e.1 b≠0:=by omega
   clear h h1 hh
   induction b with
   | nil=>exact t7 rfl h3
   | cons x m ih=>
    rw[getM] at h3 ⊢;split
    ·rename_i h;rw[h];exact bi
    ·rename_i h;rw[ul h] at h3;exact be _ (ih h3)
  exact any_eq_true.2 ⟨_,hm,ut h1⟩
 have e1:a.any (λe=>decide (1000000000000<e.2))=b.any (λe=>decide (1000000000000<e.2)):=by
  rw[Bool.eq_iff_iff];exact⟨hbig ha h,hbig hb λk=>(h k).symm⟩
 have hka:=mN a ha;have hkb:=mN b hb;have hn:∀{l:List Xf},(l.map gl).Nodup->l.Nodup:=λh=>List.Pairwise.of_map gl (λa b hab e=>hab (by rw[e])) h
 have hp:(fV a).Perm (fV b):=(em (hn hka) (hn hkb)).2 λt=>by rw[q0 ha,q0 hb,h]
 have hs:eR (fV a)=eR (fV b):=ox hkb ((dD _).trans hp) ((lx _).imp λh=>by unfold Em at h;simpa using h);unfold cL;rw[e1,hs]
def Nt(a b:cQ)(ha:(a.map (·.1)).Nodup)(hp:a.Perm b):cL (qx a)=cL (qx b):=by
 refine Bb (wq a) (wq b) λk=>?_;unfold qx;rw[AD _ _ ha,AD _ _ ((hp.map _).nodup_iff.1 ha),CH ha hp,CH ha hp]
def nO(ts:List Xf)(k:Pr):Int:=(ts.map λt=>if gl t=k then t.am else 0).sum
def A5(a b:List Xf)(k:Pr):nO (a++b) k=nO a k+nO b k:=by unfold nO;rw[List.map_append,List.sum_append]
def Ds{a b:List Xf}(h:a.Perm b)(k:Pr):nO a k=nO b k:=Hw (h.map _)
def yI{k:Pr}:∀{l:List Xf},(∀t∈l,gl t≠k)->nO l k=0
 | [],_=>rfl
 | x::l,h=>by
  have ih:=yI (l:=l) λt ht=>h t (be _ ht);unfold nO at ih ⊢;rw[bk,ca,ih,ul (h x bi)];rfl
def uW:∀{l:List Xf},(l.map gl).Nodup->∀{t:Xf},t∈l->nO l (gl t)=t.am
 | [],_,t,h=>by cases h
 | x::l,hn,t,h=>by
  rw[bk,f7] at hn
  rcases mem_cons.1 h with rfl | h
  ·have:=yI (k:=gl t) (l:=l) λy hy e=>hn.1 (by rw[<-e];exact el hy);unfold nO at this ⊢;rw[bk,ca,this,t8 rfl,Int.add_zero]
  ·have ih:=uW hn.2 h;unfold nO at ih ⊢;rw[bk,ca,ih,ul (λe=>hn.1 (by rw[e];exact el h)),Int.zero_add]
def PE{l:List Xf}(hn:(l.map gl).Nodup)(hp:∀t∈l,0<t.am)(t:Xf):t∈l↔0<t.am/\nO l (gl t)=t.am:=by
 refine⟨λh=>⟨hp t h,uW hn h⟩,λ⟨h1,h2⟩=>?_⟩;by_cases h:∃y∈l,gl y=gl t
 ·obtain⟨y,hy,e⟩:=h;have h3:=uW hn hy;rw[e,h2] at h3
  have:t=y:=by
   obtain⟨a,b,n⟩:=t;obtain⟨a',b',n'⟩:=y;unfold gl at e;simp only[Prod.mk.injEq] at e h3;rw[e.1,e.2,h3]
  rw[this];exact hy
 ·rw[yI λy hy e=>h ⟨y,hy,e⟩] at h2;omega
def HT{m:cQ}(hn:(m.map (·.1)).Nodup)(h0:∀k,0<=getM 0 k m)(k:Pr):nO (fV m) k=getM 0 k m:=by
 by_cases h:0<getM 0 k m
 ·have:(⟨k.1,k.2,getM 0 k m⟩:Xf)∈fV m:=(q0 hn _).2 ⟨h,rfl⟩;exact uW (mN m hn) this
 ·have hz:getM 0 k m=0:=by have:=h0 k;omega
  rw[hz];refine yI λt ht e=>?_;obtain⟨h1,h2⟩:=(q0 hn t).1 ht;unfold gl at e;rw[e,hz] at h2;omega
def nL(t:Xf):List Xf->List Xf
 | []=>[t]
 | x::l=>if pG x t then x::nL t l else if x.fr=t.fr/\x.to=t.to then ⟨t.fr,t.to,t.am+x.am⟩::l else t::x::l
def BA(l:List Xf)(t:Xf):List Xf:=if t.am=0 then l else nL t l
def ma(l:List Xf):List Xf:=l.foldl BA []
def FV{t y:Xf}:∀{l:List Xf},y∈nL t l->gl y=gl t\/y∈l
 | [],h=>by rw[nL,mem_singleton] at h;rw[h];exact .inl rfl
 | x::l,h=>by
  rw[nL] at h;split at h
  ·rcases mem_cons.1 h with rfl | h
   ·exact .inr bi
   ·exact(FV h).imp id (be _)
  ·split at h
   ·rcases mem_cons.1 h with rfl | h
    ·exact .inl rfl
    ·exact .inr (be _ h)
   ·rcases mem_cons.1 h with rfl | h
    ·exact .inl rfl
    ·exact .inr h
def Er{a b c d:Xf}(h1:gl a=gl c)(h2:gl b=gl d):pG a b=pG c d:=by
 unfold gl at h1 h2;simp only[Prod.mk.injEq] at h1 h2;unfold pG;rw[h1.1,h1.2,h2.1,h2.2]
def Le{t:Xf}:∀{l:List Xf},l.Pairwise (λa b=>pG a b=true)->(nL t l).Pairwise λa b=>pG a b=true
 | [],_=>List.pairwise_singleton ..
 | x::l,h=>by
  obtain⟨h1,h2⟩:=pairwise_cons.1 h;rw[nL];split
  ·rename_i g;refine pairwise_cons.2 ⟨λy hy=>?_,Le h2⟩
   rcases FV hy with e | hy
   ·rw[Er rfl e];exact g
   ·exact h1 y hy
  ·rename_i g;split
   ·rename_i e;refine pairwise_cons.2 ⟨λy hy=>?_,h2⟩;rw[Er (a:=⟨t.fr,t.to,t.am+x.am⟩) (c:=x) (by unfold gl;simp[e.1,e.2]) rfl];exact h1 y hy
   ·rename_i e
    have hl:pG t x=true:=by
     rcases yD t x with k | k | k
     ·exact k
     ·exact t7 ⟨k.1.symm,k.2.symm⟩ e
     ·exact t7 k g
    refine pairwise_cons.2 ⟨λy hy=>?_,h⟩
    rcases mem_cons.1 hy with rfl | hy
    ·exact hl
    ·exact mK hl (h1 y hy)
def FW{t:Xf}(ht:0<t.am):∀{l:List Xf},(∀y∈l,0<y.am)->∀y∈nL t l,0<y.am
 | [],_,y,hy=>by rw[nL,List.mem_singleton] at hy;rw[hy];exact ht
 | x::l,h,y,hy=>by
  have hx:=h x List.mem_cons_self;rw[nL] at hy;split at hy
  ·rcases List.mem_cons.1 hy with rfl | hy
   ·exact hx
   ·exact FW ht (λy hy=>h y (List.mem_cons_of_mem _ hy)) y hy
  ·split at hy
   ·rcases List.mem_cons.1 hy with rfl | hy
    ·have:0<t.am+x.am:=by omega
     exact this
    ·exact h y (List.mem_cons_of_mem _ hy)
   ·rcases List.mem_cons.1 hy with rfl | hy
    ·exact ht
    ·exact h y hy
def FX(t:Xf)(k:Pr):∀l:List Xf,nO (nL t l) k=nO l k+(if gl t=k then t.am else 0)
 | []=>by unfold nO;rw[nL];simp
 | x::l=>by
  have ih:=FX t k l;unfold nO at ih ⊢;rw[nL];split
  ·rw[List.map_cons,List.sum_cons,ih,List.map_cons,List.sum_cons];omega
  ·split
   ·rename_i e
    have hk:gl x=gl t:=by unfold gl;rw[e.1,e.2]
    have hk2:gl (⟨t.fr,t.to,t.am+x.am⟩:Xf)=gl t:=rfl;rw[List.map_cons,List.sum_cons,List.map_cons,List.sum_cons,hk,hk2];have e1:(⟨t.fr,t.to,t.am+x.am⟩:Xf).am=t.am+x.am:=rfl;split<;>omega
   ·rw[List.map_cons,List.sum_cons];omega
structure DU (l q:List Xf):Prop where
 lt:q.Pairwise λa b=>pG a b=true
 pos:∀t∈q,0<t.am
 sum:∀k,nO q k=nO l k
def Rc{l q:List Xf}{t:Xf}(h:DU l q)(ht:0<=t.am):DU (l++[t]) (BA q t):=by
 have hs:∀k,nO [t] k=if gl t=k then t.am else 0:=λk=>by unfold nO;simp
 unfold BA;split
 ·rename_i h0;exact⟨h.lt,h.pos,λk=>by rw[A5,hs,h.sum,h0];split<;>omega⟩
 ·exact⟨Le h.lt,FW (by omega) h.pos,λk=>by rw[FX,A5,hs,h.sum]⟩
def GR:∀(l done q:List Xf),DU done q->(∀t∈l,0<=t.am)->DU (done++l) (l.foldl BA q)
 | [],done,q,h,_=>by rw[ch];exact h
 | t::l,done,q,h,ha=>by
  rw[f4,show done++t::l=(done++[t])++l by simp];exact GR l _ _ (Rc h (ha t bi)) λx hx=>ha x (be _ hx)
def PD{q:List Xf}(h:q.Pairwise λa b=>pG a b=true):(q.map gl).Nodup:=by
 refine List.pairwise_map.2 (h.imp λ{a b} hl e=>?_);rw[Er rfl e.symm,yC] at hl;cases hl
def M9{l:List Xf}{m:cQ}(hl:∀t∈l,0<=t.am)(hn:(m.map (·.1)).Nodup)(hs:∀k,nO l k=getM 0 k m):ma l=eR (fV m):=by
 have hj:=GR l [] [] ⟨.nil,λt h=>(by cases h),λ_=>rfl⟩ hl;rw[nil_append] at hj;have hk:=PD hj.lt;have hu:∀{l:List Xf},(l.map gl).Nodup->l.Nodup:=λh=>List.Pairwise.of_map gl (λa b hab e=>hab (by rw[e])) h;refine ox (mN m hn) ?_ (hj.lt.imp λ{a b} h=>?_)
 ·refine(em (hu hk) (hu (mN m hn))).2 λt=>?_;rw[PE hk hj.pos,q0 hn,hj.sum,hs];rfl
 ·cases hb:pG b a
  ·rfl
  ·have:=mK h hb;rw[yC] at this;cases this
section
variable {c:List aQ} {dmg:bu} {ws:List Wy} {l:List br}
def Ur(k:Pr)(own:List Nat)(ss:List Sh):Int:=(ss.map λy=>if ¬y.pt=own/\k=(y.pt,own) then y.am else 0).sum
def CI(k:Pr)(own:List Nat):∀(ss:List Sh) (m:cQ),getM 0 k (ep ss own m)=getM 0 k m+Ur k own ss
 | [],m=>by unfold ep Ur;simp
 | y::ss,m=>by
  have e:ep (y::ss) own m=ep ss own (if y.pt=own then m else jM 1 m ⟨y.pt,own,y.am⟩):=rfl;rw[e,CI k own ss];unfold Ur;rw[bk,ca];by_cases h:y.pt=own
  ·rw[t8 h,ul (λhh=>hh.1 h)];omega
  ·rw[ul h];unfold jM;rw[ic];by_cases hk:k=(y.pt,own)
   ·rw[t8 hk,t8 ⟨h,hk⟩,hk];simp only;omega
   ·rw[ul hk,ul (λhh=>hk hh.2)];omega
def MD(c:List aQ)(dmg:bu)(ws:List Wy)(l:List br)(k:Pr)(co:Co):Int:=if (eS c dmg ws l co).2.2=0 then Ur k co.owner (eS c dmg ws l co).1 else 0
def QH{k:Pr}{own:List Nat}:∀{ss:List Sh},(∀s∈ss,0<s.am)->0<=Ur k own ss
 | [],_=>c4 0
 | y::ss,h=>by
  have ih:=QH (k:=k) (own:=own) (ss:=ss) λs hs=>h s (be _ hs);have:=h y bi;unfold Ur at ih ⊢;rw[bk,ca];split<;>omega
def Re(k:Pr)(co:Co):0<=MD c dmg ws l k co:=by
 unfold MD;split
 ·exact QH λs hs=>((yJ c dmg ws l co).am s hs).1
 ·exact c4 0
def rS(k:Pr):∀(costs:List Co) (m:cQ),getM 0 k (du c dmg ws l costs m)=getM 0 k m+(costs.map (MD c dmg ws l k)).sum
 | [],m=>by unfold du;simp
 | co::costs,m=>by
  have e:du c dmg ws l (co::costs) m=du c dmg ws l costs (if (eS c dmg ws l co).2.2=0 then ep (eS c dmg ws l co).1 co.owner m else m):=rfl;rw[e,rS k costs,bk,ca];unfold MD;split
  ·rw[CI];omega
  ·omega
def Lf(k:Pr):∀costs:List Co,0<=(costs.map (MD c dmg ws l k)).sum
 | []=>c4 0
 | co::costs=>by
  have h1:=Lf k costs;have h2:=Re (c:=c) (dmg:=dmg) (ws:=ws) (l:=l) k co;rw[bk,ca];omega
def tq{m:cQ}(hn:(m.map (·.1)).Nodup):(cL m).2=0↔∀k,getM 0 k m<=1000000000000:=by
 unfold cL;constructor
 ·intro h k;refine Int.not_lt.1 λhk=>?_
  have hm:(k,getM 0 k m)∈m:=by
   have h3:getM 0 k m≠0:=by omega
   clear h hk hn
   induction m with
   | nil=>exact t7 rfl h3
   | cons x m ih=>
    rw[getM] at h3 ⊢;split
    ·rename_i h;rw[h];exact bi
    ·rename_i h;rw[ul h] at h3;exact be _ (ih h3)
  rw[t8 (any_eq_true.2 ⟨_,hm,ut hk⟩)] at h;cases h
 ·intro h;rw[ul];simp only[any_eq_true,wp,not_exists,not_and];intro e he;have:=h e.1;rw[o9 hn he] at this;omega
def tu(m:cQ):(cL m).2=0/\(cL m).1=eR (fV m)\/(cL m).2=13:=by
 unfold cL;split
 ·exact .inr rfl
 ·exact .inl ⟨rfl,rfl⟩
def Jl(one two:List Co):eY c dmg ws l (one++two)=eY c dmg ws l (two++one):=by
 unfold eY;split
 ·rfl
 ·refine Bb (ni dl) (ni dl) λk=>?_;rw[rS,rS,cc,cc,er,er];omega
def MO(one two:List Co):
 ((eY c dmg ws l (one++two)).2=1/\(eY c dmg ws l one).2=1/\(eY c dmg ws l two).2=1)\/(eY c dmg ws l (one++two)).2=13\/
 ((eY c dmg ws l (one++two)).2=0/\(eY c dmg ws l one).2=0/\(eY c dmg ws l two).2=0/\ma ((eY c dmg ws l one).1++(eY c dmg ws l two).1)=(eY c dmg ws l (one++two)).1):=by
 unfold eY;cases hb:yk c dmg ws l
 ·simp only[Bool.false_eq_true,if_false];have hk:=λcosts=>ni (c:=c) (dmg:=dmg) (ws:=ws) (l:=l) (costs:=costs) (m:=[]) dl
  rcases tu (du c dmg ws l (one++two) []) with⟨h0,h1⟩ | h13
  ·right;right;have hle:=(tq (hk (one++two))).1 h0
   have hg:∀costs k,getM 0 k (du c dmg ws l costs [])=(costs.map (MD c dmg ws l k)).sum:=λcosts k=>by rw[rS];show 0+_=_;omega
   have ha:∀k,getM 0 k (du c dmg ws l (one++two) [])=getM 0 k (du c dmg ws l one [])+getM 0 k (du c dmg ws l two []):=λk=>by rw[hg,hg,hg,cc,er]
   have hnn:∀costs k,0<=getM 0 k (du c dmg ws l costs []):=λcosts k=>by rw[hg];exact Lf k costs
   have e1:(cL (du c dmg ws l one [])).2=0:=(tq (hk one)).2 λk=>by have:=hle k;have:=ha k;have:=hnn two k;omega
   have e2:(cL (du c dmg ws l two [])).2=0:=(tq (hk two)).2 λk=>by have:=hle k;have:=ha k;have:=hnn one k;omega
   refine⟨h0,e1,e2,?_⟩;rw[h1]
   have f1:(cL (du c dmg ws l one [])).1=eR (fV (du c dmg ws l one [])):=by
    rcases tu (du c dmg ws l one []) with h | h
    ·exact h.2
    ·rw[h] at e1;cases e1
   have f2:(cL (du c dmg ws l two [])).1=eR (fV (du c dmg ws l two [])):=by
    rcases tu (du c dmg ws l two []) with h | h
    ·exact h.2
    ·rw[h] at e2;cases e2
   rw[f1,f2];refine M9 (λt ht=>?_) (hk (one++two)) λk=>?_
   ·have hp:∀m:cQ,t∈eR (fV m)->0<=t.am:=λm h=>by
     have h2:=(dD _).mem_iff.1 h;unfold fV at h2;obtain⟨e,he,rfl⟩:=mem_map.1 h2;have:=ww (mem_filter.1 he).2;show 0<=e.2;omega
    rcases mem_append.1 ht with h | h
    ·exact hp _ h
    ·exact hp _ h
   ·rw[A5,Ds (dD _),Ds (dD _),HT (hk one) (hnn one),HT (hk two) (hnn two),ha]
  ·exact .inr (.inl h13)
 ·simp only[if_true];exact .inl ⟨trivial,trivial,trivial⟩
end
def kR{p q:Prop}(h:p->q:=by intro h;(repeat (first | refine ku.ri (by rfl) rfl (by rfl) rfl (by simp only[bI,bj,ah,an,Option.bind_some,Option.map_some,↓reduceIte,Nat.reduceEqDiff,Nat.reduceAdd,Nat.reduceMul,Nat.reduceLeDiff,Nat.reduceLT,ae,ai,aN];first | done | rfl) (by simp only[bI,bj,ah,an,Option.bind_some,Option.map_some,↓reduceIte,Nat.reduceEqDiff,Nat.reduceAdd,Nat.reduceMul,Nat.reduceLeDiff,Nat.reduceLT,ae,ai,aN];first | done | rfl) (by first | exact trivial | ((simp only[lH])<;>(repeat' apply And.intro)<;>first | exact True.intro | exact .inr rfl | (refine .inr ?_;simp only[bI,bj,ah,an,Option.bind_some,Option.map_some,↓reduceIte,Nat.reduceEqDiff,Nat.reduceAdd,Nat.reduceMul,Nat.reduceLeDiff,Nat.reduceLT,ae,ai,aN,aM];first | done | rfl) | exact .inl (by kernel_rfl))) ?_ | refine ku.r (by rfl) rfl (by rfl) (by rfl) (by simp only[bI,bj,ah,an,Option.bind_some,Option.map_some,↓reduceIte,Nat.reduceEqDiff,Nat.reduceAdd,Nat.reduceMul,Nat.reduceLeDiff,Nat.reduceLT,ae,ai,aN];first | done | rfl) ?_ (by first | exact trivial | ((simp only[lH])<;>(repeat' apply And.intro)<;>first | exact True.intro | exact .inr rfl | (refine .inr ?_;simp only[bI,bj,ah,an,Option.bind_some,Option.map_some,↓reduceIte,Nat.reduceEqDiff,Nat.reduceAdd,Nat.reduceMul,Nat.reduceLeDiff,Nat.reduceLT,ae,ai,aN,aM];first | done | rfl) | exact .inl (by kernel_rfl))) | refine ku.rg (by rfl) rfl (by rfl) rfl (by intro S_;simp only[bI,bj,ah,an,Option.bind_some,Option.map_some,↓reduceIte,Nat.reduceEqDiff,Nat.reduceAdd,Nat.reduceMul,Nat.reduceLeDiff,Nat.reduceLT,ae,ai,aN];first | done | rfl) (by first | exact trivial | ((simp only[lH])<;>(repeat' apply And.intro)<;>first | exact True.intro | exact .inr rfl | (refine .inr ?_;simp only[bI,bj,ah,an,Option.bind_some,Option.map_some,↓reduceIte,Nat.reduceEqDiff,Nat.reduceAdd,Nat.reduceMul,Nat.reduceLeDiff,Nat.reduceLT,ae,ai,aN,aM];first | done | rfl) | exact .inl (by kernel_rfl))) ?_ | refine ku.s (by rfl) rfl (by rfl) rfl ?_ | fail));exact h)(k:p):q:=h k
def LI{p q r:Prop}(f:r)(h:r->p->q:=by intro f h;(repeat (first | refine ku.ri (by rfl) rfl (by rfl) rfl (by simp only[bI,bj,ah,an,Option.bind_some,Option.map_some,↓reduceIte,Nat.reduceEqDiff,Nat.reduceAdd,Nat.reduceMul,Nat.reduceLeDiff,Nat.reduceLT,ae,ai,aN,f];first | done | rfl) (by simp only[bI,bj,ah,an,Option.bind_some,Option.map_some,↓reduceIte,Nat.reduceEqDiff,Nat.reduceAdd,Nat.reduceMul,Nat.reduceLeDiff,Nat.reduceLT,ae,ai,aN,f];first | done | rfl) (by first | exact trivial | ((simp only[lH])<;>(repeat' apply And.intro)<;>first | exact True.intro | exact .inr rfl | (refine .inr ?_;simp only[bI,bj,ah,an,Option.bind_some,Option.map_some,↓reduceIte,Nat.reduceEqDiff,Nat.reduceAdd,Nat.reduceMul,Nat.reduceLeDiff,Nat.reduceLT,ae,ai,aN,aM,f];first | done | rfl) | exact .inl (by kernel_rfl))) ?_ | refine ku.r (by rfl) rfl (by rfl) (by rfl) (by simp only[bI,bj,ah,an,Option.bind_some,Option.map_some,↓reduceIte,Nat.reduceEqDiff,Nat.reduceAdd,Nat.reduceMul,Nat.reduceLeDiff,Nat.reduceLT,ae,ai,aN,f];first | done | rfl) ?_ (by first | exact trivial | ((simp only[lH])<;>(repeat' apply And.intro)<;>first | exact True.intro | exact .inr rfl | (refine .inr ?_;simp only[bI,bj,ah,an,Option.bind_some,Option.map_some,↓reduceIte,Nat.reduceEqDiff,Nat.reduceAdd,Nat.reduceMul,Nat.reduceLeDiff,Nat.reduceLT,ae,ai,aN,aM,f];first | done | rfl) | exact .inl (by kernel_rfl))) | refine ku.rg (by rfl) rfl (by rfl) rfl (by intro S_;simp only[bI,bj,ah,an,Option.bind_some,Option.map_some,↓reduceIte,Nat.reduceEqDiff,Nat.reduceAdd,Nat.reduceMul,Nat.reduceLeDiff,Nat.reduceLT,ae,ai,aN,f];first | done | rfl) (by first | exact trivial | ((simp only[lH])<;>(repeat' apply And.intro)<;>first | exact True.intro | exact .inr rfl | (refine .inr ?_;simp only[bI,bj,ah,an,Option.bind_some,Option.map_some,↓reduceIte,Nat.reduceEqDiff,Nat.reduceAdd,Nat.reduceMul,Nat.reduceLeDiff,Nat.reduceLT,ae,ai,aN,aM,f];first | done | rfl) | exact .inl (by kernel_rfl))) ?_ | refine ku.s (by rfl) rfl (by rfl) rfl ?_ | fail));exact h)(k:p):q:=h f k
def kN{p q:Prop}(h:p->q:=by intro h;refine ku.nil ?_;(try change aq _ _ _ _ _);exact h)(k:p):q:=h k
section
variable {P:Program} {ro:Option Nat} {all:List Oper} {ms:List Nat} {n:Nat} {b:Bool} {hp:List Nat} {l:List (Nat×Oper)} {f:Fm} {S:List SO} {K:Fm->List SO->Prop} {i:Nat} {o:Oper} {d:Nat} {f0:Fm} {kl:List (Nat×Nat)} {Q:Ex->ez->Prop}
def kZ{id:Nat}{ops:Array Oper}{st:ez}{ol:List Oper}(ms:List Nat)(h:ku P ro ol ms st.n st.f [] true [] (cO 0 ol) st.f st.S λf' S'=>Q .normal ⟨f',st.n,S',st.ds⟩)(hol:ops.toList=ol:=by rfl)(hms:og ol []=ms:=by kernel_rfl)(hok:((kP 0 ol&&P.follows .mixedOrders)&&(AP ol ms (cO 0 ol)&&Jh ms (cO 0 ol)))=true:=by kernel_rfl):aq P ro (.region id ops true) st Q:=aq.O1 hol hms hok h
def kA{f':Fm}{v:SV}{S':List SO}{k:Nat}(T:List Nat)(hst:dJ all n [o]=true:=by rfl)(hdst:o.dst=some d:=by rfl)(hw:cg all f o.guard=some true:=by rfl)(hwr:dQ o.op=true:=by rfl)(hms:hp.all (λj=>bR (ms.getD i 0) j)=true:=by kernel_rfl)(hT:((Du all ms i).all λt=>T.contains t)=true:=by kernel_rfl)
 (hop:cT P f S o.op=some (v,S',some k):=by simp only[bI,bj,ah,an,Option.bind_some,Option.map_some,↓reduceIte,Nat.reduceEqDiff,Nat.reduceAdd,Nat.reduceMul,Nat.reduceLeDiff,Nat.reduceLT,ae,ai,aN];first | done | rfl) (hf:di k f=f':=by simp only[eM,bj,ah,↓reduceIte,Nat.reduceEqDiff,Nat.reduceAdd,Nat.reduceSub,Nat.reduceMul,Nat.reduceLeDiff,Nat.reduceLT,di,dx,bO,aM,bI];first | done | rfl) (ht:T5 f0 f k T:=by (simp only[T5])<;>(repeat' apply And.intro)<;>first | exact True.intro | rfl | (simp only[eM,bj,ah,↓reduceIte,Nat.reduceEqDiff,Nat.reduceAdd,Nat.reduceSub,Nat.reduceMul,Nat.reduceLeDiff,Nat.reduceLT,di,dx,bO,aM,bI];first | done | rfl)) (hkl:lH ms i v kl:=by first | exact trivial | ((simp only[lH])<;>(repeat' apply And.intro)<;>first | exact True.intro | exact .inr rfl | (refine .inr ?_;simp only[bI,bj,ah,an,Option.bind_some,Option.map_some,↓reduceIte,Nat.reduceEqDiff,Nat.reduceAdd,Nat.reduceMul,Nat.reduceLeDiff,Nat.reduceLT,ae,ai,aN,aM];first | done | rfl) | exact .inl (by kernel_rfl))) (h:ku P ro all ms n f0 ((i,k)::kl) false hp l ((d,v)::f') S' K):ku P ro all ms n f0 kl b hp ((i,o)::l) f S K:=.a T hst hdst hw hwr hms hT hop hf ht hkl h
def uk{r:Prop}{f':Fm}{v:SV}{S':List SO}{k:Nat}(T:List Nat)(c:r)(hst:dJ all n [o]=true:=by rfl)(hdst:o.dst=some d:=by rfl)(hw:cg all f o.guard=some true:=by rfl)(hwr:dQ o.op=true:=by rfl)(hms:hp.all (λj=>bR (ms.getD i 0) j)=true:=by kernel_rfl)(hT:((Du all ms i).all λt=>T.contains t)=true:=by kernel_rfl)
 (hop:r->cT P f S o.op=some (v,S',some k):=by intro c;simp only[bI,bj,ah,an,Option.bind_some,Option.map_some,↓reduceIte,Nat.reduceEqDiff,Nat.reduceAdd,Nat.reduceMul,Nat.reduceLeDiff,Nat.reduceLT,ae,ai,aN,c];first | done | rfl) (hf:r->di k f=f':=by intro c;simp only[eM,bj,ah,↓reduceIte,Nat.reduceEqDiff,Nat.reduceAdd,Nat.reduceSub,Nat.reduceMul,Nat.reduceLeDiff,Nat.reduceLT,c,di,dx,bO,aM,bI];first | done | rfl) (ht:r->T5 f0 f k T:=by intro c;(simp only[T5])<;>(repeat' apply And.intro)<;>first | exact True.intro | rfl | (simp only[eM,bj,ah,↓reduceIte,Nat.reduceEqDiff,Nat.reduceAdd,Nat.reduceSub,Nat.reduceMul,Nat.reduceLeDiff,Nat.reduceLT,c,di,dx,bO,aM,bI];first | done | rfl)) (hkl:r->lH ms i v kl:=by intro c;exact(by first | exact trivial | ((simp only[lH])<;>(repeat' apply And.intro)<;>first | exact True.intro | exact .inr rfl | (refine .inr ?_;simp only[bI,bj,ah,an,Option.bind_some,Option.map_some,↓reduceIte,Nat.reduceEqDiff,Nat.reduceAdd,Nat.reduceMul,Nat.reduceLeDiff,Nat.reduceLT,ae,ai,aN,aM,c];first | done | rfl) | exact .inl (by kernel_rfl)))) (h:ku P ro all ms n f0 ((i,k)::kl) false hp l ((d,v)::f') S' K):ku P ro all ms n f0 kl b hp ((i,o)::l) f S K:=.a T hst hdst hw hwr hms hT (hop c) (hf c) (ht c) (hkl c) h
def kE{v:SV}{S':List SO}(hst:dJ all n [o]=true:=by rfl)(hdst:o.dst=some d:=by rfl)(hw:cg all f o.guard=some true:=by rfl)(hwr:dQ o.op=true:=by rfl)(hms:hp.all (λj=>bR (ms.getD i 0) j)=true:=by kernel_rfl)(hop:cT P f S o.op=some (v,S',none):=by simp only[bI,bj,ah,an,Option.bind_some,Option.map_some,↓reduceIte,Nat.reduceEqDiff,Nat.reduceAdd,Nat.reduceMul,Nat.reduceLeDiff,Nat.reduceLT,ae,ai,aN];first | done | rfl)(hkl:lH ms i v kl:=by first | exact trivial | ((simp only[lH])<;>(repeat' apply And.intro)<;>first | exact True.intro | exact .inr rfl | (refine .inr ?_;simp only[bI,bj,ah,an,Option.bind_some,Option.map_some,↓reduceIte,Nat.reduceEqDiff,Nat.reduceAdd,Nat.reduceMul,Nat.reduceLeDiff,Nat.reduceLT,ae,ai,aN,aM];first | done | rfl) | exact .inl (by kernel_rfl)))(h:ku P ro all ms n f0 kl false hp l ((d,v)::f) S' K):ku P ro all ms n f0 kl b hp ((i,o)::l) f S K:=.ed hst hdst hw hwr hms hop hkl h
def S5{r:Prop}{v:SV}{S':List SO}(c:r)(hst:dJ all n [o]=true:=by rfl)(hdst:o.dst=some d:=by rfl)(hw:cg all f o.guard=some true:=by rfl)(hwr:dQ o.op=true:=by rfl)(hms:hp.all (λj=>bR (ms.getD i 0) j)=true:=by kernel_rfl)(hop:r->cT P f S o.op=some (v,S',none):=by intro c;simp only[bI,bj,ah,an,Option.bind_some,Option.map_some,↓reduceIte,Nat.reduceEqDiff,Nat.reduceAdd,Nat.reduceMul,Nat.reduceLeDiff,Nat.reduceLT,ae,ai,aN,c];first | done | rfl)(hkl:r->lH ms i v kl:=by intro c;exact(by first | exact trivial | ((simp only[lH])<;>(repeat' apply And.intro)<;>first | exact True.intro | exact .inr rfl | (refine .inr ?_;simp only[bI,bj,ah,an,Option.bind_some,Option.map_some,↓reduceIte,Nat.reduceEqDiff,Nat.reduceAdd,Nat.reduceMul,Nat.reduceLeDiff,Nat.reduceLT,ae,ai,aN,aM,c];first | done | rfl) | exact .inl (by kernel_rfl))))(h:ku P ro all ms n f0 kl false hp l ((d,v)::f) S' K):ku P ro all ms n f0 kl b hp ((i,o)::l) f S K:=.ed hst hdst hw hwr hms (hop c) (hkl c) h
end
def NX(a b:Xf):PC prog 58 [.ag (aC a),.ag (aC b)] (·=au (pG a b)):=by
 obtain⟨a1,a2,a3⟩:=a;obtain⟨b1,b2,b3⟩:=b;refine pB 24 Tryz.func58 ?_;unfold pG;simp only;cases e1:iD a1 b1
 ·cases e2:decide (a1=b1)
  ·exact(az @aC.eq_1)<|(az (n2 e1 e2))<|zo [.tmp 4]
  ·exact(az @aC.eq_1)<|(az (n2 e1 e2))<|zo [.tmp 4]
 ·exact(az @aC.eq_1)<|(az e1)<|zo [.tmp 4]
def yS{t:Xf}:∀{l:List Xf} {k:Nat},(∀y∈l.take k,pG y t=true)->(∀x,l[k]?=some x->pG x t=false)->nL t l=l.take k++(match l[k]? with
 | some x=>if x.fr=t.fr/\x.to=t.to then ⟨t.fr,t.to,t.am+x.am⟩::l.drop (k+1) else t::l.drop k
 | none=>[t])
 | [],k,_,_=>by simp[nL]
 | x::l,0,_,h=>by
  rw[nL,ul (by rw[h x rfl];exact Bool.false_ne_true)];simp
 | x::l,k+1,h1,h2=>by
  rw[nL,t8 (h1 x bi),yS (k:=k) (λy hy=>h1 y (be _ hy)) λy hy=>h2 y hy];simp
def yL(l:List Xf):(l.flatMap aC).all ef=true:=by
 rw[go];exact all_eq_true.2 λx _=>rfl
def Sw{S:List SO}{o n:Nat}{q:List Xf}(hS:S[o]?=some (.cells (q.flatMap aC)))(hn:q.length=n):Wk S (.buf o n 3 none) (ah 3 q aC):=by
 subst hn;rw[ny];exact .buf hS (by rw[c9 (enc:=aC) (e:=3) (λ_=>rfl)];exact bl.refl (aA dA q)) (by rw[aL (enc:=aC) (e:=3) (λ_=>rfl)];exact af _)
def Q3{p:Prop}(h:p:=by refine Sw ?_ ?_;simp only[List.getElem?_cons_succ,List.getElem?_cons_zero,List.flatMap_append,List.flatMap_cons,List.flatMap_nil,List.append_nil,aC,List.append_assoc,List.cons_append,List.nil_append,hk0,List.take_zero];(first | (simp only[List.length_append,List.length_cons,List.length_nil,List.length_drop,hln];done) | (simp only[List.length_append,List.length_cons,List.length_nil,List.length_drop,hln];omega))):p:=h
abbrev m7:List Nat:=[0,0,2,7,15,31,31,127,255,511,31,1055,4095,8191,16383,32767,32767,131071,262143,524287,32767,1081343,4194303,8388607]
abbrev wK(l:List Xf)(k:Nat)(v:SV):Fm:=[(0,ah 3 l aC),(3,.ptr 0 0),(5,aa k),(6,v)]
abbrev Q0(fr to:List Nat)(am:Int):List SO:=[.cells [ab fr,ab to,aa am],.cells []]
abbrev Q2(fr to:List Nat)(am:Int)(l:List Xf)(k:Nat):List SO:=[.cells [ab fr,ab to,aa am],.cells [],.cells ((l.take k).flatMap aC)]
def OO(fr to:List Nat)(am:Int){l:List Xf}{k:Nat}(hln:(l.take k).length=k)(d:Nat):(∀o:Nat,(((l.take k).flatMap aC)++[ab fr,ab to,aa am]).map (aM o)=((l.take k).flatMap aC)++[ab fr,ab to,aa am])/\
 ((l.flatMap aC).drop (d*3)).take ((l.length-d)*3)=(l.drop d).flatMap aC/\((l.drop d).flatMap aC).all ef=true/\(∀o:Nat,((l.drop d).flatMap aC).map (aM o)=(l.drop d).flatMap aC)/\
 (((l.take k).flatMap aC)++[ab fr,ab to,aa am]).length=(k+1)*3/\(((l.take k).flatMap aC)++[ab fr,ab to,aa am]).take ((k+1)*3)=((l.take k).flatMap aC)++[ab fr,ab to,aa am]/\
 ∀o:Nat,(((l.take k).flatMap aC)++[ab fr,ab to,aa am]++(l.drop d).flatMap aC).map (aM o)=((l.take k).flatMap aC)++[ab fr,ab to,aa am]++(l.drop d).flatMap aC:=by
 have hkl:∀o:Nat,((l.take k).flatMap aC).map (aM o)=(l.take k).flatMap aC:=λo=>aY (enc:=aC) dA o (l.take k)
 have hfl:((l.take k).flatMap aC).length=k*3:=by rw[aL (enc:=aC) (e:=3) (λ_=>rfl),hln]
 have hck:∀o:Nat,(((l.take k).flatMap aC)++[ab fr,ab to,aa am]).map (aM o)=((l.take k).flatMap aC)++[ab fr,ab to,aa am]:=λo=>by rw[cc,hkl];rfl
 have hdk:=λo:Nat=>aY (enc:=aC) dA o (l.drop d)
 have hcl:(((l.take k).flatMap aC)++[ab fr,ab to,aa am]).length=(k+1)*3:=by rw[bc,hfl];show k*3+3=_;omega
 refine⟨hck,?_,yL _,hdk,hcl,bt (by rw[hcl];exact af _),λo=>by rw[cc,hck,hdk]⟩;rw[mW (enc:=aC) (e:=3) (λ_=>rfl),bt (by rw[aL (enc:=aC) (e:=3) (λ_=>rfl),fo];exact af _)]
def Kh(l:List Xf)(t:Xf)(hl:l.length<=1000)(hb:∀x∈l,-1000000000000000<=x.am/\x.am<=1000000000000000)(ht : -1000000000000000<=t.am/\t.am<=1000000000000000):PC prog 24 [ah 3 l aC,.ag (aC t)] (·=ah 3 (BA l t) aC):=by
 refine pB 80 Tryz.func24 ?_;obtain⟨fr,to,am⟩:=t;unfold BA;simp only;cases h0:decide (am=0);rotate_left
 ·rw[t8 (ww h0)]
  exact(az @aC.eq_1)<|(az h0)<|(cM)<|zo [.tmp 4]
 rw[ul (wt h0)];have hbef:=λx:Xf=>NX x ⟨fr,to,am⟩
 have hlen:l.length<=1000000:=by omega
 refine(az @aC.eq_1)<|(az h0)<|(iY)<|(zs) ?_;refine zL l (λk=>∀y∈l.take k,pG y ⟨fr,to,am⟩=true) (λk=>[(0,ah 3 l aC),(3,.ptr 0 0),(5,aa k)]) (λk=>[.cells [ab fr,ab to,aa am]]) zH (by exact λy h=>t7 h (by simp)) ?_;intro k hk hall
 have hsplit:=yS (l:=l) (t:=⟨fr,to,am⟩) hall;have hnx:k<l.length->∃x:Xf,l[k]?=some x:=λh=>⟨l[k],aj h⟩
 have hln:(l.take k).length=k:=by rw[gt];omega
 have hft:(l.flatMap aC).take (k*3)=(l.take k).flatMap aC:=ju (enc:=aC) (e:=3) (λ_=>rfl) l k;have hon:((l.take k).flatMap aC).all ef=true:=yL _;have hkl:∀o:Nat,((l.take k).flatMap aC).map (aM o)=(l.take k).flatMap aC:=λo=>aY (enc:=aC) dA o (l.take k)
 have hfl:((l.take k).flatMap aC).length=k*3:=by rw[aL (enc:=aC) (e:=3) (λ_=>rfl),hln]
 have hfa:((l.take k).flatMap aC).take (k*3)=(l.take k).flatMap aC:=bt (by rw[hfl];exact af _)
 have hk6:k<=1000000:=by omega
 by_cases hlt:k<l.length
 ·obtain⟨x,hx⟩:=hnx hlt
  have hd:=show decide ((k:Int)<(l.length:Int))=true by simp only[wp];omega
  have hbx:=hbef x;have hxb:=hb x (bd hx);rw[hx] at hsplit;simp only[Option.some.injEq,forall_eq'] at hsplit;obtain⟨xf,xt,xa⟩:=x;simp only at hxb ht;refine(zs) ?_;refine nQ [0,0,2,7,15,31,31,127,255,31,1023,2047] ?_;cases hbf:pG ⟨xf,xt,xa⟩ ⟨fr,to,am⟩;rotate_left
  ·rw[hbf] at hbx
   refine(me (n4 hd hlt (aH (e:=3) (enc:=aC) (λ_=>rfl) hx) @aC.eq_1)) ?_;refine SD.k (by rfl) rfl rfl (by rfl) rfl rfl (IY @aC.eq_1) (hbx) (zw) rfl ?_;refine(zD)<|(zM)<|(gh)<|(zs) ?_;refine aq.r0 (by rfl) (iZ (qA (oH hlt hlen (by decide)))) ?_;refine⟨l.length-(k+1),_,by omega,(Fg.less Ut V9),k+1,by omega,rfl,(by rw[bz hx];intro y hy;rcases mem_append.1 hy with h | h;exact hall y h;rw[mem_singleton] at h;rw[h];exact hbf),rfl⟩
  rw[hbf] at hbx hsplit;have hsplit:=hsplit rfl
  refine(me (n4 hd hlt (aH (e:=3) (enc:=aC) (λ_=>rfl) hx) @aC.eq_1)) ?_;refine SD.k (by rfl) rfl rfl (by rfl) rfl rfl (IY @aC.eq_1) (hbx) (zw) rfl ?_;refine(zD)<|(zM)<|(eN) ?_
  simp only[fG,dH,cB,bX,if_true];refine aq.fg (st':=⟨[(0,ah 3 l aC),(3,.ptr 0 0),(5,aa k)],80,[.cells [ab fr,ab to,aa am]],[]⟩) zH ?_
  (try change aq _ _ _ _ _)
  cases e1:decide (xf=fr)
  ·rw[ul (λh=>by exact wt e1 h.1)] at hsplit;rw[hsplit];obtain⟨hck,hdt,hdo,hdk,hcl,hct,hcd⟩:=OO fr to (am) (l:=l) hln k;by_cases hk0:k=0
   ·refine(az (n7 (I2 hk) @cd (eq_true hk0) hft hon hkl hk6)) ?_;refine aq.fg (st':=⟨wK l k (.buf 1 0 3 (some 0)),80,Q0 fr to am,[]⟩) zH ?_
    (try change aq _ _ _ _ _)
    refine(zs) ?_;refine nQ m7 ?_;refine(me (n5 hd hlt (aH (e:=3) (enc:=aC) (λ_=>rfl) hx) @aC.eq_1 e1))<|(zM)<|(zN) ?_;refine aq.fg (st':=⟨wK l k (.buf 1 0 3 (some 0)),80,Q0 fr to am,[]⟩) zH ?_
    (try change aq _ _ _ _ _)
    refine(zs) ?_;refine kZ [0,0,2,7,0,0,48,127,255] ?_;exact(kR)<|(kA [72,6,76,0,77,5,78])<|(uk [76,0,77,5,78] (n3 @e5 @take_zero.{0} @nil_append.{0}))<|(LI (DZ hk))<|(uk [] (n2 (n9 hkl hfa hfl hdt (show ¬l.length-k=0 by omega) (show l.length-k<=1000000 by omega) (show(0+1)<=1000000 by omega) hdo hdk) (n5 hcl hct hck hcd @af)))<|(kR)<|(kN)<|zo [.tmp 4] (r:=ah 3 (l.take k++⟨fr,to,am⟩::l.drop k) aC) (hw:=Q3)
   ·refine(az (n8 (I2 hk) @cd hk0 hft hon hkl hk6 (show 0<k by omega))) ?_;refine aq.fg (st':=⟨wK l k (.buf 2 k 3 none),80,Q2 fr to am l k,[]⟩) zH ?_
    (try change aq _ _ _ _ _)
    refine(zs) ?_;refine nQ m7 ?_;refine(me (n5 hd hlt (aH (e:=3) (enc:=aC) (λ_=>rfl) hx) @aC.eq_1 e1))<|(zM)<|(zN) ?_;refine aq.fg (st':=⟨wK l k (.buf 2 k 3 none),80,Q2 fr to am l k,[]⟩) zH ?_
    (try change aq _ _ _ _ _)
    refine(zs) ?_;refine kZ [0,0,2,7,0,0,48,127,255] ?_;exact(kR)<|(uk [72,6,76,0,77,5,78] hkl)<|(uk [76,0,77,5,78] (n6 hkl hfa hfl hk6 hck @af))<|(LI (DZ hk))<|(uk [] (n2 (n9 hkl hfa hfl hdt (show ¬l.length-k=0 by omega) (show l.length-k<=1000000 by omega) (show(k+1)<=1000000 by omega) hdo hdk) (n5 hcl hct hck hcd @af)))<|(kR)<|(kN)<|zo [.tmp 4] (r:=ah 3 (l.take k++⟨fr,to,am⟩::l.drop k) aC) (hw:=Q3)
  cases e2:decide (xt=to)
  ·rw[ul (λh=>by exact wt e2 h.2)] at hsplit;rw[hsplit];obtain⟨hck,hdt,hdo,hdk,hcl,hct,hcd⟩:=OO fr to (am) (l:=l) hln k;by_cases hk0:k=0
   ·refine(az (n7 (I2 hk) @cd (eq_true hk0) hft hon hkl hk6)) ?_;refine aq.fg (st':=⟨wK l k (.buf 1 0 3 (some 0)),80,Q0 fr to am,[]⟩) zH ?_
    (try change aq _ _ _ _ _)
    refine(zs) ?_;refine nQ m7 ?_;refine(me (n6 hd hlt (aH (e:=3) (enc:=aC) (λ_=>rfl) hx) @aC.eq_1 e1 e2))<|(zM)<|(zN) ?_;refine aq.fg (st':=⟨wK l k (.buf 1 0 3 (some 0)),80,Q0 fr to am,[]⟩) zH ?_
    (try change aq _ _ _ _ _)
    refine(zs) ?_;refine kZ [0,0,2,7,0,0,48,127,255] ?_;exact(kR)<|(kA [72,6,76,0,77,5,78])<|(uk [76,0,77,5,78] (n3 @e5 @take_zero.{0} @nil_append.{0}))<|(LI (DZ hk))<|(uk [] (n2 (n9 hkl hfa hfl hdt (show ¬l.length-k=0 by omega) (show l.length-k<=1000000 by omega) (show(0+1)<=1000000 by omega) hdo hdk) (n5 hcl hct hck hcd @af)))<|(kR)<|(kN)<|zo [.tmp 4] (r:=ah 3 (l.take k++⟨fr,to,am⟩::l.drop k) aC) (hw:=Q3)
   ·refine(az (n8 (I2 hk) @cd hk0 hft hon hkl hk6 (show 0<k by omega))) ?_;refine aq.fg (st':=⟨wK l k (.buf 2 k 3 none),80,Q2 fr to am l k,[]⟩) zH ?_
    (try change aq _ _ _ _ _)
    refine(zs) ?_;refine nQ m7 ?_;refine(me (n6 hd hlt (aH (e:=3) (enc:=aC) (λ_=>rfl) hx) @aC.eq_1 e1 e2))<|(zM)<|(zN) ?_;refine aq.fg (st':=⟨wK l k (.buf 2 k 3 none),80,Q2 fr to am l k,[]⟩) zH ?_
    (try change aq _ _ _ _ _)
    refine(zs) ?_;refine kZ [0,0,2,7,0,0,48,127,255] ?_;exact(kR)<|(uk [72,6,76,0,77,5,78] hkl)<|(uk [76,0,77,5,78] (n6 hkl hfa hfl hk6 hck @af))<|(LI (DZ hk))<|(uk [] (n2 (n9 hkl hfa hfl hdt (show ¬l.length-k=0 by omega) (show l.length-k<=1000000 by omega) (show(k+1)<=1000000 by omega) hdo hdk) (n5 hcl hct hck hcd @af)))<|(kR)<|(kN)<|zo [.tmp 4] (r:=ah 3 (l.take k++⟨fr,to,am⟩::l.drop k) aC) (hw:=Q3)
  ·rw[t8 ⟨ww e1,ww e2⟩] at hsplit;rw[hsplit];have hsum : -9223372036854775808<=am+xa/\am+xa<=9223372036854775807:=⟨by omega,by omega⟩;by_cases hl1:k+1=l.length
   ·rw[ct (show l.length<=k+1 by omega)];have hck:=(OO fr to (am+xa) (l:=l) hln k).1;by_cases hk0:k=0
    ·refine(az (n7 (I2 hk) @cd (eq_true hk0) hft hon hkl hk6)) ?_;refine aq.fg (st':=⟨wK l k (.buf 1 0 3 (some 0)),80,Q0 fr to am,[]⟩) zH ?_
     (try change aq _ _ _ _ _)
     refine(zs) ?_;refine nQ m7 ?_;refine(me (n6 hd hlt (aH (e:=3) (enc:=aC) (λ_=>rfl) hx) @aC.eq_1 e1 e2))<|(zM)<|(zY)<|(zs) ?_;refine nQ [0,1,0,0,12,28,60,127,255,511] ?_;refine(me (n4 hlt (aH (e:=3) (enc:=aC) (λ_=>rfl) hx) @aC.eq_1 (qA hsum))) ?_;refine SD.e (by rfl) rfl (by rfl) rfl rfl (by rfl) zl ?_;refine(zM) ?_;refine aq.fg (st':=⟨wK l k (.buf 1 0 3 (some 0)),80,Q0 fr to (am+xa),[]⟩) zH ?_
     (try change aq _ _ _ _ _)
     refine(zs) ?_;refine kZ [0,0,2,7,0,0,32,112,255,511] ?_;exact(kR)<|(kA [63,6,67,0,68,5,69,70])<|(uk [67,0,68,5,69,70] (n3 @e5 @take_zero.{0} @nil_append.{0}))<|(LI (n3 (qA (show -9223372036854775808<=(k:Int)+1/\(k:Int)+1<=9223372036854775807 from⟨by omega,by omega⟩)) @q7 (DZ (show k+1<=l.length by omega))))<|(S5 (n5 hkl hfa hfl (show l.length-(k+1)=0 by omega) (show(0+1)<=1000000 by omega)))<|(kR)<|(kN)<|zo [.tmp 4] (r:=ah 3 (l.take k++⟨fr,to,am+xa⟩::[]) aC) (hw:=Q3)
    ·refine(az (n8 (I2 hk) @cd hk0 hft hon hkl hk6 (show 0<k by omega))) ?_;refine aq.fg (st':=⟨wK l k (.buf 2 k 3 none),80,Q2 fr to am l k,[]⟩) zH ?_
     (try change aq _ _ _ _ _)
     refine(zs) ?_;refine nQ m7 ?_;refine(me (n6 hd hlt (aH (e:=3) (enc:=aC) (λ_=>rfl) hx) @aC.eq_1 e1 e2))<|(zM)<|(zY)<|(zs) ?_;refine nQ [0,1,0,0,12,28,60,127,255,511] ?_;refine(me (n4 hlt (aH (e:=3) (enc:=aC) (λ_=>rfl) hx) @aC.eq_1 (qA hsum))) ?_;refine SD.e (by rfl) rfl (by rfl) rfl rfl (by rfl) zl ?_;refine(zM) ?_;refine aq.fg (st':=⟨wK l k (.buf 2 k 3 none),80,Q2 fr to (am+xa) l k,[]⟩) zH ?_
     (try change aq _ _ _ _ _)
     refine(zs) ?_;refine kZ [0,0,2,7,0,0,32,112,255,511] ?_;exact(kR)<|(uk [63,6,67,0,68,5,69,70] hkl)<|(uk [67,0,68,5,69,70] (n6 hkl hfa hfl hk6 hck @af))<|(LI (n3 (qA (show -9223372036854775808<=(k:Int)+1/\(k:Int)+1<=9223372036854775807 from⟨by omega,by omega⟩)) @q7 (DZ (show k+1<=l.length by omega))))<|(S5 (n5 hkl hfa hfl (show l.length-(k+1)=0 by omega) (show(k+1)<=1000000 by omega)))<|(kR)<|(kN)<|zo [.tmp 4] (r:=ah 3 (l.take k++⟨fr,to,am+xa⟩::[]) aC) (hw:=Q3)
   ·obtain⟨hck,hdt,hdo,hdk,hcl,hct,hcd⟩:=OO fr to (am+xa) (l:=l) hln (k+1);by_cases hk0:k=0
    ·refine(az (n7 (I2 hk) @cd (eq_true hk0) hft hon hkl hk6)) ?_;refine aq.fg (st':=⟨wK l k (.buf 1 0 3 (some 0)),80,Q0 fr to am,[]⟩) zH ?_
     (try change aq _ _ _ _ _)
     refine(zs) ?_;refine nQ m7 ?_;refine(me (n6 hd hlt (aH (e:=3) (enc:=aC) (λ_=>rfl) hx) @aC.eq_1 e1 e2))<|(zM)<|(zY)<|(zs) ?_;refine nQ [0,1,0,0,12,28,60,127,255,511] ?_;refine(me (n4 hlt (aH (e:=3) (enc:=aC) (λ_=>rfl) hx) @aC.eq_1 (qA hsum))) ?_;refine SD.e (by rfl) rfl (by rfl) rfl rfl (by rfl) zl ?_;refine(zM) ?_;refine aq.fg (st':=⟨wK l k (.buf 1 0 3 (some 0)),80,Q0 fr to (am+xa),[]⟩) zH ?_
     (try change aq _ _ _ _ _)
     refine(zs) ?_;refine kZ [0,0,2,7,0,0,32,112,255,511] ?_;exact(kR)<|(kA [63,6,67,0,68,5,69,70])<|(uk [67,0,68,5,69,70] (n3 @e5 @take_zero.{0} @nil_append.{0}))<|(LI (n3 (qA (show -9223372036854775808<=(k:Int)+1/\(k:Int)+1<=9223372036854775807 from⟨by omega,by omega⟩)) @q7 (DZ (show k+1<=l.length by omega))))<|(uk [] (n2 (n9 hkl hfa hfl hdt (show ¬l.length-(k+1)=0 by omega) (show l.length-(k+1)<=1000000 by omega) (show(0+1)<=1000000 by omega) hdo hdk) (n5 hcl hct hck hcd @af)))<|(kR)<|(kN)<|zo [.tmp 4] (r:=ah 3 (l.take k++⟨fr,to,am+xa⟩::l.drop (k+1)) aC) (hw:=Q3)
    ·refine(az (n8 (I2 hk) @cd hk0 hft hon hkl hk6 (show 0<k by omega))) ?_;refine aq.fg (st':=⟨wK l k (.buf 2 k 3 none),80,Q2 fr to am l k,[]⟩) zH ?_
     (try change aq _ _ _ _ _)
     refine(zs) ?_;refine nQ m7 ?_;refine(me (n6 hd hlt (aH (e:=3) (enc:=aC) (λ_=>rfl) hx) @aC.eq_1 e1 e2))<|(zM)<|(zY)<|(zs) ?_;refine nQ [0,1,0,0,12,28,60,127,255,511] ?_;refine(me (n4 hlt (aH (e:=3) (enc:=aC) (λ_=>rfl) hx) @aC.eq_1 (qA hsum))) ?_;refine SD.e (by rfl) rfl (by rfl) rfl rfl (by rfl) zl ?_;refine(zM) ?_;refine aq.fg (st':=⟨wK l k (.buf 2 k 3 none),80,Q2 fr to (am+xa) l k,[]⟩) zH ?_
     (try change aq _ _ _ _ _)
     refine(zs) ?_;refine kZ [0,0,2,7,0,0,32,112,255,511] ?_;exact(kR)<|(uk [63,6,67,0,68,5,69,70] hkl)<|(uk [67,0,68,5,69,70] (n6 hkl hfa hfl hk6 hck @af))<|(LI (n3 (qA (show -9223372036854775808<=(k:Int)+1/\(k:Int)+1<=9223372036854775807 from⟨by omega,by omega⟩)) @q7 (DZ (show k+1<=l.length by omega))))<|(uk [] (n2 (n9 hkl hfa hfl hdt (show ¬l.length-(k+1)=0 by omega) (show l.length-(k+1)<=1000000 by omega) (show(k+1)<=1000000 by omega) hdo hdk) (n5 hcl hct hck hcd @af)))<|(kR)<|(kN)<|zo [.tmp 4] (r:=ah 3 (l.take k++⟨fr,to,am+xa⟩::l.drop (k+1)) aC) (hw:=Q3)
 have hke:k=l.length:=by omega
 have hd:=show decide ((k:Int)<(l.length:Int))=false by simp only[wd];omega
 rw[dv (by omega)] at hsplit
 have hsplit:=hsplit nofun
 simp only at hsplit;rw[hsplit]
 refine(zs) ?_;refine nQ [0,0,2,7,15,31,31,127,255,31,1023,2047] ?_;refine(me hd)<|(zM)<|(eN) ?_
 simp only[fG,dH,cB,bX,if_true];refine aq.fg (st':=⟨[(0,ah 3 l aC),(3,.ptr 0 0),(5,aa k)],80,[.cells [ab fr,ab to,aa am]],[]⟩) zH ?_
 (try change aq _ _ _ _ _)
 have hck:=(OO fr to (am) (l:=l) hln k).1;by_cases hk0:k=0
 ·refine(az (n7 (I2 hk) @cd (eq_true hk0) hft hon hkl hk6)) ?_;refine aq.fg (st':=⟨wK l k (.buf 1 0 3 (some 0)),80,Q0 fr to am,[]⟩) zH ?_
  (try change aq _ _ _ _ _)
  refine(zs) ?_;refine nQ m7 ?_;refine(me hd)<|(zM)<|(zN) ?_;refine aq.fg (st':=⟨wK l k (.buf 1 0 3 (some 0)),80,Q0 fr to am,[]⟩) zH ?_
  (try change aq _ _ _ _ _)
  refine(zs) ?_;refine kZ [0,0,2,7,0,0,48,127,255] ?_;exact(kR)<|(kA [72,6,76,0,77,5,78])<|(uk [76,0,77,5,78] (n3 @e5 @take_zero.{0} @nil_append.{0}))<|(LI (DZ hk))<|(S5 (n5 hkl hfa hfl (show l.length-k=0 by omega) (show(0+1)<=1000000 by omega)))<|(kR)<|(kN)<|zo [.tmp 4] (r:=ah 3 (l.take k++⟨fr,to,am⟩::[]) aC) (hw:=Q3)
 ·refine(az (n8 (I2 hk) @cd hk0 hft hon hkl hk6 (show 0<k by omega))) ?_;refine aq.fg (st':=⟨wK l k (.buf 2 k 3 none),80,Q2 fr to am l k,[]⟩) zH ?_
  (try change aq _ _ _ _ _)
  refine(zs) ?_;refine nQ m7 ?_;refine(me hd)<|(zM)<|(zN) ?_;refine aq.fg (st':=⟨wK l k (.buf 2 k 3 none),80,Q2 fr to am l k,[]⟩) zH ?_
  (try change aq _ _ _ _ _)
  refine(zs) ?_;refine kZ [0,0,2,7,0,0,48,127,255] ?_;exact(kR)<|(uk [72,6,76,0,77,5,78] hkl)<|(uk [76,0,77,5,78] (n6 hkl hfa hfl hk6 hck @af))<|(LI (DZ hk))<|(S5 (n5 hkl hfa hfl (show l.length-k=0 by omega) (show(k+1)<=1000000 by omega)))<|(kR)<|(kN)<|zo [.tmp 4] (r:=ah 3 (l.take k++⟨fr,to,am⟩::[]) aC) (hw:=Q3)
def FU(t:Xf):∀l:List Xf,(nL t l).length<=l.length+1
 | []=>af _
 | x::l=>by
  have ih:=FU t l;rw[nL];split
  ·simp only[bw];omega
  ·split<;>simp only[bw]<;>omega
def FT{B:Int}{t:Xf}(hB:0<=B)(ht:0<=t.am/\t.am<=1000000000000):∀{l:List Xf},(∀x∈l,0<=x.am/\x.am<=B)->∀y∈nL t l,0<=y.am/\y.am<=B+1000000000000
 | [],_,y,hy=>by rw[nL,mem_singleton] at hy;rw[hy];omega
 | x::l,h,y,hy=>by
  have hx:=h x bi;have hr:=λy hy=>h y (be _ hy);rw[nL] at hy;split at hy
  ·rcases mem_cons.1 hy with rfl | hy
   ·omega
   ·exact FT hB ht hr y hy
  ·split at hy
   ·rcases mem_cons.1 hy with rfl | hy
    ·show 0<=t.am+x.am/\t.am+x.am<=B+1000000000000;omega
    ·have:=hr y hy;omega
   ·rcases mem_cons.1 hy with rfl | hy
    ·omega
    ·have:=h y hy;omega
def Oz{B:Int}{n:Nat}{t:Xf}{l:List Xf}(hB:0<=B)(ht:0<=t.am/\t.am<=1000000000000)(h:l.length<=n/\∀x∈l,0<=x.am/\x.am<=B):(BA l t).length<=n+1/\∀y∈BA l t,0<=y.am/\y.am<=B+1000000000000:=by
 unfold BA;split
 ·exact⟨by omega,λy hy=>by have:=h.2 y hy;omega⟩
 ·exact⟨by have:=FU t l;omega,FT hB ht h.2⟩
def Ai(l:List Xf)(t:Xf):ma (l++[t])=BA (ma l) t:=by unfold ma;rw[List.foldl_append];rfl
def KE(l:List Xf)(hl:l.length<=100)(hb:∀x∈l,0<=x.am/\x.am<=1000000000000):PC prog 9 [ah 3 l aC] (·=ah 3 (ma l) aC):=by
 refine pB 18 Tryz.func9 ?_
 have hlen:l.length<=1000000:=by omega
 refine(mO) ?_;refine aq.fg (Fg.wk (f':=[(0,ah 3 l aC),(3,ah 3 [] aC)]) ⟨.inl rfl,.inr (Wk.nil 3),trivial⟩) ?_;refine(zV)<|(zs) ?_;refine zL l (λk=>(ma (l.take k)).length<=k/\∀x∈ma (l.take k),0<=x.am/\x.am<=(k:Int)*1000000000000) (λk=>[(0,ah 3 l aC),(3,ah 3 (ma (l.take k)) aC),(4,aa k)]) (λk=>[]) zH (by exact⟨af _,λx h=>t7 h (by simp[ma])⟩) ?_;intro k hk hall;refine zT l k ?_ ?_;rintro rfl;rotate_left;intro t hx hlt;rotate_left
 ·refine(eN) ?_;simp only[fG,dH,cB,bX,if_true];rw[b7]
  exact(zV)<|zo [.tmp 2]
 refine(gh) ?_;have htb:=hb t (bd hx);have hz:=Oz (by omega) htb hall;rw[<-Ai,<-bz hx] at hz;have hadd:=Kh (ma (l.take k)) t (by omega) (λx h=>by have:=hall.2 x h;omega) (by omega);rw[<-Ai,<-bz hx] at hadd;generalize ma (l.take k)=q at hadd hall
 refine(iC (n2 hlt (aH (e:=3) (enc:=aC) (λ_=>rfl) hx)))<|(zK hadd (hfl:=.inr (bl.refl rfl)))<|(zR)<|(az (zi hlt hlen)) ?_;refine zX hlt zH (by refine⟨hz.1,λx h=>?_⟩;have:=hz.2 x h;omega)
def Ej(o:Nat)(L:Nat->Prop)(i:Nat)(x y:SO):bO o (io L i x y)=io L i (bO o x) (bO o y):=by
 unfold io;split<;>rfl
def Di(r:Nat->Nat)(L:Nat->Prop)(i:Nat)(x y:SO):nM r (io L i x y)=io L i (nM r x) (nM r y):=by
 unfold io;split<;>rfl
abbrev nF:List Nat:=[70,111,114,103,101]
abbrev nR:List Nat:=[82,97,105,108]
abbrev nA:List Nat:=[97,120,108,101]
abbrev xf(n:Int):Xf:=⟨nF,nR,n⟩
abbrev xb(n:Int):Xf:=⟨nR,nF,n⟩
def BE:List aQ:=[⟨nA,false,[]⟩]
def Jm:bu:=.mk 2 0 []
def EM:br:=⟨[⟨1,1,[97,49],nA,[],[],[],[],0,0,0,0,0,0⟩],false⟩
def Uc:Wy:=⟨nA,nF,9,9,80⟩
def QX(k:Nat):Co:=⟨[97,k],nR,5,100⟩
def CJ{s:List Nat}(h:(decide (s.length<=1000000)&&s.all λb=>decide (b<256))=true):jA s:=by
 simp only[b9,wp,all_eq_true] at h;exact⟨h.1,h.2⟩
def Rl:jI BE:=by
 refine⟨by decide,λk hk=>?_,λk hk s hs=>?_⟩
 ·simp only[BE,mem_cons,dd,or_false] at hk;subst hk;exact⟨CJ (by decide),by decide⟩
 ·simp only[BE,mem_cons,dd,or_false] at hk;subst hk;cases hs
def Rt:gJ Jm:=.mk (by decide) λk hk=>by cases hk
def Sd:∀r∈[EM],eh r:=by
 intro r hr;cases mem_singleton.1 hr;refine⟨by decide,λe he=>?_⟩;cases mem_singleton.1 he;constructor<;>exact CJ (by decide)
def Vx:BF [xf 80] []=([xf 80],0):=by kernel_rfl
def Vy:BF [xf 80] [xf 100]=([xb 20],0):=by kernel_rfl
def Vz:BF [xf 80,xb 30] [xf 50]=([],0):=by kernel_rfl
def VA:BF [⟨nR,nR,0⟩] []=([],1):=by kernel_rfl
def UR:eY BE Jm [Uc] [EM] [QX 49,QX 50]=([xf 80],0):=by kernel_rfl
def sd(owed paid:List Xf)(h:((owed++paid).all λt=>decide (t.fr.length<=1000000)&&(t.fr.all (λb=>decide (b<256))&&(decide (t.to.length<=1000000)&&t.to.all λb=>decide (b<256))))=true)(h1:(decide (owed.length<=1000)&&decide (paid.length<=1000))=true):
 PC prog 11 [ah 3 owed aC,ah 3 paid aC] (·=My (BF owed paid)):=by
 have hf:∀t∈owed++paid,t.fits:=by
  intro t ht;have:=all_eq_true.1 h t ht;simp only[b9,wp,all_eq_true] at this;exact⟨this.1,this.2.1,this.2.2.1,this.2.2.2⟩
 simp only[b9,wp] at h1;exact NZ lj Nt owed paid (λt ht=>hf t (f5 _ ht)) (λt ht=>hf t (fu _ ht)) h1.1 h1.2
def AW(a:List Xf)(h:a.length<=1000000):PC prog 8 [ah 3 a aC,ah 3 a aC] (·=au true):=by
 have:=lh a a h;rw[ut rfl] at this;exact this
abbrev UL:Fm:=[(4,.ip [ab nF,ab nR,aa 50]),(3,.ptr 0 0),(2,.ip [ab nF,ab nR,aa 100]),(1,.ip [ab nF,ab nR,aa 80]),(0,au false)]
abbrev Um:Fm:=(5,ah 3 [xf 80] aC)::(6,aa 0)::UL
abbrev Un:Fm:=(7,ah 3 [xb 20] aC)::(8,aa 0)::Um
abbrev UM:Fm:=(9,ah 3 ([]:List Xf) aC)::(10,aa 0)::Un
abbrev Vq:Fm:=(12,aa 1)::UM
abbrev UN:Fm:=(13,.ip (ah 3 BE ao::aD Jm))::Vq
abbrev Vr:Fm:=(14,ah 2 [EM] aB)::UN
abbrev Uo:Fm:=(15,ah 5 [Uc] bJ)::Vr
abbrev WA:Fm:=(16,ah 3 [xf 80] aC)::(17,aa 0)::Uo
def H9:PC prog 5 [] (·=au true):=by
 have d0:=sd [xf 80] [] (by decide) (by decide);rw[Vx] at d0;have d1:=sd [xf 80] [xf 100] (by decide) (by decide);rw[Vy] at d1;have d2:=sd [xf 80,xb 30] [xf 50] (by decide) (by decide);rw[Vz] at d2;have d3:=sd [⟨nR,nR,0⟩] [] (by decide) (by decide);rw[VA] at d3;have ho:=nG lj BE Jm [Uc] [EM] [QX 49,QX 50] Rl Rt (λw hw=>by cases mem_singleton.1 hw;constructor<;>decide) (λw hw=>by simp only[mem_cons,dd,or_false] at hw;rcases hw with rfl | rfl<;>constructor<;>decide) (by decide) Sd (λr hr=>by cases mem_singleton.1 hr;decide) (by decide) (by decide);rw[UR] at ho;have m0:=AW [xf 80] (by decide);have m1:=AW [xb 20] (by decide);refine pB 117 Tryz.func5 ?_;refine(mO) ?_
 (repeat refine aq.seq ?_)
 refine aq.fg (st':=⟨[(1,.ptr 0 0),(0,au false)],117,[.cells [ab nF,ab nR,aa 80]],[]⟩) zH ?_;refine aq.xv 8 12 (λL=>⟨(19,vo L 0 (.ag [ab nF,ab nR,aa 80]))::(20,vo L 1 (.ag [ab nF,ab nR,aa 80]))::(21,vo L 2 (.ag [ab nF,ab nR,aa 80]))::(2,vo L 3 (.ptr 1 0))::(3,vo L 4 (.ptr 2 0))::(4,vo L 5 (.ptr 3 0))::[(1,.ptr 0 0),(0,au false)],117,[.cells [ab nF,ab nR,aa 80],wo L 3 (io L 6 (.cells [ab nF,ab nR,aa 80]) (.cells [ab [],ab [],aa 0])),wo L 4 (io L 7 (.cells [ab nF,ab nR,aa 80]) (.cells [ab [],ab [],aa 0])),wo L 5 (.cells [ab [],ab [],aa 0])],[]⟩) rfl (by kernel_rfl) (by rfl) (by decide) (by kernel_rfl) (bK (n2 @mD @Mw)) (λL=>rfl) ?_ ?_
 ·rintro L i o him hC hr
  rcases i with _ | _ | _ | _ | _ | _ | _ | _ | i
  rotate_right
  ·exact t7 him (by omega)
  ·cases hr.fK;refine(zR) ?_;exact(bK (n3 @aR @fj @bP))
  ·cases hr.fK;refine(zR) ?_;exact(bK (n3 @aR @fj @bP))
  ·cases hr.fK;refine(zR) ?_;exact(bK (n3 @aR @fj @bP))
  ·cases hr.fK;have hn:¬L 3:=hr.new;have hl:¬L 6:=λh=>hn (hC 6 _ rfl h ⟨3,.data⟩ (by simp) rfl);refine aG.r0 (by rfl) (by simp only[bI,bj,ah,an,ba,bb,↓reduceIte,ac,ap,ax,ad,ay,ae,ai,aN,↓j9,Ej,gz hn,cq];first | done | rfl) ?_;exact((Fg.rn (f':=(19,vo L 0 (.ag [ab nF,ab nR,aa 80]))::(20,vo L 1 (.ag [ab nF,ab nR,aa 80]))::(21,vo L 2 (.ag [ab nF,ab nR,aa 80]))::(2,.ptr 1 0)::(3,vo L 4 (.ptr 2 0))::(4,vo L 5 (.ptr 3 0))::[(1,.ptr 0 0),(0,au false)]) (n:=117) (S':=[.cells [ab nF,ab nR,aa 80],.cells [ab [],ab [],aa 0],wo L 4 (io L 7 (.cells [ab nF,ab nR,aa 80]) (.cells [ab [],ab [],aa 0])),wo L 5 (.cells [ab [],ab [],aa 0])]) [0,4,2,3] (by decide) rfl (by (simp only[qU,eM,bj,ah,sH,sI,Di,cq,↓reduceIte,ac])<;>(repeat' apply b0)<;>first | trivial | exact .inl rfl | exact .inr rfl | exact .inr trivial | exact .inl trivial) (by (simp only[bI,eM,bj,ah,sH,sI,Di,cq,↓reduceIte,ac])<;>(repeat' apply b0)<;>first | rfl | trivial))).trans (Fg.less (by (simp only[bI,bj,dI,↓reduceIte,ac,ah,aR,fj,bP,fQ hl])<;>(repeat' apply b0)<;>first | rfl | trivial) (by (simp only[bI,bj,or_true,true_or,ah,aR,fj,bP,fQ hl])<;>(repeat' apply b0)<;>first | exact .inr rfl | exact .inl rfl | trivial))
  ·cases hr.fK;have hn:¬L 4:=hr.new;have hl:¬L 7:=λh=>hn (hC 7 _ rfl h ⟨4,.data⟩ (by simp) rfl);refine aG.r0 (by rfl) (by simp only[bI,bj,ah,an,ba,bb,↓reduceIte,ac,ap,ax,ad,ay,ae,ai,aN,↓j9,Ej,gz hn,cq];first | done | rfl) ?_;exact((Fg.rn (f':=(19,vo L 0 (.ag [ab nF,ab nR,aa 80]))::(20,vo L 1 (.ag [ab nF,ab nR,aa 80]))::(21,vo L 2 (.ag [ab nF,ab nR,aa 80]))::(2,vo L 3 (.ptr 1 0))::(3,.ptr 2 0)::(4,vo L 5 (.ptr 3 0))::[(1,.ptr 0 0),(0,au false)]) (n:=117) (S':=[.cells [ab nF,ab nR,aa 80],wo L 3 (io L 6 (.cells [ab nF,ab nR,aa 80]) (.cells [ab [],ab [],aa 0])),.cells [ab [],ab [],aa 0],wo L 5 (.cells [ab [],ab [],aa 0])]) [0,1,4,3] (by decide) rfl (by (simp only[qU,eM,bj,ah,sH,sI,Di,cq,↓reduceIte,ac])<;>(repeat' apply b0)<;>first | trivial | exact .inl rfl | exact .inr rfl | exact .inr trivial | exact .inl trivial) (by (simp only[bI,eM,bj,ah,sH,sI,Di,cq,↓reduceIte,ac])<;>(repeat' apply b0)<;>first | rfl | trivial))).trans (Fg.less (by (simp only[bI,bj,dI,↓reduceIte,ac,ah,aR,fj,bP,fQ hl])<;>(repeat' apply b0)<;>first | rfl | trivial) (by (simp only[bI,bj,or_true,true_or,ah,aR,fj,bP,fQ hl])<;>(repeat' apply b0)<;>first | exact .inr rfl | exact .inl rfl | trivial))
  ·cases hr.fK;have hn:¬L 5:=hr.new;refine aG.r0 (by rfl) (by simp only[bI,bj,ah,an,ba,bb,↓reduceIte,ac,ap,ax,ad,ay,ae,ai,aN,↓j9,Ej,gz hn,cq];first | done | rfl) ?_;exact((Fg.rn (f':=(19,vo L 0 (.ag [ab nF,ab nR,aa 80]))::(20,vo L 1 (.ag [ab nF,ab nR,aa 80]))::(21,vo L 2 (.ag [ab nF,ab nR,aa 80]))::(2,vo L 3 (.ptr 1 0))::(3,vo L 4 (.ptr 2 0))::(4,.ptr 3 0)::[(1,.ptr 0 0),(0,au false)]) (n:=117) (S':=[.cells [ab nF,ab nR,aa 80],wo L 3 (io L 6 (.cells [ab nF,ab nR,aa 80]) (.cells [ab [],ab [],aa 0])),wo L 4 (io L 7 (.cells [ab nF,ab nR,aa 80]) (.cells [ab [],ab [],aa 0])),.cells [ab [],ab [],aa 0]]) [0,1,2,4] (by decide) rfl (by (simp only[qU,eM,bj,ah,sH,sI,Di,cq,↓reduceIte,ac])<;>(repeat' apply b0)<;>first | trivial | exact .inl rfl | exact .inr rfl | exact .inr trivial | exact .inl trivial) (by (simp only[bI,eM,bj,ah,sH,sI,Di,cq,↓reduceIte,ac])<;>(repeat' apply b0)<;>first | rfl | trivial))).trans (bK (n3 @aR @fj @bP))
  ·cases hr.fK;have d3:L 3:=hr.dep ⟨3,.data⟩ (by simp) rfl;have d0:L 0:=hr.dep ⟨0,.data⟩ (by simp) rfl;have hn:¬L 6:=hr.new;refine aG.r0 (by rfl) (by simp only[bI,bj,ah,an,ba,bb,↓reduceIte,ac,ap,ax,ad,ay,ae,ai,aN,dh d3,dh d0,lZ d3,fQ hn];first | done | rfl) ?_;exact(bK (n6 @aR @fj @bP (dR d3) (dR d0) (Wn d3)))
  ·cases hr.fK;have d4:L 4:=hr.dep ⟨4,.data⟩ (by simp) rfl;have d1:L 1:=hr.dep ⟨1,.data⟩ (by simp) rfl;have hn:¬L 7:=hr.new;refine aG.r0 (by rfl) (by simp only[bI,bj,ah,an,ba,bb,↓reduceIte,ac,ap,ax,ad,ay,ae,ai,aN,dh d4,dh d1,lZ d4,fQ hn];first | done | rfl) ?_;exact(bK (n6 @aR @fj @bP (dR d4) (dR d1) (Wn d4)))
 have v8:∀i,i<8->∀v:SV,vo (λj=>j<8) i v=v:=λi h v=>dh h;have w8:∀i,i<8->∀v:SO,wo (λj=>j<8) i v=v:=λi h v=>lZ h;have i8:∀i,i<8->∀x y:SO,io (λj=>j<8) i x y=x:=λi h x y=>oK h;change aG _ _ _ _ _ _;refine aG.fg (st':=⟨[(21,.ag [ab nF,ab nR,aa 80]),(4,.ptr 3 0),(3,.ptr 2 0),(2,.ptr 1 0),(1,.ptr 0 0),(0,au false)],117,[.cells [ab nF,ab nR,aa 80],.cells [ab nF,ab nR,aa 80],.cells [ab nF,ab nR,aa 80],.cells [ab [],ab [],aa 0]],[]⟩) (bK (n9 (v8 2 (by decide)) (v8 3 (by decide)) (v8 4 (by decide)) (v8 5 (by decide)) (w8 3 (by decide)) (w8 4 (by decide)) (w8 5 (by decide)) (i8 6 (by decide)) (i8 7 (by decide)))) ?_;refine(zR) ?_
 (try change aq _ _ _ _ _)
 refine(mO) ?_;refine aq.fg (st':=⟨[(4,.ptr 3 0),(3,.ptr 2 0),(2,.ptr 1 0),(1,.ptr 0 0),(0,au false)],117,[.cells [ab nF,ab nR,aa 80],.cells [ab nF,ab nR,aa 100],.cells [ab nR,ab nF,aa 30],.cells [ab nF,ab nR,aa 50]],[]⟩) zH ?_;refine aq.fg (Fg.freeze (f':=[(4,.ip [ab nF,ab nR,aa 50]),(3,.ptr 2 0),(2,.ptr 1 0),(1,.ptr 0 0),(0,au false)]) 3 rfl (λh=>by cases h) ⟨.inr (.ptr rfl (bl.refl rfl) (ce _)),.inl rfl,.inl rfl,.inl rfl,.inl rfl,trivial⟩) ?_;refine aq.fg (Fg.freeze (f':=[(4,.ip [ab nF,ab nR,aa 50]),(3,.ptr 2 0),(2,.ip [ab nF,ab nR,aa 100]),(1,.ptr 0 0),(0,au false)]) 1 rfl (λh=>by cases h) ⟨.inl rfl,.inl rfl,.inr (.ptr rfl (bl.refl rfl) (ce _)),.inl rfl,.inl rfl,trivial⟩) ?_;refine aq.fg (Fg.freeze (f':=[(4,.ip [ab nF,ab nR,aa 50]),(3,.ptr 2 0),(2,.ip [ab nF,ab nR,aa 100]),(1,.ip [ab nF,ab nR,aa 80]),(0,au false)]) 0 rfl (λh=>by cases h) ⟨.inl rfl,.inl rfl,.inl rfl,.inr (.ptr rfl (bl.refl rfl) (ce _)),.inl rfl,trivial⟩) ?_;refine aq.fg (st':=⟨[(4,.ip [ab nF,ab nR,aa 50]),(3,.ptr 2 0),(2,.ip [ab nF,ab nR,aa 100]),(1,.ip [ab nF,ab nR,aa 80]),(0,au false)],117,[.gone,.gone,.cells [ab nR,ab nF,aa 30]],[]⟩) zH ?_;refine aq.fg (st':=⟨UL,117,[.cells [ab nR,ab nF,aa 30]],[]⟩) (Fg.rn [2] (by decide) rfl WX WY) ?_
 (try change aq _ _ _ _ _)
 refine(zC) ?_;refine aG.fg (st':=⟨(27,.buf 1 1 3 (some 1))::UL,117,[.cells [ab nR,ab nF,aa 30],.cells [ab nF,ab nR,aa 80]],[]⟩) zH ?_;refine aG.fg (Fg.freeze (f':=(27,.sl 1 3 [ab nF,ab nR,aa 80])::UL) 1 rfl (λh=>by cases h) ⟨.inr (.buf rfl (bl.refl rfl) (af _)),.inl rfl,.inl rfl,.inl rfl,.inl rfl,.inl rfl,trivial⟩) ?_;refine aG.fg (st':=⟨(27,.sl 1 3 [ab nF,ab nR,aa 80])::UL,117,[.cells [ab nR,ab nF,aa 30]],[]⟩) zH ?_;refine(zK d0 (hwk:=.cons (.sl _ _ _) (.cons (.nil 3) .nil)) (hfl:=.inr (.cons (.sl _ _ _) (.cons (.nil 3) .nil))))<|(cK @My.eq_1) ?_;refine aq.fg (st':=⟨Um,117,[.cells [ab nR,ab nF,aa 30]],[]⟩) (bK @My.eq_1) ?_
 (try change aq _ _ _ _ _)
 refine(zC) ?_;refine aG.fg (st':=⟨(33,.buf 1 1 3 (some 1))::(35,.buf 2 1 3 (some 1))::Um,117,[.cells [ab nR,ab nF,aa 30],.cells [ab nF,ab nR,aa 80],.cells [ab nF,ab nR,aa 100]],[]⟩) zH ?_;refine aG.fg (Fg.freeze (f':=(33,.buf 1 1 3 (some 1))::(35,.sl 1 3 [ab nF,ab nR,aa 100])::Um) 2 rfl (λh=>by cases h) ⟨.inl rfl,.inr (.buf rfl (bl.refl rfl) (af _)),.inl rfl,.inl rfl,.inl rfl,.inl rfl,.inl rfl,.inl rfl,.inl rfl,trivial⟩) ?_;refine aG.fg (Fg.freeze (f':=(33,.sl 1 3 [ab nF,ab nR,aa 80])::(35,.sl 1 3 [ab nF,ab nR,aa 100])::Um) 1 rfl (λh=>by cases h) ⟨.inr (.buf rfl (bl.refl rfl) (af _)),.inl rfl,.inl rfl,.inl rfl,.inl rfl,.inl rfl,.inl rfl,.inl rfl,.inl rfl,trivial⟩) ?_;refine aG.fg (st':=⟨(33,.sl 1 3 [ab nF,ab nR,aa 80])::(35,.sl 1 3 [ab nF,ab nR,aa 100])::Um,117,[.cells [ab nR,ab nF,aa 30]],[]⟩) zH ?_;refine(zK d1 (hfl:=.inr (bl.refl rfl)))<|(cK @My.eq_1) ?_;refine aq.fg (st':=⟨Un,117,[.cells [ab nR,ab nF,aa 30]],[]⟩) (bK @My.eq_1) ?_
 (try change aq _ _ _ _ _)
 refine(zC) ?_;refine aG.fg (st':=⟨(42,.buf 1 2 3 (some 2))::(44,.buf 2 1 3 (some 1))::Un,117,[.cells [ab nR,ab nF,aa 30],.cells [ab nF,ab nR,aa 80,ab nR,ab nF,aa 30],.cells [ab nF,ab nR,aa 50]],[]⟩) zH ?_;refine aG.fg (Fg.freeze (f':=(42,.buf 1 2 3 (some 2))::(44,.sl 1 3 [ab nF,ab nR,aa 50])::Un) 2 rfl (λh=>by cases h) ⟨.inl rfl,.inr (.buf rfl (bl.refl rfl) (af _)),.inl rfl,.inl rfl,.inl rfl,.inl rfl,.inl rfl,.inl rfl,.inl rfl,.inl rfl,.inl rfl,trivial⟩) ?_;refine aG.fg (Fg.freeze (f':=(42,.sl 2 3 [ab nF,ab nR,aa 80,ab nR,ab nF,aa 30])::(44,.sl 1 3 [ab nF,ab nR,aa 50])::Un) 1 rfl (λh=>by cases h) ⟨.inr (.buf rfl (bl.refl rfl) (af _)),.inl rfl,.inl rfl,.inl rfl,.inl rfl,.inl rfl,.inl rfl,.inl rfl,.inl rfl,.inl rfl,.inl rfl,trivial⟩) ?_;refine aG.fg (st':=⟨(42,.sl 2 3 [ab nF,ab nR,aa 80,ab nR,ab nF,aa 30])::(44,.sl 1 3 [ab nF,ab nR,aa 50])::Un,117,[.cells [ab nR,ab nF,aa 30]],[]⟩) zH ?_;refine(zK d2 (hfl:=.inr (bl.refl rfl)))<|(cK @My.eq_1) ?_;refine aq.fg (st':=⟨UM,117,[.cells [ab nR,ab nF,aa 30]],[]⟩) (bK @My.eq_1) ?_
 (try change aq _ _ _ _ _)
 refine(zC) ?_;refine aG.fg (st':=⟨(50,.buf 1 1 3 (some 1))::UM,117,[.cells [ab nR,ab nF,aa 30],.cells [ab nR,ab nR,aa 0]],[]⟩) zH ?_;refine aG.fg (Fg.freeze (f':=(50,.sl 1 3 [ab nR,ab nR,aa 0])::UM) 1 rfl (λh=>by cases h) ⟨.inr (.buf rfl (bl.refl rfl) (af _)),.inl rfl,.inl rfl,.inl rfl,.inl rfl,.inl rfl,.inl rfl,.inl rfl,.inl rfl,.inl rfl,.inl rfl,.inl rfl,trivial⟩) ?_;refine aG.fg (st':=⟨(50,.sl 1 3 [ab nR,ab nR,aa 0])::UM,117,[.cells [ab nR,ab nF,aa 30]],[]⟩) zH ?_;refine(zK d3 (hwk:=.cons (.sl _ _ _) (.cons (.nil 3) .nil)) (hfl:=.inr (.cons (.sl _ _ _) (.cons (.nil 3) .nil))))<|(cK @My.eq_1) ?_;refine aq.fg (st':=⟨Vq,117,[.cells [ab nR,ab nF,aa 30]],[]⟩) (bK @My.eq_1) ?_
 (try change aq _ _ _ _ _)
 refine(zV) ?_;refine aq.fg (st':=⟨(13,.ptr 2 0)::Vq,117,[.cells [ab nR,ab nF,aa 30],.cells [ab nA,au false,.a (.slice none 0 0 (some 0))],.cells [.buf 1 1 3 (some 1),aa 2,aa 0,.a (.slice none 0 0 (some 0))]],[]⟩) zH ?_;refine aq.fg (Fg.yv (f':=(13,.ptr 2 0)::Vq) (S':=[.cells [ab nR,ab nF,aa 30],.gone,.cells [ah 3 BE ao,aa 2,aa 0,.a (.slice none 0 0 (some 0))]]) 1 rfl (λh=>by cases h) ⟨.inl rfl,.inl rfl,.inl rfl,.inl rfl,.inl rfl,.inl rfl,.inl rfl,.inl rfl,.inl rfl,.inl rfl,.inl rfl,.inl rfl,.inl rfl,trivial⟩ ⟨.inr ⟨by decide,.inl rfl⟩,.inl rfl,.inr ⟨by decide,.inr ⟨_,_,rfl,rfl,.cons (.buf rfl (.cons (.a _) (.cons (.a _) (.cons (.nil 3) .nil))) (af _)) (.cons (.a _) (.cons (.a _) (.cons (.a _) .nil)))⟩⟩,trivial⟩) ?_;refine aq.fg (Fg.freeze (f':=UN) 2 rfl (λh=>by cases h) ⟨.inr (.ptr rfl (.cons (.sl _ _ _) (.cons (.a _) (.cons (.a _) (.cons (.nil 3) .nil)))) (ce _)),.inl rfl,.inl rfl,.inl rfl,.inl rfl,.inl rfl,.inl rfl,.inl rfl,.inl rfl,.inl rfl,.inl rfl,.inl rfl,.inl rfl,trivial⟩) ?_;refine aq.fg (st':=⟨UN,117,[.cells [ab nR,ab nF,aa 30]],[]⟩) zH ?_
 (try change aq _ _ _ _ _)
 refine(zV) ?_;refine aq.fg (st':=⟨(14,.buf 2 1 2 (some 1))::UN,117,[.cells [ab nR,ab nF,aa 30],.cells (EM.opts.flatMap aF),.cells [.buf 1 1 14 (some 1),au false]],[]⟩) zH ?_;refine aq.fg (Fg.yv (f':=(14,.buf 2 1 2 (some 1))::UN) (S':=[.cells [ab nR,ab nF,aa 30],.gone,.cells [ah 14 EM.opts aF,au false]]) 1 rfl (λh=>by cases h) ⟨.inl rfl,.inl rfl,.inl rfl,.inl rfl,.inl rfl,.inl rfl,.inl rfl,.inl rfl,.inl rfl,.inl rfl,.inl rfl,.inl rfl,.inl rfl,.inl rfl,trivial⟩ ⟨.inr ⟨by decide,.inl rfl⟩,.inl rfl,.inr ⟨by decide,.inr ⟨_,_,rfl,rfl,.cons (.buf rfl (bl.refl rfl) (af _)) (.cons (.a _) .nil)⟩⟩,trivial⟩) ?_;refine aq.fg (Fg.freeze (f':=Vr) 2 rfl (λh=>by cases h) ⟨.inr (.buf rfl (bl.refl rfl) (af _)),.inl rfl,.inl rfl,.inl rfl,.inl rfl,.inl rfl,.inl rfl,.inl rfl,.inl rfl,.inl rfl,.inl rfl,.inl rfl,.inl rfl,.inl rfl,trivial⟩) ?_;refine aq.fg (st':=⟨Vr,117,[.cells [ab nR,ab nF,aa 30]],[]⟩) zH ?_
 (try change aq _ _ _ _ _)
 refine(zV) ?_;refine aq.fg (st':=⟨(15,.buf 1 1 5 (some 1))::Vr,117,[.cells [ab nR,ab nF,aa 30],.cells (bJ Uc)],[]⟩) zH ?_;refine aq.fg (Fg.freeze (f':=Uo) 1 rfl (λh=>by cases h) ⟨.inr (.buf rfl (bl.refl rfl) (af _)),.inl rfl,.inl rfl,.inl rfl,.inl rfl,.inl rfl,.inl rfl,.inl rfl,.inl rfl,.inl rfl,.inl rfl,.inl rfl,.inl rfl,.inl rfl,.inl rfl,trivial⟩) ?_;refine aq.fg (st':=⟨Uo,117,[.cells [ab nR,ab nF,aa 30]],[]⟩) zH ?_
 (try change aq _ _ _ _ _)
 refine(zC) ?_;refine aG.fg (st':=⟨(71,.buf 1 2 4 (some 2))::(66,.ag (ah 3 BE ao::aD Jm))::(67,ah 5 [Uc] bJ)::(68,ah 2 [EM] aB)::Uo,117,[.cells [ab nR,ab nF,aa 30],.cells ([QX 49,QX 50].flatMap bN)],[]⟩) zH ?_;refine aG.fg (Fg.freeze (f':=(71,ah 4 [QX 49,QX 50] bN)::(66,.ag (ah 3 BE ao::aD Jm))::(67,ah 5 [Uc] bJ)::(68,ah 2 [EM] aB)::Uo) 1 rfl (λh=>by cases h) ⟨.inr (.buf rfl (bl.refl rfl) (af _)),.inl rfl,.inl rfl,.inl rfl,.inl rfl,.inl rfl,.inl rfl,.inl rfl,.inl rfl,.inl rfl,.inl rfl,.inl rfl,.inl rfl,.inl rfl,.inl rfl,.inl rfl,.inl rfl,.inl rfl,.inl rfl,trivial⟩) ?_;refine aG.fg (st':=⟨(71,ah 4 [QX 49,QX 50] bN)::(66,.ag (ah 3 BE ao::aD Jm))::(67,ah 5 [Uc] bJ)::(68,ah 2 [EM] aB)::Uo,117,[.cells [ab nR,ab nF,aa 30]],[]⟩) zH ?_;refine(zK ho (hfl:=.inr (bl.refl rfl)))<|(cK @My.eq_1) ?_;refine aq.fg (st':=⟨WA,117,[.cells [ab nR,ab nF,aa 30]],[]⟩) (bK @My.eq_1) ?_
 (try change aq _ _ _ _ _)
 exact(zV)<|(iC (n2 (show decide ((0:Int)=0)=true from rfl) (show decide ((1:Int)=1)=true from rfl)))<|(zK m0)<|(Sy (n2 (show decide ((0:Int)=0)=true from rfl) (show decide ((1:Int)=1)=true from rfl)))<|(zK m1)<|(Sy (n2 (show decide ((0:Int)=0)=true from rfl) (show decide ((1:Int)=1)=true from rfl)))<|(zK m0)<|(cK (n2 (show decide ((0:Int)=0)=true from rfl) (show decide ((1:Int)=1)=true from rfl)))<|zo [.tmp 0]
abbrev l7:Nat:=1000000000000000
def qg(e:bH):Bool:=decide ((e.part.length:Int)<=300)&&(decide ((e.kind.length:Int)<=300)&&(decide ((e.bG.length:Int)<=300)&&(decide ((e.slot.length:Int)<=300)&&(decide ((e.key.length:Int)<=300)&&decide ((e.value.length:Int)<=300)))))
def FC(e:bH):PC prog 64 [.ag (aF e)] (·=au (qg e)):=by
 refine pB 37 Tryz.func64 ?_;rw[dW];unfold qg;refine(zV) ?_;cases g1:decide ((e.part.length:Int)<=300)
 ·exact(az g1)<|zo [.tmp 2]
 cases g2:decide ((e.kind.length:Int)<=300)
 ·exact(az (n2 g1 g2))<|zo [.tmp 2]
 cases g3:decide ((e.bG.length:Int)<=300)
 ·exact(az (n3 g1 g2 g3))<|zo [.tmp 2]
 cases g4:decide ((e.slot.length:Int)<=300)
 ·exact(az (n4 g1 g2 g3 g4))<|zo [.tmp 2]
 cases g5:decide ((e.key.length:Int)<=300)
 ·exact(az (n5 g1 g2 g3 g4 g5))<|zo [.tmp 2]
 exact(az (n5 g1 g2 g3 g4 g5))<|zo [.tmp 2]
def qn(l:List bH)(most:Int):Bool:=(l.take (most+1).toNat).all qg&&decide ((l.length:Int)<=most)
def QN{α:Type}{p:α->Bool}{l:List α}{n:Nat}{k:Nat}{x:α}(hx:l[k]?=some x)(hk:k<n)(hp:p x=false):(l.take n).all p=false:=by
 refine eq_false_iff.2 λh=>?_;have:=all_eq_true.1 h x (by rw[fw];exact⟨k,by rw[dt,t8 hk];exact hx⟩);rw[hp] at this;cases this
def pD{α:Type}{p:α->Bool}{l:List α}{n k:Nat}(h:(l.take k).all p=true)(hk:n<=k\/l.length<=k):(l.take n).all p=true:=by
 rw[all_eq_true] at h ⊢;intro x hx;refine h x ?_;rw[fw] at hx ⊢;obtain⟨i,hi⟩:=hx;rw[dt] at hi;split at hi
 ·rename_i h1;have:=bf hi;exact⟨i,by rw[dt,t8 (by omega)];exact hi⟩
 ·cases hi
def lz{α:Type}{p:α->Bool}{l:List α}{k:Nat}{x:α}(hx:l[k]?=some x)(h:(l.take k).all p=true)(hp:p x=true):(l.take (k+1)).all p=true:=by
 rw[bz hx,g7,h];show(true&&(p x&&true))=true;rw[hp];rfl
def Kq(l:List bH)(most:Int)(hm:0<=most)(hlen:l.length<=l7):PC prog 32 [ah 14 l aF,aa most] (·=au (Proofs.qn l most)):=by
 refine pB 27 Tryz.func32 ?_;refine(mO) ?_
 have hfin:∀k,(l.take k).all qg=true->(l.length<=k\/most<(k:Int))->Proofs.qn l most=decide ((l.length:Int)<=most):=λk h hk=>by
  rw[Proofs.qn,pD h (by omega),fs]
 refine(zs) ?_;refine zL l (λk=>(l.take k).all qg=true) (λk=>[(0,ah 14 l aF),(1,aa most),(5,aa k)]) (λk=>[]) zH zp ?_;intro k hk hall;by_cases hlt:k<l.length;rotate_left
 ·exact(az (show decide ((k:Int)<(l.length:Int))=false by simp only[wd];omega))<|(eN)<|(zV)<|zo [.tmp 4] (hq:=by rw[hfin k hall (by omega)])
 have hd:=show decide ((k:Int)<(l.length:Int))=true by simp only[wp];omega
 obtain⟨x,hx⟩:∃x,l[k]?=some x:=⟨l[k],aj hlt⟩;cases g:decide ((k:Int)<=most)
 ·refine(az (n2 hd g))<|(eN) ?_
  have:=wt g
  exact(zV)<|zo [.tmp 4] (hq:=by rw[hfin k hall (by omega)])
 refine(az (n2 hd g))<|(gh) ?_
 have hg:=ww g
 refine(iC (n2 hlt (aH (e:=14) (enc:=aF) (λ_=>rfl) hx)))<|(zK (FC x)) ?_
 cases hs:qg x
 ·exact(zR)<|(cM)<|zo [.tmp 4] (hq:=by rw[show Proofs.qn l most=false by rw[Proofs.qn,QN hx (by omega) hs];rfl])
 refine(zR)<|(zN)<|(az (zi hlt hlen)) ?_;refine zX hlt zH (lz hx hall hs)
def tW(l:List br)(most:Int):Bool:=if (l.length:Int)<=most then l.all λr=>Proofs.qn r.opts 6 else false
def Ks(l:List br)(most:Int)(hlen:l.length<=l7)(ho:∀r∈l,r.opts.length<=l7):PC prog 14 [ah 2 l aB,aa most] (·=au (Proofs.tW l most)):=by
 refine pB 29 Tryz.func14 ?_;refine(mO) ?_;cases hm:decide ((l.length:Int)<=most)
 ·refine(zs) ?_;refine zL l (λk=>True) (λk=>[(0,ah 2 l aB),(1,aa most),(5,aa k)]) (λk=>[]) zH zp ?_;intro k hk hall;cases hb:decide ((k:Int)<(l.length:Int))
  ·exact(az hb)<|(eN)<|(az hm)<|zo [.tmp 4] (hq:=by rw[Proofs.tW,ul (wt hm)])
  ·exact(az (n2 hb hm))<|(eN)<|(az hm)<|zo [.tmp 4] (hq:=by rw[Proofs.tW,ul (wt hm)])
 have hN:Proofs.tW l most=l.all λr=>Proofs.qn r.opts 6:=by rw[Proofs.tW,t8 (ww hm)]
 refine(zs) ?_;refine zL l (λk=>((l.take k).all λr=>Proofs.qn r.opts 6)=true) (λk=>[(0,ah 2 l aB),(1,aa most),(5,aa k)]) (λk=>[]) zH zp ?_;intro k hk hall;by_cases hlt:k<l.length;rotate_left
 ·refine(az (show decide ((k:Int)<(l.length:Int))=false by simp only[wd];omega))<|(eN) ?_
  have h1:=pD (n:=l.length) hall (by omega);rw[b7] at h1
  exact(az hm)<|zo [.tmp 4] (hq:=by rw[hN,h1])
 have hd:=show decide ((k:Int)<(l.length:Int))=true by simp only[wp];omega
 obtain⟨x,hx⟩:∃x,l[k]?=some x:=⟨l[k],aj hlt⟩
 refine(az (n2 hd hm))<|(gh)<|(iC (n3 hlt (aH (e:=2) (enc:=aB) (λ_=>rfl) hx) @aB.eq_1))<|(zK (Kq x.opts 6 (by decide) (ho x (bd hx)))) ?_
 cases hs:Proofs.qn x.opts 6
 ·exact(zR)<|(cM)<|zo [.tmp 4] (hq:=by rw[hN,show(l.all λr=>Proofs.qn r.opts 6)=false from eq_false_iff.2 λh=>by have:=all_eq_true.1 h x (bd hx);rw[hs] at this;cases this])
 refine(zR)<|(zN)<|(az (zi hlt hlen)) ?_;refine zX hlt zH (lz hx hall hs)
def oX(ws:List Wy)(c:Co):Bool:=decide ((ws.length:Int)<=6)&&(ws.all (λw=>decide ((w.kind.length:Int)+(w.cR.length:Int)<=300))&&decide ((c.part.length:Int)+(c.owner.length:Int)<=300))
def Bi(ws:List Wy)(c:Co)(hlen:ws.length<=l7)(hw:∀w∈ws,w.kind.length<=l7/\w.cR.length<=l7)(hc:c.part.length<=l7/\c.owner.length<=l7):PC prog 12 [ah 5 ws bJ,.ag (bN c)] (·=au (Proofs.oX ws c)):=by
 refine pB 44 Tryz.func12 ?_;rw[dV];refine(zV) ?_;refine aq.fg (Fg.freeze (f':=[(0,ah 5 ws bJ),(3,.ip [ab c.part,ab c.owner,aa c.day,aa c.am])]) 0 rfl (λh=>by cases h) (sh @ah.eq_1)) ?_;refine aq.fg (st':=⟨[(0,ah 5 ws bJ),(3,.ip [ab c.part,ab c.owner,aa c.day,aa c.am])],44,[],[]⟩) zH ?_
 (try change aq _ _ _ _ _)
 refine(zV) ?_;have hca:=rJ (P:=prog) (t:=3) (show -9223372036854775808<=(c.part.length:Int)+(c.owner.length:Int)/\(c.part.length:Int)+(c.owner.length:Int)<=9223372036854775807 from by unfold l7 at hc;omega);cases hm:decide ((ws.length:Int)<=6)
 ·refine(zs) ?_;refine aq.block (aq.loop (λm st=>∃k:Nat,k<=ws.length/\m=ws.length-k/\(True)/\st=⟨[(0,ah 5 ws bJ),(3,.ip [ab c.part,ab c.owner,aa c.day,aa c.am]),(5,aa k)],44,[],[]⟩) ws.length (Fg.less Ut V9) ⟨0,ce _,rfl,(by first | exact λi y h=>t7 h (d8 _) | trivial | rfl | assumption),rfl⟩ (by rintro m st ⟨k,_,_,_,rfl⟩;rfl) ?_);rintro m st ⟨k,hk,rfl,hall,rfl⟩
  have hN:Proofs.oX ws c=false:=by rw[Proofs.oX,hm];rfl
  cases hb:decide ((k:Int)<(ws.length:Int))
  ·refine(zs) ?_;refine aq.r0 (by rfl) (iZ hb) ?_;refine(eN)<|(zs) ?_;refine aq.r0 (by rfl) (iZ hm) ?_;refine(zE) ?_;exact sP.of (rs:=[.tmp 4]) rfl rfl zl (Wk.refl rfl) (by (try simp only[df,aX]);first | done | (rw[hN]))
  ·refine(zs) ?_;refine aq.r0 (by rfl) (iZ (n2 hb hm)) ?_;refine(eN)<|(zs) ?_;refine aq.r0 (by rfl) (iZ hm) ?_;refine(zE) ?_;exact sP.of (rs:=[.tmp 4]) rfl rfl zl (Wk.refl rfl) (by (try simp only[df,aX]);first | done | (rw[hN]))
 refine(zs) ?_;refine aq.block (aq.loop (λm st=>∃k:Nat,k<=ws.length/\m=ws.length-k/\(((ws.take k).all λw=>decide ((w.kind.length:Int)+(w.cR.length:Int)<=300))=true)/\st=⟨[(0,ah 5 ws bJ),(3,.ip [ab c.part,ab c.owner,aa c.day,aa c.am]),(5,aa k)],44,[],[]⟩) ws.length (Fg.less Ut V9) ⟨0,ce _,rfl,(by first | exact λi y h=>t7 h (d8 _) | trivial | rfl | assumption),rfl⟩ (by rintro m st ⟨k,_,_,_,rfl⟩;rfl) ?_);rintro m st ⟨k,hk,rfl,hall,rfl⟩;by_cases hlt:k<ws.length;rotate_left
 ·refine(zs) ?_;refine aq.r0 (by rfl) (iZ (show decide ((k:Int)<(ws.length:Int))=false by simp only[wd];omega)) ?_;refine(eN) ?_;have h1:=pD (n:=ws.length) hall (by omega);rw[b7] at h1;refine(zs) ?_;refine aq.r0 (by rfl) (iZ (n2 hm hca)) ?_;refine(zE) ?_;exact sP.of (rs:=[.tmp 4]) rfl rfl zl (Wk.refl rfl) (by (try simp only[df,aX]);first | done | (rw[Proofs.oX,hm,h1];rfl))
 have hd:=show decide ((k:Int)<(ws.length:Int))=true by simp only[wp];omega
 obtain⟨x,hx⟩:∃x,ws[k]?=some x:=⟨ws[k],aj hlt⟩;have hwx:=hw x (bd hx);have hwa:=rJ (P:=prog) (t:=3) (show -9223372036854775808<=(x.kind.length:Int)+(x.cR.length:Int)/\(x.kind.length:Int)+(x.cR.length:Int)<=9223372036854775807 from by unfold l7 at hwx;omega);refine(zs) ?_;refine aq.r0 (by rfl) (iZ (n2 hd hm)) ?_;refine(gh) ?_;cases hs:decide ((x.kind.length:Int)+(x.cR.length:Int)<=300)
 ·refine(zs) ?_;refine aq.O0 (ms:=[0,0,3,7,15,31,0,0,192,448,960,1984,4095,8191]) rfl (by kernel_rfl) (by kernel_rfl) ?_
  (repeat (first | refine SD.r (by rfl) rfl (by rfl) (by rfl) (iZ (n5 hlt (aH (e:=5) (enc:=bJ) (λ_=>rfl) hx) @lC hwa (show decide (300<(x.kind.length:Int)+(x.cR.length:Int))=true by simp only[wp];have:=wt hs;omega))) ?_ | refine SD.s (by rfl) rfl (by rfl) (by rfl) ?_ | fail))
  refine(zM)<|(cM)<|(zE) ?_;exact sP.of (rs:=[.tmp 4]) rfl rfl zl (Wk.refl rfl) (by (try simp only[df,aX]);first | done | (rw[Proofs.oX,hm,show(ws.all λw=>decide ((w.kind.length:Int)+(w.cR.length:Int)<=300))=false from eq_false_iff.2 λh=>by have:=all_eq_true.1 h x (bd hx);rw[hs] at this;cases this];rfl))
 ·refine(zs) ?_;refine aq.O0 (ms:=[0,0,3,7,15,31,0,0,192,448,960,1984,4095,8191]) rfl (by kernel_rfl) (by kernel_rfl) ?_
  (repeat (first | refine SD.r (by rfl) rfl (by rfl) (by rfl) (iZ (n5 hlt (aH (e:=5) (enc:=bJ) (λ_=>rfl) hx) @lC hwa (show decide (300<(x.kind.length:Int)+(x.cR.length:Int))=false by simp only[wd];have:=ww hs;omega))) ?_ | refine SD.s (by rfl) rfl (by rfl) (by rfl) ?_ | fail))
  refine(zM)<|(zN)<|(az (zi hlt hlen)) ?_;refine zX hlt zH (lz hx hall hs)
def JD(a b:Int):Bool:=decide (0<=a)&&(decide (a<=b)&&decide (b<=1000000))
def wQ(a b:Int):PC prog 218 [.ag [aa a,aa b]] (·=au (Proofs.JD a b)):=by
 refine pB 18 Tryz.func218 ?_;unfold Proofs.JD;refine(zV) ?_;cases g1:decide (0<=a)
 ·exact(az g1)<|zo [.tmp 2]
 cases g2:decide (a<=b)
 ·exact(az (n2 g1 g2))<|zo [.tmp 2]
 exact(az (n2 g1 g2))<|zo [.tmp 2]
def Mt(u:jc):Bool:=Proofs.JD u.u1 u.u2&&(Proofs.JD u.u3 u.u4&&Proofs.JD u.u5 u.u6)
def K2(u:jc):PC prog 172 [.ag (ea u)] (·=au (Proofs.Mt u)):=by
 refine pB 16 Tryz.func172 ?_;unfold Proofs.Mt
 refine(az @ea.eq_1)<|(zC)<|(zK (wQ u.u1 u.u2)) ?_
 cases g1:Proofs.JD u.u1 u.u2
 ·exact(zR)<|zo [.tmp 2]
 refine(zQ)<|(zK (wQ u.u3 u.u4)) ?_
 cases g2:Proofs.JD u.u3 u.u4
 ·exact(zR)<|zo [.tmp 2]
 exact(zQ)<|(zK (wQ u.u5 u.u6))<|(zR)<|zo [.tmp 2]
def tw(x y:bH):cS prog .eql 58 (.agg [.int .i64 x.op,.int .i64 x.day,.str x.part,.str x.kind,.str x.bG,.str x.slot,.str x.key,.str x.value,.int .i64 x.u1,.int .i64 x.u2,.int .i64 x.u3,.int .i64 x.u4,.int .i64 x.u5,.int .i64 x.u6]) (.agg [.int .i64 y.op,.int .i64 y.day,.str y.part,.str y.kind,.str y.bG,.str y.slot,.str y.key,.str y.value,.int .i64 y.u1,.int .i64 y.u2,.int .i64 y.u3,.int .i64 y.u4,.int .i64 y.u5,.int .i64 y.u6])=some (.bool (decide (x=y))):=Dx x y
def iU(e:bH):bH:=
 if e.op=1 then ⟨e.op,e.day,e.part,e.kind,[],[],[],[],0,0,0,0,0,0⟩
 else if e.op=2 then ⟨e.op,e.day,e.part,[],e.bG,e.slot,[],[],0,0,0,0,0,0⟩
 else if e.op=4 then ⟨e.op,e.day,e.part,[],[],[],[],[],e.u1,e.u2,e.u3,e.u4,e.u5,e.u6⟩
 else if e.op=6 then ⟨e.op,e.day,e.part,[],[],[],e.key,e.value,0,0,0,0,0,0⟩
 else ⟨e.op,e.day,e.part,[],[],[],[],[],0,0,0,0,0,0⟩
def jV(e:bH):Bool:=
 if e.op=1 then cC e.kind
 else if e.op=2 then cC e.bG&&(cC e.slot&&!(decide (e.bG=e.part)))
 else if e.op=4 then Proofs.Mt (oB e)
 else if e.op=6 then cC e.key&&(decide (1<=(e.value.length:Int))&&decide ((e.value.length:Int)<=200))
 else true
def kn(e:bH):Bool:=!(decide (e.op<1))&&(!(decide (7<e.op))&&(!(decide (e.day<0))&&(!(decide (40000<e.day))&&(cC e.part&&(jV e&&decide (iU e=e))))))
def FG(e:bH)(he:qC e):PC prog 117 [.ag (aF e)] (·=au (Proofs.kn e)):=by
 refine pB 106 Tryz.func117 ?_;rw[dW];refine(zV) ?_;cases h1:decide (e.op<1);rotate_left
 ·exact(az h1)<|(cM)<|zo [.tmp 2] (hq:=by rw[Proofs.kn,h1];rfl)
 cases h2:decide (7<e.op);rotate_left
 ·exact(az (n2 h1 h2))<|(cM)<|zo [.tmp 2] (hq:=by rw[Proofs.kn,h1,h2];rfl)
 cases h3:decide (e.day<0);rotate_left
 ·exact(az (n3 h1 h2 h3))<|(cM)<|zo [.tmp 2] (hq:=by rw[Proofs.kn,h1,h2,h3];rfl)
 cases h4:decide (40000<e.day);rotate_left
 ·exact(az (n4 h1 h2 h3 h4))<|(cM)<|zo [.tmp 2] (hq:=by rw[Proofs.kn,h1,h2,h3,h4];rfl)
 refine(iC (n4 h1 h2 h3 h4))<|(zK (gx e.part he.part.1)) ?_
 cases h5:cC e.part
 ·exact(zR)<|(cM)<|zo [.tmp 2] (hq:=by rw[Proofs.kn,h1,h2,h3,h4,h5];rfl)
 refine(zR)<|(zN) ?_
 have hv:Proofs.kn e=(jV e&&decide (iU e=e)):=by rw[Proofs.kn,h1,h2,h3,h4,h5];rfl
 clear h1 h2 h3 h4 h5
 refine(mO)<|(zV) ?_
 (repeat refine aq.seq ?_)
 refine aq.mono (Q:=λex st=>ex=.normal/\Fg st ⟨[(1,.ptr 0 0),(3,.ptr 1 0),(4,au (jV e))],106,[.cells (aF e),.cells (aF (iU e))],[]⟩) ?_ ?_;rotate_left
 ·rintro ex st ⟨rfl,hf⟩;change aq _ _ _ _ _;refine aq.fg hf ?_;rw[hv];cases hg:jV e
  ·exact(zV)<|zo [.tmp 2]
  ·exact(az (n2 @aF.eq_1 (tw (iU e) e)))<|zo [.tmp 2]
 have hrest:∀a1 a2 a3 a4 a5 a6 a7 a8 a9 a10 a11 a12 a13 a14,iU e=(⟨a1,a2,a3,a4,a5,a6,a7,a8,a9,a10,a11,a12,a13,a14⟩:bH)->aF (iU e)=[aa a1,aa a2,ab a3,ab a4,ab a5,ab a6,ab a7,ab a8,aa a9,aa a10,aa a11,aa a12,aa a13,aa a14]:=by
  intros;simp only[*,aF]
 refine aq.block ?_;refine(zV) ?_;cases k1:decide (e.op=1);rotate_left
 ·have k1':=ww k1;have hr:=hrest _ _ _ _ _ _ _ _ _ _ _ _ _ _ (show iU e=_ by unfold iU;rw[t8 k1'])
  have hgd:jV e=cC e.kind:=by unfold jV;rw[t8 k1']
  refine(cM)<|(zC)<|(zK (gx e.kind he.kind.1))<|(zR) ?_;refine⟨rfl,?_⟩
  rw[hr,hgd,dW];exact zH
 have n1:=wt k1;refine(iY) ?_;cases k2:decide (e.op=2);rotate_left
 ·have k2':=ww k2;have hr:=hrest _ _ _ _ _ _ _ _ _ _ _ _ _ _ (show iU e=_ by unfold iU;rw[ul n1,t8 k2'])
  have hgd:jV e=(cC e.bG&&(cC e.slot&&!(decide (e.bG=e.part)))):=by unfold jV;rw[ul n1,t8 k2']
  rw[hgd,hr,dW]
  refine(cM)<|(kK)<|(zK (gx e.bG he.bG.1)) ?_
  cases j1:cC e.bG
  ·refine(zR) ?_;refine⟨rfl,?_⟩;exact zH
  refine(zQ)<|(zK (gx e.slot he.slot.1)) ?_
  cases j2:cC e.slot
  ·refine(zR) ?_;refine⟨rfl,?_⟩;exact zH
  refine(zR) ?_;refine⟨rfl,?_⟩;exact zH
 have n2:=wt k2;refine(iY) ?_;cases k4:decide (e.op=4);rotate_left
 ·have k4':=ww k4;have hr:=hrest _ _ _ _ _ _ _ _ _ _ _ _ _ _ (show iU e=_ by unfold iU;rw[ul n1,ul n2,t8 k4'])
  have hgd:jV e=Proofs.Mt (oB e):=by unfold jV;rw[ul n1,ul n2,t8 k4']
  rw[hgd,hr,dW]
  refine(cM)<|(zC)<|(zK (K2 (oB e)))<|(zR) ?_;refine⟨rfl,?_⟩;exact zH
 have n4:=wt k4;refine(iY) ?_;cases k6:decide (e.op=6);rotate_left
 ·have k6':=ww k6;have hr:=hrest _ _ _ _ _ _ _ _ _ _ _ _ _ _ (show iU e=_ by unfold iU;rw[ul n1,ul n2,ul n4,t8 k6'])
  have hgd:jV e=(cC e.key&&(decide (1<=(e.value.length:Int))&&decide ((e.value.length:Int)<=200))):=by unfold jV;rw[ul n1,ul n2,ul n4,t8 k6']
  rw[hgd,hr,dW]
  refine(cM)<|(kK)<|(zK (gx e.key he.key.1)) ?_
  cases j1:cC e.key
  ·refine(zR) ?_;refine⟨rfl,?_⟩;exact zH
  cases j2:decide (1<=(e.value.length:Int))
  ·refine(cK j2) ?_;refine⟨rfl,?_⟩;exact zH
  refine(cK j2) ?_;refine⟨rfl,?_⟩;exact zH
 have n6:=wt k6;have hr:=hrest _ _ _ _ _ _ _ _ _ _ _ _ _ _ (show iU e=_ by unfold iU;rw[ul n1,ul n2,ul n4,ul n6])
 have hgd:jV e=true:=by unfold jV;rw[ul n1,ul n2,ul n4,ul n6]
 rw[hgd,hr,dW];refine(zN) ?_
 (try (refine aq.skip ?_))
 refine⟨rfl,?_⟩;exact zH
def Hl(l:List bH)(i:Nat):Bool:=match l[i]? with
 | some y=>Proofs.kn y&&(l.take i).all λx=>!(decide (x=y))
 | none=>true
def mC(r:br):Bool:=!(decide ((r.opts.length:Int)<1))&&(!(decide (4<(r.opts.length:Int)))&&(g8 r.opts.length).all (Hl r.opts))
def FH(r:br)(hr:eh r):PC prog 65 [.ag (aB r)] (·=au (Proofs.mC r)):=by
 refine pB 45 Tryz.func65 ?_;refine(az @aB.eq_1) ?_;refine aq.fg (Fg.freeze (f':=[(1,.ip [ah 14 r.opts aF,au r.qK])]) 0 rfl (λh=>by cases h) (sh @ah.eq_1)) ?_;refine aq.fg (st':=⟨[(1,.ip [ah 14 r.opts aF,au r.qK])],45,[],[]⟩) zH ?_
 (try change aq _ _ _ _ _)
 cases g1:decide ((r.opts.length:Int)<1);rotate_left
 ·exact(az g1)<|(cM)<|zo [.tmp 2] (hq:=by rw[Proofs.mC,g1];rfl)
 cases g2:decide (4<(r.opts.length:Int));rotate_left
 ·exact(az (n2 g1 g2))<|(cM)<|zo [.tmp 2] (hq:=by rw[Proofs.mC,g1,g2];rfl)
 have hN:Proofs.mC r=(g8 r.opts.length).all (Hl r.opts):=by rw[Proofs.mC,g1,g2];rfl
 have hlen:=hr.len
 refine(az (n2 g1 g2))<|(iY)<|(zs) ?_;refine zL r.opts (λk=>(g8 k).all (Hl r.opts)=true) (λk=>[(1,.ip [ah 14 r.opts aF,au r.qK]),(3,aa k)]) (λk=>[]) zH zp ?_;intro k hk hall
 by_cases hlt:k<r.opts.length;rotate_left
 ·obtain rfl:k=r.opts.length:=by omega
  exact(az (show decide ((r.opts.length:Int)<(r.opts.length:Int))=false by simp))<|(eN)<|(zV)<|zo [.tmp 2] (hq:=by rw[hN,hall])
 have hd:=show decide ((k:Int)<(r.opts.length:Int))=true by simp only[wp];omega
 obtain⟨y,hx⟩:∃x,r.opts[k]?=some x:=⟨r.opts[k],aj hlt⟩
 have hoy:Hl r.opts k=(Proofs.kn y&&(r.opts.take k).all λx=>!(decide (x=y))):=by unfold Hl;rw[hx]
 have hbad:Hl r.opts k=false->Proofs.mC r=false:=λh=>by
  rw[hN];refine eq_false_iff.2 λh2=>?_;have:=all_eq_true.1 h2 k (List.mem_range.2 hlt);rw[h] at this;cases this
 refine(az hd)<|(gh) ?_
 (repeat refine aq.seq ?_)
 refine(iC (n2 hlt (aH (e:=14) (enc:=aF) (λ_=>rfl) hx)))<|(zK (FG y (hr.ev y (bd hx)))) ?_
 cases hs:Proofs.kn y
 ·exact(zR)<|(cM)<|zo [.tmp 2] (hq:=by rw[hbad (by rw[hoy,hs];rfl)])
 rw[hs,fs] at hoy
 refine(zR)<|(iY) ?_
 have htl:(r.opts.take k).length=k:=by rw[gt];omega
 refine(zs) ?_;refine zL (r.opts.take k) (λk2=>(((r.opts.take k).take k2).all λx=>!(decide (x=y)))=true) (λk2=>[(1,.ip [ah 14 r.opts aF,au r.qK]),(3,aa k),(4,aa k2)]) (λk2=>[]) zH zp ?_;intro k2 hk2 hall2;by_cases hlt2:k2<(r.opts.take k).length;rotate_left
 ·have hk2:k2=k:=by omega
  refine(az (show decide ((k2:Int)<(k:Int))=false by simp only[wd];omega))<|(eN) ?_
  have h1:=pD (n:=(r.opts.take k).length) hall2 (by omega);rw[b7] at h1
  have hnx:(g8 (k+1)).all (Hl r.opts)=true:=by
   rw[List.range_succ,g7,hall,fs];show(Hl r.opts k&&true)=true;rw[hoy,h1];rfl
  refine(az (zi hlt hlen)) ?_;refine zX hlt zH hnx
 obtain⟨x,hx2⟩:∃x,(r.opts.take k)[k2]?=some x:=⟨(r.opts.take k)[k2],aj hlt2⟩
 have hx3:r.opts[k2]?=some x:=by
  rw[dt] at hx2;split at hx2
  ·exact hx2
  ·cases hx2
 have hlt3:k2<r.opts.length:=by omega
 have hlen2:(r.opts.take k).length<=1000000:=by omega
 refine(az (show decide ((k2:Int)<(k:Int))=true by simp only[wp];omega))<|(gh) ?_
 cases he:decide (x=y)
 ·refine(zs) ?_;refine nQ [0,1,0,7,15,0,32,0,224,480,1023] ?_;refine(me (n7 hlt hlt3 (aH (e:=14) (enc:=aF) (λ_=>rfl) hx) (aH (e:=14) (enc:=aF) (λ_=>rfl) hx3) @aF.eq_1 (tw x y) he))<|(zM)<|(zN)<|(az (zi hlt2 hlen2)) ?_;refine zX hlt2 zH (lz hx2 hall2 (by rw[he];rfl))
 ·refine(zs) ?_;refine nQ [0,1,0,7,15,0,32,0,224,480,1023] ?_;exact(me (n7 hlt hlt3 (aH (e:=14) (enc:=aF) (λ_=>rfl) hx) (aH (e:=14) (enc:=aF) (λ_=>rfl) hx3) @aF.eq_1 (tw x y) he))<|(zM)<|(cM)<|zo [.tmp 2] (hq:=by rw[hbad (by rw[hoy];refine eq_false_iff.2 λh=>?_;have:=all_eq_true.1 h x (bd hx2);rw[he] at this;cases this)])
def eo(r:br):Int:=if Proofs.mC r=false then 0 else if r.qK=true then (r.opts.length:Int)+1 else r.opts.length
def D3(r:br):eo r<=5/\0<=eo r:=by
 unfold eo;split
 ·omega
 ·rename_i h;have h4:¬4<(r.opts.length:Int):=λhg=>h (by rw[Proofs.mC,ut hg];cases decide ((r.opts.length:Int)<1)<;>rfl);split<;>omega
def Be(r:br)(hr:eh r):PC prog 33 [.ag (aB r)] (·=aa (Proofs.eo r)):=by
 refine pB 15 Tryz.func33 ?_;have hlen:=hr.len
 refine(az @aB.eq_1)<|(zC)<|(zK (FH r hr)) ?_
 cases h:Proofs.mC r
 ·exact(zR)<|(cM)<|zo [.tmp 2] (hq:=by rw[Proofs.eo,t8 h])
 have hN:Proofs.eo r=if r.qK=true then (r.opts.length:Int)+1 else r.opts.length:=by rw[Proofs.eo,ul (by rw[h];decide)]
 refine(zR)<|(zN) ?_
 cases hd:r.qK
 ·rw[hd] at hN
  exact(I4)<|(zV)<|zo [.tmp 2] (hq:=by rw[hN];rfl)
 ·rw[hd] at hN
  refine(xS)<|(zs) ?_;refine aq.r0 (by rfl) (iZ (bA (r.opts.length:Int) 1 (by omega))) ?_;refine(zE) ?_;exact sP.of (rs:=[.tmp 2]) rfl rfl zl (Wk.refl rfl) (by (try simp only[df,aX]);first | done | (rw[hN];rfl))
def tE(most:Int):List br->Int->Int
 | [],n=>n
 | r::l,n=>if n<=most then tE most l (n*ee 1 (eo r)) else n
def IM(l:List br)(most:Int)(hm:most<=1000)(hl:∀r∈l,eh r)(hlen:l.length<=1000000):PC prog 15 [ah 2 l aB,aa most] (·=aa (Proofs.tE most l 1)):=by
 refine pB 27 Tryz.func15 ?_;refine(mO)<|(zV)<|(zs) ?_;refine Oi l (λk (n:Int)=>(Proofs.tE most l 1=Proofs.tE most (l.drop k) n/\0<=n/\n<=1000000)) (λk n=>[(0,ah 2 l aB),(1,aa most),(5,aa n),(6,aa k)]) (λk n=>[]) (1) zH (by exact⟨rfl,by decide,by decide⟩) ?_;intro k n hk hall
 obtain⟨hw,hn0,hn1⟩:=hall;by_cases hlt:k<l.length;rotate_left
 ·refine(az (show decide ((k:Int)<(l.length:Int))=false by simp only[wd];omega))<|(eN) ?_
  rw[ct (by omega),Proofs.tE] at hw
  exact(zV)<|zo [.tmp 4] (hq:=by rw[hw])
 have hd:=show decide ((k:Int)<(l.length:Int))=true by simp only[wp];omega
 obtain⟨x,hx⟩:∃x,l[k]?=some x:=⟨l[k],aj hlt⟩;rw[fC hx,Proofs.tE] at hw;cases g:decide (n<=most)
 ·rw[ul (wt g)] at hw
  exact(az (n2 hd g))<|(eN)<|(zV)<|zo [.tmp 4] (hq:=by rw[hw])
 rw[t8 (ww g)] at hw;have hg:=ww g;have hc:=D3 x
 have hmx:0<=ee 1 (Proofs.eo x)/\ee 1 (Proofs.eo x)<=5:=by unfold ee;split<;>omega
 have hch:=Be x (hl x (bd hx))
 have hnm:0<=n*ee 1 (Proofs.eo x)/\n*ee 1 (Proofs.eo x)<=1000000:=by
  refine⟨Int.mul_nonneg hn0 hmx.1,?_⟩;have h1:=Int.mul_le_mul_of_nonneg_left hmx.2 hn0;omega
 refine(az (n2 hd g))<|(gh)<|(iC (n3 hlt (aH (e:=2) (enc:=aB) (λ_=>rfl) hx) @aB.eq_1))<|(zK hch) ?_;refine aG.r0 (by rfl) (iZ (n2 @fE (bM n (ee 1 (Proofs.eo x)) (by omega)))) ?_;refine(az (zi hlt hlen)) ?_;refine I5 hlt ((n*ee 1 (Proofs.eo x))) zH (⟨hw,hnm.1,hnm.2⟩)
inductive jJ:bu->Prop
 | mk {op n:Int} {kids:List bu}:kids.length<=l7->(∀k∈kids,jJ k)->jJ (.mk op n kids)
def vg:∀(d:Nat) (f:bu),SizeOf.sizeOf f<d->jJ f->∀most:Int,PC Tryz.prog 63 [.ag (aD f),aa most] (·=aa (fU f most))
 | 0,f,hd,_,_=>t7 hd (Nat.not_lt_zero _)
 | d+1,.mk op n kids,hd,hf,most=>by
  cases hf with
  | mk hlen hks=>
  have hkd:∀k∈kids,SizeOf.sizeOf k<d:=λk hk=>by
   have h1:=List.sizeOf_lt_of_mem hk
   have h2:SizeOf.sizeOf (bu.mk op n kids)=1+SizeOf.sizeOf op+SizeOf.sizeOf n+SizeOf.sizeOf kids:=by simp
   omega
  rw[dz,fU];refine pB 31 Tryz.func63 ?_;refine(zV) ?_;refine aq.fg (Fg.freeze (f':=[(1,aa most),(2,.ip [aa op,aa n,ah 3 kids aD])]) 0 rfl (λh=>by cases h) (sh @ah.eq_1)) ?_;refine aq.fg (st':=⟨[(1,aa most),(2,.ip [aa op,aa n,ah 3 kids aD])],31,[],[]⟩) zH ?_
  (try change aq _ _ _ _ _)
  refine(mO)<|(zs) ?_;refine Oi kids (λk (acc:Int)=>ik kids most 1=ik (kids.drop k) most acc) (λk acc=>[(1,aa most),(2,.ip [aa op,aa n,ah 3 kids aD]),(5,aa acc),(6,aa k)]) (λk acc=>[]) (1) zH (by rfl) ?_;intro k acc hk hall
  by_cases hlt:k<kids.length;rotate_left
  ·refine(az (show decide ((k:Int)<(kids.length:Int))=false by simp only[wd];omega))<|(eN) ?_
   rw[List.drop_of_length_le (by omega),ik] at hall
   exact(zV)<|zo [.tmp 4] (hq:=by rw[hall])
  have hd:=show decide ((k:Int)<(kids.length:Int))=true by simp only[wp];omega
  obtain⟨x,hx⟩:∃x,kids[k]?=some x:=⟨kids[k],List.getElem?_eq_getElem hlt⟩;rw[fC hx,ik] at hall;have hxm:=List.mem_of_getElem? hx;have ih:=vg d x (hkd x hxm) (hks x hxm);have hxl:((kids.flatMap aD).drop (k*3)).take 3=aD x:=aH (e:=3) (enc:=aD) eL hx;obtain⟨op',n',kids'⟩:=x;simp only[dz] at hxl ih;cases h1:decide (acc<=most)
  ·rw[t8 (by have:=wt h1;omega)] at hall
   exact(az (n2 hd h1))<|(eN)<|(zV)<|zo [.tmp 4] (hq:=by rw[hall])
  rw[ul (by have:=ww h1;omega)] at hall
  refine(az (n2 hd h1))<|(gh)<|(iC (n3 hlt hxl @qF))<|(zK (ih (A4 most acc)))<|(cK @yZ)<|(az (zi hlt hlen)) ?_;refine I5 hlt (Ja acc (fU (.mk op' n' kids') (A4 most acc))) zH hall
def Is(f:bu)(hf:jJ f)(most:Int):PC prog 63 [.ag (aD f),aa most] (·=aa (fU f most)):=vg _ f (gd _) hf most
def GB(f:bu):Bool:=decide (fU f 80<=80)
def Ko(f:bu)(hf:jJ f):PC prog 31 [.ag (aD f)] (·=au (Proofs.GB f)):=by
 refine pB 6 Tryz.func31 ?_;have hN:=Is f hf 80;unfold Proofs.GB;generalize fU f 80=q at hN ⊢;obtain⟨op,n,kids⟩:=f;rw[dz] at hN ⊢
 exact(kK)<|(zK hN)<|(zR)<|zo [.tmp 2]
def Rb{a b:Int}(h : -9223372036854775808<=a+b/\a+b<=9223372036854775807):Ja a b=a+b:=by
 have h1:(sD (-9223372036854775808) (a+b)&&sD (a+b) 9223372036854775807)=true:=by
  rw[e9,e9];simp[h.1,h.2]
 unfold Ja;simp only[dO,Pz,Pm,h1,ae]
def Sp{a b:Int}(h : -9223372036854775808<=a-b/\a-b<=9223372036854775807):A4 a b=a-b:=by
 have h1:(sD (-9223372036854775808) (a-b)&&sD (a-b) 9223372036854775807)=true:=by
  rw[e9,e9];simp[h.1,h.2]
 unfold A4;simp only[dO,Pz,Pm,h1,ae]
def C8:∀(d:Nat) (f:bu),SizeOf.sizeOf f<d->∀most:Int,-1000<=most->most<=1000->1<=fU f most/\(fU f most<=most+1\/fU f most=1)/\(fU f most<=most->gJ f)
 | 0,f,hd,_,_,_=>t7 hd (Nat.not_lt_zero _)
 | d+1,.mk op n kids,hd,most,h0,h1=>by
  have hkd:∀k∈kids,SizeOf.sizeOf k<d:=λk hk=>by
   have h1:=List.sizeOf_lt_of_mem hk
   have h2:SizeOf.sizeOf (bu.mk op n kids)=1+SizeOf.sizeOf op+SizeOf.sizeOf n+SizeOf.sizeOf kids:=by simp
   omega
  have key:∀(ks:List bu) (acc:Int),(∀k∈ks,k∈kids)->1<=acc->(acc<=most+1\/acc=1)->1<=ik ks most acc/\(ik ks most acc<=most+1\/ik ks most acc=1)/\(ik ks most acc<=most->acc+ks.length<=ik ks most acc/\∀k∈ks,gJ k):=by
   intro ks
   induction ks with
   | nil=>intro acc _ h2 h3;rw[ik];exact⟨h2,h3,λ_=>⟨by simp,λk hk=>by cases hk⟩⟩
   | cons k ks ih=>
    intro acc hm h2 h3;rw[ik];split
    ·rename_i hlt;exact⟨h2,h3,λh=>by omega⟩
    ·rename_i hlt;rw[Sp (by omega)];obtain⟨b1,b2,b3⟩:=C8 d k (hkd k (hm k List.mem_cons_self)) (most-acc) (by omega) (by omega);rw[Rb (by omega)];obtain⟨c1,c2,c3⟩:=ih (acc+fU k (most-acc)) (λx hx=>hm x (List.mem_cons_of_mem _ hx)) (by omega) (by omega);refine⟨c1,c2,λh=>?_⟩;obtain⟨d1,d2⟩:=c3 h;refine⟨by rw[List.length_cons];omega,λx hx=>?_⟩
     rcases List.mem_cons.1 hx with rfl | hx
     ·exact b3 (by omega)
     ·exact d2 x hx
  rw[fU];obtain⟨c1,c2,c3⟩:=key kids 1 (λ_ h=>h) (Int.le_refl _) (.inr rfl);refine⟨c1,c2,λh=>?_⟩;obtain⟨d1,d2⟩:=c3 h;exact .mk (by omega) d2
def Pa{f:bu}(h:GB f=true):gJ f:=(C8 _ f (gd _) 80 (by decide) (by decide)).2.2 (ww h)
def qh(s:l8):Bool:=!(decide (100<(s.name.length:Int)))&&(!(decide (15<(s.kinds.length:Int)))&&s.kinds.all λn=>!(decide (100<(n.length:Int))))
def oM(k:aQ):Bool:=!(decide (100<(k.name.length:Int)))&&(!(decide (15<(k.bZ.length:Int)))&&k.bZ.all qh)
def tV(c:List aQ):Bool:=!(decide (65<(c.length:Int)))&&c.all oM
def yF{α:Type}{p:α->Bool}{l:List α}{x:α}(hx:x∈l)(hp:p x=false):l.all p=false:=eq_false_iff.2 λh=>by
 have:=all_eq_true.1 h x hx;rw[hp] at this;cases this
def Kp(c:List aQ):PC prog 30 [.ag [ah 3 c ao]] (·=au (Proofs.tV c)):=by
 refine pB 80 Tryz.func30 ?_;refine(zV) ?_;refine aq.fg (Fg.freeze (f':=[(1,.ip [ah 3 c ao])]) 0 rfl (λh=>by cases h) (sh @ah.eq_1)) ?_;refine aq.fg (st':=⟨[(1,.ip [ah 3 c ao])],80,[],[]⟩) zH ?_
 (try change aq _ _ _ _ _)
 cases g1:decide (65<(c.length:Int));rotate_left
 ·exact(az g1)<|(cM)<|zo [.tmp 2] (hq:=by rw[Proofs.tV,g1];rfl)
 have hlen:c.length<=1000000:=by have:=wt g1;omega
 have hN:Proofs.tV c=c.all oM:=by rw[Proofs.tV,g1];rfl
 refine(az g1)<|(iY)<|(zs) ?_;refine zL c (λk=>(c.take k).all oM=true) (λk=>[(1,.ip [ah 3 c ao]),(3,aa k)]) (λk=>[]) zH zp ?_;intro k hk hall
 by_cases hlt:k<c.length;rotate_left
 ·obtain rfl:k=c.length:=by omega
  rw[b7] at hall
  exact(az (show decide ((c.length:Int)<(c.length:Int))=false by simp))<|(eN)<|(zV)<|zo [.tmp 2] (hq:=by rw[hN,hall])
 have hd:=show decide ((k:Int)<(c.length:Int))=true by simp only[wp];omega
 obtain⟨x,hx⟩:∃x,c[k]?=some x:=⟨c[k],aj hlt⟩
 have hbad:oM x=false->Proofs.tV c=false:=λh=>by rw[hN];exact yF (bd hx) h
 refine(az hd)<|(gh) ?_
 (repeat refine aq.seq ?_)
 refine(az (n3 hlt (aH (e:=3) (enc:=ao) (λ_=>rfl) hx) @ao.eq_1)) ?_;refine aq.fg (Fg.freeze (f':=[(1,.ip [ah 3 c ao]),(3,aa k),(4,.ip [ab x.name,au x.gy,ah 3 x.bZ bT])]) 0 rfl (λh=>by cases h) (sh @ah.eq_1)) ?_;refine aq.fg (st':=⟨[(1,.ip [ah 3 c ao]),(3,aa k),(4,.ip [ab x.name,au x.gy,ah 3 x.bZ bT])],80,[],[]⟩) zH ?_
 (try change aq _ _ _ _ _)
 cases j1:decide (100<(x.name.length:Int));rotate_left
 ·exact(az j1)<|(cM)<|zo [.tmp 2] (hq:=by rw[hbad (by rw[oM,j1];rfl)])
 cases j2:decide (15<(x.bZ.length:Int));rotate_left
 ·exact(az (n2 j1 j2))<|(cM)<|zo [.tmp 2] (hq:=by rw[hbad (by rw[oM,j1,j2];rfl)])
 have hkx:oM x=x.bZ.all qh:=by rw[oM,j1,j2];rfl
 have hlen2:x.bZ.length<=1000000:=by have:=wt j2;omega
 refine(az (n2 j1 j2))<|(iY)<|(zs) ?_;refine zL x.bZ (λk2=>(x.bZ.take k2).all qh=true) (λk2=>[(1,.ip [ah 3 c ao]),(3,aa k),(4,.ip [ab x.name,au x.gy,ah 3 x.bZ bT]),(5,aa k2)]) (λk2=>[]) zH zp ?_;intro k2 hk2 hall2
 by_cases hlt2:k2<x.bZ.length;rotate_left
 ·obtain rfl:k2=x.bZ.length:=by omega
  rw[b7] at hall2
  refine(az (show decide ((x.bZ.length:Int)<(x.bZ.length:Int))=false by simp))<|(eN)<|(az (zi hlt hlen)) ?_;refine zX hlt zH (lz hx hall (by rw[hkx,hall2]))
 have hd2:=show decide ((k2:Int)<(x.bZ.length:Int))=true by simp only[wp];omega
 obtain⟨y,hx2⟩:∃y,x.bZ[k2]?=some y:=⟨x.bZ[k2],aj hlt2⟩
 have hbad2:qh y=false->oM x=false:=λh=>by rw[hkx];exact yF (bd hx2) h
 refine(az hd2)<|(gh) ?_
 (repeat refine aq.seq ?_)
 cases j3:decide (100<(y.name.length:Int));rotate_left
 ·exact(az (n4 hlt2 (aH (e:=3) (enc:=bT) (λ_=>rfl) hx2) @bT.eq_1 j3))<|(cM)<|zo [.tmp 2] (hq:=by rw[hbad (hbad2 (by rw[qh,j3];rfl))])
 cases j4:decide (15<(y.kinds.length:Int));rotate_left
 ·exact(az (n5 hlt2 (aH (e:=3) (enc:=bT) (λ_=>rfl) hx2) @bT.eq_1 j3 j4))<|(cM)<|zo [.tmp 2] (hq:=by rw[hbad (hbad2 (by rw[qh,j3,j4];rfl))])
 have hky:qh y=y.kinds.all λn=>!(decide (100<(n.length:Int))):=by rw[qh,j3,j4];rfl
 have hlen3:y.kinds.length<=1000000:=by have:=wt j4;omega
 refine(az (n5 hlt2 (aH (e:=3) (enc:=bT) (λ_=>rfl) hx2) @bT.eq_1 j3 j4))<|(iY)<|(zs) ?_;refine zL y.kinds (λk3=>((y.kinds.take k3).all λn=>!(decide (100<(n.length:Int))))=true) (λk3=>[(1,.ip [ah 3 c ao]),(3,aa k),(4,.ip [ab x.name,au x.gy,ah 3 x.bZ bT]),(5,aa k2),(6,aa k3)]) (λk3=>[]) zH zp ?_;intro k3 hk3 hall3
 by_cases hlt3:k3<y.kinds.length;rotate_left
 ·obtain rfl:k3=y.kinds.length:=by omega
  rw[b7] at hall3
  refine(az (n4 hlt2 (aH (e:=3) (enc:=bT) (λ_=>rfl) hx2) @bT.eq_1 (show decide ((y.kinds.length:Int)<(y.kinds.length:Int))=false by simp)))<|(eN)<|(az (zi hlt2 hlen2)) ?_;refine zX hlt2 zH (lz hx2 hall2 (by rw[hky,hall3]))
 have hd3:=show decide ((k3:Int)<(y.kinds.length:Int))=true by simp only[wp];omega
 obtain⟨z,hx3⟩:∃z,y.kinds[k3]?=some z:=⟨y.kinds[k3],aj hlt3⟩
 refine(az (n4 hlt2 (aH (e:=3) (enc:=bT) (λ_=>rfl) hx2) @bT.eq_1 hd3))<|(gh) ?_
 cases j5:decide (100<(z.length:Int));rotate_left
 ·exact(az (n7 hlt2 (aH (e:=3) (enc:=bT) (λ_=>rfl) hx2) @bT.eq_1 hlt3 (aH (e:=1) (enc:=aw ab) (λ_=>rfl) hx3) @aw.eq_1 j5))<|(cM)<|zo [.tmp 2] (hq:=by rw[hbad (hbad2 (by rw[hky];exact yF (bd hx3) (by rw[j5];rfl)))])
 refine(az (n7 hlt2 (aH (e:=3) (enc:=bT) (λ_=>rfl) hx2) @bT.eq_1 hlt3 (aH (e:=1) (enc:=aw ab) (λ_=>rfl) hx3) @aw.eq_1 j5))<|(zN)<|(az (zi hlt3 hlen3)) ?_;refine zX hlt3 zH (lz hx3 hall3 (by rw[j5];rfl))
def zz(c:List aQ)(dmg:bu):Bool:=Proofs.tV c&&Proofs.GB dmg
def Kr(c:List aQ)(dmg:bu)(hf:jJ dmg):PC prog 13 [.ag (ah 3 c ao::aD dmg),.sl 0 14 [],aa 0] (·=au (Proofs.zz c dmg)):=by
 have hfl:(aD dmg).length=3:=eL dmg;have hft:(aD dmg).take 3=aD dmg:=bt (by rw[hfl];exact af _);have hfk:=λo:Nat=>bL (o:=o) (aE dmg);have hfn:=λo:Nat=>dL (o:=o) (aE dmg);refine pB 69 Tryz.func13 ?_;refine(az (n2 hfk hfn)) ?_;refine aq.fg (Fg.freeze (f':=[(1,.sl 0 14 []),(2,aa 0),(3,.ip (ah 3 c ao::aD dmg))]) 0 rfl (λh=>by cases h) ⟨.inl rfl,.inl rfl,.inr (.ptr rfl (bl.refl (aE dmg)) (ce _)),trivial⟩) ?_;refine aq.fg (st':=⟨[(1,.sl 0 14 []),(2,aa 0),(3,.ip (ah 3 c ao::aD dmg))],69,[],[]⟩) zH ?_
 (try change aq _ _ _ _ _)
 refine(zC)<|(zK (Kp c)) ?_
 cases g1:Proofs.tV c
 ·exact(zR)<|(cM)<|zo [.tmp 6] (hq:=by rw[Proofs.zz,g1];rfl)
 refine(Sy (n2 hfl hft))<|(zK (Ko dmg hf) (hwk:=bl.cons (.ag (bl.refl (aE dmg))) .nil)) ?_
 cases g2:Proofs.GB dmg
 ·exact(zR)<|(cM)<|zo [.tmp 6] (hq:=by rw[Proofs.zz,g1,g2];rfl)
 refine(zR)<|(iY)<|(zs) ?_;refine zL ([]:List bH) (λk=>True) (λk=>[(1,.sl 0 14 []),(7,aa k)]) (λk=>[]) zH zp ?_;intro k hk hall
 obtain rfl:k=0:=Nat.le_zero.1 hk
 refine(I4) ?_;refine aq.exit ?_;exact(zV)<|zo [.tmp 6] (hq:=by rw[Proofs.zz,g1,g2];rfl)
def MY{l:List bH}(h:qn l 6=true):l.length<=6/\∀e∈l,qg e=true:=by
 unfold qn at h;rw[b9] at h;have h2:=ww h.2
 have h1:l.length<=6:=by omega
 refine⟨h1,λe he=>?_⟩;have:=pD (n:=l.length) (k:=(6+1:Int).toNat) h.1 (.inr (by show l.length<=7;omega));rw[b7] at this;exact all_eq_true.1 this e he
structure SB (e:bH):Prop where
 part:∀b∈e.part,b<256
 kind:∀b∈e.kind,b<256
 bG:∀b∈e.bG,b<256
 slot:∀b∈e.slot,b<256
 key:∀b∈e.key,b<256
 value:∀b∈e.value,b<256
def QJ{e:bH}(h:qg e=true)(hb:SB e):qC e:=by
 unfold qg at h;simp only[b9,wp] at h;exact⟨⟨by omega,hb.part⟩,⟨by omega,hb.kind⟩,⟨by omega,hb.bG⟩,⟨by omega,hb.slot⟩,⟨by omega,hb.key⟩,⟨by omega,hb.value⟩⟩
def GC{l:List br}{most:Nat}(h:tW l most=true)(hb:∀r∈l,∀e∈r.opts,SB e):l.length<=most/\∀r∈l,eh r/\r.opts.length<=6:=by
 unfold tW at h;split at h
 ·rename_i hm;refine⟨by omega,λr hr=>?_⟩;have h1:=MY (all_eq_true.1 h r hr);exact⟨⟨by omega,λe he=>QJ (h1.2 e he) (hb r hr e he)⟩,h1.1⟩
 ·cases h
def Pb{c:List aQ}(h:tV c=true)(hb:∀k∈c,(∀b∈k.name,b<256)/\∀s∈k.bZ,∀b∈s.name,b<256):jI c:=by
 unfold tV at h;simp only[b9,e6,wd,all_eq_true] at h
 have hk:∀k∈c,k.name.length<=100/\k.bZ.length<=15/\∀s∈k.bZ,s.name.length<=100/\s.kinds.length<=15:=λk hk=>by
  have:=h.2 k hk;unfold oM at this;simp only[b9,e6,wd,all_eq_true] at this;refine⟨by omega,by omega,λs hs=>?_⟩;have:=this.2.2 s hs;unfold qh at this;simp only[b9,e6,wd] at this;omega
 exact⟨by omega,λk h1=>⟨⟨by have:=hk k h1;omega,(hb k h1).1⟩,by have:=hk k h1;omega⟩,λk h1 s hs=>⟨⟨by have:=(hk k h1).2.2 s hs;omega,(hb k h1).2 s hs⟩,by have:=(hk k h1).2.2 s hs;omega⟩⟩
def Vw:Co:=⟨[],[],0,0⟩
def sB(c:List aQ)(dmg:bu)(ws:List Wy)(l:List br)(costs:List Co):Bool:=decide ((costs.length:Int)<=6)&&(costs.all (Proofs.oX ws)&&(Proofs.oX ws Vw&&(Proofs.zz c dmg&&(Proofs.tW l 15&&decide (tE 81 l 1<=81)))))
def Kt(c:List aQ)(dmg:bu)(ws:List Wy)(l:List br)(costs:List Co)(hf:jJ dmg)(hlw:ws.length<=l7)(hw:∀w∈ws,w.kind.length<=l7/\w.cR.length<=l7)(hlc:costs.length<=l7)(hc:∀co∈costs,co.part.length<=l7/\co.owner.length<=l7)(hlen:l.length<=l7)(ho:∀r∈l,r.opts.length<=l7)(hb:∀r∈l,∀e∈r.opts,SB e):
 PC prog 6 [.ag (ah 3 c ao::aD dmg),ah 5 ws bJ,ah 2 l aB,ah 4 costs bN] (·=au (Proofs.sB c dmg ws l costs)):=by
 have hfl:(aD dmg).length=3:=eL dmg;have hft:(aD dmg).take 3=aD dmg:=bt (by rw[hfl];exact af _);have hfk:=λo:Nat=>bL (o:=o) (aE dmg);have hfn:=λo:Nat=>dL (o:=o) (aE dmg);refine pB 49 Tryz.func6 ?_;refine(az (n2 hfk hfn)) ?_;refine aq.fg (Fg.freeze (f':=[(1,ah 5 ws bJ),(2,ah 2 l aB),(3,ah 4 costs bN),(4,.ip (ah 3 c ao::aD dmg)),(8,au false)]) 0 rfl (λh=>by cases h) ⟨.inl rfl,.inl rfl,.inl rfl,.inr (.ptr rfl (bl.refl (aE dmg)) (ce _)),.inl rfl,trivial⟩) ?_;refine aq.fg (st':=⟨[(1,ah 5 ws bJ),(2,ah 2 l aB),(3,ah 4 costs bN),(4,.ip (ah 3 c ao::aD dmg)),(8,au false)],49,[],[]⟩) zH ?_
 (try change aq _ _ _ _ _)
 refine(zV)<|(zs) ?_;refine zL costs (λk=>(costs.take k).all (Proofs.oX ws)=true) (λk=>[(1,ah 5 ws bJ),(2,ah 2 l aB),(3,ah 4 costs bN),(4,.ip (ah 3 c ao::aD dmg)),(8,au false),(9,aa k)]) (λk=>[]) zH zp ?_;intro k hk hall
 by_cases hgo:k<costs.length/\costs.length<=6
 ·obtain⟨hlt,h6⟩:=hgo
  have hd:=show decide ((k:Int)<(costs.length:Int))=true by simp only[wp];omega
  have hd6:=show decide ((costs.length:Int)<=6)=true by simp only[wp];omega
  obtain⟨x,hx⟩:∃x,costs[k]?=some x:=⟨costs[k],aj hlt⟩
  have hlen6:costs.length<=1000000:=by omega
  have hk:=Bi ws x hlw hw (hc x (bd hx));rw[dV] at hk
  refine(az (n2 hd hd6))<|(gh)<|(iC (n3 hlt (aH (e:=4) (enc:=bN) (λ_=>rfl) hx) @dV))<|(zK hk) ?_
  cases g:Proofs.oX ws x
  ·exact(zR)<|(cM)<|zo [.tmp 8] (hq:=by rw[Proofs.sB,yF (bd hx) g,Bool.false_and,Bool.and_false])
  ·refine(zR)<|(zN)<|(az (zi hlt hlen6)) ?_;refine zX hlt zH (lz hx hall g)
 have hfin:(costs.length:Int)<=6->costs.all (Proofs.oX ws)=true:=by
  intro h6
  have:k=costs.length:=by
   refine Decidable.byContradiction λhne=>hgo ⟨by omega,by omega⟩
  rw[this,b7] at hall;exact hall
 have hout:decide ((k:Int)<(costs.length:Int))=false\/(decide ((k:Int)<(costs.length:Int))=true/\decide ((costs.length:Int)<=6)=false):=by
  by_cases h:k<costs.length
  ·exact .inr ⟨by simp only[wp];omega,by simp only[wd];intro h6;exact hgo ⟨h,by omega⟩⟩
  ·exact .inl (by simp only[wd];omega)
 have hz:=Bi ws Vw hlw hw (by constructor<;>decide)
 rcases hout with h1 | ⟨h1,h2⟩
 rotate_left;refine(az (n2 h1 h2)) ?_;rotate_left;refine(az h1) ?_
 all_goals
  refine(eN) ?_;refine aq.fg (st':=⟨[(1,ah 5 ws bJ),(2,ah 2 l aB),(3,ah 4 costs bN),(4,.ip (ah 3 c ao::aD dmg)),(8,au false)],49,[],[]⟩) zH ?_
  (try change aq _ _ _ _ _)
  cases g6:decide ((costs.length:Int)<=6)
  ·exact(az g6)<|zo [.tmp 8] (hq:=by rw[Proofs.sB,g6];rfl)
  have ga:=hfin (ww g6)
  refine(iC g6)<|(zK hz) ?_
  cases g1:Proofs.oX ws Vw
  ·exact(zR)<|zo [.tmp 8] (hq:=by rw[Proofs.sB,g6,ga,g1];rfl)
  refine(Sy (n2 hfl hft))<|(zK (Kr c dmg hf) (hwk:=(.cons (.ag (bl.refl (aE dmg))) (.cons (.nil 14) (.cons (.a _) .nil))))) ?_
  cases g2:Proofs.zz c dmg
  ·exact(zR)<|zo [.tmp 8] (hq:=by rw[Proofs.sB,g6,ga,g1,g2];rfl)
  refine(zQ)<|(zK (Ks l 15 hlen ho)) ?_
  cases g3:Proofs.tW l 15
  ·exact(zR)<|zo [.tmp 8] (hq:=by rw[Proofs.sB,g6,ga,g1,g2,g3];rfl)
  have hk:=GC (most:=15) g3 hb
  exact(zQ)<|(zK (IM l 81 (by decide) (λr hr=>(hk.2 r hr).1) (by omega)))<|(zR)<|zo [.tmp 8] (hq:=by rw[Proofs.sB,g6,ga,g1,g2,g3];rfl)
def N3(n:Int):PC prog 26 [aa n] (·=au (x4 n)):=by
 refine pB 9 Tryz.func26 ?_;unfold x4;cases e1:decide (0<=n)
 ·exact(az e1)<|(az e1)<|zo [.tmp 2]
 ·exact(az e1)<|(az e1)<|zo [.tmp 2]
def Tm(co:Co)(hc:co.fits):PC prog 10 [.ag (bN co)] (·=au co.ok):=by
 refine pB 26 Tryz.func10 ?_;unfold Co.ok GQ;rw[dV];obtain⟨part,owner,day,am⟩:=co;obtain⟨h1,_,h2,_⟩:=hc;simp only at h1 h2 ⊢
 refine(kK)<|(zK (gx part h1)) ?_
 cases e1:cC part
 ·exact(zR)<|zo [.tmp 2]
 refine(zQ)<|(zK (gx owner h2)) ?_
 cases e2:cC owner
 ·exact(zR)<|zo [.tmp 2]
 cases e3:decide (0<=day)
 ·exact(cK e3)<|zo [.tmp 2]
 cases e4:decide (day<=40000)
 ·exact(cK (n2 e3 e4))<|zo [.tmp 2]
 exact(Sy (n2 e3 e4))<|(zK (N3 am))<|(zR)<|zo [.tmp 2]
structure Sz (c:List aQ) (dmg:bu) (ws:List Wy) (l:List br) (costs:List Co):Prop where
 form:jJ dmg
 cat:∀k∈c,(∀b∈k.name,b<256)/\∀s∈k.bZ,∀b∈s.name,b<256
 wl:ws.length<=l7
 wn:∀w∈ws,w.kind.length<=l7/\w.cR.length<=l7
 wb:∀w∈ws,(∀b∈w.kind,b<256)/\∀b∈w.cR,b<256
 cl:costs.length<=l7
 cn:∀co∈costs,co.part.length<=l7/\co.owner.length<=l7
 cb:∀co∈costs,(∀b∈co.part,b<256)/\∀b∈co.owner,b<256
 ll:l.length<=l7
 lo:∀r∈l,r.opts.length<=l7
 lb:∀r∈l,∀e∈r.opts,SB e
structure Tu (c:List aQ) (dmg:bu) (ws:List Wy) (l:List br) (costs:List Co):Prop where
 cat:jI c
 form:gJ dmg
 wl:ws.length<=6
 wf:∀w∈ws,w.fits
 cl:costs.length<=6
 cf:∀co∈costs,co.fits
 ll:l.length<=15
 rep:∀r∈l,eh r
 op:∀r∈l,r.opts.length<=6
def Pc{c:List aQ}{dmg:bu}{ws:List Wy}{l:List br}{costs:List Co}(h:sB c dmg ws l costs=true)(ha:Sz c dmg ws l costs):Tu c dmg ws l costs:=by
 unfold sB zz at h;simp only[b9,wp] at h;obtain⟨h0,h1,h2,⟨h3,h4⟩,h5,_⟩:=h;obtain⟨j1,j2⟩:=GC (most:=15) h5 ha.lb
 have h43:∀{co:Co},oX ws co=true->ws.length<=6/\(∀w∈ws,w.kind.length<=300/\w.cR.length<=300)/\co.part.length<=300/\co.owner.length<=300:=by
  intro co hk;unfold oX at hk;simp only[b9,wp,all_eq_true] at hk;refine⟨by omega,λw hw=>?_,by omega,by omega⟩;have:=hk.2.1 w hw;omega
 obtain⟨w1,w2,_⟩:=h43 h2;refine⟨Pb h3 ha.cat,Pa h4,w1,λw hw=>⟨by have:=w2 w hw;omega,(ha.wb w hw).1,by have:=w2 w hw;omega,(ha.wb w hw).2⟩,by omega,λco hco=>?_,j1,λr hr=>(j2 r hr).1,λr hr=>(j2 r hr).2⟩;obtain⟨_,_,k1,k2⟩:=h43 (all_eq_true.1 h1 co hco);exact⟨by omega,(ha.cb co hco).1,by omega,(ha.cb co hco).2⟩
def NU{m:cQ}{t:Xf}(h:t∈(cL m).1):t.am<=1000000000000:=by
 unfold cL at h;split at h
 ·cases h
 ·rename_i g;simp only at h;have hm:=(dD _).mem_iff.1 h;unfold fV at hm;obtain⟨e,he,rfl⟩:=mem_map.1 hm;have h1:=(mem_filter.1 he).1;simp only[any_eq_true,wp,not_exists,not_and] at g;have:=g e h1;show e.2<=_;omega
def Kg(m:cQ):(cL m).1.length<=m.length:=by
 unfold cL;split
 ·exact ce _
 ·simp only;rw[(dD _).length_eq];unfold fV;rw[b8];exact List.length_filter_le _ _
structure Tw (ws:List Wy) (costs:List Co) (got:List Xf) (t:Xf):Prop where
 W4:(ws.any λw=>decide (w.cR=t.fr))=true
 ow:(costs.any λco=>decide (co.owner=t.to)&&co.ok)=true
 most:Aa t.to got<=C2 t.to costs
 am:1<=t.am
def NB{c:List aQ}{dmg:bu}{ws:List Wy}{l:List br}{costs:List Co}{t:Xf}(ht:t∈(eY c dmg ws l costs).1):Tw ws costs (eY c dmg ws l costs).1 t:=by
 unfold eY at ht ⊢;split at ht
 ·cases ht
 ·rename_i g;rw[ul g];obtain⟨⟨w,hw,e1⟩,⟨co,hco,e2,e3⟩,h3,h4⟩:=QU c dmg ws l costs ht;exact⟨any_eq_true.2 ⟨w,hw,ut e1⟩,any_eq_true.2 ⟨co,hco,by rw[ut e2,e3];rfl⟩,h3,h4⟩
def AM{c:List aQ}{dmg:bu}{ws:List Wy}{l:List br}{costs:List Co}(hl:costs.length<=6):(eY c dmg ws l costs).1.length<=12/\∀t∈(eY c dmg ws l costs).1,0<=t.am/\t.am<=1000000000000:=by
 refine⟨?_,λt ht=>⟨by have:=(NB ht).am;omega,?_⟩⟩
 ·unfold eY;split
  ·exact ce _
  ·have h1:=Kg (du c dmg ws l costs []);have h2:=wu c dmg ws l costs [];simp only[cp,eP] at h2;omega
 ·unfold eY at ht;split at ht
  ·cases ht
  ·exact NU ht
def Lt(l:List Co):(l.flatMap bN).all ef=true:=by
 rw[go];exact all_eq_true.2 λx _=>rfl
def oE(x:Co):cm (bN x)=true:=rfl
def lY{α:Type}{enc:α->List SV}{e o n:Nat}{c:Option Nat}(he:∀x,(enc x).length=e)(hg:∀x,cm (enc x)=true){S:List SO}{q:List α}{cs:List SV}(hS:S[o]?=some (.cells cs))(hcs:cs=q.flatMap enc)(hn:q.length=n):Wk S (.buf o n e c) (ah e q enc):=by
 subst hn hcs;rw[ny];exact .buf hS (by rw[c9 he];exact bl.refl (aA hg q)) (by rw[aL he];exact af _)
structure Ws {α:Type} (enc:α->List SV) (e:Nat) (a:List α):Prop where
 o:(a.flatMap enc).all ef=true
 k:∀o:Nat,(a.flatMap enc).map (aM o)=a.flatMap enc
 n:(a.flatMap enc).length=a.length*e
 t:(a.flatMap enc).take (a.length*e)=a.flatMap enc
def FI{α:Type}{enc:α->List SV}{e:Nat}(he:∀x,(enc x).length=e)(hg:∀x,cm (enc x)=true)(ho:∀l:List α,(l.flatMap enc).all ef=true)(a:List α):Ws enc e a:=
 ⟨ho a,λo=>aY hg o a,aL he a,bt (by rw[aL he];exact af _)⟩
abbrev w5(c:List aQ)(dmg:bu)(ws:List Wy)(l:List br)(one two:List Co):Fm:=[(1,ah 5 ws bJ),(2,ah 2 l aB),(3,ah 4 one bN),(4,ah 4 two bN),(5,.ip (ah 3 c ao::aD dmg))]
abbrev w9(c:List aQ)(dmg:bu)(ws:List Wy)(l:List br)(one two:List Co)(A:List Xf)(eA:Int)(B:List Xf)(eB:Int)(C:List Xf)(eC:Int):Fm:=[(59,.ag (ah 3 c ao::aD dmg)),(60,ah 5 ws bJ),(61,ah 2 l aB),(66,ah 4 (two++one) bN),(13,ah 3 A aC),(14,aa eA),(15,ah 3 B aC),(16,aa eB),(17,ah 3 C aC),(18,aa eC),(11,au true)]
abbrev w8(A:List Xf)(eA:Int)(B:List Xf)(eB:Int)(C:List Xf)(eC:Int):Fm:=[(13,ah 3 A aC),(14,aa eA),(15,ah 3 B aC),(16,aa eB),(17,ah 3 C aC),(18,aa eC),(11,au true)]
def wU(c:List aQ)(dmg:bu)(ws:List Wy)(l:List br)(one two:List Co)(ha:Sz c dmg ws l (one++two))(h1:one.length<=1000000)(h2:two.length<=1000000):
 PC prog 3 [.ag (ah 3 c ao::aD dmg),ah 5 ws bJ,ah 2 l aB,ah 4 one bN,ah 4 two bN] (·=au true):=by
 have hfl:(aD dmg).length=3:=eL dmg;have hft:(aD dmg).take 3=aD dmg:=bt (by rw[hfl];exact af _);have hfk:=λo:Nat=>bL (o:=o) (aE dmg);have hfn:=λo:Nat=>dL (o:=o) (aE dmg)
 have hfg:lU (.ip (ah 3 c ao::aD dmg))=true:=by simp only[lU]
 refine pB 119 Tryz.func3 ?_;refine(az (n2 hfk hfn)) ?_;refine aq.fg (Fg.freeze (f':=w5 c dmg ws l one two) 0 rfl (λh=>by cases h) ⟨.inl rfl,.inl rfl,.inl rfl,.inl rfl,.inr (.ptr rfl (bl.refl (aE dmg)) (ce _)),trivial⟩) ?_;refine aq.fg (st':=⟨w5 c dmg ws l one two,119,[],[]⟩) zH ?_
 (try change aq _ _ _ _ _)
 have a1:=FI (enc:=bN) (e:=4) (λ_=>rfl) oE Lt one;have a2:=FI (enc:=bN) (e:=4) (λ_=>rfl) oE Lt two
 refine(zC)<|(zK H9)<|(zR) ?_
 (repeat refine aq.seq ?_)
 refine aq.mono (Q:=λex st=>ex=.normal/\Fg st ⟨(12,ah 4 (one++two) bN)::(11,au true)::w5 c dmg ws l one two,119,[],[]⟩) ?_ ?_
 ·by_cases hx0:one.length=0
  ·by_cases hy0:two.length=0
   ·have ex:=length_eq_zero_iff.1 hx0;have ey:=length_eq_zero_iff.1 hy0;refine(az (n5 h1 h2 @af (eq_true hx0) (eq_true hy0))) ?_;refine⟨rfl,(Fg.freeze (f':=(12,ah 4 (one++two) bN)::(11,au true)::w5 c dmg ws l one two) 0 rfl (λh=>by cases h) ⟨.inr (by refine lY (enc:=bN) (e:=4) (λ_=>rfl) oE rfl ?_ ?_;(rw[ex,ey];rfl);(rw[ex,ey];rfl)),.inl rfl,.inl rfl,.inl rfl,.inl rfl,.inl rfl,.inl rfl,trivial⟩).trans zH⟩
   ·have ex:=length_eq_zero_iff.1 hx0;refine(az (n10 h1 h2 @af (eq_true hx0) hy0 (bh hy0) @a2.o @a2.k @a2.n @a2.t)) ?_;refine⟨rfl,(Fg.freeze (f':=(12,ah 4 (one++two) bN)::(11,au true)::w5 c dmg ws l one two) 1 rfl (λh=>by cases h) ⟨.inr (by refine lY (enc:=bN) (e:=4) (λ_=>rfl) oE rfl ?_ ?_;(rw[ex,nil_append]);(rw[bc]<;>omega)),.inl rfl,.inl rfl,.inl rfl,.inl rfl,.inl rfl,.inl rfl,trivial⟩).trans zH⟩
  ·by_cases hy0:two.length=0
   ·have ey:=length_eq_zero_iff.1 hy0;refine(az (n10 h1 h2 @af hx0 (bh hx0) @a1.o @a1.k @a1.n @a1.t (eq_true hy0))) ?_;refine⟨rfl,(Fg.freeze (f':=(12,ah 4 (one++two) bN)::(11,au true)::w5 c dmg ws l one two) 1 rfl (λh=>by cases h) ⟨.inr (by refine lY (enc:=bN) (e:=4) (λ_=>rfl) oE rfl ?_ ?_;(rw[ey,ch]);(rw[bc]<;>omega)),.inl rfl,.inl rfl,.inl rfl,.inl rfl,.inl rfl,.inl rfl,trivial⟩).trans zH⟩
   ·refine(az (n2 (n9 h1 h2 @af hx0 (bh hx0) @a1.o @a1.k @a1.n @a1.t) (n6 hy0 (bh hy0) @a2.o @a2.k @a2.n @a2.t))) ?_;refine⟨rfl,(Fg.freeze (f':=(12,ah 4 (one++two) bN)::(11,au true)::w5 c dmg ws l one two) 1 rfl (λh=>by cases h) ⟨.inr (by refine lY (enc:=bN) (e:=4) (λ_=>rfl) oE rfl ?_ ?_;(rw[dc,cc,a1.k,a2.k]);(rw[bc]<;>omega)),.inl rfl,.inl rfl,.inl rfl,.inl rfl,.inl rfl,.inl rfl,trivial⟩).trans zH⟩
 rintro _ _ ⟨rfl,hfg2⟩;simp only[dH];refine aq.fg hfg2 ?_;clear hfg2
 refine(iC (n2 hfl hft))<|(zK (Kt c dmg ws l (one++two) ha.form ha.wl ha.wn ha.cl ha.cn ha.ll ha.lo ha.lb) (hwk:=(.cons (.ag (bl.refl (aE dmg))) (bl.refl rfl)))) ?_
 cases hfw:Proofs.sB c dmg ws l (one++two)
 ·exact(zR)<|(cM)<|zo [.tmp 10]
 obtain⟨hcat,hform,hlw6,hwf,hlc6,hcf,hl15,hrep,hop⟩:=Pc hfw ha;clear ha hfw;rw[bc] at hlc6
 have hop4:∀r∈l,r.opts.length<=400000:=λr hr=>by have:=hop r hr;omega
 refine(zR)<|(zN) ?_
 have howA:=nG lj c dmg ws l one hcat hform hwf (λx h=>hcf x (f5 _ h)) (by omega) hrep hop4 (by omega) (by omega);have howB:=nG lj c dmg ws l two hcat hform hwf (λx h=>hcf x (fu _ h)) (by omega) hrep hop4 (by omega) (by omega);have howC:=nG lj c dmg ws l (one++two) hcat hform hwf hcf (by omega) hrep hop4 (by omega) (by rw[bc];omega);have howD:=nG lj c dmg ws l (two++one) hcat hform hwf (λx h=>hcf x (mem_append.2 (mem_append.1 h).symm)) (by omega) hrep hop4 (by omega) (by rw[bc];omega);rw[<-Jl one two] at howD;have hlaw:=MO (c:=c) (dmg:=dmg) (ws:=ws) (l:=l) one two;have hbA:=AM (c:=c) (dmg:=dmg) (ws:=ws) (l:=l) (costs:=one) (by omega);have hbB:=AM (c:=c) (dmg:=dmg) (ws:=ws) (l:=l) (costs:=two) (by omega);have hbC:=AM (c:=c) (dmg:=dmg) (ws:=ws) (l:=l) (costs:=one++two) (by rw[bc];omega);unfold My at howA howB howC howD;generalize eY c dmg ws l one=rA at howA hlaw hbA;generalize eY c dmg ws l two=rB at howB hlaw hbB;generalize eY c dmg ws l (one++two)=rC at howC howD hlaw hbC;obtain⟨A,eA⟩:=rA;obtain⟨B,eB⟩:=rB;obtain⟨C,eC⟩:=rC;simp only at howA howB howC howD hlaw hbA hbB hbC
 refine(iC (n2 hfl hft))<|(zK howA (hwk:=(.cons (.ag (bl.refl (aE dmg))) (bl.refl rfl))) (hfl:=.inr (.cons (.ag (bl.refl (aE dmg))) (bl.refl rfl))))<|(zR)<|(iC (n2 hfl hft))<|(zK howB (hwk:=(.cons (.ag (bl.refl (aE dmg))) (bl.refl rfl))) (hfl:=.inr (.cons (.ag (bl.refl (aE dmg))) (bl.refl rfl))))<|(zR)<|(iC (n2 hfl hft))<|(zK howC (hwk:=(.cons (.ag (bl.refl (aE dmg))) (bl.refl rfl))) (hfl:=.inr (.cons (.ag (bl.refl (aE dmg))) (bl.refl rfl))))<|(zR) ?_;refine aq.fg (st':=⟨(13,ah 3 A aC)::(14,aa eA)::(15,ah 3 B aC)::(16,aa eB)::(17,ah 3 C aC)::(18,aa eC)::(11,au true)::w5 c dmg ws l one two,119,[],[]⟩) zH ?_
 (try change aq _ _ _ _ _)
 (repeat refine aq.seq ?_)
 refine aq.mono (Q:=λex st=>ex=.normal/\Fg st ⟨(19,ah 3 C aC)::(20,aa eC)::w8 A eA B eB C eC,119,[],[]⟩) ?_ ?_
 ·by_cases hx0:two.length=0
  ·by_cases hy0:one.length=0
   ·have ex:=length_eq_zero_iff.1 hx0;have ey:=length_eq_zero_iff.1 hy0
    refine(zs) ?_;refine kZ [0,0,0,0,0,24,0,120,255,511,1023,1023,2047,8191] ?_;refine(LI (n2 hfl hft))<|(uk [59,5,60,1,61,2,63,4,65,3] (n2 hfk hfn))<|(kR)<|(S5 (n9 @af (eq_true hx0) (eq_true hy0) h1 h2 hfl hft hfk hfn))<|(kR)<|(S5 (n9 @af (eq_true hx0) (eq_true hy0) h1 h2 hfl hft hfk hfn)) ?_;refine ku.SK (f':=(67,.bC [ah 3 C aC,aa eC])::w9 c dmg ws l one two A eA B eB C eC) (S':=[]) (by kernel_rfl) rfl (λds_ K_ hK_=>?_) ?_;refine aG.fg (Fg.freeze (f':=w9 c dmg ws l one two A eA B eB C eC) 0 rfl (λh=>by cases h) ⟨.inl rfl,.inl rfl,.inl rfl,.inr (by refine lY (enc:=bN) (e:=4) (λ_=>rfl) oE rfl ?_ ?_;(rw[ey,ex];rfl);(rw[ey,ex];rfl)),.inl rfl,.inl rfl,.inl rfl,.inl rfl,.inl rfl,.inl rfl,.inl rfl,trivial⟩) ?_;refine aG.fg (st':=⟨w9 c dmg ws l one two A eA B eB C eC,119,[],ds_⟩) zH ?_;refine(zK howD (hwk:=(.cons (.ag (bl.refl (aE dmg))) (bl.refl rfl))) (hfl:=.inr (.cons (.ag (bl.refl (aE dmg))) (bl.refl rfl)))) ?_;exact .nil hK_;refine(kR) ?_;refine ku.nil ?_;exact⟨rfl,zH⟩
   ·have ex:=length_eq_zero_iff.1 hx0
    refine(zs) ?_;refine kZ [0,0,0,0,0,24,0,120,255,511,1023,1023,2047,8191] ?_;refine(LI (n2 hfl hft))<|(uk [59,5,60,1,61,2,63,4,65,3] (n2 hfk hfn))<|(kR)<|(S5 (n2 (n9 @af (eq_true hx0) hy0 (bh hy0) @a1.o @a1.k @a1.n @a1.t h1) (n5 h2 hfl hft hfk hfn)))<|(kR)<|(uk [59,5,60,1,61,2] (n2 (n9 @af (eq_true hx0) hy0 (bh hy0) @a1.o @a1.k @a1.n @a1.t h1) (n5 h2 hfl hft hfk hfn))) ?_;refine ku.SK (f':=(67,.bC [ah 3 C aC,aa eC])::w9 c dmg ws l one two A eA B eB C eC) (S':=[]) (by kernel_rfl) rfl (λds_ K_ hK_=>?_) ?_;refine aG.fg (Fg.freeze (f':=w9 c dmg ws l one two A eA B eB C eC) 1 rfl (λh=>by cases h) ⟨.inl rfl,.inl rfl,.inl rfl,.inr (by refine lY (enc:=bN) (e:=4) (λ_=>rfl) oE rfl ?_ ?_;(rw[ex,nil_append]);(rw[bc]<;>omega)),.inl rfl,.inl rfl,.inl rfl,.inl rfl,.inl rfl,.inl rfl,.inl rfl,trivial⟩) ?_;refine aG.fg (st':=⟨w9 c dmg ws l one two A eA B eB C eC,119,[],ds_⟩) zH ?_;refine(zK howD (hwk:=(.cons (.ag (bl.refl (aE dmg))) (bl.refl rfl))) (hfl:=.inr (.cons (.ag (bl.refl (aE dmg))) (bl.refl rfl)))) ?_;exact .nil hK_;refine(kR) ?_;refine ku.nil ?_;exact⟨rfl,zH⟩
  ·by_cases hy0:one.length=0
   ·have ey:=length_eq_zero_iff.1 hy0
    refine(zs) ?_;refine kZ [0,0,0,0,0,24,0,120,255,511,1023,1023,2047,8191] ?_;refine(LI (n2 hfl hft))<|(uk [59,5,60,1,61,2,63,4,65,3] (n2 hfk hfn))<|(kR)<|(uk [59,5,60,1,61,2,65,3] (n2 (n9 @af hx0 (bh hx0) @a2.o @a2.k @a2.n @a2.t (eq_true hy0) h1) (n5 h2 hfl hft hfk hfn)))<|(kR)<|(S5 (n2 (n9 @af hx0 (bh hx0) @a2.o @a2.k @a2.n @a2.t (eq_true hy0) h1) (n5 h2 hfl hft hfk hfn))) ?_;refine ku.SK (f':=(67,.bC [ah 3 C aC,aa eC])::w9 c dmg ws l one two A eA B eB C eC) (S':=[]) (by kernel_rfl) rfl (λds_ K_ hK_=>?_) ?_;refine aG.fg (Fg.freeze (f':=w9 c dmg ws l one two A eA B eB C eC) 1 rfl (λh=>by cases h) ⟨.inl rfl,.inl rfl,.inl rfl,.inr (by refine lY (enc:=bN) (e:=4) (λ_=>rfl) oE rfl ?_ ?_;(rw[ey,ch]);(rw[bc]<;>omega)),.inl rfl,.inl rfl,.inl rfl,.inl rfl,.inl rfl,.inl rfl,.inl rfl,trivial⟩) ?_;refine aG.fg (st':=⟨w9 c dmg ws l one two A eA B eB C eC,119,[],ds_⟩) zH ?_;refine(zK howD (hwk:=(.cons (.ag (bl.refl (aE dmg))) (bl.refl rfl))) (hfl:=.inr (.cons (.ag (bl.refl (aE dmg))) (bl.refl rfl)))) ?_;exact .nil hK_;refine(kR) ?_;refine ku.nil ?_;exact⟨rfl,zH⟩
   ·refine(zs) ?_;refine kZ [0,0,0,0,0,24,0,120,255,511,1023,1023,2047,8191] ?_;refine(LI (n2 hfl hft))<|(uk [59,5,60,1,61,2,63,4,65,3] (n2 hfk hfn))<|(kR)<|(uk [59,5,60,1,61,2,65,3] (n2 (n9 @af hx0 (bh hx0) @a2.o @a2.k @a2.n @a2.t hy0 (bh hy0)) (n10 @a1.o @a1.k @a1.n @a1.t h1 h2 hfl hft hfk hfn)))<|(kR)<|(uk [59,5,60,1,61,2] (n2 (n9 @af hx0 (bh hx0) @a2.o @a2.k @a2.n @a2.t hy0 (bh hy0)) (n10 @a1.o @a1.k @a1.n @a1.t h1 h2 hfl hft hfk hfn))) ?_;refine ku.SK (f':=(67,.bC [ah 3 C aC,aa eC])::w9 c dmg ws l one two A eA B eB C eC) (S':=[]) (by kernel_rfl) rfl (λds_ K_ hK_=>?_) ?_;refine aG.fg (Fg.freeze (f':=w9 c dmg ws l one two A eA B eB C eC) 1 rfl (λh=>by cases h) ⟨.inl rfl,.inl rfl,.inl rfl,.inr (by refine lY (enc:=bN) (e:=4) (λ_=>rfl) oE rfl ?_ ?_;(rw[dc,cc,a2.k,a1.k]);(rw[bc]<;>omega)),.inl rfl,.inl rfl,.inl rfl,.inl rfl,.inl rfl,.inl rfl,.inl rfl,trivial⟩) ?_;refine aG.fg (st':=⟨w9 c dmg ws l one two A eA B eB C eC,119,[],ds_⟩) zH ?_;refine(zK howD (hwk:=(.cons (.ag (bl.refl (aE dmg))) (bl.refl rfl))) (hfl:=.inr (.cons (.ag (bl.refl (aE dmg))) (bl.refl rfl)))) ?_;exact .nil hK_;refine(kR) ?_;refine ku.nil ?_;exact⟨rfl,zH⟩
 rintro _ _ ⟨rfl,hfg2⟩;simp only[dH];refine aq.fg hfg2 ?_;clear hfg2 howA howB howC howD
 have hC6:C.length<=1000000:=by have:=hbC.1;omega
 refine(zC)<|(zK (lh C C hC6))<|(zR)<|(zN) ?_
 cases h0:decide (eC=0)
 ·refine(az h0)<|(zY) ?_;refine aq.fg (st':=⟨[(11,au true),(14,aa eA),(16,aa eB),(18,aa eC)],119,[],[]⟩) zH ?_
  (try change aq _ _ _ _ _)
  rcases hlaw with⟨rfl,rfl,rfl⟩ | rfl | ⟨rfl,_⟩
  ·refine(zs) ?_;refine aq.r0 (by rfl) (by simp(maxSteps:=3000000) only[bI,bj,ah,an,ba,bb,↓reduceIte,ac,ap,ax,ad,ay,ae,ai,aN];first | done | rfl) ?_;exact zo [.tmp 10]
  ·refine(zs) ?_;refine aq.r0 (by rfl) (by simp(maxSteps:=3000000) only[bI,bj,ah,an,ba,bb,↓reduceIte,ac,ap,ax,ad,ay,ae,ai,aN];first | done | rfl) ?_;exact zo [.tmp 10]
  ·exact t7 rfl (wt h0)
 obtain rfl:=ww h0
 obtain⟨rfl,rfl,hj⟩:eA=0/\eB=0/\ma (A++B)=C:=by
  rcases hlaw with⟨h,_⟩ | h | ⟨_,h⟩
  ·cases h
  ·cases h
  ·exact h
 have hjo:=KE (A++B) (by rw[bc];have:=hbA.1;have:=hbB.1;omega) (λx h=>(mem_append.1 h).elim (hbA.2 x) (hbB.2 x));rw[hj] at hjo;have b1:=FI (enc:=aC) (e:=3) (λ_=>rfl) dA yL A;have b2:=FI (enc:=aC) (e:=3) (λ_=>rfl) dA yL B
 have hA6:A.length<=1000000:=by have:=hbA.1;omega
 have hB6:B.length<=1000000:=by have:=hbB.1;omega
 refine(I4) ?_;refine aq.fg (st':=⟨w8 A 0 B 0 C 0,119,[],[]⟩) zH ?_
 (try change aq _ _ _ _ _)
 by_cases hx0:A.length=0
 ·by_cases hy0:B.length=0
  ·have ex:=length_eq_zero_iff.1 hx0;have ey:=length_eq_zero_iff.1 hy0
   refine(iC (n5 hA6 hB6 @af (eq_true hx0) (eq_true hy0))) ?_;refine aG.fg (Fg.freeze (f':=[(109,au true),(114,ah 3 (A++B) aC),(17,ah 3 C aC)]) 0 rfl (λh=>by cases h) ⟨.inl rfl,.inr (by refine lY (enc:=aC) (e:=3) (λ_=>rfl) dA rfl ?_ ?_;(rw[ex,ey];rfl);(rw[ex,ey];rfl)),.inl rfl,trivial⟩) ?_;refine aG.fg (st':=⟨[(109,au true),(114,ah 3 (A++B) aC),(17,ah 3 C aC)],119,[],[]⟩) zH ?_;exact(zK hjo (hfl:=.inr (bl.refl rfl)))<|(zQ)<|(zK (lh C C hC6))<|(zR)<|zo [.tmp 10]
  ·have ex:=length_eq_zero_iff.1 hx0
   refine(iC (n10 hA6 hB6 @af (eq_true hx0) hy0 (bh hy0) @b2.o @b2.k @b2.n @b2.t)) ?_;refine aG.fg (Fg.freeze (f':=[(109,au true),(114,ah 3 (A++B) aC),(17,ah 3 C aC)]) 1 rfl (λh=>by cases h) ⟨.inl rfl,.inr (by refine lY (enc:=aC) (e:=3) (λ_=>rfl) dA rfl ?_ ?_;(rw[ex,nil_append]);(rw[bc]<;>omega)),.inl rfl,trivial⟩) ?_;refine aG.fg (st':=⟨[(109,au true),(114,ah 3 (A++B) aC),(17,ah 3 C aC)],119,[],[]⟩) zH ?_;exact(zK hjo (hfl:=.inr (bl.refl rfl)))<|(zQ)<|(zK (lh C C hC6))<|(zR)<|zo [.tmp 10]
 ·by_cases hy0:B.length=0
  ·have ey:=length_eq_zero_iff.1 hy0
   refine(iC (n10 hA6 hB6 @af hx0 (bh hx0) @b1.o @b1.k @b1.n @b1.t (eq_true hy0))) ?_;refine aG.fg (Fg.freeze (f':=[(109,au true),(114,ah 3 (A++B) aC),(17,ah 3 C aC)]) 1 rfl (λh=>by cases h) ⟨.inl rfl,.inr (by refine lY (enc:=aC) (e:=3) (λ_=>rfl) dA rfl ?_ ?_;(rw[ey,ch]);(rw[bc]<;>omega)),.inl rfl,trivial⟩) ?_;refine aG.fg (st':=⟨[(109,au true),(114,ah 3 (A++B) aC),(17,ah 3 C aC)],119,[],[]⟩) zH ?_;exact(zK hjo (hfl:=.inr (bl.refl rfl)))<|(zQ)<|(zK (lh C C hC6))<|(zR)<|zo [.tmp 10]
  ·refine(iC (n2 (n9 hA6 hB6 @af hx0 (bh hx0) @b1.o @b1.k @b1.n @b1.t) (n6 hy0 (bh hy0) @b2.o @b2.k @b2.n @b2.t))) ?_;refine aG.fg (Fg.freeze (f':=[(109,au true),(114,ah 3 (A++B) aC),(17,ah 3 C aC)]) 1 rfl (λh=>by cases h) ⟨.inl rfl,.inr (by refine lY (enc:=aC) (e:=3) (λ_=>rfl) dA rfl ?_ ?_;(rw[dc,cc,b1.k,b2.k]);(rw[bc]<;>omega)),.inl rfl,trivial⟩) ?_;refine aG.fg (st':=⟨[(109,au true),(114,ah 3 (A++B) aC),(17,ah 3 C aC)],119,[],[]⟩) zH ?_;exact(zK hjo (hfl:=.inr (bl.refl rfl)))<|(zQ)<|(zK (lh C C hC6))<|(zR)<|zo [.tmp 10]
end Go.Proofs
namespace Go.Ev
open Go.RowKit Go.ChangeShapes Go.WideShapes Go.Deep
noncomputable section
mutual
def MS:DV->SV
 | .fl a=>.a a
 | .sl _ n e cs=>.sl n e (gR cs)
 | .ag cs=>.ag (gR cs)
def gR:List DV->List SV
 | []=>[]
 | d::ds=>MS d::gR ds
end
def Gz:∀a b:List DV,gR (a++b)=gR a++gR b
 | [],b=>rfl
 | d::a,b=>by rw[fm,gR,gR,Gz a b,fm]
def J5(h:H):kq:=λid=>if id<h.next then h.aU.get id else none
def Sf(h:H):Ou (J5 h) h:=by
 intro id ob hi;unfold J5 at hi;split at hi
 ·rename_i hl;exact⟨hl,hi⟩
 ·cases hi
def Qj{h:H}{id:Nat}{row:List AV}(hl:id<h.next)(hr:sy h.aU id=some row):qf (J5 h) id=some row:=by
 unfold qf J5;rw[t8 hl];unfold sy at hr
 cases hg:h.aU.get id with
 | none=>rw[hg] at hr;cases hr
 | some o=>
  rw[hg] at hr
  cases o<;>first | exact hr | cases hr
mutual
def Dp.gs{s:Bool}{h:H}:∀{d:DV} {a:AV},Dp s h d a->GS (J5 h) (MS d) a
 | .fl a0,a,hd=>by
  rw[Uw] at hd;rw[MS,GS];exact hd.1
 | .sl nl n e cs,a,hd=>by
  rw[Lc] at hd;rw[MS,GS]
  rcases hd with⟨h1,h2,⟨o,e',c,h3,h4,h5⟩,_⟩ | ⟨_,id,off,cap,row,aS,e1,h1,h2,h3,h4,h5⟩
  ·subst h2;exact .inl ⟨h1,by rw[gR],o,e',c,by rw[h3],h4,h5⟩
  ·exact .inr ⟨id,off,cap,row,e1,Qj h1 h2,h3,by rw[<-h4];exact FK.gs h5⟩
 | .ag cs,a,hd=>by
  rw[Uv] at hd;obtain⟨aS,e1,h1⟩:=hd;rw[MS,GS];exact⟨aS,e1,FK.gs h1⟩
def FK.gs{s:Bool}{h:H}:∀{ds:List DV} {aS:List AV},FK s h ds aS->kr (J5 h) (gR ds) aS
 | [],aS,hd=>by rw[Q6] at hd;rw[gR,kr];exact hd
 | d::ds,aS,hd=>by
  rw[Ol] at hd;obtain⟨a,r,e1,h1,h2⟩:=hd;rw[gR,kr];exact⟨a,r,e1,Dp.gs h1,FK.gs h2⟩
end
def TN{P:Program}(hng:tH P){f:FuncId}{fn:Func}(hf:P.funcs[f]?=some fn)(hb:fn.body.isSome=true){w:World}{ds:List DV}{args':Array Value}(hw:nS w ds args'.toList)
 (hc:PC P f (gR ds) (·=.a (.bool true))):Calls P f args' w λe w'=>e=.returned (.bool true)/\Below w.heap.size w w':=by
 obtain⟨σ,k1,k2⟩:=hw.lay;have hd:=nS.dp (rows:=(e7 ds 0).2) hw 0 (λi r hr=>by rw[eP];exact hr);have hfine:=hc (J5 _) _ _ (Sf _) hd.gs σ w args' k1 k2;rw[ei hng hf hb] at hfine;refine Calls.mono hfine λe w' ⟨x,he,a,h',⟨r,ρ',hr,_,_,hg⟩,σ',hV,hr',hE⟩=>?_;subst hr;rw[GS] at hg;subst hg;cases hV;exact⟨he,Jq hE⟩
end
end Go.Ev
namespace Go.Proofs
open Go.Ev
set_option maxRecDepth 100000
abbrev i6:Ty:=.int .i64
def TB:List Ty:=[i6,i6,.str,.str,.str,.str,.str,.str,.st [.st [i6,i6],.st [i6,i6],.st [i6,i6]]]
def J9:List Ty:=[.str,.sl .str,i6]
def we:List Ty:=[.str,.bool,.sl (.st J9)]
def Dg:List Ty:=[.sl (.st TB),.bool]
def Od:List Ty:=[.str,.str,i6,i6,i6]
def D5:List Ty:=[.str,.str,i6,i6]
def o8:Nat->Ty
 | 0=>.no 3
 | 1=>.st [.no 1,.no 1,.no 1]
 | j+2=>.st [i6,i6,.sl (o8 j)]
def s8:∀j,(o8 j).size=3
 | 0=>rfl
 | 1=>rfl
 | j+2=>rfl
def sL{α:Type}(enc:α->List SV)(ok:α->Prop):∀{rows:List (List DV)},(∀r∈rows,∃x,gR r=enc x/\ok x)->∃xs:List α,xs.length=rows.length/\gR rows.flatten=xs.flatMap enc/\∀x∈xs,ok x
 | [],_=>⟨[],rfl,rfl,λx hx=>by cases hx⟩
 | r::rows,h=>by
  obtain⟨x,h1,h2⟩:=h r bi;obtain⟨xs,h3,h4,h5⟩:=sL enc ok (rows:=rows) λq hq=>h q (be _ hq);refine⟨x::xs,by rw[bw,bw,h3],by rw[List.flatten_cons,Gz,h1,h4,f9],λy hy=>?_⟩
  rcases mem_cons.1 hy with rfl | hy
  ·exact h2
  ·exact h5 y hy
def tQ{α:Type}{enc:α->List SV}{nl:Bool}{e:Nat}{rows:List (List DV)}{xs:List α}(h1:xs.length=rows.length)(h2:gR rows.flatten=xs.flatMap enc):MS (.sl nl rows.length e rows.flatten)=ah e xs enc:=by
 rw[MS,h2,ah,h1]
section
variable {B:Nat} {ds:List DV}
def UE(hk:fa B TB ds):∃e:bH,gR ds=aF e/\SB e:=by
 unfold TB at hk;obtain⟨a1,r,rfl,_,hk⟩:=eH hk;obtain⟨a2,r,rfl,_,hk⟩:=eH hk;obtain⟨s1,r,rfl,b1,_,hk⟩:=gF hk;obtain⟨s2,r,rfl,b2,_,hk⟩:=gF hk;obtain⟨s3,r,rfl,b3,_,hk⟩:=gF hk;obtain⟨s4,r,rfl,b4,_,hk⟩:=gF hk;obtain⟨s5,r,rfl,b5,_,hk⟩:=gF hk;obtain⟨s6,r,rfl,b6,_,hk⟩:=gF hk;have hk:fa B [.st [i6,i6],.st [i6,i6],.st [i6,i6]] r:=uB hk;have hk:fa B [i6,i6,.st [i6,i6],.st [i6,i6]] r:=uB hk;obtain⟨u1,r,rfl,_,hk⟩:=eH hk;obtain⟨u2,r,rfl,_,hk⟩:=eH hk;have hk:fa B [i6,i6,.st [i6,i6]] r:=uB hk;obtain⟨u3,r,rfl,_,hk⟩:=eH hk;obtain⟨u4,r,rfl,_,hk⟩:=eH hk;have hk:fa B [i6,i6] r:=uB hk;obtain⟨u5,r,rfl,_,hk⟩:=eH hk;obtain⟨u6,r,rfl,_,hk⟩:=eH hk;have:=nh hk;subst this;exact⟨⟨a1,a2,s1,s2,s3,s4,s5,s6,u1,u2,u3,u4,u5,u6⟩,by simp only[gR,MS,aF],⟨b1,b2,b3,b4,b5,b6⟩⟩
def T3(hk:nJ B .str ds):∃s:List Nat,gR ds=aw ab s/\∀b∈s,b<256:=by
 rw[nJ] at hk;obtain⟨s,rfl,h1,_⟩:=hk;exact⟨s,by simp only[gR,MS,aw],h1⟩
def Sm(hk:fa B J9 ds):∃s:l8,gR ds=bT s/\∀b∈s.name,b<256:=by
 unfold J9 at hk;obtain⟨s1,r,rfl,b1,_,hk⟩:=gF hk;obtain⟨nl,rows,r,rfl,_,hr,hk⟩:=uA hk;obtain⟨a2,r,rfl,_,hk⟩:=eH hk;have:=nh hk;subst this;obtain⟨xs,h1,h2,_⟩:=sL (aw ab) (λs=>∀b∈s,b<256) λr hrr=>T3 (hr r hrr);exact⟨⟨s1,xs,a2⟩,by simp only[gR,tQ h1 h2,bT];rfl,b1⟩
def RG(hk:fa B we ds):∃k:aQ,gR ds=ao k/\((∀b∈k.name,b<256)/\∀s∈k.bZ,∀b∈s.name,b<256):=by
 unfold we at hk;obtain⟨s1,r,rfl,b1,_,hk⟩:=gF hk;obtain⟨v,r,rfl,hk2⟩:=C9 hk;obtain⟨nl,rows,r,rfl,_,hr,hk⟩:=uA hk2;have:=nh hk;subst this;obtain⟨xs,h1,h2,h3⟩:=sL bT (λs=>∀b∈s.name,b<256) λr hrr=>Sm (by have:=hr r hrr;rw[nJ] at this;exact this);exact⟨⟨s1,v,xs⟩,by simp only[gR,tQ h1 h2,ao];rfl,b1,h3⟩
def TW(hB:B<=l7)(hk:fa B Dg ds):∃r:br,gR ds=aB r/\(r.opts.length<=l7/\∀e∈r.opts,SB e):=by
 unfold Dg at hk;obtain⟨nl,rows,r,rfl,hl,hr,hk⟩:=uA hk;obtain⟨v,r,rfl,hk2⟩:=C9 hk;have:=nh hk2;subst this;obtain⟨xs,h1,h2,h3⟩:=sL aF SB λr hrr=>UE (by have:=hr r hrr;rw[nJ] at this;exact this);exact⟨⟨xs,v⟩,by simp only[gR,tQ h1 h2,aB];rfl,by show xs.length<=l7;omega,h3⟩
def Ud(hB:B<=l7)(hk:fa B Od ds):∃w:Wy,gR ds=bJ w/\((w.kind.length<=l7/\w.cR.length<=l7)/\((∀b∈w.kind,b<256)/\∀b∈w.cR,b<256)):=by
 unfold Od at hk;obtain⟨s1,r,rfl,b1,l1,hk⟩:=gF hk;obtain⟨s2,r,rfl,b2,l2,hk⟩:=gF hk;obtain⟨a1,r,rfl,_,hk⟩:=eH hk;obtain⟨a2,r,rfl,_,hk⟩:=eH hk;obtain⟨a3,r,rfl,_,hk⟩:=eH hk;have:=nh hk;subst this;exact⟨⟨s1,s2,a1,a2,a3⟩,by simp only[gR,MS,lC],⟨by show s1.length<=l7;omega,by show s2.length<=l7;omega⟩,b1,b2⟩
def OW(hB:B<=l7)(hk:fa B D5 ds):∃w:Co,gR ds=bN w/\((w.part.length<=l7/\w.owner.length<=l7)/\((∀b∈w.part,b<256)/\∀b∈w.owner,b<256)):=by
 unfold D5 at hk;obtain⟨s1,r,rfl,b1,l1,hk⟩:=gF hk;obtain⟨s2,r,rfl,b2,l2,hk⟩:=gF hk;obtain⟨a1,r,rfl,_,hk⟩:=eH hk;obtain⟨a2,r,rfl,_,hk⟩:=eH hk;have:=nh hk;subst this;exact⟨⟨s1,s2,a1,a2⟩,by simp only[gR,MS,dV],⟨by show s1.length<=l7;omega,by show s2.length<=l7;omega⟩,b1,b2⟩
def Pf(hB:B<=l7):∀(j:Nat) {ds:List DV},nJ B (o8 j) ds->∃f:bu,gR ds=aD f/\jJ f
 | 0,ds,h=>by
  rw[o8,nJ] at h;exact h.elim
 | 1,ds,h=>by
  rw[o8,nJ,fa] at h;obtain⟨_,_,_,h,_⟩:=h;rw[nJ] at h;exact h.elim
 | j+2,ds,h=>by
  rw[o8,nJ] at h;obtain⟨a1,r,rfl,_,hk⟩:=eH h;obtain⟨a2,r,rfl,_,hk⟩:=eH hk;obtain⟨nl,rows,r,rfl,hl,hr,hk⟩:=uA hk;have:=nh hk;subst this;obtain⟨xs,h1,h2,h3⟩:=sL aD jJ λr hrr=>Pf hB j (hr r hrr);refine⟨.mk a1 a2 xs,?_,.mk (by omega) h3⟩;rw[dz,s8];simp only[gR,MS,tQ h1 h2,h2,h1]
end
def QG{B:Nat}(hB:B<=l7){j:Nat}{ds:List DV}(hk:fa B [.st [.sl (.st we)],o8 j] ds):∃(c:List aQ) (f:bu),gR ds=ah 3 c ao::aD f/\jJ f/\∀k∈c,(∀b∈k.name,b<256)/\∀s∈k.bZ,∀b∈s.name,b<256:=by
 have hk:fa B [.sl (.st we),o8 j] ds:=uB hk;obtain⟨nl,rows,r,rfl,hl,hr,hk⟩:=uA hk;rw[fa] at hk;obtain⟨d1,d2,rfl,h1,h2⟩:=hk;rw[fa] at h2;subst h2;obtain⟨f,h3,h4⟩:=Pf hB j h1;obtain⟨xs,k1,k2,k3⟩:=sL ao (λk=>(∀b∈k.name,b<256)/\∀s∈k.bZ,∀b∈s.name,b<256) λr hrr=>RG (by have:=hr r hrr;rw[nJ] at this;exact this);exact⟨xs,f,by rw[gR,tQ k1 k2,ch,h3];rfl,h4,k3⟩
end Go.Proofs
