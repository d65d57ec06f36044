/- Lemmas of this claim, each with its conditions. -/
import Derived.Test.YtchdmmkclcnmnaaGreatA31
import Derived.Test.YtchdmmkclcnmnaaGreatA30
import Derived.Test.YtchdmmkclcnmnaaGreatA22
import Derived.Test.YtchdmmkclcnmnaaGreatA21
import Derived.Test.YtchdmmkclcnmnaaGreatA19
set_option linter.all false
open List (length_eq_zero_iff foldl_nil mem_filter mem_map mem_singleton map_nil take_zero)
open Nat renaming reduceEqDiff -> aa, reduceLeDiff -> al, le_refl -> ay, mul_one -> aR, reduceAdd -> a5, reduceMul -> a6, reduceLT -> a8, le_trans -> bh, sub_zero -> bi, zero_mul -> bx
open Option renaming bind_some -> ac, map_some -> af
open Int renaming le_of_lt -> ad
open List renaming mem_of_find?_eq_some -> ag, mem_of_getElem? -> aj, length_append -> ap, length_map -> ax, foldl_append -> aS, getElem?_map -> a0, take_length -> a7, not_mem_nil -> a9, length_nil -> bc, mem_cons_of_mem -> bd, mem_cons_self -> be, length_cons -> bo, range_zero -> bt, map_cons -> bv, mem_cons -> bw
open And renaming intro -> ba
open Bool renaming and_eq_true -> bk
namespace Go.Proofs
open Go.Ev
set_option maxRecDepth 100000
def dz(b:List (List Nat×Int)):List SV:=[nZ AV.str ab b]
def vB(r:List (List Nat×Int))(bs:List Nat)(c:Nat):SO:=.map (r.map λe=>.str e.1) (r.map λe=>ab e.2) (some (bs,c))
def LV(o:Nat)(r:List (List Nat×Int))(bs:List Nat)(c:Nat):bQ o (vB r bs c)=vB r bs c:=by
 unfold vB;rw[bQ]
 congr 1
 exact bI (eK (uv:=ab) (λ_=>rfl) r)
def Ho{S:List SO}{o:Nat}{l:List (List Nat×Int)}{bs:List Nat}{c:Nat}(s:List Nat)(ok:Bool)(hS:S[o]?=some (vB l bs c)):dW Tryz.prog S 101 (.map o) (.a (.str s)) ok=some (cond ok (.bE [ab (getM 0 s l),az (dy s l)]) (ab (getM 0 s l))):=
 tJ (kv:=AV.str) (uv:=ab) (u0:=0) (k:=s) (kt:=9) (et:=3) (z:=.int .i64 0) (by simp only[aw]) fz (by simp only[aw]) rfl (by simp only[sy,hS,vB]) rfl ok
def JH{S:List SO}{o:Nat}{l:List (List Nat×Int)}{bs:List Nat}{c:Nat}(s:List Nat)(u:Int)(hS:S[o]?=some (vB l bs c))(hh:dy s l=true):fv Tryz.prog S 101 (.map o) (.a (.str s)) (ab u)=some (S.set o (vB (cw s u l) bs c)):=by
 have hm:cW Tryz.prog 101=some (9,3):=by simp only[aw]
 have hk:=fz;unfold fv;rw[hm,ac];simp only;rw[show cG (.a (.str s))=some (.str s) from rfl,ac,hk.ck,ai,hS];simp only[vB];rw[mz hk,ac]
 cases hp:oT s l 0 with
 | none=>
  have hn:=iH hp;rw[hn] at hh;cases hh
 | some i=>
  obtain⟨_,u',h2,_,h4,_⟩:=gC hp;rw[bi] at h2;have h4:=h4 u;rw[bi] at h4;simp only[a0,h2,af,ac,hk.st,ai,h4,List.map_set]
def PJ{l:List (List Nat×Int)}{j:Nat}{e:List Nat×Int}(hn:(l.map (·.1)).Nodup)(he:l[j]?=some e):getM 0 e.1 l=e.2/\(∀v,cw e.1 v l=l.set j (e.1,v))/\dy e.1 l=true:=by
 cases hp:oT e.1 l 0 with
 | none=>
  have h1:=iH hp;simp only[dy,List.any_eq_false,wr] at h1;exact t8 rfl (h1 e (aj he))
 | some i=>
  obtain⟨_,u,h2,h3,h4,h5⟩:=gC hp;rw[bi] at h2 h4
  have hij:i=j:=by
   refine(List.getElem?_inj (l:=l.map (·.1)) (by rw[ax];exact bD h2) hn).1 ?_;simp only[a0,h2,he,af]
  subst hij;rw[he] at h2;have hu:e.2=u:=congrArg Prod.snd (Option.some.inj h2);exact⟨by rw[hu];exact h3 0,h4,h5⟩
def BY:∀(bs:List (List (List Nat×Int))) (o:List (List Nat×Int)),(bs.foldl oP o).map (·.1)=o.map (·.1)
 | [],o=>rfl
 | b::bs,o=>by rw[List.foldl_cons,BY bs,L7]
set_option maxHeartbeats 2000000 in
def Hm(b0:List (List Nat×Int))(bs:List (List (List Nat×Int)))(hlen:bs.length<=100000)(hnd:(b0.map (·.1)).Nodup):PC Tryz.prog 55 [ak 1 (b0::bs) dz] (·=nZ AV.str ab (qA (b0::bs))):=by
 refine pB 35 Tryz.func55 ?_;have h0:0<(b0::bs).length:=Nat.zero_lt_succ _;have hat:=aG (e:=1) (enc:=dz) (λ_=>rfl) (show(b0::bs)[0]?=some b0 from rfl);rw[bx] at hat;refine zV ?_;refine gG (n4 h0 hat @bx @dz.eq_1) ?_;have hrg:∀(r:Nat->Nat) (L:List (List Nat×Int)),kh r (L.map λe=>ab e.2)=L.map λe=>ab e.2:=λr L=>aY (eK (uv:=ab) (λ_=>rfl) L);have hbg:∀(B:Nat) (L:List (List Nat×Int)),fq B (L.map λe=>ab e.2)=true:=λB L=>bC (eK (uv:=ab) (λ_=>rfl) L);refine zS [] (n3 @bz.eq_1 hrg hbg) (D9 b0) ?_;refine zR ?_;have hn1:1<=(b0::bs).length:=h0;refine aC (n2 hn1 @aR) ?_;have hfa:=cV (enc:=dz) (e:=1) (λ_=>rfl) bs;rw[aR] at hfa
 have e12:SV.sl ((b0::bs).length-1) 1 (List.take ((b0::bs).length-1) (List.drop 1 ((b0::bs).flatMap dz)))=.sl bs.length 1 (bs.flatMap dz):=by
  show SV.sl bs.length 1 (List.take bs.length (bs.flatMap dz))=_;rw[hfa]
 refine ar.fg (st':=⟨[(3,.map 0),(12,ak 1 bs dz),(13,ab bs.length),(14,ab 0)],35,[bz AV.str ab b0],[]⟩) (bL (n2 @bz.eq_1 e12)) ?_
 have hlen6:bs.length<=1000000:=by omega
 refine zs ?_;refine zL bs (λk=>True) (λk=>[(3,.map 0),(12,ak 1 bs dz),(13,ab bs.length),(14,ab k)]) (λk=>[bz AV.str ab ((bs.take k).foldl oP b0)]) (bL (n3 @bz.eq_1 @take_zero.{0} @foldl_nil.{0,0})) zp ?_;intro k hk hall;refine zT bs k ?_ ?_;rintro rfl;rotate_left;intro b hx hlt;rotate_left
 ·refine dZ ?_;rw[a7];refine zV ?_;exact zo [.tmp 2] (r:=nZ AV.str ab (bs.foldl oP b0)) (hw:=nU (λ_=>rfl) rfl)
 have hst:(bs.take (k+1)).foldl oP b0=oP ((bs.take k).foldl oP b0) b:=by rw[br hx,aS];rfl
 have hok:(((bs.take k).foldl oP b0).map (·.1)).Nodup:=by rw[BY];exact hnd
 generalize (bs.take k).foldl oP b0=o at hst hok;refine eQ ?_;refine aC (n3 hlt (aG (e:=1) (enc:=dz) (λ_=>rfl) hx) @dz.eq_1) ?_;refine zC ?_;refine aI.Uq (oo:=0) (ks:=o.map λe=>.str e.1) (vs:=o.map λe=>ab e.2) (b:=none) (by rfl) rfl rfl (by rfl) rfl rfl (by simp only[aw]) ?_;intro bb c hbb;rw[ax] at hbb;change aI _ _ _ _ ⟨_,_,gO [vB o bb c] _,_⟩ _;refine cM @LV ?_
 (repeat refine ar.seq ?_)
 refine ar.block (ar.loop (λm st=>∃pos:List Nat,pos.Nodup/\(∀j∈pos,j<o.length)/\o.length-pos.length=m/\st=⟨[(3,.map 0),(5,nZ AV.str ab b),(12,ak 1 bs dz),(13,ab bs.length),(14,ab k),(19,.ptr 1 0)],35,[vB (pE o b pos) bb c,.iter (.map 0) bb c pos],[]⟩) o.length (bL @Oh) ⟨[],List.nodup_nil,λj hj=>by simp at hj,rfl,rfl⟩ (by rintro m st ⟨pos,_,_,_,rfl⟩;rfl) ?_);rintro m st ⟨pos,hpn,hpl,rfl,rfl⟩;refine zC ?_;refine aI.Um (ks:=(pE o b pos).map λe=>.str e.1) (vs:=(pE o b pos).map λe=>ab e.2) (by rfl) rfl rfl (by rfl) rfl rfl rfl (λj hj=>by rw[ax,tM];exact hpl j hj) ?_ ?_
 ·intro hal;refine zR ?_;refine dZ ?_;have hmin:pE o b pos=oP o b:=Og λj hj=>hal j (by rw[ax,tM];exact hj);rw[hmin];refine ar.fg (Fg.trans (Fg.JY (S:=[vB (oP o b) bb c,.iter (.map 0) bb c pos]) (ks:=(oP o b).map λe=>.str e.1) (vs:=(oP o b).map λe=>ab e.2) (b:=some (bb,c)) 0 rfl) (b:=_) (c:=⟨[(3,.map 0),(12,ak 1 bs dz),(13,ab bs.length),(14,ab k)],35,[bz AV.str ab (oP o b)],[]⟩) (bL @bz.eq_1)) ?_
  (try change ar _ _ _ _ _)
  refine aC (zi hlt hlen6) ?_;refine zX hlt (bL hst) trivial
 ·intro j hj hjn;rw[ax,tM] at hj;obtain⟨e,he⟩:∃e,o[j]?=some e:=⟨o[j],List.getElem?_eq_getElem hj⟩;obtain⟨q1,q2,q3⟩:=oU hpn hpl hj hjn
  have hme:(pE o b pos)[j]?=some e:=by rw[oQ,he];simp[hjn]
  obtain⟨l1,l2,l3⟩:=PJ (by rw[L8];exact hok) hme
  have hsn:pE o b (pos++[j])=cw e.1 (eO e.2 (getM 0 e.1 b)) (pE o b pos):=by rw[L9 he,l2];rfl
  refine zR ?_;refine eQ ?_;refine zC ?_;refine aI.Uj (ks:=(pE o b pos).map λe=>.str e.1) (vs:=(pE o b pos).map λe=>ab e.2) (k:=.str e.1) (v:=ab e.2) (by rfl) rfl rfl (by rfl) rfl rfl rfl (by rw[a0,hme];rfl) (by rw[a0,hme];rfl) ?_;refine zR ?_;have hlk:=Ho (S:=[vB (pE o b pos) bb c,.iter (.map 0) bb c (pos++[j])]) (o:=0) e.1 false rfl;have hpt:=JH (S:=[vB (pE o b pos) bb c,.iter (.map 0) bb c (pos++[j])]) (o:=0) e.1 (eO e.2 (getM 0 e.1 b)) rfl l3;rw[l1] at hlk;refine zs ?_;refine ar.r0 (by rfl) (by simp only[bP,bg,ak,aw,ac,af,↓reduceIte,aa,a5,a6,al,a8,ai,an,aU,hlk,iw (l:=b),iG,hpt];first | done | rfl) ?_;exact⟨o.length-(pos++[j]).length,_,by rw[ap];simp only[bo,bc];omega,(bL hsn),pos++[j],q1,q2,rfl,rfl⟩
def Qn(ss:List Sh)(party:List Nat):Int:=match ss.find? λs=>decide (s.pt=party) with
 | some s=>s.am
 | none=>0
def kE.of{ml:List (List Nat×Int)}{ss:List Sh}(h:kE ml ss)(k:List Nat):Qn ss k=if 0<getM 0 k ml then getM 0 k ml else 0:=by
 obtain⟨ks,hp,_,rfl⟩:=h.ex;unfold Qn
 cases hf:(uO ml ks).find? (λs=>decide (s.pt=k)) with
 | some s=>
  have h1:=List.find?_some hf;have h2:=ag hf;unfold uO at h2;obtain⟨k',hk',rfl⟩:=mem_map.1 h2;obtain⟨_,hpos⟩:=mem_filter.1 hk'
  have:k'=k:=by simpa using h1
  subst this;rw[ul (by simpa using hpos)]
 | none=>
  rw[List.find?_eq_none] at hf;by_cases hpos:0<getM 0 k ml
  ·have hh:dy k ml=true:=by
    cases hh:dy k ml
    ·rw[qu (u0:=(0:Int)) hh] at hpos;exact t8 hpos (by decide)
    ·rfl
   have hk:k∈ks:=hp.mem_iff.2 (tD.1 hh);have:=hf ⟨k,getM 0 k ml⟩ (mem_map.2 ⟨k,mem_filter.2 ⟨hk,by simpa using hpos⟩,rfl⟩);simp at this
  ·rw[un hpos]
def kE.Tw{ml:List (List Nat×Int)}{ss:List Sh}(hn:(ml.map (·.1)).Nodup)(h:kE ml ss):ss.Pairwise λa b=>gJ a.pt b.pt=true:=by
 obtain⟨ks,hp,hs,rfl⟩:=h.ex;have hkn:ks.Nodup:=hp.nodup_iff.2 hn
 have hst:ks.Pairwise λa b=>gJ a b=true:=by
  have:=List.Pairwise.and hs hkn;refine this.imp λ{a b} ⟨h1,h2⟩=>?_
  rcases ma a b with h | h | h
  ·exact h
  ·exact t8 h h2
  ·rw[h1] at h;cases h
 unfold uO;rw[List.pairwise_map];exact hst.sublist List.filter_sublist
def kE.mem{ml:List (List Nat×Int)}{ss:List Sh}(h:kE ml ss)(s:Sh):s∈ss↔s.pt∈ml.map (·.1)/\0<getM 0 s.pt ml/\s.am=getM 0 s.pt ml:=by
 obtain⟨ks,hp,_,rfl⟩:=h.ex;unfold uO;rw[mem_map];constructor
 ·rintro⟨k,hk,rfl⟩;obtain⟨h1,h2⟩:=mem_filter.1 hk;exact⟨hp.mem_iff.1 h1,by simpa using h2,rfl⟩
 ·rintro⟨h1,h2,h3⟩;exact⟨s.pt,mem_filter.2 ⟨hp.mem_iff.2 h1,by simpa using h2⟩,by cases s;simp only at h3 ⊢;rw[h3]⟩
def kE.one{k:List Nat}{n:Int}{ss:List Sh}(h0:0<=n)(h:kE [(k,n)] ss):(ss.map Sh.am).sum=n/\ss.length<=2/\Qn ss k=n:=by
 obtain⟨ks,hp,_,rfl⟩:=h.ex;have hks:ks=[k]:=List.perm_singleton.1 hp;subst hks
 have hg:getM (0:Int) k [(k,n)]=n:=by simp[getM]
 refine⟨?_,?_,?_⟩
 ·unfold uO;by_cases hpos:0<n
  ·simp[hg,hpos]
  ·simp[hg,hpos];omega
 ·exact bh (D3 _ _) (by simp)
 ·rw[h.of,hg];split<;>omega
def kE.two{k l:List Nat}{n m:Int}{ss:List Sh}(hne:k≠l)(h0:0<=n)(h1:0<=m)(h:kE [(k,n),(l,m)] ss):(ss.map Sh.am).sum=n+m/\ss.length<=2/\Qn ss l=m:=by
 have hgk:getM (0:Int) k [(k,n),(l,m)]=n:=by simp[getM]
 have hgl:getM (0:Int) l [(k,n),(l,m)]=m:=by simp[getM,Ne.symm hne]
 have hof:=h.of l;obtain⟨ks,hp,_,rfl⟩:=h.ex;have hp:ks.Perm [k,l]:=hp;have hlen:ks.length=2:=hp.length_eq;refine⟨?_,?_,?_⟩
 ·have hcase:ks=[k,l]\/ks=[l,k]:=by
   match ks,hlen with
   | [a,b],_=>
    have ha:a∈[k,l]:=hp.mem_iff.1 (by simp);have hb:b∈[k,l]:=hp.mem_iff.1 (by simp);have hnd:[a,b].Nodup:=hp.nodup_iff.2 (by simp[hne]);simp only[bw,a9,or_false] at ha hb;simp only[List.nodup_cons,mem_singleton] at hnd
    rcases ha with rfl | rfl<;>rcases hb with rfl | rfl
    ·exact t8 rfl hnd.1
    ·exact .inl rfl
    ·exact .inr rfl
    ·exact t8 rfl hnd.1
  rcases hcase with rfl | rfl<;>unfold uO<;>by_cases p1:0<n<;>by_cases p2:0<m<;>simp[hgk,hgl,p1,p2]<;>omega
 ·exact bh (D3 _ _) (by omega)
 ·rw[hof,hgl];split<;>omega
def qM{ws:List Wy}{c:Co}(h:ee ws c=true):(∀w∈ws,w.ok=true)/\c.ok=true:=by
 unfold ee at h;rw[bk,List.all_eq_true] at h;exact h
def QY{c:Co}(h:c.ok=true):0<=c.am/\c.am<=1000000000000:=by
 unfold Co.ok xp at h;simp only[bk,wr] at h;omega
def Lp{ws:List Wy}{p:Pt}{c:Co}(hr:ee ws c=true):
 (o9 ws (some p) c=[(c.owner,c.am)]/\(ws.find? (lU p c)=none\/∃w,ws.find? (lU p c)=some w/\w.cH=c.owner))\/
 ∃w,ws.find? (lU p c)=some w/\w.cH≠c.owner/\o9 ws (some p) c=[(c.owner,c.am-pZ c.am w.vJ),(w.cH,pZ c.am w.vJ)]/\0<=pZ c.am w.vJ/\pZ c.am w.vJ<=c.am:=by
 obtain⟨hws,hc⟩:=qM hr
 cases hf:ws.find? (lU p c) with
 | none=>exact .inl ⟨by simp only[o9,hf],.inl rfl⟩
 | some w=>
  obtain⟨_,hamr,hpr⟩:=Cu (hws w (ag hf)) hc;obtain⟨hn0,hn1⟩:=KQ hamr hpr;by_cases hm:w.cH=c.owner
  ·refine .inl ⟨?_,.inr ⟨w,rfl,hm⟩⟩;simp only[o9,hf,hm,cw,getM,if_true]
   have:c.am-pZ c.am w.vJ+pZ c.am w.vJ=c.am:=by omega
   rw[this]
  ·refine .inr ⟨w,rfl,hm,?_,hn0,hn1⟩;simp[o9,hf,cw,getM,hm]
abbrev x8:=List (List Nat×Nat)
def qS{S:List SO}{o:Nat}{l:x8}(s:List Nat)(ok:Bool)(hS:S[o]?=some (bz AV.str cx l)):dW Tryz.prog S 100 (.map o) (.a (.str s)) ok=some (cond ok (.bE [cx (getM 0 s l),az (dy s l)]) (cx (getM 0 s l))):=
 Ce (uv:=cx) (u0:=0) (k:=s) (kt:=9) (et:=3) (z:=.int .i64 0) (by simp only[aw]) fz (by simp only[aw]) rfl hS rfl ok
def JJ{S:List SO}{o:Nat}{l:x8}(s:List Nat)(u:Nat)(hS:S[o]?=some (bz AV.str cx l)):fv Tryz.prog S 100 (.map o) (.a (.str s)) (.a (.int .i64 (u:Int)))=some (S.set o (bz AV.str cx (cw s u l))):=
 GG (uv:=cx) (kt:=9) (et:=3) (by simp only[aw]) fz hS rfl u
def jT{n:Nat}{l:x8}:bQ n (bz AV.str cx l)=bz AV.str cx l:=kM λ_=>jo _
def nH(i:Nat)(st:List Nat×x8)(part:List Nat):List Nat×x8:=
 if dy part st.2=true then (yU st.1 (getM 0 part st.2) i,st.2) else (st.1,cw part i st.2)
def Cb(st:List Nat×x8)(r:bu):List Nat×x8:=(qD r).foldl (nH st.1.length) (st.1++[st.1.length],st.2)
def eL(l:List bu):List Nat×x8:=l.foldl Cb ([],[])
structure lD (n:Nat) (st:List Nat×x8):Prop where
 f:iO st.1
 l:st.1.length=n
 m:∀part,dy part st.2=true->getM 0 part st.2<n
def lD.part{n i:Nat}{st:List Nat×x8}(h:lD n st)(hi:i<n)(part:List Nat):lD n (nH i st part):=by
 unfold nH;split
 ·rename_i hh;obtain⟨a,b⟩:=P8 h.f (i:=getM 0 part st.2) (k:=i) (by rw[h.l];exact h.m part hh) (by rw[h.l];exact hi);exact⟨a,b.trans h.l,h.m⟩
 ·refine⟨h.f,h.l,λq hq=>?_⟩;rw[ja];rw[yO] at hq;split
  ·exact hi
  ·rename_i hne;refine h.m q ?_;simpa [hne] using hq
def lD.parts{n i:Nat}(hi:i<n):∀(ps:List (List Nat)) {st:List Nat×x8},lD n st->lD n (ps.foldl (nH i) st)
 | [],_,h=>h
 | p::ps,_,h=>lD.parts hi ps (h.part hi p)
def lD.new{n:Nat}{st:List Nat×x8}(h:lD n st):lD (n+1) (st.1++[st.1.length],st.2):=by
 refine⟨?_,by simp[h.l],λq hq=>Nat.lt_succ_of_lt (h.m q hq)⟩;intro j x hx;rw[List.getElem?_append] at hx;split at hx
 ·exact h.f j x hx
 ·rename_i hj
  cases hjj:j-st.1.length with
  | zero=>rw[hjj] at hx;simp at hx;omega
  | succ q=>rw[hjj] at hx;simp at hx
def lD.rep{n:Nat}{st:List Nat×x8}(h:lD n st)(r:bu):lD (n+1) (Cb st r):=by
 unfold Cb;exact lD.parts (by rw[h.l];omega) _ h.new
def lD.qK:∀(l:List bu) {n:Nat} {st:List Nat×x8},lD n st->lD (n+l.length) (l.foldl Cb st)
 | [],_,_,h=>h
 | r::l,n,st,h=>by
  have:=lD.qK l (h.rep r);rw[bo,show n+(l.length+1)=n+1+l.length by omega];exact this
def rl(l:List bu):lD l.length (eL l):=by
 have:=lD.qK l (n:=0) (st:=([],[])) ⟨λj x hx=>by simp at hx,rfl,λq hq=>by simp[dy] at hq⟩
 rwa [Nat.zero_add] at this
def Lx(l:List (List Nat)):(eZ l).length<=l.length:=by
 have:∀n (l:List (List Nat)),l.length=n->(eZ l).length<=l.length:=by
  intro n
  induction n with
  | zero=>intro l h;rw[length_eq_zero_iff.1 h];exact ay _
  | succ n ih=>
   intro l h
   rcases List.eq_nil_or_concat l with rfl | ⟨a,x,rfl⟩
   ·exact ay _
   ·have ha:a.length=n:=by simpa using h
    have:=ih a ha;rw[List.concat_eq_append,sq];split<;>simp<;>omega
 exact this _ l rfl
def IL(r:bu):(qD r).length<=2*r.opts.length:=by
 unfold qD Mv;split
 ·simp
 ·have h1:=Lx (dM (r.opts.map cO).flatten);have h2:(dM (r.opts.map cO).flatten).length=(r.opts.map cO).flatten.length:=(qP _).length_eq;have h3:=Dj 0 r.opts;omega
def SG(st:List Nat×x8):List SO:=bz AV.str cx st.2::(if st.1=[] then [] else [.gone,.cells (st.1.flatMap (aA cx))])
def xW(m:x8):SG ([],m)=[bz AV.str cx m]:=rfl
def F4{f:List Nat}{m:x8}(h:¬f=[]):SG (f,m)=[bz AV.str cx m,.gone,.cells (f.flatMap (aA cx))]:=by unfold SG;rw[un h]
set_option maxHeartbeats 1000000 in
def Hn(l:List bu)(hl:∀r∈l,ea r)(hl2:∀r∈l,r.opts.length<=400000)(hlen:l.length<=1000000):
 SC Tryz.prog 104 [ak 2 l aD] [] [] (λr S'=>r=.bE [bn 2 1 l.length,.map 0]/\S'=SG (eL l)):=by
 refine K6 49 Tryz.func104 ?_;refine lC ?_;refine lC ?_;refine zs ?_;refine zL l (λk=>True) (λk=>[(0,ak 2 l aD),(4,bn 2 1 k),(5,.map 0),(13,ab l.length),(14,ab k)]) (λk=>SG (eL (l.take k))) (bL (n7 @take_zero.{0} @eH @eL.eq_1 @foldl_nil.{0,0} @xW @bz.eq_1 @map_nil.{0,0})) zp ?_;intro k hk hall;refine zT l k ?_ ?_;rintro rfl;rotate_left;intro r hx hlt;rotate_left
 ·refine dZ ?_;rw[a7];have hok:=rl l;obtain⟨f,m,hfm⟩:∃f m,eL l=(f,m):=⟨_,_,rfl⟩;rw[hfm] at hok ⊢;by_cases h0:f=[]
  ·have h1:l.length=0:=by rw[<-hok.l,h0];rfl
   rw[h0,xW,show bn 2 1 l.length=cN by rw[h1];rfl];refine zV ?_;refine zE ?_;exact zP [.tmp 2,.tmp 3]
  ·have h1:¬l.length=0:=by rw[<-hok.l];exact λh=>h0 (length_eq_zero_iff.1 h)
   rw[F4 h0,bV h1];refine zV ?_;refine zE ?_;exact zP [.tmp 2,.tmp 3]
 have hrk:ea r:=hl r (aj hx);have hr2:=hl2 r (aj hx)
 have hok:lD k (eL (l.take k)):=by
  have:=rl (l.take k);rwa [List.length_take,Nat.min_eq_left hk] at this
 have hnext:eL (l.take (k+1))=Cb (eL (l.take k)) r:=by
  unfold eL;rw[br hx,aS];rfl
 obtain⟨f,mm,hfm⟩:∃f mm,eL (l.take k)=(f,mm):=⟨_,_,rfl⟩;rw[hfm] at hok hnext ⊢;have hfl:f.length=k:=hok.l;refine eQ ?_;have happ:=eh (enc:=aA cx) (e:=1) (λ_=>rfl) (λ_=>rfl) 2 f k;rw[hfl,show aA cx k=[cx k] from rfl,aR] at happ
 have hcl:(f.flatMap (aA cx)).length=k:=by rw[tS,hfl]
 refine zV ?_
 (repeat refine ar.seq ?_)
 refine ar.mono (Q:=λe st=>e=.normal/\Fg st ⟨[(0,ak 2 l aD),(4,.buf 2 (k+1) 1 none),(5,.map 0),(6,cx k),(13,ab l.length),(14,ab k)],49,[bz AV.str cx mm,.gone,.cells ((f++[k]).flatMap (aA cx))],[]⟩) ?_ ?_
 ·by_cases h0:f=[]
  ·have hk0:k=0:=by rw[<-hfl,h0];rfl
   rw[h0,xW,show bn 2 1 k=cN by rw[hk0];rfl];refine aC @jT ?_;refine⟨rfl,(bL (n6 h0 @List.nil_append.{0} @List.flatMap_cons.{0,0} @List.flatMap_nil.{0,0} @aA.eq_1 hk0))⟩
  ·have h1:¬k=0:=λh=>h0 (length_eq_zero_iff.1 (by rw[hfl,h]));rw[F4 h0,bV h1];refine aC (n7 @jT @ia hcl happ @aR @ay (show k<=1000000 by omega)) ?_;refine⟨rfl,zH⟩
 rintro e st ⟨rfl,hfg⟩;refine ar.fg hfg ?_;clear hfg
 (try change ar _ _ _ _ _)
 refine gG (n3 hlt (aG (e:=2) (enc:=aD) (λ_=>rfl) hx) @aD.eq_1) ?_;refine zK (JE r hrk hr2) ?_ (hfl:=.inr (bp.refl rfl))
 have hst0:lD (k+1) (f++[k],mm):=by
  have:=hok.new;rw[hfl] at this;exact this
 have hnext2:eL (l.take (k+1))=(qD r).foldl (nH k) (f++[k],mm):=by
  rw[hnext,Cb];simp only;rw[hfl]
 have hns:=IL r;generalize qD r=ns at hnext2 hns
 have hnsl:ns.length<=1000000:=by omega
 refine zR ?_;have hinv:∀j,lD (k+1) ((ns.take j).foldl (nH k) (f++[k],mm)):=λj=>lD.parts (by omega) _ hst0;refine zs ?_;refine zL ns (λk2=>True) (λk2=>[(0,ak 2 l aD),(4,.buf 2 (k+1) 1 none),(5,.map 0),(6,cx k),(13,ab l.length),(14,ab k),(25,ak 1 ns (aA ae)),(26,ab ns.length),(27,ab k2)]) (λk2=>[bz AV.str cx ((ns.take k2).foldl (nH k) (f++[k],mm)).2,.gone,.cells (((ns.take k2).foldl (nH k) (f++[k],mm)).1.flatMap (aA cx))]) (bL (n2 @take_zero.{0} @foldl_nil.{0,0})) zp ?_;intro k2 hk2 hall2;refine zT ns k2 ?_ ?_;rintro rfl;rotate_left;intro part hx2 hlt2;rotate_left
 ·refine dZ ?_;rw[a7,<-hnext2]
  have hok3:lD (k+1) (eL (l.take (k+1))):=by rw[hnext2];have:=hinv ns.length;rwa [a7] at this
  obtain⟨g,m3,hg⟩:∃g m3,eL (l.take (k+1))=(g,m3):=⟨_,_,rfl⟩;rw[hg] at hok3 ⊢
  have hg0:¬g=[]:=λh=>by have:=hok3.l;rw[h] at this;simp at this
  refine zs ?_;refine ar.r0 (by rfl) (gQ (p9 (pw hlt hlen (by decide)))) ?_;refine⟨l.length-(k+1),_,by omega,(Fg.less (by (simp only[bP,bg,dr,↓reduceIte,aa,ak,hg,F4 hg0,DE])<;>(repeat' apply ba)<;>first | rfl | trivial) (by (simp only[bP,bg,or_true,true_or,ak,hg,F4 hg0,DE])<;>(repeat' apply ba)<;>first | exact .inr rfl | exact .inl rfl | trivial)),k+1,by omega,rfl,trivial,rfl⟩
 have hq1:(ns.take (k2+1)).foldl (nH k) (f++[k],mm)=nH k ((ns.take k2).foldl (nH k) (f++[k],mm)) part:=by
  rw[br hx2,aS];rfl
 have hok2:=hinv k2;obtain⟨g,m2,hg⟩:∃g m2,(ns.take k2).foldl (nH k) (f++[k],mm)=(g,m2):=⟨_,_,rfl⟩;rw[hg] at hok2 hq1 ⊢;have hgl:g.length=k+1:=hok2.l;refine eQ ?_;refine aC (n3 hlt2 (aG (e:=1) (enc:=aA ae) (λ_=>rfl) hx2) @aA.eq_1) ?_;refine zs ?_;refine ar.r0 (by rfl) (by simp only[bP,bg,ak,aw,ac,af,↓reduceIte,aa,a5,a6,al,a8,ai,an,aU,qS (l:=m2)];first | done | rfl) ?_;refine zV ?_;cases h1:dy part m2
 ·refine zN ?_;refine zs ?_;refine ar.r0 (by rfl) (by simp only[bP,bg,ak,aw,ac,af,↓reduceIte,aa,a5,a6,al,a8,ai,an,aU,JJ (l:=m2)];first | done | rfl) ?_;rw[nH,un (by simp only;rw[h1];decide)] at hq1;refine aC (zi hlt2 hnsl) ?_;refine zX hlt2 (bL hq1) trivial
 ·refine zY ?_;have hp:=hok2.m part h1;have hj:=ML g (getM 0 part m2) k hok2.f (by rw[hgl];exact hp) (by omega) (by omega);rw[hgl] at hj;refine zC ?_;refine zS [2] (n4 @qN @nv @ia @jT) hj ?_;refine zR ?_;rw[nH,ul (by simp only;exact h1)] at hq1;refine aC (zi hlt2 hnsl) ?_;refine zX hlt2 (bL hq1) trivial
def DI(k:Nat)(st:List Nat×List Nat)(i:Nat):List Nat×List Nat:=
 ((gL (gL st.1 i).2 k).2,if (gL st.1 i).1=(gL (gL st.1 i).2 k).1 then st.2++[i] else st.2)
def lR(k:Nat)(f:List Nat)(n:Nat):List Nat×List Nat:=(List.range n).foldl (DI k) (f,[])
def pA(l:List bu)(part:List Nat):List Nat:=
 if dy part (eL l).2=true then (lR (getM 0 part (eL l).2) (eL l).1 l.length).2 else []
def KD(k:Nat)(f:List Nat)(n:Nat):lR k f (n+1)=DI k (lR k f n) n:=by
 unfold lR;rw[List.range_succ,aS];rfl
def zF{k:Nat}{f:List Nat}(hf:iO f)(hk:k<f.length):∀n,n<=f.length->iO (lR k f n).1/\(lR k f n).1.length=f.length/\(lR k f n).2.length<=n/\∀i∈(lR k f n).2,i<n
 | 0,_=>⟨hf,rfl,ay _,λi hi=>by simp[lR] at hi⟩
 | n+1,hn=>by
  obtain⟨a1,a2,a3,a4⟩:=zF hf hk n (by omega);rw[KD,DI];obtain⟨b1,b2,_⟩:=pI (i:=n) a1 (by omega);obtain⟨c1,c2,_⟩:=pI (i:=k) b1 (by omega);refine⟨c1,by rw[c2,b2,a2],?_,?_⟩
  ·simp only;split
   ·rw[ap,List.length_singleton];omega
   ·omega
  ·intro i hi;simp only at hi;split at hi
   ·rcases List.mem_append.1 hi with h | h
    ·have:=a4 i h;omega
    ·have:=mem_singleton.1 h;omega
   ·have:=a4 i hi;omega
def Sk(m:x8)(st:List Nat×List Nat):List SO:=bz AV.str cx m::.gone::.cells (st.1.flatMap (aA cx))::(if st.2=[] then [] else [.gone,.cells (st.2.flatMap (aA cx))])
def tP(m:x8)(f:List Nat):Sk m (f,[])=[bz AV.str cx m,.gone,.cells (f.flatMap (aA cx))]:=rfl
def Gj{m:x8}{f o:List Nat}(h:¬o=[]):Sk m (f,o)=[bz AV.str cx m,.gone,.cells (f.flatMap (aA cx)),.gone,.cells (o.flatMap (aA cx))]:=by unfold Sk;rw[un h]
def Qk(l:List Nat):(l.flatMap (aA cx)).take (l.length*1)=l.flatMap (aA cx):=cV (enc:=aA cx) (λ_=>rfl) l
def NU(l:x8):cr (l.map λe=>cx e.2)=true:=eK (λ_=>rfl) l
def Cy{r:Nat->Nat}{l:x8}:nk r (bz AV.str cx l)=bz AV.str cx l:=by
 unfold bz;rw[GM,aY (NU l)]
def uV{B:Nat}{l:x8}:kl B (bz AV.str cx l)=true:=by
 unfold bz;rw[kl];exact bC (NU l)
set_option maxHeartbeats 1000000 in
def MP(l:List bu)(part:List Nat)(hl:∀r∈l,ea r)(hl2:∀r∈l,r.opts.length<=400000)(hlen:l.length<=1000000):
 PC Tryz.prog 52 [ak 2 l aD,ae part] (·=ak 1 (pA l part) (aA cx)):=by
 refine pB 42 Tryz.func52 ?_;have hL:=Hn l hl hl2 hlen;have hok:=rl l;obtain⟨f,mm,hfm⟩:∃f mm,eL l=(f,mm):=⟨_,_,rfl⟩
 have hO:pA l part=if dy part mm=true then (lR (getM 0 part mm) f l.length).2 else []:=by unfold pA;rw[hfm]
 rw[hfm] at hL hok;have hfl:f.length=l.length:=hok.l;refine kD ?_;by_cases h0:f=[]
 ·have hk0:l.length=0:=by rw[<-hfl,h0];rfl
  have h1:dy part mm=false:=by
   cases h:dy part mm with
   | false=>rfl
   | true=>
    have:=hok.m part h;omega
  rw[h1] at hO;rw[h0,xW,show bn 2 1 l.length=cN by rw[hk0];rfl] at hL;refine zS [] (n3 @Cy @uV @jT) hL ?_;refine zR ?_;refine zs ?_;refine ar.r0 (by rfl) (by simp only[bP,bg,ak,aw,ac,af,↓reduceIte,aa,a5,a6,al,a8,ai,an,aU,qS (l:=mm)];first | done | rfl) ?_;refine aC h1 ?_;refine cL ?_;exact zo [.tmp 4] (r:=.sl 0 1 []) (hw:=Wk.nil _) (hq:=by rw[hO];rfl)
 have hk0:¬l.length=0:=by rw[<-hfl];exact λh=>h0 (length_eq_zero_iff.1 h)
 rw[F4 h0,bV hk0] at hL;refine zS [] (n6 @Cy @uV @jT @qN @nv @ia) hL ?_;refine zR ?_;refine zs ?_;refine ar.r0 (by rfl) (by simp only[bP,bg,ak,aw,ac,af,↓reduceIte,aa,a5,a6,al,a8,ai,an,aU,qS (l:=mm)];first | done | rfl) ?_;cases h1:dy part mm
 ·rw[h1] at hO;refine aC h1 ?_;refine cL ?_;exact zo [.tmp 4] (r:=.sl 0 1 []) (hw:=Wk.nil _) (hq:=by rw[hO];rfl)
 rw[h1,ul rfl] at hO;have hkl:=hok.m part h1;generalize hkk:getM 0 part mm=kk at hO hkl;have hf0:iO f:=hok.f;have hF:=zF (k:=kk) hf0 (by rw[hfl];exact hkl);refine aC h1 ?_;refine iK ?_;refine zV ?_;refine zs ?_;refine zL l (λk=>True) (λk=>[(5,.buf 2 l.length 1 none),(7,cx kk),(9,bn 4 1 (lR kk f k).2.length),(25,ab l.length),(26,ab k)]) (λk=>Sk mm (lR kk f k)) (Fg.less (by (simp only[bP,bg,dr,↓reduceIte,aa,ak,hkk,lR,bt,foldl_nil,eH,bc,tP])<;>(repeat' apply ba)<;>first | rfl | trivial) (by (simp only[bP,bg,or_true,true_or,ak,hkk,lR,bt,foldl_nil,eH,bc,tP])<;>(repeat' apply ba)<;>first | exact .inr rfl | exact .inl rfl | trivial)) zp ?_;intro k hk hall;refine zT l k ?_ ?_;rintro rfl;rotate_left;intro r hx hlt;rotate_left
 ·refine dZ ?_;obtain⟨a1,a2,a3,a4⟩:=hF l.length (by omega);obtain⟨g,o,hg⟩:∃g o,lR kk f l.length=(g,o):=⟨_,_,rfl⟩;rw[hg] at hO a3 ⊢;by_cases ho:o=[]
  ·subst ho;rw[tP,show bn 4 1 ([]:List Nat).length=cN from rfl];refine zV ?_;exact zo [.tmp 4] (r:=.sl 0 1 []) (hw:=Wk.nil _) (hq:=by rw[hO];rfl)
  ·rw[Gj ho,bV (λh=>ho (length_eq_zero_iff.1 h))];refine zV ?_;exact zo [.tmp 4] (r:=ak 1 o (aA cx)) (hw:=.buf rfl (by rw[Qk];exact bp.refl (aB (λ_=>rfl) o)) (by rw[tS,aR];exact ay _)) (hq:=by rw[hO])
 have hstep:=KD kk f k;obtain⟨a1,a2,a3,a4⟩:=hF k (by omega);obtain⟨g,o,hg⟩:∃g o,lR kk f k=(g,o):=⟨_,_,rfl⟩;rw[hg] at a1 a2 a3 hstep ⊢;have hgl:g.length=l.length:=a2.trans hfl;have hr1:=rH g k a1 (by rw[hgl];exact hlt) (by rw[hgl];exact hlen);have k1:=pI (i:=k) a1 (by rw[hgl];exact hlt);rw[DI] at hstep;obtain⟨a,g1,hA⟩:∃a g1,gL g k=(a,g1):=⟨_,_,rfl⟩;simp only[hA] at hr1 k1 hstep;rw[hgl] at hr1;obtain⟨q1,q2,q3⟩:=k1;have hr2:=rH g1 kk q1 (by rw[q2,hgl];exact hkl) (by rw[q2,hgl];exact hlen);obtain⟨b,g2,hB⟩:∃b g2,gL g1 kk=(b,g2):=⟨_,_,rfl⟩;simp only[hB] at hr2 hstep;rw[q2,hgl] at hr2
 have hol:o.length<=1000000:=by
  have:o.length<=k:=a3;omega
 refine eQ ?_;by_cases ho:o=[]
 ·subst ho;rw[tP,show bn 4 1 ([]:List Nat).length=cN from rfl];refine kD ?_;refine zS [2] (n6 @Cy @uV @jT @qN @nv @ia) hr1 ?_;refine zQ ?_;refine zS [2] (n6 @Cy @uV @jT @qN @nv @ia) hr2 ?_;by_cases hab:a=b
  ·rw[ul hab] at hstep;refine cM (show decide ((a:Int)=(b:Int))=true by simp;omega) ?_;refine zY ?_;refine aC (n2 @jT @ia) ?_;refine aC (zi hlt hlen) ?_;refine zX hlt (bL (n5 hkk hstep @List.nil_append.{0} (show Sk mm (g2,[k])=[bz AV.str cx mm,.gone,.cells (g2.flatMap (aA cx)),.gone,.cells [cx k]] from rfl) (show bn 4 1 [k].length=.buf 4 1 1 none from rfl))) trivial
  ·rw[un hab] at hstep;refine cM (show decide ((a:Int)=(b:Int))=false by simp;omega) ?_;refine zN ?_;refine aC (zi hlt hlen) ?_;refine zX hlt (bL (n4 hkk hstep @tP (show bn 4 1 ([]:List Nat).length=cN from rfl))) trivial
 ·have ho1:¬o.length=0:=λh=>ho (length_eq_zero_iff.1 h);have happ:=eh (enc:=aA cx) (e:=1) (λ_=>rfl) (λ_=>rfl) 4 o k;rw[show aA cx k=[cx k] from rfl,aR] at happ;have hcl:=tS (c:=cx) o;rw[Gj ho,bV ho1];refine kD ?_;refine zS [2] (n6 @Cy @uV @jT @qN @nv @ia) hr1 ?_;refine zQ ?_;refine zS [2] (n6 @Cy @uV @jT @qN @nv @ia) hr2 ?_;by_cases hab:a=b
  ·rw[ul hab] at hstep;refine cM (show decide ((a:Int)=(b:Int))=true by simp;omega) ?_;refine zY ?_;have hs2:Sk mm (g2,o++[k])=[bz AV.str cx mm,.gone,.cells (g2.flatMap (aA cx)),.gone,.cells ((o++[k]).flatMap (aA cx))]:=Gj (by simp)
   have hs3:bn 4 1 (o++[k]).length=.buf 4 (o.length+1) 1 none:=by rw[ap];rfl
   refine aC (n7 @jT @ia hcl happ @aR @ay hol) ?_;refine aC (zi hlt hlen) ?_;refine zX hlt (bL (n4 hkk hstep hs2 hs3)) trivial
  ·rw[un hab] at hstep;refine cM (show decide ((a:Int)=(b:Int))=false by simp;omega) ?_;refine zN ?_;refine zs ?_;refine ar.r0 (by rfl) (gQ (p9 (pw hlt hlen (by decide)))) ?_;refine⟨l.length-(k+1),_,by omega,(Fg.less (by (simp only[bP,bg,dr,↓reduceIte,aa,ak,hkk,hstep,Gj ho,bV ho1])<;>(repeat' apply ba)<;>first | rfl | trivial) (by (simp only[bP,bg,or_true,true_or,ak,hkk,hstep,Gj ho,bV ho1])<;>(repeat' apply ba)<;>first | exact .inr rfl | exact .inl rfl | trivial)),k+1,by omega,rfl,trivial,rfl⟩
def Ca(l:List bu)(part:List Nat):(pA l part).length<=l.length/\∀i∈pA l part,i<l.length:=by
 have hok:=rl l;unfold pA;split
 ·rename_i h;have hkl:=hok.m part h;have hF:=zF (k:=getM 0 part (eL l).2) hok.f (by rw[hok.l];exact hkl) l.length (by rw[hok.l];exact ay _);exact⟨hF.2.2.1,hF.2.2.2⟩
 ·exact⟨Nat.zero_le _,λi hi=>by cases hi⟩
def Be(l:List bu)(part:List Nat):List bu:=(pA l part).filterMap (l[·]?)
def QC(l:List bu)(part:List Nat):(Be l part).length<=l.length:=bh (List.length_filterMap_le _ _) (Ca l part).1
def QD{l:List bu}{part:List Nat}{r:bu}(h:r∈Be l part):r∈l:=by
 obtain⟨i,_,hi⟩:=List.mem_filterMap.1 h;exact aj hi
def OF{l:List bu}{is:List Nat}{k i:Nat}{r:bu}(hk:is[k]?=some i)(hr:l[i]?=some r):(is.take (k+1)).filterMap (l[·]?)=(is.take k).filterMap (l[·]?)++[r]:=by
 rw[br hk,List.filterMap_append];simp[hr]
def GX{p:List Int->Prop}{g:Nat->List (List Int)->Bool×List (List Int)}(hg:∀n out,(∀ch∈out,p ch)->∀ch∈(g n out).2,p ch):∀(m n:Nat) (out:List (List Int)),(∀ch∈out,p ch)->∀ch∈(sO g m n out).2,p ch
 | 0,n,out,h=>h
 | m+1,n,out,h=>by
  rw[sO];split
  ·exact GX hg m (n+1) _ (hg n out h)
  ·exact hg n out h
def B0{c:List aP}{l:List bu}{most:Int}:∀(F i:Nat) (ch:List Int) (out:List (List Int)),(∀h∈out,Px c l h=true)->∀h∈(fJ c l most F i ch out).2,Px c l h=true
 | 0,i,ch,out,h=>h
 | F+1,i,ch,out,h=>by
  rw[fJ];split
  ·exact h
  ·split
   ·split
    ·rename_i h3;intro x hx
     rcases List.mem_append.1 hx with hx | hx
     ·exact h x hx
     ·rw[mem_singleton.1 hx];exact h3
    ·exact h
   ·exact GX (λn out h=>B0 F _ _ _ h) _ _ _ h
def CF{g:Nat->List (List Int)->Bool×List (List Int)}{most:Int}(hg:∀n out,(out.length:Int)<most->((g n out).2.length:Int)<=most)(hg2:∀n out,(out.length:Int)<most->(g n out).1=true->((g n out).2.length:Int)<most):∀(m n:Nat) (out:List (List Int)),(out.length:Int)<most->((sO g m n out).2.length:Int)<=most
 | 0,n,out,h=>ad h
 | m+1,n,out,h=>by
  rw[sO];split
  ·rename_i h1;exact CF hg hg2 m (n+1) _ (hg2 n out h h1)
  ·exact hg n out h
def yM{c:List aP}{l:List bu}{most:Int}:∀(F i:Nat) (ch:List Int) (out:List (List Int)),(out.length:Int)<most->((fJ c l most F i ch out).2.length:Int)<=most
 | 0,i,ch,out,h=>ad h
 | F+1,i,ch,out,h=>by
  rw[fJ];split
  ·exact ad h
  ·split
   ·split
    ·rw[ap];show((out.length+1:Nat):Int)<=most;omega
    ·exact ad h
   ·exact CF (λn out h=>yM F _ _ _ h) (λn out h h2=>yL F _ _ _ h h2) _ _ _ h
def RC{c:List aP}{l:List bu}{ch:List Int}(h:Px c l ch=true):l.length=ch.length:=by
 unfold Px pn at h;split at h
 ·rename_i hg;exact vq hg
 ·cases h
def Rs{c:List aP}{l:List bu}{most:Int}{ch:List Int}(h:ch∈(k8 c l most).1):Px c l ch=true:=by
 unfold k8 at h;split at h
 ·cases h
 split at h
 ·cases h
 split at h
 ·split at h
  ·cases h
  ·unfold pS at h;exact B0 _ _ _ _ (λ_ h=>by cases h) _ h
 ·cases h
def Nf{c:List aP}{l:List bu}{most:Int}(hm:0<most):((k8 c l most).1.length:Int)<=most:=by
 unfold k8;split
 ·exact ad hm
 split
 ·exact ad hm
 split
 ·split
  ·exact ad hm
  ·unfold pS;exact yM _ _ _ _ hm
 ·exact ad hm
abbrev p7:=List (List Nat×Int)
def ek(ws:List Wy)(co:Co)(b:p7):Prop:=(∃x,0<=x/\x<=co.am/\b=[(co.owner,x)])\/∃w∈ws,w.cH≠co.owner/\∃x y,0<=x/\0<=y/\x+y<=co.am/\b=[(co.owner,x),(w.cH,y)]
def Ic{ws:List Wy}{ps:List aH}{co:Co}(hr:ee ws co=true):lQ ws ps co=[(co.owner,co.am)]\/∃w∈ws,w.cH≠co.owner/\∃n,0<=n/\n<=co.am/\lQ ws ps co=[(co.owner,co.am-n),(w.cH,n)]:=by
 unfold lQ
 cases mI ps co.part with
 | none=>exact .inl rfl
 | some p=>
  rw[af]
  rcases Lp (p:=I8 p kn) hr with⟨h,_⟩ | ⟨w,h1,h2,h3,h4,h5⟩
  ·exact .inl h
  ·exact .inr ⟨w,ag h1,h2,_,h4,h5,h3⟩
def E7{ws:List Wy}{ps:List aH}{co:Co}(hr:ee ws co=true):ek ws co (lQ ws ps co):=by
 have ha:=QY (qM hr).2
 rcases Ic (ps:=ps) hr with h | ⟨w,hw,hm,n,h1,h2,h⟩
 ·exact .inl ⟨_,ha.1,Int.le_refl _,h⟩
 ·exact .inr ⟨w,hw,hm,_,n,by omega,h1,by omega,h⟩
def ek.nodup{ws:List Wy}{co:Co}{b:p7}(h:ek ws co b):(b.map (·.1)).Nodup:=by
 rcases h with⟨x,_,_,rfl⟩ | ⟨w,_,hm,x,y,_,_,_,rfl⟩
 ·simp
 ·simp[Ne.symm hm]
def ek.ne{ws:List Wy}{co:Co}{b:p7}(h:ek ws co b):b≠[]:=by
 rcases h with⟨x,_,_,rfl⟩ | ⟨w,_,hm,x,y,_,_,_,rfl⟩<;>simp
def ek.len{ws:List Wy}{co:Co}{b:p7}(h:ek ws co b):b.length<=2:=by
 rcases h with⟨x,_,_,rfl⟩ | ⟨w,_,hm,x,y,_,_,_,rfl⟩<;>simp
def ek.nn{ws:List Wy}{co:Co}{b:p7}(h:ek ws co b)(p:List Nat):0<=getM 0 p b:=by
 rcases h with⟨x,h1,_,rfl⟩ | ⟨w,_,hm,x,y,h1,h2,_,rfl⟩
 ·simp only[getM];split<;>omega
 ·simp only[getM];split
  ·omega
  ·split<;>omega
def Qf{ws:List Wy}{co:Co}{o b:p7}(h:ek ws co o)(hb:∀p,0<=getM 0 p b):ek ws co (oP o b):=by
 have hmin:∀x p,0<=x->0<=eO x (getM 0 p b)/\eO x (getM 0 p b)<=x:=λx p h=>by
  have:=hb p;unfold eO;split<;>omega
 rcases h with⟨x,h1,h2,rfl⟩ | ⟨w,hw,hm,x,y,h1,h2,h3,rfl⟩
 ·have:=hmin x co.owner h1;exact .inl ⟨_,this.1,by omega,rfl⟩
 ·have g1:=hmin x co.owner h1;have g2:=hmin y w.cH h2;exact .inr ⟨w,hw,hm,_,_,g1.1,g2.1,by omega,rfl⟩
def F2{ws:List Wy}{co:Co}:∀{bs:List p7} {b0:p7},ek ws co b0->(∀b∈bs,ek ws co b)->ek ws co (bs.foldl oP b0)
 | [],b0,h,_=>h
 | b::bs,b0,h,hb=>F2 (bs:=bs) (Qf h (hb b be).nn) λx hx=>hb x (bd _ hx)
def y5(b:p7):kE b (kr b):=by
 refine⟨⟨dM (b.map (·.1)),by exact qP _,?_,rfl⟩⟩;have h2:(dM (b.map (·.1))).Pairwise λa b=>y4 a b=true:=GW _
 exact h2.imp λ{a b} h=>by
  simpa [y4] using h
def pj(own:List bu)(ch:List Int):List bJ:=(me own ch).getD []
def ff(c:List aP)(dmg:bB)(ws:List Wy)(own:List bu)(co:Co)(all:List (List Int)):List p7:=all.map λch=>lQ ws (runN c dmg (pj own ch) co.day).1 co
def nK(n:Int)(l:List Sh):Int:=n-(l.map Sh.am).sum
def jH(c:List aP)(dmg:bB)(ws:List Wy)(l:List bu)(co:Co):Bool:=!(lT c&&dV dmg)||(!(ee ws co)||l.any λr=>!(Proofs.fR r))
def K9(c:List aP)(dmg:bB)(ws:List Wy)(own:List bu)(co:Co):List Sh×Int×Int:=
 if own=[] then ([],0,2)
 else if (k8 c own 4096).2=0 then
  (if (k8 c own 4096).1.length=4096 then ([],0,7)
  else (kr (qA (ff c dmg ws own co (k8 c own 4096).1)),nK co.am (kr (qA (ff c dmg ws own co (k8 c own 4096).1))),0))
 else ([],0,(k8 c own 4096).2)
def fP(c:List aP)(dmg:bB)(ws:List Wy)(l:List bu)(co:Co):List Sh×Int×Int:=if jH c dmg ws l co=true then ([],0,1) else K9 c dmg ws (Be l co.part) co
def ek.sum{ws:List Wy}{co:Co}{b:p7}(h:ek ws co b):((kr b).map Sh.am).sum=(b.map (·.2)).sum/\(kr b).length<=2:=by
 have hl:=y5 b
 rcases h with⟨x,h1,_,rfl⟩ | ⟨w,_,hm,x,y,h1,h2,_,rfl⟩
 ·obtain⟨a,b,_⟩:=kE.one h1 hl;exact⟨by rw[a];simp,b⟩
 ·obtain⟨a,b,_⟩:=kE.two (Ne.symm hm) h1 h2 hl;exact⟨by rw[a];simp,b⟩
def ek.Ug{ws:List Wy}{co:Co}{b:p7}(h:ek ws co b):0<=(b.map (·.2)).sum/\(b.map (·.2)).sum<=co.am:=by
 rcases h with⟨x,h1,_,rfl⟩ | ⟨w,_,hm,x,y,h1,h2,_,rfl⟩
 ·simp;omega
 ·simp;omega
def ek.am{ws:List Wy}{co:Co}{b:p7}(h:ek ws co b){s:Sh}(hs:s∈kr b):0<s.am/\s.am<=co.am/\(s.pt=co.owner\/∃w∈ws,s.pt=w.cH):=by
 obtain⟨g1,g2,g3⟩:=((y5 b).mem s).1 hs
 rcases h with⟨x,h1,_,rfl⟩ | ⟨w,hw,hm,x,y,h1,h2,_,rfl⟩
 ·simp only[bv,map_nil,mem_singleton] at g1;rw[g1] at g2 g3;simp only[getM,if_true] at g2 g3;exact⟨by omega,by omega,.inl g1⟩
 ·simp only[bv,map_nil,bw,a9,or_false] at g1
  rcases g1 with g1 | g1<;>rw[g1] at g2 g3<;>simp[getM,hm] at g2 g3
  ·exact⟨by omega,by omega,.inl g1⟩
  ·exact⟨by omega,by omega,.inr ⟨w,hw,g1⟩⟩
def ek.Tw{ws:List Wy}{co:Co}{b:p7}(h:ek ws co b):(kr b).Pairwise λa b=>gJ a.pt b.pt=true:=(y5 b).Tw h.nodup
def B8{ws:List Wy}{co:Co}{bs:List p7}(hne:bs≠[])(h:∀b∈bs,ek ws co b):ek ws co (qA bs):=by
 cases bs with
 | nil=>exact t8 rfl hne
 | cons b bs=>exact F2 (h b be) λx hx=>h x (bd _ hx)
def E8{c:List aP}{dmg:bB}{ws:List Wy}{own:List bu}{co:Co}{all:List (List Int)}(hr:ee ws co=true):∀b∈ff c dmg ws own co all,ek ws co b:=by
 intro b hb;obtain⟨ch,_,rfl⟩:=mem_map.1 hb;exact E7 hr
structure H7 (ws:List Wy) (co:Co) (r:List Sh×Int×Int):Prop where
 err:r.2.2≠0->r.1=[]/\r.2.1=0
 am:∀s∈r.1,0<s.am/\s.am<=co.am/\(s.pt=co.owner\/∃w∈ws,s.pt=w.cH)
 Tw:r.1.Pairwise λa b=>gJ a.pt b.pt=true
 len:r.1.length<=2
 UD:r.2.2=0->0<=r.2.1/\r.2.1=co.am-(r.1.map Sh.am).sum
 sum:0<=(r.1.map Sh.am).sum/\(r.1≠[]->(r.1.map Sh.am).sum<=co.am)
 right:r.2.2=0->ee ws co=true
def H7.no{ws:List Wy}{co:Co}{e:Int}(he:e≠0):H7 ws co ([],0,e):=⟨λ_=>⟨rfl,rfl⟩,λs h=>(a9 h).elim,.nil,Nat.zero_le _,λh=>t8 h he,⟨by simp,λh=>t8 rfl h⟩,λh=>t8 h he⟩
def D7(c:List aP)(dmg:bB)(ws:List Wy)(l:List bu)(co:Co):H7 ws co (fP c dmg ws l co):=by
 unfold fP;split
 ·exact .no (by decide)
 rename_i hb
 have hr:ee ws co=true:=by
  unfold jH at hb;cases h:ee ws co
  ·rw[h] at hb;simp at hb
  ·rfl
 unfold K9;split
 ·exact .no (by decide)
 split
 ·rename_i h2;split
  ·exact .no (by decide)
  ·have hne:=Ng (c:=c) (l:=Be l co.part) (most:=4096) h2;have hk:=B8 (ws:=ws) (co:=co) (bs:=ff c dmg ws (Be l co.part) co (k8 c (Be l co.part) 4096).1) (by unfold ff;exact λe=>hne (List.map_eq_nil_iff.1 e)) (E8 hr);generalize qA _=b at hk;have hs:=hk.sum;have hv:=hk.Ug;have hx:((kr b).map Sh.am).sum=(b.map (·.2)).sum:=hs.1;refine⟨λh=>t8 rfl h,λs h=>hk.am h,hk.Tw,hs.2,λ_=>⟨?_,rfl⟩,⟨by show 0<=((kr b).map Sh.am).sum;omega,λ_=>by show((kr b).map Sh.am).sum<=co.am;omega⟩,λ_=>hr⟩;show 0<=nK _ _;unfold nK;rw[hs.1];omega
 ·rename_i h2;exact .no h2
end Go.Proofs
