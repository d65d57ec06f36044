/- A part of the texts of this claim: every theorem says what it proves, with its conditions. -/
import Derived.Test.YtnaiockballhaaaGreatA40
import Derived.Test.YtnaiockballhaaaGreatA39
import Derived.Test.YtnaiockballhaaaGreatA28
import Derived.Test.YtnaiockballhaaaGreatA27
import Derived.Test.YtnaiockballhaaaGreatA23
set_option linter.unusedSimpArgs false
set_option linter.unusedVariables false
set_option linter.unusedSectionVars false
open Nat (reduceEqDiff le_refl mul_one reduceAdd reduceLT reduceLeDiff reduceMul le_trans sub_zero)
open Option (bind_some map_some)
open Int (le_of_lt)
open List (foldl_nil length_eq_zero_iff take_zero length_map foldl_append getElem?_map length_append mem_filter mem_of_getElem? take_length foldl_cons length_nil mem_map nil_append map_nil)
namespace Go.Proofs
open Go.Ev
set_option maxRecDepth 100000
def dn(b:List (List Nat×Int)):List SV:=[qG AV.str aa b]
def uo(r:List (List Nat×Int))(bs:List Nat)(c:Nat):SO:=.map (r.map λe=>.str e.1) (r.map λe=>aa e.2) (some (bs,c))
theorem J2(o:Nat)(r:List (List Nat×Int))(bs:List Nat)(c:Nat):bP o (uo r bs c)=uo r bs c:=by
 unfold uo;rw[bP]
 congr 1
 exact bK (iL (uv:=aa) (λ_=>rfl) r)
theorem FI{S:List SO}{o:Nat}{l:List (List Nat×Int)}{bs:List Nat}{c:Nat}(s:List Nat)(ok:Bool)(hS:S[o]?=some (uo l bs c)):eN Tryz.prog S 87 (.map o) (.a (.str s)) ok=some (cond ok (.bI [aa (getM 0 s l),aA (dh s l)]) (aa (getM 0 s l))):=
 xL (kv:=AV.str) (uv:=aa) (u0:=0) (k:=s) (kt:=9) (et:=3) (z:=.int .i64 0) (by simp only[aw]) fa (by simp only[aw]) rfl (by simp only[rU,hS,uo]) rfl ok
theorem HQ{S:List SO}{o:Nat}{l:List (List Nat×Int)}{bs:List Nat}{c:Nat}(s:List Nat)(u:Int)(hS:S[o]?=some (uo l bs c))(hh:dh s l=true):e7 Tryz.prog S 87 (.map o) (.a (.str s)) (aa u)=some (S.set o (uo (dk s u l) bs c)):=by
 have hm:di Tryz.prog 87=some (9,3):=by simp only[aw]
 have hk:=fa;unfold e7;rw[hm,bind_some];simp only;rw[show cH (.a (.str s))=some (.str s) from rfl,bind_some,hk.ck,ah,hS];simp only[uo];rw[nu hk,bind_some]
 cases hp:rm s l 0 with
 | none=>
  have hn:=lK hp;rw[hn] at hh;cases hh
 | some i=>
  obtain⟨_,u',h2,_,h4,_⟩:=j9 hp;rw[sub_zero] at h2;have h4:=h4 u;rw[sub_zero] at h4;simp only[getElem?_map,h2,map_some,bind_some,hk.st,ah,h4,List.map_set]
theorem Nl{l:List (List Nat×Int)}{j:Nat}{e:List Nat×Int}(hn:(l.map (·.1)).Nodup)(he:l[j]?=some e):getM 0 e.1 l=e.2/\(∀v,dk e.1 v l=l.set j (e.1,v))/\dh e.1 l=true:=by
 cases hp:rm e.1 l 0 with
 | none=>
  have h1:=lK hp;simp only[dh,List.any_eq_false,decide_eq_true_eq] at h1;exact absurd rfl (h1 e (mem_of_getElem? he))
 | some i=>
  obtain⟨_,u,h2,h3,h4,h5⟩:=j9 hp;rw[sub_zero] at h2 h4
  have hij:i=j:=by
   refine(List.getElem?_inj (l:=l.map (·.1)) (by rw[length_map];exact bl h2) hn).1 ?_;simp only[getElem?_map,h2,he,map_some]
  subst hij;rw[he] at h2;have hu:e.2=u:=congrArg Prod.snd (Option.some.inj h2);exact⟨by rw[hu];exact h3 0,h4,h5⟩
theorem AE:∀(bs:List (List (List Nat×Int))) (o:List (List Nat×Int)),(bs.foldl lz o).map (·.1)=o.map (·.1)
 | [],o=>rfl
 | b::bs,o=>by rw[foldl_cons,AE bs,Kb]
set_option maxHeartbeats 2000000 in
theorem FG(b0:List (List Nat×Int))(bs:List (List (List Nat×Int)))(hlen:bs.length<=100000)(hnd:(b0.map (·.1)).Nodup):PC Tryz.prog 26 [an 1 (b0::bs) dn] (·=qG AV.str aa (gC (b0::bs))):=by
 refine pB 35 Tryz.func26 ?_;have h0:0<(b0::bs).length:=Nat.zero_lt_succ _;have hat:=aH (e:=1) (enc:=dn) (λ_=>rfl) (show(b0::bs)[0]?=some b0 from rfl);rw[Nat.zero_mul] at hat;refine zV ?_;refine gl (n4 h0 hat @Nat.zero_mul @dn.eq_1) ?_;have hrg:∀(r:Nat->Nat) (L:List (List Nat×Int)),jM r (L.map λe=>aa e.2)=L.map λe=>aa e.2:=λr L=>aZ (iL (uv:=aa) (λ_=>rfl) L);have hbg:∀(B:Nat) (L:List (List Nat×Int)),fc B (L.map λe=>aa e.2)=true:=λB L=>bu (iL (uv:=aa) (λ_=>rfl) L);refine zS [] (n3 @bO.eq_1 hrg hbg) (Cy b0) ?_;refine zR ?_;have hn1:1<=(b0::bs).length:=h0;refine aE (n2 hn1 @mul_one) ?_;have hfa:=cu (enc:=dn) (e:=1) (λ_=>rfl) bs;rw[mul_one] at hfa
 have e12:SV.sl ((b0::bs).length-1) 1 (List.take ((b0::bs).length-1) (List.drop 1 ((b0::bs).flatMap dn)))=.sl bs.length 1 (bs.flatMap dn):=by
  show SV.sl bs.length 1 (List.take bs.length (bs.flatMap dn))=_;rw[hfa]
 refine ai.fg (st':=⟨[(3,.map 0),(12,an 1 bs dn),(13,aa bs.length),(14,aa 0)],35,[bO AV.str aa b0],[]⟩) (cI (n2 @bO.eq_1 e12)) ?_
 have hlen6:bs.length<=1000000:=by omega
 refine zs ?_;refine zL bs (λk=>True) (λk=>[(3,.map 0),(12,an 1 bs dn),(13,aa bs.length),(14,aa k)]) (λk=>[bO AV.str aa ((bs.take k).foldl lz b0)]) (Fg.less (by (simp only[bx,aX,cw,↓reduceIte,reduceEqDiff,an,bO,take_zero,foldl_nil])<;>(repeat' apply And.intro)<;>first | rfl | trivial) (by (simp only[bx,aX,or_true,true_or,an,bO,take_zero,foldl_nil])<;>(repeat' apply And.intro)<;>first | exact .inr rfl | exact .inl rfl | trivial)) zp ?_;intro k hk hall;refine zV ?_;by_cases hlt:k<bs.length;rotate_left;obtain rfl:k=bs.length:=(by omega);rw[zf];rotate_left;rw[zt hlt];obtain⟨b,hx⟩:=zx hlt;rotate_left
 ·refine zN ?_;refine ai.exit ?_;rw[take_length];refine zV ?_;refine zE ?_;exact zO [.tmp 2] (r:=qG AV.str aa (bs.foldl lz b0)) (hw:=by exact tC (λ_=>rfl) rfl)
 have hst:(bs.take (k+1)).foldl lz b0=lz ((bs.take k).foldl lz b0) b:=by rw[bo hx,foldl_append];rfl
 have hok:(((bs.take k).foldl lz b0).map (·.1)).Nodup:=by rw[AE];exact hnd
 generalize (bs.take k).foldl lz b0=o at hst hok;refine zY ?_
 (repeat refine ai.seq ?_)
 refine ai.block ?_;refine aE (n3 hlt (aH (e:=1) (enc:=dn) (λ_=>rfl) hx) @dn.eq_1) ?_;refine zC ?_;refine aM.Rh (oo:=0) (ks:=o.map λe=>.str e.1) (vs:=o.map λe=>aa e.2) (b:=none) (by rfl) rfl rfl (by rfl) rfl rfl (by simp only[aw]) ?_;intro bb c hbb;rw[length_map] at hbb;change aM _ _ _ _ ⟨_,_,gi [uo o bb c] _,_⟩ _;refine cS @J2 ?_
 (repeat refine ai.seq ?_)
 refine ai.block (ai.loop (λm st=>∃pos:List Nat,pos.Nodup/\(∀j∈pos,j<o.length)/\o.length-pos.length=m/\st=⟨[(3,.map 0),(5,qG AV.str aa b),(12,an 1 bs dn),(13,aa bs.length),(14,aa k),(19,.ptr 1 0)],35,[uo (ou o b pos) bb c,.iter (.map 0) bb c pos],[]⟩) o.length (cI @L5) ⟨[],List.nodup_nil,λj hj=>by simp at hj,rfl,rfl⟩ (by rintro m st ⟨pos,_,_,_,rfl⟩;rfl) ?_);rintro m st ⟨pos,hpn,hpl,rfl,rfl⟩;refine zC ?_;refine aM.Rc (ks:=(ou o b pos).map λe=>.str e.1) (vs:=(ou o b pos).map λe=>aa e.2) (by rfl) rfl rfl (by rfl) rfl rfl rfl (λj hj=>by rw[length_map,sA];exact hpl j hj) ?_ ?_
 ·intro hal;refine zR ?_;refine zN ?_;refine ai.exit ?_;have hmin:ou o b pos=lz o b:=L4 λj hj=>hal j (by rw[length_map,sA];exact hj);rw[hmin];refine ai.fg (Fg.trans (Fg.M4 (S:=[uo (lz o b) bb c,.iter (.map 0) bb c pos]) (ks:=(lz o b).map λe=>.str e.1) (vs:=(lz o b).map λe=>aa e.2) (b:=some (bb,c)) 0 rfl) (b:=_) (c:=⟨[(3,.map 0),(12,an 1 bs dn),(13,aa bs.length),(14,aa k)],35,[bO AV.str aa (lz o b)],[]⟩) (cI @bO.eq_1)) ?_
  (try change ai _ _ _ _ _)
  refine aE (zi hlt hlen6) ?_;refine zX hlt (cI hst) trivial
 ·intro j hj hjn;rw[length_map,sA] at hj;obtain⟨e,he⟩:∃e,o[j]?=some e:=⟨o[j],List.getElem?_eq_getElem hj⟩;obtain⟨q1,q2,q3⟩:=sN hpn hpl hj hjn
  have hme:(ou o b pos)[j]?=some e:=by rw[nE,he];simp[hjn]
  obtain⟨l1,l2,l3⟩:=Nl (by rw[Kc];exact hok) hme
  have hsn:ou o b (pos++[j])=dk e.1 (dR e.2 (getM 0 e.1 b)) (ou o b pos):=by rw[Ke he,l2];rfl
  refine zR ?_;refine zY ?_
  (repeat refine ai.seq ?_)
  refine ai.block ?_;refine zC ?_;refine aM.Q8 (ks:=(ou o b pos).map λe=>.str e.1) (vs:=(ou o b pos).map λe=>aa e.2) (k:=.str e.1) (v:=aa e.2) (by rfl) rfl rfl (by rfl) rfl rfl rfl (by rw[getElem?_map,hme];rfl) (by rw[getElem?_map,hme];rfl) ?_;refine zR ?_;have hlk:=FI (S:=[uo (ou o b pos) bb c,.iter (.map 0) bb c (pos++[j])]) (o:=0) e.1 false rfl;have hpt:=HQ (S:=[uo (ou o b pos) bb c,.iter (.map 0) bb c (pos++[j])]) (o:=0) e.1 (dR e.2 (getM 0 e.1 b)) rfl l3;rw[l1] at hlk;refine zs ?_;refine ai.r0 (by rfl) (by simp only[bx,aX,an,aw,bind_some,map_some,↓reduceIte,reduceEqDiff,reduceAdd,reduceMul,reduceLeDiff,reduceLT,ah,ao,aP,hlk,gK (l:=b),gQ,hpt];first | done | rfl) ?_;exact⟨o.length-(pos++[j]).length,_,by rw[length_append];simp only[List.length_cons,length_nil];omega,(cI hsn),pos++[j],q1,q2,rfl,rfl⟩
def sG(ss:List Sh)(party:List Nat):Int:=match ss.find? λs=>decide (s.pt=party) with
 | some s=>s.am
 | none=>0
theorem jO.of{ml:List (List Nat×Int)}{ss:List Sh}(h:jO ml ss)(k:List Nat):sG ss k=if 0<getM 0 k ml then getM 0 k ml else 0:=by
 obtain⟨ks,hp,_,rfl⟩:=h.ex;unfold sG
 cases hf:(tb ml ks).find? (λs=>decide (s.pt=k)) with
 | some s=>
  have h1:=List.find?_some hf;have h2:=List.mem_of_find?_eq_some hf;unfold tb at h2;obtain⟨k',hk',rfl⟩:=mem_map.1 h2;obtain⟨_,hpos⟩:=mem_filter.1 hk'
  have:k'=k:=by simpa using h1
  subst this;rw[if_pos (by simpa using hpos)]
 | none=>
  rw[List.find?_eq_none] at hf;by_cases hpos:0<getM 0 k ml
  ·have hh:dh k ml=true:=by
    cases hh:dh k ml
    ·rw[sf (u0:=(0:Int)) hh] at hpos;exact absurd hpos (by decide)
    ·rfl
   have hk:k∈ks:=hp.mem_iff.2 (sh.1 hh);have:=hf ⟨k,getM 0 k ml⟩ (mem_map.2 ⟨k,mem_filter.2 ⟨hk,by simpa using hpos⟩,rfl⟩);simp at this
  ·rw[if_neg hpos]
theorem jO.QC{ml:List (List Nat×Int)}{ss:List Sh}(hn:(ml.map (·.1)).Nodup)(h:jO ml ss):ss.Pairwise λa b=>gk a.pt b.pt=true:=by
 obtain⟨ks,hp,hs,rfl⟩:=h.ex;have hkn:ks.Nodup:=hp.nodup_iff.2 hn
 have hst:ks.Pairwise λa b=>gk a b=true:=by
  have:=List.Pairwise.and hs hkn;refine this.imp λ{a b} ⟨h1,h2⟩=>?_
  rcases oq a b with h | h | h
  ·exact h
  ·exact absurd h h2
  ·rw[h1] at h;cases h
 unfold tb;rw[List.pairwise_map];exact hst.sublist List.filter_sublist
theorem jO.mem{ml:List (List Nat×Int)}{ss:List Sh}(h:jO ml ss)(s:Sh):s∈ss↔s.pt∈ml.map (·.1)/\0<getM 0 s.pt ml/\s.am=getM 0 s.pt ml:=by
 obtain⟨ks,hp,_,rfl⟩:=h.ex;unfold tb;rw[mem_map];constructor
 ·rintro⟨k,hk,rfl⟩;obtain⟨h1,h2⟩:=mem_filter.1 hk;exact⟨hp.mem_iff.1 h1,by simpa using h2,rfl⟩
 ·rintro⟨h1,h2,h3⟩;exact⟨s.pt,mem_filter.2 ⟨hp.mem_iff.2 h1,by simpa using h2⟩,by cases s;simp only at h3 ⊢;rw[h3]⟩
theorem jO.one{k:List Nat}{n:Int}{ss:List Sh}(h0:0<=n)(h:jO [(k,n)] ss):(ss.map Sh.am).sum=n/\ss.length<=2/\sG ss k=n:=by
 obtain⟨ks,hp,_,rfl⟩:=h.ex;have hks:ks=[k]:=List.perm_singleton.1 hp;subst hks
 have hg:getM (0:Int) k [(k,n)]=n:=by simp[getM]
 refine⟨?_,?_,?_⟩
 ·unfold tb;by_cases hpos:0<n
  ·simp[hg,hpos]
  ·simp[hg,hpos];omega
 ·exact le_trans (Cu _ _) (by simp)
 ·rw[h.of,hg];split<;>omega
theorem jO.two{k l:List Nat}{n m:Int}{ss:List Sh}(hne:k≠l)(h0:0<=n)(h1:0<=m)(h:jO [(k,n),(l,m)] ss):(ss.map Sh.am).sum=n+m/\ss.length<=2/\sG ss l=m:=by
 have hgk:getM (0:Int) k [(k,n),(l,m)]=n:=by simp[getM]
 have hgl:getM (0:Int) l [(k,n),(l,m)]=m:=by simp[getM,Ne.symm hne]
 have hof:=h.of l;obtain⟨ks,hp,_,rfl⟩:=h.ex;have hp:ks.Perm [k,l]:=hp;have hlen:ks.length=2:=hp.length_eq;refine⟨?_,?_,?_⟩
 ·have hcase:ks=[k,l]\/ks=[l,k]:=by
   match ks,hlen with
   | [a,b],_=>
    have ha:a∈[k,l]:=hp.mem_iff.1 (by simp);have hb:b∈[k,l]:=hp.mem_iff.1 (by simp);have hnd:[a,b].Nodup:=hp.nodup_iff.2 (by simp[hne]);simp only[List.mem_cons,List.not_mem_nil,or_false] at ha hb;simp only[List.nodup_cons,List.mem_singleton] at hnd
    rcases ha with rfl | rfl<;>rcases hb with rfl | rfl
    ·exact absurd rfl hnd.1
    ·exact .inl rfl
    ·exact .inr rfl
    ·exact absurd rfl hnd.1
  rcases hcase with rfl | rfl<;>unfold tb<;>by_cases p1:0<n<;>by_cases p2:0<m<;>simp[hgk,hgl,p1,p2]<;>omega
 ·exact le_trans (Cu _ _) (by omega)
 ·rw[hof,hgl];split<;>omega
theorem mM{ws:List Wy}{c:Co}(h:ej ws c=true):(∀w∈ws,w.ok=true)/\c.ok=true:=by
 unfold ej at h;rw[Bool.and_eq_true,List.all_eq_true] at h;exact h
theorem K7{c:Co}(h:c.ok=true):0<=c.am/\c.am<=1000000000000:=by
 unfold Co.ok B0 at h;simp only[Bool.and_eq_true,decide_eq_true_eq] at h;omega
theorem JD{ws:List Wy}{p:Pt}{c:Co}(hr:ej ws c=true):
 (nT ws (some p) c=[(c.owner,c.am)]/\(ws.find? (lh p c)=none\/∃w,ws.find? (lh p c)=some w/\w.cK=c.owner))\/
 ∃w,ws.find? (lh p c)=some w/\w.cK≠c.owner/\nT ws (some p) c=[(c.owner,c.am-oT c.am w.uz),(w.cK,oT c.am w.uz)]/\0<=oT c.am w.uz/\oT c.am w.uz<=c.am:=by
 obtain⟨hws,hc⟩:=mM hr
 cases hf:ws.find? (lh p c) with
 | none=>exact .inl ⟨by simp only[nT,hf],.inl rfl⟩
 | some w=>
  obtain⟨_,hamr,hpr⟩:=A6 (hws w (List.mem_of_find?_eq_some hf)) hc;obtain⟨hn0,hn1⟩:=I3 hamr hpr;by_cases hm:w.cK=c.owner
  ·refine .inl ⟨?_,.inr ⟨w,rfl,hm⟩⟩;simp only[nT,hf,hm,dk,getM,if_true]
   have:c.am-oT c.am w.uz+oT c.am w.uz=c.am:=by omega
   rw[this]
  ·refine .inr ⟨w,rfl,hm,?_,hn0,hn1⟩;simp[nT,hf,dk,getM,hm]
abbrev wA:=List (List Nat×Nat)
theorem pT{S:List SO}{o:Nat}{l:wA}(s:List Nat)(ok:Bool)(hS:S[o]?=some (bO AV.str bX l)):eN Tryz.prog S 86 (.map o) (.a (.str s)) ok=some (cond ok (.bI [bX (getM 0 s l),aA (dh s l)]) (bX (getM 0 s l))):=
 AU (uv:=bX) (u0:=0) (k:=s) (kt:=9) (et:=3) (z:=.int .i64 0) (by simp only[aw]) fa (by simp only[aw]) rfl hS rfl ok
theorem HT{S:List SO}{o:Nat}{l:wA}(s:List Nat)(u:Nat)(hS:S[o]?=some (bO AV.str bX l)):e7 Tryz.prog S 86 (.map o) (.a (.str s)) (.a (.int .i64 (u:Int)))=some (S.set o (bO AV.str bX (dk s u l))):=
 EW (uv:=bX) (kt:=9) (et:=3) (by simp only[aw]) fa hS rfl u
theorem jx{n:Nat}{l:wA}:bP n (bO AV.str bX l)=bO AV.str bX l:=lH λ_=>ko _
def mK(i:Nat)(st:List Nat×wA)(part:List Nat):List Nat×wA:=
 if dh part st.2=true then (xE st.1 (getM 0 part st.2) i,st.2) else (st.1,dk part i st.2)
def AR(st:List Nat×wA)(r:bq):List Nat×wA:=(pI r).foldl (mK st.1.length) (st.1++[st.1.length],st.2)
def ei(l:List bq):List Nat×wA:=l.foldl AR ([],[])
structure kS (n:Nat) (st:List Nat×wA):Prop where
 f:gZ st.1
 l:st.1.length=n
 m:∀part,dh part st.2=true->getM 0 part st.2<n
theorem kS.part{n i:Nat}{st:List Nat×wA}(h:kS n st)(hi:i<n)(part:List Nat):kS n (mK i st part):=by
 unfold mK;split
 ·rename_i hh;obtain⟨a,b⟩:=NM h.f (i:=getM 0 part st.2) (k:=i) (by rw[h.l];exact h.m part hh) (by rw[h.l];exact hi);exact⟨a,b.trans h.l,h.m⟩
 ·refine⟨h.f,h.l,λq hq=>?_⟩;rw[pw];rw[xw] at hq;split
  ·exact hi
  ·rename_i hne;refine h.m q ?_;simpa [hne] using hq
theorem kS.parts{n i:Nat}(hi:i<n):∀(ps:List (List Nat)) {st:List Nat×wA},kS n st->kS n (ps.foldl (mK i) st)
 | [],_,h=>h
 | p::ps,_,h=>kS.parts hi ps (h.part hi p)
theorem kS.new{n:Nat}{st:List Nat×wA}(h:kS n st):kS (n+1) (st.1++[st.1.length],st.2):=by
 refine⟨?_,by simp[h.l],λq hq=>Nat.lt_succ_of_lt (h.m q hq)⟩;intro j x hx;rw[List.getElem?_append] at hx;split at hx
 ·exact h.f j x hx
 ·rename_i hj
  cases hjj:j-st.1.length with
  | zero=>rw[hjj] at hx;simp at hx;omega
  | succ q=>rw[hjj] at hx;simp at hx
theorem kS.rep{n:Nat}{st:List Nat×wA}(h:kS n st)(r:bq):kS (n+1) (AR st r):=by
 unfold AR;exact kS.parts (by rw[h.l];omega) _ h.new
theorem kS.oU:∀(l:List bq) {n:Nat} {st:List Nat×wA},kS n st->kS (n+l.length) (l.foldl AR st)
 | [],_,_,h=>h
 | r::l,n,st,h=>by
  have:=kS.oU l (h.rep r);rw[List.length_cons,show n+(l.length+1)=n+1+l.length by omega];exact this
theorem qj(l:List bq):kS l.length (ei l):=by
 have:=kS.oU l (n:=0) (st:=([],[])) ⟨λj x hx=>by simp at hx,rfl,λq hq=>by simp[dh] at hq⟩
 rwa [Nat.zero_add] at this
theorem JL(l:List (List Nat)):(eL l).length<=l.length:=by
 have:∀n (l:List (List Nat)),l.length=n->(eL l).length<=l.length:=by
  intro n
  induction n with
  | zero=>intro l h;rw[length_eq_zero_iff.1 h];exact le_refl _
  | succ n ih=>
   intro l h
   rcases List.eq_nil_or_concat l with rfl | ⟨a,x,rfl⟩
   ·exact le_refl _
   ·have ha:a.length=n:=by simpa using h
    have:=ih a ha;rw[List.concat_eq_append,q0];split<;>simp<;>omega
 exact this _ l rfl
theorem G4(r:bq):(pI r).length<=2*r.opts.length:=by
 unfold pI Ks;split
 ·simp
 ·have h1:=JL (dG (r.opts.map cA).flatten);have h2:(dG (r.opts.map cA).flatten).length=(r.opts.map cA).flatten.length:=(pR _).length_eq;have h3:=BU 0 r.opts;omega
def P4(st:List Nat×wA):List SO:=bO AV.str bX st.2::(if st.1=[] then [] else [.gone,.cells (st.1.flatMap (az bX))])
theorem sv(m:wA):P4 ([],m)=[bO AV.str bX m]:=rfl
theorem Eh{f:List Nat}{m:wA}(h:¬f=[]):P4 (f,m)=[bO AV.str bX m,.gone,.cells (f.flatMap (az bX))]:=by unfold P4;rw[if_neg h]
set_option maxHeartbeats 1000000 in
theorem FH(l:List bq)(hl:∀r∈l,ea r)(hl2:∀r∈l,r.opts.length<=400000)(hlen:l.length<=1000000):
 SC Tryz.prog 28 [an 2 l aD] [] [] (λr S'=>r=.bI [bm 2 1 l.length,.map 0]/\S'=P4 (ei l)):=by
 refine Jl 49 Tryz.func28 ?_;refine kQ ?_;refine kQ ?_;refine zs ?_;refine zL l (λk=>True) (λk=>[(0,an 2 l aD),(4,bm 2 1 k),(5,.map 0),(13,aa l.length),(14,aa k)]) (λk=>P4 (ei (l.take k))) (Fg.less (by (simp only[bx,aX,cw,↓reduceIte,reduceEqDiff,an,take_zero,dy,ei,foldl_nil,sv,bO,map_nil])<;>(repeat' apply And.intro)<;>first | rfl | trivial) (by (simp only[bx,aX,or_true,true_or,an,take_zero,dy,ei,foldl_nil,sv,bO,map_nil])<;>(repeat' apply And.intro)<;>first | exact .inr rfl | exact .inl rfl | trivial)) zp ?_;intro k hk hall;refine zV ?_;by_cases hlt:k<l.length;rotate_left;obtain rfl:k=l.length:=(by omega);rw[zf];rotate_left;rw[zt hlt];obtain⟨r,hx⟩:=zx hlt;rotate_left
 ·refine zN ?_;refine ai.exit ?_;rw[take_length];have hok:=qj l;obtain⟨f,m,hfm⟩:∃f m,ei l=(f,m):=⟨_,_,rfl⟩;rw[hfm] at hok ⊢;by_cases h0:f=[]
  ·have h1:l.length=0:=by rw[<-hok.l,h0];rfl
   rw[h0,sv,show bm 2 1 l.length=cC by rw[h1];rfl];refine zV ?_;refine zE ?_;exact zP [.tmp 2,.tmp 3]
  ·have h1:¬l.length=0:=by rw[<-hok.l];exact λh=>h0 (length_eq_zero_iff.1 h)
   rw[Eh h0,bV h1];refine zV ?_;refine zE ?_;exact zP [.tmp 2,.tmp 3]
 have hrk:ea r:=hl r (mem_of_getElem? hx);have hr2:=hl2 r (mem_of_getElem? hx)
 have hok:kS k (ei (l.take k)):=by
  have:=qj (l.take k);rwa [List.length_take,Nat.min_eq_left hk] at this
 have hnext:ei (l.take (k+1))=AR (ei (l.take k)) r:=by
  unfold ei;rw[bo hx,foldl_append];rfl
 obtain⟨f,mm,hfm⟩:∃f mm,ei (l.take k)=(f,mm):=⟨_,_,rfl⟩;rw[hfm] at hok hnext ⊢;have hfl:f.length=k:=hok.l;refine zY ?_
 (repeat refine ai.seq ?_)
 refine ai.block ?_;have happ:=dO (enc:=az bX) (e:=1) (λ_=>rfl) (λ_=>rfl) 2 f k;rw[hfl,show az bX k=[bX k] from rfl,mul_one] at happ
 have hcl:(f.flatMap (az bX)).length=k:=by rw[ox,hfl]
 refine zV ?_
 (repeat refine ai.seq ?_)
 refine ai.mono (Q:=λe st=>e=.normal/\Fg st ⟨[(0,an 2 l aD),(4,.buf 2 (k+1) 1 none),(5,.map 0),(6,bX k),(13,aa l.length),(14,aa k)],49,[bO AV.str bX mm,.gone,.cells ((f++[k]).flatMap (az bX))],[]⟩) ?_ ?_
 ·by_cases h0:f=[]
  ·have hk0:k=0:=by rw[<-hfl,h0];rfl
   rw[h0,sv,show bm 2 1 k=cC by rw[hk0];rfl];refine aE @jx ?_;refine⟨rfl,(Fg.less (nM (n6 h0 @nil_append.{0} @List.flatMap_cons.{0,0} @List.flatMap_nil.{0,0} @az.eq_1 hk0)) (nN (n6 h0 @nil_append.{0} @List.flatMap_cons.{0,0} @List.flatMap_nil.{0,0} @az.eq_1 hk0)))⟩
  ·have h1:¬k=0:=λh=>h0 (length_eq_zero_iff.1 (by rw[hfl,h]));rw[Eh h0,bV h1];refine aE (n7 @jx @gB hcl happ @mul_one @le_refl (show k<=1000000 by omega)) ?_;refine⟨rfl,zH⟩
 rintro e st ⟨rfl,hfg⟩;refine ai.fg hfg ?_;clear hfg
 (try change ai _ _ _ _ _)
 refine gl (n3 hlt (aH (e:=2) (enc:=aD) (λ_=>rfl) hx) @aD.eq_1) ?_;refine zK (HN r hrk hr2) ?_ (hfl:=.inr (bn.refl rfl))
 have hst0:kS (k+1) (f++[k],mm):=by
  have:=hok.new;rw[hfl] at this;exact this
 have hnext2:ei (l.take (k+1))=(pI r).foldl (mK k) (f++[k],mm):=by
  rw[hnext,AR];simp only;rw[hfl]
 have hns:=G4 r;generalize pI r=ns at hnext2 hns
 have hnsl:ns.length<=1000000:=by omega
 refine zR ?_;have hinv:∀j,kS (k+1) ((ns.take j).foldl (mK k) (f++[k],mm)):=λj=>kS.parts (by omega) _ hst0;refine zs ?_;refine zL ns (λk2=>True) (λk2=>[(0,an 2 l aD),(4,.buf 2 (k+1) 1 none),(5,.map 0),(6,bX k),(13,aa l.length),(14,aa k),(25,an 1 ns (az ak)),(26,aa ns.length),(27,aa k2)]) (λk2=>[bO AV.str bX ((ns.take k2).foldl (mK k) (f++[k],mm)).2,.gone,.cells (((ns.take k2).foldl (mK k) (f++[k],mm)).1.flatMap (az bX))]) (Fg.less (by (simp only[bx,aX,cw,↓reduceIte,reduceEqDiff,an,take_zero,foldl_nil])<;>(repeat' apply And.intro)<;>first | rfl | trivial) (by (simp only[bx,aX,or_true,true_or,an,take_zero,foldl_nil])<;>(repeat' apply And.intro)<;>first | exact .inr rfl | exact .inl rfl | trivial)) zp ?_;intro k2 hk2 hall2;refine zV ?_;by_cases hlt2:k2<ns.length;rotate_left;obtain rfl:k2=ns.length:=(by omega);rw[zf];rotate_left;rw[zt hlt2];obtain⟨part,hx2⟩:=zx hlt2;rotate_left
 ·refine zN ?_;refine ai.exit ?_;rw[take_length,<-hnext2]
  have hok3:kS (k+1) (ei (l.take (k+1))):=by rw[hnext2];have:=hinv ns.length;rwa [take_length] at this
  obtain⟨g,m3,hg⟩:∃g m3,ei (l.take (k+1))=(g,m3):=⟨_,_,rfl⟩;rw[hg] at hok3 ⊢
  have hg0:¬g=[]:=λh=>by have:=hok3.l;rw[h] at this;simp at this
  refine zs ?_;refine ai.r0 (by rfl) (gY (nh (dX hlt hlen (by decide)))) ?_;refine⟨l.length-(k+1),_,by omega,(Fg.less (by (simp only[bx,aX,cw,↓reduceIte,reduceEqDiff,an,hg,Eh hg0,Ca])<;>(repeat' apply And.intro)<;>first | rfl | trivial) (by (simp only[bx,aX,or_true,true_or,an,hg,Eh hg0,Ca])<;>(repeat' apply And.intro)<;>first | exact .inr rfl | exact .inl rfl | trivial)),k+1,by omega,rfl,trivial,rfl⟩
 have hq1:(ns.take (k2+1)).foldl (mK k) (f++[k],mm)=mK k ((ns.take k2).foldl (mK k) (f++[k],mm)) part:=by
  rw[bo hx2,foldl_append];rfl
 have hok2:=hinv k2;obtain⟨g,m2,hg⟩:∃g m2,(ns.take k2).foldl (mK k) (f++[k],mm)=(g,m2):=⟨_,_,rfl⟩;rw[hg] at hok2 hq1 ⊢;have hgl:g.length=k+1:=hok2.l;refine zY ?_
 (repeat refine ai.seq ?_)
 refine ai.block ?_;refine aE (n3 hlt2 (aH (e:=1) (enc:=az ak) (λ_=>rfl) hx2) @az.eq_1) ?_;refine zs ?_;refine ai.r0 (by rfl) (by simp only[bx,aX,an,aw,bind_some,map_some,↓reduceIte,reduceEqDiff,reduceAdd,reduceMul,reduceLeDiff,reduceLT,ah,ao,aP,pT (l:=m2)];first | done | rfl) ?_;refine zV ?_;cases h1:dh part m2
 ·refine zN ?_;refine zs ?_;refine ai.r0 (by rfl) (by simp only[bx,aX,an,aw,bind_some,map_some,↓reduceIte,reduceEqDiff,reduceAdd,reduceMul,reduceLeDiff,reduceLT,ah,ao,aP,HT (l:=m2)];first | done | rfl) ?_;rw[mK,if_neg (by simp only;rw[h1];decide)] at hq1;refine aE (zi hlt2 hnsl) ?_;refine zX hlt2 (cI hq1) trivial
 ·refine zY ?_;have hp:=hok2.m part h1;have hj:=KH g (getM 0 part m2) k hok2.f (by rw[hgl];exact hp) (by omega) (by omega);rw[hgl] at hj;refine zC ?_;refine zS [2] (n4 @pP @mA @gB @jx) hj ?_;refine zR ?_;rw[mK,if_pos (by simp only;exact h1)] at hq1;refine aE (zi hlt2 hnsl) ?_;refine zX hlt2 (cI hq1) trivial
def Ce(k:Nat)(st:List Nat×List Nat)(i:Nat):List Nat×List Nat:=
 ((gd (gd st.1 i).2 k).2,if (gd st.1 i).1=(gd (gd st.1 i).2 k).1 then st.2++[i] else st.2)
def lf(k:Nat)(f:List Nat)(n:Nat):List Nat×List Nat:=(List.range n).foldl (Ce k) (f,[])
def lW(l:List bq)(part:List Nat):List Nat:=
 if dh part (ei l).2=true then (lf (getM 0 part (ei l).2) (ei l).1 l.length).2 else []
theorem IN(k:Nat)(f:List Nat)(n:Nat):lf k f (n+1)=Ce k (lf k f n) n:=by
 unfold lf;rw[List.range_succ,foldl_append];rfl
theorem xY{k:Nat}{f:List Nat}(hf:gZ f)(hk:k<f.length):∀n,n<=f.length->gZ (lf k f n).1/\(lf k f n).1.length=f.length/\(lf k f n).2.length<=n/\∀i∈(lf k f n).2,i<n
 | 0,_=>⟨hf,rfl,le_refl _,λi hi=>by simp[lf] at hi⟩
 | n+1,hn=>by
  obtain⟨a1,a2,a3,a4⟩:=xY hf hk n (by omega);rw[IN,Ce];obtain⟨b1,b2,_⟩:=oB (i:=n) a1 (by omega);obtain⟨c1,c2,_⟩:=oB (i:=k) b1 (by omega);refine⟨c1,by rw[c2,b2,a2],?_,?_⟩
  ·simp only;split
   ·rw[length_append,List.length_singleton];omega
   ·omega
  ·intro i hi;simp only at hi;split at hi
   ·rcases List.mem_append.1 hi with h | h
    ·have:=a4 i h;omega
    ·have:=List.mem_singleton.1 h;omega
   ·have:=a4 i hi;omega
def PN(m:wA)(st:List Nat×List Nat):List SO:=bO AV.str bX m::.gone::.cells (st.1.flatMap (az bX))::(if st.2=[] then [] else [.gone,.cells (st.2.flatMap (az bX))])
theorem sF(m:wA)(f:List Nat):PN m (f,[])=[bO AV.str bX m,.gone,.cells (f.flatMap (az bX))]:=rfl
theorem Ez{m:wA}{f o:List Nat}(h:¬o=[]):PN m (f,o)=[bO AV.str bX m,.gone,.cells (f.flatMap (az bX)),.gone,.cells (o.flatMap (az bX))]:=by unfold PN;rw[if_neg h]
theorem NX(l:List Nat):(l.flatMap (az bX)).take (l.length*1)=l.flatMap (az bX):=cu (enc:=az bX) (λ_=>rfl) l
theorem LH(l:wA):cr (l.map λe=>bX e.2)=true:=iL (λ_=>rfl) l
theorem Ba{r:Nat->Nat}{l:wA}:nO r (bO AV.str bX l)=bO AV.str bX l:=by
 unfold bO;rw[E3,aZ (LH l)]
theorem tL{B:Nat}{l:wA}:kD B (bO AV.str bX l)=true:=by
 unfold bO;rw[kD];exact bu (LH l)
set_option maxHeartbeats 1000000 in
theorem Bp(l:List bq)(part:List Nat)(hl:∀r∈l,ea r)(hl2:∀r∈l,r.opts.length<=400000)(hlen:l.length<=1000000):
 PC Tryz.prog 7 [an 2 l aD,ak part] (·=an 1 (lW l part) (az bX)):=by
 refine pB 42 Tryz.func7 ?_;have hL:=FH l hl hl2 hlen;have hok:=qj l;obtain⟨f,mm,hfm⟩:∃f mm,ei l=(f,mm):=⟨_,_,rfl⟩
 have hO:lW l part=if dh part mm=true then (lf (getM 0 part mm) f l.length).2 else []:=by unfold lW;rw[hfm]
 rw[hfm] at hL hok;have hfl:f.length=l.length:=hok.l;refine ki ?_;by_cases h0:f=[]
 ·have hk0:l.length=0:=by rw[<-hfl,h0];rfl
  have h1:dh part mm=false:=by
   cases h:dh part mm with
   | false=>rfl
   | true=>
    have:=hok.m part h;omega
  rw[h1] at hO;rw[h0,sv,show bm 2 1 l.length=cC by rw[hk0];rfl] at hL;refine zS [] (n3 @Ba @tL @jx) hL ?_;refine zR ?_;refine zs ?_;refine ai.r0 (by rfl) (by simp only[bx,aX,an,aw,bind_some,map_some,↓reduceIte,reduceEqDiff,reduceAdd,reduceMul,reduceLeDiff,reduceLT,ah,ao,aP,pT (l:=mm)];first | done | rfl) ?_;refine aE h1 ?_;refine cE ?_;refine zE ?_;exact zO [.tmp 4] (r:=.sl 0 1 []) (hw:=by exact Wk.nil _) (hq:=by (try simp only[aC,ab]);first | done | (rw[hO];rfl))
 have hk0:¬l.length=0:=by rw[<-hfl];exact λh=>h0 (length_eq_zero_iff.1 h)
 rw[Eh h0,bV hk0] at hL;refine zS [] (n6 @Ba @tL @jx @pP @mA @gB) hL ?_;refine zR ?_;refine zs ?_;refine ai.r0 (by rfl) (by simp only[bx,aX,an,aw,bind_some,map_some,↓reduceIte,reduceEqDiff,reduceAdd,reduceMul,reduceLeDiff,reduceLT,ah,ao,aP,pT (l:=mm)];first | done | rfl) ?_;cases h1:dh part mm
 ·rw[h1] at hO;refine aE h1 ?_;refine cE ?_;refine zE ?_;exact zO [.tmp 4] (r:=.sl 0 1 []) (hw:=by exact Wk.nil _) (hq:=by (try simp only[aC,ab]);first | done | (rw[hO];rfl))
 rw[h1,if_pos rfl] at hO;have hkl:=hok.m part h1;generalize hkk:getM 0 part mm=kk at hO hkl;have hf0:gZ f:=hok.f;have hF:=xY (k:=kk) hf0 (by rw[hfl];exact hkl);refine aE h1 ?_;refine gX ?_;refine zV ?_;refine zs ?_;refine zL l (λk=>True) (λk=>[(5,.buf 2 l.length 1 none),(7,bX kk),(9,bm 4 1 (lf kk f k).2.length),(25,aa l.length),(26,aa k)]) (λk=>PN mm (lf kk f k)) (Fg.less (by (simp only[bx,aX,cw,↓reduceIte,reduceEqDiff,an,hkk,lf,List.range_zero,foldl_nil,dy,length_nil,sF])<;>(repeat' apply And.intro)<;>first | rfl | trivial) (by (simp only[bx,aX,or_true,true_or,an,hkk,lf,List.range_zero,foldl_nil,dy,length_nil,sF])<;>(repeat' apply And.intro)<;>first | exact .inr rfl | exact .inl rfl | trivial)) zp ?_;intro k hk hall;refine zV ?_;by_cases hlt:k<l.length;rotate_left;obtain rfl:k=l.length:=(by omega);rw[zf];rotate_left;rw[zt hlt];obtain⟨r,hx⟩:=zx hlt;rotate_left
 ·refine zN ?_;refine ai.exit ?_;obtain⟨a1,a2,a3,a4⟩:=hF l.length (by omega);obtain⟨g,o,hg⟩:∃g o,lf kk f l.length=(g,o):=⟨_,_,rfl⟩;rw[hg] at hO a3 ⊢;by_cases ho:o=[]
  ·subst ho;rw[sF,show bm 4 1 ([]:List Nat).length=cC from rfl];refine zV ?_;refine zE ?_;exact zO [.tmp 4] (r:=.sl 0 1 []) (hw:=by exact Wk.nil _) (hq:=by (try simp only[aC,ab]);first | done | (rw[hO];rfl))
  ·rw[Ez ho,bV (λh=>ho (length_eq_zero_iff.1 h))];refine zV ?_;refine zE ?_;exact zO [.tmp 4] (r:=an 1 o (az bX)) (hw:=by exact .buf rfl (by rw[NX];exact bn.refl (aB (λ_=>rfl) o)) (by rw[ox,mul_one];exact le_refl _)) (hq:=by (try simp only[aC,ab]);first | done | (rw[hO]))
 have hstep:=IN kk f k;obtain⟨a1,a2,a3,a4⟩:=hF k (by omega);obtain⟨g,o,hg⟩:∃g o,lf kk f k=(g,o):=⟨_,_,rfl⟩;rw[hg] at a1 a2 a3 hstep ⊢;have hgl:g.length=l.length:=a2.trans hfl;have hr1:=qz g k a1 (by rw[hgl];exact hlt) (by rw[hgl];exact hlen);have k1:=oB (i:=k) a1 (by rw[hgl];exact hlt);rw[Ce] at hstep;obtain⟨a,g1,hA⟩:∃a g1,gd g k=(a,g1):=⟨_,_,rfl⟩;simp only[hA] at hr1 k1 hstep;rw[hgl] at hr1;obtain⟨q1,q2,q3⟩:=k1;have hr2:=qz g1 kk q1 (by rw[q2,hgl];exact hkl) (by rw[q2,hgl];exact hlen);obtain⟨b,g2,hB⟩:∃b g2,gd g1 kk=(b,g2):=⟨_,_,rfl⟩;simp only[hB] at hr2 hstep;rw[q2,hgl] at hr2
 have hol:o.length<=1000000:=by
  have:o.length<=k:=a3;omega
 refine zY ?_
 (repeat refine ai.seq ?_)
 refine ai.block ?_;by_cases ho:o=[]
 ·subst ho;rw[sF,show bm 4 1 ([]:List Nat).length=cC from rfl];refine ki ?_;refine zS [2] (n6 @Ba @tL @jx @pP @mA @gB) hr1 ?_;refine zQ ?_;refine zS [2] (n6 @Ba @tL @jx @pP @mA @gB) hr2 ?_;by_cases hab:a=b
  ·rw[if_pos hab] at hstep;refine cS (show decide ((a:Int)=(b:Int))=true by simp;omega) ?_;refine zY ?_;refine aE (n2 @jx @gB) ?_;refine aE (zi hlt hlen) ?_;refine zX hlt (cI (n5 hkk hstep @nil_append.{0} (show PN mm (g2,[k])=[bO AV.str bX mm,.gone,.cells (g2.flatMap (az bX)),.gone,.cells [bX k]] from rfl) (show bm 4 1 [k].length=.buf 4 1 1 none from rfl))) trivial
  ·rw[if_neg hab] at hstep;refine cS (show decide ((a:Int)=(b:Int))=false by simp;omega) ?_;refine zN ?_;refine aE (zi hlt hlen) ?_;refine zX hlt (cI (n4 hkk hstep @sF (show bm 4 1 ([]:List Nat).length=cC from rfl))) trivial
 ·have ho1:¬o.length=0:=λh=>ho (length_eq_zero_iff.1 h);have happ:=dO (enc:=az bX) (e:=1) (λ_=>rfl) (λ_=>rfl) 4 o k;rw[show az bX k=[bX k] from rfl,mul_one] at happ;have hcl:=ox (c:=bX) o;rw[Ez ho,bV ho1];refine ki ?_;refine zS [2] (n6 @Ba @tL @jx @pP @mA @gB) hr1 ?_;refine zQ ?_;refine zS [2] (n6 @Ba @tL @jx @pP @mA @gB) hr2 ?_;by_cases hab:a=b
  ·rw[if_pos hab] at hstep;refine cS (show decide ((a:Int)=(b:Int))=true by simp;omega) ?_;refine zY ?_;have hs2:PN mm (g2,o++[k])=[bO AV.str bX mm,.gone,.cells (g2.flatMap (az bX)),.gone,.cells ((o++[k]).flatMap (az bX))]:=Ez (by simp)
   have hs3:bm 4 1 (o++[k]).length=.buf 4 (o.length+1) 1 none:=by rw[length_append];rfl
   refine aE (n7 @jx @gB hcl happ @mul_one @le_refl hol) ?_;refine aE (zi hlt hlen) ?_;refine zX hlt (cI (n4 hkk hstep hs2 hs3)) trivial
  ·rw[if_neg hab] at hstep;refine cS (show decide ((a:Int)=(b:Int))=false by simp;omega) ?_;refine zN ?_;refine zs ?_;refine ai.r0 (by rfl) (gY (nh (dX hlt hlen (by decide)))) ?_;refine⟨l.length-(k+1),_,by omega,(Fg.less (by (simp only[bx,aX,cw,↓reduceIte,reduceEqDiff,an,hkk,hstep,Ez ho,bV ho1])<;>(repeat' apply And.intro)<;>first | rfl | trivial) (by (simp only[bx,aX,or_true,true_or,an,hkk,hstep,Ez ho,bV ho1])<;>(repeat' apply And.intro)<;>first | exact .inr rfl | exact .inl rfl | trivial)),k+1,by omega,rfl,trivial,rfl⟩
theorem uk(l:List bq)(part:List Nat):(lW l part).length<=l.length/\∀i∈lW l part,i<l.length:=by
 have hok:=qj l;unfold lW;split
 ·rename_i h;have hkl:=hok.m part h;have hF:=xY (k:=getM 0 part (ei l).2) hok.f (by rw[hok.l];exact hkl) l.length (by rw[hok.l];exact le_refl _);exact⟨hF.2.2.1,hF.2.2.2⟩
 ·exact⟨Nat.zero_le _,λi hi=>by cases hi⟩
def oy(l:List bq)(part:List Nat):List bq:=(lW l part).filterMap (l[·]?)
theorem I0(l:List bq)(part:List Nat):(oy l part).length<=l.length:=le_trans (List.length_filterMap_le _ _) (uk l part).1
theorem I1{l:List bq}{part:List Nat}{r:bq}(h:r∈oy l part):r∈l:=by
 obtain⟨i,_,hi⟩:=List.mem_filterMap.1 h;exact mem_of_getElem? hi
theorem EJ{l:List bq}{is:List Nat}{k i:Nat}{r:bq}(hk:is[k]?=some i)(hr:l[i]?=some r):(is.take (k+1)).filterMap (l[·]?)=(is.take k).filterMap (l[·]?)++[r]:=by
 rw[bo hk,List.filterMap_append];simp[hr]
theorem Fe{p:List Int->Prop}{g:Nat->List (List Int)->Bool×List (List Int)}(hg:∀n out,(∀ch∈out,p ch)->∀ch∈(g n out).2,p ch):∀(m n:Nat) (out:List (List Int)),(∀ch∈out,p ch)->∀ch∈(rA g m n out).2,p ch
 | 0,n,out,h=>h
 | m+1,n,out,h=>by
  rw[rA];split
  ·exact Fe hg m (n+1) _ (hg n out h)
  ·exact hg n out h
theorem AG{c:List aU}{l:List bq}{most:Int}:∀(F i:Nat) (ch:List Int) (out:List (List Int)),(∀h∈out,M6 c l h=true)->∀h∈(fk c l most F i ch out).2,M6 c l h=true
 | 0,i,ch,out,h=>h
 | F+1,i,ch,out,h=>by
  rw[fk];split
  ·exact h
  ·split
   ·split
    ·rename_i h3;intro x hx
     rcases List.mem_append.1 hx with hx | hx
     ·exact h x hx
     ·rw[List.mem_singleton.1 hx];exact h3
    ·exact h
   ·exact Fe (λn out h=>AG F _ _ _ h) _ _ _ h
theorem Bh{g:Nat->List (List Int)->Bool×List (List Int)}{most:Int}(hg:∀n out,(out.length:Int)<most->((g n out).2.length:Int)<=most)(hg2:∀n out,(out.length:Int)<most->(g n out).1=true->((g n out).2.length:Int)<most):∀(m n:Nat) (out:List (List Int)),(out.length:Int)<most->((rA g m n out).2.length:Int)<=most
 | 0,n,out,h=>le_of_lt h
 | m+1,n,out,h=>by
  rw[rA];split
  ·rename_i h1;exact Bh hg hg2 m (n+1) _ (hg2 n out h h1)
  ·exact hg n out h
theorem xu{c:List aU}{l:List bq}{most:Int}:∀(F i:Nat) (ch:List Int) (out:List (List Int)),(out.length:Int)<most->((fk c l most F i ch out).2.length:Int)<=most
 | 0,i,ch,out,h=>le_of_lt h
 | F+1,i,ch,out,h=>by
  rw[fk];split
  ·exact le_of_lt h
  ·split
   ·split
    ·rw[length_append];show((out.length+1:Nat):Int)<=most;omega
    ·exact le_of_lt h
   ·exact Bh (λn out h=>xu F _ _ _ h) (λn out h h2=>xr F _ _ _ h h2) _ _ _ h
theorem LN{c:List aU}{l:List bq}{ch:List Int}(h:M6 c l ch=true):l.length=ch.length:=by
 unfold M6 oe at h;split at h
 ·rename_i hg;exact ud hg
 ·cases h
theorem K6{c:List aU}{l:List bq}{most:Int}{ch:List Int}(h:ch∈(iN c l most).1):M6 c l ch=true:=by
 unfold iN at h;split at h
 ·cases h
 split at h
 ·cases h
 split at h
 ·split at h
  ·cases h
  ·unfold oO at h;exact AG _ _ _ _ (λ_ h=>by cases h) _ h
 ·cases h
theorem Dk{c:List aU}{l:List bq}{most:Int}(hm:0<most):((iN c l most).1.length:Int)<=most:=by
 unfold iN;split
 ·exact le_of_lt hm
 split
 ·exact le_of_lt hm
 split
 ·split
  ·exact le_of_lt hm
  ·unfold oO;exact xu _ _ _ _ hm
 ·exact le_of_lt hm
abbrev fw:=List (List Nat×Int)
def dB(ws:List Wy)(co:Co)(b:fw):Prop:=(∃x,0<=x/\x<=co.am/\b=[(co.owner,x)])\/∃w∈ws,w.cK≠co.owner/\∃x y,0<=x/\0<=y/\x+y<=co.am/\b=[(co.owner,x),(w.cK,y)]
theorem wL{ws:List Wy}{ps:List aG}{co:Co}(hr:ej ws co=true):fY ws ps co=[(co.owner,co.am)]\/∃w∈ws,w.cK≠co.owner/\∃n,0<=n/\n<=co.am/\fY ws ps co=[(co.owner,co.am-n),(w.cK,n)]:=by
 unfold fY
 cases k9 ps co.part with
 | none=>exact .inl rfl
 | some p=>
  rw[map_some]
  rcases JD (p:=Ho p kh) hr with⟨h,_⟩ | ⟨w,h1,h2,h3,h4,h5⟩
  ·exact .inl h
  ·exact .inr ⟨w,List.mem_of_find?_eq_some h1,h2,_,h4,h5,h3⟩
theorem o4{ws:List Wy}{ps:List aG}{co:Co}(hr:ej ws co=true):dB ws co (fY ws ps co):=by
 have ha:=K7 (mM hr).2
 rcases wL (ps:=ps) hr with h | ⟨w,hw,hm,n,h1,h2,h⟩
 ·exact .inl ⟨_,ha.1,Int.le_refl _,h⟩
 ·exact .inr ⟨w,hw,hm,_,n,by omega,h1,by omega,h⟩
theorem dB.nodup{ws:List Wy}{co:Co}{b:fw}(h:dB ws co b):(b.map (·.1)).Nodup:=by
 rcases h with⟨x,_,_,rfl⟩ | ⟨w,_,hm,x,y,_,_,_,rfl⟩
 ·simp
 ·simp[Ne.symm hm]
theorem dB.ne{ws:List Wy}{co:Co}{b:fw}(h:dB ws co b):b≠[]:=by
 rcases h with⟨x,_,_,rfl⟩ | ⟨w,_,hm,x,y,_,_,_,rfl⟩<;>simp
theorem dB.len{ws:List Wy}{co:Co}{b:fw}(h:dB ws co b):b.length<=2:=by
 rcases h with⟨x,_,_,rfl⟩ | ⟨w,_,hm,x,y,_,_,_,rfl⟩<;>simp
theorem dB.nn{ws:List Wy}{co:Co}{b:fw}(h:dB ws co b)(p:List Nat):0<=getM 0 p b:=by
 rcases h with⟨x,h1,_,rfl⟩ | ⟨w,_,hm,x,y,h1,h2,_,rfl⟩
 ·simp only[getM];split<;>omega
 ·simp only[getM];split
  ·omega
  ·split<;>omega
theorem NR{ws:List Wy}{co:Co}{o b:fw}(h:dB ws co o)(hb:∀p,0<=getM 0 p b):dB ws co (lz o b):=by
 have hmin:∀x p,0<=x->0<=dR x (getM 0 p b)/\dR x (getM 0 p b)<=x:=λx p h=>by
  have:=hb p;unfold dR;split<;>omega
 rcases h with⟨x,h1,h2,rfl⟩ | ⟨w,hw,hm,x,y,h1,h2,h3,rfl⟩
 ·have:=hmin x co.owner h1;exact .inl ⟨_,this.1,by omega,rfl⟩
 ·have g1:=hmin x co.owner h1;have g2:=hmin y w.cK h2;exact .inr ⟨w,hw,hm,_,_,g1.1,g2.1,by omega,rfl⟩
theorem Ef{ws:List Wy}{co:Co}:∀{bs:List fw} {b0:fw},dB ws co b0->(∀b∈bs,dB ws co b)->dB ws co (bs.foldl lz b0)
 | [],b0,h,_=>h
 | b::bs,b0,h,hb=>Ef (bs:=bs) (NR h (hb b List.mem_cons_self).nn) λx hx=>hb x (List.mem_cons_of_mem _ hx)
theorem L3(o b:fw)(p:List Nat):getM 0 p (lz o b)=if dh p o=true then dR (getM 0 p o) (getM 0 p b) else 0:=by
 unfold lz
 induction o with
 | nil=>rfl
 | cons e o ih=>
  rw[List.map_cons];by_cases hp:p=e.1
  ·subst hp;simp[G0,getM,dh]
  ·have hp2:¬e.1=p:=λh=>hp h.symm;simp only[dh,List.any_cons,decide_eq_false hp,Bool.false_or] at ih ⊢;simp only[G0,getM,hp,hp2,if_false];exact ih
theorem Ka{o b:fw}{p:List Nat}(hb:0<=getM 0 p b):getM 0 p (lz o b)=dR (getM 0 p o) (getM 0 p b):=by
 rw[L3];split
 ·rfl
 ·rename_i h;rw[sf (Bool.eq_false_iff.2 h),dR,if_pos hb]
theorem AP{p:List Nat}:∀{bs:List fw} {b0:fw},(∀b∈bs,0<=getM 0 p b)->getM 0 p (bs.foldl lz b0)=(bs.map (getM 0 p)).foldl dR (getM 0 p b0)
 | [],b0,_=>rfl
 | b::bs,b0,h=>by
  rw[foldl_cons,AP (bs:=bs) (λx hx=>h x (List.mem_cons_of_mem _ hx)),Ka (h b List.mem_cons_self),List.map_cons,foldl_cons]
theorem su(b:fw):jO b (eX b):=by
 refine⟨⟨dG (b.map (·.1)),by exact pR _,?_,rfl⟩⟩;have h2:(dG (b.map (·.1))).Pairwise λa b=>xJ a b=true:=Fb _
 exact h2.imp λ{a b} h=>by
  simpa [xJ] using h
def kl(own:List bq)(ch:List Int):List bB:=(jA own ch).getD []
def cJ(c:List aU)(dmg:bE)(ws:List Wy)(own:List bq)(co:Co)(all:List (List Int)):List fw:=all.map λch=>fY ws (runN c dmg (kl own ch) co.day).1 co
def iX(n:Int)(l:List Sh):Int:=n-(l.map Sh.am).sum
def jl(c:List aU)(dmg:bE)(ws:List Wy)(l:List bq)(co:Co):Bool:=!(mX c&&eK dmg)||(!(ej ws co)||l.any λr=>!(Proofs.iT r))
def Fc(c:List aU)(dmg:bE)(ws:List Wy)(own:List bq)(co:Co):List Sh×Int×Int:=
 if own=[] then ([],0,2)
 else if (iN c own 4096).2=0 then
  (if (iN c own 4096).1.length=4096 then ([],0,7)
  else (eX (gC (cJ c dmg ws own co (iN c own 4096).1)),iX co.am (eX (gC (cJ c dmg ws own co (iN c own 4096).1))),0))
 else ([],0,(iN c own 4096).2)
def lg(c:List aU)(dmg:bE)(ws:List Wy)(l:List bq)(co:Co):List Sh×Int×Int:=if jl c dmg ws l co=true then ([],0,1) else Fc c dmg ws (oy l co.part) co
end Go.Proofs
