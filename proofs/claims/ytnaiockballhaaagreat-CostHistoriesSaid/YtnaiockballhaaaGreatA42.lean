/- A part of the texts of this claim: every theorem says what it proves, with its conditions. -/
import Derived.Test.YtnaiockballhaaaGreatA41
import Derived.Test.YtnaiockballhaaaGreatA23
set_option linter.unusedSimpArgs false
set_option linter.unusedVariables false
set_option linter.unusedSectionVars false
open List (map_nil mem_of_getElem? take_zero length_eq_zero_iff length_nil map_cons take_length all_eq_true length_cons mem_cons_of_mem mem_cons_self length_take map_append sum_nil)
open Nat (zero_le le_refl)
open Bool (eq_false_iff)
namespace Go.Proofs
open Go.Ev
set_option maxRecDepth 100000
theorem dB.of{ws:List Wy}{co:Co}{b:fw}(h:dB ws co b)(p:List Nat):sG (eX b) p=getM 0 p b:=by
 rw[(su b).of];have:=h.nn p;split<;>omega
theorem dB.sum{ws:List Wy}{co:Co}{b:fw}(h:dB ws co b):((eX b).map Sh.am).sum=(b.map (·.2)).sum/\(eX b).length<=2:=by
 have hl:=su b
 rcases h with⟨x,h1,_,rfl⟩ | ⟨w,_,hm,x,y,h1,h2,_,rfl⟩
 ·obtain⟨a,b,_⟩:=jO.one h1 hl;exact⟨by rw[a];simp,b⟩
 ·obtain⟨a,b,_⟩:=jO.two (Ne.symm hm) h1 h2 hl;exact⟨by rw[a];simp,b⟩
theorem dB.Q0{ws:List Wy}{co:Co}{b:fw}(h:dB ws co b):0<=(b.map (·.2)).sum/\(b.map (·.2)).sum<=co.am:=by
 rcases h with⟨x,h1,_,rfl⟩ | ⟨w,_,hm,x,y,h1,h2,_,rfl⟩
 ·simp;omega
 ·simp;omega
theorem dB.am{ws:List Wy}{co:Co}{b:fw}(h:dB ws co b){s:Sh}(hs:s∈eX b):0<s.am/\s.am<=co.am/\(s.pt=co.owner\/∃w∈ws,s.pt=w.cK):=by
 obtain⟨g1,g2,g3⟩:=((su b).mem s).1 hs
 rcases h with⟨x,h1,_,rfl⟩ | ⟨w,hw,hm,x,y,h1,h2,_,rfl⟩
 ·simp only[map_cons,map_nil,List.mem_singleton] at g1;rw[g1] at g2 g3;simp only[getM,if_true] at g2 g3;exact⟨by omega,by omega,.inl g1⟩
 ·simp only[map_cons,map_nil,List.mem_cons,List.not_mem_nil,or_false] at g1
  rcases g1 with g1 | g1<;>rw[g1] at g2 g3<;>simp[getM,hm] at g2 g3
  ·exact⟨by omega,by omega,.inl g1⟩
  ·exact⟨by omega,by omega,.inr ⟨w,hw,g1⟩⟩
theorem dB.QC{ws:List Wy}{co:Co}{b:fw}(h:dB ws co b):(eX b).Pairwise λa b=>gk a.pt b.pt=true:=(su b).QC h.nodup
theorem JC{ws:List Wy}{ps:List aG}{co:Co}(hr:ej ws co=true):((fY ws ps co).map (·.2)).sum=co.am:=by
 rcases wL (ps:=ps) hr with h | ⟨w,hw,hm,n,h1,h2,h⟩<;>rw[h]<;>simp
theorem ui{ws:List Wy}{co:Co}{bs:List fw}(hne:bs≠[])(h:∀b∈bs,dB ws co b):dB ws co (gC bs):=by
 cases bs with
 | nil=>exact absurd rfl hne
 | cons b bs=>exact Ef (h b mem_cons_self) λx hx=>h x (mem_cons_of_mem _ hx)
theorem J5{ws:List Wy}{co:Co}{b:fw}{bs:List fw}(h:∀x∈b::bs,dB ws co x)(p:List Nat):sG (eX (gC (b::bs))) p=(bs.map (getM 0 p)).foldl dR (getM 0 p b):=by
 rw[(ui (by simp) h).of,gC,AP λx hx=>(h x (mem_cons_of_mem _ hx)).nn p]
theorem wM{c:List aU}{dmg:bE}{ws:List Wy}{own:List bq}{co:Co}{all:List (List Int)}(hr:ej ws co=true):∀b∈cJ c dmg ws own co all,dB ws co b:=by
 intro b hb;obtain⟨ch,_,rfl⟩:=List.mem_map.1 hb;exact o4 hr
structure Gp (ws:List Wy) (co:Co) (r:List Sh×Int×Int):Prop where
 err:r.2.2≠0->r.1=[]/\r.2.1=0
 am:∀s∈r.1,0<s.am/\s.am<=co.am/\(s.pt=co.owner\/∃w∈ws,s.pt=w.cK)
 QC:r.1.Pairwise λa b=>gk a.pt b.pt=true
 len:r.1.length<=2
 RM:r.2.2=0->0<=r.2.1/\r.2.1=co.am-(r.1.map Sh.am).sum
 sum:0<=(r.1.map Sh.am).sum/\(r.1≠[]->(r.1.map Sh.am).sum<=co.am)
 right:r.2.2=0->ej ws co=true
theorem Gp.no{ws:List Wy}{co:Co}{e:Int}(he:e≠0):Gp ws co ([],0,e):=⟨λ_=>⟨rfl,rfl⟩,λs h=>(List.not_mem_nil h).elim,.nil,zero_le _,λh=>absurd h he,⟨by simp,λh=>absurd rfl h⟩,λh=>absurd h he⟩
theorem Jp(c:List aU)(dmg:bE)(ws:List Wy)(l:List bq)(co:Co):Gp ws co (lg c dmg ws l co):=by
 unfold lg;split
 ·exact .no (by decide)
 rename_i hb
 have hr:ej ws co=true:=by
  unfold jl at hb;cases h:ej ws co
  ·rw[h] at hb;simp at hb
  ·rfl
 unfold Fc;split
 ·exact .no (by decide)
 split
 ·rename_i h2;split
  ·exact .no (by decide)
  ·have hne:=Gr (c:=c) (l:=oy l co.part) (most:=4096) h2;have hk:=ui (ws:=ws) (co:=co) (bs:=cJ c dmg ws (oy l co.part) co (iN c (oy l co.part) 4096).1) (by unfold cJ;exact λe=>hne (List.map_eq_nil_iff.1 e)) (wM hr);generalize gC _=b at hk;have hs:=hk.sum;have hv:=hk.Q0;have hx:((eX b).map Sh.am).sum=(b.map (·.2)).sum:=hs.1;refine⟨λh=>absurd rfl h,λs h=>hk.am h,hk.QC,hs.2,λ_=>⟨?_,rfl⟩,⟨by show 0<=((eX b).map Sh.am).sum;omega,λ_=>by show((eX b).map Sh.am).sum<=co.am;omega⟩,λ_=>hr⟩;show 0<=iX _ _;unfold iX;rw[hs.1];omega
 ·rename_i h2;exact .no h2
def cD(ws:List Wy)(co:Co):List (List Nat):=co.owner::ws.map (·.cK)
def EC(ws:List Wy)(ps:List aG)(co:Co):List Sh:=if (k9 ps co.part).isSome=true then eX (fY ws ps co) else [⟨co.owner,co.am⟩]
theorem N5{ws:List Wy}{ps:List aG}{co:Co}(hr:ej ws co=true)(p:List Nat):sG (EC ws ps co) p=getM 0 p (fY ws ps co):=by
 unfold EC;split
 ·exact(o4 hr).of p
 ·rename_i h
  have hb:fY ws ps co=[(co.owner,co.am)]:=by
   unfold fY
   cases hf:k9 ps co.part with
   | none=>rfl
   | some q=>rw[hf] at h;exact absurd rfl h
  rw[hb];unfold sG;by_cases hp:co.owner=p
  ·simp[getM,hp]
  ·simp[getM,hp,Ne.symm hp,λh:p=co.owner=>hp h.symm]
def ep(p:List Nat):List fw->Int
 | []=>0
 | b::bs=>(bs.map (getM 0 p)).foldl dR (getM 0 p b)
theorem Ee(p:List Nat)(bs:List fw)(b:fw):ep p (bs++[b])=if bs=[] then getM 0 p b else if getM 0 p b<ep p bs then getM 0 p b else ep p bs:=by
 cases bs with
 | nil=>rfl
 | cons c bs=>
  rw[if_neg (by simp),List.cons_append];simp only[ep,map_append,map_cons,map_nil,List.foldl_append,List.foldl_cons,List.foldl_nil]
  have key:∀x y:Int,dR x y=if y<x then y else x:=λx y=>by unfold dR;split<;>split<;>omega
  exact key _ _
theorem Hn{ws:List Wy}{co:Co}{bs:List fw}(hne:bs≠[])(h:∀b∈bs,dB ws co b)(p:List Nat):sG (eX (gC bs)) p=ep p bs:=by
 cases bs with
 | nil=>exact absurd rfl hne
 | cons b bs=>exact J5 h p
theorem Mm{ws:List Wy}{ps:List aG}{co:Co}(hr:ej ws co=true):iX co.am (eX (gC [fY ws ps co]))=0:=by
 have hk:=o4 (ps:=ps) hr;show iX co.am (eX (fY ws ps co))=0;unfold iX;rw[hk.sum.1,JC hr];omega
theorem Cr{c:List aU}{dmg:bE}:∀(l:List bB) (i:Nat) (s:List aG),(∀p∈s,gn p)->(∀e∈l,oZ e)->(pQ c dmg i l s).1.length<=s.length+l.length
 | [],i,s,_,_=>le_refl _
 | e::l,i,s,hs,hl=>by
  have he:=hl e mem_cons_self;have hr:=λx hx=>hl x (mem_cons_of_mem _ hx);obtain⟨h1,h2,_,_⟩:=ub (c:=c) (ps:=s) (e:=e) hs he;rw[pQ];split
  ·split
   ·obtain⟨k1,k2⟩:=Jv (dmg:=dmg) (e:=e) h1;have:=Cr (c:=c) (dmg:=dmg) l (i+1) _ k1 hr;rw[k2] at this;rw[length_cons];omega
   ·have:=Cr (c:=c) (dmg:=dmg) l (i+1) _ h1 hr;rw[length_cons];omega
  ·exact zero_le _
theorem E8{c:List aU}{dmg:bE}{l:List bB}{day:Int}(hl:∀e∈l,oZ e):(runN c dmg l day).1.length<=l.length:=by
 unfold runN;split
 ·have h1:=Cr (c:=c) (dmg:=dmg) (fW (eR (lV day) l)) 0 [] (λp hp=>by cases hp) (λe he=>hl e (Jm he));have h2:=Cs l (lV day);simp only[length_nil] at h1;omega
 ·exact zero_le _
theorem ML(c:List aU)(dmg:bE)(day:Int):runN c dmg [] day=([],-1,if (mX c&&Proofs.eK dmg)=true then 0 else 1):=by
 unfold runN;split
 ·have:fW (eR (lV day) [])=[]:=length_eq_zero_iff.1 (Nat.le_zero.1 (Cs [] (lV day)));rw[this];rfl
 ·rfl
theorem A7(o:Option (List bB)):∃e,I4 o=.bI [an 14 (o.getD []) aF,aa e]:=by
 cases o with
 | none=>exact⟨1,rfl⟩
 | some es=>exact⟨0,rfl⟩
theorem Aw{own:List bq}{ch:List Int}(h:∀r∈own,ea r):(∀e∈kl own ch,oZ e)/\(kl own ch).length<=own.length:=by
 unfold kl jA;split
 ·split
  ·refine⟨λe he=>?_,?_⟩
   ·obtain⟨p,hp,he⟩:=List.mem_flatMap.1 he;unfold gb at he;have hr:=(List.of_mem_zip hp).1;rw[Option.mem_toList] at he;exact(h _ hr).ev e (mem_of_getElem? he)
   ·refine Nat.le_trans (q8 _) ?_;rw[List.length_zip];exact Nat.min_le_left _ _
  ·exact⟨λe he=>(by cases he),zero_le _⟩
 ·exact⟨λe he=>(by cases he),zero_le _⟩
theorem Gt:∀(l:List Sh),(∀s∈l,0<s.am/\s.am<=1000000000000)->0<=(l.map Sh.am).sum/\(l.map Sh.am).sum<=l.length*1000000000000
 | [],_=>by simp
 | s::l,h=>by
  have h1:=Gt l λx hx=>h x (mem_cons_of_mem _ hx);have h2:=h s mem_cons_self;rw[map_cons,List.sum_cons,length_cons];omega
def Jo(r:List Sh×Int×Int):SV:=.bI [an 2 r.1 bC,aa r.2.1,aa r.2.2]
theorem gw(r:bq):(aD r).length=2:=rfl
theorem jT(r:bq):cr (aD r)=true:=rfl
theorem mC(b:fw):(dn b).length=1:=rfl
theorem pa(b:fw):cr (dn b)=true:=rfl
set_option maxHeartbeats 8000000 in
theorem yN(c:List aU)(dmg:bE)(ws:List Wy)(l:List bq)(co:Co)(hc:jJ c)(hf:gm dmg)(hw:∀w∈ws,w.fits)(hco:co.fits)(hlw:ws.length<=1000)(hl:∀r∈l,ea r)(hl2:∀r∈l,r.opts.length<=400000)(hlen:l.length<20):
 PC Tryz.prog 6 [.ag (an 3 c aq::aI dmg),an 5 ws bN,an 2 l aD,.ag (gU co)] (·=Jo (lg c dmg ws l co)):=by
 have hfl:(aI dmg).length=3:=eM dmg;have hft:(aI dmg).take 3=aI dmg:=List.take_of_length_le (by rw[hfl];exact le_refl _);have hfk:=λo:Nat=>bK (o:=o) (aO dmg);have hfn:=λo:Nat=>du (o:=o) (aO dmg)
 have hlen6:l.length<=1000000:=by omega
 refine pB 138 Tryz.func6 ?_;rw[bF];refine aE (n2 hfk hfn) ?_;refine ai.fg (Fg.freeze (f':=[(1,an 5 ws bN),(2,an 2 l aD),(4,.ip (an 3 c aq::aI dmg)),(7,.ptr 1 0)]) 0 rfl (λh=>by cases h) ⟨.inl rfl,.inl rfl,.inr (.ptr rfl (bn.refl (aO dmg)) (zero_le _)),.inl rfl,trivial⟩) ?_;refine ai.fg (Fg.freeze (f':=[(1,an 5 ws bN),(2,an 2 l aD),(4,.ip (an 3 c aq::aI dmg)),(7,.ip [ak co.part,ak co.owner,aa co.day,aa co.am])]) 1 rfl (λh=>by cases h) (p6 @an.eq_1)) ?_;refine ai.fg (st':=⟨[(1,an 5 ws bN),(2,an 2 l aD),(4,.ip (an 3 c aq::aI dmg)),(7,.ip [ak co.part,ak co.owner,aa co.day,aa co.am])],138,[],[]⟩) zH ?_
 (try change ai _ _ _ _ _)
 have hrun0:=rD c dmg [] 0 hc hf (by decide) (λe h=>by cases h);rw[ML] at hrun0
 have hN:lg c dmg ws l co=if jl c dmg ws l co=true then ([],0,1) else lg c dmg ws l co:=by
  split
  ·rename_i h;rw[lg,if_pos h]
  ·rfl
 refine gl (n2 hfl hft) ?_;refine zK hrun0 ?_ (hwk:=(.cons (.ag (bn.refl (aO dmg))) (.cons (.nil 14) (.cons (.a _) .nil)))) (hfl:=.inr (.cons (.ag (bn.refl (aO dmg))) (.cons (.nil 14) (.cons (.a _) .nil))));unfold Oj;cases hv:mX c&&Proofs.eK dmg
 ·have hb:jl c dmg ws l co=true:=by rw[jl,hv];rfl
  refine zR ?_;refine wy ?_;refine zV ?_;refine zE ?_;exact zO [.tmp 8,.tmp 9,.tmp 10] (r:=.bI [.sl 0 2 [],aa 0,aa 1]) (hw:=by exact .bI (.cons (.nil _) (.cons (.a _) (.cons (.a _) .nil)))) (hq:=by (try simp only[aC,ab]);first | done | (rw[lg,if_pos hb];rfl))
 refine zR ?_;refine zC ?_;refine zK (vy ws co hw hco hlw) ?_;cases hr:ej ws co
 ·have hb:jl c dmg ws l co=true:=by rw[jl,hv,hr];rfl
  refine zR ?_;refine cE ?_;refine zE ?_;exact zO [.tmp 8,.tmp 9,.tmp 10] (r:=.bI [.sl 0 2 [],aa 0,aa 1]) (hw:=by exact .bI (.cons (.nil _) (.cons (.a _) (.cons (.a _) .nil)))) (hq:=by (try simp only[aC,ab]);first | done | (rw[lg,if_pos hb];rfl))
 refine zQ ?_;refine zK (Fl (l:=l) (λr=>!(Proofs.iT r)) (first:=[]) (cap:=[]) hlen6 (λx hx=>H2 x (hl x hx)) ⟨rfl,rfl⟩) ?_;cases hva:l.any λr=>!(Proofs.iT r);rotate_left
 ·have hb:jl c dmg ws l co=true:=by rw[jl,hv,hr,hva];rfl
  refine zR ?_;refine cE ?_;refine zE ?_;exact zO [.tmp 8,.tmp 9,.tmp 10] (r:=.bI [.sl 0 2 [],aa 0,aa 1]) (hw:=by exact .bI (.cons (.nil _) (.cons (.a _) (.cons (.a _) .nil)))) (hq:=by (try simp only[aC,ab]);first | done | (rw[lg,if_pos hb];rfl))
 have hb:jl c dmg ws l co=false:=by rw[jl,hv,hr,hva];rfl
 clear hN;refine zR ?_;refine gX ?_;refine zC ?_;refine zK (Bp l co.part hl hl2 hlen6) ?_ (hfl:=.inr (bn.refl rfl));have hlo:=uk l co.part;have hown:oy l co.part=(lW l co.part).filterMap (l[·]?):=rfl;generalize lW l co.part=is at hlo hown;refine zR ?_
 have hlen7:is.length<=1000000:=by omega
 refine zs ?_;refine zL is (λk=>True) (λk=>[(1,an 5 ws bN),(2,an 2 l aD),(4,.ip (an 3 c aq::aI dmg)),(7,.ip [ak co.part,ak co.owner,aa co.day,aa co.am]),(14,bm 1 2 ((is.take k).filterMap (l[·]?)).length),(53,an 1 is (az bX)),(54,aa is.length),(55,aa k)]) (λk=>ow 1 ((is.take k).filterMap (l[·]?)) aD) (Fg.less (by (simp only[bx,aX,cw,↓reduceIte,Nat.reduceEqDiff,an,take_zero,List.filterMap_nil,length_nil,dy,e9])<;>(repeat' apply And.intro)<;>first | rfl | trivial) (by (simp only[bx,aX,or_true,true_or,an,take_zero,List.filterMap_nil,length_nil,dy,e9])<;>(repeat' apply And.intro)<;>first | exact .inr rfl | exact .inl rfl | trivial)) zp ?_;intro k hk hall;refine zV ?_;by_cases hlt:k<is.length;rotate_left;obtain rfl:k=is.length:=(by omega);rw[zf];rotate_left;rw[zt hlt];obtain⟨i,hx⟩:=zx hlt;rotate_left;rotate_left
 ·have hil:i<l.length:=hlo.2 i (mem_of_getElem? hx);obtain⟨r,hri⟩:∃r,l[i]?=some r:=⟨l[i],List.getElem?_eq_getElem hil⟩;have hfm:=EJ hx hri;have hol:((is.take k).filterMap (l[·]?)).length<=k:=Nat.le_trans (List.length_filterMap_le _ _) (by rw[length_take];omega);generalize hO:(is.take k).filterMap (l[·]?)=out at hol hfm;have hcl:=aJ gw out;have hkc:=λo=>aW jT o out;refine zY ?_
  (repeat refine ai.seq ?_)
  refine ai.block ?_;refine aE (n3 hlt (aH (e:=1) (enc:=az bX) (λ_=>rfl) hx) @az.eq_1) ?_;by_cases hk0:out=[]
  ·rw[show ow 1 out aD=[] by rw[hk0];rfl,show bm 1 2 out.length=cC by rw[hk0];rfl]
   have f1:bm 1 2 ((is.take (k+1)).filterMap (l[·]?)).length=.buf 1 1 2 none:=by rw[hfm,hk0];rfl
   have f2:ow 1 ((is.take (k+1)).filterMap (l[·]?)) aD=[.gone,.cells (aD r)]:=by rw[hfm,hk0];rfl
   refine aE (n3 hil (aH (e:=2) (enc:=aD) (λ_=>rfl) hri) @aD.eq_1) ?_;refine aE (zi hlt hlen7) ?_;refine zX hlt (cI (n3 f1 f2 @aD.eq_1)) trivial
  ·have hk1:¬out.length=0:=λh=>hk0 (length_eq_zero_iff.1 h)
   have f1:bm 1 2 ((is.take (k+1)).filterMap (l[·]?)).length=.buf 1 (out.length+1) 2 none:=by rw[hfm,List.length_append];rfl
   have f2:ow 1 ((is.take (k+1)).filterMap (l[·]?)) aD=[.gone,.cells ((out++[r]).flatMap aD)]:=by rw[hfm,jz];rfl
   have happ:=dO gw jT 1 out r;rw[show aD r=[.sl r.opts.length 14 (r.opts.flatMap aF),aA r.oM] from rfl] at happ;rw[gF hk0,bV hk1];refine aE (n9 hil (aH (e:=2) (enc:=aD) (λ_=>rfl) hri) @aD.eq_1 hcl hkc oU (show out.length<=1000000 by omega) @le_refl happ) ?_;refine aE (zi hlt hlen7) ?_;refine zX hlt (cI (n2 f1 f2)) trivial
 refine zN ?_;refine ai.exit ?_;rw[take_length,<-hown];have hoo:=λr (hr:r∈oy l co.part)=>hl r (I1 hr);have hol:=Nat.lt_of_le_of_lt (I0 l co.part) hlen
 have hS:lg c dmg ws l co=Fc c dmg ws (oy l co.part) co:=by rw[lg,if_neg (by rw[hb];decide)]
 generalize oy l co.part=own at hoo hol hS ⊢;clear hall hown hlo hlen7;unfold Fc at hS;by_cases hk0:own=[]
 ·rw[if_pos hk0] at hS;rw[show ow 1 own aD=[] by rw[hk0];rfl,show bm 1 2 own.length=cC by rw[hk0];rfl];refine wy ?_;refine zV ?_;refine zE ?_;exact zO [.tmp 8,.tmp 9,.tmp 10] (r:=.bI [.sl 0 2 [],aa 0,aa 2]) (hw:=by exact .bI (.cons (.nil _) (.cons (.a _) (.cons (.a _) .nil)))) (hq:=by (try simp only[aC,ab]);first | done | (rw[hS];rfl))
 have hk1:¬own.length=0:=λh=>hk0 (length_eq_zero_iff.1 h);rw[if_neg hk0] at hS;rw[gF hk0,bV hk1];refine aE (show decide ((own.length:Int)=0)=false by simp only[decide_eq_false_iff_not];omega) ?_;refine zN ?_;refine ai.fg (Fg.freeze (f':=[(1,an 5 ws bN),(4,.ip (an 3 c aq::aI dmg)),(7,.ip [ak co.part,ak co.owner,aa co.day,aa co.am]),(14,an 2 own aD)]) 1 rfl (λh=>by cases h) ⟨.inl rfl,.inl rfl,.inl rfl,.inr (.buf rfl (by rw[cu gw];exact bn.refl (aB jT _)) (by rw[aJ gw];exact le_refl _)),trivial⟩) ?_;refine ai.fg (st':=⟨[(1,an 5 ws bN),(4,.ip (an 3 c aq::aI dmg)),(7,.ip [ak co.part,ak co.owner,aa co.day,aa co.am]),(14,an 2 own aD)],138,[],[]⟩) zH ?_
 (try change ai _ _ _ _ _)
 have hal:=yp c own 4096 hc hoo hol hk0;have hai:=λch (h:ch∈(iN c own 4096).1)=>LN (K6 h);have ham:=Dk (c:=c) (l:=own) (most:=4096) (by decide);have hak:=Gr (c:=c) (l:=own) (most:=4096);generalize iN c own 4096=q at hal hai ham hak hS;refine zC ?_;refine zK hal ?_ (hfl:=.inr (bn.refl rfl));refine zR ?_;cases h0:decide (q.2=0)
 ·rw[if_neg (of_decide_eq_false h0)] at hS;refine aE h0 ?_;refine zN ?_;refine aE h0 ?_;refine cE ?_;refine zE ?_;exact zO [.tmp 8,.tmp 9,.tmp 10] (r:=.bI [.sl 0 2 [],aa 0,aa q.2]) (hw:=by exact .bI (.cons (.nil _) (.cons (.a _) (.cons (.a _) .nil)))) (hq:=by (try simp only[aC,ab]);first | done | (rw[hS];rfl))
 rw[if_pos (of_decide_eq_true h0)] at hS;have hne:=hak (of_decide_eq_true h0);have hq2:=of_decide_eq_true h0;by_cases h1:q.1.length=4096
 ·rw[if_pos h1] at hS;refine aE (n2 h0 (show decide ((q.1.length:Int)=4096)=true by simp only[decide_eq_true_eq];omega)) ?_;refine cE ?_;refine wy ?_;refine zV ?_;refine zE ?_;exact zO [.tmp 8,.tmp 9,.tmp 10] (r:=.bI [.sl 0 2 [],aa 0,aa 7]) (hw:=by exact .bI (.cons (.nil _) (.cons (.a _) (.cons (.a _) .nil)))) (hq:=by (try simp only[aC,ab]);first | done | (rw[hS];rfl))
 rw[if_neg h1] at hS;refine aE (n2 h0 (show decide ((q.1.length:Int)=4096)=false by simp only[decide_eq_false_iff_not];omega)) ?_;refine zN ?_;refine aE h0 ?_;refine gX ?_;refine zV ?_
 have hlen8:q.1.length<=1000000:=by omega
 have hbk:=λall=>wM (c:=c) (dmg:=dmg) (own:=own) (all:=all) hr;have hbl:∀all:List (List Int),(cJ c dmg ws own co all).length=all.length:=λall=>List.length_map _;refine zs ?_;refine zL q.1 (λk=>True) (λk=>[(1,an 5 ws bN),(4,.ip (an 3 c aq::aI dmg)),(7,.ip [ak co.part,ak co.owner,aa co.day,aa co.am]),(14,an 2 own aD),(18,bm 2 1 (cJ c dmg ws own co (q.1.take k)).length),(87,an 1 q.1 dD),(88,aa q.1.length),(89,aa k)]) (λk=>ow 2 (cJ c dmg ws own co (q.1.take k)) dn) (Fg.less (nM (n6 @take_zero.{0} @cJ.eq_1 @map_nil.{0,0} @length_nil.{0} @dy @e9)) (nN (n6 @take_zero.{0} @cJ.eq_1 @map_nil.{0,0} @length_nil.{0} @dy @e9))) zp ?_;intro k hk hall;refine zV ?_;by_cases hlt:k<q.1.length;rotate_left;obtain rfl:k=q.1.length:=(by omega);rw[zf];rotate_left;rw[zt hlt];obtain⟨ch,hx⟩:=zx hlt;rotate_left;rotate_left
 ·have hch:=hai ch (mem_of_getElem? hx);have hev:=Aw (ch:=ch) hoo
  have hbs:cJ c dmg ws own co (q.1.take (k+1))=cJ c dmg ws own co (q.1.take k)++[fY ws (runN c dmg (kl own ch) co.day).1 co]:=by
   unfold cJ;rw[bo hx,map_append];rfl
  have hol2:(cJ c dmg ws own co (q.1.take k)).length<=100000:=by rw[hbl,length_take];omega
  obtain⟨e1,he1⟩:=A7 (jA own ch);have hpk:=vw own ch hoo (by omega) (by omega);rw[he1] at hpk;rw[show(jA own ch).getD []=kl own ch from rfl] at hpk;generalize kl own ch=tF at hpk hev hbs;have hru:=rD c dmg tF co.day hc hf (by omega) hev.1;have hpl:=E8 (c:=c) (dmg:=dmg) (day:=co.day) hev.1;unfold Oj at hru;generalize runN c dmg tF co.day=rr at hru hpl hbs;have hdv:=th ws rr.1 co hlw (by omega) hr;generalize fY ws rr.1 co=bb at hdv hbs;generalize (k9 rr.1 co.part).isSome=fo at hdv;generalize cJ c dmg ws own co (q.1.take k)=out at hbs hol2 ⊢;have hcl:=aJ mC out;have hkc:=λo=>aW pa o out;refine zY ?_
  (repeat refine ai.seq ?_)
  refine ai.block ?_;refine aE (n3 hlt (aH (e:=1) (enc:=dD) (λ_=>rfl) hx) @dD.eq_1) ?_;by_cases hk0:out=[]
  ·rw[show ow 2 out dn=[] by rw[hk0];rfl,show bm 2 1 out.length=cC by rw[hk0];rfl]
   have f1:bm 2 1 (cJ c dmg ws own co (q.1.take (k+1))).length=.buf 2 1 1 none:=by rw[hbs,hk0];rfl
   have f2:ow 2 (cJ c dmg ws own co (q.1.take (k+1))) dn=[.gone,.gone,.cells (dn bb)]:=by rw[hbs,hk0];rfl
   refine zC ?_;refine zK hpk ?_ (hfl:=.inr (bn.refl rfl));refine zR ?_;refine gl (n2 hfl hft) ?_;refine zK hru ?_ (hwk:=(.cons (.ag (bn.refl (aO dmg))) (bn.refl rfl))) (hfl:=.inr (.cons (.ag (bn.refl (aO dmg))) (bn.refl rfl)));refine zR ?_;refine zC ?_;refine zK hdv ?_ (hfl:=.inr (bn.refl rfl));refine zR ?_;refine zV ?_;refine aE (zi hlt hlen8) ?_;refine zX hlt (cI (n3 f1 f2 @dn.eq_1)) trivial
  ·have hk1:¬out.length=0:=λh=>hk0 (length_eq_zero_iff.1 h)
   have f1:bm 2 1 (cJ c dmg ws own co (q.1.take (k+1))).length=.buf 2 (out.length+1) 1 none:=by rw[hbs,List.length_append];rfl
   have f2:ow 2 (cJ c dmg ws own co (q.1.take (k+1))) dn=[.gone,.gone,.cells ((out++[bb]).flatMap dn)]:=by rw[hbs,jz];rfl
   have happ:=dO mC pa 2 out bb;rw[show dn bb=[qG AV.str aa bb] from rfl,Nat.mul_one] at happ;rw[gF hk0,bV hk1];refine zC ?_;refine zK hpk ?_ (hfl:=.inr (bn.refl rfl));refine cS (n2 hkc oU) ?_;refine gl (n3 hfl hft hkc) ?_;refine zK hru ?_ (hwk:=(.cons (.ag (bn.refl (aO dmg))) (bn.refl rfl))) (hfl:=.inr (.cons (.ag (bn.refl (aO dmg))) (bn.refl rfl)));refine cS (n2 hkc oU) ?_;refine gl hkc ?_;refine zK hdv ?_ (hfl:=.inr (bn.refl rfl));refine cS hkc ?_;refine aE (n6 hkc hcl @Nat.mul_one (show out.length<=1000000 by omega) @le_refl happ) ?_;refine aE (zi hlt hlen8) ?_;refine zX hlt (cI (n2 f1 f2)) trivial
 refine zN ?_;refine ai.exit ?_;rw[take_length];have hbn:cJ c dmg ws own co q.1≠[]:=λe=>hne (by unfold cJ at e;exact List.map_eq_nil_iff.1 e);have hbk:=hbk q.1;have hbl:=hbl q.1;generalize cJ c dmg ws own co q.1=bills at hbn hbk hbl hS ⊢;rw[gF hbn,bV (λh=>hbn (length_eq_zero_iff.1 h))];refine ai.fg (Fg.freeze (f':=[(7,.ip [ak co.part,ak co.owner,aa co.day,aa co.am]),(18,an 1 bills dn)]) 2 rfl (λh=>by cases h) ⟨.inl rfl,.inr (.buf rfl (by rw[cu mC];exact bn.refl (aB pa _)) (by rw[aJ mC];exact le_refl _)),trivial⟩) ?_;refine ai.fg (st':=⟨[(7,.ip [ak co.part,ak co.owner,aa co.day,aa co.am]),(18,an 1 bills dn)],138,[],[]⟩) zH ?_
 (try change ai _ _ _ _ _)
 obtain⟨b0,bs,rfl⟩:∃b0 bs,bills=b0::bs:=by
  cases bills with
  | nil=>exact absurd rfl hbn
  | cons b0 bs=>exact⟨b0,bs,rfl⟩
 have hlk:=ui hbn hbk;have hls:=yI (gC (b0::bs)) (by have:=hlk.len;omega) hlk.nodup hlk.ne;have hle:=FG b0 bs (by rw[length_cons] at hbl;omega) (hbk b0 mem_cons_self).nodup;have ha1:=K7 (mM hr).2
 have hoa:∀s∈eX (gC (b0::bs)),0<s.am/\s.am<=1000000000000:=λs hs=>by have:=hlk.am hs;omega
 have ho2:=hlk.sum.2;generalize gC (b0::bs)=lb at hls hle hoa ho2 hS;generalize eX lb=out at hls hoa ho2 hS;refine zC ?_;refine zK hle ?_ (hfl:=.inr (bn.refl rfl));refine zQ ?_;refine zK hls ?_ (hfl:=.inr (bn.refl rfl));refine zR ?_;refine kQ ?_
 have hlen9:out.length<=1000000:=by omega
 refine zs ?_;refine zL out (λk=>True) (λk=>[(28,an 2 out bC),(29,aa (iX co.am (out.take k))),(125,an 2 out bC),(126,aa out.length),(127,aa k)]) (λk=>[]) (Fg.less (by (simp only[bx,aX,cw,↓reduceIte,Nat.reduceEqDiff,an,iX,take_zero,map_nil,sum_nil,Int.sub_zero])<;>(repeat' apply And.intro)<;>first | rfl | trivial) (by (simp only[bx,aX,or_true,true_or,an,iX,take_zero,map_nil,sum_nil,Int.sub_zero])<;>(repeat' apply And.intro)<;>first | exact .inr rfl | exact .inl rfl | trivial)) zp ?_;intro k hk hall;refine zV ?_;by_cases hlt:k<out.length;rotate_left;obtain rfl:k=out.length:=(by omega);rw[zf];rotate_left;rw[zt hlt];obtain⟨s,hx⟩:=zx hlt;rotate_left
 ·refine zN ?_;refine ai.exit ?_;rw[take_length];refine zV ?_;refine zE ?_;exact tH.of (rs:=[.tmp 8,.tmp 9,.tmp 10]) (r:=.bI [an 2 out bC,aa (iX co.am out),aa 0]) rfl rfl zl zv (by (try simp only[aC,ab]);first | done | (rw[hS];rfl))
 have hos:iX co.am (out.take (k+1))=iX co.am (out.take k)-s.am:=by
  unfold iX;rw[bo hx,map_append,List.sum_append,map_cons,map_nil,List.sum_cons,sum_nil];omega
 have hsb:=hoa s (mem_of_getElem? hx)
 have hob:iX co.am (out.take k)<=1000000000000 /\ -2000000000000<=iX co.am (out.take k):=by
  have h1:=Gt (out.take k) (λs hs=>hoa s (List.mem_of_mem_take hs))
  have h2:(out.take k).length<=2:=by rw[length_take];omega
  unfold iX;omega
 generalize iX co.am (out.take k)=op at hos hob;refine zY ?_
 (repeat refine ai.seq ?_)
 refine ai.block ?_;refine aE (n3 hlt (aH (e:=2) (enc:=bC) (λ_=>rfl) hx) @bC.eq_1) ?_;refine zs ?_;refine ai.r0 (by rfl) (gY (bS op s.am (by omega))) ?_;refine aE (zi hlt hlen9) ?_;refine zX hlt (cI hos) trivial
abbrev mr:Nat:=1000000000000000
def oD(e:bB):Bool:=decide ((e.part.length:Int)<=300)&&(decide ((e.kind.length:Int)<=300)&&(decide ((e.bD.length:Int)<=300)&&(decide ((e.slot.length:Int)<=300)&&(decide ((e.key.length:Int)<=300)&&decide ((e.value.length:Int)<=300)))))
theorem C3(e:bB):PC Tryz.prog 135 [.ag (aF e)] (·=aA (oD e)):=by
 refine pB 37 Tryz.func135 ?_;rw[dg];unfold oD;refine zV ?_;cases g1:decide ((e.part.length:Int)<=300)
 ·refine aE g1 ?_;refine zE ?_;exact zO [.tmp 2]
 cases g2:decide ((e.kind.length:Int)<=300)
 ·refine aE (n2 g1 g2) ?_;refine zE ?_;exact zO [.tmp 2]
 cases g3:decide ((e.bD.length:Int)<=300)
 ·refine aE (n3 g1 g2 g3) ?_;refine zE ?_;exact zO [.tmp 2]
 cases g4:decide ((e.slot.length:Int)<=300)
 ·refine aE (n4 g1 g2 g3 g4) ?_;refine zE ?_;exact zO [.tmp 2]
 cases g5:decide ((e.key.length:Int)<=300)
 ·refine aE (n5 g1 g2 g3 g4 g5) ?_;refine zE ?_;exact zO [.tmp 2]
 refine aE (n5 g1 g2 g3 g4 g5) ?_;refine zE ?_;exact zO [.tmp 2]
def oN(l:List bB)(most:Int):Bool:=(l.take (most+1).toNat).all oD&&decide ((l.length:Int)<=most)
theorem MW{α:Type}{p:α->Bool}{l:List α}{n:Nat}{k:Nat}{x:α}(hx:l[k]?=some x)(hk:k<n)(hp:p x=false):(l.take n).all p=false:=by
 refine eq_false_iff.2 λh=>?_;have:=all_eq_true.1 h x (by rw[List.mem_iff_getElem?];exact⟨k,by rw[List.getElem?_take,if_pos hk];exact hx⟩);rw[hp] at this;cases this
theorem nI{α:Type}{p:α->Bool}{l:List α}{n k:Nat}(h:(l.take k).all p=true)(hk:n<=k\/l.length<=k):(l.take n).all p=true:=by
 rw[all_eq_true] at h ⊢;intro x hx;refine h x ?_;rw[List.mem_iff_getElem?] at hx ⊢;obtain⟨i,hi⟩:=hx;rw[List.getElem?_take] at hi;split at hi
 ·rename_i h1;have:=bl hi;exact⟨i,by rw[List.getElem?_take,if_pos (by omega)];exact hi⟩
 ·cases hi
theorem kC{α:Type}{p:α->Bool}{l:List α}{k:Nat}{x:α}(hx:l[k]?=some x)(h:(l.take k).all p=true)(hp:p x=true):(l.take (k+1)).all p=true:=by
 rw[bo hx,List.all_append,h];show(true&&(p x&&true))=true;rw[hp];rfl
theorem Hw(l:List bB)(most:Int)(hm:0<=most)(hlen:l.length<=mr):PC Tryz.prog 96 [an 14 l aF,aa most] (·=aA (Proofs.oN l most)):=by
 refine pB 27 Tryz.func96 ?_;refine kQ ?_
 have hfin:∀k,(l.take k).all oD=true->(l.length<=k\/most<(k:Int))->Proofs.oN l most=decide ((l.length:Int)<=most):=λk h hk=>by
  rw[Proofs.oN,nI h (by omega),Bool.true_and]
 refine zs ?_;refine zL l (λk=>(l.take k).all oD=true) (λk=>[(0,an 14 l aF),(1,aa most),(5,aa k)]) (λk=>[]) zH zp ?_;intro k hk hall;by_cases hlt:k<l.length;rotate_left
 ·refine aE (show decide ((k:Int)<(l.length:Int))=false by simp only[decide_eq_false_iff_not];omega) ?_;refine zN ?_;refine ai.exit ?_;refine zV ?_;refine zE ?_;exact zO [.tmp 4] (hq:=by (try simp only[aC,ab]);first | done | (rw[hfin k hall (by omega)]))
 have hd:=show decide ((k:Int)<(l.length:Int))=true by simp only[decide_eq_true_eq];omega
 obtain⟨x,hx⟩:∃x,l[k]?=some x:=⟨l[k],List.getElem?_eq_getElem hlt⟩;cases g:decide ((k:Int)<=most)
 ·refine aE (n2 hd g) ?_;refine zN ?_;refine ai.exit ?_;have:=of_decide_eq_false g;refine zV ?_;refine zE ?_;exact zO [.tmp 4] (hq:=by (try simp only[aC,ab]);first | done | (rw[hfin k hall (by omega)]))
 refine aE (n2 hd g) ?_;refine zY ?_
 (repeat refine ai.seq ?_)
 refine ai.block ?_;have hg:=of_decide_eq_true g;refine gl (n2 hlt (aH (e:=14) (enc:=aF) (λ_=>rfl) hx)) ?_;refine zK (C3 x) ?_;cases hs:oD x
 ·refine zR ?_;refine cE ?_;refine zE ?_;exact zO [.tmp 4] (hq:=by (try simp only[aC,ab]);first | done | (rw[show Proofs.oN l most=false by rw[Proofs.oN,MW hx (by omega) hs];rfl]))
 refine zR ?_;refine zN ?_;refine aE (zi hlt hlen) ?_;refine zX hlt zH (kC hx hall hs)
def rY(l:List bq)(most:Int):Bool:=if (l.length:Int)<=most then l.all λr=>Proofs.oN r.opts 6 else false
theorem Hy(l:List bq)(most:Int)(hlen:l.length<=mr)(ho:∀r∈l,r.opts.length<=mr):PC Tryz.prog 47 [an 2 l aD,aa most] (·=aA (Proofs.rY l most)):=by
 refine pB 29 Tryz.func47 ?_;refine kQ ?_;cases hm:decide ((l.length:Int)<=most)
 ·refine zs ?_;refine zL l (λk=>True) (λk=>[(0,an 2 l aD),(1,aa most),(5,aa k)]) (λk=>[]) zH zp ?_;intro k hk hall;cases hb:decide ((k:Int)<(l.length:Int))
  ·refine aE hb ?_;refine zN ?_;refine ai.exit ?_;refine aE hm ?_;refine zE ?_;exact zO [.tmp 4] (hq:=by (try simp only[aC,ab]);first | done | (rw[Proofs.rY,if_neg (of_decide_eq_false hm)]))
  ·refine aE (n2 hb hm) ?_;refine zN ?_;refine ai.exit ?_;refine aE hm ?_;refine zE ?_;exact zO [.tmp 4] (hq:=by (try simp only[aC,ab]);first | done | (rw[Proofs.rY,if_neg (of_decide_eq_false hm)]))
 have hN:Proofs.rY l most=l.all λr=>Proofs.oN r.opts 6:=by rw[Proofs.rY,if_pos (of_decide_eq_true hm)]
 refine zs ?_;refine zL l (λk=>((l.take k).all λr=>Proofs.oN r.opts 6)=true) (λk=>[(0,an 2 l aD),(1,aa most),(5,aa k)]) (λk=>[]) zH zp ?_;intro k hk hall;by_cases hlt:k<l.length;rotate_left
 ·refine aE (show decide ((k:Int)<(l.length:Int))=false by simp only[decide_eq_false_iff_not];omega) ?_;refine zN ?_;refine ai.exit ?_;have h1:=nI (n:=l.length) hall (by omega);rw[take_length] at h1;refine aE hm ?_;refine zE ?_;exact zO [.tmp 4] (hq:=by (try simp only[aC,ab]);first | done | (rw[hN,h1]))
 have hd:=show decide ((k:Int)<(l.length:Int))=true by simp only[decide_eq_true_eq];omega
 obtain⟨x,hx⟩:∃x,l[k]?=some x:=⟨l[k],List.getElem?_eq_getElem hlt⟩;refine aE (n2 hd hm) ?_;refine zY ?_
 (repeat refine ai.seq ?_)
 refine ai.block ?_;refine gl (n3 hlt (aH (e:=2) (enc:=aD) (λ_=>rfl) hx) @aD.eq_1) ?_;refine zK (Hw x.opts 6 (by decide) (ho x (mem_of_getElem? hx))) ?_;cases hs:Proofs.oN x.opts 6
 ·refine zR ?_;refine cE ?_;refine zE ?_;exact zO [.tmp 4] (hq:=by (try simp only[aC,ab]);first | done | (rw[hN,show(l.all λr=>Proofs.oN r.opts 6)=false from eq_false_iff.2 λh=>by have:=all_eq_true.1 h x (mem_of_getElem? hx);rw[hs] at this;cases this]))
 refine zR ?_;refine zN ?_;refine aE (zi hlt hlen) ?_;refine zX hlt zH (kC hx hall hs)
def rZ(ws:List Wy)(c:Co):Bool:=decide ((ws.length:Int)<=6)&&(ws.all (λw=>decide ((w.kind.length:Int)+(w.cK.length:Int)<=300))&&decide ((c.part.length:Int)+(c.owner.length:Int)<=300))
theorem HA(ws:List Wy)(c:Co)(hlen:ws.length<=mr)(hw:∀w∈ws,w.kind.length<=mr/\w.cK.length<=mr)(hc:c.part.length<=mr/\c.owner.length<=mr):PC Tryz.prog 19 [an 5 ws bN,.ag (gU c)] (·=aA (Proofs.rZ ws c)):=by
 refine pB 44 Tryz.func19 ?_;rw[bF];refine zV ?_;refine ai.fg (Fg.freeze (f':=[(0,an 5 ws bN),(3,.ip [ak c.part,ak c.owner,aa c.day,aa c.am])]) 0 rfl (λh=>by cases h) (p6 @an.eq_1)) ?_;refine ai.fg (st':=⟨[(0,an 5 ws bN),(3,.ip [ak c.part,ak c.owner,aa c.day,aa c.am])],44,[],[]⟩) zH ?_
 (try change ai _ _ _ _ _)
 refine zV ?_;have hca:=iJ (P:=Tryz.prog) (t:=3) (show -9223372036854775808<=(c.part.length:Int)+(c.owner.length:Int)/\(c.part.length:Int)+(c.owner.length:Int)<=9223372036854775807 from by unfold mr at hc;omega);cases hm:decide ((ws.length:Int)<=6)
 ·refine zs ?_;refine ai.block (ai.loop (λm st=>∃k:Nat,k<=ws.length/\m=ws.length-k/\(True)/\st=⟨[(0,an 5 ws bN),(3,.ip [ak c.part,ak c.owner,aa c.day,aa c.am]),(5,aa k)],44,[],[]⟩) ws.length (Fg.less uR yS) ⟨0,zero_le _,rfl,(by first | exact λi y h=>absurd h (Nat.not_lt_zero _) | trivial | rfl | assumption),rfl⟩ (by rintro m st ⟨k,_,_,_,rfl⟩;rfl) ?_);rintro m st ⟨k,hk,rfl,hall,rfl⟩
  have hN:Proofs.rZ ws c=false:=by rw[Proofs.rZ,hm];rfl
  cases hb:decide ((k:Int)<(ws.length:Int))
  ·refine zs ?_;refine ai.r0 (by rfl) (gY hb) ?_;refine zN ?_;refine ai.exit ?_;refine zs ?_;refine ai.r0 (by rfl) (gY hm) ?_;refine zE ?_;exact tH.of (rs:=[.tmp 4]) rfl rfl zl (Wk.refl rfl) (by (try simp only[aC,ab]);first | done | (rw[hN]))
  ·refine zs ?_;refine ai.r0 (by rfl) (gY (n2 hb hm)) ?_;refine zN ?_;refine ai.exit ?_;refine zs ?_;refine ai.r0 (by rfl) (gY hm) ?_;refine zE ?_;exact tH.of (rs:=[.tmp 4]) rfl rfl zl (Wk.refl rfl) (by (try simp only[aC,ab]);first | done | (rw[hN]))
 refine zs ?_;refine ai.block (ai.loop (λm st=>∃k:Nat,k<=ws.length/\m=ws.length-k/\(((ws.take k).all λw=>decide ((w.kind.length:Int)+(w.cK.length:Int)<=300))=true)/\st=⟨[(0,an 5 ws bN),(3,.ip [ak c.part,ak c.owner,aa c.day,aa c.am]),(5,aa k)],44,[],[]⟩) ws.length (Fg.less uR yS) ⟨0,zero_le _,rfl,(by first | exact λi y h=>absurd h (Nat.not_lt_zero _) | trivial | rfl | assumption),rfl⟩ (by rintro m st ⟨k,_,_,_,rfl⟩;rfl) ?_);rintro m st ⟨k,hk,rfl,hall,rfl⟩;by_cases hlt:k<ws.length;rotate_left
 ·refine zs ?_;refine ai.r0 (by rfl) (gY (show decide ((k:Int)<(ws.length:Int))=false by simp only[decide_eq_false_iff_not];omega)) ?_;refine zN ?_;refine ai.exit ?_;have h1:=nI (n:=ws.length) hall (by omega);rw[take_length] at h1;refine zs ?_;refine ai.r0 (by rfl) (gY (n2 hm hca)) ?_;refine zE ?_;exact tH.of (rs:=[.tmp 4]) rfl rfl zl (Wk.refl rfl) (by (try simp only[aC,ab]);first | done | (rw[Proofs.rZ,hm,h1];rfl))
 have hd:=show decide ((k:Int)<(ws.length:Int))=true by simp only[decide_eq_true_eq];omega
 obtain⟨x,hx⟩:∃x,ws[k]?=some x:=⟨ws[k],List.getElem?_eq_getElem hlt⟩;have hwx:=hw x (mem_of_getElem? hx);have hwa:=iJ (P:=Tryz.prog) (t:=3) (show -9223372036854775808<=(x.kind.length:Int)+(x.cK.length:Int)/\(x.kind.length:Int)+(x.cK.length:Int)<=9223372036854775807 from by unfold mr at hwx;omega);refine zs ?_;refine ai.r0 (by rfl) (gY (n2 hd hm)) ?_;refine zY ?_
 (repeat refine ai.seq ?_)
 refine ai.block ?_;cases hs:decide ((x.kind.length:Int)+(x.cK.length:Int)<=300)
 ·refine zs ?_;refine ai.Lp (ms:=[0,0,3,7,15,31,0,0,192,448,960,1984,4095,8191]) rfl (by kernel_rfl) (by kernel_rfl) ?_
  (repeat (first | refine SD.r (by rfl) rfl (by rfl) (by rfl) (gY (n5 hlt (aH (e:=5) (enc:=bN) (λ_=>rfl) hx) @iA hwa (show decide (300<(x.kind.length:Int)+(x.cK.length:Int))=true by simp only[decide_eq_true_eq];have:=of_decide_eq_false hs;omega))) ?_ | refine SD.s (by rfl) rfl (by rfl) (by rfl) ?_ | fail))
  refine zM ?_;refine cE ?_;refine zE ?_;exact tH.of (rs:=[.tmp 4]) rfl rfl zl (Wk.refl rfl) (by (try simp only[aC,ab]);first | done | (rw[Proofs.rZ,hm,show(ws.all λw=>decide ((w.kind.length:Int)+(w.cK.length:Int)<=300))=false from eq_false_iff.2 λh=>by have:=all_eq_true.1 h x (mem_of_getElem? hx);rw[hs] at this;cases this];rfl))
 ·refine zs ?_;refine ai.Lp (ms:=[0,0,3,7,15,31,0,0,192,448,960,1984,4095,8191]) rfl (by kernel_rfl) (by kernel_rfl) ?_
  (repeat (first | refine SD.r (by rfl) rfl (by rfl) (by rfl) (gY (n5 hlt (aH (e:=5) (enc:=bN) (λ_=>rfl) hx) @iA hwa (show decide (300<(x.kind.length:Int)+(x.cK.length:Int))=false by simp only[decide_eq_false_iff_not];have:=of_decide_eq_true hs;omega))) ?_ | refine SD.s (by rfl) rfl (by rfl) (by rfl) ?_ | fail))
  refine zM ?_;refine zN ?_;refine aE (zi hlt hlen) ?_;refine zX hlt zH (kC hx hall hs)
end Go.Proofs
