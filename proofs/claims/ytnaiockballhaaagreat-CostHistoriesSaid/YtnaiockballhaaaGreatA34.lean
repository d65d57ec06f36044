/- A part of the texts of this claim: every theorem says what it proves, with its conditions. -/
import Derived.Test.YtnaiockballhaaaGreatA33
import Derived.Test.YtnaiockballhaaaGreatA23
import Derived.Test.YtnaiockballhaaaGreatA21
import Derived.Test.YtnaiockballhaaaGreatA20
set_option linter.unusedSimpArgs false
set_option linter.unusedVariables false
set_option linter.unusedSectionVars false
open Nat (reduceEqDiff reduceAdd reduceLT le_refl reduceLeDiff reduceMul add_zero mul_one reduceSub le_trans)
open List (length_nil length_append length_cons length_map length_eq_zero_iff nil_append filterMap_nil filter_cons getElem?_map drop_append drop_of_length_le Perm append_nil map_nil take_of_length_le flatMap_cons flatMap_nil foldl_nil nodup_nil mem_map)
open Option (bind_some map_some)
namespace Go.Proofs
open Go.Ev
set_option maxRecDepth 100000
def iF(ls:List (List Nat))(hd:jj):List (List Nat):=(hd.filter λe=>ls.contains e.2).map (·.1)
theorem G3(ls:List (List Nat))(hd:jj)(e:List Nat×List Nat):iF ls (hd++[e])=iF ls hd++(if ls.contains e.2=true then [e.1] else []):=by
 unfold iF;rw[List.filter_append,List.map_append];cases h:ls.contains e.2
 ·rw[filter_cons,if_neg (by rw[h];decide)];rfl
 ·rw[filter_cons,if_pos h];rfl
theorem xb{k:List Nat}:∀{l:jj},(lj k l).length<=l.length
 | []=>le_refl _
 | e::l=>by
  rw[lj];split
  ·exact Nat.le_succ _
  ·exact Nat.succ_le_succ xb
theorem uS:∀(ks:List (List Nat)) {r:jj},(r.map (·.1)).Nodup->ks.foldl (λr k=>lj k r) r=r.filter λe=>!ks.contains e.1
 | [],r,_=>by
  rw[foldl_nil];symm;rw[List.filter_eq_self];intro a _;rfl
 | k::ks,r,h=>by
  rw[List.foldl_cons,kG h];have hn:((r.filter λe=>!decide (e.1=k)).map (·.1)).Nodup:=h.sublist ((List.filter_sublist).map _);rw[uS ks hn,List.filter_filter]
  congr 1
  funext e;rw[List.contains_cons];by_cases hh:e.1=k
  ·simp[hh]
  ·simp[hh]
theorem JP{r:jj}{ls mo:List (List Nat)}(hn:(r.map (·.1)).Nodup)(hm:mo.Perm (iF ls r)):mo.foldl (λr k=>lj k r) r=r.filter λe=>!ls.contains e.2:=by
 rw[uS mo hn];apply List.filter_congr;intro e he
 congr 1
 rw[Bool.eq_iff_iff,List.contains_iff_mem,hm.mem_iff];unfold iF;constructor
 ·intro h;obtain⟨e',he',h2⟩:=mem_map.1 h;obtain⟨h3,h4⟩:=List.mem_filter.1 he'
  have:e'=e:=by
   obtain⟨i,hi⟩:=List.mem_iff_getElem?.1 h3;obtain⟨j,hj⟩:=List.mem_iff_getElem?.1 he
   have g1:(r.map (·.1))[i]?=some e'.1:=by rw[getElem?_map,hi];rfl
   have g2:(r.map (·.1))[j]?=some e'.1:=by rw[getElem?_map,hj,h2];rfl
   have:=(List.getElem?_inj (bl g1) hn).1 (g1.trans g2.symm);subst this;rw[hi] at hj;cases hj;rfl
  rw[this] at h4;exact h4
 ·intro h;exact List.mem_map_of_mem (List.mem_filter.2 ⟨he,h⟩)
theorem BH:∀(l:List aG) (i:Nat) (m:List (List Nat×Int)),(qL i m l).length<=m.length+l.length
 | [],_,_=>le_refl _
 | p::r,i,m=>by
  rw[qL];refine le_trans (BH r _ _) ?_
  cases h:dh p.name m with
  | true=>simp only[if_true,length_cons];omega
  | false=>simp only[Bool.false_eq_true,if_false,pN h,length_append,length_cons,length_nil];omega
theorem x4{α:Type}(p:α->Bool):∀l:List α,(l.filter p).length+(l.filter λx=>!p x).length=l.length
 | []=>rfl
 | a::l=>by
  have:=x4 p l;cases h:p a
  ·rw[filter_cons,if_neg (by rw[h];decide),filter_cons,if_pos (by rw[h];rfl),length_cons,length_cons];omega
  ·rw[filter_cons,if_pos h,filter_cons,if_neg (by rw[h];decide),length_cons,length_cons];omega
theorem G2{ls:List (List Nat)}{a b:jj}(h:a.Perm b):(iF ls a).Perm (iF ls b):=(h.filter _).map _
theorem cj{p o e n:Nat}(h:o≠p):names p (bm o e n)=false:=by
 unfold bm;split
 ·exact ko _
 ·rw[names];exact decide_eq_false h
theorem dS(q:Nat->Nat)(o e n:Nat):fv q (bm o e n)=bm (q o) e n:=by
 unfold bm;split
 ·rw[MA]
 ·rw[Cq]
def xN(r:jj)(bs:List Nat)(c:Nat):SO:=.map (r.map λe=>.str e.1) (r.map λe=>ak e.2) (some (bs,c))
theorem ug(o:Nat)(r:jj)(bs:List Nat)(c:Nat):bP o (xN r bs c)=xN r bs c:=by
 unfold xN;rw[bP]
 congr 1
 exact bK (iL (uv:=ak) (λ_=>rfl) r)
theorem Jg(q:Nat->Nat)(r:jj)(bs:List Nat)(c:Nat):nO q (xN r bs c)=xN r bs c:=by
 unfold xN;rw[E3]
 congr 1
 exact aZ (iL (uv:=ak) (λ_=>rfl) r)
theorem Jf(q:Nat->Nat)(r:jj):nO q (bO AV.str ak r)=bO AV.str ak r:=by
 unfold bO;rw[E3]
 congr 1
 exact aZ (iL (uv:=ak) (λ_=>rfl) r)
set_option maxHeartbeats 4000000 in
theorem Fz(ps:List aG)(part:List Nat)(hlen:ps.length<=100000):SC Tryz.prog 40 [.ag [an 14 ps ae],ak part] [] [] (λr S'=>r=bm 0 1 (lr ps part).length/\S'=[eG (lr ps part)]):=by
 refine Jl 87 Tryz.func40 ?_;refine ki ?_;refine zK (uO ps (by omega)) ?_ (hfl:=.inr (bn.refl rfl));have hgood:Gm ps (qL 0 [] ps):=Dt (ps:=ps) rfl ⟨λe he=>by simp at he,nodup_nil⟩
 have hMl:(qL 0 [] ps).length<=ps.length:=by have:=BH ps 0 [];simpa using this
 obtain⟨M,hM⟩:∃M,M=qL 0 [] ps:=⟨_,rfl⟩
 have hN:lr ps part=if dh part M=true then dG (dN (ps.length+2) (lj part (jC ps M)) [part]) else []:=by rw[hM];rfl
 rw[<-hM] at hgood hMl;refine cS (n2 @Gg.eq_1 (Eq.symm hM)) ?_;refine zs ?_;refine ai.r0 (by rfl) (by simp only[bx,aX,an,aw,bind_some,map_some,↓reduceIte,reduceEqDiff,reduceAdd,reduceMul,reduceLeDiff,reduceLT,ah,ao,aP,vr (l:=M)];first | done | rfl) ?_;refine zV ?_;cases h1:dh part M
 ·refine cE ?_;rw[h1,if_neg (by decide)] at hN;refine ai.fg (st':=⟨[(4,cC)],87,[.gone],[]⟩) zH ?_;refine zE ?_;exact zP [.tmp 4] (hq:=by (try simp only[aC,ab]);first | done | (rw[hN];exact⟨rfl,rfl⟩))
 rw[h1,if_pos rfl] at hN;refine gX ?_;refine zC ?_;refine aM.Rg (ks:=M.map λe=>.str e.1) (vs:=M.map λe=>aa e.2) (by rfl) rfl rfl (by rfl) rfl (by simp only[aw]) ?_;intro bs c hbs;refine cS @jy ?_
 (repeat refine ai.seq ?_)
 refine ai.block (ai.loop (λm st=>∃pos:List Nat,pos.Nodup/\(∀j∈pos,j<M.length)/\M.length-pos.length=m/\st=⟨[(1,ak part),(5,.ptr 1 0),(8,.map 2),(33,.ptr 3 0)],87,[.gone,.cells [an 14 ps ae,qG AV.str aa M],bO AV.str ak (jC ps (bU M pos)),.rI (M.map λe=>.str e.1) (M.map λe=>aa e.2) bs c pos],[]⟩) M.length (Fg.less (by (simp only[bx,aX,cw,↓reduceIte,reduceEqDiff,an,bO,bU,jC,filterMap_nil,map_nil])<;>(repeat' apply And.intro)<;>first | rfl | trivial) (by (simp only[bx,aX,or_true,true_or,an,bO,bU,jC,filterMap_nil,map_nil])<;>(repeat' apply And.intro)<;>first | exact .inr rfl | exact .inl rfl | trivial)) ⟨[],nodup_nil,λj hj=>by simp at hj,rfl,rfl⟩ (by rintro m st ⟨pos,_,_,_,rfl⟩;rfl) ?_);rintro m st ⟨pos,hpn,hpl,rfl,rfl⟩;refine zC ?_;refine aM.Rb (by rfl) rfl rfl (by rfl) rfl rfl (λj hj=>by rw[length_map];exact hpl j hj) ?_ ?_;rotate_left
 ·intro j hj hjn;rw[length_map] at hj;obtain⟨e,he⟩:∃e,M[j]?=some e:=⟨M[j],List.getElem?_eq_getElem hj⟩;obtain⟨q1,q2,q3⟩:=sN hpn hpl hj hjn;obtain⟨i,x,hi,hx,hxn⟩:=hgood.1 e (List.mem_of_getElem? he);have hil:=bl hx;have hsn:=pA M pos he;have hfresh:=GL hgood.2 he hjn;refine zR ?_;refine zY ?_
  (repeat refine ai.seq ?_)
  refine ai.block ?_;refine zC ?_;refine aM.Q7 (k:=.str e.1) (v:=aa e.2) (by rfl) rfl rfl (by rfl) rfl rfl (by rw[getElem?_map,he];rfl) (by rw[getElem?_map,he];rfl) ?_;refine zR ?_;rw[hi];refine aE (n3 hil (aH (e:=14) (enc:=ae) (λ_=>rfl) hx) @ae.eq_1) ?_
  have hin:BZ ps e.2=x.bD:=by unfold BZ;rw[hi,Int.toNat_natCast,hx]
  by_cases hx0:x.bD=[]
  ·refine aE (decide_eq_true hx0) ?_;refine zN ?_
   have hr:jC ps (bU M (pos++[j]))=jC ps (bU M pos):=by
    rw[hsn];unfold jC;rw[List.filterMap_append,List.filterMap_cons,if_pos (by rw[hin,hx0]),filterMap_nil,append_nil]
   exact⟨M.length-(pos++[j]).length,_,by rw[length_append];simp only[length_cons,length_nil];omega,(cI hr),pos++[j],q1,q2,rfl,rfl⟩
  ·refine aE (decide_eq_false hx0) ?_;refine zY ?_;refine zs ?_;refine ai.r0 (by rfl) (by simp only[bx,aX,an,aw,bind_some,map_some,↓reduceIte,reduceEqDiff,reduceAdd,reduceMul,reduceLeDiff,reduceLT,ah,ao,aP,HU (l:=jC ps (bU M pos))];first | done | rfl) ?_
   have hr:jC ps (bU M (pos++[j]))=dk e.1 x.bD (jC ps (bU M pos)):=by
    rw[pN (by
     cases hh:dh e.1 (jC ps (bU M pos)) with
     | false=>rfl
     | true=>exact absurd (x8 (sh.1 hh)) hfresh),hsn]
    unfold jC;rw[List.filterMap_append,List.filterMap_cons,if_neg (by rw[hin];exact hx0),filterMap_nil,hin]
   exact⟨M.length-(pos++[j]).length,_,by rw[length_append];simp only[length_cons,length_nil];omega,(cI hr),pos++[j],q1,q2,rfl,rfl⟩
 intro hall;have hperm:(bU M pos).Perm M:=ra hpn hpl λj hj=>hall j (by rw[length_map];exact hj);refine zR ?_;refine zN ?_;refine ai.exit ?_;refine zs ?_;refine ai.r0 (by rfl) (by simp only[bx,aX,an,aw,bind_some,map_some,↓reduceIte,reduceEqDiff,reduceAdd,reduceMul,reduceLeDiff,reduceLT,ah,ao,aP,yv (l:=jC ps (bU M pos))];first | done | rfl) ?_;obtain⟨r0,hr0⟩:∃r0,r0=lj part (jC ps (bU M pos)):=⟨_,rfl⟩;have hnk:((bU M pos).map (·.1)).Nodup:=(hperm.map (·.1)).nodup_iff.2 hgood.2
 have hrp:r0.Perm (lj part (jC ps M)):=by
  rw[hr0,kG (iZ hnk),kG (iZ hgood.2)];exact(hperm.filterMap _).filter _
 have hr0n:(r0.map (·.1)).Nodup:=by
  rw[hr0,kG (iZ hnk)];exact(iZ hnk).sublist (List.filter_sublist.map _)
 have hr0l:r0.length<=ps.length:=by
  rw[hrp.length_eq];exact le_trans xb (le_trans (List.length_filterMap_le _ _) hMl)
 have hN2:lr ps part=dG (dN (ps.length+2) r0 [part]):=by
  rw[hN];exact rz (m6 _ hrp.symm (λ_=>rfl) Iff.rfl)
 rw[<-hr0];clear hN hperm hall;refine zV ?_;refine aE @jy ?_;refine ai.fg (Fg.freeze (f':=[(1,ak part),(8,.map 2),(12,cC),(13,an 1 [part] (az ak))]) 4 rfl (λh=>by cases h) (by (simp only[yV,bx,aX,true_or,or_true,↓reduceIte,reduceEqDiff,an,az,flatMap_cons,flatMap_nil])<;>(repeat' apply And.intro)<;>first | exact .inl rfl | trivial | exact .inr (Wk.buf rfl (bn.refl rfl) zd) | exact .inr (Wk.map rfl (bn.refl rfl)) | exact .inr (Wk.ptr rfl (bn.refl rfl) zd))) ?_;refine ai.fg (st':=⟨[(1,ak part),(8,.map 0),(12,cC),(13,an 1 [part] (az ak))],87,[bO AV.str ak r0,.gone],[]⟩) (Fg.rn [2,0] (by decide) rfl (Ic @Jf) (Ie @Jf)) ?_;clear hr0 hrp;obtain⟨T,hT0⟩:∃T,T=dN (ps.length+2) r0 [part]:=⟨_,rfl⟩;rw[<-hT0] at hN2
 (repeat refine ai.seq ?_)
 refine ai.block (ai.loop (λm st=>∃(r:jj) (ls out:List (List Nat)) (fu:Nat),((r.map (·.1)).Nodup/\r.length+(if ls=[] then 1 else 2)<=fu)/\(out++dN fu r ls).Perm T/\(out.length+r.length<=ps.length/\ls.length<=ps.length+1)/\(r.length+if ls=[] then 0 else 1)=m/\st=⟨[(1,ak part),(8,.map 0),(12,bm 1 1 out.length),(13,an 1 ls (az ak))],87,[bO AV.str ak r,eG out],[]⟩) (r0.length+1) (cI (n3 @dy @iG @length_nil.{0})) ⟨r0,[part],[],ps.length+2,⟨hr0n,by rw[if_neg (by simp)];omega⟩,by rw[hT0];exact Perm.refl _,⟨by simpa using hr0l,by simp⟩,rfl,rfl⟩ (by rintro m st ⟨r,ls,out,fu,_,_,_,_,rfl⟩;rfl) ?_);rintro m st ⟨r,ls,out,fu,⟨hrn,hfu⟩,hT,⟨hsz,hlsl⟩,rfl,rfl⟩;clear hr0n hr0l hT0;by_cases hls:ls=[]
 ·subst hls;refine aE (show decide (0<(([]:List (List Nat)).length:Int))=false by simp) ?_;refine zN ?_;refine ai.exit ?_
  have hgo:dN fu r []=[]:=by
   cases fu with
   | zero=>rfl
   | succ k=>rw[dN,if_pos rfl]
  rw[hgo,append_nil] at hT
  have hres:lr ps part=dG out:=by rw[hN2];exact(rz hT).symm
  by_cases ho:out=[]
  ·subst ho;refine gl (n2 @dy @length_nil.{0}) ?_;refine zK tu ?_;refine zR ?_;refine zV ?_;refine ai.fg (st':=⟨[(4,cC)],87,[.gone],[]⟩) zH ?_;refine zE ?_;exact zP [.tmp 4] (hq:=by (try simp only[aC,ab]);first | done | (rw[hres,show dG []=[] from rfl];exact⟨rfl,rfl⟩))
  ·have hol:¬out.length=0:=λh=>ho (length_eq_zero_iff.1 h);rw[bV hol,gG ho];refine zC ?_;refine aM.sk [1] (by rfl) rfl rfl (by rfl) rfl zc (rE out (by omega) ho) (by simp only[ec,aX,an,↓reduceIte,reduceEqDiff,reduceAdd,reduceSub,reduceMul,reduceLeDiff,reduceLT,jy,aZ (aB (enc:=az ak) (λ_=>rfl) _),bu (aB (enc:=az ak) (λ_=>rfl) _)];first | done | rfl) rfl (by decide) (by simp only[rb,ec,aX,an,jy,aZ (aB (enc:=az ak) (λ_=>rfl) _),bu (aB (enc:=az ak) (λ_=>rfl) _)]<;>(repeat' apply And.intro)<;>first | trivial | rfl | (intro hh;cases hh)) (by simp only[vN,ec,aX,an,reduceAdd,reduceLT,decide_true,jy,aZ (aB (enc:=az ak) (λ_=>rfl) _),bu (aB (enc:=az ak) (λ_=>rfl) _)];first | done | rfl) (by simp only[vN,ec,aX,an,reduceAdd,reduceLT,decide_true,jy,aZ (aB (enc:=az ak) (λ_=>rfl) _),bu (aB (enc:=az ak) (λ_=>rfl) _)];first | done | rfl) (by simp only[ec,aX,an,↓reduceIte,reduceEqDiff,reduceAdd,reduceSub,reduceMul,reduceLeDiff,reduceLT,jy,aZ (aB (enc:=az ak) (λ_=>rfl) _),bu (aB (enc:=az ak) (λ_=>rfl) _)];first | done | rfl) (by simp only[ec,aX,an,↓reduceIte,reduceEqDiff,reduceAdd,reduceSub,reduceMul,reduceLeDiff,reduceLT,jy,aZ (aB (enc:=az ak) (λ_=>rfl) _),bu (aB (enc:=az ak) (λ_=>rfl) _),dz,dq,bP,bf,bx];first | done | rfl) (by simp only[ec,aX,an,↓reduceIte,reduceEqDiff,reduceAdd,reduceSub,reduceMul,reduceLeDiff,reduceLT,jy,aZ (aB (enc:=az ak) (λ_=>rfl) _),bu (aB (enc:=az ak) (λ_=>rfl) _),dz,dq,bP,bf,bx];first | done | rfl) ?_;refine zR ?_;refine zV ?_;have hsl:(dG out).length=out.length:=(pR out).length_eq;have hsne:¬dG out=[]:=λe=>hol (by rw[<-hsl,e];rfl);refine ai.fg (st':=⟨[(4,.buf 0 out.length 1 none)],87,[.cells ((dG out).flatMap (az ak))],[]⟩) (Fg.rn [1] (by decide) rfl (by (simp only[si,ec,aX,an,aZ (aB (enc:=az ak) (λ_=>rfl) (dG out))])<;>(repeat' apply And.intro)<;>first | trivial | exact .inl rfl | exact .inr rfl | exact .inr trivial | exact .inl trivial) (by (simp only[bx,ec,aX,an,aZ (aB (enc:=az ak) (λ_=>rfl) (dG out))])<;>(repeat' apply And.intro)<;>first | rfl | trivial)) ?_;refine zE ?_;exact zP [.tmp 4] (hq:=by (try simp only[aC,ab]);first | done | (rw[hres,hsl,bV hol,gG hsne];exact⟨rfl,rfl⟩))
 rw[if_neg hls] at hfu ⊢;have hl0:0<ls.length:=Nat.pos_of_ne_zero λh=>hls (length_eq_zero_iff.1 h);refine aE (show decide (0<(ls.length:Int))=true by simp only[decide_eq_true_eq];omega) ?_;refine zY ?_
 (repeat refine ai.seq ?_)
 refine ai.block ?_;refine ki ?_;refine aM.Rh (oo:=0) (ks:=r.map λe=>.str e.1) (vs:=r.map λe=>ak e.2) (b:=none) (by rfl) rfl rfl (by rfl) rfl rfl (by simp only[aw]) ?_;intro bs c hbs;rw[length_map] at hbs;change aM _ _ _ _ ⟨_,_,gi [xN r bs c,eG out] _,_⟩ _;refine aM.r0 (by rfl) (by simp only[bx,aX,an,aw,bind_some,map_some,↓reduceIte,reduceEqDiff,reduceAdd,reduceMul,reduceLeDiff,reduceLT,ah,ao,aP,fp,ug,cj (show 1≠2 by decide)];first | done | rfl) ?_
 (repeat refine ai.seq ?_)
 refine ai.block (ai.loop (λm st=>∃pos:List Nat,pos.Nodup/\(∀j∈pos,j<r.length)/\r.length-pos.length=m/\st=⟨[(1,ak part),(8,.map 0),(12,bm 1 1 out.length),(13,an 1 ls (az ak)),(14,bm 3 1 (iF ls (bU r pos)).length),(58,.ptr 2 0)],87,[xN r bs c,eG out,.iter (.map 0) bs c pos,eG (iF ls (bU r pos))],[]⟩) r.length (Fg.less (by (simp only[bx,aX,cw,↓reduceIte,reduceEqDiff,an,bU,iF,filterMap_nil,List.filter_nil,map_nil,dy,iG,length_nil,cj (show 1≠2 by decide)])<;>(repeat' apply And.intro)<;>first | rfl | trivial) (by (simp only[bx,aX,or_true,true_or,an,bU,iF,filterMap_nil,List.filter_nil,map_nil,dy,iG,length_nil,cj (show 1≠2 by decide)])<;>(repeat' apply And.intro)<;>first | exact .inr rfl | exact .inl rfl | trivial)) ⟨[],nodup_nil,λj hj=>by simp at hj,rfl,rfl⟩ (by rintro m st ⟨pos,_,_,_,rfl⟩;rfl) ?_);rintro m st ⟨pos,hpn,hpl,rfl,rfl⟩;refine zC ?_;refine aM.Rc (ks:=r.map λe=>.str e.1) (vs:=r.map λe=>ak e.2) (by rfl) rfl rfl (by rfl) rfl rfl rfl (λj hj=>by rw[length_map];exact hpl j hj) ?_ ?_;rotate_left
 ·intro j hj hjn;rw[length_map] at hj;obtain⟨e,he⟩:∃e,r[j]?=some e:=⟨r[j],List.getElem?_eq_getElem hj⟩;obtain⟨q1,q2,q3⟩:=sN hpn hpl hj hjn;have hsn:=pA r pos he;have hms:=G3 ls (bU r pos) e;rw[<-hsn] at hms
  have hml:(iF ls (bU r pos)).length<=100000:=by
   unfold iF;rw[length_map];have h1:=List.length_filter_le (λe:List Nat×List Nat=>ls.contains e.2) (bU r pos);have h2:(bU r pos).length<=pos.length:=List.length_filterMap_le _ _;omega
  generalize iF ls (bU r pos)=mo at hms hml;refine zR ?_;refine zY ?_
  (repeat refine ai.seq ?_)
  refine ai.block ?_;refine zC ?_;refine aM.Q8 (ks:=r.map λe=>.str e.1) (vs:=r.map λe=>ak e.2) (k:=.str e.1) (v:=ak e.2) (by rfl) rfl rfl (by rfl) rfl rfl rfl (by rw[getElem?_map,he];rfl) (by rw[getElem?_map,he];rfl) ?_;refine zR ?_;refine zC ?_;refine zK (kg ls e.2 (by omega)) ?_;cases hc:ls.contains e.2
  ·rw[hc,if_neg (by decide),append_nil] at hms;refine zR ?_;refine zN ?_;exact⟨r.length-(pos++[j]).length,_,by rw[length_append];simp only[length_cons,length_nil];omega,(cI hms),pos++[j],q1,q2,rfl,rfl⟩
  ·rw[hc,if_pos rfl] at hms;refine zR ?_;refine zY ?_;have happ:=dO (enc:=az ak) (e:=1) (λ_=>rfl) (λ_=>rfl) 3 mo e.1;have hcl:=aJ (enc:=az ak) (e:=1) (λ_=>rfl) mo;rw[show az ak e.1=[ak e.1] from rfl,mul_one] at happ;by_cases hmo:mo=[]
   ·subst hmo;refine zs ?_;refine ai.r0 (by rfl) (by simp only[bx,aX,an,aw,bind_some,map_some,↓reduceIte,reduceEqDiff,reduceAdd,reduceMul,reduceLeDiff,reduceLT,ah,ao,aP,dy,length_nil,iG,fp,ug,cj (show 1≠4 by decide),cj (show 1≠5 by decide)];first | done | rfl) ?_;exact⟨r.length-(pos++[j]).length,_,by rw[length_append];simp only[length_cons,length_nil];omega,((Fg.rn (f':=[(1,ak part),(8,.map 0),(12,bm 1 1 out.length),(13,an 1 ls (az ak)),(14,.buf 3 1 1 none),(58,.ptr 2 0)]) (n:=87) (S':=[xN r bs c,eG out,.iter (.map 0) bs c (pos++[j]),.cells [ak e.1]]) [0,1,2,5] (by decide) rfl (Ic (n3 @Jg @ez @dS)) (Ie (n3 @Jg @ez @dS)))).trans (Fg.less (nM (n7 hms @nil_append.{0} @eG.eq_1 @az.eq_1 @flatMap_cons.{0,0} @flatMap_nil.{0,0} @bm.eq_1)) (nN (n7 hms @nil_append.{0} @eG.eq_1 @az.eq_1 @flatMap_cons.{0,0} @flatMap_nil.{0,0} @bm.eq_1))),pos++[j],q1,q2,rfl,rfl⟩
   ·have hmol:¬mo.length=0:=λh=>hmo (length_eq_zero_iff.1 h);rw[bV hmol,gG hmo]
    have hq:mo++[e.1]≠[]:=by simp
    have hql:(mo++[e.1]).length=mo.length+1:=by rw[length_append];rfl
    refine zs ?_;refine ai.r0 (by rfl) (by simp only[bx,aX,an,aw,bind_some,map_some,↓reduceIte,reduceEqDiff,reduceAdd,reduceMul,reduceLeDiff,reduceLT,ah,ao,aP,fp,ug,cj (show 1≠4 by decide),cj (show 1≠3 by decide),aW (enc:=az ak) (λ_=>rfl) _ mo,hcl,mul_one,le_refl,show mo.length<=1000000 by omega,happ];first | done | rfl) ?_;exact⟨r.length-(pos++[j]).length,_,by rw[length_append];simp only[length_cons,length_nil];omega,(cI (n4 hms hql @Ca (gG hq))),pos++[j],q1,q2,rfl,rfl⟩
 intro hall;have hperm:(bU r pos).Perm r:=ra hpn hpl λj hj=>hall j (by rw[length_map];exact hj);have hmp:(iF ls (bU r pos)).Perm (iF ls r):=G2 hperm;obtain⟨mo,hmo⟩:∃mo,mo=iF ls (bU r pos):=⟨_,rfl⟩;rw[<-hmo] at hmp ⊢;clear hall;refine zR ?_;refine zN ?_;refine ai.exit ?_;refine ai.fg (st':=⟨[(1,ak part),(8,.map 0),(12,bm 1 1 out.length),(13,an 1 ls (az ak)),(14,an 1 mo (az ak))],87,[bO AV.str ak r,eG out],[]⟩) ?_ ?_
 ·refine Fg.trans (b:=⟨_,87,[xN r bs c,eG out],[]⟩) ?_ (Fg.M4 (S:=[xN r bs c,eG out]) (ks:=r.map λe=>.str e.1) (vs:=r.map λe=>ak e.2) (b:=some (bs,c)) 0 rfl);by_cases h0:mo=[]
  ·rw[h0];exact Fg.trans (Fg.wk (f':=[(1,ak part),(8,.map 0),(12,bm 1 1 out.length),(13,an 1 ls (az ak)),(14,an 1 ([]:List (List Nat)) (az ak))]) ⟨.inl rfl,.inl rfl,.inl rfl,.inl rfl,.inr (.nil _),trivial⟩) zH
  ·have hmol:¬mo.length=0:=λh=>h0 (length_eq_zero_iff.1 h);rw[bV hmol,gG h0];exact Fg.trans (Fg.freeze (f':=[(1,ak part),(8,.map 0),(12,bm 1 1 out.length),(13,an 1 ls (az ak)),(14,an 1 mo (az ak))]) 3 rfl (λh=>by cases h) ⟨.inl rfl,.inl rfl,.inl rfl,.inl rfl,.inr (.buf rfl (by rw[cu (enc:=az ak) (e:=1) (λ_=>rfl)];exact bn.refl (aB (λ_=>rfl) _)) (by rw[aJ (enc:=az ak) (e:=1) (λ_=>rfl)];exact le_refl _)),trivial⟩) zH
 have hmol:mo.length<=r.length:=by
  rw[hmp.length_eq];unfold iF;rw[length_map];exact List.length_filter_le _ _
 have hdel:=JP hrn hmp
 have hgo:((out++mo)++dN (fu-1) (r.filter λe=>!ls.contains e.2) mo).Perm T:=by
  refine Perm.trans ?_ hT;obtain⟨k,rfl⟩:∃k,fu=k+1:=⟨fu-1,by omega⟩;rw[dN,if_neg hls,List.append_assoc];refine Perm.append_left out (hmp.append ?_);refine m6 k (Perm.refl _) (λx=>?_) ⟨λe=>?_,λe=>?_⟩
  ·rw[Bool.eq_iff_iff,List.contains_iff_mem,List.contains_iff_mem];exact hmp.mem_iff
  ·rw[e] at hmp;exact hmp.nil_eq.symm
  ·have:iF ls r=[]:=e;rw[this] at hmp;exact hmp.eq_nil
 have hpl:(iF ls r).length+(r.filter λe=>!ls.contains e.2).length=r.length:=by
  unfold iF;rw[length_map];exact x4 _ r
 rw[<-hmp.length_eq] at hpl;have hrn2:((r.filter λe=>!ls.contains e.2).map (·.1)).Nodup:=hrn.sublist (List.filter_sublist.map _)
 (try change ai _ _ _ _ _)
 refine zV ?_;refine zs ?_;refine zL mo (λk=>True) (λk=>[(1,ak part),(8,.map 0),(12,bm 1 1 out.length),(14,an 1 mo (az ak)),(71,an 1 mo (az ak)),(72,aa mo.length),(73,aa k)]) (λk=>[bO AV.str ak ((mo.take k).foldl (λr k=>lj k r) r),eG out]) (Fg.less (by (simp only[bx,aX,cw,↓reduceIte,reduceEqDiff,an,List.take_zero,foldl_nil])<;>(repeat' apply And.intro)<;>first | rfl | trivial) (by (simp only[bx,aX,or_true,true_or,an,List.take_zero,foldl_nil])<;>(repeat' apply And.intro)<;>first | exact .inr rfl | exact .inl rfl | trivial)) zp ?_;intro k hk hall;refine zV ?_;by_cases hlt:k<mo.length;rotate_left;obtain rfl:k=mo.length:=(by omega);rw[zf];rotate_left;rw[zt hlt];obtain⟨x,hx⟩:=zx hlt;rotate_left;rotate_left
 ·refine zY ?_
  (repeat refine ai.seq ?_)
  refine ai.block ?_;refine aE (n3 hlt (aH (e:=1) (enc:=az ak) (λ_=>rfl) hx) @az.eq_1) ?_;refine zs ?_;refine ai.r0 (by rfl) (by simp only[bx,aX,an,aw,bind_some,map_some,↓reduceIte,reduceEqDiff,reduceAdd,reduceMul,reduceLeDiff,reduceLT,ah,ao,aP,yv (l:=(mo.take k).foldl (λr k=>lj k r) r)];first | done | rfl) ?_
  have hst:(mo.take (k+1)).foldl (λr k=>lj k r) r=lj x ((mo.take k).foldl (λr k=>lj k r) r):=by rw[bo hx,List.foldl_append];rfl
  refine aE (zi hlt (show mo.length<=1000000 by omega)) ?_;refine zX hlt (cI hst) trivial
 refine zN ?_;refine ai.exit ?_;rw[List.take_length,hdel];generalize hr':(r.filter λe=>!ls.contains e.2)=r' at hgo hpl hrn2
 have hme:r'.length+(if mo=[] then 0 else 1)<r.length+1/\r'.length+(if mo=[] then 1 else 2)<=fu-1:=by
  by_cases h0:mo=[]
  ·rw[if_pos h0,if_pos h0];omega
  ·have:0<mo.length:=Nat.pos_of_ne_zero λh=>h0 (length_eq_zero_iff.1 h);rw[if_neg h0,if_neg h0];omega
 have hsz2:(out++mo).length+r'.length<=ps.length/\mo.length<=ps.length+1:=by rw[length_append];omega
 have hmk:=aW (enc:=az ak) (λ_=>rfl);have hmo1:(mo.flatMap (az ak)).all dU=true:=nz (λ_=>rfl) mo;by_cases h0:mo=[]
 ·subst h0;rw[append_nil] at hgo hsz2;by_cases h1:out=[]
  ·subst h1;refine aE (n2 @dy @length_nil.{0}) ?_;refine zV ?_;exact⟨_,_,hme.1,(cI (n3 @dy @iG @length_nil.{0})),r',[],[],fu-1,⟨hrn2,hme.2⟩,hgo,hsz2,rfl,rfl⟩
  ·have h1l:¬out.length=0:=λh=>h1 (length_eq_zero_iff.1 h);rw[bV h1l,gG h1];refine aE (n2 @length_nil.{0} (show out.length<=1000000 by omega)) ?_;refine zV ?_;exact⟨_,_,hme.1,(Fg.less (by (simp only[bx,aX,cw,↓reduceIte,reduceEqDiff,an,bV h1l,gG h1,length_nil])<;>(repeat' apply And.intro)<;>first | rfl | trivial) (by (simp only[bx,aX,or_true,true_or,an,bV h1l,gG h1,length_nil])<;>(repeat' apply And.intro)<;>first | exact .inr rfl | exact .inl rfl | trivial)),r',[],out,fu-1,⟨hrn2,hme.2⟩,hgo,hsz2,rfl,rfl⟩
 have hmol2:¬mo.length=0:=λh=>h0 (length_eq_zero_iff.1 h);by_cases h1:out=[]
 ·subst h1;rw[nil_append] at hgo hsz2;refine aE (n8 @dy @iG @length_nil.{0} hmol2 (show mo.length<=1000000 by omega) hmo1 hmk @jy) ?_;refine zV ?_;exact⟨_,_,hme.1,((Fg.rn (f':=[(1,ak part),(8,.map 0),(12,.buf 1 mo.length 1 none),(13,an 1 mo (az ak))]) (n:=87) (S':=[bO AV.str ak r',.cells (mo.flatMap (az ak))]) [0,2] (by decide) rfl (by (simp only[si,ec,aX,an,Jf,aZ (aB (enc:=az ak) (λ_=>rfl) mo)])<;>(repeat' apply And.intro)<;>first | trivial | exact .inl rfl | exact .inr rfl | exact .inr trivial | exact .inl trivial) (by (simp only[bx,ec,aX,an,Jf,aZ (aB (enc:=az ak) (λ_=>rfl) mo)])<;>(repeat' apply And.intro)<;>first | rfl | trivial))).trans (Fg.less (by (simp only[bx,aX,cw,↓reduceIte,reduceEqDiff,an,bV hmol2,gG h0])<;>(repeat' apply And.intro)<;>first | rfl | trivial) (by (simp only[bx,aX,or_true,true_or,an,bV hmol2,gG h0])<;>(repeat' apply And.intro)<;>first | exact .inr rfl | exact .inl rfl | trivial)),r',mo,mo,fu-1,⟨hrn2,hme.2⟩,hgo,hsz2,rfl,rfl⟩
 ·have h1l:¬out.length=0:=λh=>h1 (length_eq_zero_iff.1 h);have hol:=aJ (enc:=az ak) (e:=1) (λ_=>rfl) out;rw[mul_one] at hol;have hot:(out.flatMap (az ak)).take out.length=out.flatMap (az ak):=take_of_length_le (by rw[hol];exact le_refl _)
  have hq:¬(out++mo)=[]:=by simp[h1]
  have hql:(out++mo).length=out.length+mo.length:=length_append;rw[bV h1l,gG h1]
  have hap:(out.flatMap (az ak)++mo.flatMap (az ak)).map (bf 1)=(out++mo).flatMap (az ak):=by rw[List.map_append,hmk,hmk,List.flatMap_append]
  refine zs ?_;refine ai.r0 (by rfl) (by simp only[bx,aX,an,aw,bind_some,map_some,↓reduceIte,reduceEqDiff,reduceAdd,reduceMul,reduceLeDiff,reduceLT,ah,ao,aP,hmol2,show mo.length<=1000000 by omega,show out.length<=1000000 by omega,hmo1,hol,mul_one,le_refl,hot,hmk,jy,hap];first | done | rfl) ?_;refine zV ?_;exact⟨_,_,hme.1,(Fg.less (by (simp only[bx,aX,cw,↓reduceIte,reduceEqDiff,an,bV (show ¬(out.length+mo.length)=0 by omega),gG hq,hql])<;>(repeat' apply And.intro)<;>first | rfl | trivial) (by (simp only[bx,aX,or_true,true_or,an,bV (show ¬(out.length+mo.length)=0 by omega),gG hq,hql])<;>(repeat' apply And.intro)<;>first | exact .inr rfl | exact .inl rfl | trivial)),r',mo,out++mo,fu-1,⟨hrn2,hme.2⟩,hgo,hsz2,rfl,rfl⟩
def AQ(l1 l2 l3 l4 l5 l6:Int):List SV:=[aa l1,aa l2,aa l3,aa l4,aa l5,aa l6]
theorem O7(a b x y:List SV)(off:Nat)(h:off=a.length):((a++(x++(y++b))).drop (off+x.length)).take y.length=y:=by
 subst h;rw[drop_append,show a.length+x.length-a.length=x.length by omega,drop_of_length_le (by omega),nil_append,drop_append,Nat.sub_self,drop_of_length_le (le_refl _),nil_append,List.drop_zero,List.take_append_of_le_length (le_refl _),take_of_length_le (le_refl _)]
theorem Pr(a b x y z:List SV)(off:Nat)(h:off=a.length)(hz:z.length=y.length):(a++(x++(y++b))).take (off+x.length)++(z++(a++(x++(y++b))).drop (off+x.length+z.length))=a++(x++(z++b)):=by
 subst h
 rw[List.take_append,show a.length+x.length-a.length=x.length by omega,take_of_length_le (by omega),List.take_append_of_le_length (le_refl _),take_of_length_le (le_refl _),
  drop_append,drop_of_length_le (by omega),nil_append,show a.length+x.length+z.length-a.length=x.length+z.length by omega,drop_append,drop_of_length_le (by omega),nil_append,show x.length+z.length-x.length=y.length by omega,drop_append,drop_of_length_le (le_refl _),nil_append,Nat.sub_self,List.drop_zero]
 simp
def LW(l1 l2 l3 l4 l5 l6:Int)(u:iu)(d1 d2:Int):List SV:=AQ (eW jB l1 l2 u.u1 u.u2).1 (eW jB l1 l2 u.u1 u.u2).2 (eW jB l3 l4 u.u3 u.u4).1 (eW jB l3 l4 u.u3 u.u4).2 (eW jB l5 l6 d1 d2).1 (eW jB l5 l6 d1 d2).2
set_option maxHeartbeats 4000000 in
theorem CQ(a b:List SV)(l1 l2 l3 l4 l5 l6:Int)(u:iu)(d1 d2:Int)(hg:cr (a++(AQ l1 l2 l3 l4 l5 l6++b))=true):SC Tryz.prog 44 [.ptr 0 a.length,.ag (dJ u),kJ d1 d2] [.cells (a++(AQ l1 l2 l3 l4 l5 l6++b))] []
 (λr S'=>r=.bI []/\S'=[.cells (a++(LW l1 l2 l3 l4 l5 l6 u d1 d2++b))]):=by
 refine Gk 35 Tryz.func44 ?_;have hp1:=oH l1 l2 u.u1 u.u2;have hp2:=oH l3 l4 u.u3 u.u4;have hp3:=oH l5 l6 d1 d2;unfold LW;generalize eW jB l1 l2 u.u1 u.u2=q1 at hp1 ⊢;generalize eW jB l3 l4 u.u3 u.u4=q2 at hp2 ⊢;generalize eW jB l5 l6 d1 d2=q3 at hp3 ⊢;obtain⟨cs,hcs⟩:∃cs,cs=a++(AQ l1 l2 l3 l4 l5 l6++b):=⟨_,rfl⟩;rw[<-hcs] at hg ⊢;have hk:∀o:Nat,cs.map (bf o)=cs:=λo=>bK hg
 have hl:cs.length=a.length+(6+b.length):=by rw[hcs,length_append,length_append];rfl
 have g1:(cs.drop a.length).take 2=[aa l1,aa l2]:=by rw[hcs];exact O7 a (aa l3::aa l4::aa l5::aa l6::b) [] [aa l1,aa l2] a.length rfl
 have g2:(cs.drop (a.length+2)).take 2=[aa l3,aa l4]:=by rw[hcs];exact O7 a (aa l5::aa l6::b) [aa l1,aa l2] [aa l3,aa l4] a.length rfl
 have g3:(cs.drop (a.length+4)).take 2=[aa l5,aa l6]:=by rw[hcs];exact O7 a b [aa l1,aa l2,aa l3,aa l4] [aa l5,aa l6] a.length rfl
 obtain⟨c1,hc1⟩:∃c1,c1=cs.take a.length++(aa q1.1::aa q1.2::cs.drop (a.length+2)):=⟨_,rfl⟩
 have e1:c1=a++([aa q1.1,aa q1.2]++([aa l3,aa l4,aa l5,aa l6]++b)):=by rw[hc1,hcs];exact Pr a (aa l3::aa l4::aa l5::aa l6::b) [] [aa l1,aa l2] [aa q1.1,aa q1.2] a.length rfl rfl
 obtain⟨c2,hc2⟩:∃c2,c2=c1.take (a.length+2)++(aa q2.1::aa q2.2::c1.drop (a.length+2+2)):=⟨_,rfl⟩
 have e2:c2=a++([aa q1.1,aa q1.2]++([aa q2.1,aa q2.2]++([aa l5,aa l6]++b))):=by rw[hc2,e1];exact Pr a (aa l5::aa l6::b) [aa q1.1,aa q1.2] [aa l3,aa l4] [aa q2.1,aa q2.2] a.length rfl rfl
 obtain⟨c3,hc3⟩:∃c3,c3=c2.take (a.length+4)++(aa q3.1::aa q3.2::c2.drop (a.length+4+2)):=⟨_,rfl⟩
 have e3:c3=a++(AQ q1.1 q1.2 q2.1 q2.2 q3.1 q3.2++b):=by rw[hc3,e2];exact Pr a b [aa q1.1,aa q1.2,aa q2.1,aa q2.2] [aa l5,aa l6] [aa q3.1,aa q3.2] a.length rfl rfl
 have hl1:c1.length=a.length+(6+b.length):=by rw[e1];simp;omega
 have hl2:c2.length=a.length+(6+b.length):=by rw[e2];simp;omega
 rw[<-e3];refine aE (n3 @dJ.eq_1 @kJ.eq_1 hk) ?_;refine ai.post ?_;refine zs ?_;refine oW [0,0,0,0,8,24,56,0,128,504,0,1024,3072,7168,0,16384,65528,0,131072,393216,917504,0,4194296,8388601,16777209,33554425,67108859,134217723,268435451,536870911,1073741823,2147483647] ?_;refine nL (n4 hl (show a.length+2<=a.length+(6+b.length) by omega) g1 @add_zero) ?_;refine SD.k (by rfl) rfl rfl (by rfl) rfl rfl (Gh @kJ.eq_1) (hp1) (zw) rfl ?_;refine nL (n5 hl @Nat.add_assoc (show a.length+4<=a.length+(6+b.length) by omega) g2 @add_zero) ?_;refine SD.k (by rfl) rfl rfl (by rfl) rfl rfl (Gh @kJ.eq_1) (hp2) (zw) rfl ?_;refine nL (n5 hl @Nat.add_assoc (show a.length+6<=a.length+(6+b.length) by omega) g3 @add_zero) ?_;refine SD.k (by rfl) rfl rfl (by rfl) rfl rfl (Gh @kJ.eq_1) (hp3) (zw) rfl ?_;refine nL @add_zero ?_;refine SD.e (by rfl) rfl (by rfl) rfl rfl (by rfl) (gY (n6 @nj.eq_1 @kJ.eq_1 hl @add_zero (show a.length+2<=a.length+(6+b.length) by omega) (Eq.symm hc1))) ?_;refine nL @add_zero ?_;refine SD.e (by rfl) rfl (by rfl) rfl rfl (by rfl) (gY (n5 @nj.eq_1 @kJ.eq_1 hl1 (show a.length+2+2<=a.length+(6+b.length) by omega) (Eq.symm hc2))) ?_;refine nL @add_zero ?_;refine SD.e (by rfl) rfl (by rfl) rfl rfl (by rfl) (gY (n5 @nj.eq_1 @kJ.eq_1 hl2 (show a.length+4+2<=a.length+(6+b.length) by omega) (Eq.symm hc3))) ?_;refine zM ?_;refine⟨⟨[(1000000,.ptr 0 0)],35,[.cells c3],[]⟩,(cI @ia.eq_1),?_⟩;exact zP []
def mV(e:bB):iu:=⟨e.u1,e.u2,e.u3,e.u4,e.u5,e.u6⟩
def vX(u:iu)(d:Int×Int)(p:aG):aG:={ p with l1:=(eW jB p.l1 p.l2 u.u1 u.u2).1,l2:=(eW jB p.l1 p.l2 u.u1 u.u2).2,l3:=(eW jB p.l3 p.l4 u.u3 u.u4).1,l4:=(eW jB p.l3 p.l4 u.u3 u.u4).2,l5:=(eW jB p.l5 p.l6 d.1 d.2).1,l6:=(eW jB p.l5 p.l6 d.1 d.2).2 }
def yO(dmg:bE)(ins:List (List Nat))(e:bB)(p:aG):aG:=if ins.contains p.name=true then vX (mV e) (p9 dmg (mV e)) p else p
def H9(dmg:bE)(ps:List aG)(e:bB):List aG:=ps.map (yO dmg (lr ps e.part++[e.part]) e)
def pQ(c:List aU)(dmg:bE):Nat->List bB->List aG->List aG×Int×Int
 | _,[],s=>(s,-1,0)
 | i,e::r,s=>if (aV c s e).2=0 then (if e.op=4 then pQ c dmg (i+1) r (H9 dmg (aV c s e).1 e) else pQ c dmg (i+1) r (aV c s e).1) else ([],(i:Int),(aV c s e).2)
def lV(day:Int)(e:bB):Bool:=decide (day<e.day)
def runN(c:List aU)(dmg:bE)(l:List bB)(day:Int):List aG×Int×Int:=if (mX c&&eK dmg)=true then pQ c dmg 0 (fW (eR (lV day) l)) [] else ([],-1,1)
def Oj(r:List aG×Int×Int):SV:=.bI [.ag [an 14 r.1 ae],aa r.2.1,aa r.2.2]
theorem gn.QK{p:aG}(h:gn p)(u:iu)(d:Int×Int):gn (vX u d p):=⟨h.name,h.kind,h.bD,h.slot,h.len,h.prop⟩
theorem EU{l:List aG}{x p:aG}(h:p∈c7 l x):p=x\/p∈l:=by
 unfold c7 at h;split at h
 ·rcases List.mem_or_eq_of_mem_set h with h | h
  ·exact .inr h
  ·exact .inl h
 ·rcases List.mem_append.1 h with h | h
  ·exact .inr (List.mem_of_mem_take h)
  ·rcases List.mem_cons.1 h with h | h
   ·exact .inl h
   ·exact .inr (List.mem_of_mem_drop h)
theorem EV{l:List bG}{x p:bG}(h:p∈lA l x):p=x\/p∈l:=by
 unfold lA at h;split at h
 ·rcases List.mem_or_eq_of_mem_set h with h | h
  ·exact .inr h
  ·exact .inl h
 ·rcases List.mem_append.1 h with h | h
  ·exact .inr (List.mem_of_mem_take h)
  ·rcases List.mem_cons.1 h with h | h
   ·exact .inl h
   ·exact .inr (List.mem_of_mem_drop h)
theorem ET(l:List aG)(x:aG):(c7 l x).length<=l.length+1:=by
 unfold c7;split
 ·rw[List.length_set];omega
 ·rw[length_append,length_cons,List.length_take,List.length_drop];omega
theorem Hd{l:List aG}{x:aG}:c7 l x≠[]:=by
 unfold c7;split
 ·rename_i h;intro e;have e2:=congrArg List.length e;rw[List.length_set] at e2;have e3:l=[]:=length_eq_zero_iff.1 e2;subst e3;simp[eJ] at h
 ·simp
theorem sg:iV []:=⟨Nat.zero_le _,λb hb=>by cases hb⟩
theorem GK(c:List aU)(ps:List aG)(e:bB)(hps:∀p∈ps,gn p)(he:oZ e):(∃p,aV c ps e=(c7 ps p,0)/\gn p)\/∃k,aV c ps e=([],k)/\k≠0:=by
 have hget:∀name p,pz ps (qL 0 [] ps) name=some p->gn p:=by
  intro name p h;unfold pz at h;split at h
  ·exact hps p (List.mem_of_getElem? h)
  ·cases h
 unfold aV;split
 ·split
  ·split
   ·unfold AX;split
    ·exact .inr ⟨3,rfl,by decide⟩
    ·split
     ·exact .inr ⟨4,rfl,by decide⟩
     ·split
      ·exact .inr ⟨7,rfl,by decide⟩
      ·exact .inl ⟨_,rfl,⟨he.part,he.kind,sg,sg,by simp[qq],λx hx=>by simp[qq] at hx⟩⟩
   ·split
    ·rename_i p h hp hh;have hpo:=hget _ _ hp;split
     ·exact .inr ⟨5,rfl,by decide⟩
     ·unfold jN;simp only
      repeat' split
      all_goals first
       | exact .inr ⟨_,rfl,by decide⟩
       | exact .inl ⟨p,rfl,hpo⟩
       | exact .inl ⟨_,rfl,⟨hpo.name,hpo.kind,he.bD,he.slot,hpo.len,hpo.prop⟩⟩
       | exact .inl ⟨_,rfl,⟨hpo.name,hpo.kind,sg,sg,hpo.len,hpo.prop⟩⟩
       | exact .inl ⟨_,rfl,⟨hpo.name,hpo.kind,hpo.bD,hpo.slot,hpo.len,hpo.prop⟩⟩
       | (
        refine .inl ⟨_,rfl,⟨hpo.name,hpo.kind,hpo.bD,hpo.slot,?_,?_⟩⟩
        ·rename_i hle;show(lA p.props ⟨e.key,e.value⟩).length<=_;omega
        ·intro x hx
         rcases EV hx with rfl | hx
         ·exact⟨he.key,he.value⟩
         ·exact hpo.prop x hx)
    ·exact .inr ⟨2,rfl,by decide⟩
  ·exact .inr ⟨1,rfl,by decide⟩
 ·exact .inr ⟨1,rfl,by decide⟩
theorem ub{c:List aU}{ps:List aG}{e:bB}(hps:∀p∈ps,gn p)(he:oZ e):(∀p∈(aV c ps e).1,gn p)/\(aV c ps e).1.length<=ps.length+1/\((aV c ps e).2=0->(aV c ps e).1≠[])/\((aV c ps e).2≠0->(aV c ps e).1=[]):=by
 rcases GK c ps e hps he with⟨p,h,hp⟩ | ⟨k,h,hk⟩
 ·rw[h];refine⟨λq hq=>?_,ET _ _,λ_=>Hd,λh=>absurd rfl h⟩
  rcases EU hq with rfl | hq
  ·exact hp
  ·exact hps q hq
 ·rw[h];exact⟨λq hq=>by simp at hq,Nat.zero_le _,λh=>absurd h hk,λ_=>rfl⟩
theorem Jv{dmg:bE}{ps:List aG}{e:bB}(hps:∀p∈ps,gn p):(∀p∈H9 dmg ps e,gn p)/\(H9 dmg ps e).length=ps.length:=by
 refine⟨λp hp=>?_,length_map _⟩;obtain⟨q,hq,rfl⟩:=mem_map.1 hp;unfold yO;split
 ·exact(hps q hq).QK _ _
 ·exact hps q hq
theorem vp(e:bB)(day:Int):PC Tryz.prog 37 [.ag (aF e),.ip [aa day]] (·=aA (lV day e)):=by
 refine pB 8 Tryz.func37 ?_;refine aE @aF.eq_1 ?_;refine zV ?_;refine zE ?_;exact zO [.tmp 3]
end Go.Proofs
