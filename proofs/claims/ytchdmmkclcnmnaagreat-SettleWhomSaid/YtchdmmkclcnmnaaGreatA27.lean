/- Lemmas of this claim, each with its conditions. -/
import Derived.Test.YtchdmmkclcnmnaaGreatA26
import Derived.Test.YtchdmmkclcnmnaaGreatA19
import Derived.Test.YtchdmmkclcnmnaaGreatA17
set_option linter.all false
open List (length_nil length_eq_zero_iff nil_append filterMap_nil Perm map_nil mem_map)
open Nat renaming reduceEqDiff -> aa, reduceLeDiff -> ad, reduceAdd -> aj, reduceLT -> al, reduceMul -> ax, le_refl -> aR, add_zero -> a5, reduceSub -> bd, mul_one -> bv, pos_of_ne_zero -> bw, le_trans -> b0, add_assoc -> b6, sub_self -> b7
open List renaming length_append -> ac, length_cons -> af, length_map -> ap, drop_of_length_le -> ay, getElem?_map -> aS, take_of_length_le -> a1, filter_cons -> a2, drop_append -> a6, contains_iff_mem -> a7, take_append_of_le_length -> a8, append_nil -> a9, mem_or_eq_of_mem_set -> ba, getElem?_eq_getElem -> bb, length_filterMap_le -> bc, filterMap_append -> be, length_filter_le -> bh, mem_of_getElem? -> bi, mem_of_mem_drop -> bk, mem_of_mem_take -> bo, filterMap_cons -> bt, nodup_nil -> bx, filter_nil -> b2, length_set -> b3, map_append -> b4, drop_zero -> b5
open Option renaming bind_some -> a0, map_some -> a4
open And renaming intro -> a3
open Bool renaming eq_iff_iff -> b1
namespace Go.Proofs
open Go.Ev
set_option maxRecDepth 100000
def jh(ls:List (List Nat))(hd:jF):List (List Nat):=(hd.filter λe=>ls.contains e.2).map (·.1)
def IK(ls:List (List Nat))(hd:jF)(e:List Nat×List Nat):jh ls (hd++[e])=jh ls hd++(if ls.contains e.2=true then [e.1] else []):=by
 unfold jh;rw[List.filter_append,b4];cases h:ls.contains e.2
 ·rw[a2,un (by rw[h];decide)];rfl
 ·rw[a2,ul h];rfl
def yz{k:List Nat}:∀{l:jF},(lV k l).length<=l.length
 | []=>aR _
 | e::l=>by
  rw[lV];split
  ·exact Nat.le_succ _
  ·exact Nat.succ_le_succ yz
def wi:∀(ks:List (List Nat)) {r:jF},(r.map (·.1)).Nodup->ks.foldl (λr k=>lV k r) r=r.filter λe=>!ks.contains e.1
 | [],r,_=>by
  rw[List.foldl_nil];symm;rw[List.filter_eq_self];intro a _;rfl
 | k::ks,r,h=>by
  rw[List.foldl_cons,lf h];have hn:((r.filter λe=>!decide (e.1=k)).map (·.1)).Nodup:=h.sublist ((List.filter_sublist).map _);rw[wi ks hn,List.filter_filter]
  congr 1
  funext e;rw[List.contains_cons];by_cases hh:e.1=k
  ·simp[hh]
  ·simp[hh]
def LB{r:jF}{ls mo:List (List Nat)}(hn:(r.map (·.1)).Nodup)(hm:mo.Perm (jh ls r)):mo.foldl (λr k=>lV k r) r=r.filter λe=>!ls.contains e.2:=by
 rw[wi mo hn];apply List.filter_congr;intro e he
 congr 1
 rw[b1,a7,hm.mem_iff];unfold jh;constructor
 ·intro h;obtain⟨e',he',h2⟩:=mem_map.1 h;obtain⟨h3,h4⟩:=List.mem_filter.1 he'
  have:e'=e:=by
   obtain⟨i,hi⟩:=List.mem_iff_getElem?.1 h3;obtain⟨j,hj⟩:=List.mem_iff_getElem?.1 he
   have g1:(r.map (·.1))[i]?=some e'.1:=by rw[aS,hi];rfl
   have g2:(r.map (·.1))[j]?=some e'.1:=by rw[aS,hj,h2];rfl
   have:=(List.getElem?_inj (bD g1) hn).1 (g1.trans g2.symm);subst this;rw[hi] at hj;cases hj;rfl
  rw[this] at h4;exact h4
 ·intro h;exact List.mem_map_of_mem (List.mem_filter.2 ⟨he,h⟩)
def C7:∀(l:List aH) (i:Nat) (m:List (List Nat×Int)),(rU i m l).length<=m.length+l.length
 | [],_,_=>aR _
 | p::r,i,m=>by
  rw[rU];refine b0 (C7 r _ _) ?_
  cases h:dy p.name m with
  | true=>simp only[if_true,af];omega
  | false=>simp only[Bool.false_eq_true,if_false,mS h,ac,af,length_nil];omega
def z6{α:Type}(p:α->Bool):∀l:List α,(l.filter p).length+(l.filter λx=>!p x).length=l.length
 | []=>rfl
 | a::l=>by
  have:=z6 p l;cases h:p a
  ·rw[a2,un (by rw[h];decide),a2,ul (by rw[h];rfl),af,af];omega
  ·rw[a2,ul h,a2,un (by rw[h];decide),af,af];omega
def IJ{ls:List (List Nat)}{a b:jF}(h:a.Perm b):(jh ls a).Perm (jh ls b):=(h.filter _).map _
def cz{p o e n:Nat}(h:o≠p):names p (bn o e n)=false:=by
 unfold bn;split
 ·exact jo _
 ·rw[names];exact ut h
def dY(q:Nat->Nat)(o e n:Nat):fU q (bn o e n)=bn (q o) e n:=by
 unfold bn;split
 ·rw[OV]
 ·rw[DZ]
def y9(r:jF)(bs:List Nat)(c:Nat):SO:=.map (r.map λe=>.str e.1) (r.map λe=>ae e.2) (some (bs,c))
def vx(o:Nat)(r:jF)(bs:List Nat)(c:Nat):bQ o (y9 r bs c)=y9 r bs c:=by
 unfold y9;rw[bQ]
 congr 1
 exact bI (eK (uv:=ae) (λ_=>rfl) r)
def K3(q:Nat->Nat)(r:jF)(bs:List Nat)(c:Nat):nk q (y9 r bs c)=y9 r bs c:=by
 unfold y9;rw[GM]
 congr 1
 exact aY (eK (uv:=ae) (λ_=>rfl) r)
def K2(q:Nat->Nat)(r:jF):nk q (bz AV.str ae r)=bz AV.str ae r:=by
 unfold bz;rw[GM]
 congr 1
 exact aY (eK (uv:=ae) (λ_=>rfl) r)
set_option maxHeartbeats 4000000 in
def He(ps:List aH)(part:List Nat)(hlen:ps.length<=100000):SC Tryz.prog 44 [.ag [ak 14 ps ah],ae part] [] [] (λr S'=>r=bn 0 1 (lZ ps part).length/\S'=[e8 (lZ ps part)]):=by
 refine K6 87 Tryz.func44 ?_;refine kD ?_;refine zK (we ps (by omega)) ?_ (hfl:=.inr (bp.refl rfl));have hgood:H4 ps (rU 0 [] ps):=E6 (ps:=ps) rfl ⟨λe he=>by simp at he,bx⟩
 have hMl:(rU 0 [] ps).length<=ps.length:=by have:=C7 ps 0 [];simpa using this
 obtain⟨M,hM⟩:∃M,M=rU 0 [] ps:=⟨_,rfl⟩
 have hN:lZ ps part=if dy part M=true then dM (dT (ps.length+2) (lV part (ku ps M)) [part]) else []:=by rw[hM];rfl
 rw[<-hM] at hgood hMl;refine cM (n2 @HW.eq_1 (Eq.symm hM)) ?_;refine zs ?_;refine ar.r0 (by rfl) (by simp only[bP,bg,ak,aw,a0,a4,↓reduceIte,aa,aj,ax,ad,al,ai,an,aU,wV (l:=M)];first | done | rfl) ?_;refine zV ?_;cases h1:dy part M
 ·refine cL ?_;rw[h1,un (by decide)] at hN;refine ar.fg (st':=⟨[(4,cN)],87,[.gone],[]⟩) zH ?_;refine zE ?_;exact zP [.tmp 4] (hq:=by (try simp only[dh,aW]);first | done | (rw[hN];exact⟨rfl,rfl⟩))
 rw[h1,ul rfl] at hN;refine iK ?_;refine zC ?_;refine aI.TC (ks:=M.map λe=>.str e.1) (vs:=M.map λe=>ab e.2) (by rfl) rfl rfl (by rfl) rfl (by simp only[aw]) ?_;intro bs c hbs;refine cM @jU ?_
 (repeat refine ar.seq ?_)
 refine ar.block (ar.loop (λm st=>∃pos:List Nat,pos.Nodup/\(∀j∈pos,j<M.length)/\M.length-pos.length=m/\st=⟨[(1,ae part),(5,.ptr 1 0),(8,.map 2),(33,.ptr 3 0)],87,[.gone,.cells [ak 14 ps ah,nZ AV.str ab M],bz AV.str ae (ku ps (bq M pos)),.oL (M.map λe=>.str e.1) (M.map λe=>ab e.2) bs c pos],[]⟩) M.length (bL (n5 @bz.eq_1 @bq.eq_1 @ku.eq_1 @filterMap_nil.{0,0} @map_nil.{0,0})) ⟨[],bx,λj hj=>by simp at hj,rfl,rfl⟩ (by rintro m st ⟨pos,_,_,_,rfl⟩;rfl) ?_);rintro m st ⟨pos,hpn,hpl,rfl,rfl⟩;refine zC ?_;refine aI.Tx (by rfl) rfl rfl (by rfl) rfl rfl (λj hj=>by rw[ap];exact hpl j hj) ?_ ?_;rotate_left
 ·intro j hj hjn;rw[ap] at hj;obtain⟨e,he⟩:∃e,M[j]?=some e:=⟨M[j],bb hj⟩;obtain⟨q1,q2,q3⟩:=oU hpn hpl hj hjn;obtain⟨i,x,hi,hx,hxn⟩:=hgood.1 e (bi he);have hil:=bD hx;have hsn:=lh M pos he;have hfresh:=Iu hgood.2 he hjn;refine zR ?_;refine eQ ?_;refine zC ?_;refine aI.Ts (k:=.str e.1) (v:=ab e.2) (by rfl) rfl rfl (by rfl) rfl rfl (by rw[aS,he];rfl) (by rw[aS,he];rfl) ?_;refine zR ?_;rw[hi];refine aC (n3 hil (aG (e:=14) (enc:=ah) (λ_=>rfl) hx) @ah.eq_1) ?_
  have hin:Dm ps e.2=x.bN:=by unfold Dm;rw[hi,Int.toNat_natCast,hx]
  by_cases hx0:x.bN=[]
  ·refine aC (wd hx0) ?_;refine zN ?_
   have hr:ku ps (bq M (pos++[j]))=ku ps (bq M pos):=by
    rw[hsn];unfold ku;rw[be,bt,ul (by rw[hin,hx0]),filterMap_nil,a9]
   exact⟨M.length-(pos++[j]).length,_,by rw[ac];simp only[af,length_nil];omega,(bL hr),pos++[j],q1,q2,rfl,rfl⟩
  ·refine aC (ut hx0) ?_;refine zY ?_;refine zs ?_;refine ar.r0 (by rfl) (by simp only[bP,bg,ak,aw,a0,a4,↓reduceIte,aa,aj,ax,ad,al,ai,an,aU,JK (l:=ku ps (bq M pos))];first | done | rfl) ?_
   have hr:ku ps (bq M (pos++[j]))=cw e.1 x.bN (ku ps (bq M pos)):=by
    rw[mS (by
     cases hh:dy e.1 (ku ps (bq M pos)) with
     | false=>rfl
     | true=>exact t8 (Ab (tD.1 hh)) hfresh),hsn]
    unfold ku;rw[be,bt,un (by rw[hin];exact hx0),filterMap_nil,hin]
   exact⟨M.length-(pos++[j]).length,_,by rw[ac];simp only[af,length_nil];omega,(bL hr),pos++[j],q1,q2,rfl,rfl⟩
 intro hall;have hperm:(bq M pos).Perm M:=mK hpn hpl λj hj=>hall j (by rw[ap];exact hj);refine zR ?_;refine dZ ?_;refine zs ?_;refine ar.r0 (by rfl) (by simp only[bP,bg,ak,aw,a0,a4,↓reduceIte,aa,aj,ax,ad,al,ai,an,aU,Ay (l:=ku ps (bq M pos))];first | done | rfl) ?_;obtain⟨r0,hr0⟩:∃r0,r0=lV part (ku ps (bq M pos)):=⟨_,rfl⟩;have hnk:((bq M pos).map (·.1)).Nodup:=(hperm.map (·.1)).nodup_iff.2 hgood.2
 have hrp:r0.Perm (lV part (ku ps M)):=by
  rw[hr0,lf (jz hnk),lf (jz hgood.2)];exact(hperm.filterMap _).filter _
 have hr0n:(r0.map (·.1)).Nodup:=by
  rw[hr0,lf (jz hnk)];exact(jz hnk).sublist (List.filter_sublist.map _)
 have hr0l:r0.length<=ps.length:=by
  rw[hrp.length_eq];exact b0 yz (b0 (bc _ _) hMl)
 have hN2:lZ ps part=dM (dT (ps.length+2) r0 [part]):=by
  rw[hN];exact sN (oa _ hrp.symm (λ_=>rfl) Iff.rfl)
 rw[<-hr0];clear hN hperm hall;refine zV ?_;refine aC @jU ?_;refine ar.fg (Fg.freeze (f':=[(1,ae part),(8,.map 2),(12,cN),(13,ak 1 [part] (aA ae))]) 4 rfl (λh=>by cases h) (rK (n4 @ak.eq_1 @aA.eq_1 @List.flatMap_cons.{0,0} @List.flatMap_nil.{0,0}))) ?_;refine ar.fg (st':=⟨[(1,ae part),(8,.map 0),(12,cN),(13,ak 1 [part] (aA ae))],87,[bz AV.str ae r0,.gone],[]⟩) (Fg.rn [2,0] (by decide) rfl (HY @K2) (HZ @K2)) ?_;clear hr0 hrp;obtain⟨T,hT0⟩:∃T,T=dT (ps.length+2) r0 [part]:=⟨_,rfl⟩;rw[<-hT0] at hN2
 (repeat refine ar.seq ?_)
 refine ar.block (ar.loop (λm st=>∃(r:jF) (ls out:List (List Nat)) (fu:Nat),((r.map (·.1)).Nodup/\r.length+(if ls=[] then 1 else 2)<=fu)/\(out++dT fu r ls).Perm T/\(out.length+r.length<=ps.length/\ls.length<=ps.length+1)/\(r.length+if ls=[] then 0 else 1)=m/\st=⟨[(1,ae part),(8,.map 0),(12,bn 1 1 out.length),(13,ak 1 ls (aA ae))],87,[bz AV.str ae r,e8 out],[]⟩) (r0.length+1) (bL (n3 @eH @j6 @length_nil.{0})) ⟨r0,[part],[],ps.length+2,⟨hr0n,by rw[un (by simp)];omega⟩,by rw[hT0];exact Perm.refl _,⟨by simpa using hr0l,by simp⟩,rfl,rfl⟩ (by rintro m st ⟨r,ls,out,fu,_,_,_,_,rfl⟩;rfl) ?_);rintro m st ⟨r,ls,out,fu,⟨hrn,hfu⟩,hT,⟨hsz,hlsl⟩,rfl,rfl⟩;clear hr0n hr0l hT0;by_cases hls:ls=[]
 ·subst hls;refine aC (show decide (0<(([]:List (List Nat)).length:Int))=false by simp) ?_;refine dZ ?_
  have hgo:dT fu r []=[]:=by
   cases fu with
   | zero=>rfl
   | succ k=>rw[dT,ul rfl]
  rw[hgo,a9] at hT
  have hres:lZ ps part=dM out:=by rw[hN2];exact(sN hT).symm
  by_cases ho:out=[]
  ·subst ho;refine gG (n2 @eH @length_nil.{0}) ?_;refine zK uH ?_;refine zR ?_;refine zV ?_;refine ar.fg (st':=⟨[(4,cN)],87,[.gone],[]⟩) zH ?_;refine zE ?_;exact zP [.tmp 4] (hq:=by (try simp only[dh,aW]);first | done | (rw[hres,show dM []=[] from rfl];exact⟨rfl,rfl⟩))
  ·have hol:¬out.length=0:=λh=>ho (length_eq_zero_iff.1 h);rw[bV hol,ig ho];refine zC ?_;refine aI.sk [1] (by rfl) rfl rfl (by rfl) rfl zc (sS out (by omega) ho) (by simp only[ef,bg,ak,↓reduceIte,aa,aj,bd,ax,ad,al,jU,aY (aB (enc:=aA ae) (λ_=>rfl) _),bC (aB (enc:=aA ae) (λ_=>rfl) _)];first | done | rfl) rfl (by decide) (by simp only[sD,ef,bg,ak,jU,aY (aB (enc:=aA ae) (λ_=>rfl) _),bC (aB (enc:=aA ae) (λ_=>rfl) _)]<;>(repeat' apply a3)<;>first | trivial | rfl | (intro hh;cases hh)) (by simp only[xw,ef,bg,ak,aj,al,decide_true,jU,aY (aB (enc:=aA ae) (λ_=>rfl) _),bC (aB (enc:=aA ae) (λ_=>rfl) _)];first | done | rfl) (by simp only[xw,ef,bg,ak,aj,al,decide_true,jU,aY (aB (enc:=aA ae) (λ_=>rfl) _),bC (aB (enc:=aA ae) (λ_=>rfl) _)];first | done | rfl) (by simp only[ef,bg,ak,↓reduceIte,aa,aj,bd,ax,ad,al,jU,aY (aB (enc:=aA ae) (λ_=>rfl) _),bC (aB (enc:=aA ae) (λ_=>rfl) _)];first | done | rfl) (by simp only[ef,bg,ak,↓reduceIte,aa,aj,bd,ax,ad,al,jU,aY (aB (enc:=aA ae) (λ_=>rfl) _),bC (aB (enc:=aA ae) (λ_=>rfl) _),dJ,dB,bQ,bf,bP];first | done | rfl) (by simp only[ef,bg,ak,↓reduceIte,aa,aj,bd,ax,ad,al,jU,aY (aB (enc:=aA ae) (λ_=>rfl) _),bC (aB (enc:=aA ae) (λ_=>rfl) _),dJ,dB,bQ,bf,bP];first | done | rfl) ?_;refine zR ?_;refine zV ?_;have hsl:(dM out).length=out.length:=(qP out).length_eq;have hsne:¬dM out=[]:=λe=>hol (by rw[<-hsl,e];rfl);refine ar.fg (st':=⟨[(4,.buf 0 out.length 1 none)],87,[.cells ((dM out).flatMap (aA ae))],[]⟩) (Fg.rn [1] (by decide) rfl (by (simp only[qw,ef,bg,ak,aY (aB (enc:=aA ae) (λ_=>rfl) (dM out))])<;>(repeat' apply a3)<;>first | trivial | exact .inl rfl | exact .inr rfl | exact .inr trivial | exact .inl trivial) (by (simp only[bP,ef,bg,ak,aY (aB (enc:=aA ae) (λ_=>rfl) (dM out))])<;>(repeat' apply a3)<;>first | rfl | trivial)) ?_;refine zE ?_;exact zP [.tmp 4] (hq:=by (try simp only[dh,aW]);first | done | (rw[hres,hsl,bV hol,ig hsne];exact⟨rfl,rfl⟩))
 rw[un hls] at hfu ⊢;have hl0:0<ls.length:=bw λh=>hls (length_eq_zero_iff.1 h);refine aC (show decide (0<(ls.length:Int))=true by simp only[wr];omega) ?_;refine eQ ?_;refine kD ?_;refine aI.Uq (oo:=0) (ks:=r.map λe=>.str e.1) (vs:=r.map λe=>ae e.2) (b:=none) (by rfl) rfl rfl (by rfl) rfl rfl (by simp only[aw]) ?_;intro bs c hbs;rw[ap] at hbs;change aI _ _ _ _ ⟨_,_,gO [y9 r bs c,e8 out] _,_⟩ _;refine aI.r0 (by rfl) (by simp only[bP,bg,ak,aw,a0,a4,↓reduceIte,aa,aj,ax,ad,al,ai,an,aU,fN,vx,cz (show 1≠2 by decide)];first | done | rfl) ?_
 (repeat refine ar.seq ?_)
 refine ar.block (ar.loop (λm st=>∃pos:List Nat,pos.Nodup/\(∀j∈pos,j<r.length)/\r.length-pos.length=m/\st=⟨[(1,ae part),(8,.map 0),(12,bn 1 1 out.length),(13,ak 1 ls (aA ae)),(14,bn 3 1 (jh ls (bq r pos)).length),(58,.ptr 2 0)],87,[y9 r bs c,e8 out,.iter (.map 0) bs c pos,e8 (jh ls (bq r pos))],[]⟩) r.length (Fg.less (by (simp only[bP,bg,dr,↓reduceIte,aa,ak,bq,jh,filterMap_nil,b2,map_nil,eH,j6,length_nil,cz (show 1≠2 by decide)])<;>(repeat' apply a3)<;>first | rfl | trivial) (by (simp only[bP,bg,or_true,true_or,ak,bq,jh,filterMap_nil,b2,map_nil,eH,j6,length_nil,cz (show 1≠2 by decide)])<;>(repeat' apply a3)<;>first | exact .inr rfl | exact .inl rfl | trivial)) ⟨[],bx,λj hj=>by simp at hj,rfl,rfl⟩ (by rintro m st ⟨pos,_,_,_,rfl⟩;rfl) ?_);rintro m st ⟨pos,hpn,hpl,rfl,rfl⟩;refine zC ?_;refine aI.Um (ks:=r.map λe=>.str e.1) (vs:=r.map λe=>ae e.2) (by rfl) rfl rfl (by rfl) rfl rfl rfl (λj hj=>by rw[ap];exact hpl j hj) ?_ ?_;rotate_left
 ·intro j hj hjn;rw[ap] at hj;obtain⟨e,he⟩:∃e,r[j]?=some e:=⟨r[j],bb hj⟩;obtain⟨q1,q2,q3⟩:=oU hpn hpl hj hjn;have hsn:=lh r pos he;have hms:=IK ls (bq r pos) e;rw[<-hsn] at hms
  have hml:(jh ls (bq r pos)).length<=100000:=by
   unfold jh;rw[ap];have h1:=bh (λe:List Nat×List Nat=>ls.contains e.2) (bq r pos);have h2:(bq r pos).length<=pos.length:=bc _ _;omega
  generalize jh ls (bq r pos)=mo at hms hml;refine zR ?_;refine eQ ?_;refine zC ?_;refine aI.Uj (ks:=r.map λe=>.str e.1) (vs:=r.map λe=>ae e.2) (k:=.str e.1) (v:=ae e.2) (by rfl) rfl rfl (by rfl) rfl rfl rfl (by rw[aS,he];rfl) (by rw[aS,he];rfl) ?_;refine zR ?_;refine zC ?_;refine zK (kV ls e.2 (by omega)) ?_;cases hc:ls.contains e.2
  ·rw[hc,un (by decide),a9] at hms;refine zR ?_;refine zN ?_;exact⟨r.length-(pos++[j]).length,_,by rw[ac];simp only[af,length_nil];omega,(bL hms),pos++[j],q1,q2,rfl,rfl⟩
  ·rw[hc,ul rfl] at hms;refine zR ?_;refine zY ?_;have happ:=eh (enc:=aA ae) (e:=1) (λ_=>rfl) (λ_=>rfl) 3 mo e.1;have hcl:=aJ (enc:=aA ae) (e:=1) (λ_=>rfl) mo;rw[show aA ae e.1=[ae e.1] from rfl,bv] at happ;by_cases hmo:mo=[]
   ·subst hmo;refine zs ?_;refine ar.r0 (by rfl) (by simp only[bP,bg,ak,aw,a0,a4,↓reduceIte,aa,aj,ax,ad,al,ai,an,aU,eH,length_nil,j6,fN,vx,cz (show 1≠4 by decide),cz (show 1≠5 by decide)];first | done | rfl) ?_;exact⟨r.length-(pos++[j]).length,_,by rw[ac];simp only[af,length_nil];omega,((Fg.rn (f':=[(1,ae part),(8,.map 0),(12,bn 1 1 out.length),(13,ak 1 ls (aA ae)),(14,.buf 3 1 1 none),(58,.ptr 2 0)]) (n:=87) (S':=[y9 r bs c,e8 out,.iter (.map 0) bs c (pos++[j]),.cells [ae e.1]]) [0,1,2,5] (by decide) rfl (HY (n3 @K3 @eM @dY)) (HZ (n3 @K3 @eM @dY)))).trans (bL (n7 hms @nil_append.{0} @e8.eq_1 @aA.eq_1 @List.flatMap_cons.{0,0} @List.flatMap_nil.{0,0} @bn.eq_1)),pos++[j],q1,q2,rfl,rfl⟩
   ·have hmol:¬mo.length=0:=λh=>hmo (length_eq_zero_iff.1 h);rw[bV hmol,ig hmo]
    have hq:mo++[e.1]≠[]:=by simp
    have hql:(mo++[e.1]).length=mo.length+1:=by rw[ac];rfl
    refine zs ?_;refine ar.r0 (by rfl) (by simp only[bP,bg,ak,aw,a0,a4,↓reduceIte,aa,aj,ax,ad,al,ai,an,aU,fN,vx,cz (show 1≠4 by decide),cz (show 1≠3 by decide),aZ (enc:=aA ae) (λ_=>rfl) _ mo,hcl,bv,aR,show mo.length<=1000000 by omega,happ];first | done | rfl) ?_;exact⟨r.length-(pos++[j]).length,_,by rw[ac];simp only[af,length_nil];omega,(bL (n4 hms hql @DE (ig hq))),pos++[j],q1,q2,rfl,rfl⟩
 intro hall;have hperm:(bq r pos).Perm r:=mK hpn hpl λj hj=>hall j (by rw[ap];exact hj);have hmp:(jh ls (bq r pos)).Perm (jh ls r):=IJ hperm;obtain⟨mo,hmo⟩:∃mo,mo=jh ls (bq r pos):=⟨_,rfl⟩;rw[<-hmo] at hmp ⊢;clear hall;refine zR ?_;refine dZ ?_;refine ar.fg (st':=⟨[(1,ae part),(8,.map 0),(12,bn 1 1 out.length),(13,ak 1 ls (aA ae)),(14,ak 1 mo (aA ae))],87,[bz AV.str ae r,e8 out],[]⟩) ?_ ?_
 ·refine Fg.trans (b:=⟨_,87,[y9 r bs c,e8 out],[]⟩) ?_ (Fg.JY (S:=[y9 r bs c,e8 out]) (ks:=r.map λe=>.str e.1) (vs:=r.map λe=>ae e.2) (b:=some (bs,c)) 0 rfl);by_cases h0:mo=[]
  ·rw[h0];exact Fg.trans (Fg.wk (f':=[(1,ae part),(8,.map 0),(12,bn 1 1 out.length),(13,ak 1 ls (aA ae)),(14,ak 1 ([]:List (List Nat)) (aA ae))]) ⟨.inl rfl,.inl rfl,.inl rfl,.inl rfl,.inr (.nil _),trivial⟩) zH
  ·have hmol:¬mo.length=0:=λh=>h0 (length_eq_zero_iff.1 h);rw[bV hmol,ig h0];exact Fg.trans (Fg.freeze (f':=[(1,ae part),(8,.map 0),(12,bn 1 1 out.length),(13,ak 1 ls (aA ae)),(14,ak 1 mo (aA ae))]) 3 rfl (λh=>by cases h) ⟨.inl rfl,.inl rfl,.inl rfl,.inl rfl,.inr (.buf rfl (by rw[cV (enc:=aA ae) (e:=1) (λ_=>rfl)];exact bp.refl (aB (λ_=>rfl) _)) (by rw[aJ (enc:=aA ae) (e:=1) (λ_=>rfl)];exact aR _)),trivial⟩) zH
 have hmol:mo.length<=r.length:=by
  rw[hmp.length_eq];unfold jh;rw[ap];exact bh _ _
 have hdel:=LB hrn hmp
 have hgo:((out++mo)++dT (fu-1) (r.filter λe=>!ls.contains e.2) mo).Perm T:=by
  refine Perm.trans ?_ hT;obtain⟨k,rfl⟩:∃k,fu=k+1:=⟨fu-1,by omega⟩;rw[dT,un hls,List.append_assoc];refine Perm.append_left out (hmp.append ?_);refine oa k (Perm.refl _) (λx=>?_) ⟨λe=>?_,λe=>?_⟩
  ·rw[b1,a7,a7];exact hmp.mem_iff
  ·rw[e] at hmp;exact hmp.nil_eq.symm
  ·have:jh ls r=[]:=e;rw[this] at hmp;exact hmp.eq_nil
 have hpl:(jh ls r).length+(r.filter λe=>!ls.contains e.2).length=r.length:=by
  unfold jh;rw[ap];exact z6 _ r
 rw[<-hmp.length_eq] at hpl;have hrn2:((r.filter λe=>!ls.contains e.2).map (·.1)).Nodup:=hrn.sublist (List.filter_sublist.map _)
 (try change ar _ _ _ _ _)
 refine zV ?_;refine zs ?_;refine zL mo (λk=>True) (λk=>[(1,ae part),(8,.map 0),(12,bn 1 1 out.length),(14,ak 1 mo (aA ae)),(71,ak 1 mo (aA ae)),(72,ab mo.length),(73,ab k)]) (λk=>[bz AV.str ae ((mo.take k).foldl (λr k=>lV k r) r),e8 out]) (bL (n2 @List.take_zero.{0} @List.foldl_nil.{0,0})) zp ?_;intro k hk hall;refine zT mo k ?_ ?_;rintro rfl;rotate_left;intro x hx hlt;rotate_left;rotate_left
 ·refine eQ ?_;refine aC (n3 hlt (aG (e:=1) (enc:=aA ae) (λ_=>rfl) hx) @aA.eq_1) ?_;refine zs ?_;refine ar.r0 (by rfl) (by simp only[bP,bg,ak,aw,a0,a4,↓reduceIte,aa,aj,ax,ad,al,ai,an,aU,Ay (l:=(mo.take k).foldl (λr k=>lV k r) r)];first | done | rfl) ?_
  have hst:(mo.take (k+1)).foldl (λr k=>lV k r) r=lV x ((mo.take k).foldl (λr k=>lV k r) r):=by rw[br hx,List.foldl_append];rfl
  refine aC (zi hlt (show mo.length<=1000000 by omega)) ?_;refine zX hlt (bL hst) trivial
 refine dZ ?_;rw[List.take_length,hdel];generalize hr':(r.filter λe=>!ls.contains e.2)=r' at hgo hpl hrn2
 have hme:r'.length+(if mo=[] then 0 else 1)<r.length+1/\r'.length+(if mo=[] then 1 else 2)<=fu-1:=by
  by_cases h0:mo=[]
  ·rw[ul h0,ul h0];omega
  ·have:0<mo.length:=bw λh=>h0 (length_eq_zero_iff.1 h);rw[un h0,un h0];omega
 have hsz2:(out++mo).length+r'.length<=ps.length/\mo.length<=ps.length+1:=by rw[ac];omega
 have hmk:=aZ (enc:=aA ae) (λ_=>rfl);have hmo1:(mo.flatMap (aA ae)).all ec=true:=oJ (λ_=>rfl) mo;by_cases h0:mo=[]
 ·subst h0;rw[a9] at hgo hsz2;by_cases h1:out=[]
  ·subst h1;refine aC (n2 @eH @length_nil.{0}) ?_;refine zV ?_;exact⟨_,_,hme.1,(bL (n3 @eH @j6 @length_nil.{0})),r',[],[],fu-1,⟨hrn2,hme.2⟩,hgo,hsz2,rfl,rfl⟩
  ·have h1l:¬out.length=0:=λh=>h1 (length_eq_zero_iff.1 h);rw[bV h1l,ig h1];refine aC (n2 @length_nil.{0} (show out.length<=1000000 by omega)) ?_;refine zV ?_;exact⟨_,_,hme.1,(Fg.less (by (simp only[bP,bg,dr,↓reduceIte,aa,ak,bV h1l,ig h1,length_nil])<;>(repeat' apply a3)<;>first | rfl | trivial) (by (simp only[bP,bg,or_true,true_or,ak,bV h1l,ig h1,length_nil])<;>(repeat' apply a3)<;>first | exact .inr rfl | exact .inl rfl | trivial)),r',[],out,fu-1,⟨hrn2,hme.2⟩,hgo,hsz2,rfl,rfl⟩
 have hmol2:¬mo.length=0:=λh=>h0 (length_eq_zero_iff.1 h);by_cases h1:out=[]
 ·subst h1;rw[nil_append] at hgo hsz2;refine aC (n8 @eH @j6 @length_nil.{0} hmol2 (show mo.length<=1000000 by omega) hmo1 hmk @jU) ?_;refine zV ?_;exact⟨_,_,hme.1,((Fg.rn (f':=[(1,ae part),(8,.map 0),(12,.buf 1 mo.length 1 none),(13,ak 1 mo (aA ae))]) (n:=87) (S':=[bz AV.str ae r',.cells (mo.flatMap (aA ae))]) [0,2] (by decide) rfl (by (simp only[qw,ef,bg,ak,K2,aY (aB (enc:=aA ae) (λ_=>rfl) mo)])<;>(repeat' apply a3)<;>first | trivial | exact .inl rfl | exact .inr rfl | exact .inr trivial | exact .inl trivial) (by (simp only[bP,ef,bg,ak,K2,aY (aB (enc:=aA ae) (λ_=>rfl) mo)])<;>(repeat' apply a3)<;>first | rfl | trivial))).trans (Fg.less (by (simp only[bP,bg,dr,↓reduceIte,aa,ak,bV hmol2,ig h0])<;>(repeat' apply a3)<;>first | rfl | trivial) (by (simp only[bP,bg,or_true,true_or,ak,bV hmol2,ig h0])<;>(repeat' apply a3)<;>first | exact .inr rfl | exact .inl rfl | trivial)),r',mo,mo,fu-1,⟨hrn2,hme.2⟩,hgo,hsz2,rfl,rfl⟩
 ·have h1l:¬out.length=0:=λh=>h1 (length_eq_zero_iff.1 h);have hol:=aJ (enc:=aA ae) (e:=1) (λ_=>rfl) out;rw[bv] at hol;have hot:(out.flatMap (aA ae)).take out.length=out.flatMap (aA ae):=a1 (by rw[hol];exact aR _)
  have hq:¬(out++mo)=[]:=by simp[h1]
  have hql:(out++mo).length=out.length+mo.length:=ac;rw[bV h1l,ig h1]
  have hap:(out.flatMap (aA ae)++mo.flatMap (aA ae)).map (bf 1)=(out++mo).flatMap (aA ae):=by rw[b4,hmk,hmk,List.flatMap_append]
  refine zs ?_;refine ar.r0 (by rfl) (by simp only[bP,bg,ak,aw,a0,a4,↓reduceIte,aa,aj,ax,ad,al,ai,an,aU,hmol2,show mo.length<=1000000 by omega,show out.length<=1000000 by omega,hmo1,hol,bv,aR,hot,hmk,jU,hap];first | done | rfl) ?_;refine zV ?_;exact⟨_,_,hme.1,(Fg.less (by (simp only[bP,bg,dr,↓reduceIte,aa,ak,bV (show ¬(out.length+mo.length)=0 by omega),ig hq,hql])<;>(repeat' apply a3)<;>first | rfl | trivial) (by (simp only[bP,bg,or_true,true_or,ak,bV (show ¬(out.length+mo.length)=0 by omega),ig hq,hql])<;>(repeat' apply a3)<;>first | exact .inr rfl | exact .inl rfl | trivial)),r',mo,out++mo,fu-1,⟨hrn2,hme.2⟩,hgo,hsz2,rfl,rfl⟩
def B9(l1 l2 l3 l4 l5 l6:Int):List SV:=[ab l1,ab l2,ab l3,ab l4,ab l5,ab l6]
def Ru(a b x y:List SV)(off:Nat)(h:off=a.length):((a++(x++(y++b))).drop (off+x.length)).take y.length=y:=by
 subst h;rw[a6,show a.length+x.length-a.length=x.length by omega,ay (by omega),nil_append,a6,b7,ay (aR _),nil_append,b5,a8 (aR _),a1 (aR _)]
def RM(a b x y z:List SV)(off:Nat)(h:off=a.length)(hz:z.length=y.length):(a++(x++(y++b))).take (off+x.length)++(z++(a++(x++(y++b))).drop (off+x.length+z.length))=a++(x++(z++b)):=by
 subst h
 rw[List.take_append,show a.length+x.length-a.length=x.length by omega,a1 (by omega),a8 (aR _),a1 (aR _),
  a6,ay (by omega),nil_append,show a.length+x.length+z.length-a.length=x.length+z.length by omega,a6,ay (by omega),nil_append,show x.length+z.length-x.length=y.length by omega,a6,ay (aR _),nil_append,b7,b5]
 simp
def N8(l1 l2 l3 l4 l5 l6:Int)(u:iW)(d1 d2:Int):List SV:=B9 (fk j7 l1 l2 u.u1 u.u2).1 (fk j7 l1 l2 u.u1 u.u2).2 (fk j7 l3 l4 u.u3 u.u4).1 (fk j7 l3 l4 u.u3 u.u4).2 (fk j7 l5 l6 d1 d2).1 (fk j7 l5 l6 d1 d2).2
set_option maxHeartbeats 4000000 in
def Et(a b:List SV)(l1 l2 l3 l4 l5 l6:Int)(u:iW)(d1 d2:Int)(hg:cr (a++(B9 l1 l2 l3 l4 l5 l6++b))=true):SC Tryz.prog 48 [.ptr 0 a.length,.ag (dU u),lq d1 d2] [.cells (a++(B9 l1 l2 l3 l4 l5 l6++b))] []
 (λr S'=>r=.bE []/\S'=[.cells (a++(N8 l1 l2 l3 l4 l5 l6 u d1 d2++b))]):=by
 refine GU 35 Tryz.func48 ?_;have hp1:=pO l1 l2 u.u1 u.u2;have hp2:=pO l3 l4 u.u3 u.u4;have hp3:=pO l5 l6 d1 d2;unfold N8;generalize fk j7 l1 l2 u.u1 u.u2=q1 at hp1 ⊢;generalize fk j7 l3 l4 u.u3 u.u4=q2 at hp2 ⊢;generalize fk j7 l5 l6 d1 d2=q3 at hp3 ⊢;obtain⟨cs,hcs⟩:∃cs,cs=a++(B9 l1 l2 l3 l4 l5 l6++b):=⟨_,rfl⟩;rw[<-hcs] at hg ⊢;have hk:∀o:Nat,cs.map (bf o)=cs:=λo=>bI hg
 have hl:cs.length=a.length+(6+b.length):=by rw[hcs,ac,ac];rfl
 have g1:(cs.drop a.length).take 2=[ab l1,ab l2]:=by rw[hcs];exact Ru a (ab l3::ab l4::ab l5::ab l6::b) [] [ab l1,ab l2] a.length rfl
 have g2:(cs.drop (a.length+2)).take 2=[ab l3,ab l4]:=by rw[hcs];exact Ru a (ab l5::ab l6::b) [ab l1,ab l2] [ab l3,ab l4] a.length rfl
 have g3:(cs.drop (a.length+4)).take 2=[ab l5,ab l6]:=by rw[hcs];exact Ru a b [ab l1,ab l2,ab l3,ab l4] [ab l5,ab l6] a.length rfl
 obtain⟨c1,hc1⟩:∃c1,c1=cs.take a.length++(ab q1.1::ab q1.2::cs.drop (a.length+2)):=⟨_,rfl⟩
 have e1:c1=a++([ab q1.1,ab q1.2]++([ab l3,ab l4,ab l5,ab l6]++b)):=by rw[hc1,hcs];exact RM a (ab l3::ab l4::ab l5::ab l6::b) [] [ab l1,ab l2] [ab q1.1,ab q1.2] a.length rfl rfl
 obtain⟨c2,hc2⟩:∃c2,c2=c1.take (a.length+2)++(ab q2.1::ab q2.2::c1.drop (a.length+2+2)):=⟨_,rfl⟩
 have e2:c2=a++([ab q1.1,ab q1.2]++([ab q2.1,ab q2.2]++([ab l5,ab l6]++b))):=by rw[hc2,e1];exact RM a (ab l5::ab l6::b) [ab q1.1,ab q1.2] [ab l3,ab l4] [ab q2.1,ab q2.2] a.length rfl rfl
 obtain⟨c3,hc3⟩:∃c3,c3=c2.take (a.length+4)++(ab q3.1::ab q3.2::c2.drop (a.length+4+2)):=⟨_,rfl⟩
 have e3:c3=a++(B9 q1.1 q1.2 q2.1 q2.2 q3.1 q3.2++b):=by rw[hc3,e2];exact RM a b [ab q1.1,ab q1.2,ab q2.1,ab q2.2] [ab l5,ab l6] [ab q3.1,ab q3.2] a.length rfl rfl
 have hl1:c1.length=a.length+(6+b.length):=by rw[e1];simp;omega
 have hl2:c2.length=a.length+(6+b.length):=by rw[e2];simp;omega
 rw[<-e3];refine aC (n3 @dU.eq_1 @lq.eq_1 hk) ?_;refine ar.post ?_;refine zs ?_;refine oz [0,0,0,0,8,24,56,0,128,504,0,1024,3072,7168,0,16384,65528,0,131072,393216,917504,0,4194296,8388601,16777209,33554425,67108859,134217723,268435451,536870911,1073741823,2147483647] ?_;refine ni (n4 hl (show a.length+2<=a.length+(6+b.length) by omega) g1 @a5) ?_;refine SD.k (by rfl) rfl rfl (by rfl) rfl rfl (J3 @lq.eq_1) (hp1) (zw) rfl ?_;refine ni (n5 hl @b6 (show a.length+4<=a.length+(6+b.length) by omega) g2 @a5) ?_;refine SD.k (by rfl) rfl rfl (by rfl) rfl rfl (J3 @lq.eq_1) (hp2) (zw) rfl ?_;refine ni (n5 hl @b6 (show a.length+6<=a.length+(6+b.length) by omega) g3 @a5) ?_;refine SD.k (by rfl) rfl rfl (by rfl) rfl rfl (J3 @lq.eq_1) (hp3) (zw) rfl ?_;refine ni @a5 ?_;refine SD.e (by rfl) rfl (by rfl) rfl rfl (by rfl) (gQ (n6 @oy.eq_1 @lq.eq_1 hl @a5 (show a.length+2<=a.length+(6+b.length) by omega) (Eq.symm hc1))) ?_;refine ni @a5 ?_;refine SD.e (by rfl) rfl (by rfl) rfl rfl (by rfl) (gQ (n5 @oy.eq_1 @lq.eq_1 hl1 (show a.length+2+2<=a.length+(6+b.length) by omega) (Eq.symm hc2))) ?_;refine ni @a5 ?_;refine SD.e (by rfl) rfl (by rfl) rfl rfl (by rfl) (gQ (n5 @oy.eq_1 @lq.eq_1 hl2 (show a.length+4+2<=a.length+(6+b.length) by omega) (Eq.symm hc3))) ?_;refine zM ?_;refine⟨⟨[(1000000,.ptr 0 0)],35,[.cells c3],[]⟩,(bL @jS.eq_1),?_⟩;exact zP []
def nT(e:bJ):iW:=⟨e.u1,e.u2,e.u3,e.u4,e.u5,e.u6⟩
def xK(u:iW)(d:Int×Int)(p:aH):aH:={ p with l1:=(fk j7 p.l1 p.l2 u.u1 u.u2).1,l2:=(fk j7 p.l1 p.l2 u.u1 u.u2).2,l3:=(fk j7 p.l3 p.l4 u.u3 u.u4).1,l4:=(fk j7 p.l3 p.l4 u.u3 u.u4).2,l5:=(fk j7 p.l5 p.l6 d.1 d.2).1,l6:=(fk j7 p.l5 p.l6 d.1 d.2).2 }
def AS(dmg:bB)(ins:List (List Nat))(e:bJ)(p:aH):aH:=if ins.contains p.name=true then xK (nT e) (q7 dmg (nT e)) p else p
def J0(dmg:bB)(ps:List aH)(e:bJ):List aH:=ps.map (AS dmg (lZ ps e.part++[e.part]) e)
def qO(c:List aP)(dmg:bB):Nat->List bJ->List aH->List aH×Int×Int
 | _,[],s=>(s,-1,0)
 | i,e::r,s=>if (aV c s e).2=0 then (if e.op=4 then qO c dmg (i+1) r (J0 dmg (aV c s e).1 e) else qO c dmg (i+1) r (aV c s e).1) else ([],(i:Int),(aV c s e).2)
def mO(day:Int)(e:bJ):Bool:=decide (day<e.day)
def runN(c:List aP)(dmg:bB)(l:List bJ)(day:Int):List aH×Int×Int:=if (lT c&&dV dmg)=true then qO c dmg 0 (gE (fh (mO day) l)) [] else ([],-1,1)
def O7(r:List aH×Int×Int):SV:=.bE [.ag [ak 14 r.1 ah],ab r.2.1,ab r.2.2]
def gR.TT{p:aH}(h:gR p)(u:iW)(d:Int×Int):gR (xK u d p):=⟨h.name,h.kind,h.bN,h.slot,h.len,h.prop⟩
def GD{l:List aH}{x p:aH}(h:p∈dg l x):p=x\/p∈l:=by
 unfold dg at h;split at h
 ·rcases ba h with h | h
  ·exact .inr h
  ·exact .inl h
 ·rcases List.mem_append.1 h with h | h
  ·exact .inr (bo h)
  ·rcases List.mem_cons.1 h with h | h
   ·exact .inl h
   ·exact .inr (bk h)
def GF{l:List bO}{x p:bO}(h:p∈mf l x):p=x\/p∈l:=by
 unfold mf at h;split at h
 ·rcases ba h with h | h
  ·exact .inr h
  ·exact .inl h
 ·rcases List.mem_append.1 h with h | h
  ·exact .inr (bo h)
  ·rcases List.mem_cons.1 h with h | h
   ·exact .inl h
   ·exact .inr (bk h)
def GC(l:List aH)(x:aH):(dg l x).length<=l.length+1:=by
 unfold dg;split
 ·rw[b3];omega
 ·rw[ac,af,List.length_take,List.length_drop];omega
def IZ{l:List aH}{x:aH}:dg l x≠[]:=by
 unfold dg;split
 ·rename_i h;intro e;have e2:=congrArg List.length e;rw[b3] at e2;have e3:l=[]:=length_eq_zero_iff.1 e2;subst e3;simp[eX] at h
 ·simp
def tC:jw []:=⟨Nat.zero_le _,λb hb=>by cases hb⟩
def It(c:List aP)(ps:List aH)(e:bJ)(hps:∀p∈ps,gR p)(he:p8 e):(∃p,aV c ps e=(dg ps p,0)/\gR p)\/∃k,aV c ps e=([],k)/\k≠0:=by
 have hget:∀name p,qv ps (rU 0 [] ps) name=some p->gR p:=by
  intro name p h;unfold qv at h;split at h
  ·exact hps p (bi h)
  ·cases h
 unfold aV;split
 ·split
  ·split
   ·unfold Cg;split
    ·exact .inr ⟨3,rfl,by decide⟩
    ·split
     ·exact .inr ⟨4,rfl,by decide⟩
     ·split
      ·exact .inr ⟨7,rfl,by decide⟩
      ·exact .inl ⟨_,rfl,⟨he.part,he.kind,tC,tC,by simp[ry],λx hx=>by simp[ry] at hx⟩⟩
   ·split
    ·rename_i p h hp hh;have hpo:=hget _ _ hp;split
     ·exact .inr ⟨5,rfl,by decide⟩
     ·unfold kC;simp only
      repeat' split
      all_goals first
       | exact .inr ⟨_,rfl,by decide⟩
       | exact .inl ⟨p,rfl,hpo⟩
       | exact .inl ⟨_,rfl,⟨hpo.name,hpo.kind,he.bN,he.slot,hpo.len,hpo.prop⟩⟩
       | exact .inl ⟨_,rfl,⟨hpo.name,hpo.kind,tC,tC,hpo.len,hpo.prop⟩⟩
       | exact .inl ⟨_,rfl,⟨hpo.name,hpo.kind,hpo.bN,hpo.slot,hpo.len,hpo.prop⟩⟩
       | (
        refine .inl ⟨_,rfl,⟨hpo.name,hpo.kind,hpo.bN,hpo.slot,?_,?_⟩⟩
        ·rename_i hle;show(mf p.props ⟨e.key,e.value⟩).length<=_;omega
        ·intro x hx
         rcases GF hx with rfl | hx
         ·exact⟨he.key,he.value⟩
         ·exact hpo.prop x hx)
    ·exact .inr ⟨2,rfl,by decide⟩
  ·exact .inr ⟨1,rfl,by decide⟩
 ·exact .inr ⟨1,rfl,by decide⟩
def vm{c:List aP}{ps:List aH}{e:bJ}(hps:∀p∈ps,gR p)(he:p8 e):(∀p∈(aV c ps e).1,gR p)/\(aV c ps e).1.length<=ps.length+1/\((aV c ps e).2=0->(aV c ps e).1≠[])/\((aV c ps e).2≠0->(aV c ps e).1=[]):=by
 rcases It c ps e hps he with⟨p,h,hp⟩ | ⟨k,h,hk⟩
 ·rw[h];refine⟨λq hq=>?_,GC _ _,λ_=>IZ,λh=>t8 rfl h⟩
  rcases GD hq with rfl | hq
  ·exact hp
  ·exact hps q hq
 ·rw[h];exact⟨λq hq=>by simp at hq,Nat.zero_le _,λh=>t8 h hk,λ_=>rfl⟩
def Lf{dmg:bB}{ps:List aH}{e:bJ}(hps:∀p∈ps,gR p):(∀p∈J0 dmg ps e,gR p)/\(J0 dmg ps e).length=ps.length:=by
 refine⟨λp hp=>?_,ap _⟩;obtain⟨q,hq,rfl⟩:=mem_map.1 hp;unfold AS;split
 ·exact(hps q hq).TT _ _
 ·exact hps q hq
def wT(e:bJ)(day:Int):PC Tryz.prog 41 [.ag (aF e),.ip [ab day]] (·=az (mO day e)):=by
 refine pB 8 Tryz.func41 ?_;refine aC @aF.eq_1 ?_;refine zV ?_;exact zo [.tmp 3]
end Go.Proofs
