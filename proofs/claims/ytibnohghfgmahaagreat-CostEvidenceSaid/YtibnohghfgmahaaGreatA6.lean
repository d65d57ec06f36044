/- Lemmas of this claim, each with its conditions. -/
import Derived.Test.YtibnohghfgmahaaGreatA5
import Derived.Test.YtibnohghfgmahaaGreatA4
import Derived.Test.YtibnohghfgmahaaGreatA2
import Derived.Shelf.SlGeneric
import Derived.Shelf.SortM.Plain
import Derived.Shelf.SortM.SortNone
import Derived.Ground.SlgmProg
import Derived.Test.YtibnohghfgmahaaGreatProg
set_option linter.all false
set_option maxHeartbeats 8000000
open Go.Proofs.Tryz (prog func130 func157 func182 func200 func37 func38 func44 func93 isAgg58 isAgg9 sizeOf9)
open List (length_append flatMap_cons length_cons length_nil append_nil take_zero length_eq_zero_iff flatMap_nil Perm nil_append all_eq_true mem_cons cons_append foldl_nil mem_map range)
open Nat (ble)
open List renaming getElem?_eq_getElem -> ac, take_of_length_le -> aj, length_take -> al, length_map -> ap, replicate -> aS, length_set -> a6, mem_of_getElem? -> a7, take_append_of_le_length -> a8, flatMap_append -> bb, length_drop -> bd, take_length -> be, drop_of_length_le -> bi, set_eq_take_append_cons_drop -> bs, append_assoc -> b6, getElem?_eq_none -> b7, getElem?_drop -> b8, getElem?_cons_succ -> cc, getD_eq_getElem?_getD -> cd, getElem?_map -> ce, all_append -> ck, length_replicate -> cl, map_append -> cp, getElem?_cons_zero -> cv, drop_append_of_le_length -> c0, sizeOf_lt_of_mem -> c4, drop_zero -> dd, take_take -> dl, flatten_nil -> dt, replicate_zero -> d0, map_cons -> d2, drop_drop -> d5, foldl_append -> d6, take_add_one -> d7, getElem?_set_self -> d8, drop_length -> d9, take_append -> eg, length_filter_le -> ei, take_append_drop -> ej, drop_succ_cons -> ey, takeWhile_cons -> eB, take_succ_cons -> eF, filter_append -> e5, getElem?_take -> e6, all_cons -> fd, ext_getElem? -> fl, flatten_cons -> fm, getElem?_set -> fo, length -> gd, drop_set -> gm
open Nat renaming le_refl -> ad, reduceEqDiff -> af, min_eq_left -> aD, reduceLeDiff -> bh, reduceAdd -> bk, reduceLT -> bv, reduceMul -> bw, reduceSub -> bW, mul_one -> b5, zero_le -> b9, zero_mul -> cf, sub_zero -> cn, pos_of_ne_zero -> ct, lt_succ_self -> dc, not_lt_zero -> dv, sub_self -> d3, succ_mul -> d4, add_comm -> el, add_zero -> em, min_def -> e3, min_eq_right -> fu, min_self -> f0, succ_pos -> f3, lt_irrefl -> ge, zero_add -> go
open Bool renaming and_eq_true -> ba, not_eq_true' -> co
open Option renaming bind_some -> bc, map_some -> ci
open And renaming intro -> bt
open Int renaming le_refl -> dD
open Array renaming getElem?_modify -> er
open Go.Proofs.Tryz renaming func240 -> e4, underlying58 -> f4, underlying9 -> f5, zeroValue58 -> f7, zeroValue9 -> gc, sizeOf58 -> gt
namespace Go.Proofs
open Go.Ev
set_option maxRecDepth 100000
abbrev nilS:SV:=.a (.slice none 0 0 (some 0))
def bnds_to{n k:Nat}{c:Option Nat}{q:IntKind}(h:k<=n):br n c none (some (.int q (k:Int))) none=some (0,k,c):=by
 unfold br gT fitsA;simp only[fR,bc,cP h,Bool.true_or,ab]
def bnds_from{n k:Nat}{c:Option Nat}{q:IntKind}(h:k<=n):br n c (some (.int q (k:Int))) none none=some (k,n,c):=by
 unfold br gT;simp only[fR,bc,cP h,ab]
def j6(a:Int)(h : -9223372036854775808<=a/\a<=9223372036854775807):bz prog .sub 3 (.int .i64 a) (.int .i64 ((0:Nat):Int))=some (.int .i64 a):=by
 have:=om (P:=prog) (t:=3) (a:=a) (b:=((0:Nat):Int)) (by simpa using h);rw[this];simp
def zeros_str(n:Nat):(rep [AV.str []] n).map SV.a=(aS n []).flatMap (one1 ae):=by
 induction n with
 | zero=>rfl
 | succ n ih=>rw[rep,cp,ih];rfl
def ones_str(l:List (List Nat)):(l.flatMap (one1 ae)).all cH=true:=by
 induction l with
 | nil=>rfl
 | cons a l ih=>rw[flatMap_cons,ck,ih];rfl
def len_str(l:List (List Nat)):(l.flatMap (one1 ae)).length=l.length:=by
 induction l with
 | nil=>rfl
 | cons a l ih=>rw[flatMap_cons,length_append,ih,length_cons];show 1+_=_;omega
def tl(n:Nat)(h0:0<n)(hb:n<=1000000):SC prog 200 [nilS,aa n] [] [] (λr S'=>r=.buf 0 0 1 none/\S'=[.cells ((aS n []).flatMap (one1 ae))]):=by
 refine Ap 27 func200 ?_
 have h1:decide ((n:Int)<0)=false:=by simp
 have h2:decide (0<(n:Int))=true:=by simp;omega
 have h3:¬n=0:=by omega
 refine(zV)<|(aq h1)<|(zN)<|(aq (n2 (j6 ((0:Nat):Int) (by decide)) (j6 n ⟨by omega,by omega⟩)))<|(aq h2)<|(zY)<|(zs) ?_;refine ak.r0 (by rfl) (gf (n8 (Ez (b9 0)) (Ez (b9 n)) hb h3 @zeros_str @ones_str @d3 @iC)) ?_;refine(zs) ?_;refine ak.r0 (by rfl) zl ?_;refine(zE) ?_;exact Bi.of (rs:=[.tmp 4]) rfl rfl zl (by (try simp only[bL,aF]);first | done | (first | exact⟨rfl,rfl⟩ | exact⟨trivial,trivial⟩ | trivial)) zd zg
def qG:SC prog 200 [nilS,aa 0] [] [] (λr S'=>r=nilS/\S'=[]):=by
 refine Ap 27 func200 ?_;refine(gi)<|(zN)<|(aq (n2 (j6 ((0:Nat):Int) (by decide)) (j6 0 (by decide))))<|(yT)<|(zV)<|(zE) ?_;exact zP [.tmp 4]
def strsE(l:List (List Nat)):List SV:=[slS 1 l (one1 ae)]
def rowR(o:Nat)(l:List (List Nat)):SV:=if l=[] then nilS else .buf o l.length 1 none
def rowS(l:List (List Nat)):List SO:=if l=[] then [] else [.cells (l.flatMap (one1 ae))]
def flat_take{α:Type}(ls:List (List α)){k:Nat}{x:List α}(h:ls[k]?=some x):(ls.take (k+1)).flatten=(ls.take k).flatten++x:=by
 rw[d7,h];simp
def flat_len_le{α:Type}(ls:List (List α))(k:Nat):(ls.take k).flatten.length<=ls.flatten.length:=by
 conv=>rhs;rw[<-ej k ls]
 rw[List.flatten_append,length_append];omega
def vQ(ls:List (List (List Nat)))(hl:ls.length<=1000000)(hb:ls.flatten.length<=1000000):
 SC prog 181 [slS 1 ls strsE] [] [] (λr S'=>r=rowR 0 ls.flatten/\S'=rowS ls.flatten):=by
 refine Ap 36 Tryz.func181 ?_;have hlen:=hl
 refine(gi)<|(zV)<|(zs) ?_;refine zL ls (λk=>True) (λk=>[(0,slS 1 ls strsE),(3,aa ((ls.take k).flatten.length:Nat)),(9,slS 1 ls strsE),(10,aa ls.length),(11,aa k)]) (λk=>[]) (Fg.less (by (simp only[bf,aN,cA,↓reduceIte,af,slS,take_zero,dt,length_nil])<;>(repeat' apply bt)<;>first | rfl | trivial) (by (simp only[bf,aN,or_true,true_or,slS,take_zero,dt,length_nil])<;>(repeat' apply bt)<;>first | exact .inr rfl | exact .inl rfl | trivial)) zp ?_;intro k hk hall;refine zT ls k ?_ ?_;rintro rfl;rotate_left;intro x hx hlt;rotate_left
 rotate_left
 ·refine(zY) ?_;have h1:=flat_take ls hx;have h2:=flat_len_le ls (k+1)
  have h3:(((ls.take k).flatten.length:Nat):Int)+((x.length:Nat):Int)=(((ls.take (k+1)).flatten.length:Nat):Int):=by rw[h1,length_append];omega
  have h4:decide ((((ls.take (k+1)).flatten.length:Nat):Int)<0)=false:=by simp
  refine(zB)<|(aq (n3 hlt (au (e:=1) (enc:=strsE) (λ_=>rfl) hx) @strsE.eq_1))<|(aq (n2 (nL (show -9223372036854775808<=(((ls.take k).flatten.length:Nat):Int)+((x.length:Nat):Int)/\(((ls.take k).flatten.length:Nat):Int)+((x.length:Nat):Int)<=9223372036854775807 from⟨by omega,by omega⟩)) h3))<|(aq h4)<|(zN)<|(aq (zi hlt hlen)) ?_;refine zX hlt zH trivial
 refine(cV) ?_;have htk:ls.take ls.length=ls:=be;by_cases h0:ls.flatten=[]
 ·have h0':((ls.flatten.length:Nat):Int)=0:=by rw[h0];rfl
  refine(zC) ?_;rw[htk]
  refine zS [] trivial qG ?_ (hc:=xb h0');refine(zR)<|(zV)<|(zs) ?_;refine zL ls (λk2=>True) (λk2=>[(6,nilS),(25,slS 1 ls strsE),(26,aa ls.length),(27,aa k2)]) (λk2=>[]) zH zp ?_;intro k2 hk2 hall2;refine zT ls k2 ?_ ?_;rintro rfl;rotate_left;intro x2 hx2 hlt2;rotate_left
  ·refine(cV)<|(zV)<|(zE) ?_;exact zP [.tmp 2] (hq:=by (try simp only[bL,aF]);first | done | (rw[rowR,rowS,t8 h0,t8 h0];exact⟨rfl,rfl⟩))
  refine(zY) ?_
  have hx0:x2=[]:=by
   have:=List.mem_iff_getElem?.2 ⟨k2,hx2⟩;exact List.flatten_eq_nil_iff.1 h0 x2 this
  subst hx0
  refine(zB)<|(aq (n3 hlt2 (au (e:=1) (enc:=strsE) (λ_=>rfl) hx2) @strsE.eq_1))<|(aq @length_nil.{0})<|(aq (zi hlt2 hlen)) ?_;refine zX hlt2 zH trivial
 have hpos:0<ls.flatten.length:=by
  cases h:ls.flatten with
  | nil=>exact t7 h h0
  | cons a l=>rw[length_cons];omega
 refine(zC) ?_;rw[htk]
 refine aB.sk [] (by rfl) rfl rfl (by rfl) rfl zc (tl ls.flatten.length hpos hb) (by simp only[cX,aN,slS,↓reduceIte,af,bk,bW,bw,bh,bv,bW];first | done | rfl) rfl (by decide) (by simp only[hosL,cX,aN,slS,bW]<;>(repeat' apply bt)<;>first | trivial | rfl | (intro hh;cases hh)) (by simp only[qx,cX,aN,slS,bk,bv,decide_true,bW];first | done | rfl) (by simp only[qx,cX,aN,slS,bk,bv,decide_true,bW];first | done | rfl) (by simp only[cX,aN,slS,↓reduceIte,af,bk,bW,bw,bh,bv,bW];first | done | rfl) (by simp only[cX,aN,slS,↓reduceIte,af,bk,bW,bw,bh,bv,bW,cm,bZ,killO,aH,bf];first | done | rfl) (by simp only[cX,aN,slS,↓reduceIte,af,bk,bW,bw,bh,bv,bW,cm,bZ,killO,aH,bf];first | done | rfl) ?_;refine(zR)<|(zV)<|(zs) ?_;refine Bl ls (λk2 (cs:List SV)=>((ls.take k2).flatten.length<=cs.length/\cs.take (ls.take k2).flatten.length=(ls.take k2).flatten.flatMap (one1 ae))/\(cs.map (aH 0)=cs/\((ls.take k2).flatten≠[]->cs.length=(ls.take k2).flatten.length))) (λk2 cs=>[(6,.buf 0 (ls.take k2).flatten.length 1 none),(25,slS 1 ls strsE),(26,aa ls.length),(27,aa k2)]) (λk2 cs=>[.cells cs]) (((aS ls.flatten.length []).flatMap (one1 ae))) (Fg.less (by (simp only[bf,aN,cA,↓reduceIte,af,slS,take_zero,dt,length_nil])<;>(repeat' apply bt)<;>first | rfl | trivial) (by (simp only[bf,aN,or_true,true_or,slS,take_zero,dt,length_nil])<;>(repeat' apply bt)<;>first | exact .inr rfl | exact .inl rfl | trivial)) (by exact⟨⟨b9 _,rfl⟩,iC _ _,λh=>t7 rfl h⟩) ?_;intro k2 cs hk2 hall2;refine zT ls k2 ?_ ?_;rintro rfl;rotate_left;intro x2 hx2 hlt2;rotate_left
 ·rw[htk] at hall2 ⊢;obtain⟨⟨g1,g2⟩,g3,g4⟩:=hall2
  have g5:cs=ls.flatten.flatMap (one1 ae):=by
   rw[<-g2,<-g4 h0,be]
  refine(cV)<|(zV)<|(zE) ?_;exact zP [.tmp 2] (hq:=by (try simp only[bL,aF]);first | done | (rw[rowR,rowS,ul h0,ul h0,g5];exact⟨rfl,rfl⟩))
 refine(zY) ?_;obtain⟨⟨g1,g2⟩,g3,g4⟩:=hall2;have h1:=flat_take ls hx2;have h2:=flat_len_le ls (k2+1);have h2':=h2;rw[h1,length_append] at h2
 refine(zB)<|(aq (n3 hlt2 (au (e:=1) (enc:=strsE) (λ_=>rfl) hx2) @strsE.eq_1)) ?_
 by_cases hx0:x2=[]
 ·subst hx0;rw[append_nil] at h1
  refine(aq (n2 @length_nil.{0} (show(ls.take k2).flatten.length<=1000000 by omega)))<|(aq (zi hlt2 hlen)) ?_;refine xf hlt2 (cs) (bg h1) (by rw[h1];exact⟨⟨g1,g2⟩,g3,g4⟩)
 have hx0':¬x2.length=0:=λe=>hx0 (length_eq_zero_iff.1 e)
 have g6:(cs.take ((ls.take k2).flatten.length*1)++x2.flatMap (one1 ae)).map (aH 0)=(ls.take (k2+1)).flatten.flatMap (one1 ae):=by
  rw[b5,g2,h1,<-bb,iC]
 refine(aq (n6 hx0' (show x2.length<=1000000 by omega) @ones_str (show(ls.take k2).flatten.length<=1000000 by omega) (show(ls.take k2).flatten.length*1<=cs.length by omega) g6))<|(aq (zi hlt2 hlen)) ?_;refine xf hlt2 (((ls.take (k2+1)).flatten.flatMap (one1 ae))) (bg (n2 h1 @length_append.{0})) (by refine⟨⟨?_,?_⟩,iC _ _,λ_=>len_str _⟩;(rw[len_str];exact ad _);(rw[aj (by rw[len_str];exact ad _)]))
open Go.Ev Go.RowKit
structure Wy where
 kind:List Nat
 maker:List Nat
 days:Int
 km:Int
 pct:Int
structure Pt where
 name:List Nat
 kind:List Nat
 into:List Nat
 slot:List Nat
 made:Int
 since:Int
 scr:Bool
 props:AV
 kml:Int
 kmh:Int
 cyl:Int
 cyh:Int
 dml:Int
 dmh:Int
structure Co where
 part:List Nat
 owner:List Nat
 day:Int
 am:Int
def isDy(n:Int):Bool:=decide (0<=n)&&decide (n<=40000)
def bin_quo{P:Program}{t:TypeId}{a b:Int}(hb:b≠0)(h : -9223372036854775808<=a.tdiv b/\a.tdiv b<=9223372036854775807):bz P .quo t (.int .i64 a) (.int .i64 b)=some (.int .i64 (a.tdiv b)):=by
 have h1:(iJ (-9223372036854775808) (a.tdiv b)&&iJ (a.tdiv b) 9223372036854775807)=true:=by
  rw[cL,cL];simp[h.1,h.2]
 have hz:BQ b=false:=by
  unfold BQ
  cases b with
  | ofNat n=>
   cases n with
   | zero=>exact t7 rfl hb
   | succ n=>rfl
  | negSucc n=>rfl
 simp only[bz,pg,ab,hz,ah,bR,xe,xd,h1]
def bin_rem{P:Program}{t:TypeId}{a b:Int}(hb:b≠0):bz P .rem t (.int .i64 a) (.int .i64 b)=some (.int .i64 (a.tmod b)):=by
 have hz:BQ b=false:=by
  unfold BQ
  cases b with
  | ofNat n=>
   cases n with
   | zero=>exact t7 rfl hb
   | succ n=>rfl
  | negSucc n=>rfl
 simp only[bz,pg,ab,hz,ah]
def pctN(a p:Int):Int:=if 100<2*(a*p%100)\/(2*(a*p%100)=100/\a*p/100%2≠0) then a*p/100+1 else a*p/100
def pctOk(a p:Int):Bool:=isAm a&&(decide (0<=p)&&decide (p<=100))
def mul_bnd{a p:Int}(ha:0<=a/\a<=1000000000000)(hp:0<=p/\p<=100):0<=a*p/\a*p<=100000000000000:=by
 refine⟨Int.mul_nonneg ha.1 hp.1,?_⟩;have h1:a*p<=1000000000000*p:=Int.mul_le_mul_of_nonneg_right ha.2 hp.1;omega
def pct_bnd{a p:Int}(ha:0<=a/\a<=1000000000000)(hp:0<=p/\p<=100):0<=pctN a p/\pctN a p<=a:=by
 obtain⟨h1,h2⟩:=mul_bnd ha hp;have h3:a*p<=a*100:=Int.mul_le_mul_of_nonneg_left hp.2 ha.1;unfold pctN;generalize a*p=m at *;split<;>omega
def sRow(k:List Nat):List AV:=[.str k]
def sRows_wide(ks:List (List Nat)):∀r∈ks.map sRow,r.length=1:=by intro r hr;obtain⟨t,_,rfl⟩:=List.mem_map.1 hr;rfl
def Wy.ok(w:Wy):Bool:=nameN w.kind&&(nameN w.maker&&(isDy w.days&&(isAm w.km&&(decide (0<=w.pct)&&decide (w.pct<=100)))))
def Co.ok(c:Co):Bool:=nameN c.part&&(nameN c.owner&&(isDy c.day&&isAm c.am))
structure Wy.fits (w:Wy):Prop where
 k:w.kind.length<=1000000
 kb:∀b∈w.kind,b<256
 m:w.maker.length<=1000000
 mb:∀b∈w.maker,b<256
structure Co.fits (c:Co):Prop where
 p:c.part.length<=1000000
 pb:∀b∈c.part,b<256
 o:c.owner.length<=1000000
 ob:∀b∈c.owner,b<256
def rightB(ws:List Wy)(c:Co):Bool:=ws.all Wy.ok&&c.ok
def sinceN(day fr:Int):Int:=if day<=fr then 0 else day-(if day-1000000000000<=fr then fr else day-1000000000000)
def coversB(p:Pt)(c:Co)(w:Wy):Bool:=decide (w.kind=p.kind)&&(decide (sinceN c.day p.made<=w.days)&&decide (p.kmh<=w.km))
def billOf(ws:List Wy)(po:Option Pt)(c:Co):List (List Nat×Int):=match po with
 | none=>[(c.owner,c.am)]
 | some p=>match ws.find? (coversB p c) with
  | none=>[(c.owner,c.am)]
  | some w=>bG w.maker (getM 0 w.maker (bG c.owner (c.am-pctN c.am w.pct) [(c.owner,c.am)])+pctN c.am w.pct) (bG c.owner (c.am-pctN c.am w.pct) [(c.owner,c.am)])
def pct_of_ok{w:Wy}{c:Co}(hw:w.ok=true)(hc:c.ok=true):pctOk c.am w.pct=true/\(0<=c.am/\c.am<=1000000000000)/\(0<=w.pct/\w.pct<=100):=by
 unfold Wy.ok at hw;unfold Co.ok at hc;simp only[ba,isAm,wp] at hw hc;unfold pctOk isAm;simp only[ba,wp];omega
def shL(ml:List (List Nat×Int))(ks:List (List Nat)):List Sh:=(ks.filter λk=>decide (0<getM 0 k ml)).map λk=>⟨k,getM 0 k ml⟩
def SortedK(ks:List (List Nat)):Prop:=ks.Pairwise λa b=>db b a=false
structure ListOk (ml:List (List Nat×Int)) (ss:List Sh):Prop where
 ex:∃ks:List (List Nat),ks.Perm (ml.map (·.1))/\SortedK ks/\ss=shL ml ks
def shL_snoc(ml:List (List Nat×Int))(ks:List (List Nat))(k:List Nat):shL ml (ks++[k])=if 0<getM 0 k ml then shL ml ks++[⟨k,getM 0 k ml⟩] else shL ml ks:=by
 unfold shL;rw[e5];by_cases h:0<getM 0 k ml<;>simp[h]
def shL_len(ml:List (List Nat×Int))(ks:List (List Nat)):(shL ml ks).length<=ks.length:=by
 unfold shL;rw[ap];exact ei _ _
open Go.Shelf
def oa:Go.Shelf.Ren:=⟨λ| 6=>93 | 8=>133 | 9=>132 | 19=>175 | 20=>176 | 21=>166 | 22=>167 | 23=>168 | 24=>169 | 25=>170 | 26=>171 | 27=>172 | 28=>173 | 29=>174 | 36=>192 | 31=>193 | 32=>194 | 37=>195 | 38=>196 | 39=>157 | 41=>209 | n=>n,λ| 27=>58 | 29=>9 | 3=>3 | 32=>222 | 26=>58 | 0=>0 | 44=>267 | 46=>269 | 4=>4 | 36=>260 | 35=>259 | 41=>125 | 5=>5 | 9=>9 | 53=>279 | 57=>283 | 63=>293 | 64=>294 | n=>n,λ| n=>n⟩
def nI:Go.Proofs.SlLaysM.n6 prog oa:={
 mixed:=by kernel_rfl
 f6:=⟨Tryz.f93.name,by decide,func93.trans (congrArg some (by kernel_rfl))⟩
 f8:=Tryz.func133.trans (congrArg some (by kernel_rfl))
 f9:=⟨Tryz.f132.name,by decide,Tryz.func132.trans (congrArg some (by kernel_rfl))⟩
 f19:=Tryz.func175.trans (congrArg some (by kernel_rfl))
 f20:=Tryz.func176.trans (congrArg some (by kernel_rfl))
 f21:=⟨Tryz.f166.name,by decide,Tryz.func166.trans (congrArg some (by kernel_rfl))⟩
 f22:=⟨Tryz.f167.name,by decide,Tryz.func167.trans (congrArg some (by kernel_rfl))⟩
 f23:=⟨Tryz.f168.name,by decide,Tryz.func168.trans (congrArg some (by kernel_rfl))⟩
 f24:=⟨Tryz.f169.name,by decide,Tryz.func169.trans (congrArg some (by kernel_rfl))⟩
 f25:=⟨Tryz.f170.name,by decide,Tryz.func170.trans (congrArg some (by kernel_rfl))⟩
 f26:=⟨Tryz.f171.name,by decide,Tryz.func171.trans (congrArg some (by kernel_rfl))⟩
 f27:=⟨Tryz.f172.name,by decide,Tryz.func172.trans (congrArg some (by kernel_rfl))⟩
 f28:=⟨Tryz.f173.name,by decide,Tryz.func173.trans (congrArg some (by kernel_rfl))⟩
 f29:=⟨Tryz.f174.name,by decide,Tryz.func174.trans (congrArg some (by kernel_rfl))⟩
 f31:=Tryz.func193.trans (congrArg some (by kernel_rfl))
 f32:=Tryz.func194.trans (congrArg some (by kernel_rfl))
 f36:=⟨Tryz.f192.name,by decide,Tryz.func192.trans (congrArg some (by kernel_rfl))⟩
 f37:=⟨Tryz.f195.name,by decide,Tryz.func195.trans (congrArg some (by kernel_rfl))⟩
 f38:=⟨Tryz.f196.name,by decide,Tryz.func196.trans (congrArg some (by kernel_rfl))⟩
 f39:=⟨Tryz.f157.name,by decide,func157.trans (congrArg some (by kernel_rfl))⟩
 f41:=⟨Tryz.f209.name,by decide,Tryz.func209.trans (congrArg some (by kernel_rfl))⟩
 t0:=Tryz.underlying0
 a0:=Tryz.isAgg0
 z0:=Tryz.sizeOf0
 v0:=Tryz.zeroValue0
 t3:=Tryz.underlying3
 a3:=Tryz.isAgg3
 z3:=Tryz.sizeOf3
 v3:=Tryz.zeroValue3
 t4:=Tryz.underlying4
 a4:=Tryz.isAgg4
 z4:=Tryz.sizeOf4
 v4:=Tryz.zeroValue4
 t5:=Tryz.underlying5
 a5:=Tryz.isAgg5
 z5:=Tryz.sizeOf5
 v5:=Tryz.zeroValue5
 t9:=f5
 a9:=isAgg9
 z9:=sizeOf9
 v9:=gc
 t26:=f4
 a26:=isAgg58
 z26:=gt
 v26:=f7
 t27:=f4
 a27:=isAgg58
 z27:=gt
 v27:=f7
 t29:=f5
 a29:=isAgg9
 z29:=sizeOf9
 v29:=gc
 t32:=Tryz.underlying222
 a32:=Tryz.isAgg222
 z32:=Tryz.sizeOf222
 v32:=Tryz.zeroValue222
 t35:=Tryz.underlying259
 a35:=Tryz.isAgg259
 z35:=Tryz.sizeOf259
 v35:=Tryz.zeroValue259
 t36:=Tryz.underlying260
 a36:=Tryz.isAgg260
 z36:=Tryz.sizeOf260
 v36:=Tryz.zeroValue260
 t41:=Tryz.underlying125
 a41:=Tryz.isAgg125
 z41:=Tryz.sizeOf125
 v41:=Tryz.zeroValue125
 t44:=Tryz.underlying267
 a44:=Tryz.isAgg267
 z44:=Tryz.sizeOf267
 v44:=Tryz.zeroValue267
 t46:=Tryz.underlying269
 a46:=Tryz.isAgg269
 z46:=Tryz.sizeOf269
 v46:=Tryz.zeroValue269
 t53:=Tryz.underlying279
 a53:=Tryz.isAgg279
 z53:=Tryz.sizeOf279
 v53:=Tryz.zeroValue279
 t57:=Tryz.underlying283
 a57:=Tryz.isAgg283
 z57:=Tryz.sizeOf283
 v57:=Tryz.zeroValue283
 t63:=Tryz.underlying293
 a63:=Tryz.isAgg293
 z63:=Tryz.sizeOf293
 v63:=Tryz.zeroValue293
 t64:=Tryz.underlying294
 a64:=Tryz.isAgg294
 z64:=Tryz.sizeOf294
 v64:=Tryz.zeroValue294 }
open Go.Ev Go.RowKit Go.Shelf Go.Lib Go.Sort
def le_ltL(x y:List UInt8):decide (x<=y)=!db (y.map (·.toNat)) (x.map (·.toNat)):=by
 rw[jU,bytesLess_eq];by_cases h:y<x
 ·have:¬x<=y:=λh2=>h2 h;simp[h,this]
 ·have:x<=y:=h;simp[h,this]
def rdB:Option Value->ByteArray
 | some (.string s)=>s
 | _=>ByteArray.empty
def ksB(ss:List (List UInt8)):List (List Nat):=ss.map λs=>s.map (·.toNat)
def nH(ks:List (List Nat))(v:AV)(Z:Nat)(h:Ev.H)(hout:Bo Z h v 1 (ks.map sRow))(hlen:ks.length<=1000000):
 cx prog (.func 93) [v] h (λr h'=>r=.aO []/\∃ks':List (List Nat),ks'.Perm ks/\SortedK ks'/\Bo Z h' v 1 (ks'.map sRow)/\Over Z h h'/\∀id n e c,v=.slice (some (id,0)) n e c->h.store id 0 (ks'.map sRow).flatten=some h'):=by
 intro σ w args' hv hr;obtain⟨x,rfl,hx⟩:=DE hv;rw[c9 cw func93 (by rfl)]
 rcases hout.2 with⟨e,e2⟩ | ⟨id,aX,fx,fy,hne,e2,ho,hfx,hxy,z1,z2,z3,z4,l1,l2,l3,l4⟩
 ·subst e2
  have hts:ks=[]:=by simpa using e
  subst hts
  cases hx with
  | eb hl=>
   refine Calls.mono (AnyM.slices_Sort_string_none nI none 0 w) λe w' ⟨he,hw⟩=>?_;subst hw;exact⟨_,he,.aO [],h,⟨rfl,[],.refl _,List.Pairwise.nil,hout,Over.refl _ _,λ_ _ _ _ he=>by cases he⟩,σ,V.e7,hr,.refl _ _ _⟩
 ·subst e2
  have hpos:0<ks.length:=by
   cases ks with
   | nil=>exact t7 rfl hne
   | cons=>exact f3 _
  rw[ap] at hx
  cases hx with
  | @slice _ _ _ _ _ a p c hs hl hrr hcc ha=>
  have ha:a=⟨p.b,p.d+0,none⟩:=ha.resolve_right (by omega);subst ha;obtain⟨q,carr,et,hq,hb,hsz,hlen',hVc⟩:=hr.cells ho;rw[hs] at hq;cases hq
  have hfl:(ks.map sRow).flatten.length=ks.length*1:=by
   have:=jw (s:=1) hout.1;rw[ap] at this;exact this
  have hpl:=hr.lt ho hs
  let d:List (List UInt8):=(range ks.length).map λi=>(rdB carr[p.d+i]?).data.toList
  have hdl0:d.length=ks.length:=by simp[d]
  have hspec:∀i,i<ks.length->∃s:ByteArray,carr[p.d+i]?=some (.string s)/\ks[i]?=some (s.data.toList.map (·.toNat))/\d[i]?=some s.data.toList:=λi hi=>by
   have hki:ks[i]?=some ks[i]:=ac hi
   have hg:(ks.map sRow)[i]?=some (sRow ks[i]):=by rw[ce,hki];rfl
   have h0:=sA hout.1 hg (k:=0) (by omega);obtain⟨v0,g0,V0⟩:=hVc _ _ (h0.trans (show(sRow ks[i])[0]?=some (.str ks[i]) from rfl));rw[b5,em] at g0;generalize hkk:ks[i]=kk at V0
   cases V0 with
   | @str _ s0 e0=>
    refine⟨s0,g0,by rw[hki,hkk,e0],?_⟩;show((range ks.length).map _)[i]?=_;rw[ce,List.getElem?_range hi,ci,g0];rfl
  have hH:Holds encStr w p.b (p.d+0) d.toArray:=by
   intro j hj
   have hj':j<ks.length:=by simpa [hdl0] using hj
   obtain⟨s,g1,g2,g3⟩:=hspec j hj';refine⟨?_,rq hb⟩;rw[cell_of hb,em,g1];rw[getElem!_pos d.toArray j hj]
   have:d.toArray[j]=s.data.toList:=by
    have h1:=ac (l:=d) (i:=j) (by omega);rw[g3] at h1;simpa using(Option.some.inj h1).symm
   rw[this]
  have hmain:=AnyM.slices_Sort_string nI p.b (p.d+0) c d w hH hpl (by rw[hdl0];omega);rw[hdl0] at hmain;change Calls prog 93 _ _ _ at hmain;refine Calls.mono hmain ?_;rintro e w' ⟨rfl,n,os,rfl⟩;obtain⟨d',hd'⟩:∃d',d'=d.mergeSort λx y=>decide (x<=y):=⟨_,rfl⟩;rw[<-hd']
  have hp3:d'.Perm d:=by rw[hd'];exact List.mergeSort_perm _ _
  have hp1:d'.length=ks.length:=by rw[hp3.length_eq,hdl0]
  have hsorted:d'.Pairwise λx y=>decide (x<=y)=true:=by
   rw[hd'];refine List.pairwise_mergeSort ?_ ?_ d
   ·intro a b c h1 h2;rw[le_ltL] at *;simp only[co] at *;cases h:db (c.map (·.toNat)) (a.map (·.toNat))
    ·rfl
    ·rcases fF (a.map (·.toNat)) (b.map (·.toNat)) with g | g | g
     ·have:=dz h g;rw[h2] at this;cases this
     ·rw[g,h2] at h;cases h
     ·rw[h1] at g;cases g
   ·intro a b;rw[le_ltL,le_ltL]
    rcases fF (a.map (·.toNat)) (b.map (·.toNat)) with g | g | g
    ·rw[jT g];rfl
    ·rw[g,cr];rfl
    ·rw[jT g];simp
  have hdl:ksB d=ks:=by
   apply fl;intro i;unfold ksB;by_cases hi:i<ks.length
   ·obtain⟨s,g1,g2,g3⟩:=hspec i hi;rw[ce,g3,g2];rfl
   ·rw[b7 (by simp[hdl0];omega),b7 (by omega)]
  have hperm:(ksB d').Perm ks:=by rw[<-hdl];exact hp3.map _
  have hsx:SortedK (ksB d'):=by
   unfold SortedK ksB;rw[List.pairwise_map];refine hsorted.imp ?_;intro a b h1;rw[le_ltL] at h1;simpa using h1
  have hlen2:(ksB d').length=ks.length:=by unfold ksB;rw[ap,hp1]
  have hw3:=sRows_wide (ksB d')
  have hb1:(putRow encStr (Sort.ahead w n) p.b (p.d+0) d'.toArray).heap[p.b]?=some (.cells (putCells encStr (p.d+0) d'.toArray carr) et (0,0)):=by
   unfold putRow mapBlock;simp only[er,if_true];rw[show(Sort.ahead w n).heap[p.b]?=some (.cells carr et (0,0)) from hb];rfl
  have hoth:∀b,b≠p.b->(putRow encStr (Sort.ahead w n) p.b (p.d+0) d'.toArray).heap[b]?=w.heap[b]?:=λb hbb=>by
   unfold putRow mapBlock;simp only[er];rw[ul (λe=>hbb e.symm)];rfl
  have hVn:∀(i:Nat) (a:AV),((ksB d').map sRow).flatten[i]?=some a->∃v,(putCells encStr (p.d+0) d'.toArray carr)[p.d+i]?=some v/\V σ a v:=by
   intro i a hia
   have hil:i<ks.length:=by
    have:=Ef hia;rw[jw hw3,ap,hlen2] at this;omega
   have hj:i<d'.length:=by omega
   have hrow:((ksB d').map sRow)[i]?=some (sRow (d'[i].map (·.toNat))):=by
    unfold ksB;rw[ce,ce,ac hj];rfl
   have hat:=sA hw3 hrow (k:=0) (by omega);rw[b5,em,hia] at hat
   have hcl:p.d+i<carr.size:=by omega
   have hput:(putCells encStr (p.d+0) d'.toArray carr)[p.d+i]?=some (encStr d'[i]):=by
    unfold putCells;rw[Array.getElem?_mapIdx,Array.getElem?_eq_getElem hcl,ci,t8 ⟨by omega,by simp;omega⟩];rw[show p.d+i-(p.d+0)=i by omega,getElem!_pos d'.toArray i (by simpa using hj)];simp
   refine⟨_,hput,?_⟩;cases hat;exact .str rfl
  obtain⟨r1,r2⟩:=hr.rewrite ho hs (cs':=((ksB d').map sRow).flatten) (by rw[jw hw3,ap,hlen2,hfl]) hb hb1 (by unfold putCells;rw[Array.size_mapIdx]) hVn hoth (by unfold putRow mapBlock;simp[Sort.ahead]) rfl rfl rfl
  have hbel:Below (putRow encStr (Sort.ahead w n) p.b (p.d+0) d'.toArray).heap.size (putRow encStr (Sort.ahead w n) p.b (p.d+0) d'.toArray) (grow (putRow encStr (Sort.ahead w n) p.b (p.d+0) d'.toArray) os):=
   ⟨rfl,rfl,rfl,by rw[size_grow];omega,λk hk=>by unfold grow;simp only;rw[Array.getElem?_append_left hk]⟩
  have hkeep:=oM r1 hbel;obtain⟨ao1,ao2⟩:=ku (id:=id) hfx z2 z3 z4
  have hne':(ksB d').map sRow≠[]:=by
   intro e;have:=congrArg gd e;rw[ap,hlen2] at this;simp at this;rw[this] at hpos;simp at hpos
  refine⟨_,rfl,.aO [],_,⟨rfl,ksB d',hperm,hsx,⟨hw3,.inr ⟨id,aX,id,id,hne',?_,?_,?_,.inl rfl,z1,z1,z1,z4,?_,?_,?_,?_⟩⟩,?_,?_⟩,σ,V.e7,hkeep.1,r2.trans hkeep.2⟩
  ·rw[ap,ap,hlen2]
  ·exact bC _ _ _
  ·exact qU hfx
  ·show id<(h.alone id aX).next;rw[ao2];exact l1
  ·show id<(h.alone id aX).next;rw[ao2];exact l1
  ·show id<(h.alone id aX).next;rw[ao2];exact l1
  ·show aX<(h.alone id aX).next;rw[ao2];exact l4
  ·refine ao1.trans ⟨ad _,λj hj=>aJ _ _ (by omega),λ_ _=>rfl,λhl=>jW (by omega)⟩
  ·intro id2 n2 e2 c2 he;cases he
   have hfl2:((ksB d').map sRow).flatten.length=(ks.map sRow).flatten.length:=by rw[jw hw3,ap,hlen2,hfl]
   have hone:((ksB d').map sRow).flatten.all fz=true:=by
    rw[all_eq_true];intro x hx;rw[List.mem_flatten] at hx;obtain⟨r,hr1,hr2⟩:=hx;obtain⟨k,_,rfl⟩:=mem_map.1 hr1;rw[List.mem_singleton.1 hr2];rfl
   unfold H.store;rw[ho];simp only;rw[hfl2,go,cP (ad _),hone,Bool.and_self,ab,take_zero,nil_append,bi (ad _),append_nil]
def leS(a b:List Nat):Bool:=!db b a
def leS_trans(a b c:List Nat)(h1:leS a b=true)(h2:leS b c=true):leS a c=true:=by
 unfold leS at *;simp only[co] at *;cases h:db c a
 ·rfl
 ·rcases fF a b with g | g | g
  ·have:=dz h g;rw[h2] at this;cases this
  ·rw[g,h2] at h;cases h
  ·rw[h1] at g;cases g
def leS_total(a b:List Nat):(leS a b||leS b a)=true:=by
 unfold leS
 rcases fF a b with g | g | g
 ·rw[jT g];rfl
 ·rw[g,cr];rfl
 ·rw[jT g];simp
def leS_anti{a b:List Nat}(h1:leS a b=true)(h2:leS b a=true):a=b:=by
 unfold leS at h1 h2;simp only[co] at h1 h2
 rcases fF a b with g | g | g
 ·rw[h2] at g;cases g
 ·exact g
 ·rw[h1] at g;cases g
def insN(x:List Nat):List (List Nat)->List (List Nat)
 | []=>[x]
 | y::l=>cond (leS x y) (x::y::l) (y::insN x l)
def sortN:List (List Nat)->List (List Nat)
 | []=>[]
 | x::l=>insN x (sortN l)
def insP(x:List Nat):∀l,(insN x l).Perm (x::l)
 | []=>.refl _
 | y::l=>by
  rw[insN];cases leS x y
  ·exact((insP x l).cons y).trans (.swap x y l)
  ·exact .refl _
def sortP:∀l,(sortN l).Perm l
 | []=>.refl _
 | x::l=>(insP x _).trans ((sortP l).cons x)
def insW(x:List Nat):∀l,l.Pairwise (λa b=>leS a b=true)->(insN x l).Pairwise λa b=>leS a b=true
 | [],_=>List.pairwise_singleton ..
 | y::l,h=>by
  obtain⟨h1,h2⟩:=List.pairwise_cons.1 h;rw[insN];cases g:leS x y
  ·refine List.pairwise_cons.2 ⟨λz hz=>?_,insW x l h2⟩
   rcases mem_cons.1 ((insP x l).mem_iff.1 hz) with rfl | hz
   ·have:=leS_total z y;rw[g] at this;simpa using this
   ·exact h1 z hz
  ·refine List.pairwise_cons.2 ⟨λz hz=>?_,h⟩
   rcases mem_cons.1 hz with rfl | hz
   ·exact g
   ·exact leS_trans _ _ _ g (h1 z hz)
def sortW:∀l,(sortN l).Pairwise λa b=>leS a b=true
 | []=>.nil
 | x::l=>insW x _ (sortW l)
def sortN_uniq{l ks:List (List Nat)}(hp:ks.Perm l)(hs:SortedK ks):ks=sortN l:=by
 have h2:(sortN l).Pairwise λa b=>leS a b=true:=sortW l
 have h1:ks.Pairwise λa b=>leS a b=true:=by
  unfold SortedK at hs;refine hs.imp ?_;intro a b h;unfold leS;rw[h];rfl
 have hq:ks.Perm (sortN l):=hp.trans (sortP l).symm;exact Perm.eq_of_pairwise (λa b _ _ h1 h2=>leS_anti h1 h2) h1 h2 hq
def row_str(l:List (List Nat)):(l.map sRow).flatten=l.map AV.str:=by
 induction l with
 | nil=>rfl
 | cons a l ih=>rw[d2,fm,ih];rfl
def flat_str:∀l:List (List Nat),fc (l.flatMap (one1 ae))=some (l.map AV.str)
 | []=>rfl
 | a::l=>by
  show fc (ae a::l.flatMap (one1 ae))=_;rw[fc,bx,bc,flat_str l];rfl
def kP(l:List (List Nat))(hlen:l.length<=1000000)(hne:l≠[]):SC prog 93 [.buf 0 l.length 1 none] [.cells (l.flatMap (one1 ae))] [] (λr S'=>r=.aO []/\S'=[.cells ((sortN l).flatMap (one1 ae))]):=by
 have hl2:(sortN l).length=l.length:=(sortP l).length_eq;refine SC.row (by rw[len_str,len_str,hl2]) (λθ ρ xs hx=>iq hx (ones_str _)) ?_;intro E θ ρ h avs asx aX hl hR hA ho hV ⟨⟨x,y⟩,hf,hxy,b1,b2,b3,b4⟩;have has:=jv hV (flat_str l);subst has;rw[az] at hA;obtain⟨a,r,rfl,hA1,hA2⟩:=hA;rw[aI] at hA2;subst hA2;rw[VS] at hA1;subst hA1
 have hout:Bo 0 h (.slice (some ((θ 0).id,0)) l.length 1 none) 1 (l.map sRow):=by
  refine⟨sRows_wide l,.inr ⟨(θ 0).id,aX,x,y,by simpa using hne,by rw[ap],by rw[row_str];exact ho,hf,hxy,b9 _,b9 _,b9 _,b9 _,b4,b1,b2,b3⟩⟩
 refine(nH l _ 0 h hout hlen).mono ?_;rintro v h' ⟨rfl,ks',hp,hs,_,_,hst⟩;have:=sortN_uniq hp hs;subst this;refine⟨by rw[VS];exact⟨[],rfl,by rw[aI]⟩,_,?_,hst _ _ _ _ rfl⟩;rw[row_str];exact o8 (flat_str _)
def compN(l:List (List Nat)):List (List Nat):=l.foldl (λacc x=>if acc.getLast?=some x then acc else acc++[x]) []
def compN_snoc(l:List (List Nat))(x:List Nat):compN (l++[x])=if (compN l).getLast?=some x then compN l else compN l++[x]:=by
 unfold compN;rw[d6];rfl
def compN_last(l:List (List Nat))(x:List Nat):(compN (l++[x])).getLast?=some x:=by
 rw[compN_snoc];by_cases h:(compN l).getLast?=some x
 ·rw[t8 h];exact h
 ·rw[ul h,List.getLast?_append];rfl
def takeN_snoc{α:Type}{l:List α}{i:Nat}{x:α}(h:l[i]?=some x):l.take (i+1)=l.take i++[x]:=by
 rw[d7,h];rfl
def compN_step{l:List (List Nat)}{i:Nat}{z y:List Nat}(hz:l[i]?=some z)(hy:l[i+1]?=some y):compN (l.take (i+1+1))=if z=y then compN (l.take (i+1)) else compN (l.take (i+1))++[y]:=by
 have h1:=compN_last (l.take i) z;rw[takeN_snoc hy,compN_snoc,takeN_snoc hz,h1];by_cases h:z=y
 ·rw[t8 h,t8 (by rw[h])]
 ·rw[ul h,ul (λe=>h (Option.some.inj e))]
def str_at:∀{c:List (List Nat)} {i:Nat} {x:List Nat},c[i]?=some x->(c.flatMap (one1 ae))[i]?=some (ae x)
 | [],i,x,h=>by simp at h
 | a::c,0,x,h=>by
  simp only[cv,Option.some.injEq] at h;subst h;rfl
 | a::c,i+1,x,h=>by
  simp only[cc] at h;exact str_at (c:=c) h
def str_take:∀(c:List (List Nat)) (i:Nat),(c.flatMap (one1 ae)).take i=(c.take i).flatMap (one1 ae)
 | [],i=>by simp
 | a::c,0=>rfl
 | a::c,i+1=>by
  show(ae a::c.flatMap (one1 ae)).take (i+1)=_;rw[eF,str_take c i];rfl
def str_drop:∀(c:List (List Nat)) (i:Nat),(c.flatMap (one1 ae)).drop i=(c.drop i).flatMap (one1 ae)
 | [],i=>by simp
 | a::c,0=>rfl
 | a::c,i+1=>by
  show(ae a::c.flatMap (one1 ae)).drop (i+1)=_;rw[ey,str_drop c i];rfl
def set_td{α:Type}{c:List α}{i:Nat}(y:α)(h:i<c.length):c.set i y=c.take i++(y::c.drop (i+1)):=by
 rw[bs,t8 h]
def str_set{c:List (List Nat)}{i:Nat}(y:List Nat)(h:i<c.length):(c.flatMap (one1 ae)).take i++(ae y::(c.flatMap (one1 ae)).drop (i+1))=(c.set i y).flatMap (one1 ae):=by
 rw[set_td y h,bb,str_take,str_drop];rfl
def ones_rep(n:Nat):(rep [AV.str []] n).all fz=true:=by
 induction n with
 | zero=>rfl
 | succ n ih=>rw[rep,ck,ih];rfl
def qD(l:List (List Nat))(hlen:l.length<=1000000)(hne:l≠[]):SC prog 182 [.buf 0 l.length 1 none] [.cells (l.flatMap (one1 ae))] [] (λr S'=>r=.buf 0 (compN l).length 1 none/\S'=[.cells ((compN l++aS (l.length-(compN l).length) []).flatMap (one1 ae))]):=by
 have h0:0<l.length:=by
  cases l with
  | nil=>exact t7 rfl hne
  | cons a l=>exact f3 _
 refine Aq 61 func182 ?_
 have fin:compN l=l->compN l++aS (l.length-(compN l).length) []=l:=λh=>by rw[h,d3,d0,append_nil]
 obtain⟨x0,hx0⟩:∃x,l[0]?=some x:=⟨l[0],ac h0⟩
 have ht1:compN (l.take 1)=l.take 1:=by
  rw[takeN_snoc hx0,take_zero];rfl
 by_cases h2:l.length<2
 ·have hc:compN l=l:=by
   have:=ht1;rw[aj (by omega)] at this;exact this
  refine(zV)<|(aq (show decide ((l.length:Int)<2)=true by simp only[wp];omega))<|(bq)<|(zE) ?_;exact zP [.tmp 2] (hq:=by (try simp only[bL,aF]);first | done | (rw[fin hc,hc];exact⟨rfl,rfl⟩))
 refine(zV)<|(aq (show decide ((l.length:Int)<2)=false by simp only[wd];omega))<|(ee) ?_
 (repeat refine ak.seq ?_)
 refine ak.block (ak.loop (λm st=>∃k:Nat,1<=k/\k<=l.length/\m=l.length-k/\compN (l.take k)=l.take k/\st=⟨[(0,.buf 0 l.length 1 none),(3,aa k),(1000000,.ptr 0 0)],61,[.cells (l.flatMap (one1 ae))],[]⟩) (l.length-1) zH ⟨1,by omega,by omega,rfl,ht1,rfl⟩ (by rintro m st ⟨k,_,_,_,_,rfl⟩;rfl) ?_);rintro m st ⟨k,hk1,hk,rfl,hall,rfl⟩;refine(zV) ?_;by_cases hlt:k<l.length;rotate_left
 ·rw[show decide ((k:Int)<(l.length:Int))=false by simp only[wd];omega]
  refine(cV)<|(zV) ?_
  have hc:compN l=l:=by
   rw[aj (by omega)] at hall;exact hall
  refine(zE) ?_;exact zP [.tmp 2] (hq:=by (try simp only[bL,aF]);first | done | (rw[fin hc,hc];exact⟨rfl,rfl⟩))
 rw[show decide ((k:Int)<(l.length:Int))=true by simp only[wp];omega];obtain⟨j,rfl⟩:∃j,k=j+1:=⟨k-1,by omega⟩;obtain⟨x,hx⟩:∃x,l[j]?=some x:=⟨l[j],ac (by omega)⟩;obtain⟨y,hy⟩:∃y,l[j+1]?=some y:=⟨l[j+1],ac hlt⟩
 have hj:j<l.length:=by omega
 refine(dI)<|(zs) ?_;refine kU [0,0,3,7,0,0,32,112,240,511] ?_;refine(jL (n7 hlt @b5 (str_at hy) (CO (show -9223372036854775808<=((j+1:Nat):Int)-1/\((j+1:Nat):Int)-1<=9223372036854775807 from⟨by omega,by omega⟩)) (show((j+1:Nat):Int)-1=(j:Int) from by omega) hj (str_at hx)))<|(zM) ?_
 have hst:=compN_step hx hy;cases g:decide (y=x)
 ·have g':¬x=y:=λe=>by rw[e] at g;simp at g
  refine(zN)<|(aq (nL (show -9223372036854775808<=((j+1:Nat):Int)+1/\((j+1:Nat):Int)+1<=9223372036854775807 from⟨by omega,by omega⟩))) ?_;refine⟨l.length-(j+1+1),_,by omega,zH,j+1+1,by omega,by omega,rfl,?_,rfl⟩
  rw[hst,ul g',hall,<-takeN_snoc hy]
 have g':x=y:=by simpa using(ww g).symm
 refine(zY) ?_
 have hc0:compN (l.take (j+1+1))=l.take (j+1):=by rw[hst,t8 g',hall]
 refine(aq (n2 (CR hk) @b5))<|(zV) ?_
 (repeat refine ak.seq ?_)
 refine ak.block (ak.loop (λm st=>∃(k2 k:Nat) (c:List (List Nat)),(1<=k2/\k2<=l.length-(j+1))/\(j+1<=k/\k<=j+k2)/\m=l.length-k2/\(c.length=l.length/\c.take k=compN (l.take (j+1+k2))/\c.drop k=l.drop k)/\st=⟨[(0,.buf 0 l.length 1 none),(3,aa k),(4,.sub 0 (j+1) (l.length-(j+1)) 1 none),(5,aa k2),(1000000,.ptr 0 0)],61,[.cells (c.flatMap (one1 ae))],[]⟩) (l.length-1) zH ⟨1,j+1,l,⟨by omega,by omega⟩,⟨by omega,by omega⟩,rfl,⟨rfl,hc0.symm,rfl⟩,rfl⟩ (by rintro m st ⟨k2,k,c,_,_,_,_,rfl⟩;rfl) ?_);rintro m st ⟨k2,k,c,⟨hk21,hk22⟩,⟨hkl,hku⟩,rfl,⟨hcl,hct,hcd⟩,rfl⟩;refine(zV) ?_;by_cases hlt2:k2<l.length-(j+1);rotate_left
 ·rw[show decide ((k2:Int)<((l.length-(j+1):Nat):Int))=false by simp only[wd];omega];refine(cV) ?_
  have hkn:k<=l.length:=by omega
  have hcN:compN l=c.take k:=by
   rw[hct,aj (by omega)]
  have hlN:(compN l).length=k:=by rw[hcN,al];omega
  have hrest:(c.flatMap (one1 ae)).take k++((rep [AV.str []] (l.length-k)).map SV.a++(c.flatMap (one1 ae)).drop (k+(l.length-k)))=(compN l++aS (l.length-(compN l).length) []).flatMap (one1 ae):=by
   rw[hlN,zeros_str,str_take,str_drop,bi (by omega),bb,<-hcN];simp
  by_cases hz:l.length-k=0
  ·have hk3:k=l.length:=by omega
   refine(zs) ?_;refine ak.r0 (by rfl) (by simp only[bf,aN,slS,an,bc,ci,↓reduceIte,af,bk,bw,bh,bv,ab,ah,isSub,bnds_from hkn,b5,hz];first | done | rfl) ?_;refine(aq (n2 (Ez hkn) @cn))<|(zE) ?_;exact zP [.tmp 2] (hq:=by (try simp only[bL,aF]);first | done | (rw[hlN];refine⟨rfl,?_⟩;rw[hz,d0,append_nil,hcN,hk3,aj (by omega)]))
  ·refine(zs) ?_;refine ak.r0 (by rfl) (by simp only[bf,aN,slS,an,bc,ci,↓reduceIte,af,bk,bw,bh,bv,ab,ah,isSub,bnds_from hkn,b5,hz,ones_rep,len_str,hcl,show k+(l.length-k)<=l.length by omega,hrest];first | done | rfl) ?_;refine(aq (n2 (Ez hkn) @cn))<|(zE) ?_;exact zP [.tmp 2] (hq:=by (try simp only[bL,aF]);first | done | (rw[hlN];first | exact⟨rfl,rfl⟩ | exact⟨rfl,trivial⟩ | exact⟨trivial,trivial⟩))
 rw[show decide ((k2:Int)<((l.length-(j+1):Nat):Int))=true by simp only[wp];omega];obtain⟨i,rfl⟩:∃i,k2=i+1:=⟨k2-1,by omega⟩;obtain⟨u,hu⟩:∃u,l[j+1+i]?=some u:=⟨l[j+1+i],ac (by omega)⟩;obtain⟨v,hv⟩:∃v,l[j+1+i+1]?=some v:=⟨l[j+1+i+1],ac (by omega)⟩
 have hcu:c[j+1+i]?=some u:=by
  have:(c.drop k)[j+1+i-k]?=(l.drop k)[j+1+i-k]?:=by rw[hcd]
  rw[b8,b8,show k+(j+1+i-k)=j+1+i by omega] at this;rw[this,hu]
 have hcv:c[j+1+(i+1)]?=some v:=by
  have:(c.drop k)[j+1+i+1-k]?=(l.drop k)[j+1+i+1-k]?:=by rw[hcd]
  rw[b8,b8,show k+(j+1+i+1-k)=j+1+i+1 by omega] at this;rw[<-Nat.add_assoc,this,hv]
 have hi:i<l.length-(j+1):=by omega
 have hs2:=compN_step hu hv
 refine(dI)<|(zs) ?_;refine kU [0,0,3,7,0,0,32,112,240,511] ?_;refine(jL (n7 hlt2 @b5 (str_at hcv) (CO (show -9223372036854775808<=((i+1:Nat):Int)-1/\((i+1:Nat):Int)-1<=9223372036854775807 from⟨by omega,by omega⟩)) (show((i+1:Nat):Int)-1=(i:Int) from by omega) hi (str_at hcu)))<|(zM) ?_
 cases g2:decide (v=u);rotate_left
 ·have g3:u=v:=(ww g2).symm
  refine(zN)<|(aq (nL (show -9223372036854775808<=((i+1:Nat):Int)+1/\((i+1:Nat):Int)+1<=9223372036854775807 from⟨by omega,by omega⟩))) ?_;refine⟨l.length-(i+1+1),_,by omega,zH,i+1+1,k,c,⟨by omega,by omega⟩,⟨by omega,by omega⟩,rfl,⟨hcl,?_,hcd⟩,rfl⟩
  rw[t8 g3] at hs2;rw[show j+1+(i+1+1)=j+1+i+1+1 by omega,hs2,hct];rfl
 have g3:¬u=v:=λe=>by rw[e] at g2;simp at g2
 have hkn:k<l.length:=by omega
 have hkc:k<c.length:=by omega
 refine(zY)<|(aq (n8 hlt2 @b5 (str_at hcv) hkn @len_str hcl (show k+1<=l.length by omega) (str_set v hkc)))<|(aq (nL (show -9223372036854775808<=(k:Int)+1/\(k:Int)+1<=9223372036854775807 from⟨by omega,by omega⟩)))<|(aq (nL (show -9223372036854775808<=((i+1:Nat):Int)+1/\((i+1:Nat):Int)+1<=9223372036854775807 from⟨by omega,by omega⟩))) ?_;refine⟨l.length-(i+1+1),_,by omega,zH,i+1+1,k+1,c.set k v,⟨by omega,by omega⟩,⟨by omega,by omega⟩,rfl,⟨by rw[a6,hcl],?_,?_⟩,rfl⟩
 ·rw[ul g3] at hs2;rw[show j+1+(i+1+1)=j+1+i+1+1 by omega,hs2,set_td v hkc,eg,al,aD (by omega),show k+1-k=1 by omega,dl,fu (by omega),hct];rfl
 ·rw[gm,t8 (by omega)];have:=congrArg (List.drop 1) hcd;rw[d5,d5] at this;exact this
def nbuf(o e n:Nat):SV:=if n=0 then nilS else .buf o n e none
def nst{α:Type}(o:Nat)(l:List α)(enc:α->List SV):List SO:=if l=[] then [] else aS o .gone++[.cells (l.flatMap enc)]
def nbuf_0(o e:Nat):nbuf o e 0=nilS:=rfl
def nbuf_s(o e n:Nat):nbuf o e (n+1)=.buf o (n+1) e none:=rfl
def nbuf_p{o e n:Nat}(h:¬n=0):nbuf o e n=.buf o n e none:=ul h
def nst_nil{α:Type}(o:Nat)(enc:α->List SV):nst o [] enc=[]:=rfl
def nst_p{α:Type}{o:Nat}{l:List α}{enc:α->List SV}(h:¬l=[]):nst o l enc=aS o .gone++[.cells (l.flatMap enc)]:=ul h
def nst_snoc{α:Type}(o:Nat)(l:List α)(x:α)(enc:α->List SV):nst o (l++[x]) enc=aS o .gone++[.cells ((l++[x]).flatMap enc)]:=ul (by simp)
def flat_len'{α:Type}{enc:α->List SV}{e:Nat}(he:∀x,(enc x).length=e):∀l:List α,(l.flatMap enc).length=l.length*e
 | []=>by simp
 | a::l=>by rw[flatMap_cons,length_append,he,flat_len' he l,length_cons,d4,el]
def flat_all{α:Type}{enc:α->List SV}{e:Nat}(he:∀x,(enc x).length=e)(l:List α):(l.flatMap enc).take (l.length*e)=l.flatMap enc:=
 aj (by rw[flat_len' he];exact ad _)
def app_cells{α:Type}{enc:α->List SV}{e:Nat}(he:∀x,(enc x).length=e)(hg:∀x,bm (enc x)=true)(o:Nat)(l:List α)(x:α):((l.flatMap enc).take (l.length*e)++enc x).map (aH o)=(l++[x]).flatMap enc:=by
 rw[flat_all he,cp,aV (hg x),aV (ar hg l),bb];simp
def kill_cells{α:Type}{enc:α->List SV}(hg:∀x,bm (enc x)=true)(o:Nat)(l:List α):(l.flatMap enc).map (aH o)=l.flatMap enc:=aV (ar hg l)
def wk_nbuf{α:Type}{enc:α->List SV}{e o:Nat}(he:∀x,(enc x).length=e)(hg:∀x,bm (enc x)=true)(l:List α):Wk (nst o l enc) (nbuf o e l.length) (slS e l enc):=by
 by_cases h:l=[]
 ·subst h;exact Wk.nil _
 ·have h0:¬l.length=0:=λe=>h (length_eq_zero_iff.1 e);rw[nbuf_p h0,nst_p h];refine Wk.buf (cs:=l.flatMap enc) ?_ ?_ ?_
  ·rw[List.getElem?_append_right (by rw[cl];exact ad _),cl,d3];rfl
  ·rw[flat_all he];exact aM.refl (ar hg l)
  ·rw[flat_len' he];exact ad _
def mi:PC prog 93 [nilS] (·=.a (.aO [])):=by
 intro ρ h avs _ hA;rw[cF] at hA;obtain⟨a,r,rfl,hA1,hA2⟩:=hA;rw[dB] at hA2;subst hA2;rw[GS] at hA1;subst hA1;refine(nH [] _ h.next h ⟨by simp,.inl ⟨rfl,rfl⟩⟩ (by simp)).mono ?_;rintro v h' ⟨rfl,_,_,_,_,ho,_⟩;exact⟨_,ρ,rfl,ho,λid ob hi=>.inl hi,by rw[GS]⟩
def nX:PC prog 182 [nilS] (·=nilS):=by
 refine pB 61 func182 ?_;exact(gi)<|(bq)<|zo [.tmp 2]
def setN(l:List (List Nat)):List (List Nat):=compN (sortN l)
def setN_nil:setN []=[]:=rfl
def wg(ls:List (List (List Nat)))(hl:ls.length<=1000000)(hb:ls.flatten.length<=1000000):PC prog 139 [slS 1 ls strsE] (·=slS 1 (setN ls.flatten) (one1 ae)):=by
 refine pB 10 Tryz.func139 ?_;have hc:=vQ ls hl hb;refine(fe) ?_;by_cases h0:ls.flatten=[]
 ·rw[rowR,rowS,t8 h0,t8 h0] at hc
  refine zS [] trivial hc ?_;exact(zR)<|(zC)<|(zK mi)<|(zR)<|(zC)<|(zK nX)<|(zR)<|zo [.tmp 2] (r:=.sl 0 1 []) (hw:=Wk.nil _) (hq:=by rw[h0,setN_nil];rfl)
 ·rw[rowR,rowS,ul h0,ul h0] at hc;have hl2:(sortN ls.flatten).length=ls.flatten.length:=(sortP ls.flatten).length_eq;have h1:sortN ls.flatten≠[]:=λe=>h0 (length_eq_zero_iff.1 (by rw[<-hl2,e];rfl));have hcc:=qD (sortN ls.flatten) (by rw[hl2];exact hb) h1;rw[hl2] at hcc
  refine zS [] trivial hc ?_;refine(zR)<|(zC) ?_;refine zS [0] trivial (kP _ hb h0) ?_;refine(zR)<|(zC) ?_;refine zS [0] trivial hcc ?_;exact(zR)<|zo [.tmp 2] (r:=slS 1 (setN ls.flatten) (one1 ae)) (hw:=by exact .buf rfl (by rw[b5,str_take,List.take_left'];(exact aM.refl (zn _));rfl) (by rw[len_str,length_append];omega))
def namesR(r:RepM):List (List Nat):=if Proofs.validR r=false then [] else setN (r.opts.map namesEv).flatten
def namesEv_len(e:EvM):(namesEv e).length<=2:=by
 unfold namesEv;split
 ·simp
 ·split<;>simp
def flat_le(k:Nat):∀ls:List EvM,(ls.map namesEv).flatten.length<=2*ls.length
 | []=>by simp
 | a::l=>by
  have:=flat_le k l;have:=namesEv_len a;rw[d2,fm,length_append,length_cons];omega
def strsE_len(l:List (List Nat)):(strsE l).length=1:=rfl
def strsE_gnd(l:List (List Nat)):bm (strsE l)=true:=rfl
def yu(r:RepM)(hr:RepOk r)(hlen:r.opts.length<=400000):PC prog 102 [.ag (encRep r)] (·=slS 1 (namesR r) (one1 ae)):=by
 refine pB 24 Tryz.func102 ?_;refine(aq @encRep.eq_1)<|(zC)<|(zK (jK r hr)) ?_
 cases h1:Proofs.validR r
 ·exact(zR)<|(bq)<|zo [.tmp 2] (r:=.sl 0 1 []) (hw:=Wk.nil _) (hq:=by rw[namesR,t8 h1];rfl)
 refine(zR)<|(ee)<|(aq @slS.eq_1)<|(zs) ?_;refine zL r.opts (λk=>True) (λk=>[(3,nbuf 2 1 k),(10,slS 14 r.opts encEv),(11,aa r.opts.length),(12,aa k)]) (λk=>nst 2 ((r.opts.take k).map Proofs.namesEv) strsE) (bg (n4 @take_zero.{0} @List.map_nil.{0,0} @nbuf_0 @nst_nil)) zp ?_;intro k hk hall;refine zT r.opts k ?_ ?_;rintro rfl;rotate_left;intro e hx hlt;rotate_left
 ·refine(cV) ?_
  have hpos:¬r.opts.length=0:=by
   intro h;unfold Proofs.validR at h1;rw[h] at h1;simp at h1
  have hne:¬r.opts.map Proofs.namesEv=[]:=λh=>hpos (by have:=congrArg gd h;rwa [ap] at this);rw[be,nbuf_p hpos,nst_p hne];refine ak.fg (Fg.freeze (f':=[(3,slS 1 (r.opts.map Proofs.namesEv) strsE)]) 2 rfl (λh=>by cases h) ⟨.inr ?_,trivial⟩) ?_
  ·have:=Wk.buf (S:=gH 2 (.cells ((r.opts.map Proofs.namesEv).flatMap strsE))) (o:=2) (n:=r.opts.length) (e:=1) (c:=none) (cs:=(r.opts.map Proofs.namesEv).flatMap strsE) (ds:=(r.opts.map Proofs.namesEv).flatMap strsE) rfl ?_ ?_
   ·rw[slS,ap];exact this
   ·have h2:=flat_all strsE_len (r.opts.map Proofs.namesEv);rw[ap] at h2;rw[h2];exact aM.refl (ar strsE_gnd _)
   ·rw[flat_len' strsE_len,ap];exact ad _
  exact(zC)<|(zK (wg (r.opts.map Proofs.namesEv) (by rw[ap];omega) (by have:=flat_le 0 r.opts;omega)) (hfl:=.inr (aM.refl rfl)))<|(zR)<|zo [.tmp 2] (r:=slS 1 (setN (r.opts.map Proofs.namesEv).flatten) (one1 ae)) (hw:=Wk.refl rfl) (hq:=by rw[namesR,ul (by rw[h1];decide)])
 have he:EvOk e:=hr.ev e (a7 hx);refine(dI) ?_;have ht:=takeN_snoc hx;by_cases hk0:k=0
 ·rw[show(r.opts.take k).map Proofs.namesEv=[] by rw[hk0];rfl,nst_nil,show nbuf 2 1 k=nilS by rw[hk0];rfl]
  have ht1:(r.opts.take (k+1)).map Proofs.namesEv=[]++[Proofs.namesEv e]:=by rw[ht,hk0];rfl
  have hn1:nbuf 2 1 (k+1)=.buf 2 1 1 none:=by rw[hk0];rfl
  refine(aq (n3 hlt (au (e:=14) (enc:=encEv) (λ_=>rfl) hx) @encEv.eq_1))<|(e8 @encEv.eq_1)<|(zK (mf e he) (hfl:=.inr (aM.refl rfl)))<|(zR)<|(aq (zi hlt hr.len)) ?_;refine zX hlt (bg (n8 ht1 hn1 @nst_snoc @flatMap_cons.{0,0} @flatMap_nil.{0,0} @strsE.eq_1 @nil_append.{0} reps)) trivial
 have hne:¬(r.opts.take k).map Proofs.namesEv=[]:=λh=>hk0 (by have:=congrArg gd h;rw[ap,al,aD (by omega)] at this;exact this);rw[nst_p hne,nbuf_p hk0]
 have hlk:((r.opts.take k).map Proofs.namesEv).length=k:=by rw[ap,al,aD (by omega)]
 have ht1:(r.opts.take (k+1)).map Proofs.namesEv=(r.opts.take k).map Proofs.namesEv++[Proofs.namesEv e]:=by rw[ht,cp];rfl
 have hcl:=flat_len' strsE_len ((r.opts.take k).map Proofs.namesEv);rw[hlk] at hcl;have happ:=app_cells strsE_len strsE_gnd 2 ((r.opts.take k).map Proofs.namesEv) (Proofs.namesEv e);rw[hlk,strsE,slS] at happ;have hkc:=λo=>kill_cells strsE_gnd o ((r.opts.take k).map Proofs.namesEv)
 refine(aq (n5 hlt (au (e:=14) (enc:=encEv) (λ_=>rfl) hx) @encEv.eq_1 reps hkc))<|(e8 @encEv.eq_1)<|(zK (mf e he) (hfl:=.inr (aM.refl rfl)))<|(bE (n5 hcl happ hkc (show k<=1000000 by omega) @ad))<|(aq (zi hlt hr.len)) ?_;refine zX hlt (bg (n4 ht1 @nbuf_s @nst_snoc reps)) trivial
def ok1(p:RepM×Int):Bool:=!(decide (p.2<0))&&!(decide (choicesN p.1<=p.2))
def pick1(p:RepM×Int):List EvM:=(p.1.opts[p.2.toNat]?).toList
def pickedN(l:List RepM)(ch:List Int):Option (List EvM):=if l.length=ch.length then (if (l.zip ch).all ok1 then some ((l.zip ch).flatMap pick1) else none) else none
def pickedV:Option (List EvM)->SV
 | some es=>.aO [slS 14 es encEv,aa 0]
 | none=>.aO [.sl 0 14 [],aa 1]
def encEv_len(e:EvM):(encEv e).length=14:=rfl
def encEv_eq(e:EvM):encEv e=[aa e.op,aa e.day,ae e.part,ae e.kind,ae e.into,ae e.slot,ae e.key,ae e.value,aa e.u1,aa e.u2,aa e.u3,aa e.u4,aa e.u5,aa e.u6]:=rfl
def encEv_gnd(e:EvM):bm (encEv e)=true:=rfl
def pick1_le(p:RepM×Int):(pick1 p).length<=1:=by
 unfold pick1;cases p.1.opts[p.2.toNat]?<;>simp
def flatMap_le:∀l:List (RepM×Int),(l.flatMap pick1).length<=l.length
 | []=>by simp
 | a::l=>by
  have:=pick1_le a;have:=flatMap_le l;rw[flatMap_cons,length_append,length_cons];omega
def choices_le(r:RepM):choicesN r<=(r.opts.length:Int)+1:=by
 unfold choicesN;split
 ·omega
 ·split<;>omega
def wA(l:List RepM)(ch:List Int)(hl:∀r∈l,RepOk r)(hlen:l.length<=1000000)(hlc:ch.length<=1000000):PC prog 25 [slS 2 l encRep,slS 1 ch (one1 aa)] (·=pickedV (pickedN l ch)):=by
 refine pB 49 Tryz.func25 ?_;refine(zV) ?_
 (repeat refine ak.seq ?_)
 refine ak.scope ?_;refine(zV) ?_;by_cases heq:l.length=ch.length;rotate_left
 ·rw[show(!decide ((l.length:Int)=(ch.length:Int)))=true by simp;omega]
  exact(bq)<|eL [.tmp 4,.tmp 5] (r:=.aO [.sl 0 14 [],aa 1]) (hw:=.aO (.cons (.nil _) (.cons (.a _) .nil))) (hq:=by rw[pickedN,ul heq];rfl)
 rw[show(!decide ((l.length:Int)=(ch.length:Int)))=false by simp;omega];refine(ee) ?_
 (repeat refine ak.seq ?_)
 refine ak.label ?_
 (try change ak _ _ _ _ _)
 refine(zV) ?_
 have hz:∀{k:Nat} {r:RepM} {n:Int},l[k]?=some r->ch[k]?=some n->(l.zip ch)[k]?=some (r,n):=λh1 h2=>by
  rw[List.getElem?_zip_eq_some];exact⟨h1,h2⟩
 refine(zs) ?_;refine zL l (λk=>((l.zip ch).take k).all ok1=true) (λk=>[(1,slS 1 ch (one1 aa)),(6,nbuf 2 14 (((l.zip ch).take k).flatMap pick1).length),(15,slS 2 l encRep),(16,aa l.length),(17,aa k)]) (λk=>nst 2 (((l.zip ch).take k).flatMap pick1) encEv) (bg (n5 @take_zero.{0} @flatMap_nil.{0,0} @length_nil.{0} @nbuf_0 @nst_nil)) zp ?_;intro k hk hall;refine zT l k ?_ ?_;rintro rfl;rotate_left;intro r hx hlt;rotate_left
 ·refine(cV) ?_
  have hzl:(l.zip ch).length=l.length:=by rw[List.length_zip,<-heq,f0]
  rw[<-hzl,be] at hall ⊢
  exact(zV)<|eL [.tmp 4,.tmp 5] (r:=.aO [slS 14 ((l.zip ch).flatMap pick1) encEv,aa 0]) (hw:=.aO (.cons (wk_nbuf encEv_len encEv_gnd _) (.cons (.a _) .nil))) (hq:=by rw[pickedN,t8 heq,t8 hall];rfl)
 have hrk:RepOk r:=hl r (a7 hx);have hr1:=hrk.len;obtain⟨n,hn⟩:∃n,ch[k]?=some n:=⟨ch[k],ac (by omega)⟩;have hzk:=hz hx hn;have ht:=takeN_snoc hzk
 have hlc2:k<ch.length:=by omega
 have hall2:ok1 (r,n)=true->((l.zip ch).take (k+1)).all ok1=true:=λh=>by
  rw[ht,ck,hall];show(true&&(ok1 (r,n)&&true))=true;rw[h];rfl
 have hbad:ok1 (r,n)=false->pickedN l ch=none:=λh=>by
  rw[pickedN,t8 heq,ul];intro h2;have:=all_eq_true.1 h2 _ (a7 hzk);rw[h] at this;cases this
 have hol:(((l.zip ch).take k).flatMap pick1).length<=k:=by
  have:=flatMap_le ((l.zip ch).take k);rw[al] at this;omega
 have hfm:((l.zip ch).take (k+1)).flatMap pick1=((l.zip ch).take k).flatMap pick1++pick1 (r,n):=by rw[ht,bb];simp
 generalize hO:((l.zip ch).take k).flatMap pick1=out at hol hfm;refine(dI) ?_;have hcl:=flat_len' encEv_len out;have hkc:=λo=>kill_cells encEv_gnd o out
 have fin:pick1 (r,n)=[]->nbuf 2 14 (((l.zip ch).take (k+1)).flatMap pick1).length=nbuf 2 14 out.length/\nst 2 (((l.zip ch).take (k+1)).flatMap pick1) encEv=nst 2 out encEv:=λh=>by rw[hfm,h,append_nil];exact⟨rfl,rfl⟩
 by_cases hk0:out=[]
 ·rw[show nst 2 out encEv=[] by rw[hk0];rfl,show nbuf 2 14 out.length=nilS by rw[hk0];rfl]
  refine(aq (n3 hlt (au (e:=2) (enc:=encRep) (λ_=>rfl) hx) @encRep.eq_1))<|(aq (n3 hlc2 (au (e:=1) (enc:=one1 aa) (λ_=>rfl) hn) @one1.eq_1)) ?_
  cases g1:decide (n<0);rotate_left
  ·exact(aq g1)<|(bq)<|eL [.tmp 4,.tmp 5] (r:=.aO [.sl 0 14 [],aa 1]) (hw:=.aO (.cons (.nil _) (.cons (.a _) .nil))) (hq:=by rw[hbad (by rw[ok1,g1];rfl)];rfl)
  have hn0:=wt g1;obtain⟨i,rfl⟩:∃i:Nat,n=(i:Int):=⟨n.toNat,by omega⟩
  refine(e8 g1)<|(zK (dW r hrk)) ?_
  cases g2:decide (choicesN r<=(i:Int));rotate_left
  ·exact(bE g2)<|(bq)<|eL [.tmp 4,.tmp 5] (r:=.aO [.sl 0 14 [],aa 1]) (hw:=.aO (.cons (.nil _) (.cons (.a _) .nil))) (hq:=by rw[hbad (by rw[ok1,g1,g2];rfl)];rfl)
  refine(bE g2)<|(zN) ?_
  have hok:ok1 (r,(i:Int))=true:=by rw[ok1,g1,g2];rfl
  have hcl2:=choices_le r;have hi1:=wt g2;by_cases g3:i=r.opts.length
  ·have hp:pick1 (r,(i:Int))=[]:=by
    show(r.opts[i]?).toList=[];rw[b7 (by omega)];rfl
   obtain⟨f1,f2⟩:=fin hp;have hE1:nbuf 2 14 out.length=nilS:=(by rw[hk0];rfl);have hE2:nst 2 out encEv=[]:=(by rw[hk0];rfl)
   refine(aq (show decide ((i:Int)=(r.opts.length:Int))=true by simp only[wp];omega))<|(zY) ?_;refine ak.exit ?_;refine(aq (zi hlt hlen)) ?_;refine zX hlt (bg (n4 f1 f2 hE1 hE2)) (hall2 hok)
  ·have hi2:i<r.opts.length:=by omega
   obtain⟨e,hei⟩:∃e,r.opts[i]?=some e:=⟨r.opts[i],ac hi2⟩
   have hp:pick1 (r,(i:Int))=[e]:=by
    show(r.opts[i]?).toList=[e];rw[hei];rfl
   refine(aq (show decide ((i:Int)=(r.opts.length:Int))=false by simp only[wd];omega))<|(zN) ?_
   rw[hp] at hfm
   have hE3:nbuf 2 14 (((l.zip ch).take (k+1)).flatMap pick1).length=.buf 2 1 14 none:=by rw[hfm,hk0];rfl
   have hE4:nst 2 (((l.zip ch).take (k+1)).flatMap pick1) encEv=[.gone,.gone,.cells (encEv e)]:=by rw[hfm,hk0];rfl
   refine(aq (n3 hi2 (au (e:=14) (enc:=encEv) (λ_=>rfl) hei) @encEv.eq_1))<|(aq (zi hlt hlen)) ?_;refine zX hlt (bg (n3 hE3 hE4 @encEv.eq_1)) (hall2 hok)
 ·have hk1:¬out.length=0:=λh=>hk0 (length_eq_zero_iff.1 h);rw[nst_p hk0,nbuf_p hk1]
  refine(aq (n5 hlt (au (e:=2) (enc:=encRep) (λ_=>rfl) hx) @encRep.eq_1 reps hkc))<|(aq (n3 hlc2 (au (e:=1) (enc:=one1 aa) (λ_=>rfl) hn) @one1.eq_1)) ?_
  cases g1:decide (n<0);rotate_left
  ·exact(aq g1)<|(bq)<|eL [.tmp 4,.tmp 5] (r:=.aO [.sl 0 14 [],aa 1]) (hw:=.aO (.cons (.nil _) (.cons (.a _) .nil))) (hq:=by rw[hbad (by rw[ok1,g1];rfl)];rfl)
  have hn0:=wt g1;obtain⟨i,rfl⟩:∃i:Nat,n=(i:Int):=⟨n.toNat,by omega⟩
  refine(e8 g1)<|(zK (dW r hrk)) ?_
  cases g2:decide (choicesN r<=(i:Int));rotate_left
  ·exact(bE g2)<|(bq)<|eL [.tmp 4,.tmp 5] (r:=.aO [.sl 0 14 [],aa 1]) (hw:=.aO (.cons (.nil _) (.cons (.a _) .nil))) (hq:=by rw[hbad (by rw[ok1,g1,g2];rfl)];rfl)
  refine(bE g2)<|(zN) ?_
  have hok:ok1 (r,(i:Int))=true:=by rw[ok1,g1,g2];rfl
  have hcl2:=choices_le r;have hi1:=wt g2;by_cases g3:i=r.opts.length
  ·have hp:pick1 (r,(i:Int))=[]:=by
    show(r.opts[i]?).toList=[];rw[b7 (by omega)];rfl
   obtain⟨f1,f2⟩:=fin hp
   skip
   refine(aq (n2 hkc (show decide ((i:Int)=(r.opts.length:Int))=true by simp only[wp];omega)))<|(zY) ?_;refine ak.exit ?_;refine(zs) ?_;refine ak.r0 (by rfl) (gf (nL (iW hlt hlen (by decide)))) ?_;refine⟨l.length-(k+1),_,by omega,(Fg.less (by (simp only[bf,aN,cA,↓reduceIte,af,slS,f1,f2,nbuf_p hk1,nst_p hk0,aS])<;>(repeat' apply bt)<;>first | rfl | trivial) (by (simp only[bf,aN,or_true,true_or,slS,f1,f2,nbuf_p hk1,nst_p hk0,aS])<;>(repeat' apply bt)<;>first | exact .inr rfl | exact .inl rfl | trivial)),k+1,by omega,rfl,(hall2 hok),rfl⟩
  ·have hi2:i<r.opts.length:=by omega
   obtain⟨e,hei⟩:∃e,r.opts[i]?=some e:=⟨r.opts[i],ac hi2⟩
   have hp:pick1 (r,(i:Int))=[e]:=by
    show(r.opts[i]?).toList=[e];rw[hei];rfl
   refine(aq (n2 hkc (show decide ((i:Int)=(r.opts.length:Int))=false by simp only[wd];omega)))<|(zN) ?_
   rw[hp] at hfm;have happ:=app_cells encEv_len encEv_gnd 2 out e;rw[encEv_eq] at happ
   have hE3:nbuf 2 14 (((l.zip ch).take (k+1)).flatMap pick1).length=.buf 2 (out.length+1) 14 none:=by rw[hfm,length_append];rfl
   have hE4:nst 2 (((l.zip ch).take (k+1)).flatMap pick1) encEv=[.gone,.gone,.cells ((out++[e]).flatMap encEv)]:=by rw[hfm,nst_snoc];rfl
   refine(aq (n8 hi2 (au (e:=14) (enc:=encEv) (λ_=>rfl) hei) @encEv.eq_1 hcl hkc (show out.length<=1000000 by omega) @ad happ))<|(aq (zi hlt hlen)) ?_;refine zX hlt (bg (n2 hE3 hE4)) (hall2 hok)
section
variable {α:Type} {c:α->SV}
def one_map(l:List α):l.flatMap (one1 c)=l.map c:=by
 induction l with
 | nil=>rfl
 | cons a l ih=>rw[flatMap_cons,ih];rfl
def one_at{l:List α}{i:Nat}{x:α}(h:l[i]?=some x):(l.flatMap (one1 c))[i]?=some (c x):=by
 rw[one_map,ce,h];rfl
def one_len(l:List α):(l.flatMap (one1 c)).length=l.length:=by rw[one_map,List.length_map]
def ones_set{l:List α}{i:Nat}(y:α)(h:i<l.length):(l.flatMap (one1 c)).take i++(c y::(l.flatMap (one1 c)).drop (i+1))=(l.set i y).flatMap (one1 c):=by
 rw[one_map,one_map,List.map_set,bs,t8 (by rw[ap];exact h)]
end
abbrev natV(n:Nat):SV:=aa (n:Int)
def Forest(f:List Nat):Prop:=∀(j:Nat) x,f[j]?=some x->x<=j
def rootF:Nat->List Nat->Nat->Nat×List Nat
 | 0,f,i=>(i,f)
 | s+1,f,i=>if f.getD i 0=i then (i,f) else rootF s (f.set i (f.getD (f.getD i 0) 0)) (f.getD (f.getD i 0) 0)
def rootN(f:List Nat)(i:Nat):Nat×List Nat:=rootF i f i
def Forest.set{f:List Nat}(h:Forest f){i y:Nat}(hy:y<=i):Forest (f.set i y):=by
 intro j x hx;by_cases e:i=j
 ·subst e
  have hl:i<f.length:=by
   have:=aE hx;rwa [a6] at this
  rw[d8 hl] at hx;cases hx;exact hy
 ·rw[List.getElem?_set_ne e] at hx;exact h j x hx
def rootF_ok:∀(s:Nat) (f:List Nat) (i:Nat),Forest f->i<f.length->Forest (rootF s f i).2/\(rootF s f i).2.length=f.length/\(rootF s f i).1<=i
 | 0,f,i,h,hi=>⟨h,rfl,Nat.le_refl _⟩
 | s+1,f,i,h,hi=>by
  unfold rootF;split
  ·exact⟨h,rfl,Nat.le_refl _⟩
  ·obtain⟨p,hp⟩:∃p,f[i]?=some p:=⟨f[i],List.getElem?_eq_getElem hi⟩;have hpi:=h i p hp;obtain⟨q,hq⟩:∃q,f[p]?=some q:=⟨f[p],List.getElem?_eq_getElem (by omega)⟩;have hqp:=h p q hq
   have e1:f.getD i 0=p:=by rw[List.getD_eq_getElem?_getD,hp];rfl
   have e2:f.getD p 0=q:=by rw[List.getD_eq_getElem?_getD,hq];rfl
   rw[e1,e2];obtain⟨g1,g2,g3⟩:=rootF_ok s (f.set i q) q (h.set (by omega)) (by rw[List.length_set];omega);exact⟨g1,by rw[g2,List.length_set],by omega⟩
def root_ok{f:List Nat}{i:Nat}(h:Forest f)(hi:i<f.length):Forest (rootN f i).2/\(rootN f i).2.length=f.length/\(rootN f i).1<=i:=rootF_ok i f i h hi
def jZ(f:List Nat)(i:Nat)(hf:Forest f)(hi:i<f.length)(hlen:f.length<=1000000):SC prog 53 [.buf 0 f.length 1 none,natV i] [.cells (f.flatMap (one1 natV))] [] (λr S'=>r=natV (rootN f i).1/\S'=[.cells ((rootN f i).2.flatMap (one1 natV))]):=by
 refine Aq 26 Tryz.func53 ?_;refine(zV) ?_
 (repeat refine ak.seq ?_)
 refine ak.block (ak.loop (λm st=>∃(g:List Nat) (j s:Nat),(Forest g/\g.length=f.length/\j<f.length)/\(j<=s/\rootF s g j=rootN f i)/\j=m/\st=⟨[(0,.buf 0 f.length 1 none),(1,natV j),(1000000,.ptr 0 0)],26,[.cells (g.flatMap (one1 natV))],[]⟩) i zH ⟨f,i,i,⟨hf,rfl,hi⟩,⟨ad _,rfl⟩,rfl,rfl⟩ (by rintro m st ⟨g,j,s,_,_,_,rfl⟩;rfl) ?_);rintro m st ⟨g,j,s,⟨hg,hgl,hj⟩,⟨hs,hr⟩,rfl,rfl⟩;obtain⟨p,hp⟩:∃p,g[j]?=some p:=⟨g[j],ac (by omega)⟩;have hpj:=hg j p hp;obtain⟨q,hq⟩:∃q,g[p]?=some q:=⟨g[p],ac (by omega)⟩;have hqp:=hg p q hq
 have e1:g.getD j 0=p:=by rw[cd,hp];rfl
 have e2:g.getD p 0=q:=by rw[cd,hq];rfl
 refine(zs) ?_;refine ak.r0 (by rfl) (by simp only[bf,aN,slS,an,bc,ci,↓reduceIte,af,bk,bw,bh,bv,ab,ah,isSub,hj,b5,one_at hp];first | done | rfl) ?_;by_cases hpe:p=j
 ·rw[show(!decide ((p:Int)=(j:Int)))=false by simp;omega]
  refine(cV)<|(zV) ?_
  have hr2:rootN f i=(j,g):=by
   rw[<-hr]
   cases s with
   | zero=>rfl
   | succ s=>rw[rootF,e1,t8 hpe]
  refine(zE) ?_;exact zP [.tmp 4] (hq:=by (try simp only[bL,aF]);first | done | (rw[hr2];exact⟨rfl,rfl⟩))
 rw[show(!decide ((p:Int)=(j:Int)))=true by simp;omega];refine(dI) ?_
 have hpl:p<f.length:=by omega
 have hjg:j<g.length:=by omega
 refine(zs) ?_;refine ak.r0 (by rfl) (by simp only[bf,aN,slS,an,bc,ci,↓reduceIte,af,bk,bw,bh,bv,ab,ah,isSub,hj,hpl,b5,one_at hp,one_at hq,one_len,hgl,show j+1<=f.length by omega,ones_set q hjg];first | done | rfl) ?_;have hsq:(g.set j q)[j]?=some q:=d8 hjg;refine(zs) ?_;refine ak.r0 (by rfl) (by simp only[bf,aN,slS,an,bc,ci,↓reduceIte,af,bk,bw,bh,bv,ab,ah,isSub,hj,b5,one_at hsq];first | done | rfl) ?_;obtain⟨s',rfl⟩:∃s',s=s'+1:=⟨s-1,by omega⟩;refine⟨q,_,by omega,zH,g.set j q,q,s',⟨hg.set (by omega),by rw[a6,hgl],by omega⟩,⟨by omega,?_⟩,rfl,rfl⟩;rw[<-hr,rootF,e1,ul hpe,e2]
def joinN(f:List Nat)(i k:Nat):List Nat:=(rootN (rootN f i).2 k).2.set (max (rootN f i).1 (rootN (rootN f i).2 k).1) (min (rootN f i).1 (rootN (rootN f i).2 k).1)
def join_ok{f:List Nat}{i k:Nat}(h:Forest f)(hi:i<f.length)(hk:k<f.length):Forest (joinN f i k)/\(joinN f i k).length=f.length:=by
 obtain⟨a1,a2,a3⟩:=root_ok h hi;obtain⟨b1,b2,b3⟩:=root_ok (i:=k) a1 (by rw[a2];exact hk);exact⟨b1.set (by omega),by rw[joinN,a6,b2,a2]⟩
def max_nat(a b:Nat):kI true (.int .i64 (a:Int)) (.int .i64 (b:Int))=some (.int .i64 ((max a b:Nat):Int)):=by
 rw[vg];congr 2;omega
def min_nat(a b:Nat):kI false (.int .i64 (a:Int)) (.int .i64 (b:Int))=some (.int .i64 ((min a b:Nat):Int)):=by
 rw[vi];congr 2;omega
def rn_nat(r:Nat->Nat)(l:List Nat):fV r (l.flatMap (one1 natV))=l.flatMap (one1 natV):=aK (ar (λ_=>rfl) l)
def kill_nat(o:Nat)(l:List Nat):(l.flatMap (one1 natV)).map (aH o)=l.flatMap (one1 natV):=aV (ar (λ_=>rfl) l)
def bnd_nat(B:Nat)(l:List Nat):dA B (l.flatMap (one1 natV))=true:=aP (ar (λ_=>rfl) l)
def Bb(f:List Nat)(i k:Nat)(hf:Forest f)(hi:i<f.length)(hk:k<f.length)(hlen:f.length<=1000000):SC prog 103 [.buf 0 f.length 1 none,natV i,natV k] [.cells (f.flatMap (one1 natV))] [] (λr S'=>r=.aO []/\S'=[.cells ((joinN f i k).flatMap (one1 natV))]):=by
 refine Aq 22 Tryz.func103 ?_;have h1:=jZ f i hf hi hlen;have k1:=root_ok hf hi;obtain⟨a,f1,hA⟩:∃a f1,rootN f i=(a,f1):=⟨_,_,rfl⟩;rw[hA] at h1 k1;simp only at h1 k1;obtain⟨q1,q2,q3⟩:=k1;have h2:=jZ f1 k q1 (by rw[q2];exact hk) (by rw[q2];exact hlen);have k2:=root_ok (i:=k) q1 (by rw[q2];exact hk);obtain⟨b,f2,hB⟩:∃b f2,rootN f1 k=(b,f2):=⟨_,_,rfl⟩;rw[hB] at h2 k2;rw[q2] at h2;simp only at h2 k2;obtain⟨p1,p2,p3⟩:=k2
 have hj:joinN f i k=f2.set (max a b) (min a b):=by rw[joinN,hA];simp only;rw[hB]
 refine(zC) ?_;refine zS [0] (n3 @rn_nat @bnd_nat @kill_nat) h1 ?_;refine(zQ) ?_;refine zS [0] (n3 @rn_nat @bnd_nat @kill_nat) h2 ?_;refine(zR) ?_
 have hm:max a b<f.length:=by omega
 have hm2:max a b<f2.length:=by omega
 refine(zs) ?_;refine ak.r0 (by rfl) (by simp only[bf,aN,slS,an,bc,ci,↓reduceIte,af,bk,bw,bh,bv,ab,ah,isSub,max_nat,min_nat,hm,b5,one_len,p2,q2,show max a b+1<=f.length by omega,ones_set (min a b) hm2];first | done | rfl) ?_;exact zP [] (hq:=by (try simp only[bL,aF]);first | done | (rw[hj];first | exact⟨rfl,rfl⟩ | exact⟨trivial,trivial⟩ | exact⟨trivial,rfl⟩ | exact⟨rfl,trivial⟩))
def dlo(a0 a1 d:Int):Int:=minI (floorN a0 d) (floorN a1 d)
def dhi(a0 a1 d:Int):Int:=maxI (floorN a0 d) (floorN a1 d)
def nw(a0 a1 lo hi:Int)(h:lo<=hi):SC prog 240 [aa lo,aa hi,.ptr 0 0,.ptr 1 0] [.cells [aa a0,aa a1],.cells [nilS]] []
 (λr S'=>r=.aO []/\S'=[.cells [aa a0,aa a1],.cells [.buf 4 2 2 none],.gone,.gone,.cells [aa (dlo a0 a1 lo),aa (dhi a0 a1 lo),aa (dlo a0 a1 hi),aa (dhi a0 a1 hi)]]):=by
 refine E1 40 e4 ?_;refine(aq (show decide (lo<=hi)=true by simpa using h)) ?_
 (repeat refine ak.seq ?_)
 refine ak.yes rfl ?_;refine(zV) ?_
 (repeat refine ak.seq ?_)
 refine ak.block (ak.loop (λm st=>
  (m=2/\st=⟨[(2,.ptr 0 0),(3,.ptr 1 0),(15,.buf 2 2 1 (some 2)),(16,aa 2),(17,aa 0),(1000000,.ptr 0 0),(1000001,.ptr 1 0)],40,[.cells [aa a0,aa a1],.cells [nilS],.cells [aa lo,aa hi]],[]⟩)\/
  (m=1/\st=⟨[(2,.ptr 0 0),(3,.ptr 1 0),(15,.buf 2 2 1 (some 2)),(16,aa 2),(17,aa 1),(1000000,.ptr 0 0),(1000001,.ptr 1 0)],40,[.cells [aa a0,aa a1],.cells [.buf 4 1 2 none],.cells [aa lo,aa hi],.gone,.cells [aa (dlo a0 a1 lo),aa (dhi a0 a1 lo)]],[]⟩)\/
  (m=0/\st=⟨[(2,.ptr 0 0),(3,.ptr 1 0),(15,.buf 2 2 1 (some 2)),(16,aa 2),(17,aa 2),(1000000,.ptr 0 0),(1000001,.ptr 1 0)],40,[.cells [aa a0,aa a1],.cells [.buf 4 2 2 none],.cells [aa lo,aa hi],.gone,.cells [aa (dlo a0 a1 lo),aa (dhi a0 a1 lo),aa (dlo a0 a1 hi),aa (dhi a0 a1 hi)]],[]⟩)) 2 zH (.inl ⟨rfl,rfl⟩) (by rintro m st (⟨_,rfl⟩ | ⟨_,rfl⟩ | ⟨_,rfl⟩)<;>rfl) ?_)
 rintro m st (⟨rfl,rfl⟩ | ⟨rfl,rfl⟩ | ⟨rfl,rfl⟩)
 ·refine(oD)<|(zB)<|(zV)<|(zs) ?_;refine kU [0,1,0,7,0,16,0,127,255,511] ?_;refine(zD) ?_;refine SD.k (by rfl) rfl rfl (by rfl) rfl rfl zc (dP a0 lo) (zw) rfl ?_;refine(zD) ?_;refine SD.k (by rfl) rfl rfl (by rfl) rfl rfl zc (dP a1 lo) (zw) rfl ?_;refine(zD)<|(zM)<|(aq (n2 @min_int @max_int))<|(zV) ?_;exact⟨1,_,by omega,(bg (n2 @dlo.eq_1 @dhi.eq_1)),.inr (.inl ⟨rfl,rfl⟩)⟩
 ·refine(oD)<|(zB)<|(zV)<|(zs) ?_;refine kU [0,1,0,7,0,16,0,127,255,511] ?_;refine(zD) ?_;refine SD.k (by rfl) rfl rfl (by rfl) rfl rfl zc (dP a0 hi) (zw) rfl ?_;refine(zD) ?_;refine SD.k (by rfl) rfl rfl (by rfl) rfl rfl zc (dP a1 hi) (zw) rfl ?_;refine(zD)<|(zM)<|(aq (n2 @min_int @max_int))<|(zV) ?_;exact⟨0,_,by omega,(bg (n2 @dlo.eq_1 @dhi.eq_1)),.inr (.inr ⟨rfl,rfl⟩)⟩
 ·refine(yT) ?_;refine ak.fg (st':=⟨[(1000000,.ptr 0 0),(1000001,.ptr 1 0)],40,[.cells [aa a0,aa a1],.cells [.buf 4 2 2 none],.gone,.gone,.cells [aa (dlo a0 a1 lo),aa (dhi a0 a1 lo),aa (dlo a0 a1 hi),aa (dhi a0 a1 hi)]],[]⟩) zH ?_;refine ak.exit ?_;simp only[dY,SThen,SRound,SNoGoto,if_true];exact zP []
def vT(a0 a1 lo hi:Int)(h:¬lo<=hi):SC prog 240 [aa lo,aa hi,.ptr 0 0,.ptr 1 0] [.cells [aa a0,aa a1],.cells [nilS]] []
 (λr S'=>r=.aO []/\S'=[.cells [aa a0,aa a1],.cells [nilS]]):=by
 refine E1 40 e4 ?_;refine(aq (show decide (lo<=hi)=false by simpa using h)) ?_
 (repeat refine ak.seq ?_)
 refine ak.no rfl ?_;refine ak.skip ?_
 (try simp only[dY,SThen,SRound,SNoGoto])
 exact zP []
def jF(a0 a1 lo hi:Int)(n:Nat)(cs:List SV)(h:¬lo<=hi):SC prog 240 [aa lo,aa hi,.ptr 0 0,.ptr 1 0] [.cells [aa a0,aa a1],.cells [.buf 2 n 2 none],.cells cs] []
 (λr S'=>r=.aO []/\S'=[.cells [aa a0,aa a1],.cells [.buf 2 n 2 none],.cells cs]):=by
 refine E2 40 e4 ?_;refine(aq (show decide (lo<=hi)=false by simpa using h)) ?_
 (repeat refine ak.seq ?_)
 refine ak.no rfl ?_;refine ak.skip ?_
 (try simp only[dY,SThen,SRound,SNoGoto])
 exact zP []
def encIv(p:Int×Int):List SV:=[aa p.1,aa p.2]
def encIv_len(p:Int×Int):(encIv p).length=2:=rfl
def encIv_gnd(p:Int×Int):bm (encIv p)=true:=rfl
def nv(a0 a1 lo hi:Int)(rows:List (Int×Int))(hlen:rows.length<=1000)(h:lo<=hi):SC prog 240 [aa lo,aa hi,.ptr 0 0,.ptr 1 0] [.cells [aa a0,aa a1],.cells [.buf 2 rows.length 2 none],.cells (rows.flatMap encIv)] [2]
 (λr S'=>r=.aO []/\S'=[.cells [aa a0,aa a1],.cells [.buf 2 (rows.length+1+1) 2 none],.cells ((rows++[(dlo a0 a1 lo,dhi a0 a1 lo)]++[(dlo a0 a1 hi,dhi a0 a1 hi)]).flatMap encIv)]):=by
 refine E2 40 e4 ?_;have step:∀(l:List (Int×Int)) (x y:Int),((l.flatMap encIv).take (l.length*2)++[aa x,aa y]).map (aH 2)=(l++[(x,y)]).flatMap encIv:=λl x y=>app_cells encIv_len encIv_gnd 2 l (x,y);have hcl:∀l:List (Int×Int),(l.flatMap encIv).length=l.length*2:=flat_len' encIv_len;have hkc:∀(o:Nat) (l:List (Int×Int)),(l.flatMap encIv).map (aH o)=l.flatMap encIv:=λo l=>kill_cells encIv_gnd o l;refine(aq (show decide (lo<=hi)=true by simpa using h)) ?_
 (repeat refine ak.seq ?_)
 refine ak.yes rfl ?_;refine(aq hkc) ?_
 (repeat refine ak.seq ?_)
 refine ak.block (ak.loop (λm st=>∃q:List (Int×Int),
  (m=2/\q=rows/\st=⟨[(2,.ptr 0 0),(3,.ptr 1 0),(15,.buf 3 2 1 (some 2)),(16,aa 2),(17,aa 0),(1000000,.ptr 0 0),(1000001,.ptr 1 0)],40,[.cells [aa a0,aa a1],.cells [.buf 2 q.length 2 none],.cells (q.flatMap encIv),.cells [aa lo,aa hi]],[]⟩)\/
  (m=1/\q=rows++[(dlo a0 a1 lo,dhi a0 a1 lo)]/\st=⟨[(2,.ptr 0 0),(3,.ptr 1 0),(15,.buf 3 2 1 (some 2)),(16,aa 2),(17,aa 1),(1000000,.ptr 0 0),(1000001,.ptr 1 0)],40,[.cells [aa a0,aa a1],.cells [.buf 2 q.length 2 none],.cells (q.flatMap encIv),.cells [aa lo,aa hi]],[]⟩)\/
  (m=0/\q=rows++[(dlo a0 a1 lo,dhi a0 a1 lo)]++[(dlo a0 a1 hi,dhi a0 a1 hi)]/\st=⟨[(2,.ptr 0 0),(3,.ptr 1 0),(15,.buf 3 2 1 (some 2)),(16,aa 2),(17,aa 2),(1000000,.ptr 0 0),(1000001,.ptr 1 0)],40,[.cells [aa a0,aa a1],.cells [.buf 2 q.length 2 none],.cells (q.flatMap encIv),.cells [aa lo,aa hi]],[]⟩)) 2 zH ⟨rows,.inl ⟨rfl,rfl,rfl⟩⟩ (by rintro m st ⟨q,⟨_,_,rfl⟩ | ⟨_,_,rfl⟩ | ⟨_,_,rfl⟩⟩<;>rfl) ?_)
 rintro m st ⟨q,⟨rfl,hq,rfl⟩ | ⟨rfl,hq,rfl⟩ | ⟨rfl,hq,rfl⟩⟩
 ·have hql:q.length<=1000000:=by rw[hq];omega
  refine(oD)<|(zB)<|(zV)<|(zs) ?_;refine kU [0,1,0,7,0,16,0,127,255,511] ?_;refine(zD) ?_;refine SD.k (by rfl) rfl rfl (by rfl) rfl rfl zc (dP a0 lo) (zw) rfl ?_;refine(zD) ?_;refine SD.k (by rfl) rfl rfl (by rfl) rfl rfl zc (dP a1 lo) (zw) rfl ?_;refine(zD)<|(zM)<|(aq (n7 @min_int @max_int hkc hcl step hql @ad))<|(zV) ?_;refine⟨1,_,by omega,(bg (n6 @dlo.eq_1 @dhi.eq_1 hq @length_append.{0} @length_cons.{0} @length_nil.{0})),q++[(dlo a0 a1 lo,dhi a0 a1 lo)],.inr (.inl ⟨rfl,by rw[hq],rfl⟩)⟩
 ·have hql:q.length<=1000000:=by rw[hq,length_append];simp only[length_cons,length_nil];omega
  refine(oD)<|(zB)<|(zV)<|(zs) ?_;refine kU [0,1,0,7,0,16,0,127,255,511] ?_;refine(zD) ?_;refine SD.k (by rfl) rfl rfl (by rfl) rfl rfl zc (dP a0 hi) (zw) rfl ?_;refine(zD) ?_;refine SD.k (by rfl) rfl rfl (by rfl) rfl rfl zc (dP a1 hi) (zw) rfl ?_;refine(zD)<|(zM)<|(aq (n7 @min_int @max_int hkc hcl step hql @ad))<|(zV) ?_;refine⟨0,_,by omega,(bg (n6 @dlo.eq_1 @dhi.eq_1 hq @length_append.{0} @length_cons.{0} @length_nil.{0})),q++[(dlo a0 a1 hi,dhi a0 a1 hi)],.inr (.inr ⟨rfl,by rw[hq],rfl⟩)⟩
 ·refine(yT) ?_;rw[show q.length=rows.length+1+1 by rw[hq];simp];refine ak.fg (st':=⟨[(1000000,.ptr 0 0),(1000001,.ptr 1 0)],40,[.cells [aa a0,aa a1],.cells [.buf 2 (rows.length+1+1) 2 none],.cells (q.flatMap encIv)],[]⟩) zH ?_;refine ak.exit ?_;simp only[dY,SThen,SRound,SNoGoto,if_true];exact zP [] (hq:=by (try simp only[bL,aF]);first | done | (rw[hq];first | exact⟨rfl,rfl⟩ | exact⟨trivial,rfl⟩ | exact⟨rfl,trivial⟩ | exact⟨trivial,trivial⟩))
def signedN(a0 a1 lo hi:Int):List (Int×Int):=if lo<=hi then [(dlo a0 a1 lo,dhi a0 a1 lo)]++[(dlo a0 a1 hi,dhi a0 a1 hi)] else []
def divRows(a0 a1 b0 b1:Int):List (Int×Int):=(if b0<=0/\0<=b1 then [(0,0)] else [])++signedN a0 a1 (maxI b0 1) b1++signedN a0 a1 b0 (minI b1 (-1))
def joinP(x y:Int×Int):Int×Int:=joinIvN x.1 x.2 y.1 y.2
def divideN(a0 a1 b0 b1:Int):Int×Int:=(divRows a0 a1 b0 b1).foldl joinP ((divRows a0 a1 b0 b1).headD (0,0))
def fold_snoc{α:Type}{f:α->α->α}{l:List α}{i:Nat}{x a:α}(h:l[i]?=some x):(l.take (i+1)).foldl f a=f ((l.take i).foldl f a) x:=by
 rw[d7,h,Option.toList_some,d6];rfl
def vU(a0 a1 b0 b1:Int)(hb:b0<=b1):PC prog 235 [ivV a0 a1,ivV b0 b1] (·=ivP (divideN a0 a1 b0 b1)):=by
 refine pB 51 Tryz.func235 ?_;have hkc:∀(o:Nat) (l:List (Int×Int)),(l.flatMap encIv).map (aH o)=l.flatMap encIv:=λo l=>kill_cells encIv_gnd o l;have hrc:∀(g:Nat->Nat) (l:List (Int×Int)),fV g (l.flatMap encIv)=l.flatMap encIv:=λg l=>aK (ar encIv_gnd l);have hbc:∀(B:Nat) (l:List (Int×Int)),dA B (l.flatMap encIv)=true:=λB l=>aP (ar encIv_gnd l);have hcl:∀l:List (Int×Int),(l.flatMap encIv).length=l.length*2:=flat_len' encIv_len
 refine(aq @ivV.eq_1)<|(zV) ?_
 by_cases hz:b0<=0/\0<=b1
 ·refine(aq (n2 (show decide (b0<=0)=true by simpa using hz.1) (show decide (0<=b1)=true by simpa using hz.2)))<|(bq)<|(zV) ?_
  have hm1:maxI b0 1=1:=by unfold maxI;split<;>omega
  have d1:divRows a0 a1 b0 b1=([(0,0)]++signedN a0 a1 1 b1)++signedN a0 a1 b0 (minI b1 (-1)):=by rw[divRows,t8 hz,hm1]
  (repeat refine ak.seq ?_)
  refine ak.mono (Q:=λe st=>e=.normal/\Fg st ⟨[(3,.ptr 1 0),(4,.ptr 2 0),(5,.ptr 3 0),(6,.fn 240 [] [.ptr 0 0,.ptr 3 0])],51,[.cells [aa a0,aa a1],.cells [aa b0,aa b1],.cells [aa 0,aa 0],.cells [.buf 5 ([(0,0)]++signedN a0 a1 1 b1).length 2 none],.gone,.cells (([(0,0)]++signedN a0 a1 1 b1).flatMap encIv)],[]⟩) ?_ ?_
  ·by_cases h1:(1:Int)<=b1
   ·refine(e8 (n2 @max_int hm1)) ?_;have hd:=nv a0 a1 1 b1 [(0,0)] (by decide) h1;rw[show[((0:Int),(0:Int))].flatMap encIv=[aa 0,aa 0] from rfl,show[((0:Int),(0:Int))].length=1 from rfl] at hd;refine zS [0,3,5] (n3 hrc hbc hkc) hd ?_;refine(zR) ?_;refine⟨rfl,(Fg.less (by (simp only[bf,aN,cA,↓reduceIte,af,signedN,t8 h1,length_append,length_cons,length_nil,b6])<;>(repeat' apply bt)<;>first | rfl | trivial) (by (simp only[bf,aN,or_true,true_or,signedN,t8 h1,length_append,length_cons,length_nil,b6])<;>(repeat' apply bt)<;>first | exact .inr rfl | exact .inl rfl | trivial))⟩
   ·refine(e8 (n2 @max_int hm1)) ?_;have hd:=jF a0 a1 1 b1 1 [aa 0,aa 0] h1;refine zS [0,3,5] (n3 hrc hbc hkc) hd ?_;refine(zR) ?_;refine⟨rfl,(Fg.less (by (simp only[bf,aN,cA,↓reduceIte,af,signedN,ul h1,append_nil,length_cons,length_nil,flatMap_cons,flatMap_nil,encIv])<;>(repeat' apply bt)<;>first | rfl | trivial) (by (simp only[bf,aN,or_true,true_or,signedN,ul h1,append_nil,length_cons,length_nil,flatMap_cons,flatMap_nil,encIv])<;>(repeat' apply bt)<;>first | exact .inr rfl | exact .inl rfl | trivial))⟩
  rintro e st ⟨rfl,hfg⟩;refine ak.fg hfg ?_;clear hfg
  (try change ak _ _ _ _ _)
  have hq1:([(0,0)]++signedN a0 a1 1 b1).length<=1000:=by
   unfold signedN;split<;>simp
  (repeat refine ak.seq ?_)
  refine ak.mono (Q:=λe st=>e=.normal/\Fg st ⟨[(3,.ptr 1 0),(4,.ptr 2 0),(5,.ptr 3 0),(6,.fn 240 [] [.ptr 0 0,.ptr 3 0])],51,[.cells [aa a0,aa a1],.cells [aa b0,aa b1],.cells [aa 0,aa 0],.cells [.buf 5 (([(0,0)]++signedN a0 a1 1 b1)++signedN a0 a1 b0 (minI b1 (-1))).length 2 none],.gone,.cells ((([(0,0)]++signedN a0 a1 1 b1)++signedN a0 a1 b0 (minI b1 (-1))).flatMap encIv)],[]⟩) ?_ ?_
  ·generalize ([(0,0)]++signedN a0 a1 1 b1)=q1 at hq1;by_cases h2:b0<=minI b1 (-1)
   ·refine(e8 @min_int) ?_;have hd:=nv a0 a1 b0 (minI b1 (-1)) q1 hq1 h2;refine zS [0,3,5] (n3 hrc hbc hkc) hd ?_;refine(zR) ?_;refine⟨rfl,(Fg.less (by (simp only[bf,aN,cA,↓reduceIte,af,signedN,t8 h2,length_append,length_cons,length_nil,b6])<;>(repeat' apply bt)<;>first | rfl | trivial) (by (simp only[bf,aN,or_true,true_or,signedN,t8 h2,length_append,length_cons,length_nil,b6])<;>(repeat' apply bt)<;>first | exact .inr rfl | exact .inl rfl | trivial))⟩
   ·refine(e8 @min_int) ?_;have hd:=jF a0 a1 b0 (minI b1 (-1)) q1.length (q1.flatMap encIv) h2;refine zS [0,3,5] (n3 hrc hbc hkc) hd ?_;refine(zR) ?_;refine⟨rfl,(Fg.less (by (simp only[bf,aN,cA,↓reduceIte,af,signedN,ul h2,append_nil])<;>(repeat' apply bt)<;>first | rfl | trivial) (by (simp only[bf,aN,or_true,true_or,signedN,ul h2,append_nil])<;>(repeat' apply bt)<;>first | exact .inr rfl | exact .inl rfl | trivial))⟩
  rintro e st ⟨rfl,hfg⟩;refine ak.fg hfg ?_;clear hfg
  (try change ak _ _ _ _ _)
  obtain⟨rows,hrows⟩:∃rows,rows=(([(0,0)]++signedN a0 a1 1 b1)++signedN a0 a1 b0 (minI b1 (-1))):=⟨_,rfl⟩
  have hne:rows≠[]:=by rw[hrows];simp
  obtain⟨x0,hr0⟩:∃x0,rows[0]?=some x0:=by
   cases h:rows with
   | nil=>exact t7 h hne
   | cons x r=>exact⟨x,rfl⟩
  have h0r:0<rows.length:=aE hr0
  have hlen:rows.length<=1000000:=by rw[hrows];(unfold signedN;split<;>split<;>simp)
  have hD:divideN a0 a1 b0 b1=rows.foldl joinP x0:=by rw[divideN,d1,<-hrows,show rows.headD (0,0)=x0 by cases rows with | nil=>exact t7 rfl hne | cons x r=>simpa using hr0]
  have ht2:(rows.flatMap encIv).take 2=[aa x0.1,aa x0.2]:=by
   have:=au (e:=2) (enc:=encIv) (λ_=>rfl) hr0
   rwa [cf,dd] at this
  rw[<-hrows];clear hrows
  refine(aq (n7 (show bN (.int .i64 0)=some 0 from rfl) @cf h0r hkc hcl ht2 (show 2<=rows.length*2 by omega)))<|(zV)<|(zs) ?_;refine zL rows (λk=>True) (λk=>[(4,.ptr 2 0),(7,.ptr 6 0),(40,.buf 5 rows.length 2 none),(41,aa rows.length),(42,aa k)]) (λk=>[.gone,.gone,.cells [aa 0,aa 0],.gone,.gone,.cells (rows.flatMap encIv),.cells [aa ((rows.take k).foldl joinP x0).1,aa ((rows.take k).foldl joinP x0).2]]) (bg (n3 @take_zero.{0} @foldl_nil.{0,0} hkc)) zp ?_;intro k hk hall;refine zT rows k ?_ ?_;rintro rfl;rotate_left;intro x hx hlt;rotate_left
  ·refine(cV) ?_;rw[be]
   exact(zV)<|zo [.cell 4 65] (hq:=by rw[hD,ivP,ivV])
  have hst:=fold_snoc (f:=joinP) (a:=x0) hx;obtain⟨p,q,hpq⟩:∃p q,(rows.take k).foldl joinP x0=(p,q):=⟨_,_,rfl⟩;rw[hpq] at hst ⊢
  refine(dI)<|(aq (n6 hlt (au (e:=2) (enc:=encIv) (λ_=>rfl) hx) @encIv.eq_1 hcl (show k*2+2<=rows.length*2 by omega) hkc))<|(zC)<|(zK (gZ p q x.1 x.2))<|(bE (n2 @ivP.eq_1 @ivV.eq_1))<|(aq (zi hlt hlen)) ?_;refine zX hlt (bg (n3 hst @joinP.eq_1 hkc)) trivial
 by_cases hp:1<=b0
 ·refine(aq (show decide (b0<=0)=false by simp;omega))<|(ee) ?_
  have hm1:maxI b0 1=b0:=by unfold maxI;split<;>omega
  have hm2:minI b1 (-1) = -1:=by unfold minI;split<;>omega
  have d1:divRows a0 a1 b0 b1=[(dlo a0 a1 b0,dhi a0 a1 b0),(dlo a0 a1 b1,dhi a0 a1 b1)]:=by rw[divRows,ul hz,hm1,hm2,signedN,t8 hb,signedN,ul (by omega)];rfl
  refine(e8 (n2 @max_int hm1)) ?_;have hd:=nw a0 a1 b0 b1 hb
  refine zS [0,3] (n3 hrc hbc hkc) hd ?_;refine(zR)<|(e8 (n2 @min_int hm2)) ?_
  have hd2:=jF a0 a1 b0 (-1) 2 [aa (dlo a0 a1 b0),aa (dhi a0 a1 b0),aa (dlo a0 a1 b1),aa (dhi a0 a1 b1)] (by omega);refine zS [0,3,6] (n3 hrc hbc hkc) hd2 ?_;refine(zR) ?_;obtain⟨rows,hrows⟩:∃rows,rows=[(dlo a0 a1 b0,dhi a0 a1 b0),(dlo a0 a1 b1,dhi a0 a1 b1)]:=⟨_,rfl⟩
  have hne:rows≠[]:=by rw[hrows];simp
  obtain⟨x0,hr0⟩:∃x0,rows[0]?=some x0:=by
   cases h:rows with
   | nil=>exact t7 h hne
   | cons x r=>exact⟨x,rfl⟩
  have h0r:0<rows.length:=aE hr0
  have hlen:rows.length<=1000000:=by rw[hrows];simp
  have hD:divideN a0 a1 b0 b1=rows.foldl joinP x0:=by rw[divideN,d1,<-hrows,show rows.headD (0,0)=x0 by cases rows with | nil=>exact t7 rfl hne | cons x r=>simpa using hr0]
  have ht2:(rows.flatMap encIv).take 2=[aa x0.1,aa x0.2]:=by
   have:=au (e:=2) (enc:=encIv) (λ_=>rfl) hr0
   rwa [cf,dd] at this
  rw[show([aa (dlo a0 a1 b0),aa (dhi a0 a1 b0),aa (dlo a0 a1 b1),aa (dhi a0 a1 b1)]:List SV)=rows.flatMap encIv by rw[hrows];rfl,show(SV.buf 6 2 2 none)=.buf 6 rows.length 2 none by rw[hrows];rfl];clear hrows
  refine(aq (n7 (show bN (.int .i64 0)=some 0 from rfl) @cf h0r hkc hcl ht2 (show 2<=rows.length*2 by omega)))<|(zV)<|(zs) ?_;refine zL rows (λk=>True) (λk=>[(4,.ptr 2 0),(7,.ptr 7 0),(40,.buf 6 rows.length 2 none),(41,aa rows.length),(42,aa k)]) (λk=>[.gone,.gone,.cells [aa 0,aa 0],.gone,.gone,.gone,.cells (rows.flatMap encIv),.cells [aa ((rows.take k).foldl joinP x0).1,aa ((rows.take k).foldl joinP x0).2]]) (bg (n3 @take_zero.{0} @foldl_nil.{0,0} hkc)) zp ?_;intro k hk hall;refine zT rows k ?_ ?_;rintro rfl;rotate_left;intro x hx hlt;rotate_left
  ·refine(cV) ?_;rw[be]
   exact(zV)<|zo [.cell 4 65] (hq:=by rw[hD,ivP,ivV])
  have hst:=fold_snoc (f:=joinP) (a:=x0) hx;obtain⟨p,q,hpq⟩:∃p q,(rows.take k).foldl joinP x0=(p,q):=⟨_,_,rfl⟩;rw[hpq] at hst ⊢
  refine(dI)<|(aq (n6 hlt (au (e:=2) (enc:=encIv) (λ_=>rfl) hx) @encIv.eq_1 hcl (show k*2+2<=rows.length*2 by omega) hkc))<|(zC)<|(zK (gZ p q x.1 x.2))<|(bE (n2 @ivP.eq_1 @ivV.eq_1))<|(aq (zi hlt hlen)) ?_;refine zX hlt (bg (n3 hst @joinP.eq_1 hkc)) trivial
 ·have hn:b1 <= -1:=by omega
  by_cases hq0:b0<=0;rotate_left
  ·omega
  refine(aq (n2 (show decide (b0<=0)=true by simpa using hq0) (show decide (0<=b1)=false by simp;omega)))<|(ee) ?_
  have hm1:maxI b0 1=1:=by unfold maxI;split<;>omega
  have hm2:minI b1 (-1)=b1:=by unfold minI;split<;>omega
  have d1:divRows a0 a1 b0 b1=[(dlo a0 a1 b0,dhi a0 a1 b0),(dlo a0 a1 b1,dhi a0 a1 b1)]:=by rw[divRows,ul hz,hm1,hm2,signedN,ul (by omega),signedN,t8 hb];rfl
  refine(e8 (n2 @max_int hm1)) ?_;have hd:=vT a0 a1 1 b1 (by omega)
  refine zS [0,3] (n3 hrc hbc hkc) hd ?_;refine(zR)<|(e8 (n2 @min_int hm2)) ?_
  have hd2:=nw a0 a1 b0 b1 hb;refine zS [0,3] (n3 hrc hbc hkc) hd2 ?_;refine(zR) ?_;obtain⟨rows,hrows⟩:∃rows,rows=[(dlo a0 a1 b0,dhi a0 a1 b0),(dlo a0 a1 b1,dhi a0 a1 b1)]:=⟨_,rfl⟩
  have hne:rows≠[]:=by rw[hrows];simp
  obtain⟨x0,hr0⟩:∃x0,rows[0]?=some x0:=by
   cases h:rows with
   | nil=>exact t7 h hne
   | cons x r=>exact⟨x,rfl⟩
  have h0r:0<rows.length:=aE hr0
  have hlen:rows.length<=1000000:=by rw[hrows];simp
  have hD:divideN a0 a1 b0 b1=rows.foldl joinP x0:=by rw[divideN,d1,<-hrows,show rows.headD (0,0)=x0 by cases rows with | nil=>exact t7 rfl hne | cons x r=>simpa using hr0]
  have ht2:(rows.flatMap encIv).take 2=[aa x0.1,aa x0.2]:=by
   have:=au (e:=2) (enc:=encIv) (λ_=>rfl) hr0
   rwa [cf,dd] at this
  rw[show([aa (dlo a0 a1 b0),aa (dhi a0 a1 b0),aa (dlo a0 a1 b1),aa (dhi a0 a1 b1)]:List SV)=rows.flatMap encIv by rw[hrows];rfl,show(SV.buf 6 2 2 none)=.buf 6 rows.length 2 none by rw[hrows];rfl];clear hrows
  refine(aq (n7 (show bN (.int .i64 0)=some 0 from rfl) @cf h0r hkc hcl ht2 (show 2<=rows.length*2 by omega)))<|(zV)<|(zs) ?_;refine zL rows (λk=>True) (λk=>[(4,.ptr 2 0),(7,.ptr 7 0),(40,.buf 6 rows.length 2 none),(41,aa rows.length),(42,aa k)]) (λk=>[.gone,.gone,.cells [aa 0,aa 0],.gone,.gone,.gone,.cells (rows.flatMap encIv),.cells [aa ((rows.take k).foldl joinP x0).1,aa ((rows.take k).foldl joinP x0).2]]) (bg (n3 @take_zero.{0} @foldl_nil.{0,0} hkc)) zp ?_;intro k hk hall;refine zT rows k ?_ ?_;rintro rfl;rotate_left;intro x hx hlt;rotate_left
  ·refine(cV) ?_;rw[be]
   exact(zV)<|zo [.cell 4 65] (hq:=by rw[hD,ivP,ivV])
  have hst:=fold_snoc (f:=joinP) (a:=x0) hx;obtain⟨p,q,hpq⟩:∃p q,(rows.take k).foldl joinP x0=(p,q):=⟨_,_,rfl⟩;rw[hpq] at hst ⊢
  refine(dI)<|(aq (n6 hlt (au (e:=2) (enc:=encIv) (λ_=>rfl) hx) @encIv.eq_1 hcl (show k*2+2<=rows.length*2 by omega) hkc))<|(zC)<|(zK (gZ p q x.1 x.2))<|(bE (n2 @ivP.eq_1 @ivV.eq_1))<|(aq (zi hlt hlen)) ?_;refine zX hlt (bg (n3 hst @joinP.eq_1 hkc)) trivial
structure UseM where
 u1:Int
 u2:Int
 u3:Int
 u4:Int
 u5:Int
 u6:Int
def encUse(u:UseM):List SV:=[aa u.u1,aa u.u2,aa u.u3,aa u.u4,aa u.u5,aa u.u6]
def letterN(u:UseM)(op:Int):Int×Int:=if op=2 then (u.u1,u.u2) else if op=3 then (u.u3,u.u4) else (u.u5,u.u6)
def applyN(op:Int)(a b:Int×Int):Int×Int:=
 if op=5 then bothN plusN a.1 a.2 b.1 b.2 else if op=6 then bothN minusN a.1 a.2 b.1 b.2 else if op=7 then bothN timesN a.1 a.2 b.1 b.2
 else if op=9 then (minI a.1 b.1,minI a.2 b.2) else if op=10 then (maxI a.1 b.1,maxI a.2 b.2) else divideN a.1 a.2 b.1 b.2
def chooseN(a b c:Int×Int):Int×Int:=if overN a.1 a.2 0=2 then b else if overN a.1 a.2 0=0 then c else joinIvN b.1 b.2 c.1 c.2
def tE(u:UseM)(n:Int):PC prog 232 [.ag (encUse u),aa n] (·=ivP (n,n)):=by
 refine pB 8 Tryz.func232 ?_;exact(aq @encUse.eq_1)<|(zV)<|zo [.cell 4 65]
def tw(u:UseM)(op:Int):PC prog 231 [.ag (encUse u),aa op] (·=ivP (letterN u op)):=by
 refine pB 19 Tryz.func231 ?_;refine(aq @encUse.eq_1)<|(zV)<|(zB) ?_
 cases h1:decide (op=2);rotate_left
 ·exact(aq h1)<|(bq)<|zo [.cell 4 65] (hq:=by rw[letterN,t8 (ww h1)];rfl)
 refine(aq h1)<|(zN) ?_
 cases h2:decide (op=3);rotate_left
 ·exact(aq h2)<|(bq)<|zo [.cell 4 65] (hq:=by rw[letterN,ul (wt h1),t8 (ww h2)];rfl)
 exact(aq h2)<|(ee)<|zo [.cell 4 65] (hq:=by rw[letterN,ul (wt h1),ul (wt h2)];rfl)
def sY(u:UseM)(a b c:Int×Int):PC prog 230 [.ag (encUse u),ivP a,ivP b,ivP c] (·=ivP (chooseN a b c)):=by
 refine pB 20 Tryz.func230 ?_;refine(aq (n3 @encUse.eq_1 @ivP.eq_1 @ivV.eq_1))<|(zC)<|(zK (wa a.1 a.2 0))<|(zR)<|(zB) ?_
 cases h1:decide (overN a.1 a.2 0=2);rotate_left
 ·exact(aq h1)<|(bq)<|zo [.cell 8 65] (hq:=by rw[chooseN,t8 (ww h1)];rfl)
 refine(aq h1)<|(zN) ?_
 cases h2:decide (overN a.1 a.2 0=0);rotate_left
 ·exact(aq h2)<|(bq)<|zo [.cell 8 65] (hq:=by rw[chooseN,ul (wt h1),t8 (ww h2)];rfl)
 exact(aq h2)<|(DA)<|(zK (gZ b.1 b.2 c.1 c.2))<|(bE (n2 @ivP.eq_1 @ivV.eq_1))<|zo [.cell 8 65] (hq:=by rw[chooseN,ul (wt h1),ul (wt h2)];rfl)
def vL(u:UseM)(op:Int)(a b:Int×Int)(hb:b.1<=b.2):PC prog 229 [.ag (encUse u),aa op,ivP a,ivP b] (·=ivP (applyN op a b)):=by
 refine pB 54 Tryz.func229 ?_;refine(aq (n3 @encUse.eq_1 @ivP.eq_1 @ivV.eq_1))<|(zV)<|(zB) ?_
 cases h1:decide (op=5);rotate_left
 ·exact(aq h1)<|(zY)<|(zC)<|(zK (jh a.1 a.2 b.1 b.2))<|(bE (n2 @ivP.eq_1 @ivV.eq_1))<|zo [.cell 8 65] (hq:=by rw[applyN,t8 (ww h1)];rfl)
 have g1:=wt h1
 refine(aq h1)<|(zN) ?_
 cases h2:decide (op=6);rotate_left
 ·exact(aq h2)<|(zY)<|(zC)<|(zK (yl a.1 a.2 b.1 b.2))<|(bE (n2 @ivP.eq_1 @ivV.eq_1))<|zo [.cell 8 65] (hq:=by rw[applyN,ul g1,t8 (ww h2)];rfl)
 have g2:=wt h2
 refine(aq h2)<|(zN) ?_
 cases h3:decide (op=7);rotate_left
 ·exact(aq h3)<|(zY)<|(zC)<|(zK (yk a.1 a.2 b.1 b.2))<|(bE (n2 @ivP.eq_1 @ivV.eq_1))<|zo [.cell 8 65] (hq:=by rw[applyN,ul g1,ul g2,t8 (ww h3)];rfl)
 have g3:=wt h3
 refine(aq h3)<|(zN) ?_
 cases h4:decide (op=9);rotate_left
 ·exact(aq h4)<|(zY)<|(aq @min_int)<|zo [.cell 8 65] (hq:=by rw[applyN,ul g1,ul g2,ul g3,t8 (ww h4)];rfl)
 have g4:=wt h4
 refine(aq h4)<|(zN) ?_
 cases h5:decide (op=10);rotate_left
 ·exact(aq h5)<|(zY)<|(aq @max_int)<|zo [.cell 8 65] (hq:=by rw[applyN,ul g1,ul g2,ul g3,ul g4,t8 (ww h5)];rfl)
 have g5:=wt h5
 exact(aq h5)<|(DA)<|(zK (vU a.1 a.2 b.1 b.2 hb))<|(bE (n2 @ivP.eq_1 @ivV.eq_1))<|zo [.cell 8 65] (hq:=by rw[applyN,ul g1,ul g2,ul g3,ul g4,ul g5];rfl)
inductive FormM where
 | mk (op n:Int) (kids:List FormM)
def FormM.op:FormM->Int
 | .mk op _ _=>op
mutual
def encForm:FormM->List SV
 | .mk op n kids=>[aa op,aa n,.sl kids.length 3 (encForms kids)]
def encForms:List FormM->List SV
 | []=>[]
 | f::fs=>encForm f++encForms fs
end
def encForms_eq:∀l:List FormM,encForms l=l.flatMap encForm
 | []=>by rw[encForms];rfl
 | f::l=>by rw[encForms,encForms_eq l,flatMap_cons]
def encForm_mk(op n:Int)(kids:List FormM):encForm (.mk op n kids)=[aa op,aa n,.sl kids.length 3 (kids.flatMap encForm)]:=by rw[encForm,encForms_eq]
def encForm_len(f:FormM):(encForm f).length=3:=by
 obtain⟨op,n,kids⟩:=f;rw[encForm_mk];rfl
def encForm_gnd(f:FormM):bm (encForm f)=true:=by
 obtain⟨op,n,kids⟩:=f;rw[encForm_mk];rfl
inductive FormOk:FormM->Prop
 | mk {op n:Int} {kids:List FormM}:kids.length<=1000000->(∀k∈kids,FormOk k)->FormOk (.mk op n kids)
mutual
def nodesF:FormM->Int->Int
 | .mk _ _ kids,most=>nodesL kids most 1
def nodesL:List FormM->Int->Int->Int
 | [],_,n=>n
 | k::ks,most,n=>if most<n then n else nodesL ks most (addW n (nodesF k (subW most n)))
end
def nE:∀(d:Nat) (f:FormM),SizeOf.sizeOf f<d->FormOk f->∀most:Int,PC Tryz.prog 72 [.ag (encForm f),aa most] (·=aa (nodesF f most))
 | 0,f,hd,_,_=>t7 hd (Nat.not_lt_zero _)
 | d+1,.mk op n kids,hd,hf,most=>by
  cases hf with
  | mk hlen hks=>
  have hkd:∀k∈kids,SizeOf.sizeOf k<d:=λk hk=>by
   have h1:=List.sizeOf_lt_of_mem hk
   have h2:SizeOf.sizeOf (FormM.mk op n kids)=1+SizeOf.sizeOf op+SizeOf.sizeOf n+SizeOf.sizeOf kids:=by simp
   omega
  rw[encForm_mk,nodesF]
  refine pB 27 Tryz.func72 ?_;refine(gi)<|(zV)<|(zs) ?_;refine Bl kids (λk (acc:Int)=>nodesL kids most 1=nodesL (kids.drop k) most acc) (λk acc=>[(1,aa most),(5,aa acc),(9,slS 3 kids encForm),(10,aa kids.length),(11,aa k)]) (λk acc=>[]) (1) zH (by rfl) ?_;intro k acc hk hall;refine zT kids k ?_ ?_;rintro rfl;rotate_left;intro x hx hlt;rotate_left
  ·exact(cV)<|(zV)<|zo [.tmp 4] (hq:=by rw[hall,List.drop_length,nodesL])
  rw[drop_at hx,nodesL] at hall;have hxm:=List.mem_of_getElem? hx;have ih:=nE d x (hkd x hxm) (hks x hxm);have hxl:((kids.flatMap encForm).drop (k*3)).take 3=encForm x:=au (e:=3) (enc:=encForm) encForm_len hx;obtain⟨op',n',kids'⟩:=x;simp only[encForm_mk] at hxl ih
  refine(dI)<|(aq (n2 hlt hxl)) ?_
  cases h1:decide (most<acc);rotate_left
  ·refine(aq h1)<|(zY) ?_;refine ak.exit ?_;exact(zV)<|zo [.tmp 4] (hq:=by rw[hall,t8 (ww h1)])
  refine(aq h1)<|(zN) ?_
  rw[ul (wt h1)] at hall
  refine(e8 @bin_subW)<|(zK (ih (subW most acc)))<|(bE @bin_addW)<|(aq (zi hlt hlen)) ?_;refine xf hlt (addW acc (nodesF (.mk op' n' kids') (subW most acc))) zH hall
def yw(f:FormM)(hf:FormOk f)(most:Int):PC prog 72 [.ag (encForm f),aa most] (·=aa (nodesF f most)):=nE _ f (dc _) hf most
def wantN(op:Int):Nat:=if op=11 then 3 else if 5<=op then 2 else 0
mutual
def rightF:FormM->Bool
 | .mk op n kids=>(decide (1<=op)&&decide (op<=11))&&(decide (kids.length=wantN op)&&(!(decide (n<0))&&(!(decide (9999999<n))&&!(decide (0<n)&&!(decide (op=1))))))&&rightFs kids
def rightFs:List FormM->Bool
 | []=>true
 | k::ks=>rightF k&&rightFs ks
end
def rightFs_eq:∀l:List FormM,rightFs l=l.all rightF
 | []=>by rw[rightFs];rfl
 | a::l=>by rw[rightFs,rightFs_eq l,fd]
def nF:∀(d:Nat) (f:FormM),SizeOf.sizeOf f<d->FormOk f->PC Tryz.prog 73 [.ag (encForm f)] (·=ao (rightF f))
 | 0,f,hd,_=>t7 hd (Nat.not_lt_zero _)
 | d+1,.mk op n kids,hd,hf=>by
  cases hf with
  | mk hlen hks=>
  have hkd:∀k∈kids,SizeOf.sizeOf k<d:=λk hk=>by
   have h1:=List.sizeOf_lt_of_mem hk
   have h2:SizeOf.sizeOf (FormM.mk op n kids)=1+SizeOf.sizeOf op+SizeOf.sizeOf n+SizeOf.sizeOf kids:=by simp
   omega
  rw[encForm_mk,rightF,rightFs_eq];refine pB 59 Tryz.func73 ?_;refine(gi) ?_
  (repeat refine ak.seq ?_)
  cases h1:decide (op<1);rotate_left
  ·refine ak.block ?_;exact(aq h1)<|(bq)<|zo [.tmp 2] (hq:=by rw[show decide (1<=op)=false by have:=ww h1;simp;omega];rfl)
  cases h2:decide (11<op);rotate_left
  ·refine ak.block ?_;exact(aq (n2 h1 h2))<|(bq)<|zo [.tmp 2] (hq:=by rw[show decide (op<=11)=false by have:=ww h2;simp;omega,Bool.and_false];rfl)
  have g1:=wt h1;have g2:=wt h2;rw[show decide (1<=op)=true by simp;omega,show decide (op<=11)=true by simp;omega];refine ak.mono (Q:=λe st=>e=.normal/\Fg st ⟨[(1,.ptr 0 0),(3,natV (wantN op))],59,[.cells [aa op,aa n,.sl kids.length 3 (kids.flatMap encForm)]],[]⟩) ?_ ?_
  ·refine ak.block ?_;refine(aq (n2 h1 h2))<|(zN) ?_
   cases h3:decide (op=11);rotate_left
   ·refine(aq h3)<|(bq) ?_;exact⟨rfl,(Fg.less (by (simp only[bf,aN,cA,↓reduceIte,Nat.reduceEqDiff,wantN,t8 (ww h3)])<;>(repeat' apply And.intro)<;>first | rfl | trivial) (by (simp only[bf,aN,or_true,true_or,wantN,t8 (ww h3)])<;>(repeat' apply And.intro)<;>first | exact .inr rfl | exact .inl rfl | trivial))⟩
   refine(aq h3)<|(zN) ?_
   cases h4:decide (5<=op);rotate_left
   ·refine(aq h4)<|(bq) ?_;exact⟨rfl,(Fg.less (by (simp only[bf,aN,cA,↓reduceIte,Nat.reduceEqDiff,wantN,ul (wt h3),t8 (ww h4)])<;>(repeat' apply And.intro)<;>first | rfl | trivial) (by (simp only[bf,aN,or_true,true_or,wantN,ul (wt h3),t8 (ww h4)])<;>(repeat' apply And.intro)<;>first | exact .inr rfl | exact .inl rfl | trivial))⟩
   ·refine(aq h4)<|(zN) ?_;exact⟨rfl,(Fg.less (by (simp only[bf,aN,cA,↓reduceIte,Nat.reduceEqDiff,wantN,ul (wt h3),ul (wt h4)])<;>(repeat' apply And.intro)<;>first | rfl | trivial) (by (simp only[bf,aN,or_true,true_or,wantN,ul (wt h3),ul (wt h4)])<;>(repeat' apply And.intro)<;>first | exact .inr rfl | exact .inl rfl | trivial))⟩
  rintro e st ⟨rfl,hfg⟩;refine ak.fg hfg ?_;clear hfg
  (try change ak _ _ _ _ _)
  generalize wantN op=w;by_cases h3:kids.length=w;rotate_left
  ·rw[show decide (kids.length=w)=false by simpa using h3]
   exact(aq (show decide ((kids.length:Int)=(w:Int))=false by simp;omega))<|(bq)<|zo [.tmp 2]
  rw[show decide (kids.length=w)=true by simpa using h3]
  have h3':decide ((kids.length:Int)=(w:Int))=true:=by simp;omega
  cases h4:decide (n<0);rotate_left
  ·exact(aq (n2 h3' h4))<|(bq)<|zo [.tmp 2]
  cases h5:decide (9999999<n);rotate_left
  ·exact(aq (n3 h3' h4 h5))<|(bq)<|zo [.tmp 2]
  by_cases h7:(decide (0<n)&&!(decide (op=1)))=true
  ·rw[Bool.and_eq_true,Bool.not_eq_true'] at h7
   exact(aq (n5 h3' h4 h5 @h7.1 @h7.2))<|(bq)<|zo [.tmp 2] (hq:=by rw[h7.1,h7.2];rfl)
  have h8:(decide (0<n)&&!(decide (op=1)))=false:=by simpa using h7
  rw[h8]
  (repeat refine ak.seq ?_)
  refine ak.mono (Q:=λe st=>e=.normal/\Fg st ⟨[(1,.ptr 0 0),(47,ao false)],59,[.cells [aa op,aa n,.sl kids.length 3 (kids.flatMap encForm)]],[]⟩) ?_ ?_
  ·cases h6:decide (0<n)
   ·refine(aq (n4 h3' h4 h5 h6)) ?_;exact⟨rfl,zH⟩
   ·rw[h6] at h8
    have h9:decide (op=1)=true:=by
     cases h:decide (op=1) with
     | true=>rfl
     | false=>rw[h] at h8;cases h8
    refine(aq (n5 h3' h4 h5 h6 h9)) ?_;exact⟨rfl,zH⟩
  rintro e st ⟨rfl,hfg⟩;refine ak.fg hfg ?_;clear hfg
  (try change ak _ _ _ _ _)
  refine(ee)<|(zs) ?_;refine zL kids (λk=>(kids.take k).all rightF=true) (λk=>[(49,slS 3 kids encForm),(50,aa kids.length),(51,aa k)]) (λk=>[]) zH zp ?_;intro k hk hall;refine zT kids k ?_ ?_;rintro rfl;rotate_left;intro x hx hlt;rotate_left
  ·refine(cV)<|(zV) ?_
   rw[List.take_length] at hall;exact zo [.tmp 2] (hq:=by rw[hall];rfl)
  have hxm:=List.mem_of_getElem? hx;have ih:=nF d x (hkd x hxm) (hks x hxm);have hxl:((kids.flatMap encForm).drop (k*3)).take 3=encForm x:=au (e:=3) (enc:=encForm) encForm_len hx
  have hnext:rightF x=true->(kids.take (k+1)).all rightF=true:=λh=>by rw[takeN_snoc hx,List.all_append,hall];simp[h]
  have hbad:rightF x=false->kids.all rightF=false:=λh=>by rw[List.all_eq_false];exact⟨x,hxm,by rw[h];decide⟩
  obtain⟨op',n',kids'⟩:=x;simp only[encForm_mk] at hxl ih
  refine(dI)<|(aq (n2 hlt hxl))<|(zC)<|(zK ih) ?_
  cases h10:rightF (.mk op' n' kids')
  ·exact(zR)<|(bq)<|zo [.tmp 2] (hq:=by rw[hbad h10];rfl)
  refine(zR)<|(zN)<|(aq (zi hlt hlen)) ?_;refine zX hlt zH (hnext h10)
def p9(f:FormM)(hf:FormOk f):PC prog 73 [.ag (encForm f)] (·=ao (rightF f)):=nF _ f (dc _) hf
def validForm(f:FormM):Bool:=decide (nodesF f 60<=60)&&rightF f
def jJ(f:FormM)(hf:FormOk f):PC prog 36 [.ag (encForm f)] (·=ao (Proofs.validForm f)):=by
 have hn:=yw f hf 60;have hr:=p9 f hf;refine pB 10 Tryz.func36 ?_;have hv:Proofs.validForm f=(decide (nodesF f 60<=60)&&rightF f):=rfl;generalize nodesF f 60=N at hn hv;generalize rightF f=R at hr hv;obtain⟨op,n,kids⟩:=f;rw[encForm_mk] at hn hr ⊢
 refine(fe)<|(zK hn) ?_
 cases h1:decide (N<=60)
 ·exact(bE h1)<|zo [.tmp 2] (hq:=by rw[hv,h1];rfl)
 exact(Et h1)<|(zK hr)<|(zR)<|zo [.tmp 2] (hq:=by rw[hv,h1];rfl)
mutual
def runF(u:UseM):FormM->Int×Int
 | .mk op n kids=>
  if op=1 then (n,n) else if op<=4 then letterN u op
  else match runFs u kids with
   | a::b::l=>if op=11 then (match l with
    | c::_=>chooseN a b c
    | []=>(0,0)) else applyN op a b
   | _=>(0,0)
def runFs(u:UseM):List FormM->List (Int×Int)
 | []=>[]
 | k::ks=>runF u k::runFs u ks
end
def min4_le(p q r s:Int):minI (minI (minI p q) r) s<=maxI (maxI (maxI p q) r) s:=by
 have h1:∀a b:Int,minI a b<=a:=λa b=>by unfold minI;split<;>omega
 have h2:∀a b:Int,a<=maxI a b:=λa b=>by unfold maxI;split<;>omega
 have:=h1 p q;have:=h1 (minI p q) r;have:=h1 (minI (minI p q) r) s;have:=h2 p q;have:=h2 (maxI p q) r;have:=h2 (maxI (maxI p q) r) s;omega
def both_le(f:Int->Int->Int)(a b c d:Int):(bothN f a b c d).1<=(bothN f a b c d).2:=by
 unfold bothN;split
 ·exact min4_le _ _ _ _
 ·exact dD _
def join_le(a b c d:Int):(joinIvN a b c d).1<=(joinIvN a b c d).2:=by
 unfold joinIvN;split
 ·exact min4_le _ _ _ _
 ·exact dD _
def fold_le(l:List (Int×Int))(x:Int×Int)(h:l≠[]):(l.foldl joinP x).1<=(l.foldl joinP x).2:=by
 rcases List.eq_nil_or_concat l with rfl | ⟨a,y,rfl⟩
 ·exact t7 rfl h
 ·rw[List.concat_eq_append,d6];exact join_le _ _ _ _
def divide_le(a0 a1 b0 b1:Int):(divideN a0 a1 b0 b1).1<=(divideN a0 a1 b0 b1).2:=by
 unfold divideN;by_cases h:divRows a0 a1 b0 b1=[]
 ·rw[h];exact dD _
 ·exact fold_le _ _ h
def minmax_le{a b c d:Int}(h1:a<=b)(h2:c<=d):minI a c<=minI b d/\maxI a c<=maxI b d:=by
 unfold minI maxI;constructor<;>split<;>split<;>omega
def apply_le(op:Int){a b:Int×Int}(ha:a.1<=a.2)(hb:b.1<=b.2):(applyN op a b).1<=(applyN op a b).2:=by
 unfold applyN;split
 ·exact both_le _ _ _ _ _
 split
 ·exact both_le _ _ _ _ _
 split
 ·exact both_le _ _ _ _ _
 split
 ·exact(minmax_le ha hb).1
 split
 ·exact(minmax_le ha hb).2
 ·exact divide_le _ _ _ _
def choose_le{a b c:Int×Int}(hb:b.1<=b.2)(hc:c.1<=c.2):(chooseN a b c).1<=(chooseN a b c).2:=by
 unfold chooseN;split
 ·exact hb
 split
 ·exact hc
 ·exact join_le _ _ _ _
structure UseM.ok (u:UseM):Prop where
 a:u.u1<=u.u2
 b:u.u3<=u.u4
 c:u.u5<=u.u6
def letter_le{u:UseM}(h:u.ok)(op:Int):(letterN u op).1<=(letterN u op).2:=by
 unfold letterN;split
 ·exact h.a
 split
 ·exact h.b
 ·exact h.c
mutual
def runF_le{u:UseM}(h:u.ok):∀f:FormM,(runF u f).1<=(runF u f).2
 | .mk op n kids=>by
  have ih:=runFs_le h kids;rw[runF];split
  ·exact dD _
  split
  ·exact letter_le h op
  ·split
   ·rename_i a b l hl;rw[hl] at ih;split
    ·split
     ·exact choose_le (ih _ (by simp)) (ih _ (by simp))
     ·exact dD _
    ·exact apply_le op (ih _ (by simp)) (ih _ (by simp))
   ·exact dD _
def runFs_le{u:UseM}(h:u.ok):∀l:List FormM,∀p∈runFs u l,p.1<=p.2
 | [],p,hp=>by rw[runFs] at hp;cases hp
 | k::ks,p,hp=>by
  rw[runFs] at hp
  rcases mem_cons.1 hp with rfl | hp
  ·exact runF_le h k
  ·exact runFs_le h ks p hp
end
def nilS_meth(P:Program)(nm:String)(t:TypeId)(v:AV)(ys:List AV):Ev.nilS P (.a (.fn (.method nm) [.iface t v] ys))=(ep P t nm).map λ_=>.a (.fn (.method nm) [.iface t v] ys):=rfl
def rangesV(u:UseM):SV:=.iface 176 (.ag (encUse u))
def tC:ep prog 176 "bogie/formula.number"=some 232:=by kernel_rfl
def tz:ep prog 176 "bogie/formula.letter"=some 231:=by kernel_rfl
def nD:ep prog 176 "bogie/formula.apply"=some 229:=by kernel_rfl
def me:ep prog 176 "bogie/formula.choose"=some 230:=by kernel_rfl
def r4(u:UseM)(hu:u.ok):∀(d:Nat) (f:FormM),SizeOf.sizeOf f<d->FormOk f->rightF f=true->PC Tryz.prog 94 [rangesV u,.ag (encForm f)] (·=ivP (runF u f))
 | 0,f,hd,_,_=>t7 hd (Nat.not_lt_zero _)
 | d+1,.mk op n kids,hd,hf,hr=>by
  cases hf with
  | mk hlen hks=>
  have hkd:∀k∈kids,SizeOf.sizeOf k<d:=λk hk=>by
   have h1:=List.sizeOf_lt_of_mem hk
   have h2:SizeOf.sizeOf (FormM.mk op n kids)=1+SizeOf.sizeOf op+SizeOf.sizeOf n+SizeOf.sizeOf kids:=by simp
   omega
  rw[encForm_mk,runF]
  refine pB 67 Tryz.func94 ?_;refine(aq (n2 @rangesV.eq_1 @encUse.eq_1))<|(zB) ?_
  cases h1:decide (op=1);rotate_left
  ·refine(aq h1)<|(zY) ?_
   rw[t8 (ww h1)]
   exact(zC)<|(zK (tE u n) (hc:=xb @tC))<|(bE (n2 @ivP.eq_1 @ivV.eq_1))<|zo [.cell 4 65]
  rw[ul (wt h1)]
  refine(aq h1)<|(zN) ?_
  cases h2:decide (op<=4);rotate_left
  ·refine(aq h2)<|(zY) ?_
   rw[t8 (ww h2)]
   exact(zC)<|(zK (tw u op) (hc:=xb @tz))<|(bE (n2 @ivP.eq_1 @ivV.eq_1))<|zo [.cell 4 65]
  rw[ul (wt h2)]
  refine(aq h2)<|(zN) ?_
  rw[rightF,Bool.and_eq_true,Bool.and_eq_true,Bool.and_eq_true,Bool.and_eq_true] at hr;obtain⟨⟨hr1,hr2,_⟩,hr3⟩:=hr;have hop1:=ww hr1.1;have hop2:=ww hr1.2;have hkl:=ww hr2;have h1':=wt h1;have h2':=wt h2;rw[rightFs_eq] at hr3;have n0:bN (.int .i64 0)=some 0:=rfl;have n1:bN (.int .i64 1)=some 1:=rfl;have n2:bN (.int .i64 2)=some 2:=rfl
  have hkid:∀{j:Nat} {x:FormM},kids[j]?=some x->PC Tryz.prog 94 [rangesV u,.ag (encForm x)] (·=ivP (runF u x)):=λ{j x} hx=>by
   have hxm:=List.mem_of_getElem? hx;exact r4 u hu d x (hkd x hxm) (hks x hxm) (List.all_eq_true.1 hr3 x hxm)
  have hat:∀{j:Nat} {x:FormM},kids[j]?=some x->((kids.flatMap encForm).drop (j*3)).take 3=encForm x:=λhx=>au (e:=3) (enc:=encForm) encForm_len hx;cases h3:decide (op=11)
  ·have h3':=wt h3
   have hw:kids.length=2:=by rw[hkl,wantN,ul h3',t8 (by omega)]
   obtain⟨x0,x1,hk2⟩:∃x0 x1,kids=[x0,x1]:=by
    match kids,hw with
    | [a,b],_=>exact⟨a,b,rfl⟩
   have e0:kids[0]?=some x0:=by rw[hk2];rfl
   have e1:kids[1]?=some x1:=by rw[hk2];rfl
   have hrun:runFs u kids=[runF u x0,runF u x1]:=by rw[hk2,runFs,runFs,runFs]
   rw[hrun];simp only[ul h3'];have hb:=runF_le hu x1;have a0:=hat e0;have a1:=hat e1;have k0:=hkid e0;have k1:=hkid e1
   have t0:(kids.flatMap encForm).take 3=encForm x0:=by rwa [Nat.zero_mul,List.drop_zero] at a0
   rw[rangesV,encUse] at k0 k1;generalize runF u x0=r0 at k0 ⊢;generalize runF u x1=r1 at k1 hb ⊢;obtain⟨o0,m0,s0⟩:=x0;obtain⟨o1,m1,s1⟩:=x1;rw[encForm_mk] at t0 a1 k0 k1
   have l0:0<kids.length:=by omega
   have l1:1<kids.length:=by omega
   refine(aq h3)<|(zN)<|(zs) ?_;refine kU [0,0,2,0,0,16,48,112,248,0,0,1024,3072,7168,16376,1,32769,98305,262143,524287] ?_;refine(jL (n3 n0 l0 t0)) ?_;refine SD.k (by rfl) rfl rfl (by rfl) rfl rfl zc (k0) (zw) rfl ?_;refine(jL (n3 n1 l1 a1)) ?_;refine SD.k (by rfl) rfl rfl (by rfl) rfl rfl zc (k1) (zw) rfl ?_;refine(jL (n3 @sOp.eq_28 @nilS_meth @nD)) ?_;refine SD.k (by rfl) rfl rfl (by rfl) rfl rfl (xb @nD) (vL u op r0 r1 hb) (zw) rfl ?_;refine SD.e (by rfl) rfl (by rfl) rfl rfl (by rfl) zl ?_;exact(zM)<|zo [.cell 4 65]
  ·have h3':=ww h3
   have hw:kids.length=3:=by rw[hkl,wantN,t8 h3']
   obtain⟨x0,x1,x2,hk2⟩:∃x0 x1 x2,kids=[x0,x1,x2]:=by
    match kids,hw with
    | [a,b,c],_=>exact⟨a,b,c,rfl⟩
   have e0:kids[0]?=some x0:=by rw[hk2];rfl
   have e1:kids[1]?=some x1:=by rw[hk2];rfl
   have e2:kids[2]?=some x2:=by rw[hk2];rfl
   have hrun:runFs u kids=[runF u x0,runF u x1,runF u x2]:=by rw[hk2,runFs,runFs,runFs,runFs]
   rw[hrun];simp only[t8 h3'];have a0:=hat e0;have a1:=hat e1;have a2:=hat e2;have k0:=hkid e0;have k1:=hkid e1;have k2:=hkid e2
   have t0:(kids.flatMap encForm).take 3=encForm x0:=by rwa [Nat.zero_mul,List.drop_zero] at a0
   rw[rangesV,encUse] at k0 k1 k2;generalize runF u x0=r0 at k0 ⊢;generalize runF u x1=r1 at k1 ⊢;generalize runF u x2=r2 at k2 ⊢;obtain⟨o0,m0,s0⟩:=x0;obtain⟨o1,m1,s1⟩:=x1;obtain⟨o2,m2,s2⟩:=x2;rw[encForm_mk] at t0 a1 a2 k0 k1 k2
   have l0:0<kids.length:=by omega
   have l1:1<kids.length:=by omega
   have l2:2<kids.length:=by omega
   refine(aq h3)<|(zY)<|(zs) ?_;refine kU [0,0,0,4,12,28,62,0,0,256,768,1792,4094,0,0,16384,49152,114688,262142,1,524289,1572865,4194303,8388607] ?_;refine(jL (n3 n0 l0 t0)) ?_;refine SD.k (by rfl) rfl rfl (by rfl) rfl rfl zc (k0) (zw) rfl ?_;refine(jL (n3 n1 l1 a1)) ?_;refine SD.k (by rfl) rfl rfl (by rfl) rfl rfl zc (k1) (zw) rfl ?_;refine(jL (n3 @n2 l2 a2)) ?_;refine SD.k (by rfl) rfl rfl (by rfl) rfl rfl zc (k2) (zw) rfl ?_;refine(jL (n3 @sOp.eq_28 @nilS_meth @me)) ?_;refine SD.k (by rfl) rfl rfl (by rfl) rfl rfl (xb @me) (sY u r0 r1 r2) (zw) rfl ?_;refine SD.e (by rfl) rfl (by rfl) rfl rfl (by rfl) zl ?_;exact(zM)<|zo [.cell 4 65]
def CD(u:UseM)(hu:u.ok)(f:FormM)(hf:FormOk f)(hr:rightF f=true):PC prog 94 [rangesV u,.ag (encForm f)] (·=ivP (runF u f)):=r4 u hu _ f (dc _) hf hr
def UseM.good(u:UseM):Bool:=iokN u.u1 u.u2&&(iokN u.u3 u.u4&&iokN u.u5 u.u6)
def damageN(f:FormM)(u:UseM):Int×Int:=if u.good=true/\validForm f=true then (maxI 0 (runF u f).1,maxI 0 (runF u f).2) else (0,0)
def iok_le{a b:Int}(h:iokN a b=true):a<=b:=by
 unfold iokN at h;simp only[ba,co,wd] at h;omega
def UseM.good_ok{u:UseM}(h:u.good=true):u.ok:=by
 unfold UseM.good at h;simp only[ba] at h;exact⟨iok_le h.1,iok_le h.2.1,iok_le h.2.2⟩
def vR(f:FormM)(u:UseM)(hf:FormOk f):PC prog 43 [.ag (encForm f),.ag (encUse u)] (·=ivP (damageN f u)):=by
 have hv:=jJ f hf;have hr:=λh1 h2=>CD u h1 f hf h2
 have hd:damageN f u=if u.good=true/\Proofs.validForm f=true then (maxI 0 (runF u f).1,maxI 0 (runF u f).2) else (0,0):=rfl
 have hvr:Proofs.validForm f=true->rightF f=true:=λh=>by unfold Proofs.validForm at h;simp only[ba] at h;exact h.2
 generalize Proofs.validForm f=V at hv hd hvr;generalize rightF f=R at hr hvr;generalize runF u f=r at hr hd;obtain⟨op,n,kids⟩:=f;rw[encForm_mk] at hv hr ⊢;obtain⟨ivs,hivs⟩:∃l:List (Int×Int),l=[(u.u1,u.u2),(u.u3,u.u4),(u.u5,u.u6)]:=⟨_,rfl⟩
 have hgood:u.good=ivs.all λp=>iokN p.1 p.2:=by rw[hivs];simp[UseM.good]
 have hkc:∀(o:Nat) (l:List (Int×Int)),(l.flatMap encIv).map (aH o)=l.flatMap encIv:=λo l=>kill_cells encIv_gnd o l;have hcl:=flat_len' encIv_len ivs
 have hlen:ivs.length<=1000:=by rw[hivs];simp
 refine pB 53 Tryz.func43 ?_;refine(aq @encUse.eq_1)<|(zV)<|(zs) ?_;refine zL ivs (λk=>(ivs.take k).all (λp=>iokN p.1 p.2)=true) (λk=>[(2,.ptr 0 0),(3,.ptr 1 0),(4,.ptr 2 0),(14,.buf 3 ivs.length 2 (some 3)),(15,aa ivs.length),(16,aa k)]) (λk=>[.cells [aa op,aa n,.sl kids.length 3 (kids.flatMap encForm)],.cells (encUse u),.cells [aa 0,aa 0],.cells (ivs.flatMap encIv)]) (bg (n9 @encUse.eq_1 hivs @length_cons.{0} @length_nil.{0} @flatMap_cons.{0,0} @flatMap_nil.{0,0} @encIv.eq_1 @cons_append.{0} @nil_append.{0})) zp ?_;intro k hk hall;refine zT ivs k ?_ ?_;rintro rfl;rotate_left;intro x hx hlt;rotate_left
 ·refine(cV) ?_;rw[be] at hall;rw[<-hgood] at hall
  refine(e8 @encUse.eq_1)<|(zK hv) ?_
  cases hV:V
  ·exact(zR)<|(bq)<|zo [.cell 4 65] (hq:=by rw[hd,ul (by rw[hV];simp)];rfl)
  refine(zR)<|(zN) ?_
  have hrr:=hr (UseM.good_ok hall) (hvr hV);rw[rangesV,encUse] at hrr
  exact(e8 @encUse.eq_1)<|(zK hrr)<|(bE (n2 @ivP.eq_1 @ivV.eq_1))<|(aq @max_int)<|zo [.cell 4 65] (hq:=by rw[hd,t8 ⟨hall,hV⟩];rfl)
 have hnext:iokN x.1 x.2=true->(ivs.take (k+1)).all (λp=>iokN p.1 p.2)=true:=λh=>by rw[takeN_snoc hx,ck,hall];simp[h]
 have hbad:iokN x.1 x.2=false->damageN (.mk op n kids) u=(0,0):=λh=>by
  rw[hd,ul];rintro⟨h2,_⟩;rw[hgood] at h2;have:=all_eq_true.1 h2 x (a7 hx);rw[h] at this;cases this
 refine(dI)<|(aq (n7 hlt (au (e:=2) (enc:=encIv) (λ_=>rfl) hx) @encIv.eq_1 @encUse.eq_1 hcl hkc (show k*2+2<=ivs.length*2 by omega))) ?_
 cases g1:decide (x.1<0);rotate_left
 ·exact(aq g1)<|(bq)<|zo [.cell 4 65] (hq:=by rw[hbad (by rw[iokN,g1];rfl)];rfl)
 cases g2:decide (x.2<x.1);rotate_left
 ·exact(aq (n2 g1 g2))<|(bq)<|zo [.cell 4 65] (hq:=by rw[hbad (by rw[iokN,g1,g2];rfl)];rfl)
 cases g3:decide (1000000<x.2);rotate_left
 ·exact(aq (n3 g1 g2 g3))<|(bq)<|zo [.cell 4 65] (hq:=by rw[hbad (by rw[iokN,g1,g2,g3];rfl)];rfl)
 refine(aq (n3 g1 g2 g3))<|(zN)<|(aq (zi hlt (show ivs.length<=1000000 by omega))) ?_;refine zX hlt (bg (n2 hkc @encUse.eq_1)) (hnext (by rw[iokN,g1,g2,g3];rfl))
def flat_ones{α:Type}{enc:α->List SV}(h:∀x,(enc x).all cH=true)(l:List α):(l.flatMap enc).all cH=true:=by
 rw[List.all_flatMap,all_eq_true];exact λx _=>h x
def encPart_gnd(p:PartM):bm (encPart p)=true:=rfl
def encProp_gnd(p:PropM):bm (encProp p)=true:=rfl
def ev_ones(l:List EvM):(l.flatMap encEv).all cH=true:=flat_ones (λ_=>rfl) l
def part_ones(l:List PartM):(l.flatMap encPart).all cH=true:=flat_ones (λ_=>rfl) l
def prop_ones(l:List PropM):(l.flatMap encProp).all cH=true:=flat_ones (λ_=>rfl) l
def nU:SC prog 44 [slS 14 ([]:List PartM) encPart] [] [] (λr S'=>r=.e0 14/\S'=[]):=by
 refine Ap 8 func44 ?_;refine(fe) ?_;refine aB.AT (by rfl) rfl rfl (by rfl) rfl rfl (by simp only[an]) (by kernel_rfl) ?_;intro b _;refine(zR) ?_;cases b
 ·refine(ee) ?_;refine ak.fg (Fg.e0 2 14 (.inr ⟨0,rfl⟩)) ?_;refine ak.fg (st':=⟨[(2,.e0 14)],8,[],[]⟩) zH ?_;refine(zE) ?_;exact zP [.tmp 2]
 ·refine(bq) ?_;refine ak.fg (Fg.e0 2 14 (.inl rfl)) ?_;refine(zE) ?_;exact zP [.tmp 2]
def jn(l:List PartM)(hlen:l.length<=1000000)(hne:l≠[]):SC prog 44 [slS 14 l encPart] [] [] (λr S'=>r=.buf 1 l.length 14 none/\S'=[.gone,.cells (l.flatMap encPart)]):=by
 have h0:¬l.length=0:=λe=>hne (length_eq_zero_iff.1 e);refine Ap 8 func44 ?_;have hkc:=λo=>kill_cells (enc:=encPart) encPart_gnd o l;have hon:(l.flatMap encPart).all cH=true:=part_ones l;refine(fe) ?_;refine aB.AT (by rfl) rfl rfl (by rfl) rfl rfl (by simp only[an]) (by kernel_rfl) ?_;intro b hb;cases b;rotate_left
 ·exact t7 (hb rfl) h0
 refine(zR)<|(zN) ?_
 have hp0:0<l.length:=ct h0;refine(aq (n6 h0 hp0 hlen hon hkc @ad)) ?_;refine ak.fg (st':=⟨[(2,.buf 1 l.length 14 none)],8,[.gone,.cells (l.flatMap encPart)],[]⟩) zH ?_;refine(zE) ?_;exact zP [.tmp 2]
def nV:SC prog 130 [slS 2 ([]:List PropM) encProp] [] [] (λr S'=>r=.e0 2/\S'=[]):=by
 refine Ap 8 func130 ?_;refine(fe) ?_;refine aB.AT (by rfl) rfl rfl (by rfl) rfl rfl (by simp only[an]) (by kernel_rfl) ?_;intro b _;refine(zR) ?_;cases b
 ·refine(ee) ?_;refine ak.fg (Fg.e0 2 2 (.inr ⟨0,rfl⟩)) ?_;refine ak.fg (st':=⟨[(2,.e0 2)],8,[],[]⟩) zH ?_;refine(zE) ?_;exact zP [.tmp 2]
 ·refine(bq) ?_;refine ak.fg (Fg.e0 2 2 (.inl rfl)) ?_;refine(zE) ?_;exact zP [.tmp 2]
def nW(l:List PropM)(hlen:l.length<=1000000)(hne:l≠[]):SC prog 130 [slS 2 l encProp] [] [] (λr S'=>r=.buf 1 l.length 2 none/\S'=[.gone,.cells (l.flatMap encProp)]):=by
 have h0:¬l.length=0:=λe=>hne (length_eq_zero_iff.1 e);refine Ap 8 func130 ?_;have hkc:=λo=>kill_cells (enc:=encProp) encProp_gnd o l;have hon:(l.flatMap encProp).all cH=true:=prop_ones l;refine(fe) ?_;refine aB.AT (by rfl) rfl rfl (by rfl) rfl rfl (by simp only[an]) (by kernel_rfl) ?_;intro b hb;cases b;rotate_left
 ·exact t7 (hb rfl) h0
 refine(zR)<|(zN) ?_
 have hp0:0<l.length:=ct h0;refine(aq (n6 h0 hp0 hlen hon hkc @ad)) ?_;refine ak.fg (st':=⟨[(2,.buf 1 l.length 2 none)],8,[.gone,.cells (l.flatMap encProp)],[]⟩) zH ?_;refine(zE) ?_;exact zP [.tmp 2]
def qA:SC prog 38 [slS 14 ([]:List EvM) encEv] [] [] (λr S'=>r=.e0 14/\S'=[]):=by
 refine Ap 8 func38 ?_;refine(fe) ?_;refine aB.AT (by rfl) rfl rfl (by rfl) rfl rfl (by simp only[an]) (by kernel_rfl) ?_;intro b _;refine(zR) ?_;cases b
 ·refine(ee) ?_;refine ak.fg (Fg.e0 2 14 (.inr ⟨0,rfl⟩)) ?_;refine ak.fg (st':=⟨[(2,.e0 14)],8,[],[]⟩) zH ?_;refine(zE) ?_;exact zP [.tmp 2]
 ·refine(bq) ?_;refine ak.fg (Fg.e0 2 14 (.inl rfl)) ?_;refine(zE) ?_;exact zP [.tmp 2]
def qB(l:List EvM)(hlen:l.length<=1000000)(hne:l≠[]):SC prog 38 [slS 14 l encEv] [] [] (λr S'=>r=.buf 1 l.length 14 none/\S'=[.gone,.cells (l.flatMap encEv)]):=by
 have h0:¬l.length=0:=λe=>hne (length_eq_zero_iff.1 e);refine Ap 8 func38 ?_;have hkc:=λo=>kill_cells (enc:=encEv) encEv_gnd o l;have hon:(l.flatMap encEv).all cH=true:=ev_ones l;refine(fe) ?_;refine aB.AT (by rfl) rfl rfl (by rfl) rfl rfl (by simp only[an]) (by kernel_rfl) ?_;intro b hb;cases b;rotate_left
 ·exact t7 (hb rfl) h0
 refine(zR)<|(zN) ?_
 have hp0:0<l.length:=ct h0;refine(aq (n6 h0 hp0 hlen hon hkc @ad)) ?_;refine ak.fg (st':=⟨[(2,.buf 1 l.length 14 none)],8,[.gone,.cells (l.flatMap encEv)],[]⟩) zH ?_;refine(zE) ?_;exact zP [.tmp 2]
section
variable {α:Type} {enc:α->List SV} {e:Nat}
def flat_takes(he:∀x,(enc x).length=e):∀(l:List α) (i:Nat),(l.flatMap enc).take (i*e)=(l.take i).flatMap enc
 | [],i=>by simp
 | a::l,0=>by simp
 | a::l,i+1=>by
  rw[flatMap_cons,d4,el,eF,flatMap_cons,<-flat_takes he l i];rw[eg,he,show e+i*e-e=i*e by omega,aj (by rw[he];omega)]
def flat_drops(he:∀x,(enc x).length=e):∀(l:List α) (i:Nat),(l.flatMap enc).drop (i*e)=(l.drop i).flatMap enc
 | [],i=>by simp
 | a::l,0=>by simp
 | a::l,i+1=>by
  rw[flatMap_cons,d4,el,ey,<-flat_drops he l i];rw[List.drop_append,he,show e+i*e-e=i*e by omega,bi (by rw[he];omega),nil_append]
def flat_sets(he:∀x,(enc x).length=e){l:List α}{i:Nat}(y:α)(h:i<l.length):(l.flatMap enc).take (i*e)++(enc y++(l.flatMap enc).drop (i*e+e))=(l.set i y).flatMap enc:=by
 rw[flat_takes he,show i*e+e=(i+1)*e by rw[d4],flat_drops he,bs,t8 h,bb,flatMap_cons]
end
def bubF{α:Type}(lt:α->α->Bool):Nat->List α->List α
 | 0,l=>l
 | j+1,l=>match l[j+1]?,l[j]? with
  | some x,some y=>if lt x y=true then bubF lt j ((l.set (j+1) y).set j x) else l
  | _,_=>l
def insR{α:Type}(lt:α->α->Bool):Nat->Nat->List α->List α
 | 0,_,l=>l
 | n+1,i,l=>insR lt n (i+1) (bubF lt i l)
def insF{α:Type}(lt:α->α->Bool)(l:List α):List α:=insR lt (l.length-1) 1 l
def bubF_len{α:Type}{lt:α->α->Bool}:∀(j:Nat) (l:List α),(bubF lt j l).length=l.length
 | 0,l=>rfl
 | j+1,l=>by
  unfold bubF;split
  ·split
   ·rw[bubF_len j,a6,a6]
   ·rfl
  ·rfl
def insR_len{α:Type}{lt:α->α->Bool}:∀(n i:Nat) (l:List α),(insR lt n i l).length=l.length
 | 0,_,_=>rfl
 | n+1,i,l=>by rw[insR,insR_len n,bubF_len]
def insF_len{α:Type}(lt:α->α->Bool)(l:List α):(insF lt l).length=l.length:=insR_len _ _ _
def swap_perm{α:Type}{l:List α}{j:Nat}{x y:α}(hx:l[j+1]?=some x)(hy:l[j]?=some y):((l.set (j+1) y).set j x).Perm l:=by
 have h1:j+1<l.length:=aE hx
 have h0:j<l.length:=by omega
 have e:l=l.take j++(y::x::l.drop (j+2)):=by
  have a1:l.drop j=y::l.drop (j+1):=drop_at hy;have a2:l.drop (j+1)=x::l.drop (j+2):=drop_at hx;rw[<-a2,<-a1,ej]
 have hlt:(l.take j).length=j:=by rw[al];omega
 have e2:(l.set (j+1) y).set j x=l.take j++(x::y::l.drop (j+2)):=by
  apply fl;intro i;rw[fo,List.getElem?_append,hlt];by_cases c1:j=i
  ·subst c1;rw[t8 rfl,a6,t8 h0,ul (ge _),d3];rfl
  ·rw[ul c1,fo];by_cases c2:j+1=i
   ·subst c2;rw[t8 rfl,t8 h1,ul (by omega),show j+1-j=1 by omega];rfl
   ·rw[ul c2];by_cases c3:i<j
    ·rw[t8 c3,e6,t8 c3]
    ·rw[ul c3,show i-j=(i-(j+2))+2 by omega,cc,cc,b8,show j+2+(i-(j+2))=i by omega]
 rw[e2]
 conv=>rhs;rw[e]
 exact Perm.append_left _ (Perm.swap _ _ _)
def bubF_perm{α:Type}{lt:α->α->Bool}:∀(j:Nat) (l:List α),(bubF lt j l).Perm l
 | 0,l=>Perm.refl _
 | j+1,l=>by
  unfold bubF;split
  ·rename_i x y hx hy;split
   ·exact(bubF_perm j _).trans (swap_perm hx hy)
   ·exact Perm.refl _
  ·exact Perm.refl _
def insR_perm{α:Type}{lt:α->α->Bool}:∀(n i:Nat) (l:List α),(insR lt n i l).Perm l
 | 0,_,_=>Perm.refl _
 | n+1,i,l=>by rw[insR];exact(insR_perm n (i+1) _).trans (bubF_perm i l)
def insF_perm{α:Type}(lt:α->α->Bool)(l:List α):(insF lt l).Perm l:=insR_perm _ _ _
def ltEv(cmp:EvM->EvM->Int)(x y:EvM):Bool:=decide (cmp x y<0)
abbrev FA:=EvM×Int
def DL{p:Prop} (h:p:=by
  refine Aq 53 var ?_;refine(zV) ?_
  (repeat refine ak.seq ?_)
  refine ak.block (ak.loop (λm st=>∃(i:Nat) (q:List vas),(q.length=l.length/\(i+1<=l.length\/i=0))/\insF (vat cmp) l=insR (vat cmp) (l.length-(i+1)) (i+1) q/\l.length-i=m/\st=⟨[(0,.buf 0 l.length vau c),(1,aa 0),(2,aa l.length),(3,.fn g [] []),(8,natV (i+1)),(1000000,.ptr 0 0)],53,[.cells (q.flatMap vav)],[]⟩) l.length zH ⟨0,l,⟨rfl,.inr rfl⟩,rfl,Nat.sub_zero _,rfl⟩ (by rintro m st ⟨i,q,_,_,_,rfl⟩;rfl) ?_);rintro m st ⟨i,q,⟨hql,hi⟩,hres,rfl,rfl⟩;refine(zV) ?_;by_cases hlt:i+1<l.length;rotate_left
  ·rw[show decide (((i+1:Nat):Int)<(l.length:Int))=false by simp only[wd];((try simp only[vau] at *)<;>omega)];refine(zN) ?_;refine ak.fg (st':=⟨[(1000000,.ptr 0 0)],53,[.cells (q.flatMap vav)],[]⟩) zH ?_;refine ak.exit ?_;simp only[dY,SThen,SRound,SNoGoto,if_true];rw[show l.length-(i+1)=0 by ((try simp only[vau] at *)<;>omega),insR] at hres;exact zP [] (hq:=by (try simp only[bL,aF]);first | done | (rw[hres];first | exact⟨rfl,rfl⟩ | exact⟨trivial,rfl⟩ | exact⟨rfl,trivial⟩ | exact⟨trivial,trivial⟩))
  rw[show decide (((i+1:Nat):Int)<(l.length:Int))=true by simp only[wp];((try simp only[vau] at *)<;>omega)]
  refine(dI)<|(zV) ?_
  obtain⟨s,hs⟩:∃s,l.length-(i+1)=s+1:=⟨l.length-(i+1)-1,by ((try simp only[vau] at *)<;>omega)⟩;rw[hs,insR] at hres
  (repeat refine ak.seq ?_)
  refine ak.block (ak.loop (λm st=>∃(j:Nat) (p:List vas),(p.length=l.length/\j<=i+1)/\bubF (vat cmp) (i+1) q=bubF (vat cmp) j p/\j=m/\st=⟨[(0,.buf 0 l.length vau c),(1,aa 0),(2,aa l.length),(3,.fn g [] []),(8,natV (i+1)),(9,natV j),(1000000,.ptr 0 0)],53,[.cells (p.flatMap vav)],[]⟩) (i+1) zH ⟨i+1,q,⟨hql,Nat.le_refl _⟩,rfl,rfl,rfl⟩ (by rintro m st ⟨j,p,_,_,_,rfl⟩;rfl) ?_);rintro m st ⟨j,p,⟨hpl,hj⟩,hb,rfl,rfl⟩;have hil:i+1<l.length:=hlt
  have hcl:(p.flatMap vav).length=l.length*vau:=by rw[flat_len' vaw,hpl]
  simp only[vau] at hcl
  cases j with
  | zero=>
   refine(zs) ?_;refine kU [0,0,3,7,15,15,15,111,239,15,15,1039,3599,7695,16383,32767,65535] ?_;refine(jL (show decide ((0:Int)<((0:Nat):Int))=false from rfl))<|(zM)<|(cV)<|(aq (nL (show -9223372036854775808<=((i+1:Nat):Int)+1/\((i+1:Nat):Int)+1<=9223372036854775807 from⟨by ((try simp only[vau] at *)<;>omega),by ((try simp only[vau] at *)<;>omega)⟩))) ?_;exact⟨l.length-(i+1),_,by ((try simp only[vau] at *)<;>omega),zH,i+1,p,⟨hpl,.inl (by ((try simp only[vau] at *)<;>omega))⟩,by rw[hres,hb,bubF,show l.length-(i+1+1)=s by ((try simp only[vau] at *)<;>omega)],rfl,rfl⟩
  | succ j=>
   have hj1:j+1<l.length:=by ((try simp only[vau] at *)<;>omega)
   have hj0:j<l.length:=by ((try simp only[vau] at *)<;>omega)
   obtain⟨x,hx⟩:∃x,p[j+1]?=some x:=⟨p[j+1],List.getElem?_eq_getElem (by ((try simp only[vau] at *)<;>omega))⟩;obtain⟨y,hy⟩:∃y,p[j]?=some y:=⟨p[j],List.getElem?_eq_getElem (by ((try simp only[vau] at *)<;>omega))⟩;have ax:((p.flatMap vav).drop ((j+1)*vau)).take vau=vav x:=au (e:=vau) (enc:=vav) vaw hx;simp only[vau] at ax;have ay:((p.flatMap vav).drop (j*vau)).take vau=vav y:=au (e:=vau) (enc:=vav) vaw hy;simp only[vau] at ay
   have hbs:bubF (vat cmp) (j+1) p=if vat cmp x y=true then bubF (vat cmp) j ((p.set (j+1) y).set j x) else p:=by rw[bubF,hx,hy]
   have s1:=flat_sets (enc:=vav) vaw (l:=p) (i:=j+1) y (by ((try simp only[vau] at *)<;>omega));have s2:=flat_sets (enc:=vav) vaw (l:=p.set (j+1) y) (i:=j) x (by rw[List.length_set];((try simp only[vau] at *)<;>omega))
   have hcl2:((p.set (j+1) y).flatMap vav).length=l.length*vau:=by rw[flat_len' vaw,List.length_set,hpl]
   simp only[vau] at hcl2;rw[vax y] at s1 ay;rw[vax x] at s2 ax;simp only[List.cons_append,List.nil_append] at s1 s2;have hgx:=hg x y;rw[vax y,vax x] at hgx;refine(zs) ?_;refine kU [0,0,3,7,15,15,15,111,239,15,15,1039,3599,7695,16383,32767,65535] ?_;refine(jL (n10 (show decide ((0:Int)<((j+1:Nat):Int))=true from by simp only[wp];((try simp only[vau] at *)<;>omega)) hj1 hj0 (CO (show -9223372036854775808<=((j+1:Nat):Int)-1/\((j+1:Nat):Int)-1<=9223372036854775807 from⟨by ((try simp only[vau] at *)<;>omega),by ((try simp only[vau] at *)<;>omega)⟩)) (show((j+1:Nat):Int)-1=(j:Int) from by ((try simp only[vau] at *)<;>omega)) hcl (show(j+1)*vau+vau<=l.length*vau by ((try simp only[vau] at *)<;>omega)) (show j*vau+vau<=l.length*vau by ((try simp only[vau] at *)<;>omega)) ax ay)) ?_;refine SD.k (by rfl) rfl rfl (by rfl) rfl rfl zc (hgx) (zw) rfl ?_;cases hc:decide (cmp x y<0)
   ·rw[vat,hc,ul (by decide)] at hbs
    refine(jL hc)<|(zM)<|(cV)<|(aq (nL (show -9223372036854775808<=((i+1:Nat):Int)+1/\((i+1:Nat):Int)+1<=9223372036854775807 from⟨by ((try simp only[vau] at *)<;>omega),by ((try simp only[vau] at *)<;>omega)⟩))) ?_;exact⟨l.length-(i+1),_,by ((try simp only[vau] at *)<;>omega),zH,i+1,p,⟨hpl,.inl (by ((try simp only[vau] at *)<;>omega))⟩,by rw[hres,hb,hbs,show l.length-(i+1+1)=s by ((try simp only[vau] at *)<;>omega)],rfl,rfl⟩
   ·rw[vat,hc,t8 rfl] at hbs
    refine(jL hc)<|(zM)<|(dI)<|(zs) ?_;refine kU [0,0,0,0,8,0,0,64,224,480,0,0,3072,7168,16355,32739,65535,131071] ?_;refine(jL (n9 hj1 hj0 (CO (show -9223372036854775808<=((j+1:Nat):Int)-1/\((j+1:Nat):Int)-1<=9223372036854775807 from⟨by ((try simp only[vau] at *)<;>omega),by ((try simp only[vau] at *)<;>omega)⟩)) (show((j+1:Nat):Int)-1=(j:Int) from by ((try simp only[vau] at *)<;>omega)) hcl (show(j+1)*vau+vau<=l.length*vau by ((try simp only[vau] at *)<;>omega)) (show j*vau+vau<=l.length*vau by ((try simp only[vau] at *)<;>omega)) ax ay)) ?_;refine SD.e (by rfl) rfl (by rfl) rfl rfl (by rfl) (gf (n3 hcl (show(j+1)*vau+vau<=l.length*vau by ((try simp only[vau] at *)<;>omega)) s1)) ?_;refine(jL (n4 hj1 hj0 (CO (show -9223372036854775808<=((j+1:Nat):Int)-1/\((j+1:Nat):Int)-1<=9223372036854775807 from⟨by ((try simp only[vau] at *)<;>omega),by ((try simp only[vau] at *)<;>omega)⟩)) (show((j+1:Nat):Int)-1=(j:Int) from by ((try simp only[vau] at *)<;>omega)))) ?_;refine SD.e (by rfl) rfl (by rfl) rfl rfl (by rfl) (gf (n3 hcl2 (show j*vau+vau<=l.length*vau by ((try simp only[vau] at *)<;>omega)) s2)) ?_;refine(zM)<|(aq (n2 (CO (show -9223372036854775808<=((j+1:Nat):Int)-1/\((j+1:Nat):Int)-1<=9223372036854775807 from⟨by ((try simp only[vau] at *)<;>omega),by ((try simp only[vau] at *)<;>omega)⟩)) (show((j+1:Nat):Int)-1=(j:Int) from by ((try simp only[vau] at *)<;>omega)))) ?_;exact⟨j,_,by ((try simp only[vau] at *)<;>omega),zH,j,(p.set (j+1) y).set j x,⟨by rw[List.length_set,List.length_set,hpl],by ((try simp only[vau] at *)<;>omega)⟩,by rw[hb,hbs],rfl,rfl⟩):p:=h
open Go.Proofs.Tryz renaming func186 -> var in
open Go.Proofs renaming EvM -> vas,ltEv -> vat,encEv -> vav in
open Go.Ev renaming jD -> vau in
def yi(g:FuncId)(cmp:EvM->EvM->Int)(hg:∀x y,PC prog g [.ag (encEv x),.ag (encEv y)] (·=aa (cmp x y)))(c:Option Nat)(l:List EvM)(hlen:l.length<=100000):
 SC prog 186 [.buf 0 l.length 14 c,aa 0,aa l.length,.fn g [] []] [.cells (l.flatMap encEv)] [] (λr S'=>r=.aO []/\S'=[.cells ((insF (ltEv cmp) l).flatMap encEv)]):=by
 have vaw:=@encEv_len;have vax:=@encEv_eq;exact DL
def DM{p:Prop} (h:p:=by
  have hins:=vay g cmp hg c l (by ((try simp only[va3] at *)<;>omega));have hrc:∀(g:Nat->Nat) (l:List vaz),fV g (l.flatMap va0)=l.flatMap va0:=λg l=>aK (ar va1 l);have hbc:∀(B:Nat) (l:List vaz),dA B (l.flatMap va0)=true:=λB l=>aP (ar va1 l);have hkc:∀(o:Nat) (l:List vaz),(l.flatMap va0).map (aH o)=l.flatMap va0:=λo l=>kill_cells va1 o l
  have h1:decide ((20:Int)<=(l.length:Int))=false:=by simp only[wd];((try simp only[va3] at *)<;>omega)
  have h2:decide ((20:Int)<(l.length:Int))=false:=by simp only[wd];((try simp only[va3] at *)<;>omega)
  refine Aq 63 va2 ?_;refine(gi) ?_
  (repeat refine ak.seq ?_)
  refine ak.block (ak.loop (λm st=>m=0/\st=⟨[(0,.buf 0 l.length va3 c),(1,aa l.length),(2,.fn g [] []),(6,aa 20),(7,aa 0),(8,aa 20),(1000000,.ptr 0 0)],63,[.cells (l.flatMap va0)],[]⟩) 0 zH ⟨rfl,rfl⟩ (by rintro m st ⟨_,rfl⟩;rfl) ?_);rintro m st ⟨rfl,rfl⟩
  refine(aq h1)<|(cV) ?_
  (try change ak _ _ _ _ _)
  refine(zC) ?_;refine zS [0] (n3 hrc hbc hkc) hins ?_;refine(zR) ?_
  (repeat refine ak.seq ?_)
  refine ak.block (ak.loop (λm st=>m=0/\st=⟨[(1,aa l.length),(6,aa 20),(1000000,.ptr 0 0)],63,[.cells ((insF (va4 cmp) l).flatMap va0)],[]⟩) 0 zH ⟨rfl,rfl⟩ (by rintro m st ⟨_,rfl⟩;rfl) ?_);rintro m st ⟨rfl,rfl⟩
  refine(aq h2)<|(cV) ?_
  simp only[dY,SThen,SRound,SNoGoto,if_true]
  exact zP []):p:=h
open Go.Proofs renaming EvM -> vaz,encEv -> va0,ltEv -> va4 in
open Go.Proofs.Tryz renaming func152 -> va2 in
open Go.Ev renaming jD -> va3 in
def wG(g:FuncId)(cmp:EvM->EvM->Int)(hg:∀x y,PC prog g [.ag (encEv x),.ag (encEv y)] (·=aa (cmp x y)))(c:Option Nat)(l:List EvM)(hlen:l.length<20):
 SC prog 152 [.buf 0 l.length 14 c,aa l.length,.fn g [] []] [.cells (l.flatMap encEv)] [] (λr S'=>r=.aO []/\S'=[.cells ((insF (ltEv cmp) l).flatMap encEv)]):=by
 have vay:=@yi;have va1:=@encEv_gnd;exact DM
def qR(g:FuncId)(cmp:EvM->EvM->Int)(hg:∀x y,PC prog g [.ag (encEv x),.ag (encEv y)] (·=aa (cmp x y)))(c:Option Nat)(l:List EvM)(hlen:l.length<20):
 SC prog 115 [.buf 0 l.length 14 c,.fn g [] []] [.cells (l.flatMap encEv)] [] (λr S'=>r=.aO []/\S'=[.cells ((insF (ltEv cmp) l).flatMap encEv)]):=by
 have hins:=wG g cmp hg c l hlen;have hrc:∀(g:Nat->Nat) (l:List EvM),fV g (l.flatMap encEv)=l.flatMap encEv:=λg l=>aK (ar encEv_gnd l);have hbc:∀(B:Nat) (l:List EvM),dA B (l.flatMap encEv)=true:=λB l=>aP (ar encEv_gnd l);have hkc:∀(o:Nat) (l:List EvM),(l.flatMap encEv).map (aH o)=l.flatMap encEv:=λo l=>kill_cells encEv_gnd o l;refine Aq 9 Tryz.func115 ?_;refine(zC) ?_;refine zS [0] (n3 hrc hbc hkc) hins ?_;refine(zR) ?_;exact zP []
def rW(a:Int):PC prog 116 [aa a] (·=ao false):=by
 refine pB 6 Tryz.func116 ?_;exact(zV)<|(aq (show decide (a=a)=true from ut rfl))<|zo [.tmp 2]
def rX(a:List Nat):PC prog 157 [ae a] (·=ao false):=by
 refine pB 6 func157 ?_;exact(zV)<|(aq (show decide (a=a)=true from ut rfl))<|zo [.tmp 2]
def cmpI(a b:Int):Int:=if a<b then -1 else if b<a then 1 else 0
def qE(a b:Int):PC prog 77 [aa a,aa b] (·=aa (cmpI a b)):=by
 refine pB 20 Tryz.func77 ?_;refine(fe)<|(zK (rW a))<|(zR)<|(zC)<|(zK (rW b))<|(zR)<|(yT)<|(yT) ?_
 cases h1:decide (a<b);rotate_left
 ·exact(aq h1)<|(bq)<|zo [.tmp 4] (hq:=by rw[cmpI,t8 (ww h1)])
 refine(aq h1)<|(zN) ?_
 cases h2:decide (b<a);rotate_left
 ·exact(aq h2)<|(bq)<|zo [.tmp 4] (hq:=by rw[cmpI,ul (wt h1),t8 (ww h2)])
 exact(aq h2)<|(ee)<|zo [.tmp 4] (hq:=by rw[cmpI,ul (wt h1),ul (wt h2)])
def cmpS(a b:List Nat):Int:=if db a b=true then -1 else if a=b then 0 else 1
def ko(a b:List Nat):PC prog 122 [ae a,ae b] (·=aa (cmpS a b)):=by
 refine pB 20 Tryz.func122 ?_;refine(fe)<|(zK (rX a))<|(zR)<|(zC)<|(zK (rX b))<|(zR)<|(yT)<|(yT) ?_
 cases h1:db a b;rotate_left
 ·exact(aq h1)<|(bq)<|zo [.tmp 4] (hq:=by rw[cmpS,t8 h1])
 refine(aq h1)<|(zN) ?_
 by_cases h2:a=b
 ·exact(aq (n2 h1 (show my a b=true by rw[ib];exact ut h2)))<|(ee)<|zo [.tmp 4] (hq:=by rw[cmpS,ul (by rw[h1];decide),t8 h2])
 ·exact(aq (n2 h1 (show my a b=false by rw[ib];exact un h2)))<|(bq)<|zo [.tmp 4] (hq:=by rw[cmpS,ul (by rw[h1];decide),ul h2])
def cmpDay(a b:EvM):Int:=cmpI a.day b.day
def yJ(a b:EvM):PC prog 76 [.ag (encEv a),.ag (encEv b)] (·=aa (cmpDay a b)):=by
 refine pB 10 Tryz.func76 ?_;exact(aq @encEv.eq_1)<|(zC)<|(zK (qE a.day b.day))<|(zR)<|zo [.tmp 4]
def EvM.zeroAV:List AV:=[.int .i64 0,.int .i64 0,.str [],.str [],.str [],.str [],.str [],.str [],.int .i64 0,.int .i64 0,.int .i64 0,.int .i64 0,.int .i64 0,.int .i64 0]
def Bc(n:Nat)(h:n<=1000000):dO prog 36 (.int .i64 (n:Int)) (.int .i64 (n:Int))=some (n,14,n,rep EvM.zeroAV n):=by
 have q1:(prog.info? 69).map (λi=>(i.size,ble i.bytes 10000))=some (14,true):=by kernel_rfl
 obtain⟨i,hi,e⟩:=Option.map_eq_some_iff.1 q1;have e1:i.size=14:=congrArg Prod.fst e;have e2:ble i.bytes 10000=true:=congrArg Prod.snd e;unfold dO;rw[show prog.underlying 36=some (.slice 69) by kernel_rfl];simp only;rw[show bN (.int .i64 (n:Int))=some n from rfl,bc,bc,hi,bc,show bT prog 69=some (.agg EvM.zeroAV) by simp only[an];rfl,bc,e1,e2,cP (ad n),cP h];rfl
def rep_zeroEv:∀n,(rep EvM.zeroAV n).map SV.a=(aS n EvM.zero).flatMap encEv
 | 0=>rfl
 | n+1=>by rw[rep,cp,rep_zeroEv n,List.replicate_succ,flatMap_cons];rfl
def sortEv(l:List EvM):List EvM:=insF (ltEv cmpDay) l
def qQ(l:List EvM)(hlen:l.length<20):PC prog 75 [slS 14 l encEv,.fn 76 [] []] (·=slS 14 (sortEv l) encEv):=by
 have hst:=qR 76 cmpDay yJ (some l.length) l hlen;have hrc:∀(g:Nat->Nat) (l:List EvM),fV g (l.flatMap encEv)=l.flatMap encEv:=λg l=>aK (ar encEv_gnd l);have hbc:∀(B:Nat) (l:List EvM),dA B (l.flatMap encEv)=true:=λB l=>aP (ar encEv_gnd l);have hkc:∀(o:Nat) (l:List EvM),(l.flatMap encEv).map (aH o)=l.flatMap encEv:=λo l=>kill_cells encEv_gnd o l;refine pB 16 Tryz.func75 ?_;have hcl:=flat_len' encEv_len l
 have hzl:((aS l.length EvM.zero).flatMap encEv).length=l.length*14:=by rw[flat_len' encEv_len,cl]
 refine(zV)<|(aq (n3 (Bc l.length (by omega)) @rep_zeroEv hkc)) ?_
 (repeat refine ak.seq ?_)
 refine ak.mono (Q:=λe st=>e=.normal/\Fg st ⟨[(1,.fn 76 [] []),(5,.buf 0 l.length 14 (some l.length))],16,[.cells (l.flatMap encEv)],[]⟩) ?_ ?_
 ·by_cases h0:l.length=0
  ·have hl:l=[]:=length_eq_zero_iff.1 h0;subst hl;refine(zV) ?_;exact⟨rfl,zH⟩
  ·have htk:(l.flatMap encEv).take (l.length*14)=l.flatMap encEv:=flat_all encEv_len l;have hmin:Nat.min l.length l.length=l.length:=f0 _;have hdr:((aS l.length EvM.zero).flatMap encEv).drop (l.length*14)=[]:=bi (by rw[hzl];exact ad _);refine(aq (n10 h0 hmin htk hzl hcl @ad @ev_ones hdr @go @append_nil.{0})) ?_;exact⟨rfl,zH⟩
 rintro e st ⟨rfl,hfg⟩;refine ak.fg hfg ?_;clear hfg
 (try change ak _ _ _ _ _)
 have hsl:(sortEv l).length=l.length:=by unfold sortEv;exact insF_len _ _
 refine(zC) ?_;refine zS [0] (n3 hrc hbc hkc) hst ?_;exact(zR)<|(zV)<|zo [.tmp 4] (r:=.sl l.length 14 ((sortEv l).flatMap encEv)) (hw:=.buf rfl (by rw[<-hsl];rw[show insF (ltEv cmpDay) l=sortEv l from rfl,flat_all encEv_len];exact aM.refl (ar encEv_gnd _)) (by rw[show insF (ltEv cmpDay) l=sortEv l from rfl,flat_len' encEv_len,hsl];exact ad _)) (hq:=by rw[slS,hsl])
def wD(l:List EvM)(hlen:l.length<20):PC prog 40 [slS 14 l encEv] (·=slS 14 (sortEv l) encEv):=by
 refine pB 5 Tryz.func40 ?_;exact(fe)<|(zK (qQ l hlen) (hfl:=.inr (aM.refl rfl)))<|(zR)<|zo [.tmp 2] (r:=slS 14 (sortEv l) encEv) (hw:=Wk.refl rfl)
open Go.Proofs.Tryz renaming func74 -> vaa in
open Go.Ev renaming jD -> vab in
open Go.Proofs renaming encEv -> vac in
def pZ{l:List (EvM)}(p:EvM->Bool){fid:FuncId}{first cap:List SV}(hlen:l.length<=1000000)(hp:∀x∈l,PC prog fid ((first++[.ag (encEv x)])++cap) (·=ao (p x)))(hg:bm first=true/\bm cap=true):PC prog 74 [slS 14 l encEv,.fn fid first cap] (·=aa (eK p l)):=by
 have vad:=@encEv.eq_1;exact rh
def zeroEv_ones:∀n,(rep EvM.zeroAV n).all fz=true
 | 0=>rfl
 | n+1=>by rw[rep,ck,zeroEv_ones n];rfl
def idx_first{α:Type}{p:α->Bool}{l:List α}(h:eK p l ≠ -1):∃(k:Nat) (x:α),eK p l=(k:Int)/\l[k]?=some x/\p x=true/\∀(i:Nat) y,i<k->l[i]?=some y->p y=false:=by
 unfold eK at h ⊢
 cases hf:l.findIdx? p with
 | none=>rw[hf] at h;exact t7 rfl h
 | some k=>
  rw[List.findIdx?_eq_some_iff_getElem] at hf;obtain⟨hlt,h1,h2⟩:=hf;refine⟨k,l[k],rfl,ac hlt,h1,λi y hi hy=>?_⟩;have:=h2 i hi;rw[ac (by omega)] at hy;cases hy;simpa using this
def idx_none'{α:Type}{p:α->Bool}{l:List α}(h:eK p l = -1):∀x∈l,p x=false:=by
 unfold eK at h
 cases hf:l.findIdx? p with
 | none=>
  rw[List.findIdx?_eq_none_iff] at hf;exact hf
 | some k=>rw[hf] at h;simp only at h;omega
def keptEv(d:EvM->Bool)(l:List EvM):List EvM:=l.filter λx=>!d x
def kept_len(d:EvM->Bool)(l:List EvM):(keptEv d l).length<=l.length:=ei _ _
def kept_all{d:EvM->Bool}{l:List EvM}(h:∀x∈l,d x=false):keptEv d l=l:=by
 unfold keptEv;rw[List.filter_eq_self];intro x hx;rw[h x hx];rfl
def kept_snoc{d:EvM->Bool}{l:List EvM}{j:Nat}{x:EvM}(h:l[j]?=some x):keptEv d (l.take (j+1))=keptEv d (l.take j)++(if d x=true then [] else [x]):=by
 unfold keptEv;rw[takeN_snoc h,e5];cases hd:d x<;>simp[hd]
def xZ(g:FuncId)(c2:List SV)(hg:bm c2=true)(d:EvM->Bool)(hp:∀x,PC prog g [.ag (encEv x),.ip c2] (·=ao (d x))):
 SC prog 37 [.e0 14,.fn g [] [.ptr 0 0]] [.cells c2] [] (λr S'=>r=.e0 14/\S'=[.cells c2]):=by
 have hidx:=pZ (l:=[]) d (fid:=g) (first:=[]) (cap:=[.ip c2]) (by simp) (λx hx=>hp x) ⟨rfl,rfl⟩;rw[show eK d [] = -1 from rfl] at hidx
 refine Aq 42 func37 ?_;refine(fe)<|(zK hidx (hwk:=.cons (.Ft 14) (.cons (.fn .nil (.cons (.ptr rfl (aM.refl hg) (b9 _)) .nil)) .nil)))<|(zR)<|(oD)<|(zV)<|(zE) ?_;exact Bi.of (rs:=[.tmp 4]) rfl rfl zl F0 zd zg
def x3(g:FuncId)(c2:List SV)(hg:bm c2=true)(d:EvM->Bool)(hp:∀x,PC prog g [.ag (encEv x),.ip c2] (·=ao (d x)))(l:List EvM)(hlen:l.length<=100000):
 SC prog 37 [.buf 0 l.length 14 none,.fn g [] [.ptr 1 0]] [.cells (l.flatMap encEv),.cells c2] [] (λr S'=>r=.buf 0 (keptEv d l).length 14 none/\S'=[.cells ((keptEv d l++aS (l.length-(keptEv d l).length) EvM.zero).flatMap encEv),.cells c2]):=by
 have hidx:=pZ (l:=l) d (fid:=g) (first:=[]) (cap:=[.ip c2]) (by omega) (λx hx=>hp x) ⟨rfl,rfl⟩;have hkc:∀(o:Nat) (l:List EvM),(l.flatMap encEv).map (aH o)=l.flatMap encEv:=λo l=>kill_cells encEv_gnd o l;have hk2:∀o:Nat,c2.map (aH o)=c2:=λo=>aV hg
 refine E1 42 func37 ?_;refine(fe)<|(zK hidx (hwk:=.cons (.buf rfl (by rw[flat_all encEv_len];exact aM.refl (ar encEv_gnd l)) (by rw[flat_len' encEv_len];exact ad _)) (.cons (.fn .nil (.cons (.ptr rfl (aM.refl hg) (b9 _)) .nil)) .nil)))<|(zR) ?_
 by_cases hno:eK d l = -1
 ·have hall:=idx_none' hno;rw[hno]
  refine(oD)<|(zV)<|(zE) ?_;exact zP [.tmp 4] (hq:=by (try simp only[bL,aF]);first | done | (rw[kept_all hall,d3,d0,append_nil];first | exact⟨rfl,rfl⟩ | exact⟨trivial,rfl⟩ | exact⟨rfl,trivial⟩ | exact⟨trivial,trivial⟩))
 obtain⟨k,x0,hk,hx0,hd0,hbef⟩:=idx_first hno;rw[hk];have hkl:k<l.length:=aE hx0
 refine(aq (show decide ((k:Int) = -1)=false by simp only[wd];omega))<|(zN)<|(zs) ?_;refine ak.r0 (by rfl) (gf (bA (k:Int) 1 (by omega))) ?_
 have hst:keptEv d (l.take (k+1))=l.take k:=by
  rw[kept_snoc hx0,t8 hd0,append_nil];refine kept_all λx hx=>?_;obtain⟨i,hi⟩:=List.mem_iff_getElem?.1 hx
  have hik:i<k:=by
   have:=aE hi;rw[al] at this;omega
  rw[e6,t8 hik] at hi;exact hbef i x hik hi
 (repeat refine ak.seq ?_)
 refine ak.block (ak.loop (λm st=>∃(j i:Nat) (q:List EvM),(i<j/\j<=l.length/\q.length=l.length)/\(q.take i=keptEv d (l.take j)/\q.drop j=l.drop j)/\l.length-j=m/\st=⟨[(0,.buf 0 l.length 14 none),(1,.fn g [] [.ptr 1 0]),(5,natV i),(6,natV j),(1000000,.ptr 0 0),(1000001,.ptr 1 0)],42,[.cells (q.flatMap encEv),.cells c2],[]⟩) (l.length-(k+1)) (bg @cA) ⟨k+1,k,l,⟨dc _,hkl,rfl⟩,⟨hst.symm,rfl⟩,rfl,rfl⟩ (by rintro m st ⟨j,i,q,_,_,_,rfl⟩;rfl) ?_);rintro m st ⟨j,i,q,⟨hij,hjl,hql⟩,⟨htk,hdr⟩,rfl,rfl⟩
 have hcl:(q.flatMap encEv).length=l.length*14:=by rw[flat_len' encEv_len,hql]
 refine(zV) ?_;by_cases hlt:j<l.length;rotate_left
 ·rw[show decide ((j:Int)<(l.length:Int))=false by simp only[wd];omega]
  obtain rfl:j=l.length:=by omega
  rw[be] at htk;refine(cV) ?_
  have hkl2:(keptEv d l).length=i:=by rw[<-htk,al];omega
  have hrest:(q.flatMap encEv).take (i*14)++((rep EvM.zeroAV (l.length-i)).map SV.a++(q.flatMap encEv).drop (i*14+(l.length-i)*14))=(keptEv d l++aS (l.length-(keptEv d l).length) EvM.zero).flatMap encEv:=by
   rw[hkl2,rep_zeroEv,flat_takes encEv_len,htk,bi (by rw[hcl];omega),append_nil,bb]
  refine(zs) ?_;refine ak.r0 (by rfl) (by simp only[bf,aN,slS,an,bc,ci,↓reduceIte,af,bk,bw,bh,bv,ab,ah,isSub,bnds_from (show i<=l.length by omega),show ¬(l.length-i=0) by omega,show i*14+(l.length-i)*14<=l.length*14 by omega,hcl,show(rep [AV.int IntKind.i64 0,.int .i64 0,.str [],.str [],.str [],.str [],.str [],.str [],.int .i64 0,.int .i64 0,.int .i64 0,.int .i64 0,.int .i64 0,.int .i64 0] (l.length-i))=rep EvM.zeroAV (l.length-i) from rfl,zeroEv_ones,hrest];first | done | rfl) ?_;refine(zs) ?_;refine ak.r0 (by rfl) (gf (n2 (Ez (show i<=l.length by omega)) @cn)) ?_;refine(zE) ?_;exact Bi.of (rs:=[.tmp 4]) rfl rfl zl (by (try simp only[bL,aF]);first | done | (rw[hkl2];first | exact⟨rfl,rfl⟩ | exact⟨trivial,rfl⟩ | exact⟨rfl,trivial⟩ | exact⟨trivial,trivial⟩)) zd zg
 rw[show decide ((j:Int)<(l.length:Int))=true by simp only[wp];omega];obtain⟨x,hx⟩:∃x,l[j]?=some x:=⟨l[j],ac hlt⟩
 have hqx:q[j]?=some x:=by
  have:(q.drop j)[0]?=(l.drop j)[0]?:=by rw[hdr]
  rw[b8,b8,em] at this;rw[this,hx]
 have hdr2:q.drop (j+1)=l.drop (j+1):=by
  have:=congrArg (List.drop 1) hdr;rw[d5,d5] at this;exact this
 have hsn:=kept_snoc (d:=d) hx;have ax:((q.flatMap encEv).drop (j*14)).take 14=encEv x:=au (e:=14) (enc:=encEv) (λ_=>rfl) hqx;rw[encEv_eq] at ax;have hpx:=hp x;rw[encEv_eq] at hpx
 refine(dI)<|(aq (n6 hlt hcl (show j*14+14<=l.length*14 by omega) ax hkc hk2))<|(zC)<|(zK hpx (hwk:=.cons (.ag (aM.refl rfl)) (.cons (.ptr rfl (aM.refl hg) (b9 _)) .nil))) ?_
 cases hd:d x
 ·have hil:i<q.length:=by omega
  have s1:=flat_sets (enc:=encEv) encEv_len (l:=q) (i:=i) x hil;rw[encEv_eq] at s1;simp only[cons_append,nil_append] at s1;rw[hd,ul (by decide)] at hsn
  refine(zR)<|(zY)<|(aq (n4 (show i<l.length by omega) hcl (show i*14+14<=l.length*14 by omega) s1))<|(zs) ?_;refine ak.r0 (by rfl) (gf (bA (i:Int) 1 (by omega))) ?_;refine(zs) ?_;refine ak.r0 (by rfl) (gf (bA (j:Int) 1 (by omega))) ?_;refine⟨l.length-(j+1),_,by omega,(bg @cA),j+1,i+1,q.set i x,⟨by omega,by omega,by rw[a6,hql]⟩,⟨?_,?_⟩,rfl,rfl⟩
  ·rw[hsn,<-htk,bs,t8 hil,eg,al,aD (by omega),dl,fu (by omega),show i+1-i=1 by omega];rfl
  ·rw[gm,t8 (by omega)];exact hdr2
 ·rw[hd,t8 rfl,append_nil] at hsn
  refine(zR)<|(zN)<|(zs) ?_;refine ak.r0 (by rfl) (gf (bA (j:Int) 1 (by omega))) ?_;exact⟨l.length-(j+1),_,by omega,(bg @cA),j+1,i,q,⟨by omega,by omega,hql⟩,⟨by rw[hsn,htk],hdr2⟩,rfl,rfl⟩
def yd{i j:Nat}(h:i+j<=1000000):fO prog 3 222 (.int .i64 ((i:Int)+(j:Int)))=some (.int .u64 ((i+j:Nat):Int)):=by
 unfold fO;rw[show prog.underlying 3=some (.int .i64) by kernel_rfl,show prog.underlying 222=some (.int .u64) by kernel_rfl]
 have:bR .u64 ((i:Int)+(j:Int))=((i+j:Nat):Int):=by rw[dS];simp[IntKind.wrap,IntKind.bits,IntKind.signed];omega
 simp only[this]
def ye{s:Nat}:bz prog .shr 222 (.int .u64 (s:Int)) (.int .u64 1)=some (.int .u64 ((s/2:Nat):Int)):=by
 have:((s:Int)).fdiv 2=((s/2:Nat):Int):=by
  rw[Int.fdiv_eq_ediv_of_nonneg _ (by decide)];omega
 show some (AV.int .u64 (((s:Int)).fdiv 2))=_;rw[this]
def yf{s:Nat}(h:s<=1000000):fO prog 222 3 (.int .u64 (s:Int))=some (.int .i64 (s:Int)):=by
 unfold fO;rw[show prog.underlying 3=some (.int .i64) by kernel_rfl,show prog.underlying 222=some (.int .u64) by kernel_rfl]
 have:bR .i64 (s:Int)=(s:Int):=by rw[dS];simp[IntKind.wrap,IntKind.bits,IntKind.signed];omega
 simp only[this]
def encPart_eq(p:PartM):encPart p=[ae p.name,ae p.kind,ae p.into,ae p.slot,aa p.made,aa p.since,ao p.scrapped,slS 2 p.props encProp,aa p.l1,aa p.l2,aa p.l3,aa p.l4,aa p.l5,aa p.l6]:=rfl
def encProp_eq(p:PropM):encProp p=[ae p.key,ae p.value]:=rfl
def foundPart(l:List PartM)(k:List Nat)(pos:Nat):Bool:=match l[pos]? with
 | some x=>decide (PartM.name x=k)
 | none=>false
structure PartsPart (l:List PartM) (k:List Nat) (pos:Nat):Prop where
 le:pos<=l.length
 at':∀(a:Nat) (x:PartM),l[a]?=some x->(db (PartM.name x) k=true↔a<pos)
def DJ{p:Prop} (h:p:=by
  obtain⟨hpos,hpt⟩:=hpart
  refine pB 49 vah ?_;refine(gi)<|(zV) ?_
  (repeat refine ak.seq ?_)
  refine ak.block (ak.loop (λm st=>∃i j:Nat,(i<=pos/\pos<=j/\j<=l.length)/\j-i=m/\st=⟨[(0,slS vai l vaj),(1,ae k),(2,.fn g [] cap),(8,natV l.length),(9,natV i),(10,natV j)],49,[],[]⟩) l.length zH ⟨0,l.length,⟨Nat.zero_le _,hpos,Nat.le_refl _⟩,Nat.sub_zero _,rfl⟩ (by rintro m st ⟨i,j,_,_,rfl⟩;rfl) ?_);rintro m st ⟨i,j,⟨hip,hpj,hjl⟩,rfl,rfl⟩;refine(zV) ?_;by_cases hij:i<j;rotate_left
  ·rw[show decide ((i:Int)<(j:Int))=false by simp only[wd];((try simp only[vai] at *)<;>omega)];refine(cV) ?_
   obtain rfl:i=pos:=by ((try simp only[vai] at *)<;>omega)
   by_cases hil:i<l.length
   ·obtain⟨x,hx⟩:∃x,l[i]?=some x:=⟨l[i],List.getElem?_eq_getElem hil⟩
    have hl:db (vak x) k=false:=by
     cases h:db (vak x) k with
     | false=>rfl
     | true=>exact t7 ((hpt i x hx).1 h) (Nat.lt_irrefl _)
    have ax:((l.flatMap vaj).drop (i*vai)).take vai=vaj x:=au (e:=vai) (enc:=vaj) (λ_=>rfl) hx;simp only[vai] at ax;have hpx:=hp x (List.mem_of_getElem? hx)
    have hfd:vam l k i=decide (vak x=k):=by unfold vam;rw[hx]
    have hc0:decide (cmpS (vak x) k=0)=decide (vak x=k):=by
     unfold cmpS;rw[hl,ul (by decide)];by_cases e:vak x=k
     ·rw[t8 e,ut e];rfl
     ·rw[ul e,un e];rfl
    rw[van] at ax hpx
    exact(e8 (n3 (show decide ((i:Int)<(l.length:Int))=true by simp only[wp];((try simp only[vai] at *)<;>omega)) hil ax))<|(zK hpx (hwk:=aM.refl (gx rfl hcap)))<|(bE hc0)<|eL [.tmp 6,.tmp 7] (hq:=by rw[hfd])
   ·have hfd:vam l k i=false:=by unfold vam;rw[List.getElem?_eq_none (by ((try simp only[vai] at *)<;>omega))]
    exact(aq (show decide ((i:Int)<(l.length:Int))=false by simp only[wd];((try simp only[vai] at *)<;>omega)))<|eL [.tmp 6,.tmp 7] (hq:=by rw[hfd])
  rw[show decide ((i:Int)<(j:Int))=true by simp only[wp];((try simp only[vai] at *)<;>omega)];obtain⟨h,hh⟩:∃h,h=(i+j)/2:=⟨_,rfl⟩
  have hl2:h<l.length:=by ((try simp only[vai] at *)<;>omega)
  obtain⟨x,hx⟩:∃x,l[h]?=some x:=⟨l[h],List.getElem?_eq_getElem hl2⟩;have ax:((l.flatMap vaj).drop (h*vai)).take vai=vaj x:=au (e:=vai) (enc:=vaj) (λ_=>rfl) hx;simp only[vai] at ax;have hpx:=hp x (List.mem_of_getElem? hx);have hpth:=hpt h x hx;rw[van] at ax hpx
  refine(dI)<|(zs) ?_;refine ak.r0 (by rfl) (gf (n4 (bA (i:Int) (j:Int) (by ((try simp only[vai] at *)<;>omega))) (yd (show i+j<=1000000 by ((try simp only[vai] at *)<;>omega))) @ye (yf (show(i+j)/2<=1000000 by ((try simp only[vai] at *)<;>omega))))) ?_
  rw[<-hh]
  refine(e8 (n2 hl2 ax))<|(zK hpx (hwk:=aM.refl (gx rfl hcap))) ?_
  have hc:decide (cmpS (vak x) k<0)=db (vak x) k:=by
   unfold cmpS;cases h:db (vak x) k
   ·rw[ul (by decide)];split<;>rfl
   ·rw[t8 rfl];rfl
  cases hlt:db (vak x) k
  ·have hge:pos<=h:=by
    rcases Nat.lt_or_ge h pos with hq | hq
    ·have:=hpth.2 hq;rw[hlt] at this;cases this
    ·exact hq
   refine(bE (n2 hc hlt))<|(ee) ?_;exact⟨h-i,_,by ((try simp only[vai] at *)<;>omega),zH,i,h,⟨hip,hge,by ((try simp only[vai] at *)<;>omega)⟩,rfl,rfl⟩
  ·have hgt:h<pos:=hpth.1 hlt
   refine(bE (n2 hc hlt))<|(zY)<|(zs) ?_;refine ak.r0 (by rfl) (gf (bA (h:Int) 1 (by ((try simp only[vai] at *)<;>omega)))) ?_;exact⟨j-(h+1),_,by ((try simp only[vai] at *)<;>omega),(Fg.less (Eu @cA) (Ew @cA)),h+1,j,⟨by ((try simp only[vai] at *)<;>omega),hpj,hjl⟩,rfl,rfl⟩):p:=h
open Go.Proofs.Tryz renaming func120 -> vah in
open Go.Ev renaming jD -> vai in
open Go.Proofs renaming encPart -> vaj,foundPart -> vam in
open Go.Proofs.PartM renaming name -> vak in
def vM(l:List PartM)(hlen:l.length<=100000){g:FuncId}{cap:List SV}(hcap:bm cap=true)(k:List Nat)(pos:Nat)(hp:∀x∈l,PC prog g ([.ag (encPart x),ae k]++cap) (·=aa (cmpS (PartM.name x) k)))(hpart:PartsPart l k pos):
 PC prog 120 [slS 14 l encPart,ae k,.fn g [] cap] (·=.aO [natV pos,ao (foundPart l k pos)]):=by
 have van:=@encPart_eq;exact DJ
def foundProp(l:List PropM)(k:List Nat)(pos:Nat):Bool:=match l[pos]? with
 | some x=>decide (PropM.key x=k)
 | none=>false
structure PartsProp (l:List PropM) (k:List Nat) (pos:Nat):Prop where
 le:pos<=l.length
 at':∀(a:Nat) (x:PropM),l[a]?=some x->(db (PropM.key x) k=true↔a<pos)
open Go.Proofs.Tryz renaming func128 -> vah in
open Go.Ev renaming vn -> vai in
open Go.Proofs renaming encProp -> vaj,foundProp -> vam in
open Go.Proofs.PropM renaming key -> vak in
def vN(l:List PropM)(hlen:l.length<=100000){g:FuncId}{cap:List SV}(hcap:bm cap=true)(k:List Nat)(pos:Nat)(hp:∀x∈l,PC prog g ([.ag (encProp x),ae k]++cap) (·=aa (cmpS (PropM.key x) k)))(hpart:PartsProp l k pos):
 PC prog 128 [slS 2 l encProp,ae k,.fn g [] cap] (·=.aO [natV pos,ao (foundProp l k pos)]):=by
 have van:=@encProp_eq;exact DJ
open Go.Ev Go.Lib
def rep_len(Z:List AV):∀m,(rep Z m).length=m*Z.length
 | 0=>by rw[rep,length_nil,cf]
 | m+1=>by rw[rep,length_append,rep_len Z m,d4,el]
def rep_ones{Z:List AV}(hZ:Z.all fz=true):∀m,(rep Z m).all fz=true
 | 0=>rfl
 | m+1=>by rw[rep,ck,hZ,rep_ones hZ m];rfl
def map_ones:∀{l:List AV},l.all fz=true->(l.map SV.a).all cH=true
 | [],_=>rfl
 | a::l,h=>by
  rw[fd,ba] at h;rw[d2,fd,map_ones h.2,Bool.and_true];exact h.1
def map_kill(o:Nat):∀l:List AV,(l.map SV.a).map (aH o)=l.map SV.a
 | []=>rfl
 | a::l=>by rw[d2,d2,map_kill o l];rfl
def tH:si prog 158:=by
 intro w a b la ca lb cb tA tB kA kB h1 h2 h3 h4 h5 h6
 rw[run_callFunc_extern Tryz.func158 (by kernel_rfl) (by kernel_rfl) (by kernel_rfl) (e:=Extern.SlicesOverlaps.overlaps #[54,54] #[4]) (by kernel_rfl),
  Lib.run_overlaps_apart w 54 4 99 (by kernel_rfl) 14 (λw=>aT (by kernel_rfl)) a b la ca lb cb h1 tA tB kA kB h2 h3 h4 h5 h6]
 rfl
def qI(x:PartM):SC prog 123 [.e0 14,natV 0,.buf 0 1 14 (some 1)] [.cells (encPart x)] [0] (λr S'=>r=slS 14 [x] encPart/\S'=[.gone]):=by
 refine Aq 95 Tryz.func123 ?_;have hkc:=λo:Nat=>aV (o:=o) (encPart_gnd x);have hon:(encPart x).all cH=true:=rfl;rw[encPart_eq] at hkc hon ⊢
 refine(gi)<|(gi)<|(ee)<|(oD)<|(aq (n2 hkc hon)) ?_;refine ak.fg (st':=⟨[(6,.buf 1 1 14 none)],95,[.gone,.cells (encPart x)],[]⟩) (bg @encPart_eq) ?_;refine ak.fg (Fg.freeze (f':=[(6,slS 14 [x] encPart)]) 1 rfl (λh=>by cases h) ⟨.inr (.buf rfl (by rw[flatMap_cons,flatMap_nil,append_nil];exact aM.refl (encPart_gnd x)) (by show 1*14<=14;decide)),trivial⟩) ?_;refine ak.fg (st':=⟨[(6,slS 14 [x] encPart)],95,[.gone],[]⟩) zH ?_;refine(zE) ?_;exact zP [.tmp 6]
def DK{p:Prop} (h:p:=by
  have hf:∀l:List vao,(l.flatMap vap).length=l.length*vaq:=flat_len' (enc:=vap) (e:=vaq) (λ_=>rfl);simp only[vaq] at hf
  have h1:((l.flatMap vap++A).take ((i+1)*vaq)).length=(i+1)*vaq:=by
   rw[List.length_take,List.length_append,hf];((try simp only[vaq] at *)<;>omega)
  simp only[vaq] at h1
  have h2:((l.flatMap vap++A).take ((i+1)*vaq)).take (i*vaq)=(l.take i).flatMap vap:=by
   rw[List.take_take,Nat.min_eq_left (by ((try simp only[vaq] at *)<;>omega)),List.take_append_of_le_length (by rw[hf];((try simp only[vaq] at *)<;>omega)),flat_takes (enc:=vap) (e:=vaq) (λ_=>rfl)]
  simp only[vaq] at h2;generalize hB:(l.flatMap vap++A).take ((i+1)*vaq)=B at h1 h2 ⊢;generalize (l.flatMap vap++A).drop ((i+1)*vaq+(l.length-i)*vaq)=R
  have e1:(B++((l.drop i).flatMap vap++R)).take (i*vaq)=(l.take i).flatMap vap:=by rw[List.take_append_of_le_length (by rw[h1];((try simp only[vaq] at *)<;>omega)),h2]
  simp only[vaq] at e1
  have e2:(B++((l.drop i).flatMap vap++R)).drop (i*vaq+vaq)=(l.drop i).flatMap vap++R:=by rw[List.drop_append_of_le_length (by rw[h1];((try simp only[vaq] at *)<;>omega)),List.drop_of_length_le (by rw[h1];((try simp only[vaq] at *)<;>omega)),List.nil_append]
  simp only[vaq] at e2;rw[e1,e2]
  have h3:((l.take i).flatMap vap++(vap x++(l.drop i).flatMap vap)).length=(l.length+1)*vaq:=by
   rw[List.length_append,List.length_append,hf,hf,show(vap x).length=vaq from rfl,List.length_take,List.length_drop,Nat.min_eq_left (by ((try simp only[vaq] at *)<;>omega))];((try simp only[vaq] at *)<;>omega)
  simp only[vaq] at h3
  rw[<-List.append_assoc (vap x),<-List.append_assoc,List.take_append_of_le_length (by rw[h3];exact Nat.le_refl _),List.take_of_length_le (by rw[h3];exact Nat.le_refl _),List.flatMap_append,List.flatMap_cons]):p:=h
open Go.Proofs renaming PartM -> vao,encPart -> vap in
open Go.Ev renaming jD -> vaq in
def cutPart(l:List PartM)(i:Nat)(x:PartM)(hi:i<l.length)(A:List SV):
 (((l.flatMap encPart++A).take ((i+1)*14)++((l.drop i).flatMap encPart++(l.flatMap encPart++A).drop ((i+1)*14+(l.length-i)*14))).take (i*14)++(encPart x++((l.flatMap encPart++A).take ((i+1)*14)++((l.drop i).flatMap encPart++(l.flatMap encPart++A).drop ((i+1)*14+(l.length-i)*14))).drop (i*14+14))).take ((l.length+1)*14)=(l.take i++x::l.drop i).flatMap encPart:=by
 exact DK
abbrev FO:List AV:=[.str [],.str [],.str [],.str [],.int .i64 0,.int .i64 0,.bool false,.slice none 0 0 (some 0),.int .i64 0,.int .i64 0,.int .i64 0,.int .i64 0,.int .i64 0,.int .i64 0]
abbrev FP:List AV:=[.str [],.str []]
def DN{p:Prop} (h:p:=by
  refine E1 95 va5 ?_;have hkl:=λo:Nat=>kill_cells (enc:=va6) va7 o l;have hkc:=λo:Nat=>aV (o:=o) (va7 x);have hon:(va6 x).all cH=true:=rfl;have hxl:(va6 x).length=va8:=rfl;simp only[va8] at hxl;have hxt:(va6 x).take va8=va6 x:=rfl;simp only[va8] at hxt;have hcl:(l.flatMap va6).length=l.length*va8:=flat_len' (enc:=va6) (e:=va8) (λ_=>rfl) l;simp only[va8] at hcl;have htl:(l.flatMap va6).take (l.length*va8)=l.flatMap va6:=List.take_of_length_le (by rw[hcl];exact Nat.le_refl _);simp only[va8] at htl;have hc1:((1:Nat):Int)=1:=rfl
  refine(zV)<|(aq (CR hi))<|(aq hc1)<|(aq hc1)<|(ee) ?_
  by_cases hin:i=l.length
  ·subst hin
   refine(aq (show decide ((l.length:Int)=(l.length:Int))=true by simp))<|(zY) ?_
   have hka:∀o:Nat,(l.flatMap va6++va6 x).map (aH o)=l.flatMap va6++va6 x:=λo=>by rw[List.map_append,hkl,hkc]
   refine(aq (n9 hkc hon hxl hxt hcl htl hka @Nat.le_refl (show l.length<=1000000 by ((try simp only[va8] at *)<;>omega)))) ?_;refine ak.fg (st':=⟨[(6,.buf 0 (l.length+1) va8 none)],95,[.cells (l.flatMap va6++va6 x),.gone],[]⟩) zH ?_
   have hq:l.flatMap va6++va6 x=(l.take l.length++x::l.drop l.length).flatMap va6:=by rw[List.take_length,List.drop_length,List.flatMap_append,List.flatMap_cons,List.flatMap_nil,List.append_nil]
   have hqn:(l.take l.length++x::l.drop l.length).length=l.length+1:=by rw[List.take_length,List.drop_length,List.length_append,List.length_cons,List.length_nil]
   rw[hq];refine ak.fg (Fg.freeze (f':=[(6,slS va8 (l.take l.length++x::l.drop l.length) va6)]) 0 rfl (λh=>by cases h) ⟨.inr (by rw[je,hqn];exact .buf rfl (by rw[<-hqn,flat_all (enc:=va6) (e:=va8) (λ_=>rfl)];exact aM.refl (ar va7 _)) (by rw[flat_len' (enc:=va6) (e:=va8) (λ_=>rfl),hqn];exact Nat.le_refl _)),trivial⟩) ?_;refine(zE) ?_;exact zP [.tmp 6]
  have hlt:i<l.length:=by ((try simp only[va8] at *)<;>omega)
  refine(aq (show decide ((i:Int)=(l.length:Int))=false by simp only[wd];((try simp only[va8] at *)<;>omega)))<|(zN) ?_;refine ak.xS 0 (by decide) rfl rfl ?_
  intro cap hcap;obtain⟨A,hA⟩:∃A,A=List.replicate (cap*va8-(l.flatMap va6).length) SV.any:=⟨_,rfl⟩;rw[<-hA]
  have hAl:A.length=cap*va8-l.length*va8:=by rw[hA,List.length_replicate,hcl]
  simp only[va8] at hAl;by_cases hroom:cap<l.length+1
  ·obtain rfl:cap=l.length:=by ((try simp only[va8] at *)<;>omega)
   obtain rfl:A=[]:=List.length_eq_zero_iff.1 (by rw[hAl];((try simp only[va8] at *)<;>omega));rw[List.append_nil];clear hA hAl
   refine(aq (n3 hc1 (nL (show -9223372036854775808<=(l.length:Int)+1/\(l.length:Int)+1<=9223372036854775807 from⟨by ((try simp only[va8] at *)<;>omega),by ((try simp only[va8] at *)<;>omega)⟩)) (show decide ((l.length:Int)<(l.length:Int)+1)=true by simp only[wp];((try simp only[va8] at *)<;>omega))))<|(zY) ?_
   obtain⟨m,hm⟩:∃m,m=l.length+1-i:=⟨_,rfl⟩;obtain⟨R,hR⟩:∃R,R=(rep va9 m).map SV.a:=⟨_,rfl⟩
   have hRl:R.length=m*va8:=by rw[hR,List.length_map,rep_len];rfl
   simp only[va8] at hRl
   have hRo:R.all cH=true:=by rw[hR];exact map_ones (rep_ones rfl m)
   have hRk:∀o:Nat,R.map (aH o)=R:=λo=>by rw[hR];exact map_kill o _
   obtain⟨c1,hc1e⟩:∃c1,c1=(l.flatMap va6).take (i*va8)++R:=⟨_,rfl⟩
   have hc1l:c1.length=(l.length+1)*va8:=by rw[hc1e,List.length_append,List.length_take,hcl,hRl,Nat.min_eq_left (by ((try simp only[va8] at *)<;>omega)),hm];((try simp only[va8] at *)<;>omega)
   simp only[va8] at hc1l
   have hc1k:∀o:Nat,c1.map (aH o)=c1:=λo=>by rw[hc1e,List.map_append,hRk,List.map_take,hkl]
   refine(aq (n2 (n9 hc1 (Ez hi) (nL (show -9223372036854775808<=(l.length:Int)+1/\(l.length:Int)+1<=9223372036854775807 from⟨by ((try simp only[va8] at *)<;>omega),by ((try simp only[va8] at *)<;>omega)⟩)) (CO (show -9223372036854775808<=(l.length:Int)+1-(i:Int)/\(l.length:Int)+1-(i:Int)<=9223372036854775807 from⟨by ((try simp only[va8] at *)<;>omega),by ((try simp only[va8] at *)<;>omega)⟩)) (show((l.length:Int)+1-(i:Int))=(m:Int) by ((try simp only[va8] at *)<;>omega)) (Eq.symm hR) hRo @Nat.sub_zero (show m<=1000000 by ((try simp only[va8] at *)<;>omega))) (n10 (show ¬m=0 by ((try simp only[va8] at *)<;>omega)) (show i<=1000000 by ((try simp only[va8] at *)<;>omega)) hcl (show i*va8<=l.length*va8 by ((try simp only[va8] at *)<;>omega)) (show l.length<l.length+1 by ((try simp only[va8] at *)<;>omega)) (show i+m=l.length+1 by ((try simp only[va8] at *)<;>omega)) (Eq.symm hc1e) hc1k hkl hkc))) ?_;obtain⟨c2,hc2e⟩:∃c2,c2=c1.take (i*va8)++(va6 x++c1.drop (i*va8+va8)):=⟨_,rfl⟩
   have hc2l:c2.length=(l.length+1)*va8:=by rw[hc2e,List.length_append,List.length_append,List.length_take,List.length_drop,hc1l,hxl];((try simp only[va8] at *)<;>omega)
   simp only[va8] at hc2l;refine(aq (n8 (CR (show i<=l.length+1 by ((try simp only[va8] at *)<;>omega))) hxl hxt (show Nat.min 1 (l.length+1-i)=1 by simp only[Nat.min_def];rw[t8 (by ((try simp only[va8] at *)<;>omega))]) hc1l (show i*va8+va8<=(l.length+1)*va8 by ((try simp only[va8] at *)<;>omega)) hon (Eq.symm hc2e))) ?_
   have hdr:((l.flatMap va6).drop (i*va8)).take ((l.length-i)*va8)=(l.drop i).flatMap va6:=by
    rw[flat_drops (enc:=va6) (e:=va8) (λ_=>rfl),List.take_of_length_le];rw[flat_len' (enc:=va6) (e:=va8) (λ_=>rfl),List.length_drop];exact Nat.le_refl _
   simp only[va8] at hdr
   have hdl:((l.drop i).flatMap va6).length=(l.length-i)*va8:=by rw[flat_len' (enc:=va6) (e:=va8) (λ_=>rfl),List.length_drop]
   simp only[va8] at hdl;have hdt:((l.drop i).flatMap va6).take ((l.length-i)*va8)=(l.drop i).flatMap va6:=List.take_of_length_le (by rw[hdl];exact Nat.le_refl _);simp only[va8] at hdt;have hdo:((l.drop i).flatMap va6).all cH=true:=vba (l.drop i);obtain⟨c3,hc3e⟩:∃c3,c3=c2.take ((i+1)*va8)++((l.drop i).flatMap va6++c2.drop ((i+1)*va8+(l.length-i)*va8)):=⟨_,rfl⟩
   have hfin:c3=(l.take i++x::l.drop i).flatMap va6:=by
    have e0:c1.take (i*va8)=(l.take i).flatMap va6:=by
     rw[hc1e,List.take_append_of_le_length (by rw[List.length_take,hcl];((try simp only[va8] at *)<;>omega)),List.take_take,Nat.min_self,flat_takes (enc:=va6) (e:=va8) (λ_=>rfl)]
    simp only[va8] at e0
    have e1:((l.take i).flatMap va6++va6 x).length=(i+1)*va8:=by
     rw[List.length_append,flat_len' (enc:=va6) (e:=va8) (λ_=>rfl),hxl,List.length_take,Nat.min_eq_left hi];((try simp only[va8] at *)<;>omega)
    simp only[va8] at e1;rw[hc3e,show c2.drop ((i+1)*va8+(l.length-i)*va8)=[] from List.drop_of_length_le (by rw[hc2l];((try simp only[va8] at *)<;>omega)),List.append_nil,hc2e,e0,<-List.append_assoc,List.take_append_of_le_length (by rw[e1];exact Nat.le_refl _),List.take_of_length_le (by rw[e1];exact Nat.le_refl _),List.flatMap_append,List.flatMap_cons,List.append_assoc]
   refine(zs) ?_;refine kU [0,0,0,6,15,0,0,96,255] ?_
   (repeat (first | refine SD.r (by rfl) rfl (by rfl) (by rfl) (gf (n4 (bA (i:Int) 1 (by ((try simp only[va8] at *)<;>omega))) (sK) (CR (show i+1<=l.length+1 by ((try simp only[va8] at *)<;>omega))) (CR hi))) ?_ | refine SD.s (by rfl) rfl (by rfl) (by rfl) ?_ | fail))
   refine SD.ed (by rfl) rfl (by rfl) rfl rfl (by rfl) (gf (n2 (n9 hcl hc2l (show i*va8+(l.length-i)*va8<=l.length*va8 by ((try simp only[va8] at *)<;>omega)) (show Nat.min (l.length-i) (l.length+1-(i+1))=l.length-i by simp only[Nat.min_def];split<;>((try simp only[va8] at *)<;>omega)) (show ¬(l.length-i=0) by ((try simp only[va8] at *)<;>omega)) (show(i+1)*va8+(l.length-i)*va8<=(l.length+1)*va8 by ((try simp only[va8] at *)<;>omega)) hdr hdl hdt) (n3 hdo @Nat.le_refl (Eq.symm hc3e)))) ?_;refine(zM)<|(zV) ?_
   have hqn:(l.take i++x::l.drop i).length=l.length+1:=by rw[List.length_append,List.length_cons,List.length_take,List.length_drop,Nat.min_eq_left hi];((try simp only[va8] at *)<;>omega)
   rw[hfin];refine ak.fg (st':=⟨[(6,.buf 2 (l.length+1) va8 none)],95,[.gone,.gone,.cells ((l.take i++x::l.drop i).flatMap va6)],[]⟩) zH ?_;refine ak.fg (Fg.freeze (f':=[(6,slS va8 (l.take i++x::l.drop i) va6)]) 2 rfl (λh=>by cases h) ⟨.inr (by rw[je,hqn];exact .buf rfl (by rw[<-hqn,flat_all (enc:=va6) (e:=va8) (λ_=>rfl)];exact aM.refl (ar va7 _)) (by rw[flat_len' (enc:=va6) (e:=va8) (λ_=>rfl),hqn];exact Nat.le_refl _)),trivial⟩) ?_;refine ak.fg (st':=⟨[(6,slS va8 (l.take i++x::l.drop i) va6)],95,[.gone,.gone],[]⟩) zH ?_;refine(zE) ?_;exact zP [.tmp 6]
  have hcap2:l.length+1<=cap:=by ((try simp only[va8] at *)<;>omega)
  have hXl:(l.flatMap va6++A).length=cap*va8:=by rw[List.length_append,hcl,hAl];((try simp only[va8] at *)<;>omega)
  simp only[va8] at hXl;have hnn:(-9223372036854775808:Int)<=(l.length:Int)+1/\(l.length:Int)+1<=9223372036854775807:=⟨by ((try simp only[va8] at *)<;>omega),by ((try simp only[va8] at *)<;>omega)⟩
  refine(aq (n3 hc1 (nL hnn) (show decide ((cap:Int)<(l.length:Int)+1)=false by simp only[wd];((try simp only[va8] at *)<;>omega))))<|(zN) ?_
  have hbt:br l.length (some cap) none (some (.int .i64 ((l.length+1:Nat):Int))) none=some (0,l.length+1,some cap):=by
   unfold br gT fitsA;simp only[fR,Option.bind_some,cP hcap2,Bool.or_true,ab]
  refine(zs) ?_;refine ak.r0 (by rfl) (gf (n4 hc1 (nL hnn) (sK) hbt)) ?_;have hii:(-9223372036854775808:Int)<=(i:Int)+1/\(i:Int)+1<=9223372036854775807:=⟨by ((try simp only[va8] at *)<;>omega),by ((try simp only[va8] at *)<;>omega)⟩
  refine(zs) ?_;refine ak.Dl (by rfl) (gf (n5 hc1 (nL hii) (sK) (CR (show i+1<=l.length+1 by ((try simp only[va8] at *)<;>omega))) @Nat.sub_zero)) ?_;refine aB.FU vbb (by rfl) rfl rfl (by rfl) rfl zc rfl rfl rfl rfl (by decide) (by decide) (by ((try simp only[va8] at *)<;>omega)) (by rw[hXl];((try simp only[va8] at *)<;>omega)) ?_;refine(zR)<|(zY) ?_
  have hdr:(((l.flatMap va6++A).drop (i*va8)).take ((l.length+1-i)*va8)).take ((l.length-i)*va8)=(l.drop i).flatMap va6:=by
   rw[List.take_take,Nat.min_eq_left (by ((try simp only[va8] at *)<;>omega)),List.drop_append_of_le_length (by rw[hcl];((try simp only[va8] at *)<;>omega)),flat_drops (enc:=va6) (e:=va8) (λ_=>rfl),List.take_append_of_le_length (by rw[flat_len' (enc:=va6) (e:=va8) (λ_=>rfl),List.length_drop];exact Nat.le_refl _),List.take_of_length_le];rw[flat_len' (enc:=va6) (e:=va8) (λ_=>rfl),List.length_drop];exact Nat.le_refl _
  simp only[va8] at hdr
  have hdl:(((l.flatMap va6++A).drop (i*va8)).take ((l.length+1-i)*va8)).length=(l.length+1-i)*va8:=by
   rw[List.length_take,List.length_drop,hXl,Nat.min_eq_left (by ((try simp only[va8] at *)<;>omega))]
  simp only[va8] at hdl;have hdo:((l.drop i).flatMap va6).all cH=true:=vba (l.drop i);obtain⟨w1,hw1⟩:∃w1,w1=(l.flatMap va6++A).take ((i+1)*va8)++((l.drop i).flatMap va6++(l.flatMap va6++A).drop ((i+1)*va8+(l.length-i)*va8)):=⟨_,rfl⟩
  have hw1l:w1.length=cap*va8:=by rw[hw1,List.length_append,List.length_append,List.length_take,List.length_drop,hXl,flat_len' (enc:=va6) (e:=va8) (λ_=>rfl),List.length_drop,Nat.min_eq_left (by ((try simp only[va8] at *)<;>omega))];((try simp only[va8] at *)<;>omega)
  simp only[va8] at hw1l;obtain⟨w2,hw2⟩:∃w2,w2=w1.take (i*va8)++(va6 x++w1.drop (i*va8+va8)):=⟨_,rfl⟩
  have hw2l:w2.length=cap*va8:=by rw[hw2,List.length_append,List.length_append,List.length_take,List.length_drop,hw1l,hxl,Nat.min_eq_left (by ((try simp only[va8] at *)<;>omega))];((try simp only[va8] at *)<;>omega)
  simp only[va8] at hw2l
  have hfin:w2.take ((l.length+1)*va8)=(l.take i++x::l.drop i).flatMap va6:=by rw[hw2,hw1];exact vbc l i x hlt A
  simp only[va8] at hfin;refine(zs) ?_;refine kU [0,0,0,6,15,0,0,96,255] ?_
  (repeat (first | refine SD.r (by rfl) rfl (by rfl) (by rfl) (gf (n5 (nL hii) (sK) (CR (show i+1<=l.length+1 by ((try simp only[va8] at *)<;>omega))) (CR (show i<=l.length+1 by ((try simp only[va8] at *)<;>omega))) @Nat.sub_zero)) ?_ | refine SD.s (by rfl) rfl (by rfl) (by rfl) ?_ | fail))
  refine SD.ed (by rfl) rfl (by rfl) rfl rfl (by rfl) (gf (n2 (n9 hXl hcl (show i*va8+(l.length+1-i)*va8<=cap*va8 by ((try simp only[va8] at *)<;>omega)) (show Nat.min (l.length+1-i) (l.length+1-(i+1))=l.length-i by simp only[Nat.min_def];split<;>((try simp only[va8] at *)<;>omega)) (show ¬(l.length-i=0) by ((try simp only[va8] at *)<;>omega)) (show(i+1)*va8+(l.length-i)*va8<=cap*va8 by ((try simp only[va8] at *)<;>omega)) hdr hdl (show(l.length-i)*va8<=(l.length+1-i)*va8 by ((try simp only[va8] at *)<;>omega))) (n3 hdo @Nat.le_refl (Eq.symm hw1)))) ?_;refine(zM)<|(aq (n8 (CR (show i<=l.length+1 by ((try simp only[va8] at *)<;>omega))) hxl hxt (show Nat.min 1 (l.length+1-i)=1 by simp only[Nat.min_def];rw[t8 (by ((try simp only[va8] at *)<;>omega))]) hw1l (show i*va8+va8<=cap*va8 by ((try simp only[va8] at *)<;>omega)) hon (Eq.symm hw2)))<|(zV) ?_
  have hqn:(l.take i++x::l.drop i).length=l.length+1:=by rw[List.length_append,List.length_cons,List.length_take,List.length_drop,Nat.min_eq_left hi];((try simp only[va8] at *)<;>omega)
  refine ak.fg (st':=⟨[(6,.buf 0 (l.length+1) va8 (some cap))],95,[.cells w2,.gone],[]⟩) zH ?_;refine ak.fg (Fg.freeze (f':=[(6,slS va8 (l.take i++x::l.drop i) va6)]) 0 rfl (λh=>by cases h) ⟨.inr (by rw[je,hqn];exact .buf rfl (by rw[hfin];exact aM.refl (ar va7 _)) (by rw[hw2l];((try simp only[va8] at *)<;>omega))),trivial⟩) ?_;refine(zE) ?_;exact zP [.tmp 6]):p:=h
open Go.Proofs.Tryz renaming func123 -> va5 in
open Go.Proofs renaming encPart -> va6,FO -> va9 in
open Go.Ev renaming jD -> va8 in
def tm(l:List PartM)(i:Nat)(x:PartM)(hi:i<=l.length)(hne:0<l.length)(hlen:l.length<=100000):SC prog 123 [.buf 0 l.length 14 none,natV i,.buf 1 1 14 (some 1)] [.cells (l.flatMap encPart),.cells (encPart x)] [0,1] (λr S'=>r=slS 14 (l.take i++x::l.drop i) encPart/\S'=[.gone,.gone]):=by
 have va7:=@encPart_gnd;have vba:=@part_ones;have vbb:=@tH;have vbc:=@cutPart;exact DN
def tI:si prog 164:=by
 intro w a b la ca lb cb tA tB kA kB h1 h2 h3 h4 h5 h6
 rw[run_callFunc_extern Tryz.func164 (by kernel_rfl) (by kernel_rfl) (by kernel_rfl) (e:=Extern.SlicesOverlaps.overlaps #[97,97] #[4]) (by kernel_rfl),
  Lib.run_overlaps_apart w 97 4 169 (by kernel_rfl) 2 (λw=>aT (by kernel_rfl)) a b la ca lb cb h1 tA tB kA kB h2 h3 h4 h5 h6]
 rfl
def qJ(x:PropM):SC prog 131 [.e0 2,natV 0,.buf 0 1 2 (some 1)] [.cells (encProp x)] [0] (λr S'=>r=slS 2 [x] encProp/\S'=[.gone]):=by
 refine Aq 95 Tryz.func131 ?_;have hkc:=λo:Nat=>aV (o:=o) (encProp_gnd x);have hon:(encProp x).all cH=true:=rfl;rw[encProp_eq] at hkc hon ⊢
 refine(gi)<|(gi)<|(ee)<|(oD)<|(aq (n2 hkc hon)) ?_;refine ak.fg (st':=⟨[(6,.buf 1 1 2 none)],95,[.gone,.cells (encProp x)],[]⟩) (bg @encProp_eq) ?_;refine ak.fg (Fg.freeze (f':=[(6,slS 2 [x] encProp)]) 1 rfl (λh=>by cases h) ⟨.inr (.buf rfl (by rw[flatMap_cons,flatMap_nil,append_nil];exact aM.refl (encProp_gnd x)) (by show 1*2<=2;decide)),trivial⟩) ?_;refine ak.fg (st':=⟨[(6,slS 2 [x] encProp)],95,[.gone],[]⟩) zH ?_;refine(zE) ?_;exact zP [.tmp 6]
open Go.Proofs renaming PropM -> vao,encProp -> vap in
open Go.Ev renaming vn -> vaq in
def cutProp(l:List PropM)(i:Nat)(x:PropM)(hi:i<l.length)(A:List SV):
 (((l.flatMap encProp++A).take ((i+1)*2)++((l.drop i).flatMap encProp++(l.flatMap encProp++A).drop ((i+1)*2+(l.length-i)*2))).take (i*2)++(encProp x++((l.flatMap encProp++A).take ((i+1)*2)++((l.drop i).flatMap encProp++(l.flatMap encProp++A).drop ((i+1)*2+(l.length-i)*2))).drop (i*2+2))).take ((l.length+1)*2)=(l.take i++x::l.drop i).flatMap encProp:=by
 exact DK
open Go.Proofs.Tryz renaming func131 -> va5 in
open Go.Proofs renaming encProp -> va6,FP -> va9 in
open Go.Ev renaming vn -> va8 in
def tn(l:List PropM)(i:Nat)(x:PropM)(hi:i<=l.length)(hne:0<l.length)(hlen:l.length<=100000):SC prog 131 [.buf 0 l.length 2 none,natV i,.buf 1 1 2 (some 1)] [.cells (l.flatMap encProp),.cells (encProp x)] [0,1] (λr S'=>r=slS 2 (l.take i++x::l.drop i) encProp/\S'=[.gone,.gone]):=by
 have va7:=@encProp_gnd;have vba:=@prop_ones;have vbb:=@tI;have vbc:=@cutProp;exact DN
def ordB_lt{a:List Nat}:∀{l:List (List Nat)},ordB (a::l)=true->∀x∈l,db a x=true
 | [],_,x,h=>by simp at h
 | b::r,ho,x,h=>by
  rw[ordB,ba] at ho
  rcases mem_cons.1 h with rfl | h
  ·exact ho.1
  ·exact dz ho.1 (ordB_lt ho.2 x h)
def ordB_tail{a:List Nat}{l:List (List Nat)}(h:ordB (a::l)=true):ordB l=true:=by
 cases l with
 | nil=>rfl
 | cons b r=>rw[ordB,ba] at h;exact h.2
def tw_parts{α:Type}(key:α->List Nat):∀{l:List α},ordB (l.map key)=true->∀k:List Nat,(l.takeWhile λx=>db (key x) k).length<=l.length/\∀(a:Nat) (x:α),l[a]?=some x->(db (key x) k=true↔a<(l.takeWhile λx=>db (key x) k).length)
 | [],_,k=>⟨ad _,λa x h=>by simp at h⟩
 | y::l,ho,k=>by
  have ih:=tw_parts key (ordB_tail ho) k;have hlt:=ordB_lt (a:=key y) (l:=l.map key) ho
  cases h:db (key y) k with
  | true=>
   rw[eB,t8 h,length_cons,length_cons];refine⟨Nat.succ_le_succ ih.1,λa x hx=>?_⟩
   cases a with
   | zero=>simp only[cv,Option.some.injEq] at hx;subst hx;exact⟨λ_=>f3 _,λ_=>h⟩
   | succ a=>simp only[cc] at hx;rw[ih.2 a x hx];exact⟨Nat.succ_lt_succ,Nat.lt_of_succ_lt_succ⟩
  | false=>
   rw[eB,ul (by rw[h];decide),length_nil];refine⟨b9 _,λa x hx=>⟨λhh=>?_,λhh=>t7 hh (dv _)⟩⟩;exfalso
   cases a with
   | zero=>simp only[cv,Option.some.injEq] at hx;subst hx;rw[h] at hh;cases hh
   | succ a=>
    simp only[cc] at hx;have:=dz (hlt _ (List.mem_map_of_mem (a7 hx))) hh;rw[h] at this;cases this
def posPart(l:List PartM)(k:List Nat):Nat:=(l.takeWhile λx=>db (PartM.name x) k).length
def putPart(l:List PartM)(x:PartM):List PartM:=if foundPart l (PartM.name x) (posPart l (PartM.name x))=true then l.set (posPart l (PartM.name x)) x else l.take (posPart l (PartM.name x))++x::l.drop (posPart l (PartM.name x))
def partsPart{l:List PartM}(ho:ordB (l.map PartM.name)=true)(k:List Nat):PartsPart l k (posPart l k):=
 ⟨(tw_parts PartM.name ho k).1,(tw_parts PartM.name ho k).2⟩
def nY(y:PartM)(k:List Nat){g:FuncId}{cap:List SV}(hcap:bm cap=true)(hk:PC prog g ([.ag (encPart y)]++cap) (·=ae (PartM.name y))):PC prog 121 [.ag (encPart y),ae k,.ip [.fn g [] cap]] (·=aa (cmpS (PartM.name y) k)):=by
 refine pB 11 Tryz.func121 ?_;have hkc:=λo:Nat=>aV (o:=o) (encPart_gnd y);have hxl:(encPart y).length=14:=rfl;have hxt:(encPart y).take 14=encPart y:=rfl
 exact(aq hkc)<|(e8 (n2 hxl hxt))<|(zK hk (hwk:=aM.refl (gx (by simp only[bm,gw,encPart_gnd];rfl) hcap)))<|(zQ)<|(zK (ko (PartM.name y) k))<|(zR)<|zo [.tmp 5]
def DO{p:Prop} (h:p:=by
  refine pB 32 vbd ?_;have hkc:=λo:Nat=>aV (o:=o) (vbe x);have hkl:=λo:Nat=>kill_cells (enc:=vbf) vbe o l;have hkp:=λo:Nat=>aV (o:=o) hcap;have hxl:(vbf x).length=vbg:=rfl;simp only[vbg] at hxl;have hxt:(vbf x).take vbg=vbf x:=rfl;simp only[vbg] at hxt;have hon:(vbf x).all cH=true:=rfl;have hnk:∀o:Nat,aH o (.fn g [] cap)=.fn g [] cap:=λo=>rC (by rw[gw,hcap];rfl);have hnc:∀o:Nat,dm o cap=false:=λo=>cu hcap;have hnx:∀o:Nat,dm o (vbf x)=false:=λo=>cu (vbe x)
  have hgf:bm [SV.fn g [] cap]=true:=by rw[bm,gw,hcap];rfl
  have hbl:∀B:Nat,dA B (l.flatMap vbf)=true:=λB=>aP (ar vbe l);have hrl:∀r:Nat->Nat,fV r (l.flatMap vbf)=l.flatMap vbf:=λr=>aK (ar vbe l);have hbc:∀B:Nat,dA B (vbf x)=true:=λB=>aP (vbe x);have hrc:∀r:Nat->Nat,fV r (vbf x)=vbf x:=λr=>aK (vbe x);have hbq:∀(B:Nat) (q:List vbh),dA B (q.flatMap vbf)=true:=λB q=>aP (ar vbe q);have hrq:∀(r:Nat->Nat) (q:List vbh),fV r (q.flatMap vbf)=q.flatMap vbf:=λr q=>aK (ar vbe q);have hpart:=vbi ho (vbj x);have hbs:=vbk l hlen (g:=vbl) (cap:=[.ip [.fn g [] cap]]) rfl (vbj x) _ (λy _=>vbm y (vbj x) hcap (hk y)) hpart;generalize hpos:vbn l (vbj x)=pos at hpart hbs
  have hput:vbo l x=if vbp l (vbj x) pos=true then l.set pos x else l.take pos++x::l.drop pos:=by rw[vbo,hpos]
  refine(aq (n4 hkc hnk hnc hnx))<|(e8 (n2 hxl hxt))<|(zK (hk x) (hwk:=aM.refl (gx (by simp only[bm,gw,vbe];rfl) hcap)))<|(zQ)<|(zK hbs (hwk:=.cons (.sl _ _ _) (.cons (.a _) (.cons (.fn .nil (.cons (.ptr rfl (aM.refl hgf) (Nat.zero_le _)) .nil)) .nil))))<|(zR)<|(zC) ?_
  by_cases hne:l=[]
  ·subst hne
   have hf0:vbp [] (vbj x) pos=false:=by unfold vbp;rw[List.getElem?_nil]
   have hp0:pos=0:=Nat.le_zero.1 hpart.le;rw[hf0] at hput ⊢;subst hp0
   refine zS [] (n4 hkc hnk hnc hnx) vbq ?_;refine(zR)<|(yT)<|(e8 (n6 hxl hxt hkc hnk hnc hnx)) ?_;refine zS [2] (n4 hkc hnk hnc hnx) (vbr x) ?_;exact(zR)<|zo [.tmp 6] (r:=slS vbg [x] vbf) (hw:=zv) (hq:=by rw[hput];rfl)
  have hs:0<l.length:=Nat.pos_of_ne_zero (λe=>hne (List.length_eq_zero_iff.1 e))
  refine zS [] (n7 hkc hnk hnc hnx hkl hbl hrl) (vbs l (by ((try simp only[vbg,vbl] at *)<;>omega)) hne) ?_;refine(zR)<|(zV) ?_
  cases hfd:vbp l (vbj x) pos
  ·rw[hfd,ul (by decide)] at hput
   refine(zN)<|(e8 (n7 hxl hxt hkc hnk hnc hnx hkl)) ?_;refine zS [3,4] (n2 (n9 hkc hnk hnc hnx hkl hbl hrl hrc hbc) (n2 hrq hbq)) (vbt l pos x hpart.le hs hlen) ?_;exact(zR)<|zo [.tmp 6] (r:=slS vbg (l.take pos++x::l.drop pos) vbf) (hw:=zv) (hq:=by rw[hput])
  ·rw[hfd,t8 rfl] at hput;refine(zY) ?_
   have hlt:pos<l.length:=by
    apply Decidable.byContradiction;intro hn;unfold vbp at hfd;rw[List.getElem?_eq_none (by ((try simp only[vbg,vbl] at *)<;>omega))] at hfd;cases hfd
   have hcl:(l.flatMap vbf).length=l.length*vbg:=flat_len' (enc:=vbf) (e:=vbg) (λ_=>rfl) l;simp only[vbg] at hcl;have hst:=flat_sets (enc:=vbf) (e:=vbg) (λ_=>rfl) x hlt
   refine(aq (n7 hlt hxl hxt hcl (show pos*vbg+vbg<=l.length*vbg by ((try simp only[vbg,vbl] at *)<;>omega)) hon hst))<|(zV) ?_
   have hsl:(l.set pos x).length=l.length:=List.length_set
   exact zo [.tmp 6] (r:=.sl l.length vbg ((l.set pos x).flatMap vbf)) (hw:=.buf rfl (by rw[<-hsl,flat_all (enc:=vbf) (e:=vbg) (λ_=>rfl)];exact aM.refl (ar vbe _)) (by rw[flat_len' (enc:=vbf) (e:=vbg) (λ_=>rfl),hsl];exact Nat.le_refl _)) (hq:=by rw[hput,slS,hsl])):p:=h
open Go.Proofs.Tryz renaming func81 -> vbd in
open Go.Proofs renaming encPart -> vbf,PartM -> vbh,posPart -> vbn,putPart -> vbo,foundPart -> vbp in
open Go.Ev renaming jD -> vbg,C7 -> vbl in
open Go.Proofs.PartM renaming name -> vbj in
def tJ(l:List PartM)(hlen:l.length<=100000)(x:PartM){g:FuncId}{cap:List SV}(hcap:bm cap=true)(hk:∀y,PC prog g ([.ag (encPart y)]++cap) (·=ae (PartM.name y)))(ho:ordB (l.map PartM.name)=true):
 PC prog 81 [slS 14 l encPart,.ag (encPart x),.fn g [] cap] (·=slS 14 (Proofs.putPart l x) encPart):=by
 have vbe:=@encPart_gnd;have vbi:=@partsPart;have vbk:=@vM;have vbm:=@nY;have vbq:=@nU;have vbr:=@qI;have vbs:=@jn;have vbt:=@tm;exact DO
def posProp(l:List PropM)(k:List Nat):Nat:=(l.takeWhile λx=>db (PropM.key x) k).length
def putProp(l:List PropM)(x:PropM):List PropM:=if foundProp l (PropM.key x) (posProp l (PropM.key x))=true then l.set (posProp l (PropM.key x)) x else l.take (posProp l (PropM.key x))++x::l.drop (posProp l (PropM.key x))
def partsProp{l:List PropM}(ho:ordB (l.map PropM.key)=true)(k:List Nat):PartsProp l k (posProp l k):=
 ⟨(tw_parts PropM.key ho k).1,(tw_parts PropM.key ho k).2⟩
def nZ(y:PropM)(k:List Nat){g:FuncId}{cap:List SV}(hcap:bm cap=true)(hk:PC prog g ([.ag (encProp y)]++cap) (·=ae (PropM.key y))):PC prog 129 [.ag (encProp y),ae k,.ip [.fn g [] cap]] (·=aa (cmpS (PropM.key y) k)):=by
 refine pB 11 Tryz.func129 ?_;have hkc:=λo:Nat=>aV (o:=o) (encProp_gnd y);have hxl:(encProp y).length=2:=rfl;have hxt:(encProp y).take 2=encProp y:=rfl
 exact(aq hkc)<|(e8 (n2 hxl hxt))<|(zK hk (hwk:=aM.refl (gx (by simp only[bm,gw,encProp_gnd];rfl) hcap)))<|(zQ)<|(zK (ko (PropM.key y) k))<|(zR)<|zo [.tmp 5]
open Go.Proofs.Tryz renaming func90 -> vbd in
open Go.Proofs renaming encProp -> vbf,PropM -> vbh,posProp -> vbn,putProp -> vbo,foundProp -> vbp in
open Go.Ev renaming vn -> vbg,C8 -> vbl in
open Go.Proofs.PropM renaming key -> vbj in
def tK(l:List PropM)(hlen:l.length<=100000)(x:PropM){g:FuncId}{cap:List SV}(hcap:bm cap=true)(hk:∀y,PC prog g ([.ag (encProp y)]++cap) (·=ae (PropM.key y)))(ho:ordB (l.map PropM.key)=true):
 PC prog 90 [slS 2 l encProp,.ag (encProp x),.fn g [] cap] (·=slS 2 (Proofs.putProp l x) encProp):=by
 have vbe:=@encProp_gnd;have vbi:=@partsProp;have vbk:=@vN;have vbm:=@nZ;have vbq:=@nV;have vbr:=@qJ;have vbs:=@nW;have vbt:=@tn;exact DO
end Go.Proofs
